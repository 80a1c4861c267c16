import PyProof.Rows.All
import Wide.All
import OpenK.AllK
import Wide.FinOn
import KE.OsRunLaw
import PySem.Challenge.RW_pointrows_k23_any_value_as_point_or_tabl
import HandS.ForMost
import HandS.WordsExc
import HandS.Walk
import HandS.Wide
import HandS.WideBits
import HandS.TupAny
import HandS.Deep
import HandS.Flow
import HandS.Style
import HandS.Steps
import HandS.Iter
import KE.GoesNew
import HandS.Defaults
import HandS.MakeKwOnly
import HandS.IsInst
import HandS.SortInts
import HandS.Gcd
import HandS.Conv
import HandS.Dict
import PyProof.ReprRoads
import PyProof.CallFns
import HandS.Ends
import HandS.EndBits
import KE.GoesMore
import KE.GoesEnum
import HandS.Property
import HandS.Strs
import PyProof.P3In
import HandS.Codes
import PyProof.MaxThree
import HandS.TryOnly
import HandS.OwnEq
import PyProof.InstNe
import HandS.TupSets
import PyProof.TupleOfSeq
import HandS.More
import HandS.TupMul
import PyProof.StrOps2
import HandS.ExcOwn
import PyProof.ExcBaseAll.RuntimeError
import PyProof.ExcBaseAll.ValueError
import HandS.Flt
import HandS.TupLen
import PyProof.DictTruth
import KE.KDictOf
import KE.KDictCopyH
import KE.KDictWalk
import HandS.DictComp
import PyProof.DictCompW
import HandS.SortKw
import KE.KDictSum
import PyProof.Rows.CallKwBuiltin
import KE.KDictDisplayH
import PyProof.DictDisplay
import KE.KOpsOwn
import KE.KDictPairs
import HandS.FStr
import OpenK.KOps
import PyProof.SumWalkG
import PyProof.WalkInts
import HandS.DeepEq
import PyProof.DictFindH
import KE.LtSeq
import KE.LtData
import KE.KSortAsk
import HandS.NamedTupSort
import HandS.ExcInit
import HandS.ExcField
import HandS.SetFor
import PyProof.Rows.SetFrom
import PyProof.NeKinds
import KE.DataMinMax
import PyProof.ReprReads
import PyProof.P3Eq
import PyProof.FitsInt
import PyProof.Rows.ReprOcc
import PyProof.ReprLen
set_option Elab.async false
set_option maxRecDepth 100000
set_option maxHeartbeats 0
namespace LH
open PySem PySem.W PySem.Calls PyProof.Rows
def vw : Program := view PySem.Challenge.pw_pointrows_k23_any_value_as_point_or_tabl [0, 47]
def lo0 : List PySem.Str := [⟨#[95, 119, 97, 108, 108]⟩, ⟨#[83, 112, 111, 116, 69, 114, 114, 111, 114]⟩, ⟨#[73, 110, 118, 97, 108, 105, 100, 80, 111, 105, 110, 116]⟩, ⟨#[73, 110, 118, 97, 108, 105, 100, 80, 111, 105, 110, 116, 115]⟩, ⟨#[105, 115, 95, 105, 110, 116, 101, 103, 101, 114]⟩, ⟨#[105, 115, 95, 108, 105, 115, 116]⟩, ⟨#[100, 105, 118, 105, 115, 111, 114, 95, 111, 102]⟩, ⟨#[112, 108, 97, 105, 110]⟩, ⟨#[108, 101, 97, 100, 95, 112, 108, 97, 99, 101]⟩, ⟨#[115, 105, 103, 110, 101, 100]⟩, ⟨#[108, 101, 115, 115]⟩, ⟨#[99, 108, 101, 97, 114, 101, 100]⟩, ⟨#[101, 99, 104, 101, 108, 111, 110]⟩, ⟨#[114, 97, 110, 107, 95, 111, 102]⟩, ⟨#[97, 114, 101, 95, 112, 111, 105, 110, 116]⟩, ⟨#[116, 111, 108, 100, 95, 111, 102]⟩, ⟨#[119, 97, 110, 116, 95, 112, 111, 105, 110, 116]⟩, ⟨#[77, 79, 83, 84, 95, 80, 79, 73, 78, 84, 83]⟩, ⟨#[105, 115, 95, 112, 111, 105, 110, 116]⟩, ⟨#[84, 111, 108, 100]⟩, ⟨#[116, 111, 108, 100, 95, 112, 111, 105, 110, 116, 115]⟩, ⟨#[83, 112, 111, 116, 115]⟩, ⟨#[97, 114, 101, 95, 116, 97, 98, 108, 101]⟩, ⟨#[105, 115, 95, 116, 97, 98, 108, 101]⟩, ⟨#[95, 108, 97, 119, 95, 112, 111, 116]⟩, ⟨#[95, 108, 97, 119, 95, 100, 114, 97, 119]⟩, ⟨#[95, 108, 97, 119, 95, 112, 105, 99, 107]⟩, ⟨#[95, 108, 97, 119, 95, 115, 117, 109]⟩, ⟨#[95, 108, 97, 119, 95, 99, 114, 111, 115, 115]⟩, ⟨#[95, 108, 97, 119, 95, 119, 104, 111, 108, 101]⟩, ⟨#[95, 108, 97, 119, 95, 112, 111, 105, 110, 116]⟩, ⟨#[95, 108, 97, 119, 95, 103, 105, 118, 101, 110]⟩, ⟨#[95, 108, 97, 119, 95, 116, 97, 98, 108, 101]⟩, ⟨#[95, 108, 97, 119, 95, 105, 115, 95, 112, 111, 105, 110, 116]⟩, ⟨#[95, 108, 97, 119, 95, 105, 115, 95, 116, 97, 98, 108, 101]⟩, ⟨#[95, 108, 97, 119, 95, 98, 101, 110, 116]⟩, ⟨#[95, 108, 97, 119, 95, 114, 111, 119, 115, 95, 98, 101, 110, 116]⟩, ⟨#[95, 108, 97, 119, 95, 114, 105, 103, 104, 116]⟩]
def lo : List PySem.Str := lo0

end LH
section
open PySem PySem.W
local macro_rules
  | `(tactic| refine $f:ident (q := $_) (loose := $_) (Xt := $_) (XP := $_) $rest*) => if f.getId.eraseMacroScopes == `PySem.W.holds_open then `(tactic| refine ($f (q := LH.vw) (loose := LH.lo) (Xt := fun s => xlAt LH.vw [] s && recOk (RowW.records (OpenRow.toRowW (OpenLaw.row PySem.Challenge.rw_pointrows_k23_any_value_as_point_or_tabl))) s) (XP := XL LH.vw []) $rest*)) else Lean.Macro.throwUnsupported
local macro_rules
  | `(tactic| k_head) => `(tactic| k_headL)
open_top LH.hd for PySem.Challenge.rw_pointrows_k23_any_value_as_point_or_tabl
end

set_option Elab.async false
set_option linter.all false
set_option maxRecDepth 100000
namespace DL
open PySem PySem.Spec PyProof.Rows L2
abbrev DKey := Sum Key (List Key)
inductive D where
  | non | bl (b : Bool) | int (i : Int) | str (x : Str)
  | lst (xs : List D) | tup (xs : List D)
  | dic (ks : List DKey) (xs : List D)
  | ins (c : Str) (ns : List Str) (xs : List D)
abbrev Pot := Int × Int
inductive Res (α : Type) where
  | ok (a : α)
  | err (c : Str) (ns : List Str) (xs : List D) (π : Pot)
  | stuck
def Res.bind {α β : Type} (x : Res α) (f : α → Res β) : Res β := match x with
  | .ok a => f a
  | .err c ns xs π => .err c ns xs π
  | .stuck => .stuck
@[simp] theorem Res.bind_ok {α β : Type} (a : α) (f : α → Res β) : (Res.ok a).bind f = f a := rfl
@[simp] theorem Res.bind_stuck {α β : Type} (f : α → Res β) : (Res.stuck : Res α).bind f = .stuck := rfl
@[simp] theorem Res.bind_err {α β : Type} (c : Str) (ns : List Str) (xs : List D) (π : Pot) (f : α → Res β) : (Res.err c ns xs π : Res α).bind f = .err c ns xs π := rfl
/-- a tuple that is tracked -/
abbrev TpK (_ : PySem.W.Frag) (H : Hp) (a : Addr) (vs : List V) : Prop := H a = some (.tup vs)
section
variable (mg : Str → Option Value) (K : PySem.W.Frag) (H : Hp)
mutual
/-- the value stands for the datum, all of it to be read in the heap -/
inductive Rp : V → D → Prop
  | non : Rp .non .non
  | bl (b : Bool) : Rp (.bl b) (.bl b)
  | int (i : Int) : Rp (.int i) (.int i)
  | str (x : Str) : Rp (.str x) (.str x)
  | lst {a : Addr} {vs : List V} {ds : List D} : H a = some (.lst vs) → RpL vs ds → Rp (.ref a) (.lst ds)
  | tup {a : Addr} {vs : List V} {ds : List D} : TpK K H a vs → RpL vs ds → Rp (.ref a) (.tup ds)
  | dicK {a : Addr} {q : Key × V} {kvs : List (Key × V)} {ds : List D} : Rd H a (.dK (q :: kvs)) → RpL ((q :: kvs).map (·.2)) ds → Rp (.ref a) (.dic ((q :: kvs).map fun p => .inl p.1) ds)
  | dicT {a : Addr} {kvs : List (List Key × V)} {ds : List D} : Rd H a (.dT kvs) → RpL (kvs.map (·.2)) ds → Rp (.ref a) (.dic (kvs.map fun p => .inr p.1) ds)
  | ins {a C dx : Addr} {fs : List (Str × V)} {c : Str} {ds : List D} : mg c = some (.ref C) → H a = some (.ins C dx fs) → RpL (fs.map (·.2)) ds → Rp (.ref a) (.ins c (fs.map (·.1)) ds)
inductive RpL : List V → List D → Prop
  | nil : RpL [] []
  | cons {v : V} {vs : List V} {d : D} {ds : List D} : Rp v d → RpL vs ds → RpL (v :: vs) (d :: ds)
end
end
section
variable (mg : Str → Option Value) (K : PySem.W.Frag) (H : Hp)
/-- what an own thing holds -/
inductive HoR : HO → D → Prop
  | lst {vs : List V} {ds : List D} : RpL mg K H vs ds → HoR (.lst vs) (.lst ds)
  | dicK {q : Key × V} {kvs : List (Key × V)} {ds : List D} : RpL mg K H ((q :: kvs).map (·.2)) ds → HoR (.dK (q :: kvs)) (.dic ((q :: kvs).map fun p => .inl p.1) ds)
  | dicT {kvs : List (List Key × V)} {ds : List D} : RpL mg K H (kvs.map (·.2)) ds → HoR (.dT kvs) (.dic (kvs.map fun p => .inr p.1) ds)
  | ins {C dx : Addr} {fs : List (Str × V)} {c : Str} {ds : List D} : mg c = some (.ref C) → RpL mg K H (fs.map (·.2)) ds → HoR (.ins C dx fs) (.ins c (fs.map (·.1)) ds)
end
/-- the heap without the cells that may change -/
def less (H : Hp) (M : List Addr) : Hp := fun a => if a ∈ M then none else H a
theorem less_some {H : Hp} {M : List Addr} {a : Addr} {o : HO} : less H M a = some o ↔ a ∉ M ∧ H a = some o := by
  unfold less
  by_cases h : a ∈ M
  · rw [if_pos h]
    exact ⟨fun e => (by cases e), fun e => absurd h e.1⟩
  · rw [if_neg h]
    exact ⟨fun e => ⟨h, e⟩, fun e => e.2⟩
section
variable {mg : Str → Option Value} {K : PySem.W.Frag} {H H' : Hp}
theorem sqL_mono {a : Addr} {xs : List V} (e : Same H H') (h : SqL K H a xs) : SqL K H' a xs := e.seq h
theorem rd_mono {a : Addr} {u : HO} (e : Same H H') (h : Rd H a u) : Rd H' a u := by
  rcases h with h | ⟨o, h⟩
  · exact .inl (e _ _ h)
  · exact .inr ⟨o, e _ _ h⟩
theorem sqT_mono {a : Addr} {xs : List V} (e : Same H H') (h : SqT K H a xs) : SqT K H' a xs := by
  rcases h with h | h
  · exact .inl (rd_mono e h)
  · exact .inr h
mutual
theorem Rp.mono (e : Same H H') : ∀ {v : V} {d : D}, Rp mg K H v d → Rp mg K H' v d
  | _, _, .non => .non
  | _, _, .bl b => .bl b
  | _, _, .int i => .int i
  | _, _, .str x => .str x
  | _, _, .lst h r => .lst (e _ _ h) (RpL.mono e r)
  | _, _, .tup h r => .tup (e _ _ h) (RpL.mono e r)
  | _, _, .dicK h r => .dicK (rd_mono e h) (RpL.mono e r)
  | _, _, .dicT h r => .dicT (rd_mono e h) (RpL.mono e r)
  | _, _, .ins m h r => .ins m (e _ _ h) (RpL.mono e r)
theorem RpL.mono (e : Same H H') : ∀ {vs : List V} {ds : List D}, RpL mg K H vs ds → RpL mg K H' vs ds
  | _, _, .nil => .nil
  | _, _, .cons h r => .cons (Rp.mono e h) (RpL.mono e r)
end
theorem HoR.mono {o : HO} {d : D} (e : Same H H') (h : HoR mg K H o d) : HoR mg K H' o d := by
  cases h with
  | lst r => exact .lst (r.mono e)
  | dicK r => exact .dicK (r.mono e)
  | dicT r => exact .dicT (r.mono e)
  | ins m r => exact .ins m (r.mono e)
theorem HoR.rp {a : Addr} {o : HO} {d : D} (e : H a = some o) (h : HoR mg K H o d) : Rp mg K H (.ref a) d := by
  cases h with
  | lst r => exact .lst e r
  | dicK r => exact .dicK (.inl e) r
  | dicT r => exact .dicT (.inl e) r
  | ins m r => exact .ins m e r
theorem RpL.length : ∀ {vs : List V} {ds : List D}, RpL mg K H vs ds → vs.length = ds.length
  | _, _, .nil => rfl
  | _, _, .cons _ r => congrArg Nat.succ r.length
theorem RpL.append : ∀ {vs ws : List V} {ds es : List D}, RpL mg K H vs ds → RpL mg K H ws es → RpL mg K H (vs ++ ws) (ds ++ es)
  | _, _, _, _, .nil, s => s
  | _, _, _, _, .cons h r, s => .cons h (r.append s)
theorem RpL.get : ∀ {vs : List V} {ds : List D} {i : Nat} {d : D}, RpL mg K H vs ds → ds[i]? = some d → ∃ v, vs[i]? = some v ∧ Rp mg K H v d
  | _, _, _, _, .nil, e => by simp at e
  | _, _, 0, _, .cons h r, e => by
    simp at e
    subst e
    exact ⟨_, rfl, h⟩
  | _, _, i + 1, _, .cons h r, e => by
    obtain ⟨v, q, p⟩ := r.get (i := i) (by simpa using e)
    exact ⟨v, by simpa using q, p⟩
theorem RpL.getV : ∀ {vs : List V} {ds : List D} {i : Nat} {v : V}, RpL mg K H vs ds → vs[i]? = some v → ∃ d, ds[i]? = some d ∧ Rp mg K H v d
  | _, _, _, _, .nil, e => by simp at e
  | _, _, 0, _, .cons h r, e => by
    simp at e
    subst e
    exact ⟨_, rfl, h⟩
  | _, _, i + 1, _, .cons h r, e => by
    obtain ⟨v, q, p⟩ := r.getV (i := i) (by simpa using e)
    exact ⟨v, by simpa using q, p⟩
theorem RpL.take : ∀ {vs : List V} {ds : List D} (n : Nat), RpL mg K H vs ds → RpL mg K H (vs.take n) (ds.take n)
  | _, _, 0, _ => .nil
  | _, _, _ + 1, .nil => .nil
  | _, _, n + 1, .cons h r => .cons h (r.take n)
theorem RpL.drop : ∀ {vs : List V} {ds : List D} (n : Nat), RpL mg K H vs ds → RpL mg K H (vs.drop n) (ds.drop n)
  | _, _, 0, r => r
  | _, _, _ + 1, .nil => .nil
  | _, _, n + 1, .cons _ r => r.drop n
theorem RpL.set : ∀ {vs : List V} {ds : List D} (i : Nat) {v : V} {d : D}, Rp mg K H v d → RpL mg K H vs ds → RpL mg K H (vs.set i v) (ds.set i d)
  | _, _, _, _, _, _, .nil => .nil
  | _, _, 0, _, _, h, .cons _ r => .cons h r
  | _, _, i + 1, _, _, h, .cons q r => .cons q (r.set i h)
theorem RpL.reverse : ∀ {vs : List V} {ds : List D}, RpL mg K H vs ds → RpL mg K H vs.reverse ds.reverse
  | _, _, .nil => .nil
  | _, _, .cons h r => by
    rw [List.reverse_cons, List.reverse_cons]
    exact r.reverse.append (.cons h .nil)
theorem RpL.replicate {v : V} {d : D} (h : Rp mg K H v d) : ∀ n, RpL mg K H (List.replicate n v) (List.replicate n d)
  | 0 => .nil
  | n + 1 => .cons h (RpL.replicate h n)
theorem RpL.flat {vs : List V} {ds : List D} (h : RpL mg K H vs ds) : ∀ n, RpL mg K H (List.replicate n vs).flatten (List.replicate n ds).flatten
  | 0 => .nil
  | n + 1 => by
    rw [List.replicate_succ, List.replicate_succ, List.flatten_cons, List.flatten_cons]
    exact h.append (RpL.flat h n)
/-- ints -/
abbrev iz (ns : List Int) : List D := ns.map D.int
theorem RpL.iz : ∀ {ns : List Int} {vs : List V}, RpL mg K H vs (DL.iz ns) → vs = ns.map V.int
  | [], _, .nil => rfl
  | n :: ns, _, .cons h r => by
    cases h
    rw [RpL.iz r]
    rfl
mutual
def toPy : D → Option PyData
  | .non => some .none
  | .bl b => some (.bool b)
  | .int i => some (.int i)
  | .str x => some (.str x)
  | .lst xs => (toPyL xs).map .list
  | .tup xs => (toPyL xs).map .tuple
  | .dic _ _ => none
  | .ins _ _ _ => none
def toPyL : List D → Option (List PyData)
  | [] => some []
  | x :: xs => match toPy x, toPyL xs with
    | some p, some ps => some (p :: ps)
    | _, _ => none
end
mutual
theorem Rp.dp : ∀ {v : V} {d : D} {p : PyData}, Rp mg K H v d → toPy d = some p → Dp K H v p
  | _, _, _, .non, e => by
    cases e
    exact .non
  | _, _, _, .bl b, e => by
    cases e
    exact .bl b
  | _, _, _, .int i, e => by
    cases e
    exact .int i
  | _, _, _, .str x, e => by
    cases e
    exact .str x
  | _, .lst ds, p, .lst h r, e => by
    simp only [toPy, Option.map_eq_some_iff] at e
    obtain ⟨ps, e1, rfl⟩ := e
    exact .lst (.inl (.inl h)) (RpL.dp r e1)
  | _, .tup ds, p, .tup h r, e => by
    simp only [toPy, Option.map_eq_some_iff] at e
    obtain ⟨ps, e1, rfl⟩ := e
    exact .tup (.inl (.inl h)) (RpL.dp r e1)
  | _, _, _, .dicK _ _, e => by simp [toPy] at e
  | _, _, _, .dicT _ _, e => by simp [toPy] at e
  | _, _, _, .ins _ _ _, e => by simp [toPy] at e
theorem RpL.dp : ∀ {vs : List V} {ds : List D} {ps : List PyData}, RpL mg K H vs ds → toPyL ds = some ps → DpAll K H vs ps
  | _, _, _, .nil, e => by
    simp only [toPyL, Option.some.injEq] at e
    subst e
    exact .nil
  | _, d :: ds, ps, .cons h r, e => by
    simp only [toPyL] at e
    split at e
    · rename_i p qs e1 e2
      cases e
      exact .cons (Rp.dp h e1) (RpL.dp r e2)
    · cases e
end
end
end DL
set_option maxHeartbeats 2000000
namespace DL
open PySem PySem.Spec PyProof.Rows L2
/-- how a slot is held: not at all, as data, as a list of the def's own that changes, as the pot -/
inductive Md where | u | f | o | p | s | x (a dd : Addr)
  deriving DecidableEq
/-- how a value comes: as data, to be looked at only, as a new list -/
inductive Rm where | f | b | o | t
  deriving DecidableEq
/-- how an argument goes -/
inductive Ak where | f | b | p | s
  deriving DecidableEq
abbrev Rho := List (Option D)
abbrev Ed := Rho → Pot → Res (D × Pot)
abbrev Et := Rho → Pot → Res (Bool × Pot)
abbrev Ea := Rho → Pot → Res (List D × Pot)
abbrev Fd := List D → Pot → Res (D × Pot)
def Grow (pot : Option Addr) (H H' : Hp) : Prop := ∀ a o, pot ≠ some a → H a = some o → H' a = some o
/-- there is something, and it's no tuple -/
def Al (H : Hp) (a : Addr) : Prop := ∃ o, H a = some o ∧ ∀ xs, o ≠ .tup xs
theorem Al.nn {H : Hp} {a : Addr} (h : Al H a) : H a ≠ none := fun e => by
  obtain ⟨o, h, _⟩ := h
  rw [e] at h
  cases h
theorem Al.of {H : Hp} {a : Addr} {o : HO} (h : H a = some o) (n : ∀ xs, o ≠ .tup xs) : Al H a := ⟨o, h, n⟩
theorem HoR.nt {mg : Str → Option Value} {K : PySem.W.Frag} {H : Hp} {o : HO} {d : D} (h : HoR mg K H o d) : ∀ xs, o ≠ .tup xs := fun xs e => by
  subst e
  cases h
def PotAt (pot : Option Addr) (H : Hp) (π : Pot) : Prop := ∀ p, pot = some p → H p = some (.lst [.int π.1, .int π.2])
section
variable (mg : Str → Option Value) (K : PySem.W.Frag)
def Own (pot : Option Addr) (M : List Addr) (H : Hp) (p : Addr) (d : D) : Prop :=
  pot ≠ some p ∧ ∃ o, H p = some o ∧ HoR mg K (less H (p :: M)) o d
def Rb (pot : Option Addr) (M : List Addr) (H : Hp) (v : V) (d : D) : Prop :=
  Rp mg K (less H M) v d ∨ ∃ p, v = .ref p ∧ Own mg K pot M H p d
/-- a new tuple of new things -/
def OwnT (pot : Option Addr) (M : List Addr) (H H' : Hp) (v : V) (d : D) : Prop :=
  ∃ q ps ds, v = .ref q ∧ d = .tup ds ∧ H' q = some (.tup (ps.map V.ref)) ∧ H q = none ∧ q ∉ M ∧ q ∉ ps ∧ ds.length = ps.length ∧ pot ≠ some q ∧
    ∀ (i : Nat) (p : Addr) (e : D), ps[i]? = some p → ds[i]? = some e → pot ≠ some p ∧ H p = none ∧ p ∉ M ∧ ∃ o, H' p = some o ∧ HoR mg K (less H' (ps ++ M)) o e
def RpR (r : Rm) (pot : Option Addr) (M : List Addr) (H H' : Hp) (v : V) (d : D) : Prop := match r with
  | .f => Rp mg K (less H' M) v d
  | .b => Rb mg K pot M H' v d
  | .o => ∃ p, v = .ref p ∧ H p = none ∧ Own mg K pot M H' p d
  | .t => OwnT mg K pot M H H' v d
def ArgR (pot : Option Addr) (M : List Addr) (H : Hp) (k : Ak) (v : V) (d : D) : Prop := match k with
  | .f => Rp mg K (less H M) v d
  | .b => Rb mg K pot M H v d
  | .p => ∃ p, pot = some p ∧ v = .ref p
  | .s => ∃ p ns, v = .ref p ∧ d = .lst (DL.iz ns) ∧ SqL K (less H M) p (ns.map V.int)
inductive Args (pot : Option Addr) (M : List Addr) (H : Hp) : List Ak → List V → List D → Prop
  | nil : Args pot M H [] [] []
  | cons {k : Ak} {v : V} {d : D} {ks : List Ak} {vs : List V} {ds : List D} : ArgR mg K pot M H k v d → Args pot M H ks vs ds → Args pot M H (k :: ks) (v :: vs) (d :: ds)
def ErrAt (M : List Addr) (H : Hp) (cv : Value) (dd : Option Addr) (c : Str) (ns : List Str) (xs : List D) : Prop :=
  ∃ C, mg c = some (.ref C) ∧ cv = .ref C ∧ ((dd = none ∧ ns = [] ∧ xs = []) ∨ ∃ a fs, dd = some a ∧ H a = some (.xd fs) ∧ a ∉ M ∧ ns = fs.map (·.1) ∧ RpL mg K (less H M) (fs.map (·.2)) xs)
def PErr (pot : Option Addr) (M : List Addr) (H : Hp) (c : Str) (ns : List Str) (xs : List D) (π : Pot) (E : XK) : Prop :=
  ∀ cv dd H', Grow pot H H' → PotAt pot H' π → ErrAt mg K M H' cv dd c ns xs → E cv dd H'
def Post (r : Rm) (pot : Option Addr) (M : List Addr) (H : Hp) (x : Res (D × Pot)) (Q : VK) (E : XK) : Prop := match x with
  | .ok (d, π) => ∀ v H', Grow pot H H' → PotAt pot H' π → RpR mg K r pot M H H' v d → Q v H'
  | .err c ns xs π => PErr mg K pot M H c ns xs π E
  | .stuck => False
def PostT (pot : Option Addr) (M : List Addr) (H : Hp) (x : Res (Bool × Pot)) (Q : Bool → Hp → Prop) (E : XK) : Prop := match x with
  | .ok (b, π) => ∀ H', Grow pot H H' → PotAt pot H' π → Q b H'
  | .err c ns xs π => PErr mg K pot M H c ns xs π E
  | .stuck => False
def PostA (ks : List Ak) (pot : Option Addr) (M : List Addr) (H : Hp) (x : Res (List D × Pot)) (Q : List V → Hp → Prop) (E : XK) : Prop := match x with
  | .ok (ds, π) => ∀ vs H', Grow pot H H' → PotAt pot H' π → Args mg K pot M H' ks vs ds → Q vs H'
  | .err c ns xs π => PErr mg K pot M H c ns xs π E
  | .stuck => False
/-- the fields of an error at dd -/
def XdR (H : Hp) (dd : Addr) (d : D) : Prop := ∃ fs xs c, H dd = some (.xd fs) ∧ d = .ins c (fs.map (·.1)) xs ∧ RpL mg K H (fs.map (·.2)) xs
structure EnvOk (Γ : List Md) (pot : Option Addr) (M : List Addr) (σ : L2.St) (H : Hp) (ρ : Rho) : Prop where
  ls : σ.length = Γ.length
  lr : ρ.length = Γ.length
  f : ∀ (i : Nat) (d : D), Γ[i]? = some .f → ρ[i]? = some (some d) → ∃ v, σ[i]? = some (some v) ∧ Rp mg K (less H M) v d
  o : ∀ (i : Nat) (d : D), Γ[i]? = some .o → ρ[i]? = some (some d) → ∃ p, σ[i]? = some (some (.ref p)) ∧ p ∈ M ∧ Own mg K pot M H p d
  p : ∀ (i : Nat), Γ[i]? = some .p → ∃ p, pot = some p ∧ σ[i]? = some (some (.ref p))
  s : ∀ (i : Nat) (d : D), Γ[i]? = some .s → ρ[i]? = some (some d) → ∃ p ns, σ[i]? = some (some (.ref p)) ∧ d = .lst (DL.iz ns) ∧ SqL K (less H M) p (ns.map V.int)
  ap : ∀ (i j : Nat) (a : Addr) (d e : D), Γ[i]? = some .o → Γ[j]? = some .o → ρ[i]? = some (some d) → ρ[j]? = some (some e) → σ[i]? = some (some (.ref a)) → σ[j]? = some (some (.ref a)) → i = j
  al : ∀ a ∈ M, Al H a
  pm : ∀ a, pot = some a → a ∈ M
  x : ∀ (i : Nat) (a dd : Addr) (d : D), Γ[i]? = some (.x a dd) → ρ[i]? = some (some d) → σ[i]? = some (some (.ref a)) ∧ XdR mg K (less H M) dd d
def SemE (E : XK) (r : Rm) (Γ : List Md) (te : TE) (fe : Ed) : Prop :=
  ∀ pot M σ H ρ π, EnvOk mg K Γ pot M σ H ρ → PotAt pot H π → ∀ Q, Post mg K r pot M H (fe ρ π) Q E → te σ H Q
def SemT (E : XK) (Γ : List Md) (tt : TT) (ft : Et) : Prop :=
  ∀ pot M σ H ρ π, EnvOk mg K Γ pot M σ H ρ → PotAt pot H π → ∀ Q, PostT mg K pot M H (ft ρ π) Q E → tt σ H Q
def SemA (E : XK) (ks : List Ak) (Γ : List Md) (ta : TA) (fa : Ea) : Prop :=
  ∀ pot M σ H ρ π, EnvOk mg K Γ pot M σ H ρ → PotAt pot H π → ∀ Q, PostA mg K ks pot M H (fa ρ π) Q E → ta σ H Q
end
section
variable {mg : Str → Option Value} {K : PySem.W.Frag} {pot : Option Addr} {M : List Addr} {H H' H1 H2 : Hp} {π : Pot} {Γ : List Md} {σ : L2.St} {ρ : Rho} {v : V} {d : D}
theorem Grow.refl : Grow pot H H := fun _ _ _ h => h
theorem Grow.trans (a : Grow pot H H1) (b : Grow pot H1 H2) : Grow pot H H2 := fun x o n h => b x o n (a x o n h)
theorem Grow.of_same (e : Same H H') : Grow pot H H' := fun a o _ h => e a o h
theorem same_upd {p : Addr} {o : HO} (h : H p = none) : Same H (upd H p o) := fun b x e => by
  rw [upd_ne (ne_of_none e h)]
  exact e
theorem Grow.new {p : Addr} {o : HO} (h : H p = none) : Grow pot H (upd H p o) := .of_same (same_upd h)
/-- nothing that was there is hurt: data stays -/
theorem less_grow (hp : ∀ a, pot = some a → a ∈ M) (g : Grow pot H H') : Same (less H M) (less H' M) := fun a o h => by
  obtain ⟨h1, h2⟩ := less_some.mp h
  exact less_some.mpr ⟨h1, g a o (fun e => h1 (hp a e)) h2⟩
theorem less_sub {N : List Addr} (h : ∀ a ∈ N, a ∈ M) : Same (less H M) (less H N) := fun a o e => by
  obtain ⟨h1, h2⟩ := less_some.mp e
  exact less_some.mpr ⟨fun q => h1 (h a q), h2⟩
theorem PotAt.same (p : PotAt pot H π) (e : Same H H') : PotAt pot H' π := fun a h => e _ _ (p a h)
theorem PotAt.new {q : Addr} {o : HO} (p : PotAt pot H π) (h : H q = none) : PotAt pot (upd H q o) π := p.same (same_upd h)
theorem Own.grow {p : Addr} (hp : ∀ a, pot = some a → a ∈ M) (g : Grow pot H H') (h : Own mg K pot M H p d) : Own mg K pot M H' p d := by
  obtain ⟨n, o, h1, h2⟩ := h
  exact ⟨n, o, g _ _ n h1, h2.mono (less_grow (fun a q => List.mem_cons_of_mem _ (hp a q)) g)⟩
theorem Rb.grow (hp : ∀ a, pot = some a → a ∈ M) (g : Grow pot H H') (h : Rb mg K pot M H v d) : Rb mg K pot M H' v d := by
  rcases h with h | ⟨p, e, h⟩
  · exact .inl (h.mono (less_grow hp g))
  · exact .inr ⟨p, e, h.grow hp g⟩
theorem ArgR.grow {k : Ak} (hp : ∀ a, pot = some a → a ∈ M) (g : Grow pot H H') (h : ArgR mg K pot M H k v d) : ArgR mg K pot M H' k v d := by
  cases k with
  | f => exact h.mono (less_grow hp g)
  | b => exact Rb.grow hp g h
  | p => exact h
  | s =>
    obtain ⟨q, ns, e1, e2, e3⟩ := h
    exact ⟨q, ns, e1, e2, sqL_mono (less_grow hp g) e3⟩
theorem Args.grow {ks : List Ak} {vs : List V} {ds : List D} (hp : ∀ a, pot = some a → a ∈ M) (g : Grow pot H H') (h : Args mg K pot M H ks vs ds) : Args mg K pot M H' ks vs ds := by
  induction h with
  | nil => exact .nil
  | cons a _ ih => exact .cons (a.grow hp g) ih
theorem Args.length {ks : List Ak} {vs : List V} {ds : List D} (h : Args mg K pot M H ks vs ds) : vs.length = ks.length := by
  induction h with
  | nil => rfl
  | cons _ _ ih => exact congrArg Nat.succ ih
theorem alive (al : ∀ a ∈ M, Al H a) (p : PotAt pot H' π) (g : Grow pot H H') : ∀ a ∈ M, Al H' a := fun a ha => by
  obtain ⟨o, h, n⟩ := al a ha
  by_cases q : pot = some a
  · exact .of (p a q) fun xs e => by cases e
  · exact .of (g a o q h) n
theorem XdR.mono {H H' : Hp} (e : Same H H') {dd : Addr} (h : XdR mg K H dd d) : XdR mg K H' dd d := by
  obtain ⟨fs, xs, c, h1, h2, h3⟩ := h
  exact ⟨fs, xs, c, e _ _ h1, h2, h3.mono e⟩
theorem EnvOk.grow (I : EnvOk mg K Γ pot M σ H ρ) (g : Grow pot H H') (p : PotAt pot H' π) : EnvOk mg K Γ pot M σ H' ρ where
  ls := I.ls
  lr := I.lr
  f := fun i d h1 h2 => by
    obtain ⟨v, e, r⟩ := I.f i d h1 h2
    exact ⟨v, e, r.mono (less_grow I.pm g)⟩
  o := fun i d h1 h2 => by
    obtain ⟨q, e, m, r⟩ := I.o i d h1 h2
    exact ⟨q, e, m, r.grow I.pm g⟩
  p := I.p
  s := fun i d h1 h2 => by
    obtain ⟨q, ns, e1, e2, e3⟩ := I.s i d h1 h2
    exact ⟨q, ns, e1, e2, sqL_mono (less_grow I.pm g) e3⟩
  ap := I.ap
  al := alive I.al p g
  pm := I.pm
  x := fun i a dd d h1 h2 => ⟨(I.x i a dd d h1 h2).1, (I.x i a dd d h1 h2).2.mono (less_grow I.pm g)⟩
theorem ErrAt.grow {cv : Value} {dd : Option Addr} {c : Str} {ns : List Str} {xs : List D} (h : ErrAt mg K M H cv dd c ns xs) : ErrAt mg K M H cv dd c ns xs := h
/-- a new list is data as well -/
theorem own_f {p : Addr} (al : ∀ a ∈ M, Al H a) (hn : H p = none) (h : Own mg K pot M H' p d) : Rp mg K (less H' M) (.ref p) d := by
  obtain ⟨_, o, h1, h2⟩ := h
  have np : p ∉ M := fun q => (al p q).nn hn
  exact HoR.rp (less_some.mpr ⟨np, h1⟩) (h2.mono (less_sub fun a q => List.mem_cons_of_mem _ q))
theorem RpR.toF (al : ∀ a ∈ M, Al H a) (h : RpR mg K .o pot M H H' v d) : Rp mg K (less H' M) v d := by
  obtain ⟨p, rfl, hn, h⟩ := h
  exact own_f al hn h
theorem rpl_refs {H : Hp} : ∀ {ps : List Addr} {ds : List D}, ds.length = ps.length → (∀ (i : Nat) (p : Addr) (e : D), ps[i]? = some p → ds[i]? = some e → Rp mg K H (.ref p) e) → RpL mg K H (ps.map V.ref) ds
  | [], [], _, _ => .nil
  | [], _ :: _, h, _ => by simp at h
  | _ :: _, [], h, _ => by simp at h
  | p :: ps, d :: ds, h, k => .cons (k 0 p d rfl rfl) (rpl_refs (by simpa using h) fun i q e h1 h2 => k (i + 1) q e (by simpa using h1) (by simpa using h2))
theorem ownT_f (h : OwnT mg K pot M H H' v d) : Rp mg K (less H' M) v d := by
  obtain ⟨q, ps, ds, rfl, rfl, h1, _, h3, _, h5, _, h6⟩ := h
  refine .tup (less_some.mpr ⟨h3, h1⟩) (rpl_refs h5 fun i p e e1 e2 => ?_)
  obtain ⟨_, _, g3, o, g4, g5⟩ := h6 i p e e1 e2
  exact HoR.rp (less_some.mpr ⟨g3, g4⟩) (g5.mono (less_sub fun a ha => List.mem_append_right _ ha))
theorem RpR.toB {r : Rm} (h : RpR mg K r pot M H H' v d) : Rb mg K pot M H' v d := by
  cases r with
  | f => exact .inl h
  | b => exact h
  | o =>
    obtain ⟨p, e, _, h⟩ := h
    exact .inr ⟨p, e, h⟩
  | t => exact .inl (ownT_f h)
/-- seen from further back -/
theorem RpR.back {r : Rm} (g : Grow pot H H1) (h0 : PotAt pot H π) (h : RpR mg K r pot M H1 H2 v d) : RpR mg K r pot M H H2 v d := by
  cases r with
  | f => exact h
  | b => exact h
  | o =>
    obtain ⟨p, e, hn, h⟩ := h
    refine ⟨p, e, ?_, h⟩
    cases q : H p with
    | none => rfl
    | some o =>
      rw [g p o h.1 q] at hn
      cases hn
  | t =>
    have bk : ∀ p, pot ≠ some p → H1 p = none → H p = none := fun p np hn => by
      cases q : H p with
      | none => rfl
      | some o =>
        rw [g p o np q] at hn
        cases hn
    obtain ⟨q, ps, ds, e1, e2, h1, h2, h3, h4, h5, h7, h6⟩ := h
    refine ⟨q, ps, ds, e1, e2, h1, bk q h7 h2, h3, h4, h5, h7, fun i p e a1 a2 => ?_⟩
    obtain ⟨g1, g2, g3, g4⟩ := h6 i p e a1 a2
    exact ⟨g1, bk p g1 g2, g3, g4⟩
theorem PErr.back {c : Str} {ns : List Str} {xs : List D} {π' : Pot} {E : XK} (h : PErr mg K pot M H c ns xs π' E) (g : Grow pot H H1) : PErr mg K pot M H1 c ns xs π' E :=
  fun cv dd H' g' p e => h cv dd H' (g.trans g') p e
/-- the post of what comes last is the post of the whole -/
theorem Post.back {r : Rm} {x : Res (D × Pot)} {Q : VK} {E : XK} (g : Grow pot H H1) (h0 : PotAt pot H π) (h : Post mg K r pot M H x Q E) : Post mg K r pot M H1 x Q E := by
  cases x with
  | ok a => exact fun v H' g' p q => h v H' (g.trans g') p (q.back g h0)
  | err c ns xs π' => exact PErr.back h g
  | stuck => exact h
theorem PostT.back {x : Res (Bool × Pot)} {Q : Bool → Hp → Prop} {E : XK} (g : Grow pot H H1) (h : PostT mg K pot M H x Q E) : PostT mg K pot M H1 x Q E := by
  cases x with
  | ok a => exact fun H' g' p => h H' (g.trans g') p
  | err c ns xs π' => exact PErr.back h g
  | stuck => exact h
/-- first x, then k -/
theorem Post.seq {r r' : Rm} {x : Res (D × Pot)} {k : D × Pot → Res (D × Pot)} {Q : VK} {E : XK} (h : Post mg K r pot M H (x.bind k) Q E) (h0 : PotAt pot H π)
    {te : VK → Prop} (ht : ∀ Q', Post mg K r' pot M H x Q' E → te Q') {R : VK}
    (hk : ∀ d π1 v H1, x = .ok (d, π1) → Grow pot H H1 → PotAt pot H1 π1 → RpR mg K r' pot M H H1 v d → Post mg K r pot M H1 (k (d, π1)) Q E → R v H1) : te R := by
  refine ht R ?_
  cases x with
  | ok a =>
    obtain ⟨d, π1⟩ := a
    exact fun v H1 g p q => hk d π1 v H1 rfl g p q (Post.back g h0 h)
  | err c ns xs π' => exact h
  | stuck => exact h
end
end DL
set_option maxHeartbeats 2000000
namespace DL
open PySem PySem.Spec PyProof.Rows L2
/-- what a rule asks of the place where it is used -/
structure XOk (X : Cx) (E : XK) (k : Nat) : Prop where
  room : Room k X.A
  gd : X.A.guards = some []
  calm : X.calm = true
  pass : Passes (L2.CX X.prog X.w) X E
  own : PassesOwn (model X.prog X.w) X.A X.env X.xe
  nd : X.N.Nodup
theorem XOk.u1 {X : Cx} {E : XK} {k : Nat} (x : XOk X E k) : X.A.units + 1 < cLine := hu_of x.room
theorem XOk.u64 {X : Cx} {E : XK} {k : Nat} (x : XOk X E k) : X.A.units + 64 < cLine := x.room.units
theorem XOk.u65 {X : Cx} {E : XK} {k : Nat} (x : XOk X E k) : X.A.units + 65 < cLine := by
  have := x.room.un
  omega
structure DE (X : Cx) (E : XK) (r : Rm) (Γ : List Md) (e : Expr) (te : TE) (fe : Ed) : Prop where
  pe : PE X e te
  sem : SemE X.mg X.K E r Γ te fe
structure DT (X : Cx) (E : XK) (Γ : List Md) (e : Expr) (tt : TT) (ft : Et) : Prop where
  pt : PT X e tt
  sem : SemT X.mg X.K E Γ tt ft
structure DW (X : Cx) (E : XK) (Γ : List Md) (e : Expr) (tt : TT) (ft : Et) : Prop where
  pw : PW X e tt
  sem : SemT X.mg X.K E Γ tt ft
structure DA (X : Cx) (E : XK) (ks : List Ak) (Γ : List Md) (es : List Expr) (ta : TA) (fa : Ea) : Prop where
  pa : PA X es ta
  sem : SemA X.mg X.K E ks Γ ta fa
theorem DW.dt {X : Cx} {E : XK} {Γ : List Md} {e : Expr} {tt : TT} {ft : Et} (h : DW X E Γ e tt ft) : DT X E Γ e tt ft := ⟨h.pw.pt, h.sem⟩
def ofO {α : Type} : Option α → Res α
  | some a => .ok a
  | none => .stuck
@[simp] theorem ofO_some {α : Type} (a : α) : ofO (some a) = .ok a := rfl
@[simp] theorem ofO_none {α : Type} : ofO (none : Option α) = .stuck := rfl
def eVar (i : Nat) : Ed := fun ρ π => match ρ[i]? with
  | some (some d) => .ok (d, π)
  | _ => .stuck
def eC (d : D) : Ed := fun _ π => .ok (d, π)
def eBin (g : D → D → Option D) (a b : Ed) : Ed := fun ρ π => (a ρ π).bind fun x => (b ρ x.2).bind fun y => (ofO (g x.1 y.1)).bind fun z => .ok (z, y.2)
def eUn (g : D → Option D) (a : Ed) : Ed := fun ρ π => (a ρ π).bind fun x => (ofO (g x.1)).bind fun z => .ok (z, x.2)
def truth : D → Option Bool
  | .non => some false
  | .bl b => some b
  | .int i => some (i != 0)
  | .str y => if y.length ≤ sizeLine then some ((y.length : Int) != 0) else none
  | .lst xs => some (!xs.isEmpty)
  | .tup xs => some (!xs.isEmpty)
  | .dic _ _ => none
  | .ins _ _ _ => none
def eAnd (a b : Ed) : Ed := fun ρ π => (a ρ π).bind fun x => (ofO (truth x.1)).bind fun k => if k = true then b ρ x.2 else .ok x
def eOr (a b : Ed) : Ed := fun ρ π => (a ρ π).bind fun x => (ofO (truth x.1)).bind fun k => if k = true then .ok x else b ρ x.2
def eNot (a : Ed) : Ed := fun ρ π => (a ρ π).bind fun x => (ofO (truth x.1)).bind fun k => .ok (.bl (!k), x.2)
def eIf (t : Et) (a b : Ed) : Ed := fun ρ π => (t ρ π).bind fun x => if x.1 = true then a ρ x.2 else b ρ x.2
def aNil : Ea := fun _ π => .ok ([], π)
def aCons (a : Ed) (b : Ea) : Ea := fun ρ π => (a ρ π).bind fun x => (b ρ x.2).bind fun y => .ok (x.1 :: y.1, y.2)
def eTup (a : Ea) : Ed := fun ρ π => (a ρ π).bind fun x => if x.1.length ≤ sizeLine then .ok (.tup x.1, x.2) else .stuck
def eLst (a : Ea) : Ed := fun ρ π => (a ρ π).bind fun x => if x.1.length ≤ sizeLine then .ok (.lst x.1, x.2) else .stuck
def eApp (g : List D → Option D) (a : Ea) : Ed := fun ρ π => (a ρ π).bind fun x => (ofO (g x.1)).bind fun z => .ok (z, x.2)
def tOf (a : Ed) : Et := fun ρ π => (a ρ π).bind fun x => (ofO (truth x.1)).bind fun k => .ok (k, x.2)
def tBl (a : Ed) : Et := fun ρ π => (a ρ π).bind fun x => match x.1 with
  | .bl k => .ok (k, x.2)
  | _ => .stuck
def tAndD (a b : Et) : Et := fun ρ π => (a ρ π).bind fun x => if x.1 = true then b ρ x.2 else .ok (false, x.2)
def tOrD (a b : Et) : Et := fun ρ π => (a ρ π).bind fun x => if x.1 = true then .ok (true, x.2) else b ρ x.2
def tNotD (a : Et) : Et := fun ρ π => (a ρ π).bind fun x => .ok (!x.1, x.2)
section
variable {X : Cx} {E : XK} {Γ : List Md} {r ra rb : Rm} {e a b c : Expr} {ta tb te : TE} {fa fb fe : Ed} {pos : Pos} {k : Nat}
theorem DE.toF (h : DE X E .o Γ e te fe) : DE X E .f Γ e te fe := ⟨h.pe, fun pot M σ H ρ π I p Q q => by
  refine h.sem pot M σ H ρ π I p Q ?_
  cases e : fe ρ π with
  | ok a =>
    rw [e] at q
    exact fun v H' g p' y => q v H' g p' (y.toF I.al)
  | err c ns xs π' =>
    rw [e] at q
    exact q
  | stuck =>
    rw [e] at q
    exact q⟩
theorem DE.toB (h : DE X E r Γ e te fe) : DE X E .b Γ e te fe := ⟨h.pe, fun pot M σ H ρ π I p Q q => by
  refine h.sem pot M σ H ρ π I p Q ?_
  cases e : fe ρ π with
  | ok a =>
    rw [e] at q
    exact fun v H' g p' y => q v H' g p' y.toB
  | err c ns xs π' =>
    rw [e] at q
    exact q
  | stuck =>
    rw [e] at q
    exact q⟩
theorem de_var (i : Nat) {x : Str} (hN : X.N[i]? = some x := by rfl) (hv : Vis X.env.scope x := by first | exact Or.inl rfl | exact Or.inr (Or.inl rfl) | exact Or.inr (Or.inr rfl)) (hΓ : Γ[i]? = some .f := by rfl)
    (hd : (x == ("__debug__" : Str)) = false := by decide) (hcd : (x == ("__classdict__" : Str)) = false := by decide) : DE X E .f Γ (.Name x pos) (tVar i) (eVar i) :=
  ⟨pe_var hN hv hd hcd, fun pot M σ H ρ π I p Q q => by
    unfold eVar at q
    split at q
    · rename_i d e
      obtain ⟨v, e1, r⟩ := I.f i d hΓ e
      exact ⟨v, e1, q v H .refl p r⟩
    · exact q.elim⟩
/-- an own list that changes, to be looked at -/
theorem de_varo (i : Nat) {x : Str} (hN : X.N[i]? = some x := by rfl) (hv : Vis X.env.scope x := by first | exact Or.inl rfl | exact Or.inr (Or.inl rfl) | exact Or.inr (Or.inr rfl)) (hΓ : Γ[i]? = some .o := by rfl)
    (hd : (x == ("__debug__" : Str)) = false := by decide) (hcd : (x == ("__classdict__" : Str)) = false := by decide) : DE X E .b Γ (.Name x pos) (tVar i) (eVar i) :=
  ⟨pe_var hN hv hd hcd, fun pot M σ H ρ π I p Q q => by
    unfold eVar at q
    split at q
    · rename_i d e
      obtain ⟨v, e1, m, r⟩ := I.o i d hΓ e
      exact ⟨_, e1, q _ H .refl p (.inr ⟨_, rfl, r⟩)⟩
    · exact q.elim⟩
theorem sem_c {v : V} {d : D} (h : ∀ H, Rp X.mg X.K H v d) : SemE X.mg X.K E .f Γ (tC v) (eC d) := fun pot M σ H ρ π I p Q q => q v H .refl p (h _)
theorem de_int {i : Int} {j : Nat} : DE X E .f Γ (.Constant (.int i) j pos) (tC (.int i)) (eC (.int i)) := ⟨pe_int, sem_c fun _ => .int i⟩
theorem de_bl {i : Bool} {j : Nat} : DE X E .f Γ (.Constant (.bool i) j pos) (tC (.bl i)) (eC (.bl i)) := ⟨pe_bl, sem_c fun _ => .bl i⟩
theorem de_non {j : Nat} : DE X E .f Γ (.Constant .none j pos) (tC .non) (eC .non) := ⟨pe_non, sem_c fun _ => .non⟩
theorem de_str {x : Str} {j : Nat} : DE X E .f Γ (.Constant (.str x) j pos) (tC (.str x)) (eC (.str x)) := ⟨pe_str, sem_c fun _ => .str x⟩
/-- a constant of the module -/
theorem de_glob {x : Str} {v : V} {d : D} (h : ∃ u, X.mg x = some u ∧ RelV v u) (hr : ∀ H, Rp X.mg X.K H v d) (hg : Gl X x := by rfl) (hdb : (x == ("__debug__" : Str)) = false := by decide) : DE X E .f Γ (.Name x pos) (tC v) (eC d) := by
  obtain ⟨u, h1, h2⟩ := h
  exact ⟨pe_glob hg h1 h2 hdb, sem_c hr⟩
def SemOp (mg : Str → Option Value) (K : PySem.W.Frag) (r2 : R2) (rz : Rm) (g : D → D → Option D) : Prop :=
  ∀ (pot : Option Addr) (M : List Addr) (H : Hp) (x y : V) (d e z : D), (∀ a ∈ M, Al H a) → (∀ a, pot = some a → a ∈ M) → (∀ a, pot = some a → H a ≠ none) → Rb mg K pot M H x d → Rb mg K pot M H y e → g d e = some z →
    ∀ Q : VK, (∀ v H', Same H H' → RpR mg K rz pot M H H' v z → Q v H') → r2 x y H Q
def SemUn (mg : Str → Option Value) (K : PySem.W.Frag) (r1 : V → Hp → VK → Prop) (rz : Rm) (g : D → Option D) : Prop :=
  ∀ (pot : Option Addr) (M : List Addr) (H : Hp) (x : V) (d z : D), (∀ a ∈ M, Al H a) → (∀ a, pot = some a → a ∈ M) → (∀ a, pot = some a → H a ≠ none) → Rb mg K pot M H x d → g d = some z →
    ∀ Q : VK, (∀ v H', Same H H' → RpR mg K rz pot M H H' v z → Q v H') → r1 x H Q
theorem PotAt.has {pot : Option Addr} {H : Hp} {π : Pot} (p : PotAt pot H π) : ∀ a, pot = some a → H a ≠ none := fun a h e => by
  rw [p a h] at e
  cases e
theorem sem_bin {r2 : R2} {rz : Rm} {g : D → D → Option D} (hg : SemOp X.mg X.K r2 rz g) (ha : SemE X.mg X.K E ra Γ ta fa) (hb : SemE X.mg X.K E rb Γ tb fb) : SemE X.mg X.K E rz Γ (tOp r2 ta tb) (eBin g fa fb) := by
  intro pot M σ H ρ π I p Q h
  refine Post.seq (r' := ra) (te := ta σ H) h p (fun Q' hq => ha pot M σ H ρ π I p Q' hq) fun d π1 v H1 _ g1 p1 r1 h1 => ?_
  refine Post.seq (r' := rb) (te := tb σ H1) h1 p1 (fun Q' hq => hb pot M σ H1 ρ π1 (I.grow g1 p1) p1 Q' hq) fun e π2 w H2 _ g2 p2 r2' h2 => ?_
  have I2 := I.grow (g1.trans g2) p2
  cases hz : g d e with
  | none =>
    simp only [hz, ofO_none, Res.bind_stuck] at h2
    exact h2.elim
  | some z =>
    simp only [hz, ofO_some, Res.bind_ok] at h2
    exact hg pot M H2 v w d e z I2.al I.pm p2.has (r1.toB.grow I.pm g2) r2'.toB hz Q fun u H3 s q => h2 u H3 (.of_same s) (p2.same s) q
theorem sem_un {r1 : V → Hp → VK → Prop} {rz : Rm} {g : D → Option D} (hg : SemUn X.mg X.K r1 rz g) (ha : SemE X.mg X.K E ra Γ ta fa) : SemE X.mg X.K E rz Γ (tUn r1 ta) (eUn g fa) := by
  intro pot M σ H ρ π I p Q h
  refine Post.seq (r' := ra) (te := ta σ H) h p (fun Q' hq => ha pot M σ H ρ π I p Q' hq) fun d π1 v H1 _ g1 p1 r1' h1 => ?_
  have I1 := I.grow g1 p1
  cases hz : g d with
  | none =>
    simp only [hz, ofO_none, Res.bind_stuck] at h1
    exact h1.elim
  | some z =>
    simp only [hz, ofO_some, Res.bind_ok] at h1
    exact hg pot M H1 v d z I1.al I.pm p1.has r1'.toB hz Q fun u H3 s q => h1 u H3 (.of_same s) (p1.same s) q
theorem de_bin {op : Operator} {r2 : R2} {rz : Rm} {g : D → D → Option D} (o : OpR X (binaryOp op) r2 ∧ SemOp X.mg X.K r2 rz g) (ha : DE X E ra Γ a ta fa) (hb : DE X E rb Γ b tb fb) : DE X E rz Γ (.BinOp a op b pos) (tOp r2 ta tb) (eBin g fa fb) :=
  ⟨pe_op o.1 ha.pe hb.pe, sem_bin o.2 ha.sem hb.sem⟩
theorem de_un {op : UnaryOp} {r1 : V → Hp → VK → Prop} {rz : Rm} {g : D → Option D} (o : UnR X (unaryOp op) r1 ∧ SemUn X.mg X.K r1 rz g) (ha : DE X E ra Γ a ta fa) : DE X E rz Γ (.UnaryOp op a pos) (tUn r1 ta) (eUn g fa) :=
  ⟨pe_un o.1 ha.pe, sem_un o.2 ha.sem⟩
theorem de_cmp {op : CmpOp} {r2 : R2} {rz : Rm} {g : D → D → Option D} (o : OpR X (compareOp op) r2 ∧ SemOp X.mg X.K r2 rz g) (ha : DE X E ra Γ a ta fa) (hb : DE X E rb Γ b tb fb) (hm : behindInMarks op b = false := by rfl) : DE X E rz Γ (.Compare a [op] [b] pos) (tOp r2 ta tb) (eBin g fa fb) :=
  ⟨pe_cmpR o.1 ha.pe hb.pe hm, sem_bin o.2 ha.sem hb.sem⟩
end
end DL
set_option maxHeartbeats 2000000
namespace DL
open PySem PySem.Spec PyProof.Rows L2
section
variable {mg : Str → Option Value} {K : PySem.W.Frag} {pot : Option Addr} {M : List Addr} {H H' : Hp} {v x : V} {d : D}
theorem rb_int {i : Int} (h : Rb mg K pot M H x (.int i)) : x = .int i := by
  rcases h with h | ⟨_, _, _, _, _, e⟩
  · cases h
    rfl
  · cases e
theorem rb_bl {i : Bool} (h : Rb mg K pot M H x (.bl i)) : x = .bl i := by
  rcases h with h | ⟨_, _, _, _, _, e⟩
  · cases h
    rfl
  · cases e
theorem rb_str {i : Str} (h : Rb mg K pot M H x (.str i)) : x = .str i := by
  rcases h with h | ⟨_, _, _, _, _, e⟩
  · cases h
    rfl
  · cases e
theorem rb_non (h : Rb mg K pot M H x .non) : x = .non := by
  rcases h with h | ⟨_, _, _, _, _, e⟩
  · cases h
    rfl
  · cases e
theorem less_le : Same (less H M) H := fun a o h => (less_some.mp h).2
theorem rb_lst {ds : List D} (h : Rb mg K pot M H x (.lst ds)) : ∃ p xs, x = .ref p ∧ H p = some (.lst xs) ∧ RpL mg K (less H M) xs ds := by
  rcases h with h | ⟨p, e1, _, o, h1, h2⟩
  · cases h with
    | lst h1 h2 => exact ⟨_, _, rfl, less_le _ _ h1, h2⟩
  · cases h2 with
    | lst h2 => exact ⟨p, _, e1, h1, h2.mono (less_sub fun a q => List.mem_cons_of_mem _ q)⟩
theorem rb_tupP {ds : List D} (h : Rb mg K pot M H x (.tup ds)) : ∃ p xs, x = .ref p ∧ less H M p = some (.tup xs) ∧ RpL mg K (less H M) xs ds := by
  rcases h with h | ⟨p, e1, _, o, h1, h2⟩
  · cases h with
    | tup h1 h2 => exact ⟨_, _, rfl, h1, h2⟩
  · cases h2
theorem rb_tup {ds : List D} (h : Rb mg K pot M H x (.tup ds)) : ∃ p xs, x = .ref p ∧ SqT K (less H M) p xs ∧ RpL mg K (less H M) xs ds := by
  obtain ⟨p, xs, e, h1, h2⟩ := rb_tupP h
  exact ⟨p, xs, e, .inl (.inl h1), h2⟩
theorem rb_rp (h : Rb mg K pot M H x d) : Rp mg K H x d := by
  rcases h with h | ⟨p, e1, _, o, h1, h2⟩
  · exact h.mono less_le
  · cases e1
    exact HoR.rp h1 (h2.mono less_le)
theorem less_new {q : Addr} {o : HO} (hn : H q = none) : Same (less H M) (less (upd H q o) (q :: M)) := fun a u h => by
  obtain ⟨h1, h2⟩ := less_some.mp h
  have n := ne_of_none h2 hn
  refine less_some.mpr ⟨fun m => ?_, ?_⟩
  · rcases List.mem_cons.mp m with e | m
    · exact n e
    · exact h1 m
  · rw [upd_ne n]
    exact h2
theorem less_new1 {q : Addr} {o : HO} (hn : H q = none) : Same (less H M) (less (upd H q o) M) := fun a u h => by
  obtain ⟨h1, h2⟩ := less_some.mp h
  refine less_some.mpr ⟨h1, ?_⟩
  rw [upd_ne (ne_of_none h2 hn)]
  exact h2
theorem new_lst {q : Addr} {xs : List V} {ds : List D} (hp : ∀ a, pot = some a → H a ≠ none) (hn : H q = none) (r : RpL mg K (less H M) xs ds) : RpR mg K .o pot M H (upd H q (.lst xs)) (.ref q) (.lst ds) :=
  ⟨q, rfl, hn, fun e => hp q e hn, _, upd_same, .lst (r.mono (less_new hn))⟩
theorem new_tup {q : Addr} {xs : List V} {ds : List D} (al : ∀ a ∈ M, Al H a) (hn : H q = none) (r : RpL mg K (less H M) xs ds) : Rp mg K (less (upd H q (.tup xs)) M) (.ref q) (.tup ds) :=
  .tup (less_some.mpr ⟨fun m => (al q m).nn hn, upd_same⟩) (r.mono (less_new1 hn))
theorem new_lstF {q : Addr} {xs : List V} {ds : List D} (al : ∀ a ∈ M, Al H a) (hn : H q = none) (r : RpL mg K (less H M) xs ds) : Rp mg K (less (upd H q (.lst xs)) M) (.ref q) (.lst ds) :=
  .lst (less_some.mpr ⟨fun m => (al q m).nn hn, upd_same⟩) (r.mono (less_new1 hn))
end
def opAdd : D → D → Option D
  | .int i, .int j => some (.int (i + j))
  | .lst xs, .lst ys => if xs.length + ys.length ≤ sizeLine then some (.lst (xs ++ ys)) else none
  | .tup xs, .tup ys => if xs.length + ys.length ≤ sizeLine then some (.tup (xs ++ ys)) else none
  | .str x, .str y => if x.length + y.length ≤ sizeLine then some (.str (x ++ y)) else none
  | _, _ => none
def opSub : D → D → Option D
  | .int i, .int j => some (.int (i - j))
  | _, _ => none
def small (i : Int) : Bool := decide (-18446744073709551616 < i ∧ i < 18446744073709551616)
def opRep : D → D → Option D
  | .lst xs, .int k => if decide (-9223372036854775808 ≤ k ∧ k < 9223372036854775808) && decide (xs.length * k.toNat ≤ sizeLine) then some (.lst (List.replicate k.toNat xs).flatten) else none
  | _, _ => none
def opFdivW : D → D → Option D
  | .int i, .int j => if 0 < j ∧ j.natAbs.log2 < 9000 then some (.int (i / j)) else if j < 0 ∧ j.natAbs.log2 < 9000 then some (.int (i.fdiv j)) else none
  | _, _ => none
def opMod : D → D → Option D
  | .int i, .int j => if 0 < j then some (.int (i % j)) else none
  | _, _ => none
def opPow : D → D → Option D
  | .int i, .int j => if decide (0 ≤ j ∧ j ≤ 1000000) && small i then some (.int (i ^ j.toNat)) else none
  | _, _ => none
def opNeg : D → Option D
  | .int i => some (.int (-i))
  | _ => none
def cmpI (p : Int → Int → Bool) : D → D → Option D
  | .int i, .int j => some (.bl (p i j))
  | _, _ => none
def eqP (d e : D) : Option Bool := match toPy d, toPy e with
  | some p, some q => if SeqAt.shaped p && SeqAt.shaped q then some (PyData.eqv p q) else none
  | _, _ => none
def eqD : D → D → Option Bool
  | .str x, .str y => some (decide (x = y))
  | .int x, .int y => some (decide (x = y))
  | d, e => eqP d e
def opEq (d e : D) : Option D := (eqD d e).map .bl
def opNe (d e : D) : Option D := (eqD d e).map fun b => .bl (!b)
def isNonD : D → Bool
  | .non => true
  | _ => false
def opIsN (d e : D) : Option D := if isNonD e then some (.bl (isNonD d)) else none
def opNotN (d e : D) : Option D := if isNonD e then some (.bl (!isNonD d)) else none
section
variable {X : Cx} {E : XK} {k : Nat}
abbrev OpOk (X : Cx) (f : Value → Value → Sem Value) (r2 : R2) (rz : Rm) (g : D → D → Option D) : Prop := OpR X f r2 ∧ SemOp X.mg X.K r2 rz g
theorem sem_int {mg : Str → Option Value} {K : PySem.W.Frag} {C : Int → Int → Prop} {g : D → D → Option D} {gi : Int → Int → Int} (h : ∀ d e z, g d e = some z → ∃ i j, d = .int i ∧ e = .int j ∧ C i j ∧ z = .int (gi i j)) : SemOp mg K (rI C fun i j => .int (gi i j)) .f g := by
  intro pot M H x y d e z al pm ph rx ry hz Q q
  obtain ⟨i, j, rfl, rfl, c, rfl⟩ := h d e z hz
  exact ⟨i, j, rb_int rx, rb_int ry, c, q _ H (Same.refl H) (.int _)⟩
theorem sem_int0 {mg : Str → Option Value} {K : PySem.W.Frag} {g : D → D → Option D} {gi : Int → Int → V} {gd : Int → Int → D} (hr : ∀ i j H, Rp mg K H (gi i j) (gd i j)) (h : ∀ d e z, g d e = some z → ∃ i j, d = .int i ∧ e = .int j ∧ z = gd i j) : SemOp mg K (rI0 gi) .f g := by
  intro pot M H x y d e z al pm ph rx ry hz Q q
  obtain ⟨i, j, rfl, rfl, rfl⟩ := h d e z hz
  exact ⟨i, j, rb_int rx, rb_int ry, q _ H (Same.refl H) (hr _ _ _)⟩
theorem o_sub : OpOk X (binaryOp .Sub) (rI0 fun i j => .int (i - j)) .f opSub := ⟨op_sub, sem_int0 (gd := fun i j => .int (i - j)) (fun _ _ _ => .int _) fun d e z h => by
  cases d <;> cases e <;> simp [opSub] at h
  exact ⟨_, _, rfl, rfl, h.symm⟩⟩
def CDivA (_ j : Int) : Prop := j ≠ 0 ∧ j.natAbs.log2 < 9000
theorem op_fdivA : OpR X (binaryOp .FloorDiv) (rI CDivA fun i j => .int (i.fdiv j)) := opI fun i j _ _ _ _ _ hc q => floordiv_int hc.1 q (.inl (PyProof.noPylong_of_log2 hc.2))
theorem o_fdivW : OpOk X (binaryOp .FloorDiv) (rI CDivA fun i j => .int (i.fdiv j)) .f opFdivW := ⟨op_fdivA, sem_int (gi := fun i j => i.fdiv j) fun d e z h => by
  cases d <;> cases e <;> simp only [opFdivW] at h <;> try cases h
  rename_i i j
  by_cases h1 : 0 < j ∧ j.natAbs.log2 < 9000
  · rw [if_pos h1] at h
    cases h
    exact ⟨_, _, rfl, rfl, ⟨by omega, h1.2⟩, by rw [Int.fdiv_eq_ediv_of_nonneg i (by omega)]⟩
  · rw [if_neg h1] at h
    by_cases h2 : j < 0 ∧ j.natAbs.log2 < 9000
    · rw [if_pos h2] at h
      cases h
      exact ⟨_, _, rfl, rfl, ⟨by omega, h2.2⟩, rfl⟩
    · rw [if_neg h2] at h; cases h⟩
theorem o_mod : OpOk X (binaryOp .Mod) (rI (fun _ j => 0 < j) fun i j => .int (i % j)) .f opMod := ⟨op_mod, sem_int (gi := fun i j => i % j) fun d e z h => by
  cases d <;> cases e <;> simp [opMod] at h
  exact ⟨_, _, rfl, rfl, h.1, h.2.symm⟩⟩
theorem o_pow : OpOk X (binaryOp .Pow) (rI CPow fun i j => .int (i ^ j.toNat)) .f opPow := ⟨op_pow, sem_int (gi := fun i j => i ^ j.toNat) fun d e z h => by
  cases d <;> cases e <;> simp [opPow, small] at h
  exact ⟨_, _, rfl, rfl, (by unfold CPow; omega), h.2.symm⟩⟩
theorem o_neg : UnR X (unaryOp .USub) (rU fun i => .int (-i)) ∧ SemUn X.mg X.K (rU fun i => .int (-i)) .f opNeg := ⟨un_neg, fun pot M H x d z al pm ph rx hz Q q => by
  cases d <;> simp [opNeg] at hz
  subst hz
  exact ⟨_, rb_int rx, q _ H (Same.refl H) (.int _)⟩⟩
theorem o_lt : OpOk X (compareOp .Lt) (rI0 fun i j => .bl (decide (i < j))) .f (cmpI fun i j => decide (i < j)) := ⟨op_lt, sem_int0 (gd := fun i j => .bl (decide (i < j))) (fun _ _ _ => .bl _) fun d e z h => by
  cases d <;> cases e <;> simp [cmpI] at h
  exact ⟨_, _, rfl, rfl, h.symm⟩⟩
theorem o_le : OpOk X (compareOp .LtE) (rI0 fun i j => .bl (decide (i ≤ j))) .f (cmpI fun i j => decide (i ≤ j)) := ⟨op_le, sem_int0 (gd := fun i j => .bl (decide (i ≤ j))) (fun _ _ _ => .bl _) fun d e z h => by
  cases d <;> cases e <;> simp [cmpI] at h
  exact ⟨_, _, rfl, rfl, h.symm⟩⟩
theorem o_gt : OpOk X (compareOp .Gt) (rI0 fun i j => .bl (decide (j < i))) .f (cmpI fun i j => decide (j < i)) := ⟨op_gt, sem_int0 (gd := fun i j => .bl (decide (j < i))) (fun _ _ _ => .bl _) fun d e z h => by
  cases d <;> cases e <;> simp [cmpI] at h
  exact ⟨_, _, rfl, rfl, h.symm⟩⟩
theorem o_rep : OpOk X (binaryOp .Mult) rRep .o opRep := ⟨op_rep, fun pot M H x y d e z al pm ph rx ry hz Q q => by
  cases d <;> cases e <;> simp [opRep] at hz
  obtain ⟨p, xs, rfl, h1, r1⟩ := rb_lst rx
  obtain ⟨⟨h3, h4⟩, rfl⟩ := hz
  refine ⟨p, _, xs, rfl, rb_int ry, h1, by omega, by omega, by rw [r1.length]; exact h4, fun l hn => ?_⟩
  exact q _ _ (same_upd hn) (new_lst ph hn (r1.flat _))⟩
/-- + of ints, texts, lists, tuples -/
def rAddA (K : PySem.W.Frag) : R2 := fun x y H Q => rI0 (fun i j => .int (i + j)) x y H Q ∨ (∃ i j, x = .str i ∧ y = .str j ∧ i.length + j.length ≤ sizeLine ∧ Q (.str (i ++ j)) H) ∨ rCat x y H Q ∨ rCatA K x y H Q
theorem o_add : OpOk X (binaryOp .Add) (rAddA X.K) .f opAdd := ⟨op_add.or (op_add_str.or (op_cat.or op_catA)), fun pot M H x y d e z al pm ph rx ry hz Q q => by
  cases d <;> cases e <;> simp [opAdd] at hz
  · subst hz
    exact .inl ⟨_, _, rb_int rx, rb_int ry, q _ H (Same.refl H) (.int _)⟩
  · obtain ⟨hl, rfl⟩ := hz
    exact .inr (.inl ⟨_, _, rb_str rx, rb_str ry, hl, q _ H (Same.refl H) (.str _)⟩)
  · obtain ⟨p, xs, rfl, h1, r1⟩ := rb_lst rx
    obtain ⟨p', ys, rfl, h2, r2⟩ := rb_lst ry
    obtain ⟨hl, rfl⟩ := hz
    refine .inr (.inr (.inl ⟨p, p', xs, ys, rfl, rfl, h1, h2, by rw [r1.length, r2.length]; exact hl, fun l hn => ?_⟩))
    exact q _ _ (same_upd hn) (new_lstF al hn (r1.append r2))
  · obtain ⟨p, xs, rfl, h1, r1⟩ := rb_tupP rx
    obtain ⟨p', ys, rfl, h2, r2⟩ := rb_tupP ry
    obtain ⟨hl, rfl⟩ := hz
    refine .inr (.inr (.inr ⟨p, p', xs, ys, rfl, rfl, .inl (.inl (less_le _ _ h1)), .inl (.inl (less_le _ _ h2)), by rw [r1.length, r2.length]; exact hl, fun e0 => ?_, fun e0 e1 => ?_, fun e0 e1 l hn => ?_⟩))
    · subst e0
      cases r1
      exact q _ H (Same.refl H) (.tup h2 r2)
    · subst e1
      cases r2
      rw [List.append_nil] at q
      exact q _ H (Same.refl H) (.tup h1 r1)
    · exact q _ _ (same_upd hn) (new_tup al hn (r1.append r2))⟩
theorem dec_strV {i j : Str} : decide (V.str i = V.str j) = decide (i = j) := by
  rw [Bool.eq_iff_iff]
  simp
theorem dec_intV {i j : Int} : decide (V.int i = V.int j) = decide (i = j) := by
  rw [Bool.eq_iff_iff]
  simp
theorem o_eq (x : XOk X E k) : OpOk X (compareOp .Eq) (fun x y H Q => rEq x y H Q ∨ rEqD X.K x y H Q) .f opEq := ⟨op_eq.or (op_eqD x.u64), fun pot M H x y d e z al pm ph rx ry hz Q q => by
  unfold opEq eqD at hz
  split at hz
  · cases hz
    rw [rb_str rx, rb_str ry]
    exact .inl ⟨rfl, by rw [dec_strV]; exact q _ H (Same.refl H) (.bl _)⟩
  · cases hz
    rw [rb_int rx, rb_int ry]
    exact .inl ⟨rfl, by rw [dec_intV]; exact q _ H (Same.refl H) (.bl _)⟩
  · unfold eqP at hz
    split at hz
    · rename_i p p' e1 e2
      split at hz
      · rename_i hs
        cases hz
        obtain ⟨s1, s2⟩ := Bool.and_eq_true_iff.mp hs
        exact .inr ⟨p, p', (rb_rp rx).dp e1, (rb_rp ry).dp e2, s1, s2, q _ H (Same.refl H) (.bl _)⟩
      · cases hz
    · cases hz⟩
theorem o_ne (x : XOk X E k) : OpOk X (compareOp .NotEq) (fun x y H Q => rNe x y H Q ∨ rNeD X.K x y H Q) .f opNe := ⟨op_ne.or (op_neD x.u64), fun pot M H x y d e z al pm ph rx ry hz Q q => by
  unfold opNe eqD at hz
  split at hz
  · cases hz
    rw [rb_str rx, rb_str ry]
    exact .inl ⟨rfl, by rw [dec_strV]; exact q _ H (Same.refl H) (.bl _)⟩
  · cases hz
    rw [rb_int rx, rb_int ry]
    exact .inl ⟨rfl, by rw [dec_intV]; exact q _ H (Same.refl H) (.bl _)⟩
  · unfold eqP at hz
    split at hz
    · rename_i p p' e1 e2
      split at hz
      · rename_i hs
        cases hz
        obtain ⟨s1, s2⟩ := Bool.and_eq_true_iff.mp hs
        exact .inr ⟨p, p', (rb_rp rx).dp e1, (rb_rp ry).dp e2, s1, s2, q _ H (Same.refl H) (.bl _)⟩
      · cases hz
    · cases hz⟩
theorem rb_isN {mg : Str → Option Value} {K : PySem.W.Frag} {pot : Option Addr} {M : List Addr} {H : Hp} {x : V} {d : D} (h : Rb mg K pot M H x d) : decide (x = .non) = isNonD d := by
  rcases h with h | ⟨p, e1, _, o, h1, h2⟩
  · cases h <;> rfl
  · cases e1
    cases h2 <;> rfl
theorem o_isN : OpOk X (compareOp .Is) (fun x y H Q => y = .non ∧ Q (.bl (decide (x = .non))) H) .f opIsN := ⟨op_isN, fun pot M H x y d e z al pm ph rx ry hz Q q => by
  cases e <;> simp [opIsN, isNonD] at hz
  have hz' : z = .bl _ := hz.symm
  subst hz'
  rw [rb_isN rx]
  exact ⟨rb_non ry, q _ H (Same.refl H) (.bl _)⟩⟩
theorem o_notN : OpOk X (compareOp .IsNot) (fun x y H Q => y = .non ∧ Q (.bl (!decide (x = .non))) H) .f opNotN := ⟨op_notN, fun pot M H x y d e z al pm ph rx ry hz Q q => by
  cases e <;> simp [opNotN, isNonD] at hz
  have hz' : z = .bl _ := hz.symm
  subst hz'
  rw [rb_isN rx]
  exact ⟨rb_non ry, q _ H (Same.refl H) (.bl _)⟩⟩
end
end DL
set_option maxHeartbeats 2000000
namespace DL
open PySem PySem.Spec PyProof.Rows L2
section
variable {mg : Str → Option Value} {K : PySem.W.Frag} {pot : Option Addr} {M : List Addr} {H H' : Hp} {v x : V} {d : D}
theorem RpL.empty {vs : List V} {ds : List D} (h : RpL mg K H vs ds) : vs.isEmpty = ds.isEmpty := by
  cases h <;> rfl
theorem tru_of {k : Bool} (h : Rb mg K pot M H x d) (e : truth d = some k) : TruV K x H k := by
  cases d with
  | non =>
    cases rb_non h
    cases e
    rfl
  | bl b =>
    cases rb_bl h
    cases e
    rfl
  | int i =>
    cases rb_int h
    simp only [truth, Option.some.injEq] at e
    exact e.symm
  | str y =>
    cases rb_str h
    simp only [truth] at e
    split at e
    · rename_i hl
      simp only [Option.some.injEq] at e
      exact ⟨hl, e.symm⟩
    · cases e
  | lst ds =>
    obtain ⟨p, xs, rfl, h1, r1⟩ := rb_lst h
    simp only [truth, Option.some.injEq] at e
    exact .inl ⟨xs, .inl (.inl h1), by rw [r1.empty, e]⟩
  | tup ds =>
    obtain ⟨p, xs, rfl, h1, r1⟩ := rb_tup h
    simp only [truth, Option.some.injEq] at e
    exact .inr (.inl ⟨xs, sqT_mono less_le h1, by rw [r1.empty, e]⟩)
  | dic ks xs => cases e
  | ins c ns xs => cases e
theorem Args.rpl : ∀ {ks : List Ak} {vs : List V} {ds : List D}, Args mg K pot M H ks vs ds → (∀ k ∈ ks, k = Ak.f) → RpL mg K (less H M) vs ds
  | _, _, _, .nil, _ => .nil
  | _, _, _, .cons (k := k) a r, h => by
    have e : k = .f := h k (List.mem_cons_self ..)
    subst e
    exact .cons a (r.rpl fun k hk => h k (List.mem_cons_of_mem _ hk))
end
section
variable {X : Cx} {E : XK} {Γ : List Md} {r ra rb rc : Rm} {e a b c : Expr} {ta tb tc te : TE} {fa fb fc fe : Ed} {tt uu : TT} {ft fu : Et} {pos : Pos} {k : Nat} {ks : List Ak} {es rest : List Expr} {tA : TA} {fA : Ea}
theorem de_one {op : BoolOp} (ha : DE X E r Γ a ta fa) : DE X E r Γ (.BoolOp op [a] pos) ta fa := ⟨pe_one ha.pe, ha.sem⟩
theorem de_and (ha : DE X E .f Γ a ta fa) (hb : DE X E .f Γ (.BoolOp .And (b :: rest) pos) tb fb) : DE X E .f Γ (.BoolOp .And (a :: b :: rest) pos) (tAndT X.K ta tb) (eAnd fa fb) :=
  ⟨pe_andT ha.pe hb.pe, fun pot M σ H ρ π I p Q h => by
    refine Post.seq (r' := .f) (te := ta σ H) h p (fun Q' hq => ha.sem pot M σ H ρ π I p Q' hq) fun d π1 v H1 _ g1 p1 r1 h1 => ?_
    cases hz : truth d with
    | none =>
      simp only [hz, ofO_none, Res.bind_stuck] at h1
      exact h1.elim
    | some z =>
      simp only [hz, ofO_some, Res.bind_ok] at h1
      refine ⟨z, tru_of r1.toB hz, ?_⟩
      cases z with
      | true => exact hb.sem pot M σ H1 ρ π1 (I.grow g1 p1) p1 Q h1
      | false => exact h1 v H1 .refl p1 r1⟩
theorem de_not (ha : DE X E r Γ a ta fa) : DE X E .f Γ (.UnaryOp .Not a pos) (tNotT X.K ta) (eNot fa) :=
  ⟨pe_notT ha.pe, fun pot M σ H ρ π I p Q h => by
    refine Post.seq (r' := r) (te := ta σ H) h p (fun Q' hq => ha.sem pot M σ H ρ π I p Q' hq) fun d π1 v H1 _ g1 p1 r1 h1 => ?_
    cases hz : truth d with
    | none =>
      simp only [hz, ofO_none, Res.bind_stuck] at h1
      exact h1.elim
    | some z =>
      simp only [hz, ofO_some, Res.bind_ok] at h1
      exact ⟨z, tru_of r1.toB hz, h1 _ H1 .refl p1 (.bl _)⟩⟩
theorem PostT.seq {pot : Option Addr} {M : List Addr} {H : Hp} {π : Pot} {x : Res (Bool × Pot)} {kk : Bool × Pot → Res (D × Pot)} {Q : VK} (h : Post X.mg X.K r pot M H (x.bind kk) Q E) (h0 : PotAt pot H π)
    {te : (Bool → Hp → Prop) → Prop} (ht : ∀ Q', PostT X.mg X.K pot M H x Q' E → te Q') {R : Bool → Hp → Prop}
    (hk : ∀ d π1 H1, x = .ok (d, π1) → Grow pot H H1 → PotAt pot H1 π1 → Post X.mg X.K r pot M H1 (kk (d, π1)) Q E → R d H1) : te R := by
  refine ht R ?_
  cases x with
  | ok a =>
    obtain ⟨d, π1⟩ := a
    exact fun H1 g p => hk d π1 H1 rfl g p (Post.back g h0 h)
  | err c ns xs π' => exact h
  | stuck => exact h
theorem PostT.seqT {pot : Option Addr} {M : List Addr} {H : Hp} {x : Res (Bool × Pot)} {kk : Bool × Pot → Res (Bool × Pot)} {Q : Bool → Hp → Prop} (h : PostT X.mg X.K pot M H (x.bind kk) Q E)
    {te : (Bool → Hp → Prop) → Prop} (ht : ∀ Q', PostT X.mg X.K pot M H x Q' E → te Q') {R : Bool → Hp → Prop}
    (hk : ∀ d π1 H1, x = .ok (d, π1) → Grow pot H H1 → PotAt pot H1 π1 → PostT X.mg X.K pot M H1 (kk (d, π1)) Q E → R d H1) : te R := by
  refine ht R ?_
  cases x with
  | ok a =>
    obtain ⟨d, π1⟩ := a
    exact fun H1 g p => hk d π1 H1 rfl g p (PostT.back g h)
  | err c ns xs π' => exact h
  | stuck => exact h
theorem Post.seqT {pot : Option Addr} {M : List Addr} {H : Hp} {x : Res (D × Pot)} {kk : D × Pot → Res (Bool × Pot)} {Q : Bool → Hp → Prop} (h : PostT X.mg X.K pot M H (x.bind kk) Q E)
    {te : VK → Prop} (ht : ∀ Q', Post X.mg X.K r pot M H x Q' E → te Q') {R : VK}
    (hk : ∀ d π1 v H1, x = .ok (d, π1) → Grow pot H H1 → PotAt pot H1 π1 → RpR X.mg X.K r pot M H H1 v d → PostT X.mg X.K pot M H1 (kk (d, π1)) Q E → R v H1) : te R := by
  refine ht R ?_
  cases x with
  | ok a =>
    obtain ⟨d, π1⟩ := a
    exact fun v H1 g p q => hk d π1 v H1 rfl g p q (PostT.back g h)
  | err c ns xs π' => exact h
  | stuck => exact h
theorem de_if (hc : DT X E Γ c tt ft) (ha : DE X E r Γ a ta fa) (hb : DE X E r Γ b tb fb) : DE X E r Γ (.IfExp c a b pos) (tIf tt ta tb) (eIf ft fa fb) :=
  ⟨pe_ifExp hc.pt ha.pe hb.pe, fun pot M σ H ρ π I p Q h => by
    refine PostT.seq (te := tt σ H) h p (fun Q' hq => hc.sem pot M σ H ρ π I p Q' hq) fun d π1 H1 _ g1 p1 h1 => ?_
    cases d with
    | true => exact ha.sem pot M σ H1 ρ π1 (I.grow g1 p1) p1 Q h1
    | false => exact hb.sem pot M σ H1 ρ π1 (I.grow g1 p1) p1 Q h1⟩
theorem dt_of (ha : DE X E r Γ a ta fa) (he : ∀ whole, isTrue a X.env whole = (do let v ← whole; standAt a.pos; holding [v] (truthy v)) := by intro _; rfl) : DT X E Γ a (fun σ H Q => ta σ H fun x H' => ∃ k, TruV X.K x H' k ∧ Q k H') (tOf fa) :=
  ⟨pt_truth ha.pe he, fun pot M σ H ρ π I p Q h => by
    refine Post.seqT (r := r) (te := ta σ H) h (fun Q' hq => ha.sem pot M σ H ρ π I p Q' hq) fun d π1 v H1 _ g1 p1 r1 h1 => ?_
    cases hz : truth d with
    | none =>
      simp only [hz, ofO_none, Res.bind_stuck] at h1
      exact h1.elim
    | some z =>
      simp only [hz, ofO_some, Res.bind_ok] at h1
      exact ⟨z, tru_of r1.toB hz, h1 H1 .refl p1⟩⟩
theorem sem_bl {t : TE} {f : Ed} (ha : SemE X.mg X.K E .f Γ t f) : SemT X.mg X.K E Γ (tTest t) (tBl f) := fun pot M σ H ρ π I p Q h => by
  refine Post.seqT (r := .f) (te := t σ H) h (fun Q' hq => ha pot M σ H ρ π I p Q' hq) fun d π1 v H1 _ g1 p1 r1 h1 => ?_
  cases d with
  | bl z =>
    cases rb_bl (RpR.toB (r := .f) r1)
    exact ⟨z, rfl, h1 H1 .refl p1⟩
  | _ => exact h1.elim
theorem dt_cmp {op : CmpOp} {r2 : R2} {g : D → D → Option D} (o : OpOk X (compareOp op) r2 .f g) (ha : DE X E ra Γ a ta fa) (hb : DE X E rb Γ b tb fb) (hm : behindInMarks op b = false := by rfl) : DT X E Γ (.Compare a [op] [b] pos) (tTest (tOp r2 ta tb)) (tBl (eBin g fa fb)) :=
  ⟨pt_cmpR o.1 ha.pe hb.pe hm, sem_bl (sem_bin o.2 ha.sem hb.sem)⟩
theorem dt_not (hc : DT X E Γ c tt ft) : DT X E Γ (.UnaryOp .Not c pos) (tNot tt) (tNotD ft) :=
  ⟨pt_not hc.pt, fun pot M σ H ρ π I p Q h => by
    refine PostT.seqT (te := tt σ H) h (fun Q' hq => hc.sem pot M σ H ρ π I p Q' hq) fun d π1 H1 _ g1 p1 h1 => ?_
    exact h1 H1 .refl p1⟩
theorem dw_or1 (hc : DT X E Γ c tt ft) : DW X E Γ (.BoolOp .Or [c] pos) tt ft := ⟨pw_or1 hc.pt, hc.sem⟩
theorem dw_or (hc : DT X E Γ a tt ft) (hb : DW X E Γ (.BoolOp .Or (b :: rest) pos) uu fu) : DW X E Γ (.BoolOp .Or (a :: b :: rest) pos) (tOr tt uu) (tOrD ft fu) :=
  ⟨pw_or hc.pt hb.pw, fun pot M σ H ρ π I p Q h => by
    refine PostT.seqT (te := tt σ H) h (fun Q' hq => hc.sem pot M σ H ρ π I p Q' hq) fun d π1 H1 _ g1 p1 h1 => ?_
    cases d with
    | true => exact h1 H1 .refl p1
    | false => exact hb.sem pot M σ H1 ρ π1 (I.grow g1 p1) p1 Q h1⟩
/-- a < b <= c -/
def eChain (g g' : D → D → Option D) (a b c : Ed) : Ed := fun ρ π => (a ρ π).bind fun x => (b ρ x.2).bind fun y => (ofO (g x.1 y.1)).bind fun z => match z with
  | .bl true => (c ρ y.2).bind fun u => (ofO (g' y.1 u.1)).bind fun q => .ok (q, u.2)
  | .bl false => .ok (.bl false, y.2)
  | _ => .stuck
theorem sem_chain {r2 r2' : R2} {g g' : D → D → Option D} (o : SemOp X.mg X.K r2 .f g) (o' : SemOp X.mg X.K r2' .f g') (ha : SemE X.mg X.K E ra Γ ta fa) (hb : SemE X.mg X.K E rb Γ tb fb) (hc : SemE X.mg X.K E rc Γ tc fc) :
    SemE X.mg X.K E .f Γ (tChain r2 r2' ta tb tc) (eChain g g' fa fb fc) := fun pot M σ H ρ π I p Q h => by
  refine Post.seq (r' := ra) (te := ta σ H) h p (fun Q' hq => ha pot M σ H ρ π I p Q' hq) fun d π1 v H1 _ g1 p1 r1 h1 => ?_
  refine Post.seq (r' := rb) (te := tb σ H1) h1 p1 (fun Q' hq => hb pot M σ H1 ρ π1 (I.grow g1 p1) p1 Q' hq) fun e π2 w H2 _ g2 p2 r2 h2 => ?_
  have I2 := I.grow (g1.trans g2) p2
  cases hz : g d e with
  | none =>
    simp only [hz, ofO_none, Res.bind_stuck] at h2
    exact h2.elim
  | some z =>
    simp only [hz, ofO_some, Res.bind_ok] at h2
    refine o pot M H2 v w d e z I2.al I.pm p2.has (r1.toB.grow I.pm g2) r2.toB hz _ fun u H3 s q => ?_
    have g3 : Grow pot H2 H3 := .of_same s
    have p3 := p2.same s
    cases z with
    | bl kk =>
      cases rb_bl (RpR.toB (r := .f) q)
      refine ⟨kk, rfl, ?_⟩
      cases kk with
      | true =>
        refine Post.seq (r' := rc) (te := tc σ H3) (Post.back g3 p2 h2) p3 (fun Q' hq => hc pot M σ H3 ρ π2 (I2.grow g3 p3) p3 Q' hq) fun f π4 w4 H4 _ g4 p4 r4 h4 => ?_
        cases hy : g' e f with
        | none =>
          simp only [hy, ofO_none, Res.bind_stuck] at h4
          exact h4.elim
        | some y =>
          simp only [hy, ofO_some, Res.bind_ok] at h4
          exact o' pot M H4 w w4 e f y ((I2.grow g3 p3).grow g4 p4).al I.pm p4.has (r2.toB.grow I.pm (g3.trans g4)) r4.toB hy Q fun u H5 s q => h4 u H5 (.of_same s) (p4.same s) q
      | false => exact h2 _ H3 g3 p3 (.bl _)
    | _ => exact h2.elim
theorem dt_chain {op op' : CmpOp} {r2 r2' : R2} {g g' : D → D → Option D} (o : OpOk X (compareOp op) r2 .f g) (o' : OpOk X (compareOp op') r2' .f g') (ha : DE X E ra Γ a ta fa) (hb : DE X E rb Γ b tb fb) (hc : DE X E rc Γ c tc fc)
    (hm : lastMarks [op, op'] [b, c] = false := by rfl) : DT X E Γ (.Compare a [op, op'] [b, c] pos) (tTest (tChain r2 r2' ta tb tc)) (tBl (eChain g g' fa fb fc)) :=
  ⟨pt_chain o.1 o'.1 ha.pe hb.pe hc.pe hm, sem_bl (sem_chain o.2 o'.2 ha.sem hb.sem hc.sem)⟩
theorem da_nil : DA X E [] Γ [] tNil aNil := ⟨pa_nil, fun pot M σ H ρ π I p Q h => h _ H .refl p .nil⟩
theorem sem_cons {kk : Ak} {ra : Rm} (hr : ∀ pot M H H' v d, (∀ a ∈ M, Al H a) → RpR X.mg X.K ra pot M H H' v d → ArgR X.mg X.K pot M H' kk v d) (ha : SemE X.mg X.K E ra Γ ta fa) (hA : SemA X.mg X.K E ks Γ tA fA) : SemA X.mg X.K E (kk :: ks) Γ (tCons ta tA) (aCons fa fA) :=
  fun pot M σ H ρ π I p Q h => by
    refine ha pot M σ H ρ π I p _ ?_
    unfold aCons at h
    cases e : fa ρ π with
    | ok x =>
      obtain ⟨d, π1⟩ := x
      rw [e] at h
      intro v H1 g1 p1 r1
      refine hA pot M σ H1 ρ π1 (I.grow g1 p1) p1 _ ?_
      cases e2 : fA ρ π1 with
      | ok y =>
        obtain ⟨ds, π2⟩ := y
        simp only [Res.bind_ok, e2] at h
        intro vs H2 g2 p2 r2
        exact h _ H2 (g1.trans g2) p2 (.cons ((hr _ _ _ _ _ _ I.al r1).grow I.pm g2) r2)
      | err c ns xs π' =>
        simp only [Res.bind_ok, e2, Res.bind_err] at h
        exact PErr.back h g1
      | stuck =>
        simp only [Res.bind_ok, e2, Res.bind_stuck] at h
        exact h
    | err c ns xs π' =>
      rw [e] at h
      exact h
    | stuck =>
      rw [e] at h
      exact h
theorem da_f (ha : DE X E .f Γ a ta fa) (hA : DA X E ks Γ es tA fA) (hs : starEach (a :: es) X.env = (false, eval a X.env) :: starEach es X.env := by rfl) : DA X E (.f :: ks) Γ (a :: es) (tCons ta tA) (aCons fa fA) :=
  ⟨pa_cons ha.pe hA.pa hs, sem_cons (kk := .f) (ra := .f) (fun _ _ _ _ _ _ _ h => h) ha.sem hA.sem⟩
theorem da_b (ha : DE X E r Γ a ta fa) (hA : DA X E ks Γ es tA fA) (hs : starEach (a :: es) X.env = (false, eval a X.env) :: starEach es X.env := by rfl) : DA X E (.b :: ks) Γ (a :: es) (tCons ta tA) (aCons fa fA) :=
  ⟨pa_cons ha.pe hA.pa hs, sem_cons (kk := .b) (fun _ _ _ _ _ _ _ h => h.toB) ha.sem hA.sem⟩
/-- the pot, the script handed on -/
theorem da_p (i : Nat) {x : Str} (hA : DA X E ks Γ es tA fA) (hN : X.N[i]? = some x := by rfl) (hv : Vis X.env.scope x := by first | exact Or.inl rfl | exact Or.inr (Or.inl rfl) | exact Or.inr (Or.inr rfl)) (hΓ : Γ[i]? = some .p := by rfl)
    (hd : (x == ("__debug__" : Str)) = false := by decide) (hcd : (x == ("__classdict__" : Str)) = false := by decide) (hs : starEach (.Name x pos :: es) X.env = (false, eval (.Name x pos) X.env) :: starEach es X.env := by rfl) :
    DA X E (.p :: ks) Γ (.Name x pos :: es) (tCons (tVar i) tA) (aCons (eC .non) fA) :=
  ⟨pa_cons (pe_var hN hv hd hcd) hA.pa hs, fun pot M σ H ρ π I p Q h => by
    obtain ⟨q, e, e1⟩ := I.p i hΓ
    refine ⟨_, e1, ?_⟩
    refine hA.sem pot M σ H ρ π I p _ ?_
    unfold aCons eC at h
    simp only [Res.bind_ok] at h
    cases e2 : fA ρ π with
    | ok y =>
      obtain ⟨ds, π2⟩ := y
      simp only [Res.bind_ok, e2] at h
      exact fun vs H2 g2 p2 r2 => h _ H2 g2 p2 (.cons ⟨q, e, rfl⟩ r2)
    | err c ns xs π' =>
      simp only [e2, Res.bind_err] at h
      exact h
    | stuck =>
      simp only [e2, Res.bind_stuck] at h
      exact h⟩
theorem da_s (i : Nat) {x : Str} (hA : DA X E ks Γ es tA fA) (hN : X.N[i]? = some x := by rfl) (hv : Vis X.env.scope x := by first | exact Or.inl rfl | exact Or.inr (Or.inl rfl) | exact Or.inr (Or.inr rfl)) (hΓ : Γ[i]? = some .s := by rfl)
    (hd : (x == ("__debug__" : Str)) = false := by decide) (hcd : (x == ("__classdict__" : Str)) = false := by decide) (hs : starEach (.Name x pos :: es) X.env = (false, eval (.Name x pos) X.env) :: starEach es X.env := by rfl) :
    DA X E (.s :: ks) Γ (.Name x pos :: es) (tCons (tVar i) tA) (aCons (eVar i) fA) :=
  ⟨pa_cons (pe_var hN hv hd hcd) hA.pa hs, fun pot M σ H ρ π I p Q h => by
    unfold aCons eVar at h
    split at h
    · rename_i d e
      obtain ⟨q, ns, e1, e2, e3⟩ := I.s i d hΓ e
      refine ⟨_, e1, ?_⟩
      refine hA.sem pot M σ H ρ π I p _ ?_
      simp only [Res.bind_ok] at h
      cases e2 : fA ρ π with
      | ok y =>
        obtain ⟨ds, π2⟩ := y
        simp only [Res.bind_ok, e2] at h
        exact fun vs H2 g2 p2 r2 => h _ H2 g2 p2 (.cons (ArgR.grow (k := .s) I.pm g2 ⟨q, ns, rfl, by assumption, e3⟩) r2)
      | err c ns xs π' =>
        simp only [e2, Res.bind_err] at h
        exact h
      | stuck =>
        simp only [e2, Res.bind_stuck] at h
        exact h
    · exact h.elim⟩
theorem PostA.seq {r : Rm} {pot : Option Addr} {M : List Addr} {H : Hp} {π : Pot} {x : Res (List D × Pot)} {kk : List D × Pot → Res (D × Pot)} {Q : VK} (h : Post X.mg X.K r pot M H (x.bind kk) Q E) (h0 : PotAt pot H π)
    {te : (List V → Hp → Prop) → Prop} (ht : ∀ Q', PostA X.mg X.K ks pot M H x Q' E → te Q') {R : List V → Hp → Prop}
    (hk : ∀ ds π1 vs H1, x = .ok (ds, π1) → Grow pot H H1 → PotAt pot H1 π1 → Args X.mg X.K pot M H1 ks vs ds → Post X.mg X.K r pot M H1 (kk (ds, π1)) Q E → R vs H1) : te R := by
  refine ht R ?_
  cases x with
  | ok a =>
    obtain ⟨d, π1⟩ := a
    exact fun vs H1 g p q => hk d π1 vs H1 rfl g p q (Post.back g h0 h)
  | err c ns xs π' => exact h
  | stuck => exact h
theorem de_tup {x1 : Nat} (hA : DA X E ks Γ es tA fA) (hk : ∀ k ∈ ks, k = Ak.f := by decide) : DE X E .f Γ (.Tuple es x1 pos) (tTup tA) (eTup fA) :=
  ⟨pe_tup hA.pa, fun pot M σ H ρ π I p Q h => by
    refine PostA.seq (ks := ks) (te := tA σ H) h p (fun Q' hq => hA.sem pot M σ H ρ π I p Q' hq) fun ds π1 vs H1 _ g1 p1 r1 h1 => ?_
    split at h1
    · rename_i hl
      have r2 := r1.rpl hk
      exact ⟨by rw [r2.length]; exact hl, fun q hn => h1 _ _ (.new hn) (p1.new hn) (new_tup (I.grow g1 p1).al hn r2)⟩
    · exact h1.elim⟩
theorem de_lst (hA : DA X E ks Γ es tA fA) (hk : ∀ k ∈ ks, k = Ak.f := by decide) : DE X E .o Γ (.List es pos) (tLst tA) (eLst fA) :=
  ⟨pe_lst hA.pa, fun pot M σ H ρ π I p Q h => by
    refine PostA.seq (ks := ks) (te := tA σ H) h p (fun Q' hq => hA.sem pot M σ H ρ π I p Q' hq) fun ds π1 vs H1 _ g1 p1 r1 h1 => ?_
    split at h1
    · rename_i hl
      have r2 := r1.rpl hk
      exact ⟨by rw [r2.length]; exact hl, fun q hn => h1 _ _ (.new hn) (p1.new hn) (new_lst p1.has hn r2)⟩
    · exact h1.elim⟩
def SemCall (mg : Str → Option Value) (K : PySem.W.Frag) (rc : List V → Hp → VK → Prop) (ks : List Ak) (rz : Rm) (g : List D → Option D) : Prop :=
  ∀ (pot : Option Addr) (M : List Addr) (H : Hp) (vs : List V) (ds : List D) (z : D), (∀ a ∈ M, Al H a) → (∀ a, pot = some a → a ∈ M) → (∀ a, pot = some a → H a ≠ none) → Args mg K pot M H ks vs ds → g ds = some z →
    ∀ Q : VK, (∀ v H', Same H H' → RpR mg K rz pot M H H' v z → Q v H') → rc vs H Q
abbrev CallOk (X : Cx) (f : Value) (rc : List V → Hp → VK → Prop) (ks : List Ak) (rz : Rm) (g : List D → Option D) : Prop := CallR X f rc ∧ SemCall X.mg X.K rc ks rz g
theorem sem_app {rc : List V → Hp → VK → Prop} {rz : Rm} {g : List D → Option D} (o : SemCall X.mg X.K rc ks rz g) (hA : SemA X.mg X.K E ks Γ tA fA) : SemE X.mg X.K E rz Γ (tCB rc tA) (eApp g fA) := fun pot M σ H ρ π I p Q h => by
  refine PostA.seq (ks := ks) (te := tA σ H) h p (fun Q' hq => hA pot M σ H ρ π I p Q' hq) fun ds π1 vs H1 _ g1 p1 r1 h1 => ?_
  cases hz : g ds with
  | none =>
    simp only [hz, ofO_none, Res.bind_stuck] at h1
    exact h1.elim
  | some z =>
    simp only [hz, ofO_some, Res.bind_ok] at h1
    exact o pot M H1 vs ds z (I.grow g1 p1).al I.pm p1.has r1 hz Q fun u H3 s q => h1 u H3 (.of_same s) (p1.same s) q
theorem de_callB {id : String} {x : Str} {p : Pos} {rc : List V → Hp → VK → Prop} {rz : Rm} {g : List D → Option D} (o : CallOk X (.builtin id) rc ks rz g) (hm : X.mg x = none) (hA : DA X E ks Γ (e :: es) tA fA) (hg : Gl X x := by rfl) (hv : bootBuiltins x = some (.builtin id) := by decide +kernel)
    (hn : x ≠ "__name__" := by decide) (hdb : (x == ("__debug__" : Str)) = false := by decide) (he : starEach (e :: es) X.env = (false, eval e X.env) :: starEach es X.env := by rfl) (hpl : (backTo pos (starEach es X.env)).any (·.1) = false := by rfl) :
    DE X E rz Γ (.Call (.Name x p) (e :: es) [] pos) (tCB rc tA) (eApp g fA) := ⟨pe_callB o.1 hg hm hv hA.pa hn hdb he hpl, sem_app o.2 hA.sem⟩
theorem de_callTy {T : String} {x : Str} {p : Pos} {rc : List V → Hp → VK → Prop} {rz : Rm} {g : List D → Option D} (o : CallOk X (.type T) rc ks rz g) (hm : X.mg x = none) (hA : DA X E ks Γ (e :: es) tA fA) (hg : Gl X x := by rfl) (hv : bootBuiltins x = some (.type T) := by decide +kernel)
    (hn : x ≠ "__name__" := by decide) (hdb : (x == ("__debug__" : Str)) = false := by decide) (he : starEach (e :: es) X.env = (false, eval e X.env) :: starEach es X.env := by rfl) (hpl : (backTo pos (starEach es X.env)).any (·.1) = false := by rfl) :
    DE X E rz Γ (.Call (.Name x p) (e :: es) [] pos) (tCB rc tA) (eApp g fA) := ⟨pe_callTy o.1 hg hm hv hA.pa hn hdb he hpl, sem_app o.2 hA.sem⟩
end
end DL
set_option maxHeartbeats 2000000
namespace DL
open PySem PySem.Spec PyProof.Rows L2
/-- a list (l) or a tuple at a -/
structure Src where
  l : Bool
  a : Addr
def Src.sq (K : PySem.W.Frag) (S : Src) (H : Hp) (xs : List V) : Prop := if S.l = true then SqL K H S.a xs else SqT K H S.a xs
def Src.it (S : Src) (h : Heap) (it : Addr) (i : Nat) : Prop := if S.l = true then h.IsListIter it S.a i else h.IsTupleIter it S.a i
def Src.is (S : Src) (h : Heap) (items : Array Value) : Prop := if S.l = true then h.IsList S.a items else h.IsTuple S.a items
def Src.ob (S : Src) : Obj := if S.l = true then { cls := .type "list_iterator", data := .fields #[.ref S.a, .int 0 0] } else { cls := .type "tuple_iterator", data := .fields #[.ref S.a, .int 0 0] }
section
variable {S : Src} {X : Cx} {pins : List (Addr × Obj)} {σ : L2.St} {H : Hp} {s : Shared} {h h' : Heap}
theorem Src.lay {xs : List V} (I : Inv X pins σ H s) (q : S.sq X.K H xs) : ∃ its, Vals xs its ∧ S.is s.heap its.toArray := by
  unfold Src.sq at q
  unfold Src.is
  split at q
  · rename_i e
    obtain ⟨its, rv, p, _⟩ := I.list q
    exact ⟨its, rv, by rw [if_pos e]; exact p.isList⟩
  · rename_i e
    obtain ⟨its, rv, p, _⟩ := I.tuple q
    exact ⟨its, rv, by rw [if_neg e]; exact p⟩
theorem Src.inj {xs ys : List V} (I : Inv X pins σ H s) (q : S.sq X.K H xs) (r : S.sq X.K H ys) : xs = ys := by
  unfold Src.sq at q r
  split at q
  · rename_i e
    rw [if_pos e] at r
    exact I.list_inj q r
  · rename_i e
    rw [if_neg e] at r
    exact I.tuple_inj q r
theorem Src.it_at {it : Addr} {i : Nat} (q : S.it h it i) (k : ∀ o, h.get? it = some o → h'.get? it = some o) : S.it h' it i := by
  unfold Src.it at q ⊢
  split at q
  · rename_i e
    rw [if_pos e]
    exact q.at k
  · rename_i e
    rw [if_neg e]
    exact q.at k
theorem Src.it_obj {it : Addr} {i : Nat} (q : S.it h it i) : ∃ o, h.get? it = some o ∧ ∀ v, o.data ≠ .cell v := by
  unfold Src.it at q
  split at q
  · obtain ⟨o, e, _, d⟩ := q
    exact ⟨o, e, fun v z => by rw [d] at z; cases z⟩
  · obtain ⟨o, e, _, d⟩ := q
    exact ⟨o, e, fun v z => by rw [d] at z; cases z⟩
theorem Src.is_lt {items : Array Value} (q : S.is h items) : S.a < h.objs.size := by
  unfold Src.is at q
  split at q
  · obtain ⟨o, e, _⟩ := q
    exact Heap.lt_size e
  · obtain ⟨o, e, _⟩ := q
    exact Heap.lt_size e
theorem Src.begins (items : Array Value) : Begins (.ref S.a) S.ob (fun h => S.is h items) := by
  obtain ⟨b, a⟩ := S
  cases b
  · exact begins_tuple a items
  · exact begins_list a items
theorem Src.it0 {it : Addr} (e : h.get? it = some S.ob) : S.it h it 0 := by
  unfold Src.ob at e
  unfold Src.it
  split at e
  · rename_i q
    rw [if_pos q]
    exact ⟨_, e, rfl, rfl⟩
  · rename_i q
    rw [if_neg q]
    exact ⟨_, e, rfl, rfl⟩
theorem Src.draws {A : Around} {prog : Program} {w : World} (hh : A.handled = none) (it : Addr) (hne : S.a ≠ it) (items : Array Value) :
    Draws prog w A it [it, S.a] items.size (fun i v => items[i]? = some v) (fun i h => S.it h it i ∧ S.is h items) := by
  obtain ⟨b, a⟩ := S
  cases b
  · exact .tuple hh it a hne items
  · exact .list hh it a hne items
end
def ItS (K : PySem.W.Frag) (S : Src) : It := if S.l = true then Itl K S.a else Itt K S.a
def iSeq (K : PySem.W.Frag) (tl : TE) : TI := fun σ H R => tl σ H fun x H1 => ∃ S : Src, x = .ref S.a ∧ (∃ xs, S.sq K H1 xs) ∧ R (ItS K S) H1
theorem pi_seq {X : Cx} {tg l : Expr} {tl : TE} (hl : PE X l tl) : PI X tg l (iSeq X.K tl) := by
  refine ⟨fun pins s σ H R I h => ?_⟩
  refine thn (hl.run pins s σ H _ I h) fun v s1 ⟨x, H1, I1, r1, q1⟩ => ?_
  obtain ⟨⟨b, a⟩, e, ⟨xs, hq⟩, q⟩ := q1
  subst e
  cases r1
  cases b
  · obtain ⟨its, rv, p, hz⟩ := I1.tuple hq
    refine wpAny_pyIter_tuple (show s1.heap.IsTuple a its.toArray from p) ⟨s1.heap.objs.size, [s1.heap.objs.size], _, _, H1, rfl, I1.kept (t' := s1.toks) fun b o e => Heap.get?_push_of_some _ e, turn_tuple a _, ⟨_, Heap.get?_push_size _ rfl, rfl, rfl⟩, fun b hb => ?_, q⟩
    rw [List.mem_singleton.mp hb]
    exact I1.fpOk (Nat.le_refl _) (I1.hok.fresh (Nat.le_refl _))
  · obtain ⟨its, rv, p, hz⟩ := I1.list hq
    refine wpAny_pyIter_list p.isList ⟨s1.heap.objs.size, [s1.heap.objs.size], _, _, H1, rfl, I1.kept (t' := s1.toks) fun b o e => Heap.get?_push_of_some _ e, turn_list a _, ⟨_, Heap.get?_push_size _ rfl, rfl, rfl⟩, fun b hb => ?_, q⟩
    rw [List.mem_singleton.mp hb]
    exact I1.fpOk (Nat.le_refl _) (I1.hok.fresh (Nat.le_refl _))
theorem walk_seq {K : PySem.W.Frag} {S : Src} {xs : List V} : Walk (ItS K S) xs.length (fun H => S.sq K H xs) (YAt xs) := by
  obtain ⟨b, a⟩ := S
  cases b
  · exact walk_tup
  · exact walk_list
/-- the item at place i of the sequence as it stands, in a new pair -/
def ItE (K : PySem.W.Frag) (S : Src) : It :=
  ⟨fun i H => ∃ xs x, S.sq K H xs ∧ xs[i]? = some x, fun i H v H' => ∃ T x, v = .ref T ∧ H T = none ∧ H' = upd H T (.tup [.int ((i : Nat) : Int), x]) ∧ ∀ xs, S.sq K H xs → xs[i]? = some x,
    fun i H => ∃ xs, S.sq K H xs ∧ xs.length = i⟩
theorem turn_enumS {P : Program} {w : World} {K : PySem.W.Frag} {elts : List Expr} {kk : Nat} {tpos : Pos} (S : Src) (e it : Addr) (ha : S.a ≠ e) (hb : S.a ≠ it) :
    Turn P w K (.Tuple elts kk tpos) (ItE K S) [e, it] e (fun i h => (∃ old, IsEnum h e it (0 + ((i : Nat) : Int)) old) ∧ S.it h it i ∧ e ≠ it) where
  mem := by simp
  obj := fun i h st b hb => by
    obtain ⟨⟨old, he⟩, hi, _⟩ := st
    rcases List.mem_cons.mp hb with z | z
    · rw [z]
      exact ⟨_, he, fun v q => nomatch q⟩
    · rw [List.mem_singleton.mp z]
      exact Src.it_obj hi
  keep := fun i h h' st k => by
    obtain ⟨⟨old, he⟩, hi, hne⟩ := st
    exact ⟨⟨old, k e (by simp) _ he⟩, Src.it_at hi fun o q => k it (by simp) o q, hne⟩
  item := by
    intro X hP hw hK hc i pins s σ H E I hf st hg
    subst hP hw hK
    obtain ⟨he, hit, hne⟩ := st
    obtain ⟨xs, x, hq, hx⟩ := hg
    obtain ⟨its, rv, p⟩ := Src.lay I hq
    obtain ⟨u, hu, ru⟩ := rv.get hx
    have hlt : i < its.toArray.size := by
      have := List.getElem?_eq_some_iff.mp hu
      obtain ⟨q, _⟩ := this
      simpa using q
    have hel : e < s.heap.objs.size := by
      obtain ⟨_, q⟩ := he
      exact Heap.lt_size q
    have hil : it < s.heap.objs.size := by
      obtain ⟨o, q, _⟩ := Src.it_obj hit
      exact Heap.lt_size q
    have G : GoesN X.prog X.w X.A (.Tuple elts kk tpos) e [e, it, S.a] [e, it] its.toArray.size _ _ := GoesN.enumFrom (elts := elts) (x1 := kk) (pos := tpos) 0 (Src.draws (S := S) (A := X.A.in1) (I.ok.hd hc) it hb its.toArray) e hne (by simp [hne, Ne.symm ha]) (by simp)
    refine thn (G.goes i s (fun v s2 => _) E hlt ⟨he, hit, p⟩ fun v h' tk hY st' hk _ => ?_) fun r s1 z => z
    obtain ⟨T, t, y, rfl, hT, hy, hTup⟩ := hY
    obtain ⟨he', hit', p'⟩ := st'
    have eu : y = u := by
      have : its.toArray[i]? = some u := by simpa using hu
      exact Option.some.inj (hy.symm.trans this)
    subst eu
    have new : ObjOk X.prog X.w (upd H T (.tup [.int ((i : Nat) : Int), x])) h' T (.tup [.int ((i : Nat) : Int), x]) := by
      refine ⟨by show 2 ≤ sizeLine; decide, [.int (0 + (i : Int)) t, y], .cons ⟨t, by rw [Int.zero_add]⟩ (.cons ru .nil), hTup⟩
    have I1 : Inv X pins σ (upd H T (.tup [.int ((i : Nat) : Int), x])) { s with heap := h', toks := tk } := I.turnedNew (ch := [e, it]) hk hf hT new
    refine ⟨.ref T, _, I1, rfl, ⟨T, x, rfl, I.hok.fresh hT, rfl, fun ys hy => by rw [Src.inj I hy hq]; exact hx⟩, ⟨he', hit', hne⟩, fun b hb => ?_⟩
    have hbl : b < s.heap.objs.size := by
      rcases List.mem_cons.mp hb with z | z
      · rw [z]; exact hel
      · rw [List.mem_singleton.mp z]; exact hil
    rw [upd_ne (Nat.ne_of_lt (Nat.lt_of_lt_of_le hbl hT))]
    exact (hf b hb).1
  done := by
    intro X hP hw hK hc i pins s σ H E I hf st hg
    subst hP hw hK
    obtain ⟨he, hit, hne⟩ := st
    obtain ⟨xs, hq, hx⟩ := hg
    obtain ⟨its, rv, p⟩ := Src.lay I hq
    have hl : i = its.toArray.size := by
      rw [← hx, rv.length]
      simp
    have G : GoesN X.prog X.w X.A (.Tuple elts kk tpos) e [e, it, S.a] [e, it] its.toArray.size _ _ := GoesN.enumFrom (elts := elts) (x1 := kk) (pos := tpos) 0 (Src.draws (S := S) (A := X.A.in1) (I.ok.hd hc) it hb its.toArray) e hne (by simp [hne, Ne.symm ha]) (by simp)
    subst hl
    exact G.stops s (fun s1 => Inv X pins σ H s1) E ⟨he, hit, p⟩ fun h' tk hk _ => I.turnedL (ch := [e, it]) hk hf
  self := fun A i s Q E st h => by
    obtain ⟨⟨_, he⟩, _⟩ := st
    exact wpAny_pyIter_enum he h
theorem meets_enum1 {v : Value} {o : Obj} {H : Heap → Prop} (B : Begins v o H) :
    Meets (Builtin.«enumerate.__new__» ⟨[.type "enumerate", v], []⟩) (fun _ R s => H s.heap ∧
      R (.ok (.ret (.ref (s.heap.push o).objs.size))) { s with heap := (s.heap.push o).push { cls := .type "enumerate", data := .fields #[.none, .bool false, .ref s.heap.objs.size, rawInt 0, .none, .none] } }) :=
  .of_wp fun prog w A R s h => by
    obtain ⟨hp, g, d, tk, os⟩ := s
    obtain ⟨h1, h⟩ := h
    have hsub := sub_enumerate
    have go : ∀ {A' : Around} {E : Value → Shared → Prop} {Q : Value → Shared → Prop}, Q (.ref hp.objs.size) ⟨hp.push o, g, d, tk, os⟩ → wpAny (model prog w) A' (pyIter v) Q E ⟨hp, g, d, tk, os⟩ :=
      fun q => B.iter prog w _ _ ⟨hp, g, d, tk, os⟩ _ h1 q
    wp_walk using go
    refine wpAny_stack_any fun st => wpAny_pure ?_
    split
    · rename_i c _ _ _ _ _
      cases (c == Value.type "enumerate")
      · wp_walk using go
        exact ⟨_, rfl, h⟩
      · wp_walk using go
        exact ⟨_, rfl, h⟩
    · wp_walk using go
      exact ⟨_, rfl, h⟩
theorem call_enum1 {prog : Program} {w : World} {A : Around} {E : Value → Shared → Prop} {s : Shared} {v : Value} {o : Obj} {H : Heap → Prop} {Q : Value → Shared → Prop} (B : Begins v o H) (h1 : H s.heap)
    (h : ∀ h', IsEnum h' (s.heap.objs.size + 1) s.heap.objs.size 0 .none → h'.get? s.heap.objs.size = some o → (∀ b o, s.heap.get? b = some o → h'.get? b = some o) → Q (.ref (s.heap.objs.size + 1)) { s with heap := h' }) :
    wpAny (model prog w) A (call (.type "enumerate") [v]) Q E s := by
  refine callType_new F.called_enumerate (by decide) (F.typeCall_enumerate_1 _) (F.newCall_enumerate_1 _) (fun obj => F.args_object_init_2 obj _) F.entry_enumerate_new (meets_enum1 B) ⟨h1, ?_⟩
  have hz : (s.heap.push o).objs.size = s.heap.objs.size + 1 := Heap.size_push ..
  show _ ∧ _
  rw [hz]
  have he : IsEnum ((s.heap.push o).push { cls := .type "enumerate", data := .fields #[.none, .bool false, .ref s.heap.objs.size, rawInt 0, .none, .none] }) (s.heap.objs.size + 1) s.heap.objs.size 0 .none := by
    have z := Heap.get?_push_size (s.heap.push o) (o := { cls := .type "enumerate", data := .fields #[.none, .bool false, .ref s.heap.objs.size, rawInt 0, .none, .none] }) rfl
    rw [hz] at z
    exact z
  exact ⟨⟨_, he, rfl⟩, h _ he (Heap.get?_push_of_some _ (Heap.get?_push_size _ B.free)) fun b o x => Heap.get?_push_of_some _ (Heap.get?_push_of_some _ x)⟩
def iEnumS (K : PySem.W.Frag) (ta : TA) : TI := fun σ H R => ta σ H fun vs H1 => ∃ S : Src, vs = [.ref S.a] ∧ (∃ xs, S.sq K H1 xs) ∧ R (ItE K S) H1
theorem pi_enumS {X : Cx} {e : Expr} {ta : TA} {p pos tpos : Pos} {elts : List Expr} {kk : Nat} (hg : Gl X "enumerate") (hm : X.mg "enumerate" = none) (ha : PA X [e] ta) (hs : starEach [e] X.env = [(false, eval e X.env)] := by rfl) :
    PI X (.Tuple elts kk tpos) (.Call (.Name "enumerate" p) [e] [] pos) (iEnumS X.K ta) := by
  refine ⟨fun pins s σ H R I h => ?_⟩
  refine Call_ (ld_blt I hg hm boot_enumerate (PyProof.Rows.callWith_type1 (thn (ha.run pos pins s σ H _ I h) fun us s1 ⟨vs, H1, I1, r1, q1⟩ => ?_) hs rfl))
  obtain ⟨S, ex, ⟨xs, hq⟩, q⟩ := q1
  subst ex
  cases r1 with
  | cons r rr =>
    cases rr
    cases r
    obtain ⟨its, rv, p'⟩ := Src.lay I1 hq
    refine call_enum1 (Src.begins (S := S) its.toArray) p' fun h' he hit hk => wpAny_pyIter_enum he ?_
    have I2 : Inv X pins σ H1 { s1 with heap := h' } := I1.kept (t' := s1.toks) hk
    have la := Src.is_lt p'
    refine ⟨s1.heap.objs.size + 1, [s1.heap.objs.size + 1, s1.heap.objs.size], _, _, H1, rfl, I2, turn_enumS S (s1.heap.objs.size + 1) s1.heap.objs.size (Nat.ne_of_lt (Nat.lt_succ_of_lt la)) (Nat.ne_of_lt la), ⟨⟨.none, he⟩, Src.it0 hit, Nat.succ_ne_self _⟩, fun b hb => ?_, q⟩
    have hle : s1.heap.objs.size ≤ b := by
      rcases List.mem_cons.mp hb with z | z
      · rw [z]; exact Nat.le_add_right _ _
      · rw [List.mem_singleton.mp z]; exact Nat.le_refl _
    exact I1.fpOk hle (I1.hok.fresh hle)
theorem walk_enumS {K : PySem.W.Frag} {S : Src} {xs : List V} : Walk (ItE K S) xs.length (fun H => S.sq K H xs) (YPair (fun i => some (.int ((i : Nat) : Int))) (fun i => xs[i]?)) where
  goes := fun i H hi q => ⟨xs, xs[i], q, by simp [hi]⟩
  stops := fun H q => ⟨xs, q, rfl⟩
  yields := fun i H x H' hi q y => by
    obtain ⟨T, y, e1, e2, e3, e4⟩ := y
    exact ⟨T, _, y, e1, e2, e3, rfl, e4 xs q⟩
end DL
set_option maxHeartbeats 2000000
namespace DL
open PySem PySem.Spec PyProof.Rows L2
abbrev Ei := Rho → Pot → Res (List D × Pot)
section
variable (mg : Str → Option Value) (K : PySem.W.Frag)
/-- an iterator gives these data; w: as long as nothing but the pot changes -/
structure WalkD (w : Bool) (pot : Option Addr) (M : List Addr) (H1 : Hp) (J : It) (items : List D) (G : Hp → Prop) (Y : Nat → Hp → V → Hp → Prop) : Prop where
  walk : Walk J items.length G Y
  stay : ∀ H' M', (w = true → Grow pot H1 H') → Same (less H1 M) (less H' M') → G H'
  item : ∀ i H x H' M', (w = true → Grow pot H1 H) → Same (less H1 M) (less H M') → (∀ a ∈ M', Al H a) → i < items.length → Y i H x H' → Same H H' ∧ ∃ d, items[i]? = some d ∧ Rp mg K (less H' M') x d
def PostI (w : Bool) (pot : Option Addr) (M : List Addr) (H : Hp) (x : Res (List D × Pot)) (R : It → Hp → Prop) (E : XK) : Prop := match x with
  | .ok (items, π) => ∀ J H1 G Y, Grow pot H H1 → PotAt pot H1 π → WalkD mg K w pot M H1 J items G Y → R J H1
  | .err c ns xs π => PErr mg K pot M H c ns xs π E
  | .stuck => False
def SemI (w : Bool) (E : XK) (Γ : List Md) (wi : TI) (fi : Ei) : Prop :=
  ∀ pot M σ H ρ π, EnvOk mg K Γ pot M σ H ρ → PotAt pot H π → ∀ R, PostI mg K w pot M H (fi ρ π) R E → wi σ H R
/-- a target: the slots that it sets -/
def SemG (Γ : List Md) (is : List Nat) (g : TG) (fg : D → Rho → Option Rho) : Prop :=
  ∀ pot M σ H ρ v d, EnvOk mg K Γ pot M σ H ρ → Rp mg K (less H M) v d → ∀ ρ', fg d ρ = some ρ' → ∀ Q : L2.St → Hp → Prop, (∀ σ', EnvOk mg K Γ pot M σ' H ρ' → (∀ i, i ∉ is → σ'[i]? = σ[i]?) → (∀ i, i ∉ is → ρ'[i]? = ρ[i]?) → Q σ' H) → g v σ H Q
def SemGs (Γ : List Md) (is : List Nat) (g : TGs) (fg : List D → Rho → Option Rho) : Prop :=
  ∀ pot M σ H ρ vs ds, EnvOk mg K Γ pot M σ H ρ → RpL mg K (less H M) vs ds → ∀ ρ', fg ds ρ = some ρ' → ∀ Q : L2.St → Hp → Prop, (∀ σ', EnvOk mg K Γ pot M σ' H ρ' → (∀ i, i ∉ is → σ'[i]? = σ[i]?) → (∀ i, i ∉ is → ρ'[i]? = ρ[i]?) → Q σ' H) → g vs σ H Q
end
structure DI (w : Bool) (X : Cx) (E : XK) (Γ : List Md) (tg iter : Expr) (wi : TI) (fi : Ei) : Prop where
  pi : PI X tg iter wi
  sem : SemI X.mg X.K w E Γ wi fi
structure DG (X : Cx) (Γ : List Md) (tg : Expr) (is : List Nat) (g : TG) (fg : D → Rho → Option Rho) : Prop where
  pg : PG X tg g
  fs : ∀ i ∈ is, Γ[i]? = some .f
  sem : SemG X.mg X.K Γ is g fg
structure DGs (X : Cx) (Γ : List Md) (tgs : List Expr) (is : List Nat) (g : TGs) (fg : List D → Rho → Option Rho) : Prop where
  pgs : PGs X tgs g
  fs : ∀ i ∈ is, Γ[i]? = some .f
  sem : SemGs X.mg X.K Γ is g fg
def gN (i : Nat) : D → Rho → Option Rho := fun d ρ => some (ρ.set i (some d))
def gsNil : List D → Rho → Option Rho := fun ds ρ => match ds with
  | [] => some ρ
  | _ => none
def gsCons (a : D → Rho → Option Rho) (b : List D → Rho → Option Rho) : List D → Rho → Option Rho := fun ds ρ => match ds with
  | d :: r => (a d ρ).bind (b r)
  | [] => none
def gT (n : Nat) (b : List D → Rho → Option Rho) : D → Rho → Option Rho := fun d ρ => match d with
  | .tup ds => if ds.length = n then b ds ρ else none
  | _ => none
section
variable {mg : Str → Option Value} {K : PySem.W.Frag} {pot : Option Addr} {M : List Addr} {H H' : Hp} {v : V} {d : D} {Γ : List Md} {σ : L2.St} {ρ : Rho}
theorem EnvOk.setf (I : EnvOk mg K Γ pot M σ H ρ) {i : Nat} (hi : Γ[i]? = some .f) (r : Rp mg K (less H M) v d) : EnvOk mg K Γ pot M (σ.set i (some v)) H (ρ.set i (some d)) where
  ls := by rw [List.length_set]; exact I.ls
  lr := by rw [List.length_set]; exact I.lr
  f := fun j e h1 h2 => by
    by_cases e1 : i = j
    · subst e1
      have hl : i < ρ.length := by rw [I.lr]; exact (List.getElem?_eq_some_iff.mp hi).1
      have hs : i < σ.length := by rw [I.ls]; exact (List.getElem?_eq_some_iff.mp hi).1
      rw [List.getElem?_set_self hl] at h2
      cases h2
      exact ⟨v, by rw [List.getElem?_set_self hs], r⟩
    · rw [List.getElem?_set_ne e1] at h2
      obtain ⟨u, q, z⟩ := I.f j e h1 h2
      exact ⟨u, by rw [List.getElem?_set_ne e1]; exact q, z⟩
  o := fun j e h1 h2 => by
    have e1 : i ≠ j := fun q => by rw [q, h1] at hi; cases hi
    rw [List.getElem?_set_ne e1] at h2
    obtain ⟨p, q, z⟩ := I.o j e h1 h2
    exact ⟨p, by rw [List.getElem?_set_ne e1]; exact q, z⟩
  p := fun j h1 => by
    have e1 : i ≠ j := fun q => by rw [q, h1] at hi; cases hi
    obtain ⟨p, q, z⟩ := I.p j h1
    exact ⟨p, q, by rw [List.getElem?_set_ne e1]; exact z⟩
  s := fun j e h1 h2 => by
    have e1 : i ≠ j := fun q => by rw [q, h1] at hi; cases hi
    rw [List.getElem?_set_ne e1] at h2
    obtain ⟨p, ns, q, z⟩ := I.s j e h1 h2
    exact ⟨p, ns, by rw [List.getElem?_set_ne e1]; exact q, z⟩
  ap := fun j k a b c h1 h2 h3 h4 h5 h6 => by
    have e1 : i ≠ j := fun q => by rw [q, h1] at hi; cases hi
    have e2 : i ≠ k := fun q => by rw [q, h2] at hi; cases hi
    rw [List.getElem?_set_ne e1] at h3 h5
    rw [List.getElem?_set_ne e2] at h4 h6
    exact I.ap j k a b c h1 h2 h3 h4 h5 h6
  al := I.al
  pm := I.pm
  x := fun j a dd e h1 h2 => by
    have e1 : i ≠ j := fun q => by rw [q, h1] at hi; cases hi
    rw [List.getElem?_set_ne e1] at h2
    obtain ⟨z1, z2⟩ := I.x j a dd e h1 h2
    exact ⟨by rw [List.getElem?_set_ne e1]; exact z1, z2⟩
end
section
variable {X : Cx} {E : XK} {Γ : List Md} {pos : Pos} {k : Nat}
theorem dg_name (i : Nat) {x : Str} (hN : X.N.Nodup) (hi : X.N[i]? = some x := by rfl) (hx : Loc X.env.scope x := by first | exact Or.inl rfl | exact Or.inr rfl) (hΓ : Γ[i]? = some .f := by rfl)
    (hf : X.fn x = true ∨ X.env.scope.names.lookup x = some .local := by first | exact .inl rfl | exact .inr rfl) : DG X Γ (.Name x pos) [i] (gName i) (gN i) :=
  ⟨pg_name hN hi hx hf, fun j hj => by rw [List.mem_singleton.mp hj]; exact hΓ, fun pot M σ H ρ v d I r ρ' h Q q => by
    cases h
    refine q _ (I.setf hΓ r) (fun j hj => ?_) fun j hj => ?_
    · rw [List.getElem?_set_ne (fun e => hj (by simp [e]))]
    · rw [List.getElem?_set_ne (fun e => hj (by simp [e]))]⟩
theorem dgs_nil : DGs X Γ [] [] gNil gsNil := ⟨pgs_nil, (fun _ h => by cases h), fun pot M σ H ρ vs ds I r ρ' h Q q => by
  cases r with
  | nil =>
    cases h
    exact ⟨rfl, q σ I (fun _ _ => rfl) fun _ _ => rfl⟩
  | cons => cases h⟩
theorem dgs_cons {e : Expr} {es : List Expr} {is js : List Nat} {g : TG} {gs : TGs} {fg : D → Rho → Option Rho} {fgs : List D → Rho → Option Rho} (a : DG X Γ e is g fg) (b : DGs X Γ es js gs fgs)
    (hs : (assignEach (e :: es) X.env).map (·.2) = assign e X.env :: (assignEach es X.env).map (·.2) := by rfl) : DGs X Γ (e :: es) (is ++ js) (gCons g gs) (gsCons fg fgs) :=
  ⟨pgs_cons a.pg b.pgs hs, fun i hi => (List.mem_append.mp hi).elim (a.fs i) (b.fs i), fun pot M σ H ρ vs ds I r ρ' h Q q => by
    cases r with
    | nil => cases h
    | cons r1 r2 =>
      rename_i v ws d es
      unfold gsCons at h
      simp only [Option.bind_eq_some_iff] at h
      obtain ⟨ρ1, h1, h2⟩ := h
      refine ⟨v, ws, rfl, a.sem pot M σ H ρ v d I r1 ρ1 h1 _ fun σ1 I1 s1 s2 => ?_⟩
      refine b.sem pot M σ1 H ρ1 ws es I1 r2 ρ' h2 _ fun σ2 I2 s3 s4 => q σ2 I2 (fun i hi => ?_) fun i hi => ?_
      · rw [s3 i fun z => hi (List.mem_append_right _ z), s1 i fun z => hi (List.mem_append_left _ z)]
      · rw [s4 i fun z => hi (List.mem_append_right _ z), s2 i fun z => hi (List.mem_append_left _ z)]⟩
theorem dg_tup {es : List Expr} {is : List Nat} {gs : TGs} {fgs : List D → Rho → Option Rho} {kk : Nat} (hc : X.calm = true) (b : DGs X Γ es is gs fgs)
    (hn : (assignEach es X.env).length = es.length := by rfl) (hst : (assignEach es X.env).findIdx? (·.1) = none := by rfl) : DG X Γ (.Tuple es kk pos) is (gTup X.K es.length gs) (gT es.length fgs) :=
  ⟨pg_tup hc b.pgs hn hst, b.fs, fun pot M σ H ρ v d I r ρ' h Q q => by
    cases d with
    | tup ds =>
      unfold gT at h
      simp only at h
      split at h
      · rename_i hl
        cases r with
        | tup h1 h2 =>
          exact ⟨_, _, rfl, .inl (.inl (less_le _ _ h1)), by rw [h2.length]; exact hl, b.sem pot M σ H ρ _ ds I h2 ρ' h Q q⟩
      · cases h
    | _ => cases h⟩
end
def seqOf : D → Option (List D)
  | .lst xs => some xs
  | .tup xs => some xs
  | _ => none
def iVal (a : Ed) : Ei := fun ρ π => (a ρ π).bind fun x => (ofO (seqOf x.1)).bind fun z => .ok (z, x.2)
def numbered : Nat → List D → List D
  | _, [] => []
  | n, x :: xs => .tup [.int (n : Int), x] :: numbered (n + 1) xs
def iEnumD (a : Ea) : Ei := fun ρ π => (a ρ π).bind fun x => match x.1 with
  | [d] => (ofO (seqOf d)).bind fun z => .ok (numbered 0 z, x.2)
  | _ => .stuck
def rangeD (lo c : Int) (n : Nat) : List D := (List.range n).map fun (i : Nat) => .int (lo + (i : Int) * c)
def mid62 (i : Int) : Bool := decide (-4611686018427387904 ≤ i ∧ i < 4611686018427387904)
def rng (xs : List D) : Option (List D) := match xs with
  | [.int j] => if mid62 j then some (rangeD 0 1 j.toNat) else none
  | [.int i, .int j] => if mid62 i && mid62 j then some (rangeD i 1 (j - i).toNat) else none
  | _ => none
def iRng (a : Ea) : Ei := fun ρ π => (a ρ π).bind fun x => (ofO (rng x.1)).bind fun z => .ok (z, x.2)
/-- range(i, j, -1) -/
def rngDown (xs : List D) : Option (List D) := match xs with
  | [.int i, .int j, .int c] => if mid62 i && mid62 j && decide (c = -1) then some (rangeD i (-1) (i - j).toNat) else none
  | _ => none
def iRngDown (a : Ea) : Ei := fun ρ π => (a ρ π).bind fun x => (ofO (rngDown x.1)).bind fun z => .ok (z, x.2)
theorem numbered_get : ∀ (xs : List D) (n i : Nat), (numbered n xs)[i]? = (xs[i]?).map fun x => .tup [.int ((n + i : Nat) : Int), x]
  | [], n, i => by simp [numbered]
  | x :: xs, n, 0 => by simp [numbered]
  | x :: xs, n, i + 1 => by
    show (numbered (n + 1) xs)[i]? = _
    rw [numbered_get xs (n + 1) i]
    simp [Nat.add_comm, Nat.add_left_comm]
theorem numbered_len : ∀ (xs : List D) (n : Nat), (numbered n xs).length = xs.length
  | [], n => rfl
  | x :: xs, n => by
    show (numbered (n + 1) xs).length + 1 = xs.length + 1
    rw [numbered_len xs (n + 1)]
section
variable {mg : Str → Option Value} {K : PySem.W.Frag} {pot : Option Addr} {M : List Addr} {H H1 H' : Hp} {v x : V} {d : D} {ds : List D}
/-- a list or a tuple of data: where it lies -/
theorem seq_src (h : Rp mg K (less H M) x d) (e : seqOf d = some ds) : ∃ (S : Src) (xs : List V), x = .ref S.a ∧ S.sq K (less H M) xs ∧ RpL mg K (less H M) xs ds := by
  cases d with
  | lst es =>
    cases e
    cases h with
    | lst h1 h2 => exact ⟨⟨true, _⟩, _, rfl, .inl (.inl h1), h2⟩
  | tup es =>
    cases e
    cases h with
    | tup h1 h2 => exact ⟨⟨false, _⟩, _, rfl, .inl (.inl h1), h2⟩
  | _ => cases e
theorem sq_mono {S : Src} {xs : List V} (e : Same H H') (h : S.sq K H xs) : S.sq K H' xs := by
  unfold Src.sq at h ⊢
  split at h
  · rename_i q
    rw [if_pos q]
    exact sqL_mono e h
  · rename_i q
    rw [if_neg q]
    exact sqT_mono e h
theorem walkS {w : Bool} {S : Src} {xs : List V} (r : RpL mg K (less H1 M) xs ds) (st : ∀ H' M', (w = true → Grow pot H1 H') → Same (less H1 M) (less H' M') → S.sq K H' xs) : WalkD mg K w pot M H1 (ItS K S) ds (fun H => S.sq K H xs) (YAt xs) where
  walk := by
    rw [← r.length]
    exact walk_seq
  stay := st
  item := fun i H x H' M' _ s _ hi y => by
    obtain ⟨rfl, y⟩ := y
    obtain ⟨d, e, q⟩ := r.getV y
    exact ⟨Same.refl _, d, e, q.mono s⟩
theorem walkE {w : Bool} {S : Src} {xs : List V} (r : RpL mg K (less H1 M) xs ds) (st : ∀ H' M', (w = true → Grow pot H1 H') → Same (less H1 M) (less H' M') → S.sq K H' xs) :
    WalkD mg K w pot M H1 (ItE K S) (numbered 0 ds) (fun H => S.sq K H xs) (YPair (fun i => some (.int ((i : Nat) : Int))) (fun i => xs[i]?)) where
  walk := by
    rw [numbered_len, ← r.length]
    exact walk_enumS
  stay := st
  item := fun i H x H' M' _ s al hi y => by
    obtain ⟨T, a, b, rfl, hT, rfl, e1, e2⟩ := y
    cases e1
    obtain ⟨d, e, q⟩ := r.getV e2
    refine ⟨same_upd hT, .tup [.int (i : Int), d], ?_, new_tup al hT (.cons (.int _) (.cons (q.mono s) .nil))⟩
    rw [numbered_get, e]
    simp
end
theorem args1 {mg : Str → Option Value} {K : PySem.W.Frag} {pot : Option Addr} {M : List Addr} {H : Hp} {k : Ak} {vs : List V} {ds : List D} (h : Args mg K pot M H [k] vs ds) : ∃ v d, vs = [v] ∧ ds = [d] ∧ ArgR mg K pot M H k v d := by
  cases h with
  | cons a r =>
    cases r
    exact ⟨_, _, rfl, rfl, a⟩
theorem args2 {mg : Str → Option Value} {K : PySem.W.Frag} {pot : Option Addr} {M : List Addr} {H : Hp} {k l : Ak} {vs : List V} {ds : List D} (h : Args mg K pot M H [k, l] vs ds) : ∃ v d w e, vs = [v, w] ∧ ds = [d, e] ∧ ArgR mg K pot M H k v d ∧ ArgR mg K pot M H l w e := by
  cases h with
  | cons a r =>
    obtain ⟨w, e, rfl, rfl, b⟩ := args1 r
    exact ⟨_, _, _, _, rfl, rfl, a, b⟩
section
variable {X : Cx} {E : XK} {Γ : List Md} {pos p tpos : Pos} {k kk : Nat} {r : Rm} {e tg : Expr} {te : TE} {fe : Ed} {es elts : List Expr} {tA : TA} {fA : Ea} {ks : List Ak}
theorem PostI.seq {w : Bool} {pot : Option Addr} {M : List Addr} {H : Hp} {x : Res (D × Pot)} {kk : D × Pot → Res (List D × Pot)} {R0 : It → Hp → Prop} (h : PostI X.mg X.K w pot M H (x.bind kk) R0 E)
    {te : VK → Prop} (ht : ∀ Q', Post X.mg X.K r pot M H x Q' E → te Q') {R : VK}
    (hk : ∀ d π1 v H1, x = .ok (d, π1) → Grow pot H H1 → PotAt pot H1 π1 → RpR X.mg X.K r pot M H H1 v d → PostI X.mg X.K w pot M H1 (kk (d, π1)) R0 E → R v H1) : te R := by
  refine ht R ?_
  cases x with
  | ok a =>
    obtain ⟨d, π1⟩ := a
    refine fun v H1 g p q => hk d π1 v H1 rfl g p q ?_
    simp only [Res.bind_ok] at h
    cases e : kk (d, π1) with
    | ok b =>
      rw [e] at h
      exact fun J H2 G Y g2 p2 w2 => h J H2 G Y (g.trans g2) p2 w2
    | err c ns xs π' =>
      rw [e] at h
      exact PErr.back h g
    | stuck =>
      rw [e] at h
      exact h
  | err c ns xs π' => exact h
  | stuck => exact h
theorem PostI.seqA {w : Bool} {pot : Option Addr} {M : List Addr} {H : Hp} {x : Res (List D × Pot)} {kk : List D × Pot → Res (List D × Pot)} {R0 : It → Hp → Prop} (h : PostI X.mg X.K w pot M H (x.bind kk) R0 E)
    {te : (List V → Hp → Prop) → Prop} (ht : ∀ Q', PostA X.mg X.K ks pot M H x Q' E → te Q') {R : List V → Hp → Prop}
    (hk : ∀ ds π1 vs H1, x = .ok (ds, π1) → Grow pot H H1 → PotAt pot H1 π1 → Args X.mg X.K pot M H1 ks vs ds → PostI X.mg X.K w pot M H1 (kk (ds, π1)) R0 E → R vs H1) : te R := by
  refine ht R ?_
  cases x with
  | ok a =>
    obtain ⟨d, π1⟩ := a
    refine fun v H1 g p q => hk d π1 v H1 rfl g p q ?_
    simp only [Res.bind_ok] at h
    cases e : kk (d, π1) with
    | ok b =>
      rw [e] at h
      exact fun J H2 G Y g2 p2 w2 => h J H2 G Y (g.trans g2) p2 w2
    | err c ns xs π' =>
      rw [e] at h
      exact PErr.back h g
    | stuck =>
      rw [e] at h
      exact h
  | err c ns xs π' => exact h
  | stuck => exact h
theorem di_seq (ha : DE X E .f Γ e te fe) : DI false X E Γ tg e (iSeq X.K te) (iVal fe) :=
  ⟨pi_seq ha.pe, fun pot M σ H ρ π I p R h => by
    refine PostI.seq (r := .f) (te := te σ H) h (fun Q' hq => ha.sem pot M σ H ρ π I p Q' hq) fun d π1 v H1 _ g1 p1 r1 h1 => ?_
    cases hz : seqOf d with
    | none =>
      simp only [hz, ofO_none, Res.bind_stuck] at h1
      exact h1.elim
    | some ds =>
      simp only [hz, ofO_some, Res.bind_ok] at h1
      obtain ⟨S, xs, e1, e2, e3⟩ := seq_src r1 hz
      exact ⟨S, e1, ⟨xs, sq_mono less_le e2⟩, h1 _ H1 _ _ .refl p1 (walkS e3 fun H' M' _ s => sq_mono less_le (sq_mono s e2))⟩⟩
theorem di_enum (hm : X.mg "enumerate" = none) (ha : DA X E [.f] Γ [e] tA fA) (hg : Gl X "enumerate" := by rfl) (hs : starEach [e] X.env = [(false, eval e X.env)] := by rfl) : DI false X E Γ (.Tuple elts kk tpos) (.Call (.Name "enumerate" p) [e] [] pos) (iEnumS X.K tA) (iEnumD fA) :=
  ⟨pi_enumS hg hm ha.pa hs, fun pot M σ H ρ π I p R h => by
    refine PostI.seqA (ks := [.f]) (te := tA σ H) h (fun Q' hq => ha.sem pot M σ H ρ π I p Q' hq) fun ds π1 vs H1 _ g1 p1 r1 h1 => ?_
    obtain ⟨v, d, rfl, rfl, a⟩ := args1 r1
    · simp only at h1
      cases hz : seqOf d with
      | none =>
        simp only [hz, ofO_none, Res.bind_stuck] at h1
        exact h1.elim
      | some ds =>
        simp only [hz, ofO_some, Res.bind_ok] at h1
        obtain ⟨S, xs, e1, e2, e3⟩ := seq_src (show Rp X.mg X.K (less H1 M) v d from a) hz
        subst e1
        exact ⟨S, rfl, ⟨xs, sq_mono less_le e2⟩, h1 _ H1 _ _ .refl p1 (walkE e3 fun H' M' _ s => sq_mono less_le (sq_mono s e2))⟩⟩
theorem mid_of {i : Int} (h : mid62 i = true) : -(2 ^ 62) ≤ i ∧ i < 2 ^ 62 := by
  unfold mid62 at h
  have := of_decide_eq_true h
  omega
theorem rangeD_get {lo c : Int} {n i : Nat} (h : i < n) : (rangeD lo c n)[i]? = some (.int (lo + (i : Int) * c)) := by
  unfold rangeD
  rw [List.getElem?_map, List.getElem?_range h]
  rfl
theorem rangeD_len (lo c : Int) (n : Nat) : (rangeD lo c n).length = n := by
  unfold rangeD
  rw [List.length_map, List.length_range]
theorem walkR {w : Bool} {pot : Option Addr} {M : List Addr} {H1 : Hp} {lo : Int} {n : Nat} : WalkD X.mg X.K w pot M H1 (Itr lo n) (rangeD lo 1 n) (fun _ => True) (YFn fun i => .int (lo + i)) where
  walk := by
    rw [rangeD_len]
    exact walk_range
  stay := fun _ _ _ _ => trivial
  item := fun i H x H' M' _ s al hi y => by
    obtain ⟨rfl, rfl⟩ := y
    rw [rangeD_len] at hi
    exact ⟨Same.refl _, _, rangeD_get hi, by rw [Int.mul_one]; exact .int _⟩
theorem di_range1 (hm : X.mg "range" = none) (ha : DA X E [.f] Γ [e] tA fA) (hg : Gl X "range" := by rfl) (hs : starEach [e] X.env = [(false, eval e X.env)] := by rfl) : DI false X E Γ tg (.Call (.Name "range" p) [e] [] pos) (iRng1 tA) (iRng fA) :=
  ⟨pi_range1 hg hm ha.pa hs, fun pot M σ H ρ π I p R h => by
    refine PostI.seqA (ks := [.f]) (te := tA σ H) h (fun Q' hq => ha.sem pot M σ H ρ π I p Q' hq) fun ds π1 vs H1 _ g1 p1 r1 h1 => ?_
    obtain ⟨v, d, rfl, rfl, a⟩ := args1 r1
    cases d with
    | int j =>
      cases rb_int (.inl (show Rp X.mg X.K (less H1 M) v (.int j) from a) : Rb X.mg X.K pot M H1 v (.int j))
      simp only [rng] at h1
      split at h1
      · rename_i hj
        obtain ⟨q1, q2⟩ := mid_of hj
        exact ⟨j, rfl, q1, q2, h1 _ H1 _ _ .refl p1 walkR⟩
      · exact h1.elim
    | _ => exact h1.elim⟩
end
end DL
set_option maxHeartbeats 2000000
namespace DL
open PySem PySem.Spec PyProof.Rows L2
def safe {α : Type} : Res α → Res α
  | .ok a => .ok a
  | _ => .stuck
@[simp] theorem safe_ok {α : Type} (a : α) : safe (Res.ok a) = .ok a := rfl
def lcGo (fg : D → Rho → Option Rho) (ft : Et) (fe : Ed) (ρ : Rho) : List D → Pot → Res (List D × Pot)
  | [], π => .ok ([], π)
  | d :: ds, π => (ofO (fg d ρ)).bind fun ρ1 => (safe (ft ρ1 π)).bind fun b => if b.1 = true then (safe (fe ρ1 b.2)).bind fun x => (lcGo fg ft fe ρ ds x.2).bind fun r => .ok (x.1 :: r.1, r.2) else lcGo fg ft fe ρ ds b.2
def wipeD (ρ : Rho) : List Nat → Rho
  | [] => ρ
  | v :: vs => (wipeD ρ vs).set v none
def eLC (fi : Ei) (fg : D → Rho → Option Rho) (ft : Et) (fe : Ed) (vs : List Nat) : Ed := fun ρ π => (fi ρ π).bind fun x => if x.1.length < sizeLine then (lcGo fg ft fe (wipeD ρ vs) x.1 x.2).bind fun r => .ok (.lst r.1, r.2) else .stuck
def tTrue : Et := fun _ π => .ok (true, π)
section
variable {mg : Str → Option Value} {K : PySem.W.Frag} {pot : Option Addr} {M : List Addr} {H H1 H' : Hp} {v : V} {d : D} {Γ : List Md} {σ : L2.St} {ρ : Rho} {π : Pot}
theorem safe_ne {α : Type} {x : Res α} {c : Str} {ns : List Str} {xs : List D} : safe x ≠ .err c ns xs π := by
  cases x <;> simp [safe]
theorem lcGo_ne {fg : D → Rho → Option Rho} {ft : Et} {fe : Ed} {c : Str} {ns : List Str} {xs : List D} {π' : Pot} : ∀ (ds : List D) (π : Pot), lcGo fg ft fe ρ ds π ≠ .err c ns xs π'
  | [], π => by simp [lcGo]
  | d :: ds, π => by
    unfold lcGo
    cases h1 : fg d ρ with
    | none => simp
    | some ρ1 =>
      simp only [ofO_some, Res.bind_ok]
      cases h2 : safe (ft ρ1 π) with
      | ok b =>
        simp only [Res.bind_ok]
        split
        · cases h3 : safe (fe ρ1 b.2) with
          | ok x =>
            simp only [Res.bind_ok]
            cases h4 : lcGo fg ft fe ρ ds x.2 with
            | ok r => simp
            | err c ns xs p => exact absurd h4 (lcGo_ne ds x.2)
            | stuck => simp
          | err c ns xs p => exact absurd h3 safe_ne
          | stuck => simp
        · exact lcGo_ne ds b.2
      | err c ns xs p => exact absurd h2 safe_ne
      | stuck => simp
theorem EnvOk.unset (I : EnvOk mg K Γ pot M σ H ρ) {i : Nat} (hi : Γ[i]? = some .f) : EnvOk mg K Γ pot M (σ.set i none) H (ρ.set i none) where
  ls := by rw [List.length_set]; exact I.ls
  lr := by rw [List.length_set]; exact I.lr
  f := fun j e h1 h2 => by
    by_cases e1 : i = j
    · subst e1
      have hl : i < ρ.length := by rw [I.lr]; exact (List.getElem?_eq_some_iff.mp hi).1
      rw [List.getElem?_set_self hl] at h2
      cases h2
    · rw [List.getElem?_set_ne e1] at h2
      obtain ⟨u, q, z⟩ := I.f j e h1 h2
      exact ⟨u, by rw [List.getElem?_set_ne e1]; exact q, z⟩
  o := fun j e h1 h2 => by
    have e1 : i ≠ j := fun q => by rw [q, h1] at hi; cases hi
    rw [List.getElem?_set_ne e1] at h2
    obtain ⟨p, q, z⟩ := I.o j e h1 h2
    exact ⟨p, by rw [List.getElem?_set_ne e1]; exact q, z⟩
  p := fun j h1 => by
    have e1 : i ≠ j := fun q => by rw [q, h1] at hi; cases hi
    obtain ⟨p, q, z⟩ := I.p j h1
    exact ⟨p, q, by rw [List.getElem?_set_ne e1]; exact z⟩
  s := fun j e h1 h2 => by
    have e1 : i ≠ j := fun q => by rw [q, h1] at hi; cases hi
    rw [List.getElem?_set_ne e1] at h2
    obtain ⟨p, ns, q, z⟩ := I.s j e h1 h2
    exact ⟨p, ns, by rw [List.getElem?_set_ne e1]; exact q, z⟩
  ap := fun j k a b c h1 h2 h3 h4 h5 h6 => by
    have e1 : i ≠ j := fun q => by rw [q, h1] at hi; cases hi
    have e2 : i ≠ k := fun q => by rw [q, h2] at hi; cases hi
    rw [List.getElem?_set_ne e1] at h3 h5
    rw [List.getElem?_set_ne e2] at h4 h6
    exact I.ap j k a b c h1 h2 h3 h4 h5 h6
  al := I.al
  pm := I.pm
  x := fun j a dd e h1 h2 => by
    have e1 : i ≠ j := fun q => by rw [q, h1] at hi; cases hi
    rw [List.getElem?_set_ne e1] at h2
    obtain ⟨z1, z2⟩ := I.x j a dd e h1 h2
    exact ⟨by rw [List.getElem?_set_ne e1]; exact z1, z2⟩
theorem EnvOk.wipe (I : EnvOk mg K Γ pot M σ H ρ) : ∀ {vs : List Nat}, (∀ i ∈ vs, Γ[i]? = some .f) → EnvOk mg K Γ pot M (L2.wipe σ vs) H (wipeD ρ vs)
  | [], _ => I
  | v :: vs, h => (EnvOk.wipe I fun i hi => h i (List.mem_cons_of_mem _ hi)).unset (h v (List.mem_cons_self ..))
/-- the same place, later, a new cell beside -/
theorem EnvOk.under (I : EnvOk mg K Γ pot M σ H1 ρ) {q : Addr} (hn : H1 q = none) (g : Grow pot H1 H) (p : PotAt pot H π) (hq : Al H q) : EnvOk mg K Γ pot (q :: M) σ H ρ := by
  have nq : ∀ a o, H1 a = some o → a ≠ q := fun a o h => ne_of_none h hn
  have sm : ∀ L : List Addr, (∀ a, pot = some a → a ∈ L) → Same (less H1 L) (less H (q :: L)) := fun L hL a o h => by
    obtain ⟨h1, h2⟩ := less_some.mp h
    refine less_some.mpr ⟨fun m => ?_, g a o (fun e => h1 (hL a e)) h2⟩
    rcases List.mem_cons.mp m with e | m
    · exact nq a o h2 e
    · exact h1 m
  refine ⟨I.ls, I.lr, fun i d h1 h2 => ?_, fun i d h1 h2 => ?_, I.p, fun i d h1 h2 => ?_, I.ap, fun a ha => ?_, fun a e => List.mem_cons_of_mem _ (I.pm a e), fun i a dd d h1 h2 => ⟨(I.x i a dd d h1 h2).1, (I.x i a dd d h1 h2).2.mono (sm M I.pm)⟩⟩
  · obtain ⟨v, e, r⟩ := I.f i d h1 h2
    exact ⟨v, e, r.mono (sm M I.pm)⟩
  · obtain ⟨a, e, m, n, oo, h3, h4⟩ := I.o i d h1 h2
    refine ⟨a, e, List.mem_cons_of_mem _ m, n, oo, g a _ n h3, h4.mono fun b o h => ?_⟩
    obtain ⟨h5, h6⟩ := less_some.mp (sm (a :: M) (fun b e => List.mem_cons_of_mem _ (I.pm b e)) b o h)
    refine less_some.mpr ⟨fun m => h5 ?_, h6⟩
    rcases List.mem_cons.mp m with z | m
    · exact List.mem_cons_of_mem _ (by rw [z]; exact List.mem_cons_self ..)
    · rcases List.mem_cons.mp m with z | m
      · rw [z]
        exact List.mem_cons_self ..
      · exact List.mem_cons_of_mem _ (List.mem_cons_of_mem _ m)
  · obtain ⟨a, ns, e1, e2, e3⟩ := I.s i d h1 h2
    exact ⟨a, ns, e1, e2, sqL_mono (sm M I.pm) e3⟩
  · rcases List.mem_cons.mp ha with e | m
    · rw [e]
      exact hq
    · exact alive I.al p g a m
theorem wipe_at (σ : L2.St) (i : Nat) : ∀ (vs : List Nat), (L2.wipe σ vs)[i]? = if i ∈ vs then (if i < σ.length then some none else none) else σ[i]?
  | [] => by simp [L2.wipe]
  | v :: vs => by
    have ih := wipe_at σ i vs
    unfold L2.wipe
    by_cases e : v = i
    · subst e
      rw [List.getElem?_set, if_pos rfl, wipe_length]
      simp
    · rw [List.getElem?_set_ne e, ih]
      simp [Ne.symm e]
theorem wipe_of {σ σ2 : L2.St} {vs is : List Nat} (hl : σ2.length = σ.length) (hs : ∀ i ∈ is, i ∈ vs) (h : ∀ i, i ∉ is → σ2[i]? = (L2.wipe σ vs)[i]?) : L2.wipe σ2 vs = L2.wipe σ vs := by
  apply List.ext_getElem?
  intro i
  rw [wipe_at, wipe_at]
  by_cases e : i ∈ vs
  · rw [if_pos e, if_pos e, hl]
  · rw [if_neg e, if_neg e, h i fun z => e (hs i z), wipe_at, if_neg e]
end
structure DTs (X : Cx) (E : XK) (Γ : List Md) (es : List Expr) (tt : TT) (ft : Et) : Prop where
  pts : PTs X es tt
  sem : SemT X.mg X.K E Γ tt ft
section
variable {X : Cx} {E : XK} {Γ : List Md} {pos : Pos} {k : Nat}
theorem dts_nil : DTs X E Γ [] tYes tTrue := ⟨pts_nil, fun pot M σ H ρ π I p Q h => h H .refl p⟩
theorem XOk.blk {s : Shared} {H : Hp} {scope : Scope} {cenv : Env} {fp : List Addr} (x : XOk X E k) : XOk (X.blk s H scope cenv fp) E0 k := ⟨x.room, x.gd, x.calm, passL, PassesOwn.never, x.nd⟩
theorem sem_lcAt {w : Bool} {wi : TI} {fi : Ei} {is vs : List Nat} {g : TG} {fg : D → Rho → Option Rho} {tt : TT} {ft : Et} {te : TE} {fe : Ed} {pot : Option Addr} {M : List Addr} {σ : L2.St} {H : Hp} {ρ : Rho} {π : Pot} (hi : ∀ R, PostI X.mg X.K w pot M H (fi ρ π) R E → wi σ H R) (hg : SemG X.mg X.K Γ is g fg) (hv : ∀ i ∈ is, i ∈ vs) (hΓ : ∀ i ∈ vs, Γ[i]? = some .f)
    (ht : SemT X.mg X.K E0 Γ tt ft) (he : SemE X.mg X.K E0 .f Γ te fe) (I : EnvOk X.mg X.K Γ pot M σ H ρ) (p : PotAt pot H π) (Q : VK) (h : Post X.mg X.K .o pot M H (eLC fi fg ft fe vs ρ π) Q E) : tLc wi g tt te vs σ H Q := by
  refine hi _ ?_
  unfold eLC at h
  cases ei : fi ρ π with
  | err c ns xs π' =>
    rw [ei] at h
    exact h
  | stuck =>
    rw [ei] at h
    exact h
  | ok x =>
    obtain ⟨items, π0⟩ := x
    rw [ei] at h
    simp only [Res.bind_ok] at h
    intro J H1 G Y g1 p1 W D hD
    by_cases hz : items.length < sizeLine
    · rw [if_pos hz] at h
      have I1 := I.grow g1 p1
      cases et : lcGo fg ft fe (wipeD ρ vs) items π0 with
      | err c ns xs π' => exact absurd et (lcGo_ne items π0)
      | stuck =>
        rw [et] at h
        exact h.elim
      | ok r =>
        obtain ⟨ds, π9⟩ := r
        rw [et] at h
        simp only [Res.bind_ok] at h
        have nD : pot ≠ some D := fun e => p1.has D e hD
        have gD : ∀ {H2 : Hp} {o : HO}, Grow pot H1 H2 → Grow pot H1 (upd H2 D o) := fun gr a o n e => by
          rw [upd_ne (ne_of_none e hD)]
          exact gr a o n e
        have pD : ∀ {H2 : Hp} {o : HO} {π : Pot}, PotAt pot H2 π → PotAt pot (upd H2 D o) π := fun q a e => by
          rw [upd_ne (fun z => nD (by rw [e, z]))]
          exact q a e
        have lD : ∀ {H2 : Hp} {o : HO}, Same (less H2 (D :: M)) (less (upd H2 D o) (D :: M)) := fun a o e => by
          obtain ⟨e1, e2⟩ := less_some.mp e
          refine less_some.mpr ⟨e1, ?_⟩
          rw [upd_ne (fun z => e1 (by rw [z]; exact List.mem_cons_self ..))]
          exact e2
        have sD : ∀ {H2 : Hp}, Grow pot H1 H2 → Same (less H1 M) (less H2 (D :: M)) := fun gr a o e => by
          obtain ⟨e1, e2⟩ := less_some.mp e
          refine less_some.mpr ⟨fun m => ?_, gr a o (fun z => e1 (I.pm a z)) e2⟩
          rcases List.mem_cons.mp m with z | m
          · exact ne_of_none e2 hD z
          · exact e1 m
        refine lc_it W.walk (fun i H2 => ∃ π2 vsa dsa, Grow pot H1 H2 ∧ PotAt pot H2 π2 ∧ H2 D = some (.lst vsa) ∧ RpL X.mg X.K (less H2 (D :: M)) vsa dsa ∧ dsa.length ≤ i ∧
            (lcGo fg ft fe (wipeD ρ vs) (items.drop i) π2).bind (fun r => .ok (dsa ++ r.1, r.2)) = .ok (ds, π9))
          ⟨π0, [], [], gD .refl, pD p1, upd_same, .nil, Nat.le_refl _, by rw [List.drop_zero, et]; rfl⟩ (fun i H2 _ ⟨_, _, _, gr, _⟩ => W.stay H2 (D :: M) (fun _ => gr) (sD gr)) ?_ ?_
        · rintro i xv H2 H3 hlt ⟨π2, vsa, dsa, gr, pr, hDv, rr, hle, hgo⟩ hy
          have I2 := I1.under hD gr pr (.of hDv fun _ e => by cases e)
          obtain ⟨sm, d, hd, rd⟩ := W.item i H2 xv H3 (D :: M) (fun _ => gr) (sD gr) I2.al hlt hy
          have gr3 : Grow pot H1 H3 := gr.trans (.of_same sm)
          have pr3 := pr.same sm
          have hDv3 := sm _ _ hDv
          have I3 := (I1.under hD gr3 pr3 (.of hDv3 fun _ e => by cases e)).wipe hΓ
          have rr3 : RpL X.mg X.K (less H3 (D :: M)) vsa dsa := rr.mono (less_grow I2.pm (.of_same sm))
          have edr : items.drop i = d :: items.drop (i + 1) := by
            rw [List.drop_eq_getElem_cons hlt]
            congr 1
            have := List.getElem?_eq_getElem hlt
            rw [hd] at this
            exact (Option.some.inj this).symm
          rw [edr] at hgo
          unfold lcGo at hgo
          cases e1 : fg d (wipeD ρ vs) with
          | none => rw [e1] at hgo; cases hgo
          | some ρ1 =>
            rw [e1] at hgo
            simp only [ofO_some, Res.bind_ok] at hgo
            refine hg pot (D :: M) _ H3 _ xv d I3 rd ρ1 e1 _ fun σ2 I4 so _ => ⟨wipe_of (by rw [I4.ls, I1.ls]) hv so, ?_⟩
            refine ht pot (D :: M) σ2 H3 ρ1 π2 I4 pr3 _ ?_
            cases e2 : ft ρ1 π2 with
            | err c ns xs p => rw [e2] at hgo; cases hgo
            | stuck => rw [e2] at hgo; cases hgo
            | ok b =>
              obtain ⟨b, π3⟩ := b
              rw [e2] at hgo
              simp only [safe_ok, Res.bind_ok] at hgo
              intro H4 g4 p4
              have gr4 := gr3.trans g4
              have hDv4 := g4 D _ nD hDv3
              cases b with
              | false =>
                rw [if_neg Bool.false_ne_true] at hgo ⊢
                exact ⟨π3, vsa, dsa, gr4, p4, hDv4, rr3.mono (less_grow I4.pm g4), Nat.le_succ_of_le hle, hgo⟩
              | true =>
                rw [if_pos rfl] at hgo ⊢
                refine he pot (D :: M) σ2 H4 ρ1 π3 (I4.grow g4 p4) p4 _ ?_
                cases e3 : fe ρ1 π3 with
                | err c ns xs p => rw [e3] at hgo; cases hgo
                | stuck => rw [e3] at hgo; cases hgo
                | ok y =>
                  obtain ⟨y, π4⟩ := y
                  rw [e3] at hgo
                  simp only [safe_ok, Res.bind_ok] at hgo
                  intro yv H5 g5 p5 ry
                  have gr5 := gr4.trans g5
                  have hDv5 := g5 D _ nD hDv4
                  have rr5 := (rr3.mono (less_grow I4.pm g4)).mono (less_grow I4.pm g5)
                  refine ⟨vsa, hDv5, by rw [rr.length]; omega, π4, vsa ++ [yv], dsa ++ [y], gD gr5, pD p5, upd_same, (rr5.append (.cons ry .nil)).mono lD, by simp; omega, ?_⟩
                  cases e4 : lcGo fg ft fe (wipeD ρ vs) (items.drop (i + 1)) π4 with
                  | ok r =>
                    rw [e4] at hgo
                    simp only [Res.bind_ok] at hgo ⊢
                    rw [← hgo, List.append_assoc]
                    rfl
                  | err c ns xs p => rw [e4] at hgo; cases hgo
                  | stuck => rw [e4] at hgo; cases hgo
        · rintro H2 ⟨π2, vsa, dsa, gr, pr, hDv, rr, hle, hgo⟩
          rw [List.drop_length] at hgo
          simp only [lcGo, Res.bind_ok, List.append_nil, Res.ok.injEq, Prod.mk.injEq] at hgo
          obtain ⟨rfl, rfl⟩ := hgo
          refine h (.ref D) H2 (g1.trans gr) pr ⟨D, rfl, ?_, nD, _, hDv, .lst rr⟩
          cases e : H D with
          | none => rfl
          | some o =>
            rw [g1 D o nD e] at hD
            cases hD
    · rw [if_neg hz] at h
      exact h.elim
/-- one reading for all places that are alike -/
def canE (mg : Str → Option Value) (K : PySem.W.Frag) (E : XK) (r : Rm) (Γ : List Md) (fe : Ed) : TE := fun σ H Q => ∃ pot M ρ π, EnvOk mg K Γ pot M σ H ρ ∧ PotAt pot H π ∧ Post mg K r pot M H (fe ρ π) Q E
def canT (mg : Str → Option Value) (K : PySem.W.Frag) (E : XK) (Γ : List Md) (ft : Et) : TT := fun σ H Q => ∃ pot M ρ π, EnvOk mg K Γ pot M σ H ρ ∧ PotAt pot H π ∧ PostT mg K pot M H (ft ρ π) Q E
def canG (mg : Str → Option Value) (K : PySem.W.Frag) (Γ : List Md) (is : List Nat) (fg : D → Rho → Option Rho) : TG := fun v σ H Q => ∃ pot M ρ d ρ', EnvOk mg K Γ pot M σ H ρ ∧ Rp mg K (less H M) v d ∧ fg d ρ = some ρ' ∧ ∀ σ', EnvOk mg K Γ pot M σ' H ρ' → (∀ i, i ∉ is → σ'[i]? = σ[i]?) → (∀ i, i ∉ is → ρ'[i]? = ρ[i]?) → Q σ' H
theorem DE.can {r : Rm} {e : Expr} {te : TE} {fe : Ed} (h : DE X E r Γ e te fe) : DE X E r Γ e (canE X.mg X.K E r Γ fe) fe :=
  ⟨⟨fun pins s σ H Q I q => by
    obtain ⟨pot, M, ρ, π, h1, h2, h3⟩ := q
    exact h.pe.run pins s σ H Q I (h.sem pot M σ H ρ π h1 h2 Q h3)⟩, fun pot M σ H ρ π I p Q q => ⟨pot, M, ρ, π, I, p, q⟩⟩
theorem DTs.can {es : List Expr} {tt : TT} {ft : Et} (h : DTs X E Γ es tt ft) : DTs X E Γ es (canT X.mg X.K E Γ ft) ft :=
  ⟨⟨fun pins s σ H Q I q => by
    obtain ⟨pot, M, ρ, π, h1, h2, h3⟩ := q
    exact h.pts.run pins s σ H Q I (h.sem pot M σ H ρ π h1 h2 Q h3)⟩, fun pot M σ H ρ π I p Q q => ⟨pot, M, ρ, π, I, p, q⟩⟩
theorem DG.can {tg : Expr} {is : List Nat} {g : TG} {fg : D → Rho → Option Rho} (h : DG X Γ tg is g fg) : DG X Γ tg is (canG X.mg X.K Γ is fg) fg :=
  ⟨⟨fun pins s σ H v u Q I r q => by
    obtain ⟨pot, M, ρ, d, ρ', h1, h2, h3, h4⟩ := q
    exact h.pg.run pins s σ H v u Q I r (h.sem pot M σ H ρ v d h1 h2 ρ' h3 Q h4)⟩, h.fs, fun pot M σ H ρ v d I r ρ' e Q q => ⟨pot, M, ρ, d, ρ', I, r, e, q⟩⟩
theorem sem_lc {w : Bool} {wi : TI} {fi : Ei} {is vs : List Nat} {g : TG} {fg : D → Rho → Option Rho} {tt : TT} {ft : Et} {te : TE} {fe : Ed} (hi : SemI X.mg X.K w E Γ wi fi) (hg : SemG X.mg X.K Γ is g fg) (hv : ∀ i ∈ is, i ∈ vs) (hΓ : ∀ i ∈ vs, Γ[i]? = some .f)
    (ht : SemT X.mg X.K E0 Γ tt ft) (he : SemE X.mg X.K E0 .f Γ te fe) : SemE X.mg X.K E .o Γ (tLc wi g tt te vs) (eLC fi fg ft fe vs) := fun pot M σ H ρ π I p Q h => sem_lcAt (fun R q => hi pot M σ H ρ π I p R q) hg hv hΓ ht he I p Q h
theorem de_lc {w : Bool} {elt tg iter : Expr} {ifs : List Expr} {scope : Scope} {own : List (Str × Nat)} {wi : TI} {fi : Ei} {is : List Nat} {fg : D → Rho → Option Rho} {ft : Et} {fe : Ed} (x : XOk X E k) (hi : DI w X E Γ tg iter wi fi) (ok : BlkOk X.N X.env.scope scope own)
    (hg : ∀ (s : Shared) (H : Hp) (C : Addr) (cl : List (Str × Addr)) (fp : List Addr), ∃ g, DG (X.blk s H scope (compEnvC scope cl C X.env) fp) Γ tg is g fg)
    (ht : ∀ (s : Shared) (H : Hp) (C : Addr) (cl : List (Str × Addr)) (fp : List Addr), ∃ tt, DTs (X.blk s H scope (compEnvC scope cl C X.env) fp) E0 Γ ifs tt ft)
    (he : ∀ (s : Shared) (H : Hp) (C : Addr) (cl : List (Str × Addr)) (fp : List Addr), ∃ te, DE (X.blk s H scope (compEnvC scope cl C X.env) fp) E0 .f Γ elt te fe)
    (hv : ∀ i ∈ is, i ∈ own.map (·.2) := by decide) (hΓ : ∀ i ∈ own.map (·.2), Γ[i]? = some .f := by decide) (hs : ∀ x, foldedSetIterable iter X.env x = pure x := by intro _; rfl) :
    DE X E .o Γ (.ListComp elt [⟨tg, iter, ifs, 0⟩] scope pos) (tLc wi (canG X.mg X.K Γ is fg) (canT X.mg X.K E0 Γ ft) (canE X.mg X.K E0 .f Γ fe) (own.map (·.2))) (eLC fi fg ft fe (own.map (·.2))) := by
  have hg' : ∀ (s : Shared) (H : Hp) (C : Addr) (cl : List (Str × Addr)) (fp : List Addr), DG (X.blk s H scope (compEnvC scope cl C X.env) fp) Γ tg is (canG X.mg X.K Γ is fg) fg := fun s H C cl fp => by
    obtain ⟨g, h⟩ := hg s H C cl fp
    exact h.can
  have ht' : ∀ (s : Shared) (H : Hp) (C : Addr) (cl : List (Str × Addr)) (fp : List Addr), DTs (X.blk s H scope (compEnvC scope cl C X.env) fp) E0 Γ ifs (canT X.mg X.K E0 Γ ft) ft := fun s H C cl fp => by
    obtain ⟨g, h⟩ := ht s H C cl fp
    exact h.can
  have he' : ∀ (s : Shared) (H : Hp) (C : Addr) (cl : List (Str × Addr)) (fp : List Addr), DE (X.blk s H scope (compEnvC scope cl C X.env) fp) E0 .f Γ elt (canE X.mg X.K E0 .f Γ fe) fe := fun s H C cl fp => by
    obtain ⟨g, h⟩ := he s H C cl fp
    exact h.can
  exact ⟨pe_lc x.calm x.nd hi.pi ok (fun s H C cl fp => (hg' s H C cl fp).pg) (fun s H C cl fp => (ht' s H C cl fp).pts) (fun s H C cl fp => (he' s H C cl fp).pe) hs,
    sem_lc hi.sem (hg' X.s_0 X.H_0 0 [] []).sem hv hΓ (ht' X.s_0 X.H_0 0 [] []).sem (he' X.s_0 X.H_0 0 [] []).sem⟩
end
end DL
set_option maxHeartbeats 2000000
namespace DL
open PySem PySem.Spec PyProof.Rows L2
inductive Out where
  | nx (ρ : Rho) | bk (ρ : Rho) | ct (ρ : Rho) | rt (d : D)
abbrev Fs := Rho → Pot → Res (Out × Pot)
def Rm.md : Rm → Md
  | .f => .f
  | .b => .u
  | .o => .o
  | .t => .u
section
variable (mg : Str → Option Value) (K : PySem.W.Frag)
structure SOk (Γ : List Md) (pot : Option Addr) (M0 : List Addr) (H0 B : Hp) (M : List Addr) (σ : L2.St) (H : Hp) (ρ : Rho) : Prop where
  env : EnvOk mg K Γ pot M σ H ρ
  gr : Grow pot H0 H
  sub : ∀ a ∈ M0, a ∈ M
  ow : ∀ (i : Nat) (d : D) (a : Addr), Γ[i]? = some .o → ρ[i]? = some (some d) → σ[i]? = some (some (.ref a)) → H0 a = none
  m0 : ∀ a ∈ M0, H0 a ≠ none
  bs : Same B (less H M)
/-- a value that is to be put into a slot -/
def Held (r : Rm) (Γ : List Md) (pot : Option Addr) (H0 : Hp) (M : List Addr) (σ : L2.St) (H : Hp) (ρ : Rho) (v : V) (d : D) : Prop := match r with
  | .f => Rp mg K (less H M) v d
  | .b => True
  | .t => True
  | .o => ∃ p, v = .ref p ∧ p ∈ M ∧ Own mg K pot M H p d ∧ H0 p = none ∧ ∀ (i : Nat) (e : D), Γ[i]? = some .o → ρ[i]? = some (some e) → σ[i]? ≠ some (some (.ref p))
def PostS (r : Rm) (Γl Γ' : List Md) (pot : Option Addr) (M0 : List Addr) (H0 B : Hp) (x : Res (Out × Pot)) (D : Ends) (E : XK) : Prop := match x with
  | .ok (.nx ρ, π) => ∀ M σ H, SOk mg K Γ' pot M0 H0 B M σ H ρ → PotAt pot H π → D.nx σ H
  | .ok (.bk ρ, π) => ∀ M σ H, SOk mg K Γl pot M0 H0 B M σ H ρ → PotAt pot H π → D.bk σ H
  | .ok (.ct ρ, π) => ∀ M σ H, SOk mg K Γl pot M0 H0 B M σ H ρ → PotAt pot H π → D.ct σ H
  | .ok (.rt d, π) => ∀ v H, Grow pot H0 H → PotAt pot H π → RpR mg K r pot M0 H0 H v d → D.rt v H
  | .err c ns xs π => PErr mg K pot M0 H0 c ns xs π E
  | .stuck => False
def SemS (E : XK) (r : Rm) (Γl Γ Γ' : List Md) (ts : TS) (fs : Fs) : Prop :=
  ∀ pot M0 H0 B M σ H ρ π D, SOk mg K Γ pot M0 H0 B M σ H ρ → PotAt pot H π → PostS mg K r Γl Γ' pot M0 H0 B (fs ρ π) D E → ts D σ H
end
section
variable {mg : Str → Option Value} {K : PySem.W.Frag} {pot : Option Addr} {M M0 M1 : List Addr} {H H0 H1 H2 B : Hp} {π π1 : Pot} {Γ Γl Γ' : List Md} {σ : L2.St} {ρ : Rho} {v : V} {d : D} {r : Rm} {E : XK}
theorem SOk.grow (S : SOk mg K Γ pot M0 H0 B M σ H ρ) (g : Grow pot H H1) (p : PotAt pot H1 π) : SOk mg K Γ pot M0 H0 B M σ H1 ρ := ⟨S.env.grow g p, S.gr.trans g, S.sub, S.ow, S.m0, fun a o h => less_grow S.env.pm g a o (S.bs a o h)⟩
theorem PErr.out {c : Str} {ns : List Str} {xs : List D} {π' : Pot} (h : PErr mg K pot M0 H0 c ns xs π' E) (S : SOk mg K Γ pot M0 H0 B M σ H ρ) : PErr mg K pot M H c ns xs π' E := fun cv dd H' g p e => by
  refine h cv dd H' (S.gr.trans g) p ?_
  obtain ⟨C, h1, h2, h3⟩ := e
  refine ⟨C, h1, h2, h3.imp id ?_⟩
  rintro ⟨a, fs, e1, e2, e3, e4, e5⟩
  exact ⟨a, fs, e1, e2, fun m => e3 (S.sub a m), e4, e5.mono (less_sub S.sub)⟩
/-- an expression, then the rest of the statement -/
theorem PostS.seq {r' : Rm} {x : Res (D × Pot)} {kk : D × Pot → Res (Out × Pot)} {D' : Ends} (h : PostS mg K r Γl Γ' pot M0 H0 B (x.bind kk) D' E) (S : SOk mg K Γ pot M0 H0 B M σ H ρ)
    {te : VK → Prop} (ht : ∀ Q', Post mg K r' pot M H x Q' E → te Q') {R : VK}
    (hk : ∀ d π1 v H1, x = .ok (d, π1) → Grow pot H H1 → PotAt pot H1 π1 → RpR mg K r' pot M H H1 v d → PostS mg K r Γl Γ' pot M0 H0 B (kk (d, π1)) D' E → R v H1) : te R := by
  refine ht R ?_
  cases x with
  | ok a =>
    obtain ⟨d, π1⟩ := a
    exact fun v H1 g p q => hk d π1 v H1 rfl g p q h
  | err c ns xs π' => exact PErr.out h S
  | stuck => exact h
theorem PostS.seqT {x : Res (Bool × Pot)} {kk : Bool × Pot → Res (Out × Pot)} {D' : Ends} (h : PostS mg K r Γl Γ' pot M0 H0 B (x.bind kk) D' E) (S : SOk mg K Γ pot M0 H0 B M σ H ρ)
    {te : (Bool → Hp → Prop) → Prop} (ht : ∀ Q', PostT mg K pot M H x Q' E → te Q') {R : Bool → Hp → Prop}
    (hk : ∀ d π1 H1, x = .ok (d, π1) → Grow pot H H1 → PotAt pot H1 π1 → PostS mg K r Γl Γ' pot M0 H0 B (kk (d, π1)) D' E → R d H1) : te R := by
  refine ht R ?_
  cases x with
  | ok a =>
    obtain ⟨d, π1⟩ := a
    exact fun H1 g p => hk d π1 H1 rfl g p h
  | err c ns xs π' => exact PErr.out h S
  | stuck => exact h
theorem PostS.seqI {w : Bool} {x : Res (List D × Pot)} {kk : List D × Pot → Res (Out × Pot)} {D' : Ends} (h : PostS mg K r Γl Γ' pot M0 H0 B (x.bind kk) D' E) (S : SOk mg K Γ pot M0 H0 B M σ H ρ)
    {te : (It → Hp → Prop) → Prop} (ht : ∀ Q', PostI mg K w pot M H x Q' E → te Q') {R : It → Hp → Prop}
    (hk : ∀ ds π1 J H1 G Y, x = .ok (ds, π1) → Grow pot H H1 → PotAt pot H1 π1 → WalkD mg K w pot M H1 J ds G Y → PostS mg K r Γl Γ' pot M0 H0 B (kk (ds, π1)) D' E → R J H1) : te R := by
  refine ht R ?_
  cases x with
  | ok a =>
    obtain ⟨ds, π1⟩ := a
    exact fun J H1 G Y g p q => hk ds π1 J H1 G Y rfl g p q h
  | err c ns xs π' => exact PErr.out h S
  | stuck => exact h
theorem less_in {p : Addr} (h : p ∈ M) : Same (less H M) (less H (p :: M)) := fun a o e => by
  obtain ⟨e1, e2⟩ := less_some.mp e
  refine less_some.mpr ⟨fun m => ?_, e2⟩
  rcases List.mem_cons.mp m with z | m
  · exact e1 (by rw [z]; exact h)
  · exact e1 m
/-- a new value is held -/
theorem SOk.hold (S : SOk mg K Γ pot M0 H0 B M σ H ρ) (g : Grow pot H H1) (p : PotAt pot H1 π) (q : RpR mg K r pot M H H1 v d) :
    ∃ M1, SOk mg K Γ pot M0 H0 B M1 σ H1 ρ ∧ Held mg K r Γ pot H0 M1 σ H1 ρ v d ∧ (M1 = M ∨ ∃ c, M1 = c :: M ∧ H c = none) := by
  cases r with
  | f => exact ⟨M, S.grow g p, q, .inl rfl⟩
  | b => exact ⟨M, S.grow g p, trivial, .inl rfl⟩
  | t => exact ⟨M, S.grow g p, trivial, .inl rfl⟩
  | o =>
    obtain ⟨c, rfl, hn, n, oo, h1, h2⟩ := q
    have S1 := S.env.under hn g p (.of h1 h2.nt)
    refine ⟨c :: M, ⟨S1, S.gr.trans g, fun a m => List.mem_cons_of_mem _ (S.sub a m), S.ow, S.m0, fun a o h => ?_⟩, ⟨c, rfl, List.mem_cons_self .., ⟨n, oo, h1, h2.mono (less_in (List.mem_cons_self ..))⟩, ?_, fun i e hi he hs => ?_⟩, .inr ⟨c, rfl, hn⟩⟩
    · obtain ⟨e1, e2⟩ := less_some.mp (S.bs a o h)
      refine less_some.mpr ⟨fun m => ?_, g a o (fun z => e1 (S.env.pm a z)) e2⟩
      rcases List.mem_cons.mp m with z | m
      · rw [z, hn] at e2
        cases e2
      · exact e1 m
    · cases z : H0 c with
      | none => rfl
      | some o =>
        rw [S.gr c o n z] at hn
        cases hn
    · obtain ⟨a, e1, m, _⟩ := S.env.o i e hi he
      rw [hs] at e1
      cases e1
      exact (S.env.al c m).nn hn
/-- later, with one more cell or none -/
theorem Held.carry {r : Rm} (h : Held mg K r Γ pot H0 M σ H ρ v d) (pm : ∀ a, pot = some a → a ∈ M) (g : Grow pot H H1) (c : M1 = M ∨ ∃ c, M1 = c :: M ∧ H c = none) : Held mg K r Γ pot H0 M1 σ H1 ρ v d := by
  have sm : ∀ L L1 : List Addr, (∀ a, pot = some a → a ∈ L) → (L1 = L ∨ ∃ c, (∀ a, a ∈ L1 → a = c ∨ a ∈ L) ∧ H c = none) → Same (less H L) (less H1 L1) := fun L L1 hp hl a o e => by
    obtain ⟨e1, e2⟩ := less_some.mp e
    refine less_some.mpr ⟨fun m => ?_, g a o (fun z => e1 (hp a z)) e2⟩
    rcases hl with z | ⟨c, hl, hc⟩
    · exact e1 (by rw [← z]; exact m)
    · rcases hl a m with z | z
      · rw [z, hc] at e2
        cases e2
      · exact e1 z
  cases r with
  | f =>
    refine Rp.mono (sm M M1 pm ?_) h
    rcases c with c | ⟨c, e, hc⟩
    · exact .inl c
    · exact .inr ⟨c, fun a m => by rw [e] at m; exact List.mem_cons.mp m, hc⟩
  | b => trivial
  | t => trivial
  | o =>
    obtain ⟨p, e1, m, ⟨n, oo, h1, h2⟩, h3, h4⟩ := h
    refine ⟨p, e1, ?_, ⟨n, oo, g p _ n h1, h2.mono (sm (p :: M) (p :: M1) (fun a z => List.mem_cons_of_mem _ (pm a z)) ?_)⟩, h3, h4⟩
    · rcases c with c | ⟨c, e, _⟩
      · rw [c]; exact m
      · rw [e]; exact List.mem_cons_of_mem _ m
    · rcases c with c | ⟨c, e, hc⟩
      · exact .inl (by rw [c])
      · refine .inr ⟨c, fun a ma => ?_, hc⟩
        rcases List.mem_cons.mp ma with z | ma
        · exact .inr (by rw [z]; exact List.mem_cons_self ..)
        · rw [e] at ma
          rcases List.mem_cons.mp ma with z | ma
          · exact .inl z
          · exact .inr (List.mem_cons_of_mem _ ma)
theorem set_at {α : Type} {l : List α} {i j : Nat} {a : α} {x : α} (h : (l.set i a)[j]? = some x) : (i = j ∧ x = a ∧ i < l.length) ∨ (i ≠ j ∧ l[j]? = some x) := by
  by_cases e : i = j
  · subst e
    rw [List.getElem?_set] at h
    rw [if_pos rfl] at h
    split at h
    · rename_i hl
      cases h
      exact .inl ⟨rfl, rfl, hl⟩
    · cases h
  · rw [List.getElem?_set_ne e] at h
    exact .inr ⟨e, h⟩
/-- it is put into slot i -/
theorem SOk.put (S : SOk mg K Γ pot M0 H0 B M σ H ρ) {i : Nat} (hi : i < Γ.length) (q : Held mg K r Γ pot H0 M σ H ρ v d) : SOk mg K (Γ.set i r.md) pot M0 H0 B M (σ.set i (some v)) H (ρ.set i (some d)) := by
  have I := S.env
  have hs : i < σ.length := by rw [I.ls]; exact hi
  have hr : i < ρ.length := by rw [I.lr]; exact hi
  refine ⟨⟨by simp [I.ls], by simp [I.lr], fun j e h1 h2 => ?_, fun j e h1 h2 => ?_, fun j h1 => ?_, fun j e h1 h2 => ?_, fun j k a b c h1 h2 h3 h4 h5 h6 => ?_, I.al, I.pm, fun j a dd e h1 h2 => by
    rcases set_at h1 with ⟨rfl, e1, _⟩ | ⟨n, e1⟩
    · cases r <;> cases e1
    · rw [List.getElem?_set_ne n] at h2 ⊢
      exact I.x j a dd e e1 h2⟩, S.gr, S.sub, fun j e a h1 h2 h3 => ?_, S.m0, S.bs⟩
  · rcases set_at h1 with ⟨rfl, e1, _⟩ | ⟨n, e1⟩
    · rw [List.getElem?_set_self hr] at h2
      cases h2
      refine ⟨v, List.getElem?_set_self hs, ?_⟩
      cases r with
      | f => exact q
      | b => cases e1
      | t => cases e1
      | o => cases e1
    · rw [List.getElem?_set_ne n] at h2 ⊢
      exact I.f j e e1 h2
  · rcases set_at h1 with ⟨rfl, e1, _⟩ | ⟨n, e1⟩
    · rw [List.getElem?_set_self hr] at h2
      cases h2
      cases r with
      | f => cases e1
      | b => cases e1
      | t => cases e1
      | o =>
        obtain ⟨p, rfl, m, o, _⟩ := q
        exact ⟨p, List.getElem?_set_self hs, m, o⟩
    · rw [List.getElem?_set_ne n] at h2 ⊢
      exact I.o j e e1 h2
  · rcases set_at h1 with ⟨rfl, e1, _⟩ | ⟨n, e1⟩
    · cases r <;> cases e1
    · rw [List.getElem?_set_ne n]
      exact I.p j e1
  · rcases set_at h1 with ⟨rfl, e1, _⟩ | ⟨n, e1⟩
    · cases r <;> cases e1
    · rw [List.getElem?_set_ne n] at h2 ⊢
      exact I.s j e e1 h2
  · rcases set_at h1 with ⟨rfl, e1, _⟩ | ⟨n, e1⟩
    · rcases set_at h2 with ⟨rfl, e2, _⟩ | ⟨n2, e2⟩
      · rfl
      · rw [List.getElem?_set_self hs] at h5
        rw [List.getElem?_set_ne n2] at h4 h6
        cases r with
        | f => cases e1
        | b => cases e1
        | t => cases e1
        | o =>
          obtain ⟨p, rfl, m, o, _, hno⟩ := q
          cases h5
          exact absurd h6 (hno k c e2 h4)
    · rcases set_at h2 with ⟨rfl, e2, _⟩ | ⟨n2, e2⟩
      · rw [List.getElem?_set_self hs] at h6
        rw [List.getElem?_set_ne n] at h3 h5
        cases r with
        | f => cases e2
        | b => cases e2
        | t => cases e2
        | o =>
          obtain ⟨p, rfl, m, o, _, hno⟩ := q
          cases h6
          exact absurd h5 (hno j b e1 h3)
      · rw [List.getElem?_set_ne n] at h3 h5
        rw [List.getElem?_set_ne n2] at h4 h6
        exact I.ap j k a b c e1 e2 h3 h4 h5 h6
  · rcases set_at h1 with ⟨rfl, e1, _⟩ | ⟨n, e1⟩
    · rw [List.getElem?_set_self hs] at h3
      cases h3
      cases r with
      | f => cases e1
      | b => cases e1
      | t => cases e1
      | o =>
        obtain ⟨p, ep, m, o, hz, _⟩ := q
        cases ep
        exact hz
    · rw [List.getElem?_set_ne n] at h2 h3
      exact S.ow j e a e1 h2 h3
/-- a held value stays held when another slot is set -/
theorem Held.put {r r' : Rm} {w : V} {e : D} {i : Nat} (h : Held mg K r Γ pot H0 M σ H ρ v d) (h' : Held mg K r' Γ pot H0 M σ H ρ w e) (hn : r = .o → r' = .o → v ≠ w) : Held mg K r (Γ.set i r'.md) pot H0 M (σ.set i (some w)) H (ρ.set i (some e)) v d := by
  cases r with
  | f => exact h
  | b => trivial
  | t => trivial
  | o =>
    obtain ⟨p, e1, m, o, z, hno⟩ := h
    refine ⟨p, e1, m, o, z, fun j f h1 h2 h3 => ?_⟩
    rcases set_at h1 with ⟨rfl, e2, hl⟩ | ⟨n, e2⟩
    · rcases set_at h3 with ⟨_, e3, _⟩ | ⟨n, _⟩
      · cases e3
        cases r' with
        | f => cases e2
        | b => cases e2
        | t => cases e2
        | o => exact hn rfl rfl e1
      · exact n rfl
    · rw [List.getElem?_set_ne n] at h2 h3
      exact hno j f e2 h2 h3
/-- an own list becomes data -/
theorem SOk.freeze (S : SOk mg K Γ pot M0 H0 B M σ H ρ) {i : Nat} (hi : Γ[i]? = some .o) : ∃ M1, SOk mg K (Γ.set i .f) pot M0 H0 B M1 σ H ρ := by
  have I := S.env
  cases er : ρ[i]? with
  | none =>
    have hl := (List.getElem?_eq_some_iff.mp hi).1
    rw [List.getElem?_eq_none_iff, I.lr] at er
    omega
  | some od =>
    cases od with
    | none =>
      refine ⟨M, ⟨by simp [I.ls], by simp [I.lr], fun j e h1 h2 => ?_, fun j e h1 h2 => ?_, fun j h1 => ?_, fun j e h1 h2 => ?_, fun j k a b c h1 h2 h3 h4 h5 h6 => ?_, I.al, I.pm, fun j a dd e h1 h2 => by
        rcases set_at h1 with ⟨_, z, _⟩ | ⟨n, e1⟩
        · cases z
        · exact I.x j a dd e e1 h2⟩, S.gr, S.sub, fun j e a h1 h2 h3 => ?_, S.m0, S.bs⟩
      · rcases set_at h1 with ⟨rfl, _, _⟩ | ⟨n, e1⟩
        · rw [er] at h2
          cases h2
        · exact I.f j e e1 h2
      · rcases set_at h1 with ⟨_, z, _⟩ | ⟨n, e1⟩
        · cases z
        · exact I.o j e e1 h2
      · rcases set_at h1 with ⟨_, z, _⟩ | ⟨n, e1⟩
        · cases z
        · exact I.p j e1
      · rcases set_at h1 with ⟨_, z, _⟩ | ⟨n, e1⟩
        · cases z
        · exact I.s j e e1 h2
      · rcases set_at h1 with ⟨_, z, _⟩ | ⟨n, e1⟩
        · cases z
        · rcases set_at h2 with ⟨_, z, _⟩ | ⟨n2, e2⟩
          · cases z
          · exact I.ap j k a b c e1 e2 h3 h4 h5 h6
      · rcases set_at h1 with ⟨_, z, _⟩ | ⟨n, e1⟩
        · cases z
        · exact S.ow j e a e1 h2 h3
    | some d =>
      obtain ⟨p, es, m, o⟩ := I.o i d hi er
      have hz := S.ow i d p hi er es
      obtain ⟨np, oo, h1, h2⟩ := o
      have low : Same (less H M) (less H (M.filter fun a => decide (a ≠ p))) := less_sub fun a ha => (List.mem_filter.mp ha).1
      have hp : (less H (M.filter fun a => decide (a ≠ p))) p = some oo := less_some.mpr ⟨fun q => by simpa using (List.mem_filter.mp q).2, h1⟩
      have hM0 : ∀ a ∈ M0, a ≠ p → a ∈ M.filter fun a => decide (a ≠ p) := fun a ha n => List.mem_filter.mpr ⟨S.sub a ha, by simpa using n⟩
      have q0 : p ∉ M0 := fun q => S.m0 p q hz
      · refine ⟨M.filter fun a => decide (a ≠ p), ⟨by simp [I.ls], by simp [I.lr], fun j e g1 g2 => ?_, fun j e g1 g2 => ?_, fun j g1 => ?_, fun j e g1 g2 => ?_, fun j k a b c g1 g2 g3 g4 g5 g6 => ?_, fun a ha => I.al a (List.mem_filter.mp ha).1, fun a ha => List.mem_filter.mpr ⟨I.pm a ha, by simpa using fun z : a = p => np (by rw [ha, z])⟩, fun j a dd e g1 g2 => by
          rcases set_at g1 with ⟨_, z, _⟩ | ⟨n, e1⟩
          · cases z
          · exact ⟨(I.x j a dd e e1 g2).1, (I.x j a dd e e1 g2).2.mono low⟩⟩, S.gr, fun a ha => hM0 a ha fun z => q0 (by rw [← z]; exact ha), fun j e a g1 g2 g3 => ?_, S.m0, fun a o h => low a o (S.bs a o h)⟩
        · rcases set_at g1 with ⟨rfl, _, _⟩ | ⟨n, e1⟩
          · rw [er] at g2
            cases g2
            exact ⟨_, es, HoR.rp hp (h2.mono fun a o e => low a o (less_sub (fun b q => List.mem_cons_of_mem _ q) a o e))⟩
          · obtain ⟨w, w1, w2⟩ := I.f j e e1 g2
            exact ⟨w, w1, w2.mono low⟩
        · rcases set_at g1 with ⟨_, z, _⟩ | ⟨n, e1⟩
          · cases z
          · obtain ⟨a, w1, w2, w3, oj, w5, w6⟩ := I.o j e e1 g2
            refine ⟨a, w1, List.mem_filter.mpr ⟨w2, ?_⟩, w3, oj, w5, w6.mono (less_sub fun b hb => ?_)⟩
            · simpa using fun z : a = p => n (I.ap i j p _ e hi e1 er g2 es (by rw [← z]; exact w1))
            · rcases List.mem_cons.mp hb with z | hb
              · rw [z]
                exact List.mem_cons_self ..
              · exact List.mem_cons_of_mem _ (List.mem_filter.mp hb).1
        · rcases set_at g1 with ⟨_, z, _⟩ | ⟨n, e1⟩
          · cases z
          · exact I.p j e1
        · rcases set_at g1 with ⟨_, z, _⟩ | ⟨n, e1⟩
          · cases z
          · obtain ⟨a, ns, w1, w2, w3⟩ := I.s j e e1 g2
            exact ⟨a, ns, w1, w2, sqL_mono low w3⟩
        · rcases set_at g1 with ⟨_, z, _⟩ | ⟨n, e1⟩
          · cases z
          · rcases set_at g2 with ⟨_, z, _⟩ | ⟨n2, e2⟩
            · cases z
            · exact I.ap j k a b c e1 e2 g3 g4 g5 g6
        · rcases set_at g1 with ⟨_, z, _⟩ | ⟨n, e1⟩
          · cases z
          · exact S.ow j e a e1 g2 g3
end
end DL
set_option maxHeartbeats 2000000
namespace DL
open PySem PySem.Spec PyProof.Rows L2
def sNext : Fs := fun ρ π => .ok (.nx ρ, π)
def sSeq (a b : Fs) : Fs := fun ρ π => (a ρ π).bind fun x => match x.1 with
  | .nx ρ1 => b ρ1 x.2
  | .bk ρ1 => .ok (.bk ρ1, x.2)
  | .ct ρ1 => .ok (.ct ρ1, x.2)
  | .rt d => .ok (.rt d, x.2)
def sSet (i : Nat) (fe : Ed) : Fs := fun ρ π => (fe ρ π).bind fun x => .ok (.nx (ρ.set i (some x.1)), x.2)
def sPar (i j : Nat) (fa fb : Ed) : Fs := fun ρ π => (fa ρ π).bind fun x => (fb ρ x.2).bind fun y => .ok (.nx ((ρ.set i (some x.1)).set j (some y.1)), y.2)
def sPar3 (i j l : Nat) (fa fb fc : Ed) : Fs := fun ρ π => (fa ρ π).bind fun x => (fb ρ x.2).bind fun y => (fc ρ y.2).bind fun z => .ok (.nx (((ρ.set i (some x.1)).set j (some y.1)).set l (some z.1)), z.2)
def sUnp (fe : Ed) (fg : D → Rho → Option Rho) : Fs := fun ρ π => (fe ρ π).bind fun x => (ofO (fg x.1 ρ)).bind fun ρ1 => .ok (.nx ρ1, x.2)
def sExpr (fe : Ed) : Fs := fun ρ π => (fe ρ π).bind fun x => .ok (.nx ρ, x.2)
def sRet (fe : Ed) : Fs := fun ρ π => (fe ρ π).bind fun x => .ok (.rt x.1, x.2)
def sRetN : Fs := fun _ π => .ok (.rt .non, π)
def sIf (ft : Et) (a b : Fs) : Fs := fun ρ π => (ft ρ π).bind fun x => if x.1 = true then a ρ x.2 else b ρ x.2
def sBreak : Fs := fun ρ π => .ok (.bk ρ, π)
def sCont : Fs := fun ρ π => .ok (.ct ρ, π)
def sStuck : Fs := fun _ _ => .stuck
def forGo (fg : D → Rho → Option Rho) (fb : Fs) : List D → Rho → Pot → Res (Out × Pot)
  | [], ρ, π => .ok (.nx ρ, π)
  | d :: ds, ρ, π => (ofO (fg d ρ)).bind fun ρ1 => (fb ρ1 π).bind fun y => match y.1 with
    | .nx ρ2 => forGo fg fb ds ρ2 y.2
    | .ct ρ2 => forGo fg fb ds ρ2 y.2
    | .bk ρ2 => .ok (.nx ρ2, y.2)
    | .rt d => .ok (.rt d, y.2)
def sFor (fi : Ei) (fg : D → Rho → Option Rho) (fb : Fs) : Fs := fun ρ π => (fi ρ π).bind fun x => forGo fg fb x.1 ρ x.2
structure DS (X : Cx) (E : XK) (r : Rm) (Γl Γ Γ' : List Md) (st : Stmt) (ts : TS) (fs : Fs) : Prop where
  ps : PS X st ts
  sem : SemS X.mg X.K E r Γl Γ Γ' ts fs
structure DSs (X : Cx) (E : XK) (r : Rm) (Γl Γ Γ' : List Md) (sts : List Stmt) (ts : TS) (fs : Fs) : Prop where
  pss : PSs X sts ts
  sem : SemS X.mg X.K E r Γl Γ Γ' ts fs
section
variable {X : Cx} {E : XK} {r r' ra rb rc : Rm} {Γl Γ Γ1 Γ' : List Md} {pos : Pos} {k : Nat} {e a b c : Expr} {te ta tb tc : TE} {fe fa fb fc : Ed} {st : Stmt} {sts body : List Stmt} {ts us : TS} {fs gs : Fs} {tt : TT} {ft : Et}
theorem dss_nil : DSs X E r Γl Γ Γ [] tNext sNext := ⟨pss_nil, fun pot M0 H0 B M σ H ρ π D S p h => h M σ H S p⟩
theorem dss_one (h : DS X E r Γl Γ Γ' st ts fs) : DSs X E r Γl Γ Γ' [st] ts fs := ⟨pss_one h.ps, h.sem⟩
theorem dss_cons (h : DS X E r Γl Γ Γ1 st ts fs) (h' : DSs X E r Γl Γ1 Γ' sts us gs) : DSs X E r Γl Γ Γ' (st :: sts) (tSeq ts us) (sSeq fs gs) :=
  ⟨pss_cons h.ps h'.pss, fun pot M0 H0 B M σ H ρ π D S p q => by
    refine h.sem pot M0 H0 B M σ H ρ π _ S p ?_
    unfold sSeq at q
    cases ex : fs ρ π with
    | err c ns xs π' =>
      rw [ex] at q
      exact q
    | stuck =>
      rw [ex] at q
      exact q
    | ok x =>
      obtain ⟨o, π1⟩ := x
      rw [ex] at q
      cases o with
      | nx ρ1 => exact fun M1 σ1 H1 S1 p1 => h'.sem pot M0 H0 B M1 σ1 H1 ρ1 π1 D S1 p1 q
      | bk ρ1 => exact q
      | ct ρ1 => exact q
      | rt d => exact q⟩
/-- an own list is data from here on -/
theorem dss_frz (i : Nat) (h : DSs X E r Γl (Γ.set i .f) Γ' sts ts fs) (hΓ : Γ[i]? = some .o := by rfl) : DSs X E r Γl Γ Γ' sts ts fs :=
  ⟨h.pss, fun pot M0 H0 B M σ H ρ π D S p q => by
    obtain ⟨M1, S1⟩ := S.freeze hΓ
    exact h.sem pot M0 H0 B M1 σ H ρ π D S1 p q⟩
theorem ds_never : DS X E r Γl Γ Γ' st tNever sStuck := ⟨ps_never, fun pot M0 H0 B M σ H ρ π D S p h => h.elim⟩
theorem set_same {l : List Md} {i : Nat} {m : Md} (h : l[i]? = some m) : l.set i m = l := by
  apply List.ext_getElem?
  intro j
  by_cases e : i = j
  · subst e
    rw [List.getElem?_set_self (List.getElem?_eq_some_iff.mp h).1, h]
  · rw [List.getElem?_set_ne e]
/-- x = e -/
theorem sem_set {i : Nat} (hΓ : Γ[i]? = some r'.md) (he : SemE X.mg X.K E r' Γ te fe) : SemS X.mg X.K E r Γl Γ Γ (tAsg te (gName i)) (sSet i fe) := fun pot M0 H0 B M σ H ρ π D S p h => by
  refine PostS.seq (r' := r') (te := te σ H) h S (fun Q' hq => he pot M σ H ρ π S.env p Q' hq) fun d π1 v H1 _ g1 p1 q1 h1 => ?_
  obtain ⟨M1, S1, hd, _⟩ := S.hold g1 p1 q1
  have S2 := S1.put (i := i) (List.getElem?_eq_some_iff.mp hΓ).1 hd
  rw [set_same hΓ] at S2
  exact h1 M1 _ H1 S2 p1
theorem ds_set (i : Nat) {x : Str} {p : Pos} (o : XOk X E k) (he : DE X E r' Γ e te fe) (hΓ : Γ[i]? = some r'.md := by rfl) (hN : X.N[i]? = some x := by rfl) (hx : Loc X.env.scope x := by first | exact Or.inl rfl | exact Or.inr rfl)
    (hs : swapsWith e (some (.Name x p)) pos.line X.env = pure false := by rfl) (hf : X.fn x = true ∨ X.env.scope.names.lookup x = some .local := by first | exact .inl rfl | exact .inr rfl) : DS X E r Γl Γ Γ (.Assign [.Name x p] e pos) (tAsg te (gName i)) (sSet i fe) :=
  ⟨ps_set o.nd hN hx he.pe hs hf, sem_set hΓ he.sem⟩
/-- a, b = e1, e2 -/
theorem ds_par (i j : Nat) {x y : Str} {px py pt : Pos} {kt k2 : Nat} {pt2 : Pos} (o : XOk X E k) (ha : DE X E ra Γ a ta fa) (hb : DE X E rb Γ b tb fb) (hi : Γ[i]? = some ra.md := by rfl) (hj : Γ[j]? = some rb.md := by rfl) (hN : X.N[i]? = some x := by rfl) (hN2 : X.N[j]? = some y := by rfl) (hij : i ≠ j := by decide)
    (hx : X.env.scope.names.lookup x = some .local := by rfl) (hy : X.env.scope.names.lookup y = some .local := by rfl) (hw : swappedStores [.Tuple [.Name x px, .Name y py] kt pt] (.Tuple [a, b] k2 pt2) X.env = pure (some [x, y]) := by rfl)
    (hs : swapsWithSole [.Tuple [.Name x px, .Name y py] kt pt] (.Tuple [a, b] k2 pt2) pos.line X.env = pure false := by rfl) (s1 : starEach [a, b] X.env = (false, eval a X.env) :: starEach [b] X.env := by rfl) (s2 : starEach [b] X.env = (false, eval b X.env) :: starEach [] X.env := by rfl) :
    DS X E r Γl Γ Γ (.Assign [.Tuple [.Name x px, .Name y py] kt pt] (.Tuple [a, b] k2 pt2) pos) (tPar i j (tCons ta (tCons tb tNil))) (sPar i j fa fb) :=
  ⟨ps_par o.calm o.nd hN hN2 hij hx hy (pa_cons ha.pe (pa_cons hb.pe pa_nil s2) s1) hw hs, fun pot M0 H0 B M σ H ρ π D S p h => by
    refine PostS.seq (r' := ra) (te := ta σ H) h S (fun Q' hq => ha.sem pot M σ H ρ π S.env p Q' hq) fun d π1 v H1 _ g1 p1 q1 h1 => ?_
    obtain ⟨M1, S1, hd, _⟩ := S.hold g1 p1 q1
    refine PostS.seq (r' := rb) (te := tb σ H1) h1 S1 (fun Q' hq => hb.sem pot M1 σ H1 ρ π1 S1.env p1 Q' hq) fun e π2 w H2 _ g2 p2 q2 h2 => ?_
    obtain ⟨M2, S2, he, hc⟩ := S1.hold g2 p2 q2
    have hd2 := hd.carry S1.env.pm g2 hc
    have hne : rb = .o → ra = .o → w ≠ v := fun e1 e2 z => by
      subst e1
      subst e2
      obtain ⟨p', e3, m, _⟩ := hd
      obtain ⟨q', e4, hn, _⟩ := q2
      rw [e4, e3] at z
      cases z
      exact (S1.env.al _ m).nn hn
    have he2 := he.put hd2 hne (i := i)
    have S3 := S2.put (i := i) (List.getElem?_eq_some_iff.mp hi).1 hd2
    have S4 := S3.put (i := j) (by rw [List.length_set]; exact (List.getElem?_eq_some_iff.mp hj).1) he2
    rw [set_same hi, set_same hj] at S4
    exact ⟨v, w, rfl, h2 M2 _ H2 S4 p2⟩⟩
/-- a, b = e: a tuple's items -/
theorem ds_unp {tg : Expr} {is : List Nat} {g : TG} {fg : D → Rho → Option Rho} (he : DE X E .f Γ e te fe) (hg : DG X Γ tg is g fg) (h1 : swapsWithSole [tg] e pos.line X.env = pure false := by rfl) (h2 : swappedStores [tg] e X.env = pure none := by rfl)
    (h3 : (assignEach [tg] X.env).map (·.2) = [assign tg X.env] := by rfl) : DS X E r Γl Γ Γ (.Assign [tg] e pos) (tAsg te g) (sUnp fe fg) :=
  ⟨ps_asg he.pe hg.pg h1 h2 h3, fun pot M0 H0 B M σ H ρ π D S p h => by
    refine PostS.seq (r' := .f) (te := te σ H) h S (fun Q' hq => he.sem pot M σ H ρ π S.env p Q' hq) fun d π1 v H1 _ g1 p1 q1 h1 => ?_
    have S1 := S.grow g1 p1
    cases e1 : fg d ρ with
    | none =>
      rw [e1] at h1
      exact h1.elim
    | some ρ1 =>
      rw [e1] at h1
      refine hg.sem pot M σ H1 ρ v d S1.env q1 ρ1 e1 _ fun σ1 I1 s1 s2 => h1 M σ1 H1 ⟨I1, S1.gr, S1.sub, fun j e a w1 w2 w3 => ?_, S1.m0, S1.bs⟩ p1
      have nj : j ∉ is := fun z => by
        rw [hg.fs j z] at w1
        cases w1
      rw [s1 j nj] at w3
      rw [s2 j nj] at w2
      exact S.ow j e a w1 w2 w3⟩
theorem RpR.out {pot : Option Addr} {M0 M : List Addr} {H0 H H1 B : Hp} {σ : L2.St} {ρ : Rho} {v : V} {d : D} (S : SOk X.mg X.K Γ pot M0 H0 B M σ H ρ) (hr : r = .f ∨ r = .o) (q : RpR X.mg X.K r pot M H H1 v d) : RpR X.mg X.K r pot M0 H0 H1 v d := by
  rcases hr with rfl | rfl
  · exact Rp.mono (less_sub S.sub) q
  · obtain ⟨p, e, hn, n, oo, h1, h2⟩ := q
    refine ⟨p, e, ?_, n, oo, h1, h2.mono (less_sub fun a ha => ?_)⟩
    · cases z : H0 p with
      | none => rfl
      | some o =>
        rw [S.gr p o n z] at hn
        cases hn
    · rcases List.mem_cons.mp ha with z | ha
      · rw [z]
        exact List.mem_cons_self ..
      · exact List.mem_cons_of_mem _ (S.sub a ha)
theorem ds_ret (he : DE X E r Γ e te fe) (hr : r = .f ∨ r = .o := by first | exact .inl rfl | exact .inr rfl) : DS X E r Γl Γ Γ' (.Return (some e) pos) (tRet te) (sRet fe) :=
  ⟨ps_ret he.pe, fun pot M0 H0 B M σ H ρ π D S p h => by
    refine PostS.seq (r' := r) (te := te σ H) h S (fun Q' hq => he.sem pot M σ H ρ π S.env p Q' hq) fun d π1 v H1 _ g1 p1 q1 h1 => ?_
    exact h1 v H1 (S.gr.trans g1) p1 (q1.out S hr)⟩
theorem ds_if (hc : DT X E Γ c tt ft) (ha : DSs X E r Γl Γ Γ' body ts fs) (hb : DSs X E r Γl Γ Γ' sts us gs) : DS X E r Γl Γ Γ' (.If c body sts pos) (tIfS tt ts us) (sIf ft fs gs) :=
  ⟨ps_if hc.pt ha.pss hb.pss, fun pot M0 H0 B M σ H ρ π D S p h => by
    refine PostS.seqT (te := tt σ H) h S (fun Q' hq => hc.sem pot M σ H ρ π S.env p Q' hq) fun d π1 H1 _ g1 p1 h1 => ?_
    cases d with
    | true => exact ha.sem pot M0 H0 B M σ H1 ρ π1 D (S.grow g1 p1) p1 h1
    | false => exact hb.sem pot M0 H0 B M σ H1 ρ π1 D (S.grow g1 p1) p1 h1⟩
end
end DL
set_option maxHeartbeats 2000000
namespace DL
open PySem PySem.Spec PyProof.Rows L2
section
variable {mg : Str → Option Value} {K : PySem.W.Frag} {pot : Option Addr} {M M0 M1 : List Addr} {H H0 H1 H2 B : Hp} {π π1 : Pot} {Γ Γl Γ' : List Md} {σ : L2.St} {ρ : Rho} {v : V} {d : D} {r : Rm} {E : XK}
theorem less_upd {p : Addr} {o : HO} (h : p ∈ M) : Same (less H M) (less (upd H p o) M) := fun a u e => by
  obtain ⟨e1, e2⟩ := less_some.mp e
  refine less_some.mpr ⟨e1, ?_⟩
  rw [upd_ne (fun z => e1 (by rw [z]; exact h))]
  exact e2
theorem SOk.mut (S : SOk mg K Γ pot M0 H0 B M σ H ρ) {i : Nat} {p : Addr} {o' : HO} {d' : D} (hi : Γ[i]? = some .o) (er : ρ[i]? = some (some d)) (es : σ[i]? = some (some (.ref p))) (q : HoR mg K (less H M) o' d') :
    SOk mg K Γ pot M0 H0 B M σ (upd H p o') (ρ.set i (some d')) := by
  have I := S.env
  obtain ⟨p', e1, m, n, oo, h1, h2⟩ := I.o i d hi er
  have ep : p' = p := by
    rw [es] at e1
    cases e1
    rfl
  subst ep
  have hr : i < ρ.length := (List.getElem?_eq_some_iff.mp er).1
  have hz := S.ow i d p' hi er es
  refine ⟨⟨I.ls, by simp [I.lr], fun j e g1 g2 => ?_, fun j e g1 g2 => ?_, I.p, fun j e g1 g2 => ?_, fun j k a b c g1 g2 g3 g4 g5 g6 => ?_, fun a ha => ?_, I.pm, fun j a dd e g1 g2 => by
    have nij : i ≠ j := fun z => by rw [← z, hi] at g1; cases g1
    rw [List.getElem?_set_ne nij] at g2
    exact ⟨(I.x j a dd e g1 g2).1, (I.x j a dd e g1 g2).2.mono (less_upd m)⟩⟩, fun a o g1 g2 => ?_, S.sub, fun j e a g1 g2 g3 => ?_, S.m0, fun a o e => less_upd m a o (S.bs a o e)⟩
  · have nij : i ≠ j := fun z => by rw [← z, hi] at g1; cases g1
    rw [List.getElem?_set_ne nij] at g2
    obtain ⟨w, w1, w2⟩ := I.f j e g1 g2
    exact ⟨w, w1, w2.mono (less_upd m)⟩
  · rcases set_at g2 with ⟨rfl, e3, _⟩ | ⟨nij, e3⟩
    · cases e3
      exact ⟨p', es, m, n, o', upd_same, (q.mono (less_in m)).mono (less_upd (List.mem_cons_self ..))⟩
    · obtain ⟨a, w1, w2, w3, oj, w5, w6⟩ := I.o j e g1 e3
      have na : a ≠ p' := fun z => nij (I.ap i j p' d e hi g1 er e3 es (by rw [← z]; exact w1))
      exact ⟨a, w1, w2, w3, oj, by rw [upd_ne na]; exact w5, w6.mono (less_upd (List.mem_cons_of_mem _ m))⟩
  · have nij : i ≠ j := fun z => by rw [← z, hi] at g1; cases g1
    rw [List.getElem?_set_ne nij] at g2
    obtain ⟨a, ns, w1, w2, w3⟩ := I.s j e g1 g2
    exact ⟨a, ns, w1, w2, sqL_mono (less_upd m) w3⟩
  · have s3 : ∃ b', ρ[j]? = some (some b') := by
      rcases set_at g3 with ⟨z, _, _⟩ | ⟨_, z⟩
      · exact ⟨d, by rw [← z]; exact er⟩
      · exact ⟨b, z⟩
    have s4 : ∃ b', ρ[k]? = some (some b') := by
      rcases set_at g4 with ⟨z, _, _⟩ | ⟨_, z⟩
      · exact ⟨d, by rw [← z]; exact er⟩
      · exact ⟨c, z⟩
    obtain ⟨b1, s3⟩ := s3
    obtain ⟨b2, s4⟩ := s4
    exact I.ap j k a b1 b2 g1 g2 s3 s4 g5 g6
  · by_cases z : a = p'
    · rw [z]
      exact .of upd_same q.nt
    · obtain ⟨o, e, n⟩ := I.al a ha
      exact .of (by rw [upd_ne z]; exact e) n
  · have z : a ≠ p' := fun z => by
      rw [z, hz] at g2
      cases g2
    rw [upd_ne z]
    exact S.gr a o g1 g2
  · rcases set_at g2 with ⟨rfl, e3, _⟩ | ⟨nij, e3⟩
    · exact S.ow i d a hi er g3
    · exact S.ow j e a g1 e3 g3
theorem PotAt.mut {p : Addr} {o : HO} (h : PotAt pot H π) (n : pot ≠ some p) : PotAt pot (upd H p o) π := fun a e => by
  rw [upd_ne (fun z => n (by rw [e, z]))]
  exact h a e
/-- the pot turns -/
theorem SOk.potset (S : SOk mg K Γ pot M0 H0 B M σ H ρ) {p : Addr} (e : pot = some p) (a b : Int) : SOk mg K Γ pot M0 H0 B M σ (upd H p (.lst [.int a, .int b])) ρ :=
  S.grow (π := (a, b)) (fun x o n h => by
    rw [upd_ne (fun z => n (by rw [e, z]))]
    exact h) fun x h => by
    rw [e] at h
    cases h
    exact upd_same
end
def sMut (i : Nat) (fe : Ed) (f : D → List D → Option (List D)) : Fs := fun ρ π => match ρ[i]? with
  | some (some (.lst ds)) => (fe ρ π).bind fun x => (ofO (f x.1 ds)).bind fun es => .ok (.nx (ρ.set i (some (.lst es))), x.2)
  | _ => .stuck
def sMut2 (i : Nat) (fk fe : Ed) (f : D → D → List D → Option (List D)) : Fs := fun ρ π => match ρ[i]? with
  | some (some (.lst ds)) => (fk ρ π).bind fun y => (fe ρ y.2).bind fun x => (ofO (f y.1 x.1 ds)).bind fun es => .ok (.nx (ρ.set i (some (.lst es))), x.2)
  | _ => .stuck
def appD (e : D) (ds : List D) : Option (List D) := if ds.length < sizeLine then some (ds ++ [e]) else none
def extD (e : D) (ds : List D) : Option (List D) := match e with
  | .lst es => if ds.length + es.length ≤ sizeLine then some (ds ++ es) else none
  | _ => none
/-- the value, then the place -/
def setD (v k : D) (ds : List D) : Option (List D) := match k with
  | .int n => (ixN ds.length n).map fun j => ds.set j v
  | _ => none
def sApp (i : Nat) (fe : Ed) : Fs := sMut i fe appD
def sExt (i : Nat) (fe : Ed) : Fs := sMut i fe extD
def sSetIx (i : Nat) (fe fk : Ed) : Fs := sMut2 i fe fk setD
def intAt (ds : List D) (k : D) : Option (Nat × Int) := match k with
  | .int m => if 0 ≤ m ∧ m < 4611686018427387904 then (match ds[m.toNat]? with
    | some (.int x) => some (m.toNat, x)
    | _ => none) else none
  | _ => none
def sAugIx (i : Nat) (g : Int → Int → Int) (fk fe : Ed) : Fs := fun ρ π => match ρ[i]? with
  | some (some (.lst ds)) => (fk ρ π).bind fun y => (ofO (intAt ds y.1)).bind fun a => (fe ρ y.2).bind fun x => match x.1 with
    | .int b => .ok (.nx (ρ.set i (some (.lst (ds.set a.1 (.int (g a.2 b)))))), x.2)
    | _ => .stuck
  | _ => .stuck
def sAug (i : Nat) (g : Int → Int → Int) (fe : Ed) : Fs := fun ρ π => match ρ[i]? with
  | some (some (.int a)) => (fe ρ π).bind fun x => match x.1 with
    | .int b => .ok (.nx (ρ.set i (some (.int (g a b)))), x.2)
    | _ => .stuck
  | _ => .stuck
def ePot0 : Ed := fun _ π => .ok (.int π.1, π)
def ePot1 : Ed := fun _ π => .ok (.int π.2, π)
def sPot1 (fe : Ed) : Fs := fun ρ π => (fe ρ π).bind fun x => match x.1 with
  | .int n => .ok (.nx ρ, (x.2.1, n))
  | _ => .stuck
def divOk (i j : Int) : Bool := decide (0 < j) && !Builtin.divisionGoesByPylong i j
def sPotDm (j : Nat) (fe : Ed) : Fs := fun ρ π => (fe ρ π).bind fun x => match x.1 with
  | .int n => if divOk π.1 n then .ok (.nx (ρ.set j (some (.int (π.1 % n)))), (π.1 / n, x.2.2)) else .stuck
  | _ => .stuck
section
variable {X : Cx} {E : XK} {r r' ra rb rc : Rm} {Γl Γ Γ1 Γ' : List Md} {pos : Pos} {k : Nat} {e a b c : Expr} {te ta tb tc ti : TE} {fe fa fb fc fk : Ed} {st : Stmt} {sts body : List Stmt} {ts us : TS} {fs gs : Fs} {tt : TT} {ft : Et}
theorem own_at {pot : Option Addr} {M M0 : List Addr} {H H0 B : Hp} {σ : L2.St} {ρ : Rho} {i : Nat} {ds : List D} (S : SOk X.mg X.K Γ pot M0 H0 B M σ H ρ) (hΓ : Γ[i]? = some .o) (er : ρ[i]? = some (some (.lst ds))) :
    ∃ p xs, σ[i]? = some (some (.ref p)) ∧ pot ≠ some p ∧ H p = some (.lst xs) ∧ RpL X.mg X.K (less H M) xs ds := by
  obtain ⟨p, e1, m, n, oo, h1, h2⟩ := S.env.o i _ hΓ er
  cases h2 with
  | lst h2 => exact ⟨p, _, e1, n, h1, h2.mono (less_sub fun a q => List.mem_cons_of_mem _ q)⟩
/-- x.append(e), x.extend(e) -/
theorem sem_mut {i : Nat} {f : D → List D → Option (List D)} {rm : V → List V → Hp → VK → Prop} {ra : Rm} (hΓ : Γ[i]? = some .o) (he : SemE X.mg X.K E ra Γ te fe)
    (ho : ∀ (pot : Option Addr) (M : List Addr) (H : Hp) (p : Addr) (xs : List V) (y : V) (ds : List D) (d : D) (es : List D), H p = some (.lst xs) → RpL X.mg X.K (less H M) xs ds → (ra = .f → Rp X.mg X.K (less H M) y d) → Rb X.mg X.K pot M H y d → f d ds = some es →
      ∃ ys, RpL X.mg X.K (less H M) ys es ∧ ∀ Q : VK, Q .non (upd H p (.lst ys)) → rm (.ref p) [y] H Q) : SemS X.mg X.K E r Γl Γ Γ (tDrop (tBM X.K "list" rm (tVar i) (tCons te tNil))) (sMut i fe f) := fun pot M0 H0 B M σ H ρ π D' S p h => by
  unfold sMut at h
  split at h
  · rename_i ds er
    obtain ⟨c, xs, e1, n, h1, r1⟩ := own_at S hΓ er
    refine ⟨.ref c, e1, .inl ⟨rfl, xs, .inl (.inl h1)⟩, ?_⟩
    refine PostS.seq (r' := ra) (te := te σ H) h S (fun Q' hq => he pot M σ H ρ π S.env p Q' hq) fun d π1 v H1 _ g1 p1 q1 h2 => ?_
    have S1 := S.grow g1 p1
    cases ef : f d ds with
    | none =>
      rw [ef] at h2
      exact h2.elim
    | some es =>
      rw [ef] at h2
      obtain ⟨ys, r2, hQ⟩ := ho pot M H1 c xs v ds d es (g1 c _ n h1) (r1.mono (less_grow S.env.pm g1)) (fun z => by subst z; exact q1) q1.toB ef
      exact hQ _ (h2 M σ _ (S1.mut hΓ er e1 (.lst r2)) (p1.mut n))
  · exact h.elim
abbrev BmOk (X : Cx) (x : Str) (nm : Str) (e : Expr) (p apos cpos pos : Pos) : Prop :=
  attributeBase (.Name x p) nm X.env (eval (.Name x p) X.env) = eval (.Name x p) X.env ∧
  ((((backTo cpos (starEach [e] X.env)).all fun x => !x.fst) && (backToKw cpos (keywordEach [] X.env)).all fun x => x.fst.isSome) && decide (([e].length + ([] : List Expr).length + if ([] : List Expr).isEmpty = true then 0 else 1) < 30)) = true ∧
  (apos.endLine == cpos.line) = true ∧ starEach [e] X.env = (false, eval e X.env) :: starEach [] X.env ∧ ((backTo cpos (starEach [] X.env)).any fun x => x.fst) = false ∧
  swapsWith (.Call (.Attribute (.Name x p) nm apos) [e] [] cpos) none pos.line X.env = pure false
theorem ds_app (i : Nat) {x : Str} {p apos cpos : Pos} (he : DE X E .f Γ e te fe) (hΓ : Γ[i]? = some .o := by rfl) (hN : X.N[i]? = some x := by rfl) (hv : Vis X.env.scope x := by first | exact Or.inl rfl | exact Or.inr (Or.inl rfl) | exact Or.inr (Or.inr rfl))
    (hd : (x == ("__debug__" : Str)) = false := by decide) (hcd : (x == ("__classdict__" : Str)) = false := by decide) (hb : BmOk X x "append" e p apos cpos pos := by exact ⟨rfl, rfl, rfl, rfl, rfl, rfl⟩) :
    DS X E r Γl Γ Γ (.Expr (.Call (.Attribute (.Name x p) "append" apos) [e] [] cpos) pos) (tDrop (tBM X.K "list" rAppend (tVar i) (tCons te tNil))) (sApp i fe) :=
  ⟨ps_expr (pe_bm PySem.F.plainAttrs_list PySem.F.slot_list_append PySem.F.type_list_append mt_append (pe_var hN hv hd hcd) (pa_cons he.pe pa_nil hb.2.2.2.1) hb.1 hb.2.1 hb.2.2.1 hb.2.2.2.1 hb.2.2.2.2.1) hb.2.2.2.2.2,
    sem_mut (ra := .f) hΓ he.sem fun pot M H p xs y ds d es h1 r1 q1 _ ef => by
      unfold appD at ef
      split at ef
      · rename_i hl
        cases ef
        exact ⟨xs ++ [y], r1.append (.cons (q1 rfl) .nil), fun Q q => ⟨p, xs, y, rfl, rfl, h1, by rw [r1.length]; exact hl, q⟩⟩
      · cases ef⟩
theorem ds_ext (i : Nat) {x : Str} {p apos cpos : Pos} (he : DE X E r' Γ e te fe) (hΓ : Γ[i]? = some .o := by rfl) (hN : X.N[i]? = some x := by rfl) (hv : Vis X.env.scope x := by first | exact Or.inl rfl | exact Or.inr (Or.inl rfl) | exact Or.inr (Or.inr rfl))
    (hd : (x == ("__debug__" : Str)) = false := by decide) (hcd : (x == ("__classdict__" : Str)) = false := by decide) (hb : BmOk X x "extend" e p apos cpos pos := by exact ⟨rfl, rfl, rfl, rfl, rfl, rfl⟩) :
    DS X E r Γl Γ Γ (.Expr (.Call (.Attribute (.Name x p) "extend" apos) [e] [] cpos) pos) (tDrop (tBM X.K "list" rExtend (tVar i) (tCons te tNil))) (sExt i fe) :=
  ⟨ps_expr (pe_bm PySem.F.plainAttrs_list PySem.F.slot_list_extend PySem.F.type_list_extend mt_extend (pe_var hN hv hd hcd) (pa_cons he.pe pa_nil hb.2.2.2.1) hb.1 hb.2.1 hb.2.2.1 hb.2.2.2.1 hb.2.2.2.2.1) hb.2.2.2.2.2,
    sem_mut (ra := r') hΓ he.sem fun pot M H p xs y ds d es h1 r1 _ q1 ef => by
      unfold extD at ef
      split at ef
      · rename_i fs
        split at ef
        · rename_i hl
          cases ef
          obtain ⟨b, zs, rfl, hB, r2⟩ := rb_lst q1
          exact ⟨xs ++ zs, r1.append r2, fun Q q => ⟨p, b, xs, zs, rfl, rfl, h1, hB, by rw [r1.length, r2.length]; exact hl, q⟩⟩
        · cases ef
      · cases ef⟩
/-- x[k] = e -/
theorem ds_setix (i : Nat) {x : Str} {p p2 : Pos} {kx : Expr} (he : DE X E .f Γ e te fe) (hk : DE X E .f Γ kx ti fk) (hΓ : Γ[i]? = some .o := by rfl) (hN : X.N[i]? = some x := by rfl) (hv : Vis X.env.scope x := by first | exact Or.inl rfl | exact Or.inr (Or.inl rfl) | exact Or.inr (Or.inr rfl))
    (hd : (x == ("__debug__" : Str)) = false := by decide) (hcd : (x == ("__classdict__" : Str)) = false := by decide)
    (ha : ∀ v, assign (.Subscript (.Name x p) kx p2) X.env v = (do let ov ← holding [v] (eval (.Name x p) X.env); let iv ← holding [v, ov] (eval kx X.env); standAt p2; holding [v, ov, iv] (setItem ov iv v); release [v, ov, iv] []) := by intro _; rfl)
    (h1 : swapsWithSole [.Subscript (.Name x p) kx p2] e pos.line X.env = pure false := by rfl) (h2 : swappedStores [.Subscript (.Name x p) kx p2] e X.env = pure none := by rfl) (h3 : (assignEach [.Subscript (.Name x p) kx p2] X.env).map (·.2) = [assign (.Subscript (.Name x p) kx p2) X.env] := by rfl) :
    DS X E r Γl Γ Γ (.Assign [.Subscript (.Name x p) kx p2] e pos) (tAsg te (gSub (tVar i) ti rSetL)) (sSetIx i fe fk) :=
  ⟨ps_asg he.pe (pg_sub (pe_var hN hv hd hcd) hk.pe set_list ha) h1 h2 h3, fun pot M0 H0 B M σ H ρ π D' S p h => by
    unfold sSetIx sMut2 at h
    split at h
    · rename_i ds er
      obtain ⟨c, xs, e1, n, hc, r1⟩ := own_at S hΓ er
      refine PostS.seq (r' := .f) (te := te σ H) h S (fun Q' hq => he.sem pot M σ H ρ π S.env p Q' hq) fun d π1 v H1 _ g1 p1 q1 h1 => ?_
      have S1 := S.grow g1 p1
      refine ⟨.ref c, e1, ?_⟩
      refine PostS.seq (r' := .f) (te := ti σ H1) h1 S1 (fun Q' hq => hk.sem pot M σ H1 ρ π1 S1.env p1 Q' hq) fun kd π2 kv H2 _ g2 p2 q2 h2 => ?_
      have S2 := S1.grow g2 p2
      have g12 := g1.trans g2
      cases ef : setD d kd ds with
      | none =>
        rw [ef] at h2
        exact h2.elim
      | some es =>
        rw [ef] at h2
        cases kd with
        | int m =>
          simp only [setD, Option.map_eq_some_iff] at ef
          obtain ⟨j, hj, rfl⟩ := ef
          cases rb_int (.inl q2 : Rb X.mg X.K pot M H2 kv (.int m))
          have r2 : RpL X.mg X.K (less H2 M) (xs.set j v) (ds.set j d) := (r1.mono (less_grow S.env.pm g12)).set j (q1.mono (less_grow S.env.pm g2))
          exact ⟨c, xs, m, j, rfl, rfl, g12 c _ n hc, by rw [r1.length]; exact hj, h2 M σ _ (S2.mut hΓ er e1 (.lst r2)) (p2.mut n)⟩
        | _ => cases ef
    · exact h.elim⟩
theorem ds_for {tg iter : Expr} {wi : TI} {fi : Ei} {is : List Nat} {g : TG} {fg : D → Rho → Option Rho} (o : XOk X E k) (hi : DI false X E Γ tg iter wi fi) (hg : DG X Γ tg is g fg) (hb : DSs X E r Γ Γ Γ body ts fs) (hs : ∀ x, foldedSetIterable iter X.env x = pure x := by intro _; rfl) :
    DS X E r Γl Γ Γ (.For tg iter body [] pos) (tFor wi g ts) (sFor fi fg fs) :=
  ⟨ps_for o.own o.calm hi.pi hg.pg hb.pss hs, fun pot M0 H0 B M σ H ρ π D' S p h => by
    refine PostS.seqI (w := false) (te := wi σ H) h S (fun Q' hq => hi.sem pot M σ H ρ π S.env p Q' hq) fun items π1 J H1 G Y _ g1 p1 W h1 => ?_
    have S1 := S.grow g1 p1
    refine for_it W.walk (fun i σ2 H2 => ∃ M2 ρ2 π2, SOk X.mg X.K Γ pot M0 H0 (less H1 M) M2 σ2 H2 ρ2 ∧ PotAt pot H2 π2 ∧ PostS X.mg X.K r Γl Γ pot M0 H0 B (forGo fg fs (items.drop i) ρ2 π2) D' E)
      ⟨M, ρ, π1, ⟨S1.env, S1.gr, S1.sub, S1.ow, S1.m0, Same.refl _⟩, p1, by rw [List.drop_zero]; exact h1⟩ (fun i σ2 H2 _ ⟨M2, ρ2, π2, S2, _, _⟩ => W.stay H2 M2 (fun z => by cases z) S2.bs) ?_ ?_
    · rintro i xv σ2 H2 H3 hlt ⟨M2, ρ2, π2, S2, p2, h2⟩ hy
      obtain ⟨sm, d, hd, rd⟩ := W.item i H2 xv H3 M2 (fun z => by cases z) S2.bs S2.env.al hlt hy
      have S3 := S2.grow (.of_same sm) (p2.same sm)
      have edr : items.drop i = d :: items.drop (i + 1) := by
        rw [List.drop_eq_getElem_cons hlt]
        congr 1
        have := List.getElem?_eq_getElem hlt
        rw [hd] at this
        exact (Option.some.inj this).symm
      rw [edr] at h2
      unfold forGo at h2
      cases e1 : fg d ρ2 with
      | none =>
        rw [e1] at h2
        exact h2.elim
      | some ρ3 =>
        rw [e1] at h2
        simp only [ofO_some, Res.bind_ok] at h2
        refine hg.sem pot M2 σ2 H3 ρ2 xv d S3.env rd ρ3 e1 _ fun σ3 I3 s1 s2 => ?_
        have S4 : SOk X.mg X.K Γ pot M0 H0 (less H1 M) M2 σ3 H3 ρ3 := ⟨I3, S3.gr, S3.sub, fun j e a w1 w2 w3 => by
          have nj : j ∉ is := fun z => by
            rw [hg.fs j z] at w1
            cases w1
          rw [s1 j nj] at w3
          rw [s2 j nj] at w2
          exact S3.ow j e a w1 w2 w3, S3.m0, S3.bs⟩
        refine hb.sem pot M0 H0 (less H1 M) M2 σ3 H3 ρ3 π2 _ S4 (p2.same sm) ?_
        cases e2 : fs ρ3 π2 with
        | err c ns xs π' =>
          rw [e2] at h2
          exact h2
        | stuck =>
          rw [e2] at h2
          exact h2
        | ok y =>
          obtain ⟨y, π3⟩ := y
          rw [e2] at h2
          simp only [Res.bind_ok] at h2
          cases y with
          | nx ρ4 => exact fun M4 σ4 H4 S5 p5 => ⟨M4, ρ4, π3, S5, p5, h2⟩
          | ct ρ4 => exact fun M4 σ4 H4 S5 p5 => ⟨M4, ρ4, π3, S5, p5, h2⟩
          | bk ρ4 => exact fun M4 σ4 H4 S5 p5 => h2 M4 σ4 H4 ⟨S5.env, S5.gr, S5.sub, S5.ow, S5.m0, fun a u e => S5.bs a u (S1.bs a u e)⟩ p5
          | rt d => exact h2
    · rintro σ2 H2 ⟨M2, ρ2, π2, S2, p2, h2⟩
      rw [List.drop_length] at h2
      exact h2 M2 σ2 H2 ⟨S2.env, S2.gr, S2.sub, S2.ow, S2.m0, fun a u e => S2.bs a u (S1.bs a u e)⟩ p2⟩
end
end DL
set_option maxHeartbeats 2000000
namespace DL
open PySem PySem.Spec PyProof.Rows L2
/-- a def's promise, where no repr is running -/
structure FnG (P : Program) (w : World) (K : PySem.W.Frag) (mg : Str → Option Value) (base : Heap) (k : Nat) (f : Addr) (fd : FuncData) (ps : List Str) (sp : Sp) : Prop where
  len : ∀ vs H Q E, sp vs H Q E → vs.length = ps.length
  run : ∀ (A : Around) (outer : List Env) (s : Shared) (H : Hp) (args : PySem.Args) (us : List Value) (vs : List V) (Q : VK) (E : XK), Room k A → A.guards = some [] →
    Env0 P w K mg base A outer s H → BindsTo s fd args (ps.zip us) → Vals vs us → sp vs H Q E →
    codeAny (model P w) A (.call (.ref f) args) (CR (L2.CX P w) outer P w H s Q E) s
theorem FnG.mono {P : Program} {w : World} {K : PySem.W.Frag} {mg : Str → Option Value} {base : Heap} {j k : Nat} {f : Addr} {fd : FuncData} {ps : List Str} {sp : Sp} (F : FnG P w K mg base j f fd ps sp) (h : j ≤ k) : FnG P w K mg base k f fd ps sp :=
  ⟨F.len, fun A outer s H args us vs Q E hr => F.run A outer s H args us vs Q E (hr.mono h)⟩
/-- by its body -/
theorem fn_ofG {P : Program} {w : World} {K : PySem.W.Frag} {mg : Str → Option Value} {base : Heap} {k : Nat} {f : Addr} {name qual : Str} {params : Arguments} {body : List Stmt} {scope : Scope} {dV kV doc pm cdv ct oc : Value} {an od : Option Addr} {osl : Array (Option Value)} {N ps : List Str} {sp : Sp}
    (lk : K.lookup f = some ⟨oc, od, .func (PySem.W.fnOf name qual params body scope dV kV doc pm an cdv ct), osl⟩) (hcd : PySem.W.codeIn K cdv qual = true) (S : FnScope N ps scope) (len : ∀ vs H Q E, sp vs H Q E → vs.length = ps.length)
    (hbody : ∀ (A : Around) (outer : List Env) (s : Shared) (H : Hp) (vs : List V) (Q : VK) (E : XK), Room k (A.deeper (envOfC qual scope s.heap.objs.size f cdv)) → A.guards = some [] → sp vs H Q E →
      ∃ t, PSs (cxOf (L2.CX P w) P w K mg base N qual scope f cdv A outer s H E) body t ∧ t { nx := fun _ H' => Q .non H', rt := Q } (start N vs) H) :
    FnG P w K mg base (k + 1) f (PySem.W.fnOf name qual params body scope dV kV doc pm an cdv ct) ps sp := by
  refine ⟨len, ?_⟩
  intro A outer s H args us vs Q E room gd env0 bind rel want
  have inK : K.In s.heap := env0.mod.kin.keeps fun b o q => (env0.bs b o q).1
  have noLim : s.heap.NoLimit := env0.mod.nolimit.keeps fun b o q => (env0.bs b o q).1
  refine codeAny_call_function room.depth (inK _ _ lk) rfl S.co S.gen rfl (PySem.W.codeRec_of inK hcd) (bind _ _ _ _ ?_)
  refine wpAny_newFunctionEnv_cells S.kind (fun q hq => ?_) fun env he s1 x => ?_
  · obtain ⟨n, v⟩ := q
    exact (S.par n (List.of_mem_zip hq).1).elim .inl fun z => .inr ⟨z, PySem.W.cellsFrom_some _ _ _ (.inl z)⟩
  · subst he
    refine ⟨noLim.keeps x.toInCall.keep, codeAny_func ?_⟩
    obtain ⟨t, ht, hq⟩ := hbody A outer s H vs Q E (room.deeper _) gd want
    have I0 := inv_start (CX := L2.CX P w) (K := K) (mg := mg) (base := base) (N := N) (qual := qual) (f := f) (cd := cdv) (E := E) S room.hd env0 (len _ _ _ _ want) rel x
    refine wpAny_mono (ht.run [] s1 (start N vs) H _ I0 hq) (fun fl s' hs => ?_) fun e s' hs => hs
    cases fl with
    | ret u =>
      obtain ⟨v, σ', H', J, rv, q⟩ := hs
      exact ⟨v, H', J.os, J.bare, J.base, J.hok, rv, q⟩
    | next =>
      obtain ⟨σ', H', J, q⟩ := hs
      exact ⟨.non, H', J.os, J.bare, J.base, J.hok, rfl, q⟩
    | brk =>
      obtain ⟨_, _, _, q⟩ := hs
      exact q.elim
    | cont =>
      obtain ⟨_, _, _, q⟩ := hs
      exact q.elim
section
variable (mg : Str → Option Value) (K : PySem.W.Frag)
/-- what a def promises that gives m of its data -/
def SpD (ks : List Ak) (r : Rm) (m : Fd) : Sp := fun vs H Q E => vs.length = ks.length ∧ ∃ pot M ds π, Args mg K pot M H ks vs ds ∧ (∀ a ∈ M, Al H a) ∧ (∀ a, pot = some a → a ∈ M) ∧ PotAt pot H π ∧ Post mg K r pot M H (m ds π) Q E
end
def startD (n : Nat) (ds : List D) : Rho := ds.map some ++ List.replicate (n - ds.length) none
def Ak.md : Ak → Md
  | .f => .f
  | .b => .u
  | .p => .p
  | .s => .s
/-- the body run as a def -/
def runD (n : Nat) (r : Rm) (fs : Fs) : Fd := fun ds π => (fs (startD n ds) π).bind fun x => match x.1 with
  | .rt d => .ok (d, x.2)
  | .nx _ => if r = .f then .ok (.non, x.2) else .stuck
  | _ => .stuck
/-- the modes at the entry -/
def modesOk (ks : List Ak) (Γ : List Md) : Bool := decide (Γ.take ks.length = ks.map Ak.md) && (Γ.drop ks.length).all fun m => m == .f || m == .o || m == .u
theorem start_at {N : List Str} {vs : List V} {i : Nat} (h : i < vs.length) : (start N vs)[i]? = some (vs[i]?) := by
  unfold L2.start
  rw [List.getElem?_append_left (by simpa using h), List.getElem?_map]
  simp [h]
theorem startD_at {n : Nat} {ds : List D} {i : Nat} {d : D} (h : (startD n ds)[i]? = some (some d)) : ds[i]? = some d := by
  unfold startD at h
  by_cases hi : i < ds.length
  · rw [List.getElem?_append_left (by simpa using hi), List.getElem?_map] at h
    simp [hi] at h
    rw [List.getElem?_eq_getElem hi, h]
  · rw [List.getElem?_append_right (by simpa using hi), List.getElem?_replicate] at h
    split at h <;> cases h
theorem Args.at {mg : Str → Option Value} {K : PySem.W.Frag} {pot : Option Addr} {M : List Addr} {H : Hp} : ∀ {ks : List Ak} {vs : List V} {ds : List D} {i : Nat} {d : D}, Args mg K pot M H ks vs ds → ds[i]? = some d → ∃ k v, ks[i]? = some k ∧ vs[i]? = some v ∧ ArgR mg K pot M H k v d
  | _, _, _, _, _, .nil, h => by simp at h
  | _, _, _, 0, _, .cons a _, h => by
    simp at h
    subst h
    exact ⟨_, _, rfl, rfl, a⟩
  | _, _, _, i + 1, _, .cons _ r, h => by
    obtain ⟨k, v, h1, h2, h3⟩ := r.at (i := i) (by simpa using h)
    exact ⟨k, v, by simpa using h1, by simpa using h2, h3⟩
theorem Args.atK {mg : Str → Option Value} {K : PySem.W.Frag} {pot : Option Addr} {M : List Addr} {H : Hp} : ∀ {ks : List Ak} {vs : List V} {ds : List D} {i : Nat} {k : Ak}, Args mg K pot M H ks vs ds → ks[i]? = some k → ∃ v d, vs[i]? = some v ∧ ds[i]? = some d ∧ ArgR mg K pot M H k v d
  | _, _, _, _, _, .nil, h => by simp at h
  | _, _, _, 0, _, .cons a _, h => by
    simp at h
    subst h
    exact ⟨_, _, rfl, rfl, a⟩
  | _, _, _, i + 1, _, .cons _ r, h => by
    obtain ⟨v, d, h1, h2, h3⟩ := r.atK (i := i) (by simpa using h)
    exact ⟨v, d, by simpa using h1, by simpa using h2, h3⟩
theorem Args.lenD {mg : Str → Option Value} {K : PySem.W.Frag} {pot : Option Addr} {M : List Addr} {H : Hp} {ks : List Ak} {vs : List V} {ds : List D} (h : Args mg K pot M H ks vs ds) : ds.length = ks.length := by
  induction h with
  | nil => rfl
  | cons _ _ ih => exact congrArg Nat.succ ih
theorem env_start {mg : Str → Option Value} {K : PySem.W.Frag} {pot : Option Addr} {M : List Addr} {H : Hp} {ks : List Ak} {Γ : List Md} {N : List Str} {vs : List V} {ds : List D} (hm : modesOk ks Γ = true) (hl : Γ.length = N.length) (hk : ks.length ≤ N.length)
    (a : Args mg K pot M H ks vs ds) (al : ∀ a ∈ M, Al H a) (pm : ∀ a, pot = some a → a ∈ M) : EnvOk mg K Γ pot M (start N vs) H (startD N.length ds) := by
  obtain ⟨m1, m2⟩ := Bool.and_eq_true_iff.mp hm
  have m1 := of_decide_eq_true m1
  have lv := a.length
  have ld := a.lenD
  have gam : ∀ (i : Nat) (k : Ak), ks[i]? = some k → Γ[i]? = some k.md := fun i k h => by
    have hi := (List.getElem?_eq_some_iff.mp h).1
    have e : (Γ.take ks.length)[i]? = Γ[i]? := List.getElem?_take_of_lt hi
    rw [← e, m1, List.getElem?_map, h]
    rfl
  have beyond : ∀ (i : Nat) (m : Md), ks.length ≤ i → Γ[i]? = some m → m = .f ∨ m = .o ∨ m = .u := fun i m h1 h2 => by
    have e : (Γ.drop ks.length)[i - ks.length]? = some m := by
      rw [List.getElem?_drop, Nat.add_sub_cancel' h1]
      exact h2
    have q := List.all_eq_true.mp m2 m (List.mem_of_getElem? e)
    simpa [or_assoc] using q
  have dat : ∀ (i : Nat) (d : D), (startD N.length ds)[i]? = some (some d) → ∃ k v, ks[i]? = some k ∧ (start N vs)[i]? = some (some v) ∧ ArgR mg K pot M H k v d := fun i d h => by
    obtain ⟨k, v, h1, h2, h3⟩ := a.at (startD_at h)
    have hi := (List.getElem?_eq_some_iff.mp h2).1
    exact ⟨k, v, h1, by rw [start_at hi, h2], h3⟩
  refine ⟨?_, ?_, fun i d h1 h2 => ?_, fun i d h1 h2 => ?_, fun i h1 => ?_, fun i d h1 h2 => ?_, fun i j x d e h1 h2 h3 h4 h5 h6 => ?_, al, pm, fun i x dd d h1 h2 => by
    obtain ⟨k, v, q1, q2, q3⟩ := dat i d h2
    have q4 := gam i k q1
    rw [h1] at q4
    cases k <;> cases q4⟩
  · unfold L2.start
    rw [List.length_append, List.length_map, List.length_replicate]
    omega
  · unfold startD
    rw [List.length_append, List.length_map, List.length_replicate]
    omega
  · obtain ⟨k, v, q1, q2, q3⟩ := dat i d h2
    have q4 := gam i k q1
    rw [h1] at q4
    cases k with
    | f => exact ⟨v, q2, q3⟩
    | _ => cases q4
  · obtain ⟨k, v, q1, q2, q3⟩ := dat i d h2
    have q4 := gam i k q1
    rw [h1] at q4
    cases k <;> cases q4
  · by_cases hi : i < ks.length
    · obtain ⟨v, d, q1, q2, q3⟩ := a.atK (List.getElem?_eq_getElem hi)
      have q4 := gam i _ (List.getElem?_eq_getElem hi)
      rw [h1] at q4
      have hi2 := (List.getElem?_eq_some_iff.mp q1).1
      generalize ks[i] = k at q3 q4
      cases k with
      | p =>
        obtain ⟨p, e1, rfl⟩ := q3
        exact ⟨p, e1, by rw [start_at hi2, q1]⟩
      | _ => cases q4
    · rcases beyond i .p (by omega) h1 with z | z | z <;> cases z
  · obtain ⟨k, v, q1, q2, q3⟩ := dat i d h2
    have q4 := gam i k q1
    rw [h1] at q4
    cases k with
    | s =>
      obtain ⟨p, ns, e1, e2, e3⟩ := q3
      exact ⟨p, ns, by rw [q2, e1], e2, e3⟩
    | _ => cases q4
  · obtain ⟨k, v, q1, q2, q3⟩ := dat i d h3
    have q4 := gam i k q1
    rw [h1] at q4
    cases k <;> cases q4
/-- a def of the text with what it gives -/
structure DFn (P : Program) (w : World) (K : PySem.W.Frag) (mg : Str → Option Value) (base : Heap) (k : Nat) (x : Str) (st : Stmt) (ps : List Str) (ks : List Ak) (r : Rm) (m : Fd) : Prop where
  ex : ∃ f fd, mg x = some (.ref f) ∧ Fun K x x st f fd ∧ FnG P w K mg base k f fd ps (SpD mg K ks r m)
section
variable {P : Program} {w : World} {K : PySem.W.Frag} {mg : Str → Option Value} {base : Heap} {k : Nat} {x : Str} {st : Stmt} {ps N : List Str} {ks : List Ak} {r : Rm}
theorem DFn.mono {j : Nat} {m : Fd} (F : DFn P w K mg base j x st ps ks r m) (h : j ≤ k) : DFn P w K mg base k x st ps ks r m := by
  obtain ⟨f, fd, h1, h2, h3⟩ := F.ex
  exact ⟨f, fd, h1, h2, h3.mono h⟩
/-- THE RULE for a def -/
theorem dfn_of {fs : Fs} (Γ Γ' : List Md) (hf : ∃ f fd, mg x = some (.ref f) ∧ Fun K x x st f fd) (S : FnScope N ps (defScope st)) (hp : ks.length = ps.length) (hl : Γ.length = N.length) (hk : ks.length ≤ N.length) (hm : modesOk ks Γ = true)
    (hr : (r = .f ∨ r = .o) ∨ r = .t)
    (hb : ∀ (f : Addr) (cdv : Value) (A : Around) (outer : List Env) (s : Shared) (H : Hp) (E : XK), XOk (cxOf (L2.CX P w) P w K mg base N x (defScope st) f cdv A outer s H E) E k →
      ∃ ts, DSs (cxOf (L2.CX P w) P w K mg base N x (defScope st) f cdv A outer s H E) E r Γ Γ Γ' (defBody st) ts fs) :
    DFn P w K mg base (k + 1) x st ps ks r (runD N.length r fs) := by
  obtain ⟨f, fd, h1, h2⟩ := hf
  refine ⟨f, fd, h1, h2, ?_⟩
  obtain ⟨oc, od, kV, doc, pm, an, cdv, ct, osl, rfl, lk, hcd⟩ := h2.ex
  refine fn_ofG lk hcd S (fun vs H Q E h => by rw [h.1, hp]) fun A outer s H vs Q E room gd want => ?_
  obtain ⟨_, pot, M, ds, π, ar, al, pm, pt, post⟩ := want
  have o : XOk (cxOf (L2.CX P w) P w K mg base N x (defScope st) f cdv A outer s H E) E k :=
    ⟨room, gd, rfl, passes_call (takes_of rfl rfl rfl rfl) fun _ _ _ _ z => z, passes_of rfl, S.nd⟩
  obtain ⟨ts, B⟩ := hb f cdv A outer s H E o
  refine ⟨ts, B.pss, ?_⟩
  have I := env_start hm hl hk ar al pm
  refine B.sem pot M H (fun _ => none) M _ H _ π _ ⟨I, .refl, fun a h => h, fun i d a h1 h2 h3 => ?_, fun a h => (al a h).nn, fun a u e => by cases e⟩ pt ?_
  · exfalso
    obtain ⟨k', v, q1, _⟩ := ar.at (startD_at h2)
    obtain ⟨m1, _⟩ := Bool.and_eq_true_iff.mp hm
    have m1 := of_decide_eq_true m1
    have hi := (List.getElem?_eq_some_iff.mp q1).1
    have e : (Γ.take ks.length)[i]? = Γ[i]? := List.getElem?_take_of_lt hi
    rw [h1, m1, List.getElem?_map, q1] at e
    cases k' <;> cases e
  · unfold runD at post
    cases ef : fs (startD N.length ds) π with
    | err c ns xs π' =>
      rw [ef] at post
      exact post
    | stuck =>
      rw [ef] at post
      exact post
    | ok y =>
      obtain ⟨y, π1⟩ := y
      rw [ef] at post
      cases y with
      | rt d => exact fun v H' g p q => post v H' g p q
      | nx ρ =>
        simp only [Res.bind_ok] at post
        split at post
        · rename_i hrf
          subst hrf
          exact fun M' σ' H' S' p' => post .non H' S'.gr p' .non
        · exact post.elim
      | bk ρ => exact post.elim
      | ct ρ => exact post.elim
end
section
variable {X : Cx} {E : XK} {Γ : List Md} {r : Rm} {e : Expr} {es : List Expr} {kws : List Keyword} {pos p kpos : Pos} {k j : Nat} {ks : List Ak} {tA tK : TA} {fA fK : Ea} {x : Str} {st : Stmt} {ps kn : List Str} {m : Fd} {nm : Option Str} {te : TE} {fe : Ed}
def tGo (mg : Str → Option Value) (K : PySem.W.Frag) (ks : List Ak) (r : Rm) (m : Fd) (E : XK) (t : TA) : TE := fun σ H Q => t σ H fun vs H1 => SpD mg K ks r m vs H1 Q E
def eGo (m : Fd) (a : Ea) : Ed := fun ρ π => (a ρ π).bind fun x => m x.1 x.2
theorem sem_go (hA : SemA X.mg X.K E ks Γ tA fA) : SemE X.mg X.K E r Γ (tGo X.mg X.K ks r m E tA) (eGo m fA) := fun pot M σ H ρ π I p Q h => by
  refine PostA.seq (ks := ks) (te := tA σ H) h p (fun Q' hq => hA pot M σ H ρ π I p Q' hq) fun ds π1 vs H1 _ g1 p1 r1 h1 => ?_
  exact ⟨r1.length, pot, M, ds, π1, r1, (I.grow g1 p1).al, I.pm, p1, h1⟩
theorem run_go {fd : FuncData} {f : Addr} {sp : Sp} {args : PySem.Args} {us ws : List Value} {vs : List V} {pins : List (Addr × Obj)} {σ : L2.St} {H : Hp} {s : Shared} {Q : VK} (F : FnG X.prog X.w X.K X.mg X.base j f fd ps sp) (o : XOk X E k) (hj : j ≤ k) (hb : BindsTo s fd ⟨us, kn.zip ws⟩ (ps.zip (us ++ ws)))
    (I : Inv X pins σ H s) (rl : Vals vs (us ++ ws)) (h : sp vs H Q E) : wpAny (model X.prog X.w) X.A (call (.ref f) us (kn.zip ws)) (EP X pins σ Q) X.xe s := by
  refine wpAny_call (codeAny_mono (F.run X.A X.stack s H _ (us ++ ws) vs Q E (o.room.mono hj) o.gd I.env0 hb rl h) fun res s' z => ?_)
  match res, z with
  | .error e, z => exact o.pass pins σ H s e s' I z
  | .ok (.ret u), z => exact I.after z
/-- f(e, ..) -/
theorem de_call (F : DFn X.prog X.w X.K X.mg X.base j x st ps ks r m) (o : XOk X E k)
    (hb : ∀ (kV doc pm : Value) (an : Option Addr) (cdv ct : Value) (us : List Value), us.length = ps.length → bindArgs (PySem.W.fnOf x x (defArgs st) (defBody st) (defScope st) .none kV doc pm an cdv ct) ⟨us, []⟩ = pure (ps.zip us))
    (hA : DA X E ks Γ (e :: es) tA fA) (hj : j ≤ k := by decide) (hg : Gl X x := by rfl) (hdb : (x == ("__debug__" : Str)) = false := by decide) (he : starEach (e :: es) X.env = (false, eval e X.env) :: starEach es X.env := by rfl) (hpl : (backTo pos (starEach es X.env)).any (·.1) = false := by rfl) :
    DE X E r Γ (.Call (.Name x p) (e :: es) [] pos) (tGo X.mg X.K ks r m E tA) (eGo m fA) :=
  ⟨⟨fun pins s σ H Q I h => by
    obtain ⟨f, fd, h1, h2, h3⟩ := F.ex
    refine wpAny_Call_Name_kw (ld_glob I hg h1 ?_ hdb)
    refine PySem.W.callWith_K (h₀ := X.base) I.ok.mod.kin h2.kp (thn (hA.pa.run pos pins s σ H _ I h) fun us s1 ⟨vs, H1, I1, rl, q⟩ => ⟨I1.kIn, ?_⟩) he hpl
    have hl : us.length = ps.length := by
      rw [← rl.length]
      exact h3.len _ _ _ _ q
    have bd : BindsTo s1 fd ⟨us, ([] : List Str).zip ([] : List Value)⟩ (ps.zip (us ++ [])) := by
      obtain ⟨oc, od, kV, doc, pm, an, cdv, ct, osl, rfl, lk, hcd⟩ := h2.ex
      rw [List.append_nil]
      exact .of_eq (hb kV doc pm an cdv ct us hl)
    exact run_go (args := ⟨us, []⟩) (kn := []) (ws := []) h3 o hj bd I1 (by rw [List.append_nil]; exact rl) q⟩, sem_go hA.sem⟩
/-- the values of the keywords -/
structure DK (X : Cx) (E : XK) (ks : List Ak) (Γ : List Md) (kws : List Keyword) (tk : TA) (fk : Ea) : Prop where
  pk : PK X kws tk
  sem : SemA X.mg X.K E ks Γ tk fk
theorem dk_nil : DK X E [] Γ [] tNil aNil := ⟨pk_nil, da_nil.sem⟩
theorem dk_f (ha : DE X E .f Γ e te fe) (hK : DK X E ks Γ kws tK fK) : DK X E (.f :: ks) Γ (⟨nm, e, kpos⟩ :: kws) (tCons te tK) (aCons fe fK) := ⟨pk_cons ha.pe hK.pk, sem_cons (kk := .f) (ra := .f) (fun _ _ _ _ _ _ _ h => h) ha.sem hK.sem⟩
/-- f(k = e, ..): all by their names, in the parameters' sequence -/
theorem de_callK (F : DFn X.prog X.w X.K X.mg X.base j x st ps ks r m) (o : XOk X E k)
    (hb : ∀ (kV doc pm : Value) (an : Option Addr) (cdv ct : Value) (ws : List Value), ws.length = ps.length → bindArgs (PySem.W.fnOf x x (defArgs st) (defBody st) (defScope st) .none kV doc pm an cdv ct) ⟨[], ps.zip ws⟩ = pure (ps.zip ws))
    (hK : DK X E ks Γ kws tK fK) (hj : j ≤ k := by decide) (hg : Gl X x := by rfl) (hdb : (x == ("__debug__" : Str)) = false := by decide) (hall : (backToKw pos (keywordEach kws X.env)).all (·.1.isSome) = true := by rfl) (hks : (backToKw pos (keywordEach kws X.env)).filterMap (·.1) = ps := by rfl)
    (hpl : ((backTo pos (starEach [] X.env)).any (·.1) || (backToKw pos (keywordEach kws X.env)).any (·.1.isNone)) = false := by rfl) :
    DE X E r Γ (.Call (.Name x p) [] kws pos) (tGo X.mg X.K ks r m E tK) (eGo m fK) :=
  ⟨⟨fun pins s σ H Q I h => by
    obtain ⟨f, fd, h1, h2, h3⟩ := F.ex
    refine wpAny_Call_Name_kw (ld_glob I hg h1 ?_ hdb)
    refine PySem.W.callWith_KW0 (h₀ := X.base) I.ok.mod.kin h2.kp hall (thn (hK.pk.run pos pins s σ H _ I h) fun ws s1 ⟨vs, H1, I1, rl, q⟩ => ⟨I1.kIn, ?_⟩) hpl
    rw [hks]
    have hl : ws.length = ps.length := by
      rw [← rl.length]
      exact h3.len _ _ _ _ q
    have bd : BindsTo s1 fd ⟨[], ps.zip ws⟩ (ps.zip ([] ++ ws)) := by
      obtain ⟨oc, od, kV, doc, pm, an, cdv, ct, osl, rfl, lk, hcd⟩ := h2.ex
      exact .of_eq (hb kV doc pm an cdv ct ws hl)
    exact run_go (args := ⟨[], ps.zip ws⟩) (us := []) h3 o hj bd I1 rl q⟩, sem_go hK.sem⟩
end
end DL
set_option maxHeartbeats 2000000
namespace DL
open PySem PySem.Spec PyProof.Rows L2
def asInts : List D → Option (List Int)
  | [] => some []
  | .int i :: r => (asInts r).map (i :: ·)
  | _ :: _ => none
def asBls : List D → Option (List Bool)
  | [] => some []
  | .bl i :: r => (asBls r).map (i :: ·)
  | _ :: _ => none
@[simp] theorem asInts_iz : ∀ ns : List Int, asInts (ns.map D.int) = some ns
  | [] => rfl
  | n :: ns => by
    show (asInts (ns.map D.int)).map _ = _
    rw [asInts_iz ns]
    rfl
@[simp] theorem asBls_bl : ∀ bs : List Bool, asBls (bs.map D.bl) = some bs
  | [] => rfl
  | n :: ns => by
    show (asBls (ns.map D.bl)).map _ = _
    rw [asBls_bl ns]
    rfl
theorem asInts_eq : ∀ {ds : List D} {ns : List Int}, asInts ds = some ns → ds = ns.map D.int
  | [], ns, h => by
    cases h
    rfl
  | d :: ds, ns, h => by
    cases d with
    | int i =>
      simp only [asInts, Option.map_eq_some_iff] at h
      obtain ⟨ms, e, rfl⟩ := h
      rw [asInts_eq e]
      rfl
    | _ => cases h
theorem asBls_eq : ∀ {ds : List D} {ns : List Bool}, asBls ds = some ns → ds = ns.map D.bl
  | [], ns, h => by
    cases h
    rfl
  | d :: ds, ns, h => by
    cases d with
    | bl i =>
      simp only [asBls, Option.map_eq_some_iff] at h
      obtain ⟨ms, e, rfl⟩ := h
      rw [asBls_eq e]
      rfl
    | _ => cases h
theorem rpl_bls {mg : Str → Option Value} {K : PySem.W.Frag} {H : Hp} : ∀ {ns : List Bool} {vs : List V}, RpL mg K H vs (ns.map D.bl) → vs = ns.map V.bl
  | [], _, .nil => rfl
  | n :: ns, _, .cons h r => by
    cases h
    rw [rpl_bls r]
    rfl
/-- ints in ascending order -/
def sortI (ns : List Int) : List Int := ns.mergeSort fun a b => decide (a ≤ b)
def fLen : List D → Option D
  | [.lst xs] => some (.int xs.length)
  | [.tup xs] => some (.int xs.length)
  | [.str z] => if z.length ≤ sizeLine then some (.int z.length) else none
  | _ => none
def fAbs : List D → Option D
  | [.int i] => some (.int (if i < 0 then -i else i))
  | _ => none
def fMax2 : List D → Option D
  | [.int i, .int j] => some (.int (if j > i then j else i))
  | _ => none
def onInts (f : List Int → Option D) : List D → Option D
  | [.lst xs] => (asInts xs).bind f
  | _ => none
def fSum : List D → Option D := onInts fun ns => some (.int ns.sum)
def fSortI : List D → Option D := onInts fun ns => some (.lst ((sortI ns).map D.int))
def fAny : List D → Option D
  | [.lst xs] => (asBls xs).map fun bs => .bl (bs.any id)
  | _ => none
def fAll : List D → Option D
  | [.lst xs] => (asBls xs).map fun bs => .bl (bs.all id)
  | _ => none
def fInt : List D → Option D
  | [.int i] => some (.int i)
  | _ => none
def fList : List D → Option D
  | [.lst xs] => some (.lst xs)
  | [.tup xs] => some (.lst xs)
  | _ => none
def fTuple : List D → Option D
  | [.lst xs] => some (.tup xs)
  | [.tup xs] => some (.tup xs)
  | _ => none
def fGcd : List D → Option D
  | [.int a, .int b] => some (.int ((Nat.gcd a.natAbs b.natAbs : Nat) : Int))
  | _ => none
section
variable {X : Cx} {E : XK} {k : Nat}
theorem arg1 {mg : Str → Option Value} {K : PySem.W.Frag} {pot : Option Addr} {M : List Addr} {H : Hp} {vs : List V} {ds : List D} (h : Args mg K pot M H [.b] vs ds) : ∃ v d, vs = [v] ∧ ds = [d] ∧ Rb mg K pot M H v d := args1 h
theorem arg2 {mg : Str → Option Value} {K : PySem.W.Frag} {pot : Option Addr} {M : List Addr} {H : Hp} {vs : List V} {ds : List D} (h : Args mg K pot M H [.b, .b] vs ds) : ∃ v d w e, vs = [v, w] ∧ ds = [d, e] ∧ Rb mg K pot M H v d ∧ Rb mg K pot M H w e := args2 h
def rLenA (K : PySem.W.Frag) : List V → Hp → VK → Prop := fun xs H Q => (∃ p ys, xs = [.ref p] ∧ (SqL K H p ys ∨ SqT K H p ys) ∧ Q (.int ys.length) H) ∨ ∃ z, xs = [.str z] ∧ z.length ≤ sizeLine ∧ Q (.int z.length) H
theorem c_len : CallOk X (.builtin "len") (rLenA X.K) [.b] .f fLen := ⟨call_len_seq.or call_len_str, fun pot M H vs ds z al pm ph a hz Q q => by
  obtain ⟨v, d, rfl, rfl, h⟩ := arg1 a
  unfold fLen at hz
  split at hz
  · rename_i xs e
    cases e
    cases hz
    obtain ⟨p, ys, rfl, h1, r1⟩ := rb_lst h
    exact .inl ⟨p, ys, rfl, .inl (.inl (.inl h1)), by rw [r1.length]; exact q _ H (Same.refl H) (.int _)⟩
  · rename_i xs e
    cases e
    cases hz
    obtain ⟨p, ys, rfl, h1, r1⟩ := rb_tup h
    exact .inl ⟨p, ys, rfl, .inr (sqT_mono less_le h1), by rw [r1.length]; exact q _ H (Same.refl H) (.int _)⟩
  · rename_i z' e
    cases e
    split at hz
    · rename_i hl
      cases hz
      cases rb_str h
      exact .inr ⟨_, rfl, hl, q _ H (Same.refl H) (.int _)⟩
    · cases hz
  · cases hz⟩
/-- len of the script -/
theorem c_lenS : CallOk X (.builtin "len") (rLenA X.K) [.s] .f fLen := ⟨call_len_seq.or call_len_str, fun pot M H vs ds z al pm ph a hz Q q => by
  obtain ⟨v, d, rfl, rfl, p, ns, rfl, rfl, h⟩ := args1 a
  cases hz
  exact .inl ⟨p, _, rfl, .inl (sqL_mono less_le h), by
    simp only [List.length_map] at q ⊢
    exact q _ H (Same.refl H) (.int _)⟩⟩
theorem c_abs : CallOk X (.builtin "abs") (fun xs H Q => ∃ i, xs = [.int i] ∧ Q (.int (if i < 0 then -i else i)) H) [.b] .f fAbs := ⟨call_abs, fun pot M H vs ds z al pm ph a hz Q q => by
  obtain ⟨v, d, rfl, rfl, h⟩ := arg1 a
  cases d <;> simp [fAbs] at hz
  subst hz
  exact ⟨_, by rw [rb_int h], q _ H (Same.refl H) (.int _)⟩⟩
theorem c_max2 (x : XOk X E k) : CallOk X (.builtin "max") (fun xs H Q => ∃ i j, xs = [.int i, .int j] ∧ Q (.int (if j > i then j else i)) H) [.b, .b] .f fMax2 := ⟨call_max2 x.calm, fun pot M H vs ds z al pm ph a hz Q q => by
  obtain ⟨v, d, w, e, rfl, rfl, h, h'⟩ := arg2 a
  cases d <;> cases e <;> simp [fMax2] at hz
  subst hz
  exact ⟨_, _, by rw [rb_int h, rb_int h'], q _ H (Same.refl H) (.int _)⟩⟩
theorem on_ints {mg : Str → Option Value} {K : PySem.W.Frag} {pot : Option Addr} {M : List Addr} {H : Hp} {vs : List V} {ds : List D} {z : D} {f : List Int → Option D} (a : Args mg K pot M H [.b] vs ds) (hz : onInts f ds = some z) :
    ∃ p ns, vs = [.ref p] ∧ H p = some (.lst (ns.map V.int)) ∧ f ns = some z := by
  obtain ⟨v, d, rfl, rfl, h⟩ := arg1 a
  unfold onInts at hz
  split at hz
  · rename_i xs e
    cases e
    simp only [Option.bind_eq_some_iff] at hz
    obtain ⟨ns, e1, e2⟩ := hz
    rw [asInts_eq e1] at h
    obtain ⟨p, ys, rfl, h1, r1⟩ := rb_lst h
    rw [r1.iz] at h1
    exact ⟨p, ns, rfl, h1, e2⟩
  · cases hz
theorem c_sum (x : XOk X E k) : CallOk X (.builtin "sum") (rSum X.K) [.b] .f fSum := ⟨cr_sum x.calm, fun pot M H vs ds z al pm ph a hz Q q => by
  obtain ⟨p, ns, rfl, h1, e⟩ := on_ints a hz
  cases e
  exact ⟨p, ns, rfl, .inl (.inl h1), q _ H (Same.refl H) (.int _)⟩⟩
theorem c_any (x : XOk X E k) : CallOk X (.builtin "any") (rAny X.K) [.b] .f fAny := ⟨cr_any x.calm, fun pot M H vs ds z al pm ph a hz Q q => by
  obtain ⟨v, d, rfl, rfl, h⟩ := arg1 a
  unfold fAny at hz
  split at hz
  · rename_i xs e
    cases e
    simp only [Option.map_eq_some_iff] at hz
    obtain ⟨ns, e1, e2⟩ := hz
    rw [asBls_eq e1] at h
    obtain ⟨p, ys, rfl, h1, r1⟩ := rb_lst h
    rw [rpl_bls r1] at h1
    subst e2
    exact ⟨p, ns, rfl, .inl (.inl h1), q _ H (Same.refl H) (.bl _)⟩
  · cases hz⟩
theorem c_all (x : XOk X E k) : CallOk X (.builtin "all") (rAll X.K) [.b] .f fAll := ⟨cr_all x.calm, fun pot M H vs ds z al pm ph a hz Q q => by
  obtain ⟨v, d, rfl, rfl, h⟩ := arg1 a
  unfold fAll at hz
  split at hz
  · rename_i xs e
    cases e
    simp only [Option.map_eq_some_iff] at hz
    obtain ⟨ns, e1, e2⟩ := hz
    rw [asBls_eq e1] at h
    obtain ⟨p, ys, rfl, h1, r1⟩ := rb_lst h
    rw [rpl_bls r1] at h1
    subst e2
    exact ⟨p, ns, rfl, .inl (.inl h1), q _ H (Same.refl H) (.bl _)⟩
  · cases hz⟩
theorem c_int : CallOk X (.type "int") (fun xs H Q => (∃ i, xs = [.int i] ∧ Q (.int i) H) ∨ ∃ k, xs = [.bl k] ∧ Q (.int (if k then 1 else 0)) H) [.b] .f fInt := ⟨call_int1, fun pot M H vs ds z al pm ph a hz Q q => by
  obtain ⟨v, d, rfl, rfl, h⟩ := arg1 a
  cases d <;> simp [fInt] at hz
  subst hz
  exact .inl ⟨_, by rw [rb_int h], q _ H (Same.refl H) (.int _)⟩⟩
theorem c_list : CallOk X (.type "list") (fun xs H Q => ∃ p ys, xs = [.ref p] ∧ (SqL X.K H p ys ∨ SqT X.K H p ys) ∧ ∀ l, H l = none → Q (.ref l) (upd H l (.lst ys))) [.b] .o fList := ⟨call_list_of, fun pot M H vs ds z al pm ph a hz Q q => by
  obtain ⟨v, d, rfl, rfl, h⟩ := arg1 a
  cases d <;> simp [fList] at hz
  · subst hz
    obtain ⟨p, ys, rfl, h1, r1⟩ := rb_lst h
    exact ⟨p, ys, rfl, .inl (.inl (.inl h1)), fun l hn => q _ _ (same_upd hn) (new_lst ph hn r1)⟩
  · subst hz
    obtain ⟨p, ys, rfl, h1, r1⟩ := rb_tup h
    exact ⟨p, ys, rfl, .inr (sqT_mono less_le h1), fun l hn => q _ _ (same_upd hn) (new_lst ph hn r1)⟩⟩
theorem c_tuple : CallOk X (.type "tuple") (fun xs H Q => ∃ p ys, xs = [.ref p] ∧ ((SqL X.K H p ys ∧ ∀ l, H l = none → Q (.ref l) (upd H l (.tup ys))) ∨ (SqT X.K H p ys ∧ Q (.ref p) H))) [.b] .f fTuple := ⟨call_tuple_of, fun pot M H vs ds z al pm ph a hz Q q => by
  obtain ⟨v, d, rfl, rfl, h⟩ := arg1 a
  cases d <;> simp [fTuple] at hz
  · subst hz
    obtain ⟨p, ys, rfl, h1, r1⟩ := rb_lst h
    exact ⟨p, ys, rfl, .inl ⟨.inl (.inl h1), fun l hn => q _ _ (same_upd hn) (new_tup al hn r1)⟩⟩
  · subst hz
    obtain ⟨p, ys, rfl, h1, r1⟩ := rb_tupP h
    exact ⟨p, ys, rfl, .inr ⟨.inl (.inl (less_le _ _ h1)), q _ H (Same.refl H) (.tup h1 r1)⟩⟩⟩
theorem c_gcd : CallOk X (.builtin "math.gcd") rGcd [.b, .b] .f fGcd := ⟨cr_gcd, fun pot M H vs ds z al pm ph a hz Q q => by
  obtain ⟨v, d, w, e, rfl, rfl, h, h'⟩ := arg2 a
  cases d <;> cases e <;> simp [fGcd] at hz
  subst hz
  exact ⟨_, _, by rw [rb_int h, rb_int h'], q _ H (Same.refl H) (.int _)⟩⟩
end
end DL
set_option maxHeartbeats 2000000
namespace DL
open PySem PySem.Spec PyProof.Rows L2
theorem RpL.atI {mg : Str → Option Value} {K : PySem.W.Frag} {H : Hp} {vs : List V} {ds : List D} {i : Int} {d : D} (r : RpL mg K H vs ds) (e : L2.atI ds i = some d) : ∃ v, L2.atI vs i = some v ∧ Rp mg K H v d := by
  unfold L2.atI at e ⊢
  rw [r.length]
  simp only [Option.bind_eq_some_iff] at e ⊢
  obtain ⟨j, h1, h2⟩ := e
  obtain ⟨v, h3, h4⟩ := r.get h2
  exact ⟨v, ⟨j, h1, h3⟩, h4⟩
def opIx : D → D → Option D
  | .lst xs, .int i => L2.atI xs i
  | .tup xs, .int i => L2.atI xs i
  | .str z, .int i => if z.length ≤ sizeLine then (L2.atI z.cps.toList i).map fun c => .str ⟨#[c]⟩ else none
  | _, _ => none
section
variable {X : Cx} {E : XK} {Γ : List Md} {r ra rb rc : Rm} {e a b c : Expr} {ta tb te : TE} {fa fb fe : Ed} {pos p p2 : Pos} {k kk : Nat} {es : List Expr} {ks : List Ak} {tA : TA} {fA : Ea}
theorem sem_ix : SemOp X.mg X.K (rIx X.K) .f opIx := fun pot M H x y d e z al pm ph rx ry hz Q q => by
  unfold opIx at hz
  split at hz
  · obtain ⟨p, xs, rfl, h1, r1⟩ := rb_lst rx
    obtain ⟨v, hv, rv⟩ := r1.atI hz
    exact .inl ⟨p, xs, _, v, rfl, rb_int ry, .inl (.inl h1), hv, q _ H (Same.refl H) rv⟩
  · obtain ⟨p, xs, rfl, h1, r1⟩ := rb_tup rx
    obtain ⟨v, hv, rv⟩ := r1.atI hz
    exact .inr (.inl ⟨p, xs, _, v, rfl, rb_int ry, sqT_mono less_le h1, hv, q _ H (Same.refl H) rv⟩)
  · split at hz
    · rename_i hl
      simp only [Option.map_eq_some_iff] at hz
      obtain ⟨w, hw, rfl⟩ := hz
      exact .inr (.inr ⟨_, _, w, rb_str rx, rb_int ry, hl, hw, q _ H (Same.refl H) (.str _)⟩)
    · cases hz
  · cases hz
theorem de_ix (ha : DE X E ra Γ a ta fa) (hb : DE X E rb Γ b tb fb) (hs : PlainIx b := by intro _ _; rfl) : DE X E .f Γ (.Subscript a b pos) (tOp (rIx X.K) ta tb) (eBin opIx fa fb) :=
  ⟨pe_ix ix_seq ha.pe hb.pe hs, sem_bin sem_ix ha.sem hb.sem⟩
abbrev Eo := Rho → Pot → Res (Option Int × Pot)
def oNone : Eo := fun _ π => .ok (none, π)
def oSome (a : Ed) : Eo := fun ρ π => (a ρ π).bind fun x => match x.1 with
  | .int i => .ok (some i, x.2)
  | _ => .stuck
structure DO (X : Cx) (E : XK) (Γ : List Md) (e : Option Expr) (t : TO) (f : Eo) : Prop where
  po : PO X e t
  sem : ∀ pot M σ H ρ π, EnvOk X.mg X.K Γ pot M σ H ρ → PotAt pot H π → ∀ Q : Option Int → Hp → Prop, (match f ρ π with
    | .ok (o, π1) => ∀ H', Grow pot H H' → PotAt pot H' π1 → Q o H'
    | .err c ns xs π1 => PErr X.mg X.K pot M H c ns xs π1 E
    | .stuck => False) → t σ H Q
theorem do_none : DO X E Γ none tNoPart oNone := ⟨po_none, fun pot M σ H ρ π I p Q h => h H .refl p⟩
theorem do_some (ha : DE X E .f Γ a ta fa) : DO X E Γ (some a) (tPart ta) (oSome fa) := ⟨po_some ha.pe, fun pot M σ H ρ π I p Q h => by
  refine ha.sem pot M σ H ρ π I p _ ?_
  unfold oSome at h
  cases ea : fa ρ π with
  | ok x =>
    obtain ⟨d, π1⟩ := x
    rw [ea] at h
    cases d with
    | int i =>
      intro v H1 g1 p1 r1
      exact ⟨i, rb_int (RpR.toB (r := .f) r1), h H1 g1 p1⟩
    | _ => exact h.elim
  | err c ns xs π1 =>
    rw [ea] at h
    exact h
  | stuck =>
    rw [ea] at h
    exact h⟩
def cutD (xs : List D) (lo hi : Option Int) : List D := (xs.drop (HT.sIx xs.length 0 lo)).take (HT.sIx xs.length xs.length hi - HT.sIx xs.length 0 lo)
def fCut (d : D) (lo hi : Option Int) : Option D := match d with
  | .lst xs => some (.lst (cutD xs lo hi))
  | .tup xs => some (.tup (cutD xs lo hi))
  | _ => none
def eSl (a : Ed) (l u : Eo) : Ed := fun ρ π => (a ρ π).bind fun x => (l ρ x.2).bind fun y => (u ρ y.2).bind fun z => (ofO (fCut x.1 y.1 z.1)).bind fun w => .ok (w, z.2)
theorem RpL.cut {mg : Str → Option Value} {K : PySem.W.Frag} {H : Hp} {vs : List V} {ds : List D} (r : RpL mg K H vs ds) (lo hi : Option Int) : RpL mg K H (cutV vs lo hi) (cutD ds lo hi) := by
  unfold cutV cutD
  rw [r.length]
  exact (r.drop _).take _
theorem de_slice {lo hi : Option Expr} {tl th : TO} {fl fh : Eo} (ha : DE X E ra Γ a ta fa) (hl : DO X E Γ lo tl fl) (hu : DO X E Γ hi th fh) : DE X E .f Γ (.Subscript a (.Slice lo hi none p2) pos) (tSl (fun x l u H Q => rSlL X.K x l u H Q ∨ rSlA X.K x l u H Q) ta tl th) (eSl fa fl fh) :=
  ⟨pe_slice (sl_list.or sl_tupA) ha.pe hl.po hu.po, fun pot M σ H ρ π I p Q h => by
    refine Post.seq (r' := ra) (te := ta σ H) h p (fun Q' hq => ha.sem pot M σ H ρ π I p Q' hq) fun d π1 v H1 _ g1 p1 r1 h1 => ?_
    refine hl.sem pot M σ H1 ρ π1 (I.grow g1 p1) p1 _ ?_
    cases el : fl ρ π1 with
    | err c ns xs π2 =>
      rw [el] at h1
      exact h1
    | stuck =>
      rw [el] at h1
      exact h1
    | ok y =>
      obtain ⟨l, π2⟩ := y
      rw [el] at h1
      intro H2 g2 p2
      have h2 := Post.back g2 p1 h1
      refine hu.sem pot M σ H2 ρ π2 (I.grow (g1.trans g2) p2) p2 _ ?_
      simp only [Res.bind_ok] at h2
      cases eu : fh ρ π2 with
      | err c ns xs π3 =>
        rw [eu] at h2
        exact h2
      | stuck =>
        rw [eu] at h2
        exact h2
      | ok z =>
        obtain ⟨u, π3⟩ := z
        rw [eu] at h2
        simp only [Res.bind_ok] at h2
        intro H3 g3 p3
        have h3 := Post.back g3 p2 h2
        have g13 := g2.trans g3
        have I3 := I.grow (g1.trans g13) p3
        have rv := r1.toB.grow I.pm g13
        cases d with
        | lst xs =>
          obtain ⟨q, vs, rfl, hq, rq⟩ := rb_lst rv
          exact .inl ⟨q, vs, rfl, .inl (.inl hq), fun l hn => h3 _ _ (.new hn) (p3.new hn) (new_lstF I3.al hn (rq.cut _ _))⟩
        | tup xs =>
          obtain ⟨q, vs, rfl, hq, rq⟩ := rb_tupP rv
          refine .inr ⟨q, vs, rfl, .inl (.inl (less_le _ _ hq)), fun hw => ?_, fun hw l hn => h3 _ _ (.new hn) (p3.new hn) (new_tup I3.al hn (rq.cut _ _))⟩
          refine h3 _ H3 .refl p3 (.tup hq ?_)
          have ec : cutD xs l u = xs := by
            unfold cutD
            rw [← rq.length, hw.1, hw.2, List.drop_zero, Nat.sub_zero, rq.length, List.take_length]
          rw [ec]
          exact rq
        | _ => exact h3.elim⟩
def fRev (d : D) : Option D := match d with
  | .lst xs => some (.lst xs.reverse)
  | _ => none
theorem de_revL {j : Nat} {p1 p3 : Pos} (ha : DE X E ra Γ a ta fa) : DE X E .o Γ (.Subscript a (.Slice none none (some (.UnaryOp .USub (.Constant (.int 1) j p1) p2)) p3) pos) (tRevL X.K ta) (eUn fRev fa) :=
  ⟨pe_revL ha.pe, fun pot M σ H ρ π I p Q h => by
    refine Post.seq (r' := ra) (te := ta σ H) h p (fun Q' hq => ha.sem pot M σ H ρ π I p Q' hq) fun d π1 v H1 _ g1 p1 r1 h1 => ?_
    cases d with
    | lst xs =>
      obtain ⟨q, vs, rfl, hq, rq⟩ := rb_lst r1.toB
      exact ⟨q, vs, rfl, .inl (.inl hq), fun l hn => h1 _ _ (.new hn) (p1.new hn) (new_lst p1.has hn rq.reverse)⟩
    | _ => exact h1.elim⟩
def tyName : D → Option String
  | .non => some "NoneType"
  | .bl _ => some "bool"
  | .int _ => some "int"
  | .str _ => some "str"
  | .lst _ => some "list"
  | .tup _ => some "tuple"
  | .dic _ _ => some "dict"
  | .ins _ _ _ => none
def isTyB (a b : String) : Bool := a == b || (a == "bool" && b == "int")
def fIs (ns : List String) (d : D) : Option D := (tyName d).map fun a => .bl (ns.any fun b => isTyB a b)
/-- of which class a value is; also a dict with tuple keys that is locked -/
def TyY (K : PySem.W.Frag) (H : Hp) (x : V) (t : Value) : Prop := TyX K H x t ∨ ∃ a o kvs, x = .ref a ∧ H a = some (.frz o (.dT kvs)) ∧ t = .type "dict"
theorem kitY_of {X : Cx} {pins : List (Addr × Obj)} {σ : L2.St} {H : Hp} {s : Shared} {x : V} {u t : Value} (I : L2.Inv X pins σ H s) (rx : L2.RelV x u) (h : TyY X.K H x t) :
    ∃ P, PySem.W.KitX X.K u t P ∧ P s.heap ∧ u ≠ Value.builtin "__main__.__loader__#opaque" := by
  rcases h with h | ⟨a, o, kvs, rfl, h, rfl⟩
  · exact kit_of I rx h
  · have k := I.hok a _ h
    unfold L2.ObjOk at k
    obtain ⟨k1, k2⟩ := k
    unfold L2.ObjOk at k2
    obtain ⟨_, _, _, _, o', es, ep, k3, k4, _⟩ := k2
    obtain rfl : u = Value.ref a := rx
    exact ⟨_, PySem.W.kitx_dict, ⟨o', k3, k4.1⟩, by intro e; cases e⟩
def rIsiY (K : PySem.W.Frag) : List V → Hp → VK → Prop := fun xs H Q => ∃ x c t u b, xs = [x, c] ∧ ClsV c u ∧ TyY K H x t ∧ PySem.W.kitOne K t u = some b ∧ Q (.bl b) H
def rIsiTY (K : PySem.W.Frag) : List V → Hp → VK → Prop := fun xs H Q => ∃ x tp cs t us b, xs = [x, .ref tp] ∧ H tp = some (.tup cs) ∧ Paired ClsV cs us ∧ TyY K H x t ∧ PySem.W.kitAny K t us = some b ∧ Q (.bl b) H
theorem call_isiY {X : Cx} : CallR X (.builtin "isinstance") (rIsiY X.K) := fun pins s σ H xs us Q I rl h => by
  obtain ⟨x, c, t, u, b, rfl, hc, ht, hk, q⟩ := h
  cases rl with
  | cons r1 rl => cases rl with
    | cons r2 rl =>
      cases rl
      rw [hc.eq r2]
      obtain ⟨P, Z, p, hn⟩ := kitY_of I r1 ht
      exact PySem.W.kia_one Z I.kIn p hk hn fun tk => ⟨.bl b, H, I.tok tk, rfl, q⟩
theorem call_isiTY {X : Cx} : CallR X (.builtin "isinstance") (rIsiTY X.K) := fun pins s σ H xs us Q I rl h => by
  obtain ⟨x, tp, cs, t, ws, b, rfl, htp, hc, ht, hk, q⟩ := h
  cases rl with
  | cons r1 rl => cases rl with
    | cons r2 rl =>
      cases rl
      obtain ⟨P, Z, p, hn⟩ := kitY_of I r1 ht
      have k := I.hok tp _ htp
      unfold L2.ObjOk at k
      obtain ⟨_, its, kv, o, k1, k2, n, k3⟩ := k
      obtain rfl : _ = Value.ref tp := r2
      obtain ⟨oc, od, dt, sl⟩ := o
      dsimp only at k2 k3
      subst k2
      subst k3
      rw [ClsV.all hc kv] at k1
      exact PySem.W.kia_tup Z I.kIn p k1 hk hn fun tk => ⟨.bl b, H, I.tok tk, rfl, q⟩
theorem rb_ty {mg : Str → Option Value} {K : PySem.W.Frag} {pot : Option Addr} {M : List Addr} {H : Hp} {x : V} {d : D} {n : String} (h : Rb mg K pot M H x d) (e : tyName d = some n) : TyY K H x (.type n) := by
  have h := rb_rp h
  cases h with
  | non => cases e; exact .inl (.base .non)
  | bl b => cases e; exact .inl (.base (.bl _))
  | int i => cases e; exact .inl (.base (.int _))
  | str z => cases e; exact .inl (.base (.str _))
  | lst h1 h2 => cases e; exact .inl (.base (.lst h1))
  | tup h1 h2 => cases e; exact .inl (.base (.tup h1))
  | dicK h1 h2 =>
    cases e
    rcases h1 with h1 | ⟨o, h1⟩
    · exact .inl (.base (.dK h1))
    · exact .inl (.fDict h1)
  | dicT h1 h2 =>
    cases e
    rcases h1 with h1 | ⟨o, h1⟩
    · exact .inl (.base (.dT h1))
    · exact .inr ⟨_, _, _, rfl, h1, rfl⟩
  | ins => cases e
def tyNames : List String := ["NoneType", "bool", "int", "str", "list", "tuple", "dict"]
theorem tyName_mem {d : D} {n : String} (e : tyName d = some n) : n ∈ tyNames := by
  cases d <;> cases e <;> simp [tyNames]
def tyOkB (b : String) : Bool := tyNames.all fun a => kitB a b == some (isTyB a b)
theorem kit_name {K : PySem.W.Frag} {d : D} {n b : String} (e : tyName d = some n) (h : tyOkB b = true) : PySem.W.kitOne K (.type n) (.type b) = some (isTyB n b) := by
  have := List.all_eq_true.mp h n (tyName_mem e)
  exact kit_ty (by simpa using this)
theorem kit_names {K : PySem.W.Frag} {d : D} {n : String} (e : tyName d = some n) : ∀ {bs : List String}, bs.all tyOkB = true → PySem.W.kitAny K (.type n) (bs.map Value.type) = some (bs.any fun b => isTyB n b)
  | [], _ => kitAny_nil
  | b :: bs, h => by
    have h' : tyOkB b = true ∧ bs.all tyOkB = true := by simpa using h
    refine kitAny_cons (kit_name e h'.1) (fun e1 => ?_) fun e1 => ?_
    · rw [kit_names e h'.2]
      simp [e1]
    · simp [e1]
theorem cls_all : ∀ bs : List String, Paired ClsV (bs.map V.ty) (bs.map Value.type)
  | [] => .nil
  | b :: bs => .cons (.ty b) (cls_all bs)
end
end DL
set_option maxHeartbeats 2000000
namespace DL
open PySem PySem.Spec PyProof.Rows L2
def showD (d : D) : Option Str := match toPy d with
  | some p => if PyData.showable p && !PyData.hasDict p && decide (PyData.depth p ≤ 60) && decide (p.shown.length ≤ sizeLine) then some p.shown else none
  | none => none
def fRepr : List D → Option D
  | [d] => (showD d).map .str
  | _ => none
theorem showD_eq {d : D} {z : Str} (h : showD d = some z) : ∃ p, toPy d = some p ∧ p.showable = true ∧ p.hasDict = false ∧ p.depth ≤ 60 ∧ p.shown.length ≤ sizeLine ∧ z = p.shown := by
  unfold showD at h
  split at h
  · rename_i p e
    split at h
    · rename_i c
      simp only [Bool.and_eq_true, Bool.not_eq_true', decide_eq_true_eq] at c
      cases h
      exact ⟨p, e, c.1.1.1, c.1.1.2, c.1.2, c.2, rfl⟩
    · cases h
  · cases h
section
variable {X : Cx} {E : XK} {k : Nat}
def rRepr (K : PySem.W.Frag) : List V → Hp → VK → Prop := fun vs H Q => ∃ v p, vs = [v] ∧ Dp K H v p ∧ p.showable = true ∧ p.hasDict = false ∧ p.depth ≤ 60 ∧ p.shown.length ≤ sizeLine ∧ Q (.str p.shown) H
theorem cr_repr (x : XOk X E k) : CallR X (.builtin "repr") (rRepr X.K) := by
  intro pins s σ H xs us Q I r h
  obtain ⟨v, p, rfl, hd, h1, h2, h3, h4, q⟩ := h
  obtain ⟨u, rfl, ru⟩ := r.one
  obtain ⟨as, rd⟩ := Dp.reads I p v u hd ru
  have hu : X.A.units + (p.depth + 1) < cLine := by
    have := x.u64
    omega
  cases hd with
  | non =>
    cases (show u = Value.none from ru)
    exact PySem.P.repr_of_none ⟨.str _, H, I.tok _, ⟨_, rfl⟩, q⟩
  | bl b =>
    cases (show u = Value.bool b from ru)
    refine PySem.P.repr_of_bool ⟨.str _, H, I.tok _, ⟨_, rfl⟩, ?_⟩
    cases b <;> exact q
  | int i =>
    obtain ⟨t, e⟩ := (show ∃ t, u = Value.int i t from ru)
    subst e
    refine PySem.P.repr_of_int (by simpa [PyData.showable] using h1) ⟨.str _, H, I.tok _, ⟨_, rfl⟩, q⟩
  | str z =>
    obtain ⟨t, e⟩ := (show ∃ t, u = Value.str z t from ru)
    subst e
    exact PySem.P.repr_of_str ⟨.str _, H, I.tok _, ⟨_, rfl⟩, q⟩ h4
  | lst a b =>
    cases ru
    exact repr_of_reads' rd h1 (PyData.noDict_hsm h2) x.gd hu (fun _ _ e => e) (fun h' u tk hk => ⟨.str _, H, I.kept (t' := tk) hk, ⟨_, rfl⟩, q⟩) h4
  | tup a b =>
    cases ru
    exact repr_of_reads' rd h1 (PyData.noDict_hsm h2) x.gd hu (fun _ _ e => e) (fun h' u tk hk => ⟨.str _, H, I.kept (t' := tk) hk, ⟨_, rfl⟩, q⟩) h4
theorem c_repr (x : XOk X E k) : CallOk X (.builtin "repr") (rRepr X.K) [.b] .f fRepr := ⟨cr_repr x, fun pot M H vs ds z al pm ph a hz Q q => by
  obtain ⟨v, d, rfl, rfl, h⟩ := arg1 a
  simp only [fRepr, Option.map_eq_some_iff] at hz
  obtain ⟨w, hw, rfl⟩ := hz
  obtain ⟨p, e, h1, h2, h3, h4, rfl⟩ := showD_eq hw
  exact ⟨v, p, rfl, (rb_rp h).dp e, h1, h2, h3, h4, q _ H (Same.refl H) (.str _)⟩⟩
def fStr : List D → Option D
  | [.lst xs] => (showD (.lst xs)).map .str
  | [.tup xs] => (showD (.tup xs)).map .str
  | _ => none
end
def keyOf : D → Option Key
  | .int i => some (.inl i)
  | .str x => some (.inr x)
  | _ => none
def pairsOf : List D → Option (List (Key × D))
  | [] => some []
  | .tup [a, b] :: r => match keyOf a, pairsOf r with
    | some k, some ps => some ((k, b) :: ps)
    | _, _ => none
  | _ :: _ => none
def putD (kvs : List (Key × D)) (k : Key) (v : D) : List (Key × D) :=
  if (kvs.any fun kv => decide (kv.1 = k)) = true then kvs.map (fun kv => if kv.1 = k then (kv.1, v) else kv) else kvs ++ [(k, v)]
def mergeD (kvs more : List (Key × D)) : List (Key × D) := more.foldl (fun acc kv => putD acc kv.1 kv.2) kvs
def dicOf (ps : List (Key × D)) : D := .dic (ps.map fun p => .inl p.1) (ps.map (·.2))
def fDict : List D → Option D
  | [.lst xs] => (pairsOf xs).bind fun ps => if mergeD [] ps = [] then none else some (dicOf (mergeD [] ps))
  | _ => none
section
variable {X : Cx} {E : XK} {Γ : List Md} {r ra rb rc : Rm} {e a b c : Expr} {ta tb te : TE} {fa fb fe : Ed} {pos p p2 : Pos} {k kk : Nat} {es : List Expr} {ks : List Ak} {tA : TA} {fA : Ea}
/-- {} -/
theorem de_dict0 : DE X E .f Γ (.Dict [] [] pos) tDNewT (eC (.dic [] [])) := ⟨pe_dnewT, fun pot M σ H ρ π I p Q h q hn => h _ _ (.new hn) (p.new hn) (.dicT (kvs := []) (.inl (less_some.mpr ⟨fun m => (I.al q m).nn hn, upd_same⟩)) .nil)⟩
def eSix (i : Nat) (fb : Ed) : Ed := fun ρ π => (fb ρ π).bind fun y => match ρ[i]? with
  | some (some d) => (ofO (opIx d y.1)).bind fun z => .ok (z, y.2)
  | _ => .stuck
theorem atI_map {α β : Type} (f : α → β) (xs : List α) (i : Int) : L2.atI (xs.map f) i = (L2.atI xs i).map f := by
  unfold L2.atI
  rw [List.length_map]
  cases ixN xs.length i <;> simp
theorem de_six (i : Nat) {x : Str} {px : Pos} (hb : DE X E .f Γ b tb fb) (hN : X.N[i]? = some x := by rfl) (hv : Vis X.env.scope x := by first | exact Or.inl rfl | exact Or.inr (Or.inl rfl) | exact Or.inr (Or.inr rfl)) (hΓ : Γ[i]? = some .s := by rfl)
    (hd : (x == ("__debug__" : Str)) = false := by decide) (hcd : (x == ("__classdict__" : Str)) = false := by decide) (hs : PlainIx b := by intro _ _; rfl) :
    DE X E .f Γ (.Subscript (.Name x px) b pos) (tOp (rIx X.K) (tVar i) tb) (eBin opIx (eVar i) fb) :=
  ⟨pe_ix ix_seq (pe_var hN hv hd hcd) hb.pe hs, fun pot M σ H ρ π I p Q h => by
    unfold eBin eVar at h
    split at h
    · rename_i d er
      obtain ⟨c, ns, e1, rfl, hq⟩ := I.s i d hΓ er
      refine ⟨_, e1, ?_⟩
      simp only [Res.bind_ok] at h
      refine Post.seq (r' := .f) (te := tb σ H) h p (fun Q' hq => hb.sem pot M σ H ρ π I p Q' hq) fun d π1 v H1 _ g1 p1 r1 h1 => ?_
      cases d with
      | int j =>
        cases ez : L2.atI ns j with
        | none =>
          simp only [opIx, DL.iz, atI_map, ez, Option.map_none, ofO_none, Res.bind_stuck] at h1
          exact h1.elim
        | some n =>
          simp only [opIx, DL.iz, atI_map, ez, Option.map_some, ofO_some, Res.bind_ok] at h1
          exact .inl ⟨c, _, j, .int n, rfl, rb_int (RpR.toB (r := .f) r1), sqL_mono less_le (sqL_mono (less_grow I.pm g1) hq), by rw [atI_map, ez]; rfl, h1 _ H1 .refl p1 (.int _)⟩
      | _ => exact h1.elim
    · exact h.elim⟩
theorem de_pot0 (i : Nat) {x : Str} {px pc : Pos} {j : Nat} (hN : X.N[i]? = some x := by rfl) (hv : Vis X.env.scope x := by first | exact Or.inl rfl | exact Or.inr (Or.inl rfl) | exact Or.inr (Or.inr rfl)) (hΓ : Γ[i]? = some .p := by rfl)
    (hd : (x == ("__debug__" : Str)) = false := by decide) (hcd : (x == ("__classdict__" : Str)) = false := by decide) :
    DE X E .f Γ (.Subscript (.Name x px) (.Constant (.int 0) j pc) pos) (tOp (rIx X.K) (tVar i) (tC (.int 0))) ePot0 :=
  ⟨pe_ix ix_seq (pe_var hN hv hd hcd) pe_int (by intro _ _; rfl), fun pot M σ H ρ π I p Q h => by
    obtain ⟨c, e, e1⟩ := I.p i hΓ
    exact ⟨_, e1, .inl ⟨c, _, 0, .int π.1, rfl, rfl, .inl (.inl (p c e)), rfl, h _ H .refl p (.int _)⟩⟩⟩
theorem de_pot1 (i : Nat) {x : Str} {px pc : Pos} {j : Nat} (hN : X.N[i]? = some x := by rfl) (hv : Vis X.env.scope x := by first | exact Or.inl rfl | exact Or.inr (Or.inl rfl) | exact Or.inr (Or.inr rfl)) (hΓ : Γ[i]? = some .p := by rfl)
    (hd : (x == ("__debug__" : Str)) = false := by decide) (hcd : (x == ("__classdict__" : Str)) = false := by decide) :
    DE X E .f Γ (.Subscript (.Name x px) (.Constant (.int 1) j pc) pos) (tOp (rIx X.K) (tVar i) (tC (.int 1))) ePot1 :=
  ⟨pe_ix ix_seq (pe_var hN hv hd hcd) pe_int (by intro _ _; rfl), fun pot M σ H ρ π I p Q h => by
    obtain ⟨c, e, e1⟩ := I.p i hΓ
    exact ⟨_, e1, .inl ⟨c, _, 1, .int π.2, rfl, rfl, .inl (.inl (p c e)), rfl, h _ H .refl p (.int _)⟩⟩⟩
theorem ds_pot1 (i : Nat) {Γl : List Md} {x : Str} {px pc : Pos} {j : Nat} (he : DE X E .f Γ e te fe) (hN : X.N[i]? = some x := by rfl) (hv : Vis X.env.scope x := by first | exact Or.inl rfl | exact Or.inr (Or.inl rfl) | exact Or.inr (Or.inr rfl)) (hΓ : Γ[i]? = some .p := by rfl)
    (hd : (x == ("__debug__" : Str)) = false := by decide) (hcd : (x == ("__classdict__" : Str)) = false := by decide)
    (ha : ∀ v, assign (.Subscript (.Name x px) (.Constant (.int 1) j pc) p2) X.env v = (do let ov ← holding [v] (eval (.Name x px) X.env); let iv ← holding [v, ov] (eval (.Constant (.int 1) j pc) X.env); standAt p2; holding [v, ov, iv] (setItem ov iv v); release [v, ov, iv] []) := by intro _; rfl)
    (h1 : swapsWithSole [.Subscript (.Name x px) (.Constant (.int 1) j pc) p2] e pos.line X.env = pure false := by rfl) (h2 : swappedStores [.Subscript (.Name x px) (.Constant (.int 1) j pc) p2] e X.env = pure none := by rfl)
    (h3 : (assignEach [.Subscript (.Name x px) (.Constant (.int 1) j pc) p2] X.env).map (·.2) = [assign (.Subscript (.Name x px) (.Constant (.int 1) j pc) p2) X.env] := by rfl) :
    DS X E r Γl Γ Γ (.Assign [.Subscript (.Name x px) (.Constant (.int 1) j pc) p2] e pos) (tAsg te (gSub (tVar i) (tC (.int 1)) rSetL)) (sPot1 fe) :=
  ⟨ps_asg he.pe (pg_sub (pe_var hN hv hd hcd) pe_int set_list ha) h1 h2 h3, fun pot M0 H0 B M σ H ρ π D' S p h => by
    refine PostS.seq (r' := .f) (te := te σ H) h S (fun Q' hq => he.sem pot M σ H ρ π S.env p Q' hq) fun d π1 v H1 _ g1 p1 q1 h1 => ?_
    have S1 := S.grow g1 p1
    cases d with
    | int n =>
      cases rb_int (RpR.toB (r := .f) q1)
      obtain ⟨c, e, e1⟩ := S1.env.p i hΓ
      exact ⟨_, e1, c, _, 1, 1, rfl, rfl, p1 c e, rfl, h1 M σ _ (S1.potset e π1.1 n) fun a ea => by rw [e] at ea; cases ea; exact upd_same⟩
    | _ => exact h1.elim⟩
/-- pot[0], d = divmod(pot[0], n) -/
theorem ds_potdm (i j : Nat) {Γl : List Md} {x y : Str} {px pc py pt pd qx qc q2 qpos : Pos} {u u2 kt : Nat} (o : XOk X E k) (hm : X.mg "divmod" = none) (he : DE X E .f Γ e te fe) (hΓ : Γ[i]? = some .p := by rfl) (hΓ2 : Γ[j]? = some .f := by rfl) (hN : X.N[i]? = some x := by rfl) (hN2 : X.N[j]? = some y := by rfl) (hv : Vis X.env.scope x := by first | exact Or.inl rfl | exact Or.inr (Or.inl rfl) | exact Or.inr (Or.inr rfl))
    (hy : Loc X.env.scope y := by first | exact Or.inl rfl | exact Or.inr rfl) (hf : X.fn y = true ∨ X.env.scope.names.lookup y = some .local := by first | exact .inl rfl | exact .inr rfl)
    (hd : (x == ("__debug__" : Str)) = false := by decide) (hcd : (x == ("__classdict__" : Str)) = false := by decide) (hg : Gl X "divmod" := by rfl)
    (ha : ∀ v, assign (.Subscript (.Name x px) (.Constant (.int 0) u pc) p2) X.env v = (do let ov ← holding [v] (eval (.Name x px) X.env); let iv ← holding [v, ov] (eval (.Constant (.int 0) u pc) X.env); standAt p2; holding [v, ov, iv] (setItem ov iv v); release [v, ov, iv] []) := by intro _; rfl)
    (s1 : starEach [.Subscript (.Name x qx) (.Constant (.int 0) u2 qc) q2, e] X.env = (false, eval (.Subscript (.Name x qx) (.Constant (.int 0) u2 qc) q2) X.env) :: starEach [e] X.env := by rfl) (s2 : starEach [e] X.env = (false, eval e X.env) :: starEach [] X.env := by rfl) (hpl : (backTo qpos (starEach [e] X.env)).any (·.1) = false := by rfl)
    (m1 : (assignEach [.Subscript (.Name x px) (.Constant (.int 0) u pc) p2, .Name y py] X.env).map (·.2) = assign (.Subscript (.Name x px) (.Constant (.int 0) u pc) p2) X.env :: (assignEach [.Name y py] X.env).map (·.2) := by rfl) (m2 : (assignEach [.Name y py] X.env).map (·.2) = assign (.Name y py) X.env :: (assignEach [] X.env).map (·.2) := by rfl)
    (m3 : (assignEach [.Subscript (.Name x px) (.Constant (.int 0) u pc) p2, .Name y py] X.env).length = 2 := by rfl) (m4 : (assignEach [.Subscript (.Name x px) (.Constant (.int 0) u pc) p2, .Name y py] X.env).findIdx? (·.1) = none := by rfl)
    (h1 : swapsWithSole [.Tuple [.Subscript (.Name x px) (.Constant (.int 0) u pc) p2, .Name y py] kt pt] (.Call (.Name "divmod" pd) [.Subscript (.Name x qx) (.Constant (.int 0) u2 qc) q2, e] [] qpos) pos.line X.env = pure false := by rfl)
    (h2 : swappedStores [.Tuple [.Subscript (.Name x px) (.Constant (.int 0) u pc) p2, .Name y py] kt pt] (.Call (.Name "divmod" pd) [.Subscript (.Name x qx) (.Constant (.int 0) u2 qc) q2, e] [] qpos) X.env = pure none := by rfl)
    (h3 : (assignEach [.Tuple [.Subscript (.Name x px) (.Constant (.int 0) u pc) p2, .Name y py] kt pt] X.env).map (·.2) = [assign (.Tuple [.Subscript (.Name x px) (.Constant (.int 0) u pc) p2, .Name y py] kt pt) X.env] := by rfl) :
    DS X E r Γl Γ Γ (.Assign [.Tuple [.Subscript (.Name x px) (.Constant (.int 0) u pc) p2, .Name y py] kt pt] (.Call (.Name "divmod" pd) [.Subscript (.Name x qx) (.Constant (.int 0) u2 qc) q2, e] [] qpos) pos)
      (tAsg (tCB (fun xs H Q => ∃ i j, xs = [.int i, .int j] ∧ CDivP i j ∧ ∀ p, H p = none → Q (.ref p) (upd H p (.tup [.int (i / j), .int (i % j)]))) (tCons (tOp (rIx X.K) (tVar i) (tC (.int 0))) (tCons te tNil))) (gTup X.K 2 (gCons (gSub (tVar i) (tC (.int 0)) rSetL) (gCons (gName j) gNil)))) (sPotDm j fe) :=
  ⟨ps_asg (pe_callB call_divmodW hg hm (by decide +kernel) (pa_cons (pe_ix ix_seq (pe_var hN hv hd hcd) pe_int (by intro _ _; rfl)) (pa_cons he.pe pa_nil s2) s1) (by decide) (by decide) s1 hpl) (pg_tup o.calm (pgs_cons (pg_sub (pe_var hN hv hd hcd) pe_int set_list ha) (pgs_cons (pg_name o.nd hN2 hy hf) pgs_nil m2) m1) m3 m4) h1 h2 h3, fun pot M0 H0 B M σ H ρ π D' S p h => by
    obtain ⟨c, e, e1⟩ := S.env.p i hΓ
    refine ⟨_, e1, .inl ⟨c, _, 0, .int π.1, rfl, rfl, .inl (.inl (p c e)), rfl, ?_⟩⟩
    refine PostS.seq (r' := .f) (te := te σ H) h S (fun Q' hq => he.sem pot M σ H ρ π S.env p Q' hq) fun d π1 v H1 _ g1 p1 q1 h1 => ?_
    have S1 := S.grow g1 p1
    cases d with
    | int n =>
      cases rb_int (RpR.toB (r := .f) q1)
      simp only at h1
      split at h1
      · rename_i hdv
        unfold divOk at hdv
        simp only [Bool.and_eq_true, decide_eq_true_eq, Bool.not_eq_true'] at hdv
        refine ⟨π.1, n, rfl, hdv, fun T hT => ?_⟩
        have S2 := S1.grow (.new (o := .tup [.int (π.1 / n), .int (π.1 % n)]) hT) (p1.new hT)
        have hc : upd H1 T (.tup [.int (π.1 / n), .int (π.1 % n)]) c = some (.lst [.int π1.1, .int π1.2]) := p1.new hT c e
        refine ⟨T, _, rfl, .inl (.inl upd_same), rfl, .int (π.1 / n), [.int (π.1 % n)], rfl, .ref c, e1, c, _, 0, 0, rfl, rfl, hc, rfl, .int (π.1 % n), [], rfl, rfl, ?_⟩
        have S3 := (S2.potset e (π.1 / n) π1.2).put (r := .f) (i := j) (v := .int (π.1 % n)) (d := .int (π.1 % n)) (List.getElem?_eq_some_iff.mp hΓ2).1 (.int _)
        rw [set_same (show Γ[j]? = some Rm.f.md from hΓ2)] at S3
        exact h1 M _ _ S3 fun a ea => by
          rw [e] at ea
          cases ea
          exact upd_same
      · exact h1.elim
    | _ => exact h1.elim⟩
def eGoPot (m : Fd) (a : Ed) : Ed := fun ρ π => (a ρ π).bind fun x => match x.1 with
  | .lst [.int u, .int v] => (safe (m [.non] (u, v))).bind fun y => .ok (y.1, x.2)
  | _ => .stuck
theorem de_callPot {j : Nat} {x : Str} {st : Stmt} {ps : List Str} {m : Fd} (F : DFn X.prog X.w X.K X.mg X.base j x st ps [.p] .f m) (o : XOk X E k)
    (hb : ∀ (kV doc pm : Value) (an : Option Addr) (cdv ct : Value) (us : List Value), us.length = ps.length → bindArgs (PySem.W.fnOf x x (defArgs st) (defBody st) (defScope st) .none kV doc pm an cdv ct) ⟨us, []⟩ = pure (ps.zip us))
    (ha : DE X E .o Γ e te fe) (hj : j ≤ k := by decide) (hg : Gl X x := by rfl) (hdb : (x == ("__debug__" : Str)) = false := by decide) (he : starEach [e] X.env = (false, eval e X.env) :: starEach [] X.env := by rfl) (hpl : (backTo pos (starEach [] X.env)).any (·.1) = false := by rfl) :
    DE X E .f Γ (.Call (.Name x p) [e] [] pos) (tGo X.mg X.K [.p] .f m E (tCons te tNil)) (eGoPot m fe) :=
  ⟨⟨fun pins s σ H Q I h => by
    obtain ⟨f, fd, h1, h2, h3⟩ := F.ex
    refine wpAny_Call_Name_kw (ld_glob I hg h1 ?_ hdb)
    refine PySem.W.callWith_K (h₀ := X.base) I.ok.mod.kin h2.kp (thn ((pa_cons ha.pe pa_nil he).run pos pins s σ H _ I h) fun us s1 ⟨vs, H1, I1, rl, q⟩ => ⟨I1.kIn, ?_⟩) he hpl
    have hl : us.length = ps.length := by
      rw [← rl.length]
      exact h3.len _ _ _ _ q
    have bd : BindsTo s1 fd ⟨us, ([] : List Str).zip ([] : List Value)⟩ (ps.zip (us ++ [])) := by
      obtain ⟨oc, od, kV, doc, pm, an, cdv, ct, osl, rfl, lk, hcd⟩ := h2.ex
      rw [List.append_nil]
      exact .of_eq (hb kV doc pm an cdv ct us hl)
    exact run_go (args := ⟨us, []⟩) (kn := []) (ws := []) h3 o hj bd I1 (by rw [List.append_nil]; exact rl) q⟩, fun pot M σ H ρ π I p Q h => by
    refine ha.sem pot M σ H ρ π I p _ ?_
    unfold eGoPot at h
    cases ef : fe ρ π with
    | err c ns xs π1 =>
      rw [ef] at h
      exact h
    | stuck =>
      rw [ef] at h
      exact h
    | ok y =>
      obtain ⟨d, π1⟩ := y
      rw [ef] at h
      simp only [Res.bind_ok] at h
      split at h
      · rename_i u v
        intro w H1 g1 p1 r1
        obtain ⟨q, rfl, hq, nq, oo, hx, rx⟩ := r1
        cases rx with
        | lst rx =>
        rename_i xs
        have ex : xs = [.int u, .int v] := RpL.iz (ns := [u, v]) rx
        subst ex
        have I1 := I.grow g1 p1
        refine ⟨rfl, some q, q :: M, [.non], (u, v), .cons ⟨q, rfl, rfl⟩ .nil, fun a ha => ?_, fun a ea => ?_, fun a ea => ?_, ?_⟩
        · rcases List.mem_cons.mp ha with z | z
          · rw [z]
            exact .of hx fun _ e => by cases e
          · exact I1.al a z
        · cases ea
          exact List.mem_cons_self ..
        · cases ea
          exact hx
        · cases em : m [.non] (u, v) with
          | err c ns xs π' =>
            rw [em] at h
            exact h.elim
          | stuck =>
            rw [em] at h
            exact h.elim
          | ok z =>
            obtain ⟨z, π2⟩ := z
            rw [em] at h
            simp only [safe_ok, Res.bind_ok] at h
            intro b H2 g2 p2 r2
            have ne : ∀ a o, H a = some o → (some q : Option Addr) ≠ some a := fun a o ho e => by
              cases e
              rw [hq] at ho
              cases ho
            refine h b H2 (fun a o n ho => g2 a o (ne a o ho) (g1 a o n ho)) (fun a ea => ?_) (Rp.mono (less_sub fun a ha => List.mem_cons_of_mem _ ha) r2)
            exact g2 a _ (fun e => by cases e; exact nq ea) (p1 a ea)
      · exact h.elim⟩
end
end DL
set_option maxHeartbeats 2000000
namespace DL
open PySem PySem.Spec PyProof.Rows L2
theorem less_nil {H : Hp} : less H [] = H := funext fun a => by simp [less]
/-- the call of the law, from a promise that knows that no repr is running -/
theorem law_callG {P : Program} {w : World} {K : PySem.W.Frag} {mg mb : Str → Option Value} {k : Nat} {fa p : Addr} {fd : FuncData} {x : Str} {sp : Sp} {s0 : Shared} {us : List Value} {ns : List Int}
    (kin : K.In s0.heap) (nsm : s0.heap.Ns mainGlobals mg) (nsb : s0.heap.Ns builtinsNs mb) (bts : ∀ x : Str, x ≠ "__name__" → mb x = bootBuiltins x) (nolim : s0.heap.NoLimit) (gens : s0.gens = #[])
    (ob : s0.heap.get? p = some { cls := .type "list", data := .seq us.toArray }) (are : IntsAre us ns) (short : ns.length ≤ sizeLine) (room : Room k callerA)
    (F : ∀ base : Heap, K.In base → base.Ns mainGlobals mg → FnG P w K mg base k fa fd [x] sp) (bd : ∀ (s : Shared) (u : Value), BindsTo s fd ⟨[u], []⟩ [(x, u)])
    (goal : ∀ H : Hp, SqL K H p (ns.map V.int) → sp [.ref p] H (fun v _ => v = .bl true) fun _ _ _ => False) :
    codeAny (model P w) callerA (.call (.ref fa) ⟨[.ref p], []⟩) (fun r s' => r = .ok (.ret (.bool true)) ∧ PySem.OldK s0.heap s'.heap ∧ s'.os = s0.os ∧ AllBare s'.gens) s0 := by
  have rel := vals_ints are
  have llen := are.length
  have main : ∀ H : Hp, Only H → SqL K H p (ns.map V.int) → HOk P w H s0.heap → (∀ c, H c ≠ none → c = p) → (H p ≠ none → K.lookup p = none) →
      codeAny (model P w) callerA (.call (.ref fa) ⟨[.ref p], []⟩) (fun r s' => r = .ok (.ret (.bool true)) ∧ PySem.OldK s0.heap s'.heap ∧ s'.os = s0.os ∧ AllBare s'.gens) s0 := by
    intro H only seq okH at_p free_p
    have nop : ∀ {c : Addr}, c ≠ p → H c = none := fun {c} n => Classical.byContradiction fun z => n (at_p c z)
    have vis : ∀ {c : Addr} {o : Obj}, s0.heap.get? c = some o → H c = none → (hidT s0.heap H).get? c = some o := fun a b => hidT_get a b
    have dicts : ∀ {c : Addr} {o : Obj} {es : Array DictEntry} {ep : Nat}, s0.heap.get? c = some o → o.data = .dict es ep → H c = none := fun {c o es ep} e d => nop fun z => by
      rw [z, ob] at e
      cases e
      cases (show Data.seq us.toArray _ = Data.dict es ep from d)
    have names : ∀ {c : Addr} {m : Str → Option Value}, s0.heap.Ns c m → (hidT s0.heap H).Ns c m := fun {c m} h => by
      obtain ⟨o, es, ep, e, d, r⟩ := h
      exact ⟨o, es, ep, vis e (dicts e d), d, r⟩
    have kbase : K.In (hidT s0.heap H) := fun c o e => by
      refine vis (kin c o e) (Classical.byContradiction fun z => ?_)
      have ec := at_p c z
      rw [ec] at z e
      rw [free_p z] at e
      cases e
    have mo : Mod K mg (hidT s0.heap H) := ⟨kbase, names nsm, ⟨mb, names nsb, bts⟩, by obtain ⟨mc, h1, h2⟩ := nolim; exact ⟨mc, names h1, h2⟩⟩
    have env : Env0 P w K mg (hidT s0.heap H) callerA [] s0 H := ⟨rfl, mo, (fun c o e => of_hidT e), Nat.le_of_eq (hidT_size _ _), trivial, (fun c hc => by cases hc), okH, .of_eq gens⟩
    have run := (F _ kbase (names nsm)).run callerA [] s0 H ⟨[.ref p], []⟩ [.ref p] [.ref p] _ _ room rfl env (bd s0 (.ref p)) (.cons rfl .nil) (goal H seq)
    refine codeAny_mono run fun r s' h => ?_
    match r, h with
    | .error e, h =>
      obtain ⟨_, _, _, _, _, _, _, _, _, _, _, _, no⟩ := h
      exact no.elim
    | .ok .next, h => exact h.elim
    | .ok .brk, h => exact h.elim
    | .ok .cont, h => exact h.elim
    | .ok (.ret u), h =>
      obtain ⟨v, H', os, bare, un, okH', rv, q⟩ := h
      cases (show v = .bl true from q)
      cases (show u = Value.bool true from rv)
      refine ⟨rfl, OldK.of_keep fun c o e => ?_, os, bare⟩
      cases hc : H c with
      | none => exact un.keep c o e hc (by intro z; cases z) (by simp)
      | some u =>
        rcases only c with z | ⟨o', ys, z⟩
        · rw [hc] at z
          cases z
        · have w1 := (okH c _ z).1
          have w2 := (okH' c _ (un.frzs c o' _ z)).1
          rw [e] at w1
          cases w1
          exact w2
  by_cases hk : K.lookup p = none
  · have hat : ∀ c, c = p ∨ (fun c => if c = p then some (HO.frz { cls := .type "list", data := .seq us.toArray } (.lst (ns.map V.int))) else none : Hp) c = none := fun c => by
      by_cases z : c = p
      · exact .inl z
      · exact .inr (if_neg z)
    refine main (fun c => if c = p then some (.frz { cls := .type "list", data := .seq us.toArray } (.lst (ns.map V.int))) else none) (fun c => ?_) (.inl (.inr ⟨{ cls := .type "list", data := .seq us.toArray }, if_pos rfl⟩)) (fun c u z => ?_) (fun c z => (hat c).resolve_right z) fun _ => hk
    · rcases hat c with z | z
      · exact .inr ⟨_, _, if_pos z⟩
      · exact .inl z
    · rcases hat c with q | q
      · subst q
        have z' := (if_pos rfl).symm.trans z
        cases z'
        exact ⟨ob, by rw [List.length_map]; exact short, us, _, rel, ob⟩
      · rw [q] at z
        cases z
  · obtain ⟨o, ho⟩ := Option.ne_none_iff_exists'.mp hk
    have e := kin p o ho
    rw [ob] at e
    cases e
    have em : ∀ c, (fun _ => none : Hp) c = none := fun _ => rfl
    exact main (fun _ => none) (fun c => .inl rfl) (.inr ⟨_, us.toArray, _, ho, rfl, rfl, rfl, by rw [List.size_toArray, llen]; exact short, by simpa using rel⟩) (fun c u z => by rw [em c] at z; cases z) (fun c z => absurd (em c) z) fun z => absurd (em p) z
/-- THE END: what the head leaves, from what law gives of its data -/
theorem walk_D {l : PySem.W.OpenLaw} {n k : Nat} {q : Program} {loose : List Str} {XP : (Str → Option Value) → Heap → Prop} {YP : World → Heap → Prop} {d : DefRec} {K : Params → PySem.W.Frag} {x : Str} {m : Fd}
    (most : l.most = some n) (small : n ≤ sizeLine) (nodf : d.params.defaults = []) (room : Room k callerA) (hY : ∀ (w : World) (h : Heap), YP w h → (K w.params).In h)
    (good : ∀ ns : List Int, ns.length ≤ n → ∃ π, m [.lst (DL.iz ns)] (0, 0) = .ok (.bl true, π))
    (F : ∀ (w : World) (mg : Str → Option Value) (fa : Addr) (h : Heap), (K w.params).In h → h.Ns mainGlobals mg → mg d.name = some (.ref fa) →
      ∃ fd : FuncData, (∀ (s : Shared) (u : Value), BindsTo s fd ⟨[u], []⟩ [(x, u)]) ∧ ∀ base : Heap, (K w.params).In base → base.Ns mainGlobals mg → FnG l.prog w (K w.params) mg base k fa fd [x] (SpD mg (K w.params) [.s] .f m)) :
    PySem.W.WalkO q loose XP YP l.row.toRowW d [] (fun f vs => PySem.call f vs) := by
  refine Att.attach_call most nodf fun w s₀ s1 mg mb fa o pm cd doc a vs ns G Y ho hd hcd hmg hobj hints hlen hg => ?_
  have KX := hY w _ Y
  obtain ⟨fd, hb, hF⟩ := F w mg fa _ KX G.T.g hmg
  refine law_callG KX G.T.g G.T.b G.T.builtins G.T.nolimit hg hobj hints (Nat.le_trans hlen small) room hF hb fun H hS => ?_
  obtain ⟨π, hm⟩ := good ns hlen
  refine ⟨rfl, none, [], [.lst (DL.iz ns)], (0, 0), .cons ⟨a, ns, rfl, rfl, by rw [less_nil]; exact hS⟩ .nil, (fun a h => by cases h), (fun a e => by cases e), (fun a e => by cases e), ?_⟩
  rw [hm]
  exact fun v H' g p r => by
    cases r
    rfl
end DL
set_option maxHeartbeats 2000000
namespace DL
open PySem PySem.Spec PyProof.Rows L2
section
variable {X : Cx} {E : XK} {r r' ra rb rc : Rm} {Γl Γ Γ1 Γ' : List Md} {pos : Pos} {k : Nat} {e a b c : Expr} {te ta tb tc : TE} {fe fa fb fc : Ed} {st : Stmt} {sts body : List Stmt} {ts us : TS} {fs gs : Fs} {tt : TT} {ft : Et}
/-- y = [.. for ..] on one line -/
theorem ds_setLcR (i : Nat) {y : Str} {py : Pos} {w : Bool} {elt tg iter : Expr} {ifs : List Expr} {scope : Scope} {own : List (Str × Nat)} {spos : Pos} {wi : TI} {fi : Ei} {is : List Nat} {fg : D → Rho → Option Rho} {ft : Et} {fe : Ed} (hr : r' = .f ∨ r' = .o) (x : XOk X E k) (hi : DI w X E Γ tg iter wi fi) (ok : BlkOk X.N X.env.scope scope own)
    (hg : ∀ (s : Shared) (H : Hp) (C : Addr) (cl : List (Str × Addr)) (fp : List Addr), ∃ g, DG (X.blk s H scope (compEnvC scope cl C X.env) fp) Γ tg is g fg)
    (ht : ∀ (s : Shared) (H : Hp) (C : Addr) (cl : List (Str × Addr)) (fp : List Addr), ∃ tt, DTs (X.blk s H scope (compEnvC scope cl C X.env) fp) E0 Γ ifs tt ft)
    (he : ∀ (s : Shared) (H : Hp) (C : Addr) (cl : List (Str × Addr)) (fp : List Addr), ∃ te, DE (X.blk s H scope (compEnvC scope cl C X.env) fp) E0 .f Γ elt te fe)
    (hv : ∀ i ∈ is, i ∈ own.map (·.2) := by decide) (hΓ : ∀ i ∈ own.map (·.2), Γ[i]? = some .f := by decide) (hΓi : Γ[i]? = some r'.md := by rfl) (hN : X.N[i]? = some y := by rfl) (hyl : X.env.scope.names.lookup y = some .local := by rfl)
    (hsw : swapsWith (.ListComp elt [⟨tg, iter, ifs, 0⟩] scope pos) (some (.Name y py)) spos.line X.env = pure true := by rfl) (hs : ∀ x, foldedSetIterable iter X.env x = pure x := by intro _; rfl) :
    DS X E r Γl Γ Γ (.Assign [.Name y py] (.ListComp elt [⟨tg, iter, ifs, 0⟩] scope pos) spos) (tAsg (tLc wi (canG X.mg X.K Γ is fg) (canT X.mg X.K E0 Γ ft) (canE X.mg X.K E0 .f Γ fe) (own.map (·.2))) (gName i)) (sSet i (eLC fi fg ft fe (own.map (·.2)))) := by
  have de : DE X E .o Γ (.ListComp elt [⟨tg, iter, ifs, 0⟩] scope pos) _ _ := de_lc x hi ok hg ht he hv hΓ hs
  have hg' : ∀ (s : Shared) (H : Hp) (C : Addr) (cl : List (Str × Addr)) (fp : List Addr), DG (X.blk s H scope (compEnvC scope cl C X.env) fp) Γ tg is (canG X.mg X.K Γ is fg) fg := fun s H C cl fp => by
    obtain ⟨g, h⟩ := hg s H C cl fp
    exact h.can
  have ht' : ∀ (s : Shared) (H : Hp) (C : Addr) (cl : List (Str × Addr)) (fp : List Addr), DTs (X.blk s H scope (compEnvC scope cl C X.env) fp) E0 Γ ifs (canT X.mg X.K E0 Γ ft) ft := fun s H C cl fp => by
    obtain ⟨g, h⟩ := ht s H C cl fp
    exact h.can
  have he' : ∀ (s : Shared) (H : Hp) (C : Addr) (cl : List (Str × Addr)) (fp : List Addr), DE (X.blk s H scope (compEnvC scope cl C X.env) fp) E0 .f Γ elt (canE X.mg X.K E0 .f Γ fe) fe := fun s H C cl fp => by
    obtain ⟨g, h⟩ := he s H C cl fp
    exact h.can
  refine ⟨ps_setLc x.calm x.nd hN hyl hsw hi.pi ok (fun s H C cl fp => (hg' s H C cl fp).pg) (fun s H C cl fp => (ht' s H C cl fp).pts) (fun s H C cl fp => (he' s H C cl fp).pe) hs, ?_⟩
  rcases hr with rfl | rfl
  · exact sem_set hΓi de.toF.sem
  · exact sem_set hΓi de.sem
/-- a slot is let go -/
theorem SOk.drop {mg : Str → Option Value} {K : PySem.W.Frag} {pot : Option Addr} {M M0 : List Addr} {H H0 B : Hp} {σ : L2.St} {ρ : Rho} (S : SOk mg K Γ pot M0 H0 B M σ H ρ) (i : Nat) : SOk mg K (Γ.set i .u) pot M0 H0 B M σ H ρ := by
  have I := S.env
  have old : ∀ (j : Nat) (m : Md), m ≠ .u → (Γ.set i .u)[j]? = some m → Γ[j]? = some m := fun j m hm h => by
    rcases set_at h with ⟨_, z, _⟩ | ⟨_, z⟩
    · exact absurd z hm
    · exact z
  exact ⟨⟨by simp [I.ls], by simp [I.lr], (fun j d h1 h2 => I.f j d (old j _ (by simp) h1) h2), (fun j d h1 h2 => I.o j d (old j _ (by simp) h1) h2), (fun j h1 => I.p j (old j _ (by simp) h1)), (fun j d h1 h2 => I.s j d (old j _ (by simp) h1) h2),
    (fun j l a d e h1 h2 h3 h4 h5 h6 => I.ap j l a d e (old j _ (by simp) h1) (old l _ (by simp) h2) h3 h4 h5 h6), I.al, I.pm, fun j a dd d h1 h2 => I.x j a dd d (old j _ (by simp) h1) h2⟩, S.gr, S.sub, (fun j d a h1 h2 h3 => S.ow j d a (old j _ (by simp) h1) h2 h3), S.m0, S.bs⟩
/-- ints of any size, or a list so many times -/
def opMulA : D → D → Option D
  | .int i, .int j => if small i || small j || decide (i.natAbs.log2 + j.natAbs.log2 < 1000000) then some (.int (i * j)) else none
  | _, _ => none
def rMulA : R2 := fun x y H Q => rI CMul (fun i j => .int (i * j)) x y H Q ∨ rI CMulW (fun i j => .int (i * j)) x y H Q
theorem o_mulA : OpOk X (binaryOp .Mult) rMulA .f opMulA := ⟨op_mul.or op_mulW, fun pot M H x y d e z al pm ph rx ry hz Q q => by
  cases d <;> cases e <;> simp only [opMulA] at hz <;> try cases hz
  rename_i i j
  split at hz
  · rename_i hc
    cases hz
    rcases Bool.or_eq_true_iff.mp hc with h | h
    · refine .inl ⟨i, j, rb_int rx, rb_int ry, ?_, q _ H (Same.refl H) (.int _)⟩
      simp only [small, Bool.or_eq_true, decide_eq_true_eq] at h
      unfold CMul
      omega
    · exact .inr ⟨i, j, rb_int rx, rb_int ry, (decide_eq_true_iff.mp h : _ < _), q _ H (Same.refl H) (.int _)⟩
  · cases hz⟩
/-- a comprehension's names, decided -/
def blkB (N : List Str) (sc scope : Scope) (own : List (Str × Nat)) : Bool :=
  (match scope.kind with | .function => true | _ => false) && scope.names.all (fun y => scope.names.lookup y.1 == some y.2) && own.all (fun p => N[p.2]? == some p.1) &&
  scope.names.all (fun y => !(y.2 == .free) || (sc.names.lookup y.1 == some .cell || sc.names.lookup y.1 == some .free)) && scope.names.all (fun y => !(y.2 == .local || y.2 == .cell) || (own.any (fun p => p.1 == y.1) || !N.contains y.1))
theorem blk_of {N : List Str} {sc scope : Scope} {own : List (Str × Nat)} (h : blkB N sc scope own = true) : BlkOk N sc scope own := by
  unfold blkB at h
  simp only [Bool.and_eq_true, List.all_eq_true] at h
  obtain ⟨⟨⟨⟨h1, h2⟩, h3⟩, h4⟩, h5⟩ := h
  refine ⟨?_, fun y hy => ?_, fun p hp => ?_, fun y hy e => ?_, fun y hy e => ?_⟩
  · split at h1
    · assumption
    · cases h1
  · simpa using h2 y hy
  · simpa using h3 p hp
  · have := h4 y hy
    rw [e] at this
    simpa using this
  · have := h5 y hy
    rcases e with e | e <;> rw [e] at this <;> simp at this <;> (rcases this with ⟨n, q⟩ | q) <;> simp_all
    all_goals exact .inl ⟨_, q⟩
/-- the law's own promise, for the end -/
theorem law_end {P : Program} {w : World} {K : PySem.W.Frag} {mg : Str → Option Value} {fa : Addr} {x : Str} {st : Stmt} {ps : List Str} {ks : List Ak} {r : Rm} {m : Fd} {k : Nat} {T : Prop} (hfa : mg x = some (.ref fa)) (t : T) (hf : T → ∃ f fd, mg x = some (.ref f) ∧ Fun K x x st f fd)
    (F : T → ∀ base : Heap, DFn P w K mg base k x st ps ks r m) {y : Str} (hp : ps = [y])
    (hb : ∀ (kV doc pm : Value) (an : Option Addr) (cdv ct : Value) (s : Shared) (u : Value), BindsTo s (PySem.W.fnOf x x (defArgs st) (defBody st) (defScope st) .none kV doc pm an cdv ct) ⟨[u], []⟩ [(y, u)]) :
    ∃ fd : FuncData, (∀ (s : Shared) (u : Value), BindsTo s fd ⟨[u], []⟩ [(y, u)]) ∧ ∀ base : Heap, K.In base → base.Ns mainGlobals mg → FnG P w K mg base k fa fd [y] (SpD mg K ks r m) := by
  obtain ⟨f, fd, h1, h2⟩ := hf t
  rw [hfa] at h1
  cases h1
  refine ⟨fd, fun s u => ?_, fun base _ _ => ?_⟩
  · obtain ⟨oc, od, kV, doc, pm, an, cdv, ct, osl, rfl, lk, hcd⟩ := h2.ex
    exact hb kV doc pm an cdv ct s u
  · obtain ⟨f', fd', g1, g2, g3⟩ := (F t base).ex
    rw [hfa] at g1
    cases g1
    obtain ⟨oc, od, kV, doc, pm, an, cdv, ct, osl, rfl, lk, hcd⟩ := h2.ex
    obtain ⟨oc', od', kV', doc', pm', an', cdv', ct', osl', rfl, lk', hcd'⟩ := g2.ex
    rw [lk] at lk'
    cases lk'
    rw [← hp]
    exact g3
end
end DL
set_option maxHeartbeats 2000000
namespace DL
open PySem PySem.Spec PyProof.Rows L2
def ItZ (K : PySem.W.Frag) (S1 S2 : Src) : It :=
  ⟨fun i H => ∃ (xs ys : List V) (x y : V), S1.sq K H xs ∧ S2.sq K H ys ∧ xs[i]? = some x ∧ ys[i]? = some y,
    fun i H v H' => ∃ T x y, v = .ref T ∧ H T = none ∧ H' = upd H T (.tup [x, y]) ∧ (∀ xs, S1.sq K H xs → xs[i]? = some x) ∧ ∀ ys, S2.sq K H ys → ys[i]? = some y,
    fun i H => ∃ xs ys : List V, S1.sq K H xs ∧ S2.sq K H ys ∧ min xs.length ys.length = i⟩
theorem turn_zipS {P : Program} {w : World} {K : PySem.W.Frag} {elts : List Expr} {kk : Nat} {tpos : Pos} {z TI TO i1 i2 : Addr} (S1 S2 : Src) (D : ZipSep2 z TI TO i1 i2 [i1, S1.a] [i2, S2.a]) (n1 : S1.a ≠ i1) (n2 : S2.a ≠ i2) :
    Turn P w K (.Tuple elts kk tpos) (ItZ K S1 S2) [z, TI, TO, i1, i2] z (fun i h => IsZip h z TI TO .none ∧ IsTupOf2 h TI (.ref i1) (.ref i2) ∧ (∃ x y, IsTupOf2 h TO x y) ∧ S1.it h i1 i ∧ S2.it h i2 i) where
  mem := by simp
  obj := fun i h st c hc => by
    obtain ⟨hz, hTI, ⟨x, y, hTO⟩, h1, h2⟩ := st
    have e' : c = z ∨ c = TI ∨ c = TO ∨ c = i1 ∨ c = i2 := by simpa using hc
    rcases e' with q | q | q | q | q
    · rw [q]
      exact ⟨_, hz, fun v q => nomatch q⟩
    · rw [q]
      exact ⟨_, hTI, fun v q => nomatch q⟩
    · rw [q]
      exact ⟨_, hTO, fun v q => nomatch q⟩
    · rw [q]
      exact Src.it_obj h1
    · rw [q]
      exact Src.it_obj h2
  keep := fun i h h' st k => by
    obtain ⟨hz, hTI, ⟨x, y, hTO⟩, h1, h2⟩ := st
    exact ⟨k z (by simp) _ hz, k TI (by simp) _ hTI, ⟨x, y, k TO (by simp) _ hTO⟩, Src.it_at h1 fun o q => k i1 (by simp) o q, Src.it_at h2 fun o q => k i2 (by simp) o q⟩
  item := by
    intro X hP hw hK hc i pins s σ H E I hf st hg
    subst hP hw hK
    obtain ⟨hz, hTI, hTO, h1, h2⟩ := st
    obtain ⟨xs, ys, x, y, hqx, hqy, hx, hy⟩ := hg
    obtain ⟨its, rv, p⟩ := Src.lay I hqx
    obtain ⟨its2, rv2, p2⟩ := Src.lay I hqy
    obtain ⟨u, hu, ru⟩ := rv.get hx
    obtain ⟨u2, hu2, ru2⟩ := rv2.get hy
    have l1 : i < its.toArray.size := by simpa using (List.getElem?_eq_some_iff.mp hu).1
    have l2 : i < its2.toArray.size := by simpa using (List.getElem?_eq_some_iff.mp hu2).1
    have hz' := hz
    have lt_of : ∀ c, c ∈ [z, TI, TO, i1, i2] → c < s.heap.objs.size := fun c hc => by
      have e' : c = z ∨ c = TI ∨ c = TO ∨ c = i1 ∨ c = i2 := by simpa using hc
      rcases e' with q | q | q | q | q
      · rw [q]
        exact Heap.lt_size hz
      · rw [q]
        exact Heap.lt_size hTI
      · rw [q]
        obtain ⟨_, _, e⟩ := hTO
        exact Heap.lt_size e
      · rw [q]
        obtain ⟨_, e, _⟩ := Src.it_obj h1
        exact Heap.lt_size e
      · rw [q]
        obtain ⟨_, e, _⟩ := Src.it_obj h2
        exact Heap.lt_size e
    have G : GoesN X.prog X.w X.A (.Tuple elts kk tpos) z (z :: TI :: TO :: ([i1, S1.a] ++ [i2, S2.a])) [z, TO, i1, i2] (min its.toArray.size its2.toArray.size) _ _ :=
      GoesN.zip2 (elts := elts) (x1 := kk) (pos := tpos) D (Src.draws (S := S1) (A := X.A.in1) (I.ok.hd hc) i1 n1 its.toArray) (Src.draws (S := S2) (A := X.A.in1) (I.ok.hd hc) i2 n2 its2.toArray)
    refine thn (G.goes i s (fun v s2 => _) E (Nat.lt_min.mpr ⟨l1, l2⟩) ⟨hz, hTI, hTO, ⟨h1, p⟩, ⟨h2, p2⟩⟩ fun v h' tk hY st' hk _ => ?_) fun r s1 z => z
    obtain ⟨T, a, b, rfl, hT, ha, hb, hTup⟩ := hY
    obtain ⟨hz2, hTI2, hTO2, ⟨h1', _⟩, ⟨h2', _⟩⟩ := st'
    have ea : a = u := by
      have : its.toArray[i]? = some u := by simpa using hu
      exact Option.some.inj (ha.symm.trans this)
    have eb : b = u2 := by
      have : its2.toArray[i]? = some u2 := by simpa using hu2
      exact Option.some.inj (hb.symm.trans this)
    subst ea eb
    have new : ObjOk X.prog X.w (upd H T (.tup [x, y])) h' T (.tup [x, y]) := by
      refine ⟨by show 2 ≤ sizeLine; decide, [a, b], .cons ru (.cons ru2 .nil), hTup⟩
    have sub : ∀ c, c ∈ [z, TO, i1, i2] → c ∈ [z, TI, TO, i1, i2] := fun c hc => by
      simp only [List.mem_cons, List.not_mem_nil, or_false] at hc ⊢
      rcases hc with e | e | e | e <;> simp [e]
    have I1 : Inv X pins σ (upd H T (.tup [x, y])) { s with heap := h', toks := tk } := I.turnedNew (ch := [z, TO, i1, i2]) hk (fun c hc => hf c (sub c hc)) hT new
    refine ⟨.ref T, _, I1, rfl, ⟨T, x, y, rfl, I.hok.fresh hT, rfl, fun l hl => by rw [Src.inj I hl hqx]; exact hx, fun l hl => by rw [Src.inj I hl hqy]; exact hy⟩, ⟨hz2, hTI2, hTO2, h1', h2'⟩, fun c hc => ?_⟩
    rw [upd_ne (Nat.ne_of_lt (Nat.lt_of_lt_of_le (lt_of c hc) hT))]
    exact (hf c hc).1
  done := by
    intro X hP hw hK hc i pins s σ H E I hf st hg
    subst hP hw hK
    obtain ⟨hz, hTI, hTO, h1, h2⟩ := st
    obtain ⟨xs, ys, hqx, hqy, hend⟩ := hg
    obtain ⟨its, rv, p⟩ := Src.lay I hqx
    obtain ⟨its2, rv2, p2⟩ := Src.lay I hqy
    have e1 := rv.length
    have e2 := rv2.length
    have hi : i = min its.toArray.size its2.toArray.size := by simp; omega
    have G : GoesN X.prog X.w X.A (.Tuple elts kk tpos) z (z :: TI :: TO :: ([i1, S1.a] ++ [i2, S2.a])) [z, TO, i1, i2] (min its.toArray.size its2.toArray.size) _ _ :=
      GoesN.zip2 (elts := elts) (x1 := kk) (pos := tpos) D (Src.draws (S := S1) (A := X.A.in1) (I.ok.hd hc) i1 n1 its.toArray) (Src.draws (S := S2) (A := X.A.in1) (I.ok.hd hc) i2 n2 its2.toArray)
    have sub : ∀ c, c ∈ [z, TO, i1, i2] → c ∈ [z, TI, TO, i1, i2] := fun c hc => by
      simp only [List.mem_cons, List.not_mem_nil, or_false] at hc ⊢
      rcases hc with e | e | e | e <;> simp [e]
    subst hi
    exact G.stops s (fun s1 => Inv X pins σ H s1) E ⟨hz, hTI, hTO, ⟨h1, p⟩, ⟨h2, p2⟩⟩ fun h' tk hk _ => I.turnedL (ch := [z, TO, i1, i2]) hk fun c hc => hf c (sub c hc)
  self := fun A i s Q E st h => wpAny_pyIter_zip st.1 h
def iZipS (K : PySem.W.Frag) (ta : TA) : TI := fun σ H R => ta σ H fun vs H1 => ∃ S1 S2 : Src, vs = [.ref S1.a, .ref S2.a] ∧ (∃ xs, S1.sq K H1 xs) ∧ (∃ ys, S2.sq K H1 ys) ∧ R (ItZ K S1 S2) H1
theorem pi_zipS {X : Cx} {e e2 : Expr} {ta : TA} {p pos tpos : Pos} {elts : List Expr} {kk : Nat} (hg : Gl X "zip") (hm : X.mg "zip" = none) (ha : PA X [e, e2] ta)
    (hs : starEach [e, e2] X.env = (false, eval e X.env) :: starEach [e2] X.env := by rfl) (hpl : (backTo pos (starEach [e2] X.env)).any (·.1) = false := by rfl) :
    PI X (.Tuple elts kk tpos) (.Call (.Name "zip" p) [e, e2] [] pos) (iZipS X.K ta) := by
  refine ⟨fun pins s σ H R I h => ?_⟩
  refine Call_ (ld_blt I hg hm PyProof.Rows.boot_zip (PyProof.Rows.callWith_type1 (thn (ha.run pos pins s σ H _ I h) fun us s1 ⟨vs, H1, I1, r1, q1⟩ => ?_) hs hpl))
  obtain ⟨S1, S2, ex, ⟨xs, hqx⟩, ⟨ys, hqy⟩, q⟩ := q1
  subst ex
  cases r1 with
  | cons r rr =>
    cases rr with
    | cons r' rr =>
      cases rr
      cases r
      cases r'
      obtain ⟨its, rv, p1⟩ := Src.lay I1 hqx
      obtain ⟨its2, rv2, p2⟩ := Src.lay I1 hqy
      have la := Src.is_lt p1
      have lb := Src.is_lt p2
      refine zip_begins2 (Src.begins (S := S1) its.toArray) (Src.begins (S := S2) its2.toArray) p1 p2 fun h' hz hTI hTO h1 h2 hsz hk => wpAny_pyIter_zip hz ?_
      have I2 : Inv X pins σ H1 { s1 with heap := h' } := I1.kept (t' := s1.toks) hk
      have sep := zip_sep2 (N := s1.heap.objs.size) (fp1 := [S1.a]) (fp2 := [S2.a]) (fun b hb => by rw [List.mem_singleton.mp hb]; exact la) (fun b hb => by rw [List.mem_singleton.mp hb]; exact lb)
      refine ⟨s1.heap.objs.size + 4, [s1.heap.objs.size + 4, s1.heap.objs.size + 2, s1.heap.objs.size + 3, s1.heap.objs.size, s1.heap.objs.size + 1], _, _, H1, rfl, I2, turn_zipS S1 S2 sep (Nat.ne_of_lt la) (Nat.ne_of_lt (Nat.lt_succ_of_lt lb)), ⟨hz, hTI, ⟨_, _, hTO⟩, Src.it0 h1, Src.it0 h2⟩, fun c hcm => ?_, q⟩
      have e' : c = s1.heap.objs.size + 4 ∨ c = s1.heap.objs.size + 2 ∨ c = s1.heap.objs.size + 3 ∨ c = s1.heap.objs.size ∨ c = s1.heap.objs.size + 1 := by simpa using hcm
      have hle : s1.heap.objs.size ≤ c := by
        rcases e' with z | z | z | z | z <;> rw [z] <;> first | exact Nat.le_refl _ | exact Nat.le_add_right _ _
      exact I1.fpOk hle (I1.hok.fresh hle)
theorem walk_zipS {K : PySem.W.Frag} {S1 S2 : Src} {xs ys : List V} : Walk (ItZ K S1 S2) (min xs.length ys.length) (fun H => S1.sq K H xs ∧ S2.sq K H ys) (YPair (fun i => xs[i]?) (fun i => ys[i]?)) where
  goes := fun i H hi q => ⟨xs, ys, xs[i]'(by omega), ys[i]'(by omega), q.1, q.2, by simp, by simp⟩
  stops := fun H q => ⟨xs, ys, q.1, q.2, rfl⟩
  yields := fun i H x H' hi q y => by
    obtain ⟨T, a, b, e1, e2, e3, e4, e5⟩ := y
    exact ⟨T, a, b, e1, e2, e3, e4 xs q.1, e5 ys q.2⟩
end DL
set_option maxHeartbeats 2000000
namespace DL
open PySem PySem.Spec PyProof.Rows L2
def zipD : List D → List D → List D
  | d :: ds, e :: es => .tup [d, e] :: zipD ds es
  | _, _ => []
theorem zipD_get : ∀ {ds es : List D} {i : Nat} {d e : D}, ds[i]? = some d → es[i]? = some e → (zipD ds es)[i]? = some (.tup [d, e])
  | d :: ds, e :: es, 0, a, b, h1, h2 => by
    simp at h1 h2
    subst h1 h2
    rfl
  | d :: ds, e :: es, i + 1, a, b, h1, h2 => by
    have := zipD_get (ds := ds) (es := es) (i := i) (by simpa using h1) (by simpa using h2)
    simpa [zipD] using this
  | [], _, i, a, b, h1, h2 => by simp at h1
  | _ :: _, [], i, a, b, h1, h2 => by simp at h2
theorem zipD_len : ∀ (ds es : List D), (zipD ds es).length = min ds.length es.length
  | d :: ds, e :: es => by
    simp only [zipD, List.length_cons, zipD_len ds es]
    omega
  | [], es => by simp [zipD]
  | _ :: _, [] => by simp [zipD]
def iZipD (a : Ea) : Ei := fun ρ π => (a ρ π).bind fun x => match x.1 with
  | [d, e] => (ofO (seqOf d)).bind fun z => (ofO (seqOf e)).bind fun y => .ok (zipD z y, x.2)
  | _ => .stuck
section
variable {mg : Str → Option Value} {K : PySem.W.Frag} {pot : Option Addr} {M : List Addr} {H H1 H' : Hp} {ds es : List D}
theorem walkZ {w : Bool} {S1 S2 : Src} {xs ys : List V} (r1 : RpL mg K (less H1 M) xs ds) (r2 : RpL mg K (less H1 M) ys es) (st1 : ∀ H' M', (w = true → Grow pot H1 H') → Same (less H1 M) (less H' M') → S1.sq K H' xs) (st2 : ∀ H' M', (w = true → Grow pot H1 H') → Same (less H1 M) (less H' M') → S2.sq K H' ys) :
    WalkD mg K w pot M H1 (ItZ K S1 S2) (zipD ds es) (fun H => S1.sq K H xs ∧ S2.sq K H ys) (YPair (fun i => xs[i]?) (fun i => ys[i]?)) where
  walk := by
    rw [zipD_len, ← r1.length, ← r2.length]
    exact walk_zipS
  stay := fun H' M' g s => ⟨st1 H' M' g s, st2 H' M' g s⟩
  item := fun i H x H' M' _ s al hi y => by
    obtain ⟨T, a, b, rfl, hT, rfl, e1, e2⟩ := y
    obtain ⟨d, e3, q⟩ := r1.getV e1
    obtain ⟨e, e4, q2⟩ := r2.getV e2
    exact ⟨same_upd hT, .tup [d, e], zipD_get e3 e4, new_tup al hT (.cons (q.mono s) (.cons (q2.mono s) .nil))⟩
end
section
variable {X : Cx} {E : XK} {Γ : List Md} {pos p tpos : Pos} {k kk : Nat} {r : Rm} {e e2 e3 tg : Expr} {te : TE} {fe : Ed} {es elts : List Expr} {tA : TA} {fA : Ea} {ks : List Ak}
theorem di_zip (hm : X.mg "zip" = none) (ha : DA X E [.f, .f] Γ [e, e2] tA fA) (hg : Gl X "zip" := by rfl) (hs : starEach [e, e2] X.env = (false, eval e X.env) :: starEach [e2] X.env := by rfl) (hpl : (backTo pos (starEach [e2] X.env)).any (·.1) = false := by rfl) :
    DI false X E Γ (.Tuple elts kk tpos) (.Call (.Name "zip" p) [e, e2] [] pos) (iZipS X.K tA) (iZipD fA) :=
  ⟨pi_zipS hg hm ha.pa hs hpl, fun pot M σ H ρ π I p R h => by
    refine PostI.seqA (ks := [.f, .f]) (te := tA σ H) h (fun Q' hq => ha.sem pot M σ H ρ π I p Q' hq) fun ds π1 vs H1 _ g1 p1 r1 h1 => ?_
    obtain ⟨v, d, v2, d2, rfl, rfl, a, b⟩ := args2 r1
    simp only at h1
    cases e1 : seqOf d with
    | none =>
      rw [e1] at h1
      exact h1.elim
    | some zs =>
      cases e2 : seqOf d2 with
      | none =>
        rw [e1, e2] at h1
        exact h1.elim
      | some ys =>
        rw [e1, e2] at h1
        obtain ⟨S1, xs, rfl, q1, q2⟩ := seq_src (show Rp X.mg X.K (less H1 M) v d from a) e1
        obtain ⟨S2, us, rfl, q3, q4⟩ := seq_src (show Rp X.mg X.K (less H1 M) v2 d2 from b) e2
        exact ⟨S1, S2, rfl, ⟨xs, sq_mono less_le q1⟩, ⟨us, sq_mono less_le q3⟩, h1 _ H1 _ _ .refl p1 (walkZ q2 q4 (fun H' M' _ s => sq_mono less_le (sq_mono s q1)) (fun H' M' _ s => sq_mono less_le (sq_mono s q3)))⟩⟩
/-- a function of another module, called -/
theorem de_callG {id : String} {x : Str} {rc : List V → Hp → VK → Prop} {rz : Rm} {g : List D → Option D} (o : CallOk X (.builtin id) rc ks rz g) (hm : X.mg x = some (.builtin id)) (hA : DA X E ks Γ (e :: es) tA fA) (hg : Gl X x := by rfl) (hdb : (x == ("__debug__" : Str)) = false := by decide)
    (he : starEach (e :: es) X.env = (false, eval e X.env) :: starEach es X.env := by rfl) (hpl : (backTo pos (starEach es X.env)).any (·.1) = false := by rfl) :
    DE X E rz Γ (.Call (.Name x p) (e :: es) [] pos) (tCB rc tA) (eApp g fA) := ⟨pe_callBfun o.1 hg hm hA.pa hdb he hpl, sem_app o.2 hA.sem⟩
end
end DL
set_option maxHeartbeats 2000000
namespace DL
open PySem PySem.Spec PyProof.Rows L2
def fldD (c f : Str) : D → Option D
  | .ins c' ns xs => if c' = c then (ns.zip xs).lookup f else none
  | _ => none
/-- a class of the text whose instances have these attributes -/
def ClsF (K : PySem.W.Frag) (mg : Str → Option Value) (c : Str) (fs : List Str) : Prop := ∃ C, mg c = some (.ref C) ∧ Cls K C ∧ ∀ f ∈ fs, NoAttr K C f
section
variable {mg : Str → Option Value} {K : PySem.W.Frag} {pot : Option Addr} {M : List Addr} {H H' : Hp} {v x : V} {d : D}
theorem rb_ins {c : Str} {ns : List Str} {ds : List D} (h : Rb mg K pot M H x (.ins c ns ds)) : ∃ a C dx fs, x = .ref a ∧ mg c = some (.ref C) ∧ H a = some (.ins C dx fs) ∧ ns = fs.map (·.1) ∧ RpL mg K (less H M) (fs.map (·.2)) ds := by
  rcases h with h | ⟨p, e1, _, o, h1, h2⟩
  · cases h with
    | ins m h1 h2 => exact ⟨_, _, _, _, rfl, m, less_le _ _ h1, rfl, h2⟩
  · cases h2 with
    | ins m h2 => exact ⟨p, _, _, _, e1, m, h1, rfl, h2.mono (less_sub fun a q => List.mem_cons_of_mem _ q)⟩
theorem look_r {f : Str} {z : D} : ∀ {fs : List (Str × V)} {ds : List D}, RpL mg K H (fs.map (·.2)) ds → ((fs.map (·.1)).zip ds).lookup f = some z → ∃ v, fs.lookup f = some v ∧ Rp mg K H v z
  | [], _, _, e => by simp at e
  | p :: fs, _, .cons h r, e => by
    obtain ⟨g, v⟩ := p
    simp only [List.map_cons, List.zip_cons_cons, List.lookup_cons] at e ⊢
    split at e
    · rename_i hg
      cases e
      exact ⟨v, rfl, h⟩
    · exact look_r r e
end
section
variable {X : Cx} {E : XK} {Γ Γ1 Γ' : List Md} {r ra rb rc : Rm} {e a b : Expr} {ta tb te : TE} {fa fb fe : Ed} {pos p p2 apos : Pos} {k kk : Nat} {es : List Expr} {ks : List Ak} {tA : TA} {fA : Ea}
/-- e.f -/
theorem de_fld (c : Str) (fs : List Str) {f : Str} (h : ClsF X.K X.mg c fs) (ha : DE X E r Γ a ta fa) (hf : f ∈ fs := by decide) (hb : attributeBase a f X.env (eval a X.env) = eval a X.env := by rfl) : DE X E .f Γ (.Attribute a f pos) (tFld X.K ta f) (eUn (fldD c f) fa) :=
  ⟨pe_fld ha.pe hb, fun pot M σ H ρ π I p Q q => by
    refine Post.seq (r' := r) (te := ta σ H) q p (fun Q' hq => ha.sem pot M σ H ρ π I p Q' hq) fun d π1 v H1 _ g1 p1 r1 h1 => ?_
    cases hz : fldD c f d with
    | none =>
      simp only [hz, ofO_none, Res.bind_stuck] at h1
      exact h1.elim
    | some z =>
      simp only [hz, ofO_some, Res.bind_ok] at h1
      cases d with
      | ins c' ns xs =>
        simp only [fldD] at hz
        split at hz
        · rename_i hc
          subst hc
          obtain ⟨y, C, dx, gs, rfl, m, hy, rfl, rr⟩ := rb_ins r1.toB
          obtain ⟨C', m', cl, no⟩ := h
          rw [m] at m'
          cases m'
          obtain ⟨u, e1, e2⟩ := look_r rr hz
          exact ⟨y, C, dx, gs, u, rfl, hy, cl, no f hf, e1, h1 _ H1 .refl p1 e2⟩
        · cases hz
      | _ => cases hz⟩
def putN (f : Str) (z : D) : List Str → List D → List Str × List D
  | g :: ns, x :: xs => if g = f then (g :: ns, z :: xs) else (g :: (putN f z ns xs).1, x :: (putN f z ns xs).2)
  | _, _ => ([f], [z])
theorem putN_r {mg : Str → Option Value} {K : PySem.W.Frag} {H : Hp} {f : Str} {v : V} {z : D} (h : Rp mg K H v z) : ∀ {fs : List (Str × V)} {ds : List D}, RpL mg K H (fs.map (·.2)) ds → (putF f v fs).map (·.1) = (putN f z (fs.map (·.1)) ds).1 ∧ RpL mg K H ((putF f v fs).map (·.2)) (putN f z (fs.map (·.1)) ds).2
  | [], _, .nil => ⟨rfl, .cons h .nil⟩
  | (g, x) :: fs, _, .cons h1 r => by
    obtain ⟨i1, i2⟩ := putN_r h r
    rw [show putF f v ((g, x) :: fs) = (if g = f then (g, v) :: fs else (g, x) :: putF f v fs) from rfl]
    simp only [List.map_cons, putN]
    by_cases e : g = f
    · rw [if_pos e, if_pos e]
      exact ⟨rfl, .cons h r⟩
    · rw [if_neg e, if_neg e]
      exact ⟨by rw [List.map_cons, i1], .cons h1 i2⟩
abbrev Fi := D → Rho → Pot → Res ((D × Rho) × Pot)
def SemIn (mg : Str → Option Value) (K : PySem.W.Frag) (E : XK) (Γ : List Md) (ts : TS) (fi : Fi) : Prop :=
  ∀ pot M0 H0 B M σ H ρ π x d D, SOk mg K Γ pot M0 H0 B M σ H ρ → σ[0]? = some (some (.ref x)) → Held mg K .o Γ pot H0 M σ H ρ (.ref x) d → PotAt pot H π →
    (match fi d ρ π with
      | .ok ((d', ρ'), π') => ∀ M' σ' H', SOk mg K Γ pot M0 H0 B M' σ' H' ρ' → σ'[0]? = some (some (.ref x)) → Held mg K .o Γ pot H0 M' σ' H' ρ' (.ref x) d' → PotAt pot H' π' → D.nx σ' H'
      | .err c ns xs π' => PErr mg K pot M0 H0 c ns xs π' E
      | .stuck => False) → ts D σ H
structure DIn (X : Cx) (E : XK) (Γ : List Md) (sts : List Stmt) (ts : TS) (fi : Fi) : Prop where
  pss : PSs X sts ts
  sem : SemIn X.mg X.K E Γ ts fi
def iNil : Fi := fun d ρ π => .ok ((d, ρ), π)
def iFld (f : Str) (fe : Ed) (g : Fi) : Fi := fun d ρ π => (fe ρ π).bind fun x => match d with
  | .ins c ns xs => if ns.length < 1000 then g (.ins c (putN f x.1 ns xs).1 (putN f x.1 ns xs).2) ρ x.2 else .stuck
  | _ => .stuck
theorem din_nil : DIn X E Γ [] tNext iNil := ⟨pss_nil, fun pot M0 H0 B M σ H ρ π x d D S s0 hd p h => h M σ H S s0 hd p⟩
/-- a held thing changes -/
theorem SOk.mutx {mg : Str → Option Value} {K : PySem.W.Frag} {pot : Option Addr} {M M0 : List Addr} {H H0 B : Hp} {σ : L2.St} {ρ : Rho} {x : Addr} {d d' : D} {o' : HO} (S : SOk mg K Γ pot M0 H0 B M σ H ρ) (hd : Held mg K .o Γ pot H0 M σ H ρ (.ref x) d) (q : HoR mg K (less H M) o' d') :
    SOk mg K Γ pot M0 H0 B M σ (upd H x o') ρ ∧ Held mg K .o Γ pot H0 M σ (upd H x o') ρ (.ref x) d' := by
  obtain ⟨x', ex, m, ⟨n, oo, h1, h2⟩, hz, no⟩ := hd
  cases ex
  have I := S.env
  have own' : Own mg K pot M (upd H x o') x d' := ⟨n, o', upd_same, (q.mono (less_in m)).mono (less_upd (List.mem_cons_self ..))⟩
  refine ⟨⟨⟨I.ls, I.lr, fun j e g1 g2 => ?_, fun j e g1 g2 => ?_, I.p, fun j e g1 g2 => ?_, I.ap, fun a ha => ?_, I.pm, fun j a dd e g1 g2 => ⟨(I.x j a dd e g1 g2).1, (I.x j a dd e g1 g2).2.mono (less_upd m)⟩⟩, fun a o g1 g2 => ?_, S.sub, S.ow, S.m0, fun a o e => less_upd m a o (S.bs a o e)⟩, x, rfl, m, own', hz, no⟩
  · obtain ⟨w, w1, w2⟩ := I.f j e g1 g2
    exact ⟨w, w1, w2.mono (less_upd m)⟩
  · obtain ⟨a, w1, w2, w3, oj, w5, w6⟩ := I.o j e g1 g2
    have na : a ≠ x := fun z => no j e g1 g2 (by rw [← z]; exact w1)
    exact ⟨a, w1, w2, w3, oj, by rw [upd_ne na]; exact w5, w6.mono (less_upd (List.mem_cons_of_mem _ m))⟩
  · obtain ⟨a, ns, w1, w2, w3⟩ := I.s j e g1 g2
    exact ⟨a, ns, w1, w2, sqL_mono (less_upd m) w3⟩
  · by_cases z : a = x
    · rw [z]
      exact .of upd_same q.nt
    · obtain ⟨o, e, n⟩ := I.al a ha
      exact .of (by rw [upd_ne z]; exact e) n
  · have z : a ≠ x := fun z => by
      rw [z, hz] at g2
      cases g2
    rw [upd_ne z]
    exact S.gr a o g1 g2
theorem din_fld (c : Str) (fs : List Str) {f y : Str} {sts : List Stmt} {us : TS} {g : Fi} (hC : ClsF X.K X.mg c fs) (he : DE X E .f Γ e te fe) (hn : DIn X E Γ sts us g) (hf : f ∈ fs := by decide) (hN : X.N[0]? = some y := by rfl) (hv : Vis X.env.scope y := by first | exact Or.inl rfl | exact Or.inr (Or.inl rfl) | exact Or.inr (Or.inr rfl))
    (hd : (y == ("__debug__" : Str)) = false := by decide) (hcd : (y == ("__classdict__" : Str)) = false := by decide) (hs : swapsWith e (some (.Attribute (.Name y p) f p2)) pos.line X.env = pure false := by rfl) :
    DIn X E Γ (.Assign [.Attribute (.Name y p) f p2] e pos :: sts) (tSeq (sFld X.K (tVar 0) te f) us) (iFld f fe fun d ρ π => match d with | .ins c' _ _ => if c' = c then g d ρ π else .stuck | _ => .stuck) :=
  ⟨pss_cons (ps_fld (pe_var hN hv hd hcd) he.pe hs) hn.pss, fun pot M0 H0 B M σ H ρ π x d D S s0 hh pp q => by
    unfold iFld at q
    refine he.sem pot M σ H ρ π S.env pp _ ?_
    cases ef : fe ρ π with
    | err c ns xs π' =>
      rw [ef] at q
      exact PErr.out q S
    | stuck =>
      rw [ef] at q
      exact q
    | ok z =>
      obtain ⟨z, π1⟩ := z
      rw [ef] at q
      simp only [Res.bind_ok] at q
      intro v H1 g1 p1 r1
      have S1 := S.grow g1 p1
      have h1 := hh.carry S.env.pm g1 (.inl rfl)
      cases d with
      | ins c' ns xs =>
        by_cases hlen : ns.length < 1000
        · by_cases hcc : c' = c
          · subst hcc
            simp only [hlen, if_true] at q
            obtain ⟨x', ex, m, ⟨n, oo, k1, k2⟩, hz, no⟩ := id h1
            cases ex
            cases k2 with
            | @ins C dx fs' c ds mC rr =>
              obtain ⟨C', mC', cl, nos⟩ := hC
              rw [mC] at mC'
              cases mC'
              have rr' := rr.mono (less_sub (N := M) fun a q => List.mem_cons_of_mem _ q)
              obtain ⟨i1, i2⟩ := putN_r (f := f) (v := v) (z := z) r1 rr'
              obtain ⟨S2, h2⟩ := S1.mutx h1 (o' := .ins C dx (putF f v fs')) (d' := .ins c' (putN f z (fs'.map (·.1)) xs).1 (putN f z (fs'.map (·.1)) xs).2) (by
                rw [← i1]
                exact .ins mC i2)
              have p2 : PotAt pot (upd H1 x (.ins C dx (putF f v fs'))) π1 := p1.mut n
              exact ⟨_, s0, x, C, dx, fs', rfl, k1, cl, nos f hf, by simpa using hlen, hn.sem pot M0 H0 B M σ _ ρ π1 x _ D S2 s0 h2 p2 q⟩
          · simp only [hlen, if_true, hcc, if_false] at q
        · simp only [hlen, if_false] at q
      | _ => exact q.elim⟩
end
end DL
set_option maxHeartbeats 2000000
namespace DL
open PySem PySem.Spec PyProof.Rows L2
def but (H : Hp) (x : Addr) : Hp := fun a => if a = x then none else H a
theorem but_ne {H : Hp} {x a : Addr} (h : a ≠ x) : but H x a = H a := by
  unfold but
  rw [if_neg h]
theorem but_self {H : Hp} {x : Addr} : but H x x = none := by
  unfold but
  rw [if_pos rfl]
theorem but_some {H : Hp} {x a : Addr} {o : HO} (h : but H x a = some o) : a ≠ x ∧ H a = some o := by
  by_cases e : a = x
  · rw [e, but_self] at h
    cases h
  · rw [but_ne e] at h
    exact ⟨e, h⟩
section
variable (mg : Str → Option Value) (K : PySem.W.Frag)
/-- what a class's __init__ promises -/
def SpI (c : Str) (ks : List Ak) (m : Fd) : Sp := fun vs H Q E => vs.length = ks.length + 1 ∧ ∃ x C dx ws pot M ds π, vs = .ref x :: ws ∧ mg c = some (.ref C) ∧ H x = some (.ins C dx []) ∧ x ∉ M ∧ pot ≠ some x ∧
  Args mg K pot M (but H x) ks ws ds ∧ (∀ a ∈ M, Al (but H x) a) ∧ (∀ a, pot = some a → a ∈ M) ∧ PotAt pot (but H x) π ∧
  (match m ds π with
    | .ok (d, π1) => ∀ H', Grow pot (but H x) H' → PotAt pot H' π1 → Own mg K pot M H' x d → Q .non H'
    | .err c ns xs π1 => PErr mg K pot M (but H x) c ns xs π1 E
    | .stuck => False)
end
/-- a class with what its making gives -/
structure DMk (P : Program) (w : World) (K : PySem.W.Frag) (mg : Str → Option Value) (base : Heap) (k : Nat) (c qual : Str) (st : Stmt) (ps : List Str) (ks : List Ak) (m : Fd) : Prop where
  ex : ∃ C fI fd, mg c = some (.ref C) ∧ Mk K C fI ∧ Fun K "__init__" qual st fI fd ∧ FnG P w K mg base k fI fd ps (SpI mg K c ks m)
def runI (n : Nat) (c : Str) (fi : Fi) : Fd := fun ds π => (fi (.ins c [] []) (startD n (.non :: ds)) π).bind fun x => .ok (x.1.1, x.2)
section
variable {P : Program} {w : World} {K : PySem.W.Frag} {mg : Str → Option Value} {base : Heap} {k : Nat}
theorem Args.of_rpl {pot : Option Addr} {M : List Addr} {H : Hp} : ∀ {ks : List Ak} {vs : List V} {ds : List D}, RpL mg K (less H M) vs ds → vs.length = ks.length → (∀ k ∈ ks, k = Ak.f) → Args mg K pot M H ks vs ds
  | [], _, _, .nil, _, _ => .nil
  | k :: ks, _, _, .cons h r, hl, hk => by
    have e : k = .f := hk k (List.mem_cons_self ..)
    subst e
    exact .cons h (Args.of_rpl r (by simpa using hl) fun k h => hk k (List.mem_cons_of_mem _ h))
theorem dmk_of {c qual : Str} {st : Stmt} {ps N : List Str} {ks : List Ak} {fi : Fi} (Γ : List Md) (hf : ∃ C fI fd, mg c = some (.ref C) ∧ Mk K C fI ∧ Fun K "__init__" qual st fI fd) (S : FnScope N ps (defScope st)) (hp : ps.length = ks.length + 1) (hl : Γ.length = N.length) (hk : ks.length + 1 ≤ N.length)
    (hm : modesOk (.b :: ks) Γ = true) (hks : ∀ k ∈ ks, k = Ak.f) (hno : ∀ m ∈ Γ, m ≠ Md.o)
    (hb : ∀ (f : Addr) (cdv : Value) (A : Around) (outer : List Env) (s : Shared) (H : Hp) (E : XK), XOk (cxOf (L2.CX P w) P w K mg base N qual (defScope st) f cdv A outer s H E) E k →
      ∃ ts, DIn (cxOf (L2.CX P w) P w K mg base N qual (defScope st) f cdv A outer s H E) E Γ (defBody st) ts fi) :
    DMk P w K mg base (k + 1) c qual st ps ks (runI N.length c fi) := by
  obtain ⟨C0, fI, fd, h0, hM, h2⟩ := hf
  refine ⟨C0, fI, fd, h0, hM, h2, ?_⟩
  obtain ⟨oc, od, kV, doc, pm, an, cdv, ct, osl, rfl, lk, hcd⟩ := h2.ex
  refine fn_ofG lk hcd S (fun vs H Q E h => by rw [h.1, hp]) fun A outer s H vs Q E room gd want => ?_
  obtain ⟨_, x, C, dx, ws, pot, M, ds, π, rfl, mC, hx, nx, npx, ar, al, pmm, pt, post⟩ := want
  have o : XOk (cxOf (L2.CX P w) P w K mg base N qual (defScope st) fI cdv A outer s H E) E k :=
    ⟨room, gd, rfl, passes_call (takes_of rfl rfl rfl rfl) fun _ _ _ _ z => z, passes_of rfl, S.nd⟩
  obtain ⟨ts, B⟩ := hb fI cdv A outer s H E o
  refine ⟨ts, B.pss, ?_⟩
  have own0 : Own mg K pot (x :: M) H x (.ins c [] []) := ⟨npx, _, hx, .ins (fs := []) mC .nil⟩
  have sm : Same (less (but H x) M) (less H (x :: M)) := fun a u e => by
    obtain ⟨e1, e2⟩ := less_some.mp e
    obtain ⟨e3, e4⟩ := but_some e2
    refine less_some.mpr ⟨fun m => ?_, e4⟩
    rcases List.mem_cons.mp m with z | m
    · exact e3 z
    · exact e1 m
  have ar2 : Args mg K pot (x :: M) H (.b :: ks) (.ref x :: ws) (.non :: ds) ∨ True := .inr trivial
  have rl := (ar.rpl hks).mono sm
  have I0 : EnvOk mg K Γ pot (x :: M) (L2.start N (.ref x :: ws)) H (startD N.length (.non :: ds)) := by
    have a1 : Args mg K pot (x :: M) H ks ws ds := .of_rpl rl ar.length hks
    have a2 : Args mg K pot (x :: M) H (.b :: ks) (.ref x :: ws) (.ins c [] [] :: ds) := .cons (.inr ⟨x, rfl, own0⟩) a1
    have I := env_start hm hl hk a2 (fun a ha => by
      rcases List.mem_cons.mp ha with z | ha
      · rw [z]
        exact .of hx fun _ e => by cases e
      · obtain ⟨o, e, n⟩ := al a ha
        exact .of (but_some e).2 n) (fun a e => List.mem_cons_of_mem _ (pmm a e))
    have g0 : Γ[0]? = some .u := by
      obtain ⟨m1, _⟩ := Bool.and_eq_true_iff.mp hm
      have m1 := of_decide_eq_true m1
      have e : (Γ.take (Ak.b :: ks).length)[0]? = Γ[0]? := List.getElem?_take_of_lt (by simp)
      rw [← e, m1]
      rfl
    have oth : ∀ (j : Nat) (m : Md), m ≠ .u → Γ[j]? = some m → j ≠ 0 := fun j m hm h z => by
      rw [z, g0] at h
      cases h
      exact hm rfl
    have at_ : ∀ j, j ≠ 0 → (startD N.length (.non :: ds))[j]? = (startD N.length (.ins c [] [] :: ds))[j]? := fun j hj => by
      unfold startD
      cases j with
      | zero => exact absurd rfl hj
      | succ j => simp
    refine ⟨I.ls, by rw [← I.lr]; simp [startD], fun j d h1 h2 => I.f j d h1 (by rw [← at_ j (oth j _ (by simp) h1)]; exact h2), fun j d h1 h2 => absurd rfl (hno _ (List.mem_of_getElem? h1)), I.p, fun j d h1 h2 => I.s j d h1 (by rw [← at_ j (oth j _ (by simp) h1)]; exact h2), fun i j a d e h1 => absurd rfl (hno _ (List.mem_of_getElem? h1)), I.al, I.pm, fun j a dd d h1 h2 => I.x j a dd d h1 (by rw [← at_ j (oth j _ (by simp) h1)]; exact h2)⟩
  have S0 : SOk mg K Γ pot M (but H x) (fun _ => none) (x :: M) (L2.start N (.ref x :: ws)) H (startD N.length (.non :: ds)) :=
    ⟨I0, fun a u _ e => (but_some e).2, fun a h => List.mem_cons_of_mem _ h, fun i d a h1 => absurd rfl (hno _ (List.mem_of_getElem? h1)), fun a h => (al a h).nn, fun a u e => by cases e⟩
  have hd : Held mg K .o Γ pot (but H x) (x :: M) (L2.start N (.ref x :: ws)) H (startD N.length (.non :: ds)) (.ref x) (.ins c [] []) :=
    ⟨x, rfl, List.mem_cons_self .., own0, but_self, fun i e h1 => absurd rfl (hno _ (List.mem_of_getElem? h1))⟩
  have pt2 : PotAt pot H π := fun a e => (but_some (pt a e)).2
  refine B.sem pot M (but H x) (fun _ => none) (x :: M) _ H _ π x _ _ S0 (by rw [start_at (by simp)]; rfl) hd pt2 ?_
  unfold runI at post
  cases ef : fi (.ins c [] []) (startD N.length (.non :: ds)) π with
  | err c ns xs π' =>
    rw [ef] at post
    exact post
  | stuck =>
    rw [ef] at post
    exact post
  | ok y =>
    obtain ⟨⟨d', ρ'⟩, π1⟩ := y
    rw [ef] at post
    intro M' σ' H' S' s0 h' p'
    obtain ⟨x', ex, _, ⟨n, oo, k1, k2⟩, _, _⟩ := h'
    cases ex
    refine post H' S'.gr p' ⟨n, oo, k1, k2.mono (less_sub fun a ha => ?_)⟩
    rcases List.mem_cons.mp ha with z | ha
    · rw [z]
      exact List.mem_cons_self ..
    · exact List.mem_cons_of_mem _ (S'.sub a ha)
theorem DMk.mono {j : Nat} {c qual : Str} {st : Stmt} {ps : List Str} {ks : List Ak} {m : Fd} (F : DMk P w K mg base j c qual st ps ks m) (h : j ≤ k) : DMk P w K mg base k c qual st ps ks m := by
  obtain ⟨C, f, fd, h0, h1, h2, h3⟩ := F.ex
  exact ⟨C, f, fd, h0, h1, h2, h3.mono h⟩
end
section
variable {X : Cx} {E : XK} {Γ : List Md} {pos p : Pos} {k j : Nat} {ks : List Ak} {tA : TA} {fA : Ea} {e : Expr} {es : List Expr}
theorem run_makeG {pins : List (Addr × Obj)} {σ : L2.St} {H : Hp} {s : Shared} {Q : VK} {us : List Value} {vs : List V} {C f : Addr} {fd : FuncData} {ps : List Str} {sp : Sp} (M : Mk X.K C f) (F : FnG X.prog X.w X.K X.mg X.base j f fd ps sp) (o : XOk X E k) (hj : j + 1 ≤ k)
    (hb : ∀ (s : Shared) (us : List Value), us.length = ps.length → BindsTo s fd ⟨us, []⟩ (ps.zip us)) (I : Inv X pins σ H s) (r : Vals vs us)
    (h : ∀ x dx, H x = none → H dx = none → dx ≠ x → sp (.ref x :: vs) (upd (upd H dx (.own x)) x (.ins C dx [])) (fun v H2 => v = .non ∧ Q (.ref x) H2) E) :
    wpAny (model X.prog X.w) X.A (call (.ref C) us) (EP X pins σ Q) X.xe s := by
  have want := h (s.heap.objs.size + 1) s.heap.objs.size (I.hok.fresh (Nat.le_succ _)) (I.hok.fresh (Nat.le_refl _)) (Nat.ne_of_lt (Nat.lt_succ_self _))
  have J := Inv.made (C := C) I
  have rel : Vals (V.ref (s.heap.objs.size + 1) :: vs) (Value.ref (s.heap.objs.size + 1) :: us) := .cons rfl r
  have len : (Value.ref (s.heap.objs.size + 1) :: us).length = ps.length := by
    rw [← F.len _ _ _ _ want]
    exact rel.length.symm
  have room := (o.room.mono hj).make C us []
  have run := F.run (X.A.under (.builtin "type.__call__" ⟨.ref C :: us, []⟩)) X.stack _ _ ⟨Value.ref (s.heap.objs.size + 1) :: us, []⟩ (Value.ref (s.heap.objs.size + 1) :: us) _ _ E room (by first | exact o.gd | (show (X.A.under _).guards = some []; simp [Around.under, o.gd])) (J.env0.make C us []) (hb _ _ len) rel want
  refine wpAny_call (make_map (f := f) I.kIn M.makes M.init (beq_iff_eq.mp M.fn) (codeAny_mono run fun r s' z => ?_))
  match r, z with
  | .error er, z => exact o.pass pins σ _ _ er s' J z
  | .ok .next, z => exact z.elim
  | .ok .brk, z => exact z.elim
  | .ok .cont, z => exact z.elim
  | .ok (.ret u), z =>
    obtain ⟨v, H', I3, rv, ev, q3⟩ := J.after z
    subst ev
    exact ⟨rv, V.ref (s.heap.objs.size + 1), H', I3, rfl, q3⟩
def tMkD (mg : Str → Option Value) (K : PySem.W.Frag) (c : Str) (ks : List Ak) (m : Fd) (E : XK) (t : TA) : TE := fun σ H Q => t σ H fun vs H1 => ∀ C, mg c = some (.ref C) → ∀ x dx, H1 x = none → H1 dx = none → dx ≠ x →
  SpI mg K c ks m (.ref x :: vs) (upd (upd H1 dx (.own x)) x (.ins C dx [])) (fun v H2 => v = .non ∧ Q (.ref x) H2) E
theorem sem_mk {c : Str} {m : Fd} (hA : SemA X.mg X.K E ks Γ tA fA) : SemE X.mg X.K E .o Γ (tMkD X.mg X.K c ks m E tA) (eGo m fA) := fun pot M σ H ρ π I p Q h => by
  refine PostA.seq (ks := ks) (te := tA σ H) h p (fun Q' hq => hA pot M σ H ρ π I p Q' hq) fun ds π1 vs H1 _ g1 p1 r1 h1 => ?_
  intro C mC x dx hx hdx hne
  have I1 := I.grow g1 p1
  have hb : but (upd (upd H1 dx (.own x)) x (.ins C dx [])) x = upd H1 dx (.own x) := funext fun a => by
    by_cases z : a = x
    · rw [z, but_self, upd_ne (Ne.symm hne)]
      exact hx.symm
    · rw [but_ne z, upd_ne z]
  have gr : Grow pot H1 (upd H1 dx (.own x)) := .new hdx
  refine ⟨by simp [r1.length], x, C, dx, vs, pot, M, ds, π1, rfl, mC, upd_same, fun m => (I1.al x m).nn hx, fun e => p1.has x e hx, ?_⟩
  rw [hb]
  refine ⟨r1.grow I.pm gr, fun a ha => ?_, I.pm, p1.new hdx, ?_⟩
  · by_cases z : a = dx
    · rw [z]
      exact .of upd_same fun _ e => by cases e
    · obtain ⟨o, e, n⟩ := I1.al a ha
      exact .of (by rw [upd_ne z]; exact e) n
  · cases em : m ds π1 with
    | ok y =>
      obtain ⟨d, π2⟩ := y
      rw [em] at h1
      exact fun H' g' p' own => ⟨rfl, h1 (.ref x) H' (gr.trans g') p' ⟨x, rfl, hx, own⟩⟩
    | err c ns xs π' =>
      rw [em] at h1
      exact PErr.back h1 gr
    | stuck =>
      rw [em] at h1
      exact h1
/-- C(e, ..) -/
theorem de_new {c qual : Str} {st : Stmt} {ps : List Str} {m : Fd} (F : DMk X.prog X.w X.K X.mg X.base j c qual st ps ks m) (o : XOk X E k)
    (hb : ∀ (kV doc pm : Value) (an : Option Addr) (cdv ct : Value) (us : List Value), us.length = ps.length → bindArgs (PySem.W.fnOf "__init__" qual (defArgs st) (defBody st) (defScope st) .none kV doc pm an cdv ct) ⟨us, []⟩ = pure (ps.zip us))
    (hA : DA X E ks Γ (e :: es) tA fA) (hj : j + 1 ≤ k := by decide) (hg : Gl X c := by rfl) (hdb : (c == ("__debug__" : Str)) = false := by decide) (he : starEach (e :: es) X.env = (false, eval e X.env) :: starEach es X.env := by rfl) (hpl : (backTo pos (starEach es X.env)).any (·.1) = false := by rfl) :
    DE X E .o Γ (.Call (.Name c p) (e :: es) [] pos) (tMkD X.mg X.K c ks m E tA) (eGo m fA) :=
  ⟨⟨fun pins s σ H Q I h => by
    obtain ⟨C, f, fd, h0, hM, h2, h3⟩ := F.ex
    refine wpAny_Call_Name_kw (ld_glob I hg h0 ?_ hdb)
    refine PySem.W.callWith_K (h₀ := X.base) I.ok.mod.kin hM.kp (thn (hA.pa.run pos pins s σ H _ I h) fun us s1 ⟨vs, H1, I1, rl, q⟩ => ⟨I1.kIn, ?_⟩) he hpl
    refine run_makeG hM h3 o hj (fun s us hl => ?_) I1 rl (q C h0)
    obtain ⟨oc, od, kV, doc, pm, an, cdv, ct, osl, rfl, lk, hcd⟩ := h2.ex
    exact .of_eq (hb kV doc pm an cdv ct us hl)⟩, sem_mk hA.sem⟩
end
end DL
set_option maxHeartbeats 2000000
namespace DL
open PySem PySem.Spec PyProof.Rows L2
section
variable {P : Program} {w : World} {K : PySem.W.Frag} {mg : Str → Option Value} {base : Heap} {k : Nat} {x qual : Str} {st : Stmt} {ps N : List Str} {ks : List Ak} {r : Rm}
/-- a def by its body, wherever it stands -/
theorem fnD_of {fs : Fs} {f : Addr} {fd : FuncData} (Γ Γ' : List Md) (h2 : Fun K x qual st f fd) (S : FnScope N ps (defScope st)) (hp : ks.length = ps.length) (hl : Γ.length = N.length) (hk : ks.length ≤ N.length) (hm : modesOk ks Γ = true)
    (hb : ∀ (f : Addr) (cdv : Value) (A : Around) (outer : List Env) (s : Shared) (H : Hp) (E : XK), XOk (cxOf (L2.CX P w) P w K mg base N qual (defScope st) f cdv A outer s H E) E k →
      ∃ ts, DSs (cxOf (L2.CX P w) P w K mg base N qual (defScope st) f cdv A outer s H E) E r Γ Γ Γ' (defBody st) ts fs) :
    FnG P w K mg base (k + 1) f fd ps (SpD mg K ks r (runD N.length r fs)) := by
  obtain ⟨oc, od, kV, doc, pm, an, cdv, ct, osl, rfl, lk, hcd⟩ := h2.ex
  refine fn_ofG lk hcd S (fun vs H Q E h => by rw [h.1, hp]) fun A outer s H vs Q E room gd want => ?_
  obtain ⟨_, pot, M, ds, π, ar, al, pm, pt, post⟩ := want
  have o : XOk (cxOf (L2.CX P w) P w K mg base N qual (defScope st) f cdv A outer s H E) E k :=
    ⟨room, gd, rfl, passes_call (takes_of rfl rfl rfl rfl) fun _ _ _ _ z => z, passes_of rfl, S.nd⟩
  obtain ⟨ts, B⟩ := hb f cdv A outer s H E o
  refine ⟨ts, B.pss, ?_⟩
  have I := env_start hm hl hk ar al pm
  refine B.sem pot M H (fun _ => none) M _ H _ π _ ⟨I, .refl, fun a h => h, fun i d a h1 h2 h3 => ?_, fun a h => (al a h).nn, fun a u e => by cases e⟩ pt ?_
  · exfalso
    obtain ⟨k', v, q1, _⟩ := ar.at (startD_at h2)
    obtain ⟨m1, _⟩ := Bool.and_eq_true_iff.mp hm
    have m1 := of_decide_eq_true m1
    have hi := (List.getElem?_eq_some_iff.mp q1).1
    have e : (Γ.take ks.length)[i]? = Γ[i]? := List.getElem?_take_of_lt hi
    rw [h1, m1, List.getElem?_map, q1] at e
    cases k' <;> cases e
  · unfold runD at post
    cases ef : fs (startD N.length ds) π with
    | err c ns xs π' =>
      rw [ef] at post
      exact post
    | stuck =>
      rw [ef] at post
      exact post
    | ok y =>
      obtain ⟨y, π1⟩ := y
      rw [ef] at post
      cases y with
      | rt d => exact fun v H' g p q => post v H' g p q
      | nx ρ =>
        simp only [Res.bind_ok] at post
        split at post
        · rename_i hrf
          subst hrf
          exact fun M' σ' H' S' p' => post .non H' S'.gr p' .non
        · exact post.elim
      | bk ρ => exact post.elim
      | ct ρ => exact post.elim
/-- a method of a class with what it gives -/
structure DMe (P : Program) (w : World) (K : PySem.W.Frag) (mg : Str → Option Value) (base : Heap) (k : Nat) (c x qual : Str) (st : Stmt) (ps : List Str) (ks : List Ak) (r : Rm) (m : Fd) : Prop where
  ex : ∃ C f fd, mg c = some (.ref C) ∧ Cls K C ∧ Meth K C x f ∧ Fun K x qual st f fd ∧ FnG P w K mg base k f fd ps (SpD mg K (.f :: ks) r m)
theorem DMe.mono {j : Nat} {c : Str} {m : Fd} (F : DMe P w K mg base j c x qual st ps ks r m) (h : j ≤ k) : DMe P w K mg base k c x qual st ps ks r m := by
  obtain ⟨C, f, fd, h0, h1, h2, h3, h4⟩ := F.ex
  exact ⟨C, f, fd, h0, h1, h2, h3, h4.mono h⟩
theorem dme_of {c : Str} {fs : Fs} (Γ Γ' : List Md) (hf : ∃ C f fd, mg c = some (.ref C) ∧ Cls K C ∧ Meth K C x f ∧ Fun K x qual st f fd) (S : FnScope N ps (defScope st)) (hp : (Ak.f :: ks).length = ps.length) (hl : Γ.length = N.length) (hk : (Ak.f :: ks).length ≤ N.length) (hm : modesOk (.f :: ks) Γ = true)
    (hb : ∀ (f : Addr) (cdv : Value) (A : Around) (outer : List Env) (s : Shared) (H : Hp) (E : XK), XOk (cxOf (L2.CX P w) P w K mg base N qual (defScope st) f cdv A outer s H E) E k →
      ∃ ts, DSs (cxOf (L2.CX P w) P w K mg base N qual (defScope st) f cdv A outer s H E) E r Γ Γ Γ' (defBody st) ts fs) :
    DMe P w K mg base (k + 1) c x qual st ps ks r (runD N.length r fs) := by
  obtain ⟨C, f, fd, h0, h1, h2, h3⟩ := hf
  exact ⟨C, f, fd, h0, h1, h2, h3, fnD_of Γ Γ' h3 S hp hl hk hm hb⟩
end
end DL
set_option maxHeartbeats 2000000
namespace DL
open PySem PySem.Spec PyProof.Rows L2
section
variable {X : Cx} {E : XK} {k : Nat}
def rInT (K : PySem.W.Frag) : R2 := fun x y H Q => ∃ d ds, Dp K H x d ∧ Dp K H y (.tuple ds) ∧ SeqAt.shaped d = true ∧ SeqAt.shaped (.tuple ds) = true ∧ Q (.bl (ds.any fun z => PyData.eqv z d)) H
theorem op_inT (hu : X.A.units + 65 < cLine) : OpR X (compareOp .In) (rInT X.K) := fun pins s σ H x y v u Q I rx ry h => by
  obtain ⟨d, ds, hd, he, sd, se, q⟩ := h
  obtain ⟨as, r1⟩ := Dp.reads I d x v hd rx
  obtain ⟨bs, r2⟩ := Dp.reads I (.tuple ds) y u he ry
  exact SeqAt.in_tuple_reads r2 r1 (SeqAt.canLay_of_shaped se) (SeqAt.canLay_of_shaped sd) (room_in_shaped sd hu) ⟨.bl _, H, I, rfl, q⟩
def inDT (d : D) (e : D) : Option Bool := match toPy d, toPy e with
  | some p, some (.list qs) => if SeqAt.shaped p && SeqAt.shaped (.list qs) then some (qs.any fun z => PyData.eqv z p) else none
  | some p, some (.tuple qs) => if SeqAt.shaped p && SeqAt.shaped (.tuple qs) then some (qs.any fun z => PyData.eqv z p) else none
  | _, _ => none
def opInA (d e : D) : Option D := (inDT d e).map .bl
theorem o_inA (x : XOk X E k) : OpOk X (compareOp .In) (fun x y H Q => rInD X.K x y H Q ∨ rInT X.K x y H Q) .f opInA := ⟨(op_inD x.u65).or (op_inT x.u65), fun pot M H x y d e z al pm ph rx ry hz Q q => by
  unfold opInA inDT at hz
  split at hz
  · rename_i p qs e1 e2
    split at hz
    · rename_i hs
      cases hz
      obtain ⟨s1, s2⟩ := Bool.and_eq_true_iff.mp hs
      exact .inl ⟨p, qs, (rb_rp rx).dp e1, (rb_rp ry).dp e2, s1, s2, q _ H (Same.refl H) (.bl _)⟩
    · cases hz
  · rename_i p qs e1 e2
    split at hz
    · rename_i hs
      cases hz
      obtain ⟨s1, s2⟩ := Bool.and_eq_true_iff.mp hs
      exact .inr ⟨p, qs, (rb_rp rx).dp e1, (rb_rp ry).dp e2, s1, s2, q _ H (Same.refl H) (.bl _)⟩
    · cases hz
  · cases hz⟩
theorem truth_numbers {prog : Program} {w : World} {A : Around} {ns : List Int} {its : List Value} (r : Vals (ns.map V.int) its) : TruthOf prog w A (fun i v => its.toArray[i]? = some v) (fun i => (ns.getD i 0) != 0) := fun i v s Q E hv hq => by
  have hv' : its[i]? = some v := by simpa using hv
  have hi : i < its.length := (List.getElem?_eq_some_iff.mp hv').1
  have hl := r.length
  rw [List.length_map] at hl
  have hn : ns[i]? = some (ns[i]'(by omega)) := List.getElem?_eq_getElem (by omega)
  obtain ⟨u, hu, t, e⟩ := r.get (i := i) (x := .int (ns[i]'(by omega))) (by rw [List.getElem?_map, hn]; rfl)
  rw [hv'] at hu
  cases hu
  subst e
  have hg : ns.getD i 0 = ns[i]'(by omega) := by rw [List.getD_eq_getElem?_getD, hn]; rfl
  have hq' : Q (ns.getD i 0 != 0) s := hq
  rw [hg] at hq'
  exact PySem.P.truthy_int hq'
theorem any_nat : ∀ ns : List Int, (List.range ns.length).any (fun i => (ns.getD i 0) != 0) = ns.any (fun n => n != 0)
  | [] => rfl
  | b :: bs => by
    rw [List.length_cons, List.range_succ_eq_map, List.any_cons, List.any_map, List.any_cons, ← any_nat bs]
    rfl
/-- any(xs), xs a list of ints or a tuple of them -/
def rAnyN (K : PySem.W.Frag) : List V → Hp → VK → Prop := fun vs H Q => ∃ (S : Src) (ns : List Int), vs = [V.ref S.a] ∧ S.sq K H (ns.map V.int) ∧ Q (.bl (ns.any fun n => n != 0)) H
theorem cr_anyN (x : XOk X E k) : CallR X (.builtin "any") (rAnyN X.K) := fun pins s σ H vs us Q I r h => by
  obtain ⟨⟨b, a⟩, ns, rfl, hs, q⟩ := h
  rw [Vals.ref1 r]
  cases b with
  | true =>
    obtain ⟨its, rv, hl, _⟩ := I.list (show SqL X.K H a _ from hs)
    have hlen := rv.length
    refine call_any_walk (iter_any hl.isList fun s₂ e2 st hne => ?_)
    subst e2
    refine ⟨_, _, _, _, _, _, _, rfl, Walks.list (A := X.A.in1) (I.ok.hd x.calm) _ a hne its.toArray, st, truth_numbers rv, fun h' tk hk => ?_⟩
    refine ⟨.bl _, H, I.kept fun b o eo => hk b o (fun hmem => ?_) (Heap.get?_push_of_some _ eo), ?_, q⟩
    · rcases List.mem_cons.mp hmem with e1 | hmem
      · exact absurd (e1 ▸ Heap.lt_size eo) (Nat.lt_irrefl _)
      · cases hmem
    · show Value.bool _ = Value.bool _
      rw [← any_nat, List.size_toArray, ← hlen, List.length_map]
  | false =>
    obtain ⟨its, rv, hl, _⟩ := I.tuple (show SqT X.K H a _ from hs)
    have hlen := rv.length
    have hlt : a < s.heap.objs.size := by obtain ⟨_, e, _⟩ := hl; exact Heap.lt_size e
    have hl' : s.heap.IsTuple a its.toArray := hl
    refine call_any_walk (wpAny_pyIter_tuple hl' ?_)
    refine ⟨_, _, _, _, _, _, _, rfl, Walks.tuple (A := X.A.in1) (I.ok.hd x.calm) _ a (Nat.ne_of_lt hlt) its.toArray, ⟨⟨_, Heap.get?_push_size _ rfl, rfl, rfl⟩, hl'.push _⟩, truth_numbers rv, fun h' tk hk => ?_⟩
    refine ⟨.bl _, H, I.kept fun b o eo => hk b o (fun hmem => ?_) (Heap.get?_push_of_some _ eo), ?_, q⟩
    · rcases List.mem_cons.mp hmem with e1 | hmem
      · exact absurd (e1 ▸ Heap.lt_size eo) (Nat.lt_irrefl _)
      · cases hmem
    · show Value.bool _ = Value.bool _
      rw [← any_nat, List.size_toArray, ← hlen, List.length_map]
def asIntsS : D → Option (List Int)
  | .lst xs => asInts xs
  | .tup xs => asInts xs
  | _ => none
/-- any: of bools in a list, or of ints -/
def fAnyA : List D → Option D
  | [d] => match asIntsS d with
    | some ns => some (.bl (ns.any fun n => n != 0))
    | none => fAny [d]
  | _ => none
theorem c_anyA (x : XOk X E k) : CallOk X (.builtin "any") (fun xs H Q => rAny X.K xs H Q ∨ rAnyN X.K xs H Q) [.b] .f fAnyA := ⟨(cr_any x.calm).or (cr_anyN x), fun pot M H vs ds z al pm ph a hz Q q => by
  obtain ⟨v, d, rfl, rfl, h⟩ := arg1 a
  unfold fAnyA at hz
  simp only at hz
  split at hz
  · rename_i ns e
    cases hz
    cases d with
    | lst xs =>
      rw [asInts_eq (show asInts xs = some ns from e)] at h
      obtain ⟨p, ys, rfl, h1, r1⟩ := rb_lst h
      rw [r1.iz] at h1
      exact .inr ⟨⟨true, p⟩, ns, rfl, .inl (.inl h1), q _ H (Same.refl H) (.bl _)⟩
    | tup xs =>
      rw [asInts_eq (show asInts xs = some ns from e)] at h
      obtain ⟨p, ys, rfl, h1, r1⟩ := rb_tup h
      rw [r1.iz] at h1
      exact .inr ⟨⟨false, p⟩, ns, rfl, sqT_mono less_le h1, q _ H (Same.refl H) (.bl _)⟩
    | _ => cases e
  · exact .inl ((c_any x).2 pot M H [v] [d] z al pm ph (.cons h .nil) hz Q q)⟩
end
end DL
set_option maxHeartbeats 2000000
namespace DL
open PySem PySem.Spec PyProof.Rows L2 C8
/-- what the text says of a class that isinstance asks for: no builtin is below it, and of the classes cs only it -/
structure ClsI (K : PySem.W.Frag) (mg : Str → Option Value) (c : Str) (cs : List Str) : Prop where
  ex : ∃ C, mg c = some (.ref C) ∧ (∀ n ∈ tyNames, PySem.W.kitOne K (.type n) (.ref C) = some false) ∧
    ∀ c' ∈ cs, ∃ C', mg c' = some (.ref C') ∧ InsC K C' ∧ PySem.W.kitOne K (.ref C') (.ref C) = some (c' == c)
def fIsC (c : Str) (cs : List Str) : D → Option D
  | .ins c' _ _ => if c' ∈ cs then some (.bl (c' == c)) else none
  | _ => some (.bl false)
theorem fIsC_ty {c : Str} {cs : List Str} {d : D} {n : String} (h : tyName d = some n) : fIsC c cs d = some (.bl false) := by
  cases d <;> first | rfl | cases h
def tIsC (mg : Str → Option Value) (K : PySem.W.Frag) (c : Str) (ta : TE) : TE := fun σ H Q => ∃ C, mg c = some (.ref C) ∧ tCB (rIsiY K) (tCons ta (tCons (tC (.ref C)) tNil)) σ H Q
section
variable {X : Cx} {E : XK} {Γ : List Md} {ra : Rm} {a : Expr} {ta : TE} {fa : Ed} {pos p px : Pos}
theorem de_isC {c : Str} (cs : List Str) (hC : ClsI X.K X.mg c cs) (hm : X.mg "isinstance" = none) (ha : DE X E ra Γ a ta fa) (hg : Gl X "isinstance" := by rfl) (hgT : Gl X c := by rfl)
    (hdb : (c == ("__debug__" : Str)) = false := by decide) (hs : starEach [a, .Name c px] X.env = (false, eval a X.env) :: starEach [.Name c px] X.env := by rfl) (hs2 : starEach [.Name c px] X.env = (false, eval (.Name c px) X.env) :: starEach [] X.env := by rfl)
    (hpl : (backTo pos (starEach [.Name c px] X.env)).any (·.1) = false := by rfl) :
    DE X E .f Γ (.Call (.Name "isinstance" p) [a, .Name c px] [] pos) (tIsC X.mg X.K c ta) (eUn (fIsC c cs) fa) :=
  ⟨⟨fun pins s σ H Q I h => by
    obtain ⟨C, hc, h⟩ := h
    exact (pe_callB call_isiY hg hm (by decide +kernel) (pa_cons ha.pe (pa_cons (pe_gc (v := .ref C) hgT ⟨_, hc, (rfl : RelV (.ref C) (Value.ref C))⟩ hdb) pa_nil hs2) hs) (by decide) (by decide) hs hpl).run pins s σ H Q I h⟩,
  fun pot M σ H ρ π I p Q h => by
    obtain ⟨C, hc, hn, ho⟩ := hC.ex
    refine (show _ from ⟨C, hc, ?_⟩ : tIsC X.mg X.K c ta σ H Q)
    refine Post.seq (r' := ra) (te := ta σ H) h p (fun Q' hq => ha.sem pot M σ H ρ π I p Q' hq) fun d π1 v H1 _ g1 p1 r1 h1 => ?_
    cases et : tyName d with
    | some n =>
      rw [fIsC_ty et, ofO_some, Res.bind_ok] at h1
      exact ⟨v, .ref C, .type n, .ref C, false, rfl, .own C, rb_ty r1.toB et, hn n (tyName_mem et), h1 _ H1 .refl p1 (.bl _)⟩
    | none =>
      cases d with
      | ins c' ns xs =>
        simp only [fIsC] at h1
        split at h1
        · rename_i hin
          rw [ofO_some, Res.bind_ok] at h1
          obtain ⟨y, C1, dx, gs, rfl, m, hy, rfl, rr⟩ := rb_ins r1.toB
          obtain ⟨C', m', ic, k1⟩ := ho c' hin
          rw [m] at m'
          cases m'
          exact ⟨.ref y, .ref C, .ref C1, .ref C, _, rfl, .own C, .inl (.base (.ins hy ic.cl ic.ha ic.hn ic.htk ic.hm)), k1, h1 _ H1 .refl p1 (.bl _)⟩
        · rw [ofO_none, Res.bind_stuck] at h1
          exact h1.elim
      | _ => cases et⟩
end
end DL
set_option maxHeartbeats 2000000
namespace DL
open PySem PySem.Spec PyProof.Rows L2 C8
def iCk (c : Str) (g : Fi) : Fi := fun d ρ π => match d with
  | .ins c' _ _ => if c' = c then g d ρ π else .stuck
  | _ => .stuck
section
variable {X : Cx} {E : XK} {Γ : List Md} {e : Expr} {te : TE} {fe : Ed} {pos p p2 : Pos}
theorem din_fldC (c : Str) (fs : List Str) {f y : Str} {sts : List Stmt} {us : TS} {g : Fi} (hC : ClsF X.K X.mg c fs) (he : DE X E .f Γ e te fe) (hn : DIn X E Γ sts us g) (hf : f ∈ fs := by decide) (hN : X.N[0]? = some y := by rfl) (hv : Vis X.env.scope y := by first | exact Or.inl rfl | exact Or.inr (Or.inl rfl) | exact Or.inr (Or.inr rfl))
    (hd : (y == ("__debug__" : Str)) = false := by decide) (hcd : (y == ("__classdict__" : Str)) = false := by decide) (hs : swapsWith e (some (.Attribute (.Name y p) f p2)) pos.line X.env = pure false := by rfl) :
    DIn X E Γ (.Assign [.Attribute (.Name y p) f p2] e pos :: sts) (tSeq (sFld X.K (tVar 0) te f) us) (iFld f fe (iCk c g)) := din_fld c fs hC he hn hf hN hv hd hcd hs
end
theorem fa_cons {α : Type} {p : α → Prop} {a : α} {l : List α} (h : p a) (t : ∀ x ∈ l, p x) : ∀ x ∈ a :: l, p x := List.forall_mem_cons.mpr ⟨h, t⟩
theorem fa_nil {α : Type} {p : α → Prop} : ∀ x ∈ ([] : List α), p x := fun _ h => nomatch h
end DL
set_option maxHeartbeats 2000000
namespace DL
open PySem PySem.Spec PyProof.Rows L2 C8
open Sem (wp)
end DL
set_option maxHeartbeats 2000000
namespace DL
open PySem PySem.Spec PyProof.Rows L2
mutual
/-- no list in it -/
def noL : D → Bool
  | .lst _ => false
  | .tup ds => noLs ds
  | .dic _ ds => noLs ds
  | .ins _ _ ds => noLs ds
  | _ => true
def noLs : List D → Bool
  | [] => true
  | d :: ds => noL d && noLs ds
end
section
variable {mg : Str → Option Value} {K : PySem.W.Frag} {pot : Option Addr} {M M' : List Addr} {H : Hp}
def Lent (M M' : List Addr) (H : Hp) : Prop := ∀ a, a ∉ M' → a ∈ M → ∃ xs, H a = some (.lst xs)
theorem Lent.at (l : Lent M M' H) {a : Addr} {o : HO} (h : less H M' a = some o) (ho : ∀ xs, o ≠ .lst xs) : less H M a = some o := by
  obtain ⟨h1, h2⟩ := less_some.mp h
  refine less_some.mpr ⟨fun h3 => ?_, h2⟩
  obtain ⟨xs, e⟩ := l a h1 h3
  rw [h2] at e
  exact ho xs (Option.some.inj e)
theorem Lent.rd (l : Lent M M' H) {a : Addr} {o : HO} (h : Rd (less H M') a o) (ho : ∀ xs, o ≠ .lst xs) : Rd (less H M) a o := by
  rcases h with h | ⟨ob, h⟩
  · exact .inl (l.at h ho)
  · exact .inr ⟨ob, l.at h fun xs e => by cases e⟩
mutual
theorem Lent.rp (l : Lent M M' H) : ∀ {v : V} {d : D}, Rp mg K (less H M') v d → noL d = true → Rp mg K (less H M) v d
  | _, _, .non, _ => .non
  | _, _, .bl b, _ => .bl b
  | _, _, .int i, _ => .int i
  | _, _, .str x, _ => .str x
  | _, _, .lst h1 h2, e => by cases e
  | _, _, .tup h1 h2, e => by
    rw [noL] at e
    exact .tup (l.at h1 fun xs q => by cases q) (Lent.rpl l h2 e)
  | _, _, .dicK h1 h2, e => by
    rw [noL] at e
    exact .dicK (l.rd h1 fun xs q => by cases q) (Lent.rpl l h2 e)
  | _, _, .dicT h1 h2, e => by
    rw [noL] at e
    exact .dicT (l.rd h1 fun xs q => by cases q) (Lent.rpl l h2 e)
  | _, _, .ins m h1 h2, e => by
    rw [noL] at e
    exact .ins m (l.at h1 fun xs q => by cases q) (Lent.rpl l h2 e)
theorem Lent.rpl (l : Lent M M' H) : ∀ {vs : List V} {ds : List D}, RpL mg K (less H M') vs ds → noLs ds = true → RpL mg K (less H M) vs ds
  | _, _, .nil, _ => .nil
  | _, _, .cons h t, e => by
    rw [noLs, Bool.and_eq_true] at e
    exact .cons (Lent.rp l h e.1) (Lent.rpl l t e.2)
end
theorem Lent.cons (l : Lent M M' H) (p : Addr) : Lent (p :: M) (p :: M') H := fun a h1 h2 => by
  rw [List.mem_cons, not_or] at h1
  rcases List.mem_cons.mp h2 with h2 | h2
  · exact absurd h2 h1.1
  · exact l a h1.2 h2
/-- what an own thing holds has no list -/
def noI : D → Bool
  | .lst ds => noLs ds
  | .dic _ ds => noLs ds
  | .ins _ _ ds => noLs ds
  | _ => false
theorem Lent.hor (l : Lent M M' H) {o : HO} {d : D} (h : HoR mg K (less H M') o d) (e : noI d = true) : HoR mg K (less H M) o d := by
  cases h with
  | lst h => exact .lst (l.rpl h e)
  | dicK h => exact .dicK (l.rpl h e)
  | dicT h => exact .dicT (l.rpl h e)
  | ins m h => exact .ins m (l.rpl h e)
end
def noR (r : Rm) (d : D) : Bool := match r with
  | .o => noI d
  | .t => false
  | _ => noL d
def chk (r : Rm) : Res (D × Pot) → Res (D × Pot)
  | .ok x => if noR r x.1 = true then .ok x else .stuck
  | .err c ns xs π => if noLs xs = true then .err c ns xs π else .stuck
  | .stuck => .stuck
def lentOk : List Ak → List D → Bool
  | .b :: ks, .lst _ :: ds => lentOk ks ds
  | .b :: _, _ => false
  | _ :: ks, _ :: ds => lentOk ks ds
  | _, _ => true
/-- the callee's kinds: what is lent is data there -/
def lendK : List Ak → List Ak
  | .b :: ks => .f :: lendK ks
  | k :: ks => k :: lendK ks
  | [] => []
def eGoL (r : Rm) (ks : List Ak) (m : Fd) (a : Ea) : Ed := fun ρ π => (a ρ π).bind fun x => if lentOk ks x.1 = true then chk r (m x.1 x.2) else .stuck
section
variable {mg : Str → Option Value} {K : PySem.W.Frag} {pot : Option Addr} {M : List Addr} {H : Hp}
/-- M without what is lent -/
theorem args_lend (pm : ∀ a, pot = some a → a ∈ M) : ∀ {ks : List Ak} {vs : List V} {ds : List D}, Args mg K pot M H ks vs ds → lentOk ks ds = true →
    ∀ M1 : List Addr, (∀ a ∈ M1, a ∈ M) → (∀ a, pot = some a → a ∈ M1) → Lent M M1 H → ∃ M', (∀ a ∈ M', a ∈ M1) ∧ (∀ a, pot = some a → a ∈ M') ∧ Lent M M' H ∧ Args mg K pot M' H (lendK ks) vs ds
  | _, _, _, .nil, _, M1, h1, h2, h3 => ⟨M1, fun a h => h, h2, h3, .nil⟩
  | .b :: ks, v :: vs, d :: ds, .cons r t, e, M1, h1, h2, h3 => by
    cases d with
    | lst xs =>
      simp only [lentOk] at e
      rcases (show Rb mg K pot M H v (.lst xs) from r) with r | ⟨p, rfl, np, o, ho, hr⟩
      · obtain ⟨M', a1, a2, a3, a4⟩ := args_lend pm t e M1 h1 h2 h3
        exact ⟨M', a1, a2, a3, .cons (show Rp mg K (less H M') v (.lst xs) from Rp.mono (less_sub fun a h => h1 a (a1 a h)) r) a4⟩
      · cases hr with
        | lst hr =>
          obtain ⟨M', a1, a2, a3, a4⟩ := args_lend pm t e (M1.filter (fun a => a ≠ p)) (fun a h => h1 a (List.mem_filter.mp h).1)
            (fun a q => List.mem_filter.mpr ⟨h2 a q, by simp only [ne_eq, decide_not, Bool.not_eq_eq_eq_not, Bool.not_true, decide_eq_false_iff_not]; exact fun z => np (by rw [q, z])⟩)
            (fun a n1 n2 => by
              by_cases q : a = p
              · exact ⟨_, by rw [q]; exact ho⟩
              · exact h3 a (fun z => n1 (List.mem_filter.mpr ⟨z, by simp [q]⟩)) n2)
          refine ⟨M', fun a h => (List.mem_filter.mp (a1 a h)).1, a2, a3, .cons (show Rp mg K (less H M') (.ref p) (.lst xs) from .lst (less_some.mpr ⟨fun z => ?_, ho⟩) (hr.mono (less_sub fun a h => List.mem_cons_of_mem _ (h1 a (List.mem_filter.mp (a1 a h)).1)))) a4⟩
          have := (List.mem_filter.mp (a1 p z)).2
          simp at this
    | _ => cases e
  | .f :: ks, v :: vs, d :: ds, .cons r t, e, M1, h1, h2, h3 => by
    have e' : lentOk ks ds = true := by cases d <;> exact e
    obtain ⟨M', a1, a2, a3, a4⟩ := args_lend pm t e' M1 h1 h2 h3
    exact ⟨M', a1, a2, a3, .cons (show Rp mg K (less H M') v d from Rp.mono (less_sub fun a h => h1 a (a1 a h)) (show Rp mg K (less H M) v d from r)) a4⟩
  | .p :: ks, v :: vs, d :: ds, .cons r t, e, M1, h1, h2, h3 => by
    have e' : lentOk ks ds = true := by cases d <;> exact e
    obtain ⟨M', a1, a2, a3, a4⟩ := args_lend pm t e' M1 h1 h2 h3
    exact ⟨M', a1, a2, a3, .cons (show ArgR mg K pot M' H .p v d from r) a4⟩
  | .s :: ks, v :: vs, d :: ds, .cons r t, e, M1, h1, h2, h3 => by
    have e' : lentOk ks ds = true := by cases d <;> exact e
    obtain ⟨M', a1, a2, a3, a4⟩ := args_lend pm t e' M1 h1 h2 h3
    obtain ⟨p, ns, z1, z2, z3⟩ := (show ArgR mg K pot M H .s v d from r)
    exact ⟨M', a1, a2, a3, .cons (show ArgR mg K pot M' H .s v d from ⟨p, ns, z1, z2, (less_sub fun a h => h1 a (a1 a h)).seq z3⟩) a4⟩
end
section
variable {mg : Str → Option Value} {K : PySem.W.Frag} {pot : Option Addr} {M M' : List Addr} {H : Hp} {Q : VK} {E : XK} {r : Rm}
theorem Lent.grow {H' : Hp} (l : Lent M M' H) (pm : ∀ a, pot = some a → a ∈ M') (g : Grow pot H H') : Lent M M' H' := fun a h1 h2 => by
  obtain ⟨xs, e⟩ := l a h1 h2
  exact ⟨xs, g a _ (fun q => h1 (pm a q)) e⟩
theorem post_lend {x : Res (D × Pot)} (l : Lent M M' H) (pm : ∀ a, pot = some a → a ∈ M') (h : Post mg K r pot M H (chk r x) Q E) : Post mg K r pot M' H x Q E := by
  cases x with
  | stuck => exact h
  | ok y =>
    obtain ⟨d, π⟩ := y
    simp only [chk] at h
    split at h
    · rename_i hn
      intro v H' g p rr
      have l' := l.grow pm g
      refine h v H' g p ?_
      cases r with
      | t => cases hn
      | f => exact l'.rp rr hn
      | b =>
        rcases (show Rb mg K pot M' H' v d from rr) with q | ⟨b, rfl, np, o, ho, hr⟩
        · exact .inl (l'.rp q hn)
        · cases hr with
          | lst hr => cases hn
          | dicK hr =>
            simp only [noR, noL] at hn
            exact .inr ⟨b, rfl, np, _, ho, .dicK ((l'.cons b).rpl hr hn)⟩
          | dicT hr =>
            simp only [noR, noL] at hn
            exact .inr ⟨b, rfl, np, _, ho, .dicT ((l'.cons b).rpl hr hn)⟩
          | ins m hr =>
            simp only [noR, noL] at hn
            exact .inr ⟨b, rfl, np, _, ho, .ins m ((l'.cons b).rpl hr hn)⟩
      | o =>
        obtain ⟨b, e1, e2, np, o, ho, hr⟩ := rr
        exact ⟨b, e1, e2, np, o, ho, (l'.cons b).hor hr hn⟩
    · exact h.elim
  | err c ns xs π =>
    simp only [chk] at h
    split at h
    · rename_i hn
      intro cv dd H' g p er
      have l' := l.grow pm g
      refine h cv dd H' g p ?_
      obtain ⟨C, m, e, q⟩ := er
      refine ⟨C, m, e, ?_⟩
      rcases q with q | ⟨a, fs, q1, q2, q3, q4, q5⟩
      · exact .inl q
      · refine .inr ⟨a, fs, q1, q2, fun z => ?_, q4, l'.rpl q5 hn⟩
        obtain ⟨xs', e'⟩ := l' a q3 z
        rw [q2] at e'
        cases e'
    · exact h.elim
end
section
variable {X : Cx} {E : XK} {Γ : List Md} {r : Rm} {p pos : Pos} {k j : Nat} {ks kl : List Ak} {tA : TA} {fA : Ea} {e : Expr} {es : List Expr} {x : Str} {st : Stmt} {ps kn : List Str} {m : Fd} {tK : TA} {fK : Ea} {kws : List Keyword}
theorem sem_goL (hk : lendK ks = kl) (hA : SemA X.mg X.K E ks Γ tA fA) : SemE X.mg X.K E r Γ (tGo X.mg X.K kl r m E tA) (eGoL r ks m fA) := fun pot M σ H ρ π I p Q h => by
  refine PostA.seq (ks := ks) (te := tA σ H) h p (fun Q' hq => hA pot M σ H ρ π I p Q' hq) fun ds π1 vs H1 _ g1 p1 r1 h1 => ?_
  simp only at h1
  split at h1
  · rename_i hl
    obtain ⟨M', a1, a2, a3, a4⟩ := args_lend I.pm r1 hl M (fun a h => h) I.pm (fun a n y => absurd y n)
    rw [hk] at a4
    exact ⟨a4.length, pot, M', ds, π1, a4, fun a h => (I.grow g1 p1).al a (a1 a h), a2, p1, post_lend a3 a2 h1⟩
  · exact h1.elim
theorem de_callL (F : DFn X.prog X.w X.K X.mg X.base j x st ps kl r m) (o : XOk X E k)
    (hb : ∀ (kV doc pm : Value) (an : Option Addr) (cdv ct : Value) (us : List Value), us.length = ps.length → bindArgs (PySem.W.fnOf x x (defArgs st) (defBody st) (defScope st) .none kV doc pm an cdv ct) ⟨us, []⟩ = pure (ps.zip us))
    (hA : DA X E ks Γ (e :: es) tA fA) (hk : lendK ks = kl := by rfl) (hj : j ≤ k := by decide) (hg : Gl X x := by rfl) (hdb : (x == ("__debug__" : Str)) = false := by decide) (he : starEach (e :: es) X.env = (false, eval e X.env) :: starEach es X.env := by rfl) (hpl : (backTo pos (starEach es X.env)).any (·.1) = false := by rfl) :
    DE X E r Γ (.Call (.Name x p) (e :: es) [] pos) (tGo X.mg X.K kl r m E tA) (eGoL r ks m fA) :=
  ⟨⟨fun pins s σ H Q I h => by
    obtain ⟨f, fd, h1, h2, h3⟩ := F.ex
    refine wpAny_Call_Name_kw (ld_glob I hg h1 ?_ hdb)
    refine PySem.W.callWith_K (h₀ := X.base) I.ok.mod.kin h2.kp (thn (hA.pa.run pos pins s σ H _ I h) fun us s1 ⟨vs, H1, I1, rl, q⟩ => ⟨I1.kIn, ?_⟩) he hpl
    have hl : us.length = ps.length := by
      rw [← rl.length]
      exact h3.len _ _ _ _ q
    have bd : BindsTo s1 fd ⟨us, ([] : List Str).zip ([] : List Value)⟩ (ps.zip (us ++ [])) := by
      obtain ⟨oc, od, kV, doc, pm, an, cdv, ct, osl, rfl, lk, hcd⟩ := h2.ex
      rw [List.append_nil]
      exact .of_eq (hb kV doc pm an cdv ct us hl)
    exact run_go (args := ⟨us, []⟩) (kn := []) (ws := []) h3 o hj bd I1 (by rw [List.append_nil]; exact rl) q⟩, sem_goL hk hA.sem⟩
end
end DL
set_option maxHeartbeats 2000000
namespace DL
open PySem PySem.Spec PyProof.Rows L2
def rp {α : Type} (π : Pot) : Res (α × Pot) → Res (α × Pot)
  | .ok a => .ok (a.1, π)
  | .err c ns xs _ => .err c ns xs π
  | .stuck => .stuck
def PA {α : Type} (m : Pot → Res (α × Pot)) : Prop := ∀ π π', m π' = rp π' (m π)
def PX {α : Type} (m : Rho → Pot → Res (α × Pot)) : Prop := ∀ ρ, PA (m ρ)
def PF (m : Fd) : Prop := ∀ ds, PA (m ds)
def PI (m : Fi) : Prop := ∀ d ρ, PA (m d ρ)
section
variable {α β : Type}
theorem pa_ok (a : α) : PA fun π => .ok (a, π) := fun _ _ => rfl
theorem pa_st : PA fun _ => (Res.stuck : Res (α × Pot)) := fun _ _ => rfl
theorem pa_bind {m : Pot → Res (α × Pot)} {k : α × Pot → Res (β × Pot)} (h : PA m) (hk : ∀ a, PA fun π => k (a, π)) : PA fun π => (m π).bind k := fun π π' => by
  show (m π').bind k = rp π' ((m π).bind k)
  rw [h π π']
  cases m π with
  | ok a => exact hk a.1 a.2 π'
  | err c ns xs q => rfl
  | stuck => rfl
theorem pa_ofO {γ : Type} {o : Option γ} {k : γ → Pot → Res (β × Pot)} (hk : ∀ a, PA (k a)) : PA fun π => (ofO o).bind fun a => k a π := by
  cases o with
  | none => exact pa_st
  | some a => exact hk a
theorem pa_ofO1 {γ : Type} {o : Option γ} {f : γ → β} : PA fun π => (ofO o).bind fun a => (.ok (f a, π) : Res (β × Pot)) := pa_ofO fun a => pa_ok _
theorem pa_if {c : Prop} {i : Pot → Decidable c} {m n : Pot → Res (α × Pot)} (h : PA m) (h2 : PA n) : PA fun π => @ite _ c (i π) (m π) (n π) := by
  by_cases q : c
  · simp only [if_pos q]
    exact h
  · simp only [if_neg q]
    exact h2
theorem pa_safe {m : Pot → Res (α × Pot)} (h : PA m) : PA fun π => safe (m π) := fun π π' => by
  show safe (m π') = rp π' (safe (m π))
  rw [h π π']
  cases m π <;> rfl
end
section
variable {a b c : Ed} {t t2 : Et} {x : Ea} {fi : Ei} {l u : Eo} {s s2 : Fs} {m : Fd} {g g' : D → D → Option D} {fg : D → Rho → Option Rho}
theorem pu_var {i : Nat} : PX (eVar i) := fun ρ => by
  unfold eVar
  split
  · exact pa_ok _
  · exact pa_st
theorem pu_c {d : D} : PX (eC d) := fun ρ => pa_ok _
theorem pu_bin (ha : PX a) (hb : PX b) : PX (eBin g a b) := by
  intro ρ
  unfold eBin
  repeat' first
    | exact pa_ok _
    | exact pa_st
    | exact pa_ofO1
    | refine pa_bind (ha _) fun x => ?_
    | exact ha _
    | refine pa_bind (pa_chk (ha _)) fun x => ?_
    | refine pa_bind (hb _) fun x => ?_
    | exact hb _
    | refine pa_bind (pa_chk (hb _)) fun x => ?_
    | (apply pa_if)
    | (apply pa_ofO; intro k)
    | (dsimp only)
    | split
theorem pu_un {g : D → Option D} (ha : PX a) : PX (eUn g a) := by
  intro ρ
  unfold eUn
  repeat' first
    | exact pa_ok _
    | exact pa_st
    | exact pa_ofO1
    | refine pa_bind (ha _) fun x => ?_
    | exact ha _
    | refine pa_bind (pa_chk (ha _)) fun x => ?_
    | (apply pa_if)
    | (apply pa_ofO; intro k)
    | (dsimp only)
    | split
theorem pu_and (ha : PX a) (hb : PX b) : PX (eAnd a b) := by
  intro ρ
  unfold eAnd
  repeat' first
    | exact pa_ok _
    | exact pa_st
    | exact pa_ofO1
    | refine pa_bind (ha _) fun x => ?_
    | exact ha _
    | refine pa_bind (pa_chk (ha _)) fun x => ?_
    | refine pa_bind (hb _) fun x => ?_
    | exact hb _
    | refine pa_bind (pa_chk (hb _)) fun x => ?_
    | (apply pa_if)
    | (apply pa_ofO; intro k)
    | (dsimp only)
    | split
theorem pu_not (ha : PX a) : PX (eNot a) := by
  intro ρ
  unfold eNot
  repeat' first
    | exact pa_ok _
    | exact pa_st
    | exact pa_ofO1
    | refine pa_bind (ha _) fun x => ?_
    | exact ha _
    | refine pa_bind (pa_chk (ha _)) fun x => ?_
    | (apply pa_if)
    | (apply pa_ofO; intro k)
    | (dsimp only)
    | split
theorem pu_eif (ht : PX t) (ha : PX a) (hb : PX b) : PX (eIf t a b) := by
  intro ρ
  unfold eIf
  repeat' first
    | exact pa_ok _
    | exact pa_st
    | exact pa_ofO1
    | refine pa_bind (ht _) fun x => ?_
    | exact ht _
    | refine pa_bind (pa_chk (ht _)) fun x => ?_
    | refine pa_bind (ha _) fun x => ?_
    | exact ha _
    | refine pa_bind (pa_chk (ha _)) fun x => ?_
    | refine pa_bind (hb _) fun x => ?_
    | exact hb _
    | refine pa_bind (pa_chk (hb _)) fun x => ?_
    | (apply pa_if)
    | (apply pa_ofO; intro k)
    | (dsimp only)
    | split
theorem pu_anil : PX aNil := by
  intro ρ
  unfold aNil
  repeat' first
    | exact pa_ok _
    | exact pa_st
    | exact pa_ofO1
    | (apply pa_if)
    | (apply pa_ofO; intro k)
    | (dsimp only)
    | split
theorem pu_acons (ha : PX a) (hx : PX x) : PX (aCons a x) := by
  intro ρ
  unfold aCons
  repeat' first
    | exact pa_ok _
    | exact pa_st
    | exact pa_ofO1
    | refine pa_bind (ha _) fun x => ?_
    | exact ha _
    | refine pa_bind (pa_chk (ha _)) fun x => ?_
    | refine pa_bind (hx _) fun x => ?_
    | exact hx _
    | refine pa_bind (pa_chk (hx _)) fun x => ?_
    | (apply pa_if)
    | (apply pa_ofO; intro k)
    | (dsimp only)
    | split
theorem pu_lst (hx : PX x) : PX (eLst x) := by
  intro ρ
  unfold eLst
  repeat' first
    | exact pa_ok _
    | exact pa_st
    | exact pa_ofO1
    | refine pa_bind (hx _) fun x => ?_
    | exact hx _
    | refine pa_bind (pa_chk (hx _)) fun x => ?_
    | (apply pa_if)
    | (apply pa_ofO; intro k)
    | (dsimp only)
    | split
theorem pu_app {g : List D → Option D} (hx : PX x) : PX (eApp g x) := by
  intro ρ
  unfold eApp
  repeat' first
    | exact pa_ok _
    | exact pa_st
    | exact pa_ofO1
    | refine pa_bind (hx _) fun x => ?_
    | exact hx _
    | refine pa_bind (pa_chk (hx _)) fun x => ?_
    | (apply pa_if)
    | (apply pa_ofO; intro k)
    | (dsimp only)
    | split
theorem pu_tof (ha : PX a) : PX (tOf a) := by
  intro ρ
  unfold tOf
  repeat' first
    | exact pa_ok _
    | exact pa_st
    | exact pa_ofO1
    | refine pa_bind (ha _) fun x => ?_
    | exact ha _
    | refine pa_bind (pa_chk (ha _)) fun x => ?_
    | (apply pa_if)
    | (apply pa_ofO; intro k)
    | (dsimp only)
    | split
theorem pu_tbl (ha : PX a) : PX (tBl a) := by
  intro ρ
  unfold tBl
  repeat' first
    | exact pa_ok _
    | exact pa_st
    | exact pa_ofO1
    | refine pa_bind (ha _) fun x => ?_
    | exact ha _
    | refine pa_bind (pa_chk (ha _)) fun x => ?_
    | (apply pa_if)
    | (apply pa_ofO; intro k)
    | (dsimp only)
    | split
theorem pu_tor (ha : PX t) (hb : PX t2) : PX (tOrD t t2) := by
  intro ρ
  unfold tOrD
  repeat' first
    | exact pa_ok _
    | exact pa_st
    | exact pa_ofO1
    | refine pa_bind (ha _) fun x => ?_
    | exact ha _
    | refine pa_bind (pa_chk (ha _)) fun x => ?_
    | refine pa_bind (hb _) fun x => ?_
    | exact hb _
    | refine pa_bind (pa_chk (hb _)) fun x => ?_
    | (apply pa_if)
    | (apply pa_ofO; intro k)
    | (dsimp only)
    | split
theorem pu_tnot (ha : PX t) : PX (tNotD t) := by
  intro ρ
  unfold tNotD
  repeat' first
    | exact pa_ok _
    | exact pa_st
    | exact pa_ofO1
    | refine pa_bind (ha _) fun x => ?_
    | exact ha _
    | refine pa_bind (pa_chk (ha _)) fun x => ?_
    | (apply pa_if)
    | (apply pa_ofO; intro k)
    | (dsimp only)
    | split
theorem pu_true : PX tTrue := by
  intro ρ
  unfold tTrue
  repeat' first
    | exact pa_ok _
    | exact pa_st
    | exact pa_ofO1
    | (apply pa_if)
    | (apply pa_ofO; intro k)
    | (dsimp only)
    | split
theorem pu_chain (ha : PX a) (hb : PX b) (hc : PX c) : PX (eChain g g' a b c) := by
  intro ρ
  unfold eChain
  repeat' first
    | exact pa_ok _
    | exact pa_st
    | exact pa_ofO1
    | refine pa_bind (ha _) fun x => ?_
    | exact ha _
    | refine pa_bind (pa_chk (ha _)) fun x => ?_
    | refine pa_bind (hb _) fun x => ?_
    | exact hb _
    | refine pa_bind (pa_chk (hb _)) fun x => ?_
    | refine pa_bind (hc _) fun x => ?_
    | exact hc _
    | refine pa_bind (pa_chk (hc _)) fun x => ?_
    | (apply pa_if)
    | (apply pa_ofO; intro k)
    | (dsimp only)
    | split
theorem pu_ival (ha : PX a) : PX (iVal a) := by
  intro ρ
  unfold iVal
  repeat' first
    | exact pa_ok _
    | exact pa_st
    | exact pa_ofO1
    | refine pa_bind (ha _) fun x => ?_
    | exact ha _
    | refine pa_bind (pa_chk (ha _)) fun x => ?_
    | (apply pa_if)
    | (apply pa_ofO; intro k)
    | (dsimp only)
    | split
theorem pu_ienumd (hx : PX x) : PX (iEnumD x) := by
  intro ρ
  unfold iEnumD
  repeat' first
    | exact pa_ok _
    | exact pa_st
    | exact pa_ofO1
    | refine pa_bind (hx _) fun x => ?_
    | exact hx _
    | refine pa_bind (pa_chk (hx _)) fun x => ?_
    | (apply pa_if)
    | (apply pa_ofO; intro k)
    | (dsimp only)
    | split
theorem pa_lcgo (ht : PX t) (ha : PX a) (ρ : Rho) : ∀ ds, PA fun π => lcGo fg t a ρ ds π
  | [] => pa_ok _
  | d :: ds => by
    unfold lcGo
    apply pa_ofO
    intro ρ1
    refine pa_bind (pa_safe (ht ρ1)) fun b => ?_
    dsimp only
    apply pa_if
    · refine pa_bind (pa_safe (ha ρ1)) fun x => ?_
      dsimp only
      refine pa_bind (pa_lcgo ht ha ρ ds) fun r => ?_
      exact pa_ok (x :: r)
    · exact pa_lcgo ht ha ρ ds
theorem pu_lc {vs : List Nat} (hi : PX fi) (ht : PX t) (ha : PX a) : PX (eLC fi fg t a vs) := by
  intro ρ
  unfold eLC
  repeat' first
    | refine pa_bind (pa_lcgo ht ha _ _) fun x => ?_
    | exact pa_ok _
    | exact pa_st
    | exact pa_ofO1
    | refine pa_bind (hi _) fun x => ?_
    | exact hi _
    | refine pa_bind (pa_chk (hi _)) fun x => ?_
    | refine pa_bind (ht _) fun x => ?_
    | exact ht _
    | refine pa_bind (pa_chk (ht _)) fun x => ?_
    | refine pa_bind (ha _) fun x => ?_
    | exact ha _
    | refine pa_bind (pa_chk (ha _)) fun x => ?_
    | (apply pa_if)
    | (apply pa_ofO; intro k)
    | (dsimp only)
    | split
theorem pu_go (hm : PF m) (hx : PX x) : PX (eGo m x) := by
  intro ρ
  unfold eGo
  repeat' first
    | exact pa_ok _
    | exact pa_st
    | exact pa_ofO1
    | exact hm _
    | exact pa_chk (hm _)
    | refine pa_bind (hx _) fun x => ?_
    | exact hx _
    | refine pa_bind (pa_chk (hx _)) fun x => ?_
    | (apply pa_if)
    | (apply pa_ofO; intro k)
    | (dsimp only)
    | split
theorem pa_chk {r : Rm} {m : Pot → Res (D × Pot)} (h : PA m) : PA fun π => chk r (m π) := fun π π' => by
  show chk r (m π') = rp π' (chk r (m π))
  rw [h π π']
  cases m π with
  | ok a =>
    show (if noR r a.1 = true then _ else _) = rp π' (if noR r a.1 = true then _ else _)
    split <;> rfl
  | err c ns xs q =>
    show (if noLs xs = true then _ else _) = rp π' (if noLs xs = true then _ else _)
    split <;> rfl
  | stuck => rfl
theorem pu_next : PX sNext := by
  intro ρ
  unfold sNext
  repeat' first
    | exact pa_ok _
    | exact pa_st
    | exact pa_ofO1
    | (apply pa_if)
    | (apply pa_ofO; intro k)
    | (dsimp only)
    | split
theorem pu_stuck : PX sStuck := by
  intro ρ
  unfold sStuck
  repeat' first
    | exact pa_ok _
    | exact pa_st
    | exact pa_ofO1
    | (apply pa_if)
    | (apply pa_ofO; intro k)
    | (dsimp only)
    | split
theorem pu_ret (ha : PX a) : PX (sRet a) := by
  intro ρ
  unfold sRet
  repeat' first
    | exact pa_ok _
    | exact pa_st
    | exact pa_ofO1
    | refine pa_bind (ha _) fun x => ?_
    | exact ha _
    | refine pa_bind (pa_chk (ha _)) fun x => ?_
    | (apply pa_if)
    | (apply pa_ofO; intro k)
    | (dsimp only)
    | split
theorem pu_set {i : Nat} (ha : PX a) : PX (sSet i a) := by
  intro ρ
  unfold sSet
  repeat' first
    | exact pa_ok _
    | exact pa_st
    | exact pa_ofO1
    | refine pa_bind (ha _) fun x => ?_
    | exact ha _
    | refine pa_bind (pa_chk (ha _)) fun x => ?_
    | (apply pa_if)
    | (apply pa_ofO; intro k)
    | (dsimp only)
    | split
theorem pu_if (ht : PX t) (hs : PX s) (hs2 : PX s2) : PX (sIf t s s2) := by
  intro ρ
  unfold sIf
  repeat' first
    | exact pa_ok _
    | exact pa_st
    | exact pa_ofO1
    | refine pa_bind (ht _) fun x => ?_
    | exact ht _
    | refine pa_bind (pa_chk (ht _)) fun x => ?_
    | refine pa_bind (hs _) fun x => ?_
    | exact hs _
    | refine pa_bind (pa_chk (hs _)) fun x => ?_
    | refine pa_bind (hs2 _) fun x => ?_
    | exact hs2 _
    | refine pa_bind (pa_chk (hs2 _)) fun x => ?_
    | (apply pa_if)
    | (apply pa_ofO; intro k)
    | (dsimp only)
    | split
theorem pu_seq (hs : PX s) (hs2 : PX s2) : PX (sSeq s s2) := by
  intro ρ
  unfold sSeq
  repeat' first
    | exact pa_ok _
    | exact pa_st
    | exact pa_ofO1
    | refine pa_bind (hs _) fun x => ?_
    | exact hs _
    | refine pa_bind (pa_chk (hs _)) fun x => ?_
    | refine pa_bind (hs2 _) fun x => ?_
    | exact hs2 _
    | refine pa_bind (pa_chk (hs2 _)) fun x => ?_
    | (apply pa_if)
    | (apply pa_ofO; intro k)
    | (dsimp only)
    | split
theorem pa_forgo (hs : PX s) : ∀ ds ρ, PA fun π => forGo fg s ds ρ π
  | [], ρ => pa_ok _
  | d :: ds, ρ => pa_ofO fun ρ1 => pa_bind (hs ρ1) fun y => by
    cases y with
    | nx ρ2 => exact pa_forgo hs ds ρ2
    | ct ρ2 => exact pa_forgo hs ds ρ2
    | bk ρ2 => exact pa_ok _
    | rt d => exact pa_ok _
theorem pu_for (hi : PX fi) (hs : PX s) : PX (sFor fi fg s) := by
  intro ρ
  unfold sFor
  repeat' first
    | exact pa_forgo hs _ _
    | exact pa_ok _
    | exact pa_st
    | exact pa_ofO1
    | refine pa_bind (hi _) fun x => ?_
    | exact hi _
    | refine pa_bind (pa_chk (hi _)) fun x => ?_
    | refine pa_bind (hs _) fun x => ?_
    | exact hs _
    | refine pa_bind (pa_chk (hs _)) fun x => ?_
    | (apply pa_if)
    | (apply pa_ofO; intro k)
    | (dsimp only)
    | split
theorem pu_mut {i : Nat} {f : D → List D → Option (List D)} (ha : PX a) : PX (sMut i a f) := by
  intro ρ
  unfold sMut
  repeat' first
    | exact pa_ok _
    | exact pa_st
    | exact pa_ofO1
    | refine pa_bind (ha _) fun x => ?_
    | exact ha _
    | refine pa_bind (pa_chk (ha _)) fun x => ?_
    | (apply pa_if)
    | (apply pa_ofO; intro k)
    | (dsimp only)
    | split
theorem pu_sapp {i : Nat} (ha : PX a) : PX (sApp i a) := pu_mut ha
theorem pu_runD {n : Nat} {r : Rm} (hs : PX s) : PF (runD n r s) := by
  intro ds
  unfold runD
  repeat' first
    | exact pa_ok _
    | exact pa_st
    | exact pa_ofO1
    | refine pa_bind (hs _) fun x => ?_
    | exact hs _
    | refine pa_bind (pa_chk (hs _)) fun x => ?_
    | (apply pa_if)
    | (apply pa_ofO; intro k)
    | (dsimp only)
    | split
theorem pu_inil : PI iNil := fun d ρ => pa_ok _
theorem pu_ifld {f : Str} {fi : Fi} (ha : PX a) (h : PI fi) : PI (iFld f a fi) := by
  intro d ρ
  unfold iFld
  repeat' first
    | exact pa_ok _
    | exact pa_st
    | exact pa_ofO1
    | refine pa_bind (ha _) fun x => ?_
    | exact ha _
    | refine pa_bind (pa_chk (ha _)) fun x => ?_
    | exact h _ _
    | refine pa_bind (h _ _) fun x => ?_
    | (apply pa_if)
    | (apply pa_ofO; intro k)
    | (dsimp only)
    | split
theorem pu_ick {c : Str} {fi : Fi} (h : PI fi) : PI (iCk c fi) := by
  intro d ρ
  unfold iCk
  repeat' first
    | exact pa_ok _
    | exact pa_st
    | exact pa_ofO1
    | exact h _ _
    | refine pa_bind (h _ _) fun x => ?_
    | (apply pa_if)
    | (apply pa_ofO; intro k)
    | (dsimp only)
    | split
theorem pu_runI {n : Nat} {c : Str} {fi : Fi} (h : PI fi) : PF (runI n c fi) := by
  intro ds
  unfold runI
  repeat' first
    | exact pa_ok _
    | exact pa_st
    | exact pa_ofO1
    | exact h _ _
    | refine pa_bind (h _ _) fun x => ?_
    | (apply pa_if)
    | (apply pa_ofO; intro k)
    | (dsimp only)
    | split
end
/-- what a pure meaning gives at some pot it gives at each one -/
theorem PF.ok {m : Fd} (h : PF m) {ds : List D} {π0 π1 : Pot} {d : D} (e : m ds π0 = .ok (d, π1)) (π : Pot) : m ds π = .ok (d, π) := by
  rw [h ds π0 π, e]
  rfl
def isT : Res (D × Pot) → Bool
  | .ok (.bl b, _) => b
  | _ => false
theorem isT_ok {r : Res (D × Pot)} (h : isT r = true) : ∃ π, r = .ok (.bl true, π) := by
  unfold isT at h
  split at h
  · subst h
    exact ⟨_, rfl⟩
  · cases h
theorem PF.t {m : Fd} (h : PF m) {ds : List D} {π0 : Pot} (e : isT (m ds π0) = true) (π : Pot) : m ds π = .ok (.bl true, π) := by
  obtain ⟨π1, e1⟩ := isT_ok e
  exact h.ok e1 π
end DL
set_option maxHeartbeats 2000000
namespace DL
open PySem PySem.Spec PyProof.Rows L2
mutual
def beqD : D → D → Bool
  | .non, .non => true
  | .bl a, .bl b => a == b
  | .int a, .int b => decide (a = b)
  | .str a, .str b => decide (a = b)
  | .lst xs, .lst ys => beqL xs ys
  | .tup xs, .tup ys => beqL xs ys
  | .dic ks xs, .dic ls ys => decide (ks = ls) && beqL xs ys
  | .ins c ns xs, .ins d ms ys => decide (c = d) && decide (ns = ms) && beqL xs ys
  | _, _ => false
def beqL : List D → List D → Bool
  | [], [] => true
  | x :: xs, y :: ys => beqD x y && beqL xs ys
  | _, _ => false
end
mutual
theorem beqD_eq : ∀ {a b : D}, beqD a b = true → a = b
  | .non, b, h => by
    cases b <;> simp [beqD] at h
    rfl
  | .bl a, b, h => by
    cases b <;> simp [beqD] at h
    rw [h]
  | .int a, b, h => by
    cases b <;> simp [beqD] at h
    rw [h]
  | .str a, b, h => by
    cases b <;> simp [beqD] at h
    rw [h]
  | .lst xs, b, h => by
    cases b <;> simp [beqD] at h
    rw [beqL_eq h]
  | .tup xs, b, h => by
    cases b <;> simp [beqD] at h
    rw [beqL_eq h]
  | .dic ks xs, b, h => by
    cases b <;> simp [beqD] at h
    rw [h.1, beqL_eq h.2]
  | .ins c ns xs, b, h => by
    cases b <;> simp [beqD] at h
    rw [h.1.1, h.1.2, beqL_eq h.2]
theorem beqL_eq : ∀ {xs ys : List D}, beqL xs ys = true → xs = ys
  | [], ys, h => by
    cases ys <;> simp [beqL] at h
    rfl
  | x :: xs, ys, h => by
    cases ys <;> simp [beqL] at h
    rw [beqD_eq h.1, beqL_eq h.2]
end
def isR (r : Res (D × Pot)) (d : D) : Bool := match r with
  | .ok (e, _) => beqD e d
  | _ => false
theorem isR_ok {r : Res (D × Pot)} {d : D} (h : isR r d = true) : ∃ π, r = .ok (d, π) := by
  unfold isR at h
  split at h
  · rw [← beqD_eq h]
    exact ⟨_, rfl⟩
  · cases h
theorem PF.r {m : Fd} (h : PF m) {ds : List D} {π0 : Pot} {d : D} (e : isR (m ds π0) d = true) (π : Pot) : m ds π = .ok (d, π) := by
  obtain ⟨π1, e1⟩ := isR_ok e
  exact h.ok e1 π
/-- a piece that ends with a value -/
def isO (r : Res (Out × Pot)) (d : D) : Bool := match r with
  | .ok (.rt e, _) => beqD e d
  | _ => false
theorem PX.o {m : Fs} (h : PX m) {ρ : Rho} {π0 : Pot} {d : D} (e : isO (m ρ π0) d = true) (π : Pot) : m ρ π = .ok (.rt d, π) := by
  rw [h ρ π0 π]
  unfold isO at e
  split at e
  · rename_i q
    rw [q, beqD_eq e]
    rfl
  · cases e
theorem PX.r {m : Ed} (h : PX m) {ρ : Rho} {π0 : Pot} {d : D} (e : isR (m ρ π0) d = true) (π : Pot) : m ρ π = .ok (d, π) := by
  obtain ⟨π1, e1⟩ := isR_ok e
  rw [h ρ π0 π, e1]
  rfl
theorem kit_ty {K : PySem.W.Frag} {C : Addr} {T : String} {b : Bool} (i : PySem.W.isClsIn K C = true) (t : PySem.W.typeIn K (.ref C) = some (.type "type")) (s : PySem.W.subIn K (.type T) (.ref C) = some b) : PySem.W.kitOne K (.type T) (.ref C) = some b := by
  unfold PySem.W.kitOne
  rw [if_neg (by intro h; cases h)]
  unfold PySem.W.kitCls
  unfold PySem.W.isClsIn at i
  simp only [i, t, Bool.true_and, beq_self_eq_true, if_true]
  exact s
theorem kit_self {K : PySem.W.Frag} {C : Addr} : PySem.W.kitOne K (.ref C) (.ref C) = some true := by
  unfold PySem.W.kitOne
  rw [if_pos (by simp)]
theorem kit_ref {K : PySem.W.Frag} {C D : Addr} {b : Bool} (n : (D == C) = false) (i : PySem.W.isClsIn K C = true) (t : PySem.W.typeIn K (.ref C) = some (.type "type")) (s : PySem.W.subIn K (.ref D) (.ref C) = some b) : PySem.W.kitOne K (.ref D) (.ref C) = some b := by
  unfold PySem.W.kitOne
  rw [if_neg (by
    intro h
    have h : (Value.ref D) = .ref C := by simpa using h
    cases h
    simp at n)]
  unfold PySem.W.kitCls
  unfold PySem.W.isClsIn at i
  simp only [i, t, Bool.true_and, beq_self_eq_true, if_true]
  exact s
end DL
set_option maxHeartbeats 2000000
namespace DL
open PySem PySem.Spec PyProof.Rows L2
end DL
set_option maxHeartbeats 2000000
namespace DL
open PySem PySem.Spec PyProof.Rows L2
end DL
set_option maxHeartbeats 2000000
namespace DL
open PySem PySem.Spec PyProof.Rows L2
def gL (n : Nat) (b : List D → Rho → Option Rho) : D → Rho → Option Rho := fun d ρ => match d with
  | .lst ds => if ds.length = n then b ds ρ else none
  | _ => none
section
variable {X : Cx} {E : XK} {Γ : List Md} {pos : Pos} {k : Nat}
@[simp] theorem gL_ap (n : Nat) (b : List D → Rho → Option Rho) (ds : List D) (ρ : Rho) : gL n b (.lst ds) ρ = if ds.length = n then b ds ρ else none := rfl
end
end DL
set_option maxHeartbeats 2000000
namespace DL
open PySem PySem.Spec PyProof.Rows L2
end DL
set_option maxHeartbeats 2000000
namespace DL
open PySem PySem.Spec PyProof.Rows L2 C8
theorem kit_own {K : PySem.W.Frag} {C : Addr} {T : String} {b : Bool} (m : PySem.W.kitMeta T = true) (s : PySem.W.subIn K (.ref C) (.type T) = some b) : PySem.W.kitOne K (.ref C) (.type T) = some b := by
  unfold PySem.W.kitOne
  rw [if_neg (by intro h; cases h)]
  unfold PySem.W.kitCls
  simp only [m, if_true]
  exact s
/-- own classes that are below none of these builtins -/
structure ClsT (K : PySem.W.Frag) (mg : Str → Option Value) (cs : List Str) : Prop where
  ex : ∀ c' ∈ cs, ∃ C', mg c' = some (.ref C') ∧ InsC K C' ∧ ∀ n ∈ tyNames, PySem.W.kitOne K (.ref C') (.type n) = some false
def fIsA (cs : List Str) (ns : List String) (d : D) : Option D := match d with
  | .ins c' _ _ => if c' ∈ cs then some (.bl false) else none
  | _ => fIs ns d
theorem fIsA_ty {cs : List Str} {ns : List String} {d : D} {n : String} (h : tyName d = some n) : fIsA cs ns d = fIs ns d := by
  cases d <;> first | rfl | cases h
theorem kitAny_false {K : PySem.W.Frag} {C : Addr} (h : ∀ n ∈ tyNames, PySem.W.kitOne K (.ref C) (.type n) = some false) : ∀ {bs : List String}, (∀ b ∈ bs, b ∈ tyNames) → PySem.W.kitAny K (.ref C) (bs.map Value.type) = some false
  | [], _ => kitAny_nil
  | b :: bs, hb => kitAny_cons (h b (hb b (by simp))) (fun _ => kitAny_false h fun x hx => hb x (by simp [hx])) fun e => by cases e
section
variable {X : Cx} {E : XK} {Γ : List Md} {ra : Rm} {a : Expr} {ta : TE} {fa : Ed} {pos p : Pos}
theorem de_isiA {x : Str} {T : String} {px : Pos} (cs : List Str) (hC : ClsT X.K X.mg cs) (hm : X.mg "isinstance" = none) (hmT : X.mg x = none) (ha : DE X E ra Γ a ta fa) (hg : Gl X "isinstance" := by rfl) (hgT : Gl X x := by rfl) (hvT : bootBuiltins x = some (.type T) := by decide +kernel) (hT : tyOkB T = true := by decide +kernel) (hTn : T ∈ tyNames := by decide +kernel)
    (hn : x ≠ "__name__" := by decide) (hdb : (x == ("__debug__" : Str)) = false := by decide) (hs : starEach [a, .Name x px] X.env = (false, eval a X.env) :: starEach [.Name x px] X.env := by rfl) (hs2 : starEach [.Name x px] X.env = (false, eval (.Name x px) X.env) :: starEach [] X.env := by rfl)
    (hpl : (backTo pos (starEach [.Name x px] X.env)).any (·.1) = false := by rfl) :
    DE X E .f Γ (.Call (.Name "isinstance" p) [a, .Name x px] [] pos) (tCB (rIsiY X.K) (tCons ta (tCons (tC (.ty T)) tNil))) (eUn (fIsA cs [T]) fa) :=
  ⟨pe_callB call_isiY hg hm (by decide +kernel) (pa_cons ha.pe (pa_cons (pe_bltn hgT hmT hvT rfl hn hdb) pa_nil hs2) hs) (by decide) (by decide) hs hpl, fun pot M σ H ρ π I p Q h => by
    refine Post.seq (r' := ra) (te := ta σ H) h p (fun Q' hq => ha.sem pot M σ H ρ π I p Q' hq) fun d π1 v H1 _ g1 p1 r1 h1 => ?_
    cases et : tyName d with
    | none =>
      cases d with
      | ins c' ns xs =>
        simp only [fIsA] at h1
        split at h1
        · rename_i hin
          rw [ofO_some, Res.bind_ok] at h1
          obtain ⟨y, C1, dx, gs, rfl, m, hy, rfl, rr⟩ := rb_ins r1.toB
          obtain ⟨C', m', ic, k1⟩ := hC.ex c' hin
          rw [m] at m'
          cases m'
          exact ⟨.ref y, .ty T, .ref C1, .type T, _, rfl, .ty T, .inl (.base (.ins hy ic.cl ic.ha ic.hn ic.htk ic.hm)), k1 T hTn, h1 _ H1 .refl p1 (.bl _)⟩
        · rw [ofO_none, Res.bind_stuck] at h1
          exact h1.elim
      | _ => cases et
    | some n =>
      rw [fIsA_ty et] at h1
      simp only [fIs, et, Option.map_some, ofO_some, Res.bind_ok] at h1
      refine ⟨v, .ty T, .type n, .type T, isTyB n T, rfl, .ty T, rb_ty r1.toB et, kit_name et hT, ?_⟩
      have e1 : ([T].any fun b => isTyB n b) = isTyB n T := by simp
      rw [e1] at h1
      exact h1 _ H1 .refl p1 (.bl _)⟩
theorem de_isi2A {x y : Str} {T U : String} {px py pt : Pos} {j : Nat} (cs : List Str) (hC : ClsT X.K X.mg cs) (hm : X.mg "isinstance" = none) (hmT : X.mg x = none) (hmU : X.mg y = none) (ha : DE X E ra Γ a ta fa) (hg : Gl X "isinstance" := by rfl) (hgT : Gl X x := by rfl) (hgU : Gl X y := by rfl) (hvT : bootBuiltins x = some (.type T) := by decide +kernel) (hvU : bootBuiltins y = some (.type U) := by decide +kernel) (hT : [T, U].all tyOkB = true := by decide +kernel) (hTn : ∀ b ∈ [T, U], b ∈ tyNames := by decide +kernel)
    (hn : x ≠ "__name__" := by decide) (hdb : (x == ("__debug__" : Str)) = false := by decide) (hnU : y ≠ "__name__" := by decide) (hdbU : (y == ("__debug__" : Str)) = false := by decide)
    (hs : starEach [a, .Tuple [.Name x px, .Name y py] j pt] X.env = (false, eval a X.env) :: starEach [.Tuple [.Name x px, .Name y py] j pt] X.env := by rfl) (hs2 : starEach [.Tuple [.Name x px, .Name y py] j pt] X.env = (false, eval (.Tuple [.Name x px, .Name y py] j pt) X.env) :: starEach [] X.env := by rfl)
    (hs3 : starEach [.Name x px, .Name y py] X.env = (false, eval (.Name x px) X.env) :: starEach [.Name y py] X.env := by rfl) (hs4 : starEach [.Name y py] X.env = (false, eval (.Name y py) X.env) :: starEach [] X.env := by rfl)
    (hpl : (backTo pos (starEach [.Tuple [.Name x px, .Name y py] j pt] X.env)).any (·.1) = false := by rfl) :
    DE X E .f Γ (.Call (.Name "isinstance" p) [a, .Tuple [.Name x px, .Name y py] j pt] [] pos) (tCB (rIsiTY X.K) (tCons ta (tCons (tTup (tCons (tC (.ty T)) (tCons (tC (.ty U)) tNil))) tNil))) (eUn (fIsA cs [T, U]) fa) :=
  ⟨pe_callB call_isiTY hg hm (by decide +kernel) (pa_cons ha.pe (pa_cons (pe_tup (pa_cons (pe_bltn hgT hmT hvT rfl hn hdb) (pa_cons (pe_bltn hgU hmU hvU rfl hnU hdbU) pa_nil hs4) hs3)) pa_nil hs2) hs) (by decide) (by decide) hs hpl, fun pot M σ H ρ π I p Q h => by
    refine Post.seq (r' := ra) (te := ta σ H) h p (fun Q' hq => ha.sem pot M σ H ρ π I p Q' hq) fun d π1 v H1 _ g1 p1 r1 h1 => ?_
    cases et : tyName d with
    | none =>
      cases d with
      | ins c' ns xs =>
        simp only [fIsA] at h1
        split at h1
        · rename_i hin
          rw [ofO_some, Res.bind_ok] at h1
          refine ⟨by show 2 ≤ sizeLine; rw [sizeLine_eq]; omega, fun l hn => ?_⟩
          obtain ⟨y, C1, dx, gs, rfl, m, hy, rfl, rr⟩ := rb_ins r1.toB
          obtain ⟨C', m', ic, k1⟩ := hC.ex c' hin
          rw [m] at m'
          cases m'
          have hy' : upd H1 l (.tup ([T, U].map V.ty)) y = some (.ins C1 dx gs) := by
            rw [upd_ne (ne_of_none hy hn)]
            exact hy
          exact ⟨.ref y, l, [T, U].map V.ty, .ref C1, [T, U].map Value.type, _, rfl, upd_same, cls_all _, .inl (.base (.ins hy' ic.cl ic.ha ic.hn ic.htk ic.hm)), kitAny_false k1 hTn, h1 _ _ (.new hn) (p1.new hn) (.bl _)⟩
        · rw [ofO_none, Res.bind_stuck] at h1
          exact h1.elim
      | _ => cases et
    | some n =>
      rw [fIsA_ty et] at h1
      simp only [fIs, et, Option.map_some, ofO_some, Res.bind_ok] at h1
      refine ⟨by show 2 ≤ sizeLine; rw [sizeLine_eq]; omega, fun l hn => ?_⟩
      refine ⟨v, l, [T, U].map V.ty, .type n, [T, U].map Value.type, _, rfl, upd_same, cls_all _, ?_, kit_names et hT, h1 _ _ (.new hn) (p1.new hn) (.bl _)⟩
      exact rb_ty (r1.toB.grow I.pm (.new hn)) et⟩
end
@[simp] theorem fIsA_non (cs : List Str) (ns : List String) : fIsA cs ns .non = some (.bl (ns.any fun b => isTyB "NoneType" b)) := rfl
@[simp] theorem fIsA_bl (cs : List Str) (ns : List String) (i : Bool) : fIsA cs ns (.bl i) = some (.bl (ns.any fun b => isTyB "bool" b)) := rfl
@[simp] theorem fIsA_int (cs : List Str) (ns : List String) (i : Int) : fIsA cs ns (.int i) = some (.bl (ns.any fun b => isTyB "int" b)) := rfl
@[simp] theorem fIsA_str (cs : List Str) (ns : List String) (i : Str) : fIsA cs ns (.str i) = some (.bl (ns.any fun b => isTyB "str" b)) := rfl
@[simp] theorem fIsA_lst (cs : List Str) (ns : List String) (i : List D) : fIsA cs ns (.lst i) = some (.bl (ns.any fun b => isTyB "list" b)) := rfl
@[simp] theorem fIsA_tup (cs : List Str) (ns : List String) (i : List D) : fIsA cs ns (.tup i) = some (.bl (ns.any fun b => isTyB "tuple" b)) := rfl
@[simp] theorem fIsA_dic (cs : List Str) (ns : List String) (a : List DKey) (i : List D) : fIsA cs ns (.dic a i) = some (.bl (ns.any fun b => isTyB "dict" b)) := rfl
@[simp] theorem fIsA_ins (cs : List Str) (ns : List String) (c : Str) (a : List Str) (i : List D) : fIsA cs ns (.ins c a i) = if c ∈ cs then some (.bl false) else none := rfl
end DL
set_option maxHeartbeats 2000000
namespace DL
open PySem PySem.Spec PyProof.Rows L2
def fStrA : List D → Option D
  | [.int i] => if i.natAbs.log2 < 1920 then some (.str (Str.ofString (toString i))) else none
  | ds => fStr ds
@[simp] theorem fStrA_lst (xs : List D) : fStrA [.lst xs] = fStr [.lst xs] := rfl
@[simp] theorem fStrA_tup (xs : List D) : fStrA [.tup xs] = fStr [.tup xs] := rfl
end DL
set_option maxHeartbeats 2000000
namespace DL
open PySem PySem.Spec PyProof.Rows L2
section
variable {X : Cx} {E : XK} {Γ Γl Γ' : List Md} {r : Rm} {a b : Expr} {ta tb : TE} {fa fb : Ed} {pos p : Pos}
/-- a new list out of a new tuple -/
theorem de_ixT (k : Int) (ha : DE X E .t Γ a ta fa) (hb : DE X E .f Γ b tb (eC (.int k))) (hs : PlainIx b := by intro _ _; rfl) : DE X E .o Γ (.Subscript a b pos) (tOp (rIx X.K) ta tb) (eBin opIx fa (eC (.int k))) :=
  ⟨pe_ix ix_seq ha.pe hb.pe hs, fun pot M σ H ρ π I p Q h => by
    refine (show ta σ H (fun x H1 => tb σ H1 fun y H2 => rIx X.K x y H2 Q) from ?_)
    refine ha.sem pot M σ H ρ π I p _ ?_
    unfold eBin at h
    cases e : fa ρ π with
    | err c ns xs π' =>
      rw [e] at h
      exact h
    | stuck =>
      rw [e] at h
      exact h
    | ok y =>
      obtain ⟨d, π1⟩ := y
      rw [e] at h
      intro v H1 g1 p1 ow
      obtain ⟨q, ps, ds, rfl, rfl, h1, h2, h3, h4, h5, h7, h6⟩ := ow
      refine hb.sem pot M σ H1 ρ π1 (I.grow g1 p1) p1 _ ?_
      intro y H2 g2 p2 ry
      have hy := rb_int (RpR.toB (r := .f) ry)
      subst hy
      have h' : Post X.mg X.K .o pot M H ((ofO (L2.atI ds k)).bind fun z => .ok (z, π1)) Q E := h
      cases ez : L2.atI ds k with
      | none =>
        rw [ez] at h'
        exact h'.elim
      | some z =>
        rw [ez] at h'
        unfold L2.atI at ez
        simp only [Option.bind_eq_some_iff] at ez
        obtain ⟨j, j1, j2⟩ := ez
        have hj : j < ps.length := by
          have := (List.getElem?_eq_some_iff.mp j2).1
          omega
        have jp := List.getElem?_eq_getElem hj
        obtain ⟨a1, a2, a3, o, a4, a5⟩ := h6 j _ z jp j2
        have hq2 : H2 q = some (.tup (ps.map V.ref)) := g2 q _ h7 h1
        refine .inr (.inl ⟨q, ps.map V.ref, k, .ref ps[j], rfl, rfl, .inl (.inl hq2), ?_, ?_⟩)
        · unfold L2.atI
          rw [List.length_map, ← h5, j1]
          show (ps.map V.ref)[j]? = _
          rw [List.getElem?_map, jp]; rfl
        · refine h' _ H2 (g1.trans g2) p2 ⟨_, rfl, a2, a1, o, g2 _ _ a1 a4, ?_⟩
          refine (a5.mono (less_sub fun x hx => ?_)).mono (less_grow (fun x hx => List.mem_cons_of_mem _ (I.pm x hx)) g2)
          rcases List.mem_cons.mp hx with z | hx
          · rw [z]; exact List.mem_append_left _ (List.getElem_mem hj)
          · exact List.mem_append_right _ hx⟩
/-- two own lists are handed back in a tuple -/
theorem ds_rett (i j : Nat) {x y : Str} {px py pt : Pos} {kk : Nat} (hij : i ≠ j := by decide) (hNi : X.N[i]? = some x := by rfl) (hNj : X.N[j]? = some y := by rfl) (hi : Γ[i]? = some .o := by rfl) (hj : Γ[j]? = some .o := by rfl)
    (hvx : Vis X.env.scope x := by first | exact Or.inl rfl | exact Or.inr (Or.inl rfl) | exact Or.inr (Or.inr rfl)) (hvy : Vis X.env.scope y := by first | exact Or.inl rfl | exact Or.inr (Or.inl rfl) | exact Or.inr (Or.inr rfl))
    (hd : (x == ("__debug__" : Str)) = false := by decide) (hcd : (x == ("__classdict__" : Str)) = false := by decide) (hdy : (y == ("__debug__" : Str)) = false := by decide) (hcdy : (y == ("__classdict__" : Str)) = false := by decide)
    (hs : starEach [.Name x px, .Name y py] X.env = (false, eval (.Name x px) X.env) :: starEach [.Name y py] X.env := by rfl) (hs2 : starEach [.Name y py] X.env = (false, eval (.Name y py) X.env) :: starEach [] X.env := by rfl) :
    DS X E .t Γl Γ Γ' (.Return (some (.Tuple [.Name x px, .Name y py] kk pt)) pos) (tRet (tTup (tCons (tVar i) (tCons (tVar j) tNil)))) (sRet (eTup (aCons (eVar i) (aCons (eVar j) aNil)))) :=
  ⟨ps_ret (pe_tup (pa_cons (pe_var hNi hvx hd hcd) (pa_cons (pe_var hNj hvy hdy hcdy) pa_nil hs2) hs)), fun pot M0 H0 B M σ H ρ π DD S p h => by
    unfold sRet eTup at h
    simp only [aCons, aNil, eVar] at h
    cases eri : ρ[i]? with
    | none =>
      rw [eri] at h
      exact h.elim
    | some od =>
      cases od with
      | none =>
        rw [eri] at h
        exact h.elim
      | some d =>
        cases erj : ρ[j]? with
        | none =>
          rw [eri, erj] at h
          exact h.elim
        | some oe =>
          cases oe with
          | none =>
            rw [eri, erj] at h
            exact h.elim
          | some e =>
            rw [eri, erj] at h
            obtain ⟨a, ea, ma, na, oa, a1, a2⟩ := S.env.o i d hi eri
            obtain ⟨b, eb, mb, nb, ob, b1, b2⟩ := S.env.o j e hj erj
            have hz : ([d, e] : List D).length ≤ sizeLine := by rw [sizeLine_eq]; simp
            have h' : ∀ v H', Grow pot H0 H' → PotAt pot H' π → RpR X.mg X.K .t pot M0 H0 H' v (.tup [d, e]) → DD.rt v H' := by
              have : PostS X.mg X.K .t Γl Γ' pot M0 H0 B (((if ([d, e] : List D).length ≤ sizeLine then (.ok (D.tup [d, e], π) : Res (D × Pot)) else .stuck)).bind fun x => .ok (.rt x.1, x.2)) DD E := h
              rw [if_pos hz] at this
              exact this
            have hab : a ≠ b := fun z => hij (S.env.ap i j a d e hi hj eri erj ea (by rw [z]; exact eb))
            refine ⟨_, ea, _, eb, hz, fun q hn => h' _ _ (S.gr.trans (.new hn)) (p.new hn) ?_⟩
            have hqM : q ∉ M := fun z => (S.env.al q z).nn hn
            have n1 : a ≠ q := fun z => hqM (z ▸ ma)
            have n2 : b ≠ q := fun z => hqM (z ▸ mb)
            have hq0 : H0 q = none := by
              cases z : H0 q with
              | none => rfl
              | some o =>
                by_cases hpq : pot = some q
                · exact absurd (S.env.pm q hpq) hqM
                · rw [S.gr q o hpq z] at hn; cases hn
            have sub : Same (less H M) (less (upd H q (.tup [V.ref a, V.ref b])) ([a, b] ++ M0)) := fun c o hc => by
              obtain ⟨c1, c2⟩ := less_some.mp hc
              refine less_some.mpr ⟨fun z => ?_, ?_⟩
              · rcases List.mem_append.mp z with z | z
                · simp at z
                  rcases z with z | z
                  · exact c1 (z ▸ ma)
                  · exact c1 (z ▸ mb)
                · exact c1 (S.sub c z)
              · rw [upd_ne (fun z => by rw [z, hn] at c2; cases c2)]; exact c2
            have self : ∀ x, x ∈ M → Same (less H (x :: M)) (less H M) := fun x hx => less_sub fun c hc => List.mem_cons_of_mem _ hc
            refine ⟨q, [a, b], [d, e], rfl, rfl, upd_same, hq0, fun z => hqM (S.sub q z), ?_, rfl, fun z => hqM (S.env.pm q z), fun i' p' e' g1 g2 => ?_⟩
            · simp; exact ⟨fun z => n1 z.symm, fun z => n2 z.symm⟩
            · match i' with
              | 0 =>
                simp at g1 g2
                subst g1 g2
                exact ⟨na, S.ow i d a hi eri ea, fun z => S.m0 a z (S.ow i d a hi eri ea), oa, by rw [upd_ne n1]; exact a1, (a2.mono (self a ma)).mono sub⟩
              | 1 =>
                simp at g1 g2
                subst g1 g2
                exact ⟨nb, S.ow j e b hj erj eb, fun z => S.m0 b z (S.ow j e b hj erj eb), ob, by rw [upd_ne n2]; exact b1, (b2.mono (self b mb)).mono sub⟩
              | i' + 2 => simp at g1⟩
end
end DL
set_option maxHeartbeats 2000000
namespace DL
open PySem PySem.Spec PyProof.Rows L2
def atomD : D → Bool
  | .non | .bl _ | .int _ | .str _ => true
  | _ => false
def eAtom (fe : Ed) : Ed := fun ρ π => match fe ρ π with
  | .ok x => if atomD x.1 = true then .ok x else .stuck
  | _ => .stuck
@[simp] theorem eAtom_ap (fe : Ed) (ρ : Rho) (π : Pot) : eAtom fe ρ π = match fe ρ π with
  | .ok x => if atomD x.1 = true then .ok x else .stuck
  | _ => .stuck := rfl
@[simp] theorem atomD_bl (b : Bool) : atomD (.bl b) = true := rfl
@[simp] theorem atomD_int (b : Int) : atomD (.int b) = true := rfl
@[simp] theorem atomD_str (b : Str) : atomD (.str b) = true := rfl
@[simp] theorem atomD_non : atomD .non = true := rfl
end DL
set_option maxHeartbeats 2000000
namespace DL
open PySem PySem.Spec PyProof.Rows L2
section
variable {mg : Str → Option Value} {K : PySem.W.Frag} {pot : Option Addr} {M : List Addr} {H H1 H' : Hp} {v : V} {d : D} {Γ : List Md} {σ : L2.St} {ρ : Rho} {π : Pot} {E : XK}
def canI (mg : Str → Option Value) (K : PySem.W.Frag) (w : Bool) (E : XK) (Γ : List Md) (fi : Ei) : TI := fun σ H R => ∃ pot M ρ π, EnvOk mg K Γ pot M σ H ρ ∧ PotAt pot H π ∧ PostI mg K w pot M H (fi ρ π) R E
theorem DI.can {w : Bool} {X : Cx} {tg iter : Expr} {wi : TI} {fi : Ei} (h : DI w X E Γ tg iter wi fi) : DI w X E Γ tg iter (canI X.mg X.K w E Γ fi) fi :=
  ⟨⟨fun pins s σ H R I q => by
    obtain ⟨pot, M, ρ, π, h1, h2, h3⟩ := q
    exact h.pi.run pins s σ H R I (h.sem pot M σ H ρ π h1 h2 R h3)⟩, fun pot M σ H ρ π I p Q q => ⟨pot, M, ρ, π, I, p, q⟩⟩
end
end DL
set_option maxHeartbeats 2000000
namespace DL
open PySem PySem.Spec PyProof.Rows L2
/-- an own object of a class -/
def isInO (c : Str) : D → Bool
  | .ins c' _ _ => decide (c' = c)
  | _ => false
def cmpO (neg : Bool) (g : D → D → Option D) : List (Str × Fd) → D → D → Pot → Res (D × Pot)
  | [], d, e, π => (ofO (g d e)).bind fun z => .ok (z, π)
  | (c, m) :: cs, d, e, π => if (isInO c d && isInO c e) = true then (m [d, e] π).bind fun z => match z.1 with
    | .bl t => .ok (.bl (if neg then !t else t), z.2)
    | _ => .stuck else cmpO neg g cs d e π
def eCmpO (neg : Bool) (g : D → D → Option D) (cs : List (Str × Fd)) (a b : Ed) : Ed := fun ρ π => (a ρ π).bind fun x => (b ρ x.2).bind fun y => cmpO neg g cs x.1 y.1 y.2
@[simp] theorem eCmpO_ap (neg : Bool) (g : D → D → Option D) (cs : List (Str × Fd)) (a b : Ed) (ρ : Rho) (π : Pot) : eCmpO neg g cs a b ρ π = (a ρ π).bind fun x => (b ρ x.2).bind fun y => cmpO neg g cs x.1 y.1 y.2 := rfl
end DL
set_option maxHeartbeats 2000000
namespace DL
open PySem PySem.Spec PyProof.Rows L2
def tupZ (ns : List Int) : D := .tup (ns.map D.int)
def asTs : List D → Option (List (List Int))
  | [] => some []
  | .tup xs :: r => (asInts xs).bind fun ns => (asTs r).map (ns :: ·)
  | _ => none
def insT (x : List Int) : List (List Int) → List (List Int)
  | [] => [x]
  | y :: r => if TS.code 1024 x ≤ TS.code 1024 y then x :: y :: r else y :: insT x r
def sortT : List (List Int) → List (List Int)
  | [] => []
  | x :: r => insT x (sortT r)
def fitT (d : Nat) (ns : List Int) : Bool := decide (ns.length = d) && ns.all fun n => decide (0 ≤ n) && decide (n < 1024)
def fSortA : List D → Option D
  | [.lst xs] => match asInts xs with
    | some ns => some (.lst ((sortI ns).map D.int))
    | none => match asTs xs with
      | some L => if L.length < 64 then (if L.all (fitT 2) = true then some (.lst ((sortT L).map tupZ)) else if L.all (fitT 3) = true then some (.lst ((sortT L).map tupZ)) else none) else none
      | none => none
  | [.tup xs] => (asInts xs).map fun ns => .lst ((sortI ns).map D.int)
  | _ => none
@[simp] theorem fSortA_izT (ns : List Int) : fSortA [.tup (ns.map D.int)] = some (.lst ((sortI ns).map D.int)) := by
  simp [fSortA, asInts_iz]
@[simp] theorem fSortA_iz (ns : List Int) : fSortA [.lst (ns.map D.int)] = some (.lst ((sortI ns).map D.int)) := by
  simp [fSortA, asInts_iz]
end DL
set_option maxHeartbeats 4000000
namespace DL
open PySem PySem.Spec PyProof.Rows L2
def dgetI : List DKey → List D → Int → Option D
  | .inl (.inl j) :: ks, x :: xs, i => if j = i then some x else dgetI ks xs i
  | _ :: ks, _ :: xs, i => dgetI ks xs i
  | _, _, _ => none
def opInK : D → D → Option D
  | .int i, .dic (.inl k :: ks) xs => some (.bl (dgetI (.inl k :: ks) xs i).isSome)
  | _, _ => none
def opNotInK : D → D → Option D
  | .int i, .dic (.inl k :: ks) xs => some (.bl (!(dgetI (.inl k :: ks) xs i).isSome))
  | _, _ => none
/-- what may be locked -/
inductive Lkb : HO → Prop
  | k (kvs : List (Key × V)) : Lkb (.dK kvs)
  | t (kvs : List (List Key × V)) : Lkb (.dT kvs)
/-- two heaps that differ in locks alone -/
def Sim (H H' : Hp) : Prop := ∀ a, H a = H' a ∨ ∃ od u, Lkb u ∧ ((H a = some u ∧ H' a = some (.frz od u)) ∨ (H' a = some u ∧ H a = some (.frz od u)))
section
variable {mg : Str → Option Value} {K : PySem.W.Frag} {H H' : Hp}
theorem Sim.same (s : Sim H H') {a : Addr} {o : HO} (h : H a = some o) (n1 : ¬ Lkb o) (n2 : ∀ od u, Lkb u → o ≠ .frz od u) : H' a = some o := by
  rcases s a with e | ⟨od, u, hu, ⟨e, _⟩ | ⟨_, e⟩⟩
  · rw [← e]; exact h
  · rw [h] at e; cases e; exact (n1 hu).elim
  · rw [h] at e; cases e; exact (n2 _ _ hu rfl).elim
theorem Sim.rd (s : Sim H H') {a : Addr} {u : HO} (h : Rd H a u) (n1 : ¬ Lkb u) (n2 : ∀ od u', Lkb u' → u ≠ .frz od u') : Rd H' a u := by
  rcases h with h | ⟨o, h⟩
  · exact .inl (s.same h n1 n2)
  · refine .inr ⟨o, s.same h (fun e => by cases e) fun od u' hu' e => ?_⟩
    cases e
    exact n1 hu'
end
end DL
set_option maxHeartbeats 4000000
namespace DL
open PySem PySem.Spec PyProof.Rows L2
end DL
set_option maxHeartbeats 4000000
namespace DL
open PySem PySem.Spec PyProof.Rows L2
def tLook (ft : Et) : Et := fun ρ π => match ft ρ π with
  | .ok x => .ok x
  | _ => .stuck
@[simp] theorem tLook_ap (ft : Et) (ρ : Rho) (π : Pot) : tLook ft ρ π = match ft ρ π with
  | .ok x => .ok x
  | _ => .stuck := rfl
end DL
set_option maxHeartbeats 4000000
namespace DL
open PySem PySem.Spec PyProof.Rows L2
end DL
set_option maxHeartbeats 4000000
namespace DL
open PySem PySem.Spec PyProof.Rows L2
def isTd : List DKey → Bool
  | .inl _ :: _ => false
  | _ => true
section
variable {mg : Str → Option Value} {K : PySem.W.Frag} {pot : Option Addr} {M : List Addr} {H H' : Hp} {x v : V} {d : D}
theorem rb_dicT {ks : List DKey} {ds : List D} (hk : isTd ks = true) (h : Rb mg K pot M H x (.dic ks ds)) : ∃ p kvs, x = .ref p ∧ Rd H p (.dT kvs) ∧ ks = (kvs.map fun q => (.inr q.1 : DKey)) ∧ RpL mg K (less H M) (kvs.map (·.2)) ds := by
  rcases h with h | ⟨p, e1, _, o, h1, h2⟩
  · cases h with
    | dicK h1 h2 => cases hk
    | dicT h1 h2 => exact ⟨_, _, rfl, rd_mono less_le h1, rfl, h2⟩
  · cases h2 with
    | dicK h2 => cases hk
    | dicT h2 => exact ⟨p, _, e1, .inl h1, rfl, h2.mono (less_sub fun a q => List.mem_cons_of_mem _ q)⟩
end
end DL
set_option maxHeartbeats 4000000
namespace DL
open PySem PySem.Spec PyProof.Rows L2
end DL
set_option maxHeartbeats 4000000
namespace DL
open PySem PySem.Spec PyProof.Rows L2
end DL
set_option maxHeartbeats 4000000
namespace DL
open PySem PySem.Spec PyProof.Rows L2
end DL
set_option maxHeartbeats 4000000
namespace DL
open PySem PySem.Spec PyProof.Rows L2
end DL
set_option maxHeartbeats 4000000
namespace DL
open PySem PySem.Spec PyProof.Rows L2
end DL
set_option maxHeartbeats 4000000
namespace DL
open PySem PySem.Spec PyProof.Rows L2
end DL
set_option maxHeartbeats 4000000
namespace DL
open PySem PySem.Spec PyProof.Rows L2
end DL
set_option maxHeartbeats 4000000
namespace DL
open PySem PySem.Spec PyProof.Rows L2
end DL
set_option maxHeartbeats 4000000
namespace DL
open PySem PySem.Spec PyProof.Rows L2
end DL
set_option maxHeartbeats 4000000
namespace DL
open PySem PySem.Spec PyProof.Rows L2
end DL
set_option maxHeartbeats 2000000
namespace DL
open PySem PySem.Spec PyProof.Rows L2
def GrowM (q : Addr) (pot : Option Addr) (H H' : Hp) : Prop := ∀ a o, pot ≠ some a → a ≠ q → H a = some o → H' a = some o
theorem GrowM.refl {q : Addr} {pot : Option Addr} {H : Hp} : GrowM q pot H H := fun _ _ _ _ h => h
theorem GrowM.of {q : Addr} {pot : Option Addr} {H H' : Hp} (g : Grow pot H H') : GrowM q pot H H' := fun a o n _ h => g a o n h
theorem GrowM.trans {q : Addr} {pot : Option Addr} {H H1 H2 : Hp} (g : GrowM q pot H H1) (h : GrowM q pot H1 H2) : GrowM q pot H H2 := fun a o n m e => h a o n m (g a o n m e)
end DL
namespace DL
open PySem PySem.Spec PyProof.Rows L2
end DL
set_option maxHeartbeats 4000000
namespace DL
open PySem PySem.Spec PyProof.Rows L2
def eFmtR (a : Ed) : Ed := fun ρ π => (a ρ π).bind fun x => (ofO (match x.1 with
  | .lst _ => (showD x.1).map D.str
  | .tup _ => (showD x.1).map D.str
  | _ => none)).bind fun z => .ok (z, x.2)
def joinD : List Ed → Str → Ed
  | [], acc => fun _ π => .ok (.str acc, π)
  | f :: fs, acc => fun ρ π => (f ρ π).bind fun x => match x.1 with
    | .str y => if (acc ++ y).length ≤ sizeLine then joinD fs (acc ++ y) ρ x.2 else .stuck
    | _ => .stuck
section
variable {X : Cx} {E : XK} {Γ : List Md} {pos p : Pos} {k j : Nat} {e : Expr} {te : TE} {fe : Ed}
def tFmtD (K : PySem.W.Frag) (te : TE) : TE := fun σ H Q => te σ H fun v H1 => ∃ a p, v = .ref a ∧ Dp K H1 v p ∧ p.showable = true ∧ p.hasDict = false ∧ p.depth ≤ 60 ∧ p.shown.length ≤ sizeLine ∧ Q (.str p.shown) H1
theorem pe_fmtD (o : XOk X E k) (ex : PE X e te) : PE X (.FormattedValue e 114 none pos) (tFmtD X.K te) := ⟨fun pins s σ H Q I h => by
  refine wpAny_FormattedValue_repr (thn (ex.run pins s σ H _ I h) fun v s1 shown => ?_)
  obtain ⟨x, H1, I1, r1, a, p, rfl, hd, h1, h2, h3, h4, q⟩ := shown
  cases r1
  obtain ⟨as, rd⟩ := Dp.reads I1 p (.ref a) (.ref a) hd rfl
  have hu : X.A.units + p.depth < cLine := by
    have := o.u64
    omega
  refine pyReprObj_of_reads rd h1 (PyData.noDict_hsm h2) o.gd hu (fun _ _ e => e) (fun h' u tk hk => ?_) h4
  exact wpAny_formatField_str ⟨.str _, H1, I1.kept (t' := tk) hk, ⟨_, rfl⟩, q⟩ ⟨.str _, H1, (I1.kept (t' := tk) hk).tok _, ⟨_, rfl⟩, q⟩ h4⟩
theorem de_fmtR (o : XOk X E k) (he : DE X E .b Γ e te fe) : DE X E .f Γ (.FormattedValue e 114 none pos) (tFmtD X.K te) (eFmtR fe) :=
  ⟨pe_fmtD o he.pe, fun pot M σ H ρ π I p Q h => by
    refine Post.seq (r' := .b) (te := te σ H) h p (fun Q' hq => he.sem pot M σ H ρ π I p Q' hq) fun d π1 v H1 _ g1 p1 r1 h1 => ?_
    dsimp only at h1
    cases d with
    | lst xs =>
      simp only at h1
      cases hw : showD (.lst xs) with
      | none =>
        rw [hw] at h1
        exact h1.elim
      | some w =>
        rw [hw] at h1
        simp only [Option.map_some, ofO_some, Res.bind_ok] at h1
        obtain ⟨p, e, g1, g2, g3, g4, rfl⟩ := showD_eq hw
        obtain ⟨a, zs, rfl, _, _⟩ := rb_lst r1
        exact ⟨a, p, rfl, (rb_rp r1).dp e, g1, g2, g3, g4, h1 _ H1 .refl p1 (.str _)⟩
    | tup xs =>
      simp only at h1
      cases hw : showD (.tup xs) with
      | none =>
        rw [hw] at h1
        exact h1.elim
      | some w =>
        rw [hw] at h1
        simp only [Option.map_some, ofO_some, Res.bind_ok] at h1
        obtain ⟨p, e, g1, g2, g3, g4, rfl⟩ := showD_eq hw
        obtain ⟨a, zs, rfl, _, _⟩ := rb_tup r1
        exact ⟨a, p, rfl, (rb_rp r1).dp e, g1, g2, g3, g4, h1 _ H1 .refl p1 (.str _)⟩
    | _ => exact h1.elim⟩
inductive DJ (X : Cx) (E : XK) (Γ : List Md) : List Expr → List TE → List Ed → Prop where
  | nil : DJ X E Γ [] [] []
  | cons {e : Expr} {t : TE} {f : Ed} {es : List Expr} {ts : List TE} {fs : List Ed} (h : DE X E .f Γ e t f) (r : DJ X E Γ es ts fs) : DJ X E Γ (e :: es) (t :: ts) (f :: fs)
theorem DJ.pj {es : List Expr} {ts : List TE} {fs : List Ed} (h : DJ X E Γ es ts fs) : PJ X es ts := by
  induction h with
  | nil => exact .nil
  | cons h _ ih => exact .cons h.pe ih
theorem DJ.sem {es : List Expr} {ts : List TE} {fs : List Ed} (h : DJ X E Γ es ts fs) : ∀ (acc : Str) pot M σ H ρ π, EnvOk X.mg X.K Γ pot M σ H ρ → PotAt pot H π → ∀ Q : Str → Hp → Prop, Post X.mg X.K .f pot M H (joinD fs acc ρ π) (fun v H' => ∀ y, v = .str y → Q y H') E → tJs ts acc σ H Q := by
  induction h with
  | nil => exact fun acc pot M σ H ρ π I p Q h => h (.str acc) H .refl p (.str _) acc rfl
  | @cons e t f es ts fs he r ih =>
    intro acc pot M σ H ρ π I p Q h
    refine Post.seq (r' := .f) (te := t σ H) h p (fun Q' hq => he.sem pot M σ H ρ π I p Q' hq) fun d π1 v H1 _ g1 p1 r1 h1 => ?_
    dsimp only at h1
    cases d with
    | str y =>
      simp only at h1
      split at h1
      · rename_i hl
        cases (show Rp X.mg X.K (less H1 M) v (.str y) from r1)
        exact ⟨y, rfl, hl, ih (acc ++ y) pot M σ H1 ρ π1 (I.grow g1 p1) p1 Q h1⟩
      · exact h1.elim
    | _ => exact h1.elim
theorem de_join {v1 v2 : Expr} {rest : List Expr} {ts : List TE} {fs : List Ed} (h : DJ X E Γ (v1 :: v2 :: rest) ts fs) : DE X E .f Γ (.JoinedStr (v1 :: v2 :: rest) pos) (fun σ H Q => tJs ts Str.empty σ H fun out H1 => Q (.str out) H1) (joinD fs Str.empty) :=
  ⟨pe_joined h.pj, fun pot M σ H ρ π I p Q q => h.sem Str.empty pot M σ H ρ π I p _ (by
    cases ex : joinD fs Str.empty ρ π with
    | ok x =>
      obtain ⟨d, π1⟩ := x
      rw [ex] at q
      exact fun v H' g p' r y e => by
        subst e
        exact q _ H' g p' r
    | err c ns xs π' =>
      rw [ex] at q
      exact q
    | stuck =>
      rw [ex] at q
      exact q)⟩
def rReprO (mg : Str → Option Value) (K : PySem.W.Frag) (E : XK) (c : Str) (m : Fd) : List V → Hp → VK → Prop := fun vs H Q =>
  ∃ C a da fa, vs = [.ref a] ∧ mg c = some (.ref C) ∧ H a = some (.ins C da fa) ∧ SpD mg K [.f] .f m [.ref a] H (fun v H' => ∃ y, v = .str y ∧ Q (.str y) H') E
variable {c qual x : Str} {st : Stmt} {ps : List Str} {m : Fd}
theorem cr_reprO (F : DMe X.prog X.w X.K X.mg X.base j c "__repr__" qual st ps [] .f m) (o : XOk X E k)
    (hb : ∀ (kV doc pm : Value) (an : Option Addr) (cdv ct : Value) (us : List Value), us.length = ps.length → bindArgs (PySem.W.fnOf "__repr__" qual (defArgs st) (defBody st) (defScope st) .none kV doc pm an cdv ct) ⟨us, []⟩ = pure (ps.zip us))
    (hj : j + 1 ≤ k := by decide) : CallR X (.builtin "repr") (rReprO X.mg X.K E c m) := by
  intro pins s σ H xs us Q I rx hq
  obtain ⟨C, a, da, fa, rfl, mC, ha, hsp⟩ := hq
  obtain ⟨u, rfl, ru⟩ := rx.one
  obtain ⟨C', f, fd, h0, h1, h2, h3, h4⟩ := F.ex
  rw [mC] at h0
  cases h0
  cases ru
  obtain ⟨mA, J, _⟩ := ins_get I.hok ha
  obtain ⟨od, J, _⟩ := J.look
  obtain ⟨mm, hF⟩ := I.fr
  have hl : [Value.ref a].length = ps.length := by
    have e := h4.len _ _ _ _ hsp
    simpa using e
  have bd : BindsTo s fd ⟨[.ref a], []⟩ (ps.zip [.ref a]) := by
    obtain ⟨oc, od, kV, doc, pm, an, cdv, ct, osl, rfl, lk, hcd⟩ := h3.ex
    exact .of_eq (hb kV doc pm an cdv ct _ hl)
  refine PySem.W.repr_K (by show X.A.units + 1 < cLine; exact o.u1) hF I.ok.mod.kin J h2.at_ h2.fn ?_
  refine wpAny_call (codeAny_mono (h4.run X.A.in1 X.stack s H ⟨[.ref a], []⟩ [.ref a] [.ref a] _ E (o.room.mono hj).in1 o.gd I.env0.in1 bd (.cons rfl .nil) hsp) fun res s' z => ?_)
  match res, z with
  | .error e, z => exact o.pass pins σ H s e s' I z
  | .ok (.ret u), z =>
    obtain ⟨v, H', I', rv, y, rfl, q⟩ := I.after z
    obtain ⟨t, e⟩ := rv
    subst e
    exact ⟨.str y, H', I', ⟨t, rfl⟩, q⟩
end
end DL
set_option maxHeartbeats 4000000
namespace DL
open PySem PySem.Spec PyProof.Rows L2
end DL
set_option maxHeartbeats 4000000
namespace DL
open PySem PySem.Spec PyProof.Rows L2
end DL
set_option maxHeartbeats 4000000
namespace DL
open PySem PySem.Spec PyProof.Rows L2
theorem KT.at_ {H : Hp} {kvs : List (List Key × V)} {xs : List (List Key × Addr × Value)} (r : KT H kvs xs) : kvs.length = xs.length ∧ ∀ i (h1 : i < kvs.length) (h2 : i < xs.length), kvs[i].1 = xs[i].1 ∧ RelV kvs[i].2 xs[i].2.2 := by
  induction r with
  | nil => exact ⟨rfl, fun i h1 => absurd h1 (Nat.not_lt_zero i)⟩
  | cons h _ ih =>
    refine ⟨by simp [ih.1], fun i h1 h2 => ?_⟩
    cases i with
    | zero => exact ⟨h.1, h.2.2⟩
    | succ i => exact ih.2 i (Nat.lt_of_succ_lt_succ h1) (Nat.lt_of_succ_lt_succ h2)
end DL
set_option maxHeartbeats 4000000
namespace DL
open PySem PySem.Spec PyProof.Rows L2
section
variable {X : Cx} {E : XK} {Γ : List Md} {pos : Pos} {k j : Nat} {a b : Expr} {ta tb : TE} {fa fb : Ed} {c qual : Str} {st : Stmt} {ps : List Str} {m : Fd}
def neTO (c : Str) (m : Fd) (d e : D) (π : Pot) : Res (D × Pot) := match d, e with
  | .tup [.int i, x], .tup [.int j, y] => if i = j ∧ isInO c x = true ∧ isInO c y = true then (match m [x, y] π with
    | .ok (.bl true, π') => if π' = π then .ok (.bl false, π) else .stuck
    | _ => .stuck) else .stuck
  | _, _ => .stuck
def eNeTO (c : Str) (m : Fd) (a b : Ed) : Ed := fun ρ π => (a ρ π).bind fun x => (b ρ x.2).bind fun y => neTO c m x.1 y.1 y.2
end
@[simp] theorem eNeTO_ap (c : Str) (m : Fd) (a b : Ed) (ρ : Rho) (π : Pot) : eNeTO c m a b ρ π = (a ρ π).bind fun x => (b ρ x.2).bind fun y => neTO c m x.1 y.1 y.2 := rfl
end DL
set_option maxHeartbeats 4000000
namespace DL
open PySem PySem.Spec PyProof.Rows L2
def keyPy : Key → PyData
  | .inl i => .int i
  | .inr x => .str x
def flatPy : D → Option PyData
  | .int i => some (.int i)
  | .bl b => some (.bool b)
  | .str x => some (.str x)
  | .non => some .none
  | _ => none
def flatV : V → Option PyData
  | .int i => some (.int i)
  | .bl b => some (.bool b)
  | .str x => some (.str x)
  | .non => some .none
  | _ => none
def pairsPy : List DKey → List D → Option (List (PyData × PyData))
  | [], [] => some []
  | .inr k :: ks, x :: xs => (flatPy x).bind fun p => (pairsPy ks xs).map ((.tuple (k.map keyPy), p) :: ·)
  | _, _ => none
def pairsV : List (List Key × V) → Option (List (PyData × PyData))
  | [] => some []
  | (k, v) :: r => (flatV v).bind fun p => (pairsV r).map ((.tuple (k.map keyPy), p) :: ·)
def showKv (kvs : List (PyData × PyData)) : Option Str :=
  if PyData.showable (.dict kvs) && decide (PyData.depth (.dict kvs) ≤ 60) && decide ((PyData.shown (.dict kvs)).length ≤ sizeLine) then some (PyData.shown (.dict kvs)) else none
def showT : D → Option Str
  | .dic ks xs => if isTd ks = true then (pairsPy ks xs).bind showKv else none
  | _ => none
def fReprA : List D → Option D
  | [.dic ks xs] => (showT (.dic ks xs)).map .str
  | ds => fRepr ds
section
variable {mg : Str → Option Value} {K : PySem.W.Frag} {H : Hp} {h : Heap}
theorem flat_of {v : V} {d : D} {p : PyData} (r : Rp mg K H v d) (e : flatPy d = some p) : flatV v = some p := by
  cases r <;> first | exact e | cases e
theorem pairs_of : ∀ {kvs : List (List Key × V)} {ds : List D} {ps : List (PyData × PyData)}, RpL mg K H (kvs.map (·.2)) ds → pairsPy (kvs.map fun q => (.inr q.1 : DKey)) ds = some ps → pairsV kvs = some ps
  | [], _, ps, .nil, e => e
  | (k, v) :: kvs, d :: ds, ps, .cons r rs, e => by
    simp only [List.map_cons, pairsPy, Option.bind_eq_some_iff, Option.map_eq_some_iff] at e
    obtain ⟨p, e1, qs, e2, rfl⟩ := e
    simp only [pairsV, flat_of r e1, pairs_of rs e2, Option.bind_some, Option.map_some]
theorem reads_flat {v : V} {u : Value} {p : PyData} (r : RelV v u) (e : flatV v = some p) : Reads h u p [] := by
  cases v with
  | non =>
    cases e
    cases r
    exact .none
  | bl b =>
    cases e
    cases r
    exact .bool b
  | int i =>
    cases e
    obtain ⟨t, rfl⟩ := r
    exact .int i t
  | str x =>
    cases e
    obtain ⟨t, rfl⟩ := r
    exact .str x t
  | _ => cases e
theorem reads_keys : ∀ {k : List Key} {us : List Value}, Vals (k.map kV) us → ReadsAll h us (k.map keyPy) []
  | [], _, .nil => .nil
  | .inl i :: k, _ :: _, .cons r rs => by
    obtain ⟨t, rfl⟩ := (show ∃ t, _ = Value.int i t from r)
    exact ReadsAll.cons (as := []) (.int i t) (reads_keys rs)
  | .inr x :: k, _ :: _, .cons r rs => by
    obtain ⟨t, rfl⟩ := (show ∃ t, _ = Value.str x t from r)
    exact ReadsAll.cons (as := []) (.str x t) (reads_keys rs)
theorem reads_pairs {P : Program} {w : World} (ok : HOk P w H h) : ∀ {kvs : List (List Key × V)} {xs : List (List Key × Addr × Value)} {ps : List (PyData × PyData)}, KT H kvs xs → pairsV kvs = some ps →
    ReadsAll h (xs.map fun x => Value.ref x.2.1) (ps.map (·.1)) [] ∧ ReadsAll h (xs.map (·.2.2)) (ps.map (·.2)) []
  | [], [], ps, .nil, e => by
    cases e
    exact ⟨.nil, .nil⟩
  | (k, v) :: kvs, x :: xs, ps, .cons r rs, e => by
    simp only [pairsV, Option.bind_eq_some_iff, Option.map_eq_some_iff] at e
    obtain ⟨p, e1, qs, e2, rfl⟩ := e
    obtain ⟨a, b⟩ := reads_pairs ok rs e2
    obtain ⟨_, its, rv, ⟨o, ho, hc, n, hd⟩⟩ := (show L2.ObjOk P w H h x.2.1 (.tup (k.map kV)) from ok _ _ r.2.1)
    exact ⟨ReadsAll.cons (as := []) (.tuple ho hc hd (reads_keys rv)) a, ReadsAll.cons (as := []) (reads_flat r.2.2 e1) b⟩
end
section
variable {X : Cx} {E : XK} {Γ : List Md} {pos p : Pos} {k j : Nat} {e : Expr} {te : TE} {fe : Ed}
theorem reads_dic {pins : List (Addr × Obj)} {σ : L2.St} {H : Hp} {s : Shared} (I : Inv X pins σ H s) {a : Addr} {kvs : List (List Key × V)} {ps : List (PyData × PyData)} (hd : Rd H a (.dT kvs)) (hp : pairsV kvs = some ps) : Reads s.heap (.ref a) (.dict ps) [a] ∧ a ≠ sysModules := by
  obtain ⟨h1, h2, xs, h3, o, es, ep, h4, h5, h6, h7, -, -⟩ := dt_rd I.hok hd
  obtain ⟨r1, r2⟩ := reads_pairs I.hok h3 hp
  refine ⟨Reads.dict (as := []) (bs := []) h4 h5.1 h6 ?_ ?_, by simpa using h2⟩
  · rw [h7, List.map_map]
    exact r1
  · rw [h7, List.map_map]
    exact r2
def rReprT : List V → Hp → VK → Prop := fun vs H Q => ∃ a kvs ps z, vs = [V.ref a] ∧ Rd H a (.dT kvs) ∧ pairsV kvs = some ps ∧ showKv ps = some z ∧ Q (.str z) H
theorem showKv_eq {ps : List (PyData × PyData)} {z : Str} (h : showKv ps = some z) : PyData.showable (.dict ps) = true ∧ PyData.depth (.dict ps) ≤ 60 ∧ (PyData.shown (.dict ps)).length ≤ sizeLine ∧ z = PyData.shown (.dict ps) := by
  unfold showKv at h
  split at h
  · rename_i c
    simp only [Bool.and_eq_true, decide_eq_true_eq] at c
    cases h
    exact ⟨c.1.1, c.1.2, c.2, rfl⟩
  · cases h
theorem cr_reprT (x : XOk X E k) : CallR X (.builtin "repr") rReprT := by
  intro pins s σ H xs us Q I r h
  obtain ⟨a, kvs, ps, z, rfl, hd, hp, hz, q⟩ := h
  obtain ⟨u, rfl, ru⟩ := r.one
  cases ru
  obtain ⟨h1, h2, h3, rfl⟩ := showKv_eq hz
  obtain ⟨rd, ne⟩ := reads_dic I hd hp
  refine repr_of_reads' rd h1 (fun _ m => ne (List.mem_singleton.mp m).symm) x.gd ?_ (fun _ _ e => e) (fun h' u tk hk => ⟨.str _, H, I.kept (t' := tk) hk, ⟨_, rfl⟩, q⟩) h3
  have := x.u65
  omega
theorem c_reprA (x : XOk X E k) : CallOk X (.builtin "repr") (fun xs H Q => rRepr X.K xs H Q ∨ rReprT xs H Q) [.b] .f fReprA := ⟨(cr_repr x).or (cr_reprT x), fun pot M H vs ds z al pm ph a hz Q q => by
  by_cases hd : ∃ ks xs, ds = [.dic ks xs]
  · obtain ⟨ks, xs, rfl⟩ := hd
    obtain ⟨v, d, rfl, e, h⟩ := arg1 a
    cases e
    simp only [fReprA, showT, Option.map_eq_some_iff] at hz
    obtain ⟨w, hw, rfl⟩ := hz
    split at hw
    · rename_i hc
      obtain ⟨ps, e1, e2⟩ := Option.bind_eq_some_iff.mp hw
      obtain ⟨p, kvs, rfl, h1, rfl, r1⟩ := rb_dicT hc h
      exact .inr ⟨p, kvs, ps, w, rfl, h1, pairs_of r1 e1, e2, q _ H (Same.refl H) (.str _)⟩
    · cases hw
  · refine .inl ((c_repr x).2 pot M H vs ds z al pm ph a (by
      unfold fReprA at hz
      split at hz
      · rename_i ks xs
        exact (hd ⟨ks, xs, rfl⟩).elim
      · exact hz) Q q)⟩
variable {c qual x : Str} {st : Stmt} {ps : List Str} {m : Fd}
end
end DL
set_option maxHeartbeats 4000000
namespace DL
open PySem PySem.Spec PyProof.Rows L2
end DL
set_option maxHeartbeats 2000000
namespace DL
open PySem PySem.Spec PyProof.Rows L2
def lstZ (ns : List Int) : D := .lst (ns.map D.int)
def asLs : List D → Option (List (List Int))
  | [] => some []
  | .lst xs :: r => (asInts xs).bind fun ns => (asLs r).map (ns :: ·)
  | _ => none
@[simp] theorem asLs_lstZ : ∀ L : List (List Int), asLs (L.map lstZ) = some L
  | [] => rfl
  | ns :: L => by
    show asLs (.lst (ns.map D.int) :: L.map lstZ) = _
    simp [asLs, asLs_lstZ L]
def insL (x : List Int) : List (List Int) → List (List Int)
  | [] => [x]
  | y :: r => if HT.lexLt y x = true then y :: insL x r else x :: y :: r
def sortL : List (List Int) → List (List Int)
  | [] => []
  | x :: r => insL x (sortL r)
def fSortB (ds : List D) : Option D := match ds with
  | [.lst xs] => match asInts xs with
    | some ns => some (.lst ((sortI ns).map D.int))
    | none => match asLs xs with
      | some L => some (.lst ((sortL L).map lstZ))
      | none => fSortA [.lst xs]
  | _ => fSortA ds
@[simp] theorem fSortB_iz (ns : List Int) : fSortB [.lst (ns.map D.int)] = some (.lst ((sortI ns).map D.int)) := by
  simp [fSortB, asInts_iz]
@[simp] theorem fSortB_tup (xs : List D) : fSortB [.tup xs] = fSortA [.tup xs] := rfl
end DL
set_option maxHeartbeats 4000000
namespace DL
open PySem PySem.Spec PyProof.Rows L2
end DL
set_option maxHeartbeats 4000000
namespace DL
open PySem PySem.Spec PyProof.Rows L2
def rSetL (K : PySem.W.Frag) (w : World) : List V → Hp → VK → Prop := fun vs H Q => ∃ (l : Addr) (ns : List Int), vs = [V.ref l] ∧ SqL K H l (ns.map V.int) ∧ ns.length + 1 < scanBound ∧
  ∀ a n, H a = none → n ≤ ns.length → Q (.ref a) (upd H a (SetO w a (fun j => decide (j ∈ ns)) n))
end DL
set_option maxHeartbeats 4000000
namespace DL
open PySem PySem.Spec PyProof.Rows L2
end DL
set_option maxHeartbeats 4000000
namespace DL
open PySem PySem.Spec PyProof.Rows L2
end DL
set_option maxHeartbeats 4000000
namespace DL
open PySem PySem.Spec PyProof.Rows L2
end DL
set_option maxHeartbeats 4000000
namespace DL
open PySem PySem.Spec PySem.W PyProof.Rows L2
end DL
set_option maxHeartbeats 4000000
namespace DL
open PySem PySem.Spec PyProof.Rows L2
def opNotInKE : D → D → Option D
  | .int _, .dic [] _ => some (.bl true)
  | d, e => opNotInK d e
def opInKE : D → D → Option D
  | .int _, .dic [] _ => some (.bl false)
  | d, e => opInK d e
@[simp] theorem opNotInKE_nil (i : Int) (xs : List D) : opNotInKE (.int i) (.dic [] xs) = some (.bl true) := rfl
@[simp] theorem opNotInKE_cons (d : D) (k : DKey) (ks : List DKey) (xs : List D) : opNotInKE d (.dic (k :: ks) xs) = opNotInK d (.dic (k :: ks) xs) := by
  unfold opNotInKE
  split
  · next h => cases h
  · rfl
@[simp] theorem opInKE_nil (i : Int) (xs : List D) : opInKE (.int i) (.dic [] xs) = some (.bl false) := rfl
@[simp] theorem opInKE_cons (d : D) (k : DKey) (ks : List DKey) (xs : List D) : opInKE d (.dic (k :: ks) xs) = opInK d (.dic (k :: ks) xs) := by
  unfold opInKE
  split
  · next h => cases h
  · rfl
end DL
set_option maxHeartbeats 4000000
namespace DL
open PySem PySem.Spec PyProof.Rows L2
end DL
set_option maxHeartbeats 4000000
namespace DL
open PySem PySem.Spec PyProof.Rows L2
section
variable (mg : Str → Option Value) (K : PySem.W.Frag)
structure Bk (Γ : List Md) (i : Nat) (A : List Nat) (pot : Option Addr) (Ms : List Addr) (Hs : Hp) (σs : L2.St) (ρs : Rho) (M : List Addr) (σ : L2.St) (H : Hp) (ρ : Rho) : Prop where
  sv : Same (less Hs Ms) (less H M)
  gr : Grow pot Hs H
  kp : ∀ j, j ≠ i → j ∉ A → σ[j]? = σs[j]? ∧ ρ[j]? = ρs[j]?
  nw : ∀ j ∈ A, Γ[j]? = some .o → ∀ d a, ρ[j]? = some (some d) → σ[j]? = some (some (.ref a)) → Hs a = none
  xv : ∃ v d N, σ[i]? = some (some v) ∧ ρ[i]? = some (some d) ∧ (∀ a ∈ M, a ∈ N) ∧ (∀ a ∈ N, Al H a) ∧ (∀ a xs, Hs a = some (.lst xs) → a ∈ N) ∧ Rp mg K (less H N) v d
end
section
variable {mg : Str → Option Value} {K : PySem.W.Frag} {pot : Option Addr} {M M0 Ms : List Addr} {H H0 H1 Hs B : Hp} {π π1 : Pot} {Γ Γl Γ' : List Md} {σ σs : L2.St} {ρ ρs : Rho} {E : XK} {i : Nat} {A C O : List Nat}
theorem Bk.grow (b : Bk mg K Γ i A pot Ms Hs σs ρs M σ H ρ) (S : SOk mg K Γ pot M0 H0 B M σ H ρ) (g : Grow pot H H1) (p : PotAt pot H1 π) : Bk mg K Γ i A pot Ms Hs σs ρs M σ H1 ρ := by
  obtain ⟨v, d, N, e1, e2, e3, e4, e5, e6⟩ := b.xv
  exact ⟨fun a o h => less_grow S.env.pm g a o (b.sv a o h), b.gr.trans g, b.kp, b.nw, v, d, N, e1, e2, e3, alive e4 p g, e5, e6.mono (less_grow (fun a h => e3 a (S.env.pm a h)) g)⟩
end
end DL
set_option maxHeartbeats 4000000
namespace DL
open PySem PySem.Spec PyProof.Rows L2
end DL
set_option maxHeartbeats 2000000
namespace DL
open PySem PySem.Spec PyProof.Rows L2
/-- no list that is held by a walk -/
def NotF (H : Hp) (b : Addr) : Prop := ∀ o xs, H b ≠ some (.frz o (.lst xs))
/-- each repr that runs is of a held list -/
def GdF (g : List Code) (H : Hp) : Prop := ∀ id v rest kw, Code.builtin id ⟨v :: rest, kw⟩ ∈ g → ∃ b o xs, v = .ref b ∧ H b = some (.frz o (.lst xs))
theorem GdF.nil (H : Hp) : GdF [] H := fun _ _ _ _ h => nomatch h
theorem GdF.clear {g : List Code} {H : Hp} {b : Addr} (h : GdF g H) (n : NotF H b) : Clear g b := fun id v rest kw hm e => by
  obtain ⟨c, o, xs, e1, e2⟩ := h id v rest kw hm
  rw [e1] at e
  cases e
  exact n o xs e2
theorem GdF.mono {g : List Code} {H H' : Hp} (h : GdF g H) (k : ∀ b o u, H b = some (.frz o u) → H' b = some (.frz o u)) : GdF g H' := fun id v rest kw hm => by
  obtain ⟨c, o, xs, e1, e2⟩ := h id v rest kw hm
  exact ⟨c, o, xs, e1, k _ _ _ e2⟩
section
variable {X : Cx} {pins : List (Addr × Obj)} {σ : L2.St} {H : Hp} {s : Shared}
mutual
theorem rpK (I : Inv X pins σ H s) : ∀ {v : V} {d : D} {u : Value} {p : PyData}, Rp X.mg X.K H v d → RelV v u → toPy d = some p → p.showable = true → p.shown.length ≤ sizeLine →
    (∃ as, Reads s.heap u p as) ∧ ∃ bs, ReadAtMost s.heap p.depth bs ∧ (∀ b ∈ bs, NotF H b) ∧ ReprK X.prog X.w bs s.heap p.depth u p.shown
  | _, _, _, _, .non, r, e, _, _ => by
    cases e; cases r
    exact ⟨⟨_, .none⟩, [], (fun _ h => nomatch h), (fun _ h => nomatch h), by simp only [PyData.shown]; exact .of_is ReprIs.none _ _ _⟩
  | _, _, _, _, .bl b, r, e, _, _ => by
    cases e; cases r
    exact ⟨⟨_, .bool b⟩, [], (fun _ h => nomatch h), (fun _ h => nomatch h), by simp only [PyData.shown]; exact .of_is (ReprIs.bool b) _ _ _⟩
  | _, _, _, _, .int i, r, e, hs, _ => by
    cases e
    obtain ⟨t, rfl⟩ := r
    exact ⟨⟨_, .int i t⟩, [], (fun _ h => nomatch h), (fun _ h => nomatch h), by simp only [PyData.shown]; exact .of_is (ReprIs.int t (by simpa [PyData.showable] using hs)) _ _ _⟩
  | _, _, _, _, .str x, r, e, _, hz => by
    cases e
    obtain ⟨t, rfl⟩ := r
    exact ⟨⟨_, .str x t⟩, [], (fun _ h => nomatch h), (fun _ h => nomatch h), by simp only [PyData.shown]; exact .of_is (ReprIs.str x t (by simpa only [PyData.shown] using hz)) _ _ _⟩
  | _, .lst ds, _, _, .lst (a := a) h q, r, e, hs, hz => by
    simp only [toPy, Option.map_eq_some_iff] at e
    obtain ⟨ps, e1, rfl⟩ := e
    cases r
    obtain ⟨_, its, n, rv, h1⟩ := (show ObjOk X.prog X.w H s.heap a (.lst _) from I.hok a _ h)
    have hz' : (listText (PyData.shownAll ps)).length ≤ sizeLine := by simpa only [PyData.shown] using hz
    obtain ⟨⟨as, h4⟩, bs, hb, hn, hk⟩ := rpKL I q rv e1 (by simpa [PyData.showable] using hs) (fun t ht => Nat.le_trans (listText_mem_le ht) hz')
    have rd : Reads s.heap (.ref a) (.list ps) _ := .list h1 rfl rfl h4
    have hna : a ∉ bs := not_mem_of_deeper rd (by simp only [PyData.depth]; omega) hb
    refine ⟨⟨_, rd⟩, a :: bs, ReadAtMost.cons rd (by simp only [PyData.depth]; omega) hb, fun b hb => ?_, ?_⟩
    · rcases List.mem_cons.mp hb with rfl | hb
      · intro o xs z
        rw [h] at z
        cases z
      · exact hn b hb
    · simp only [PyData.depth, PyData.shown]
      cases its with
      | nil =>
        have h4' : ReadsAll s.heap [] ps _ := h4
        cases h4'
        simp only [PyData.shownAll, listText_nil]
        exact ReprK.listEmpty h1 rfl rfl
      | cons x l => exact ReprK.list h1 rfl rfl hna (by simpa using hk.length_eq) (fun i y e => hk.item i y (by simpa using e))
  | _, .tup ds, _, _, .tup (a := a) h q, r, e, hs, hz => by
    simp only [toPy, Option.map_eq_some_iff] at e
    obtain ⟨ps, e1, rfl⟩ := e
    cases r
    obtain ⟨_, its, rv, o, h1, h2, n, h3⟩ := (show ObjOk X.prog X.w H s.heap a (.tup _) from I.hok a _ h)
    have hz' : (tupleText (PyData.shownAll ps)).length ≤ sizeLine := by simpa only [PyData.shown] using hz
    obtain ⟨⟨as, h4⟩, bs, hb, hn, hk⟩ := rpKL I q rv e1 (by simpa [PyData.showable] using hs) (fun t ht => Nat.le_trans (tupleText_mem_le ht) hz')
    have rd : Reads s.heap (.ref a) (.tuple ps) _ := .tuple h1 h2 h3 h4
    have hna : a ∉ bs := not_mem_of_deeper rd (by simp only [PyData.depth]; omega) hb
    refine ⟨⟨_, rd⟩, a :: bs, ReadAtMost.cons rd (by simp only [PyData.depth]; omega) hb, fun b hb => ?_, ?_⟩
    · rcases List.mem_cons.mp hb with rfl | hb
      · intro o xs z
        rw [h] at z
        cases z
      · exact hn b hb
    · simp only [PyData.depth, PyData.shown]
      exact ReprK.tuple h1 h2 h3 hna hk
  | _, _, _, _, .dicK _ _, _, e, _, _ => by simp [toPy] at e
  | _, _, _, _, .dicT _ _, _, e, _, _ => by simp [toPy] at e
  | _, _, _, _, .ins _ _ _, _, e, _, _ => by simp [toPy] at e
theorem rpKL (I : Inv X pins σ H s) : ∀ {vs : List V} {ds : List D} {us : List Value} {ps : List PyData}, RpL X.mg X.K H vs ds → Vals vs us → toPyL ds = some ps → PyData.showableAll ps = true → (∀ t ∈ PyData.shownAll ps, t.length ≤ sizeLine) →
    (∃ as, ReadsAll s.heap us ps as) ∧ ∃ bs, ReadAtMost s.heap (PyData.depthAll ps) bs ∧ (∀ b ∈ bs, NotF H b) ∧ ReprAllK X.prog X.w bs s.heap (PyData.depthAll ps) us (PyData.shownAll ps)
  | _, _, _, _, .nil, r, e, _, _ => by
    simp only [toPyL, Option.some.injEq] at e
    subst e
    cases r
    exact ⟨⟨_, .nil⟩, [], (fun _ h => nomatch h), (fun _ h => nomatch h), by simp only [PyData.shownAll]; exact .nil⟩
  | _, d :: ds, _, _, .cons h q, r, e, hs, hz => by
    simp only [toPyL] at e
    split at e
    · rename_i p qs e1 e2
      cases e
      cases r with
      | cons r1 r2 =>
        have hs' : p.showable = true ∧ PyData.showableAll qs = true := by simpa [PyData.showableAll] using hs
        obtain ⟨⟨a1, d1⟩, b1, hb1, n1, k1⟩ := rpK I h r1 e1 hs'.1 (hz _ (by simp only [PyData.shownAll]; exact List.mem_cons_self ..))
        obtain ⟨⟨a2, d2⟩, b2, hb2, n2, k2⟩ := rpKL I q r2 e2 hs'.2 (fun t ht => hz t (by simp only [PyData.shownAll]; exact List.mem_cons_of_mem _ ht))
        refine ⟨⟨_, .cons d1 d2⟩, b1 ++ b2, ?_, ?_, ?_⟩
        · intro b hm
          simp only [PyData.depthAll]
          rcases List.mem_append.mp hm with hm | hm
          · obtain ⟨d', as', r', hd'⟩ := hb1 b hm
            exact ⟨d', as', r', Nat.le_trans hd' (Nat.le_max_left _ _)⟩
          · obtain ⟨d', as', r', hd'⟩ := hb2 b hm
            exact ⟨d', as', r', Nat.le_trans hd' (Nat.le_max_right _ _)⟩
        · intro b hm
          rcases List.mem_append.mp hm with hm | hm
          · exact n1 b hm
          · exact n2 b hm
        · simp only [PyData.depthAll, PyData.shownAll]
          exact .cons ((k1.more fun b hb => List.mem_append_left _ hb).level_le (Nat.le_max_left _ _)) (k2.more_le (fun b hb => List.mem_append_right _ hb) (Nat.le_max_right _ _))
    · cases e
end
end
end DL
set_option maxHeartbeats 2000000
namespace DL
open PySem PySem.Spec PyProof.Rows L2
section
variable {mg : Str → Option Value} {K : PySem.W.Frag} {H : Hp}
def kyD : Key → D
  | .inl i => .int i
  | .inr x => .str x
def vlD : V → D
  | .int i => .int i
  | .bl b => .bl b
  | .str x => .str x
  | _ => .non
theorem rpl_k : ∀ k : List Key, RpL mg K H (k.map kV) (k.map kyD)
  | [] => .nil
  | .inl i :: k => .cons (.int i) (rpl_k k)
  | .inr x :: k => .cons (.str x) (rpl_k k)
theorem toPy_k : ∀ k : List Key, toPyL (k.map kyD) = some (k.map keyPy)
  | [] => rfl
  | .inl i :: k => by
    show (match toPy (.int i), toPyL (k.map kyD) with | some p, some ps => some (p :: ps) | _, _ => none) = _
    rw [toPy_k k]; rfl
  | .inr x :: k => by
    show (match toPy (.str x), toPyL (k.map kyD) with | some p, some ps => some (p :: ps) | _, _ => none) = _
    rw [toPy_k k]; rfl
theorem rp_vD {v : V} {p : PyData} (e : flatV v = some p) : Rp mg K H v (vlD v) ∧ toPy (vlD v) = some p := by
  cases v with
  | non => cases e; exact ⟨.non, rfl⟩
  | bl b => cases e; exact ⟨.bl b, rfl⟩
  | int i => cases e; exact ⟨.int i, rfl⟩
  | str x => cases e; exact ⟨.str x, rfl⟩
  | _ => cases e
theorem pairs_rp : ∀ {kvs : List (List Key × V)} {xs : List (List Key × Addr × Value)} {ps : List (PyData × PyData)}, KT H kvs xs → pairsV kvs = some ps →
    RpL mg K H (xs.map fun x => V.ref x.2.1) (kvs.map fun q => D.tup (q.1.map kyD)) ∧ toPyL (kvs.map fun q => D.tup (q.1.map kyD)) = some (ps.map (·.1)) ∧
    RpL mg K H (kvs.map (·.2)) (kvs.map fun q => vlD q.2) ∧ toPyL (kvs.map fun q => vlD q.2) = some (ps.map (·.2)) ∧
    Vals (xs.map fun x => V.ref x.2.1) (xs.map fun x => Value.ref x.2.1) ∧ Vals (kvs.map (·.2)) (xs.map (·.2.2))
  | [], [], ps, .nil, e => by
    cases e
    exact ⟨.nil, rfl, .nil, rfl, .nil, .nil⟩
  | (k, v) :: kvs, x :: xs, ps, .cons r rs, e => by
    simp only [pairsV, Option.bind_eq_some_iff, Option.map_eq_some_iff] at e
    obtain ⟨p, e1, qs, e2, rfl⟩ := e
    obtain ⟨a1, a2, a3, a4, a5, a6⟩ := pairs_rp rs e2
    obtain ⟨v1, v2⟩ := rp_vD (mg := mg) (K := K) (H := H) e1
    refine ⟨.cons (.tup r.2.1 (rpl_k k)) a1, ?_, .cons v1 a3, ?_, .cons rfl a5, .cons r.2.2 a6⟩
    · show (match toPy (.tup (k.map kyD)), toPyL (kvs.map fun q => D.tup (q.1.map kyD)) with | some p, some ps => some (p :: ps) | _, _ => none) = _
      have : toPy (.tup (k.map kyD)) = some (.tuple (k.map keyPy)) := by
        show (toPyL (k.map kyD)).map _ = _
        rw [toPy_k]; rfl
      rw [this, a2]; rfl
    · show (match toPy (vlD v), toPyL (kvs.map fun q => vlD q.2) with | some p, some ps => some (p :: ps) | _, _ => none) = _
      rw [v2, a4]; rfl
end
section
variable {X : Cx} {pins : List (Addr × Obj)} {σ : L2.St} {H : Hp} {s : Shared} {A : Around} {g : List Code} {E : Value → Shared → Prop} {Q : Value → Shared → Prop}
/-- repr of a list or a tuple of data -/
theorem reprObj_rp (I : Inv X pins σ H s) {a : Addr} {d : D} {p : PyData} (rp : Rp X.mg X.K H (.ref a) d) (hp : toPy d = some p) (hs : p.showable = true) (hz : p.shown.length ≤ sizeLine) (hg : A.guards = some g) (gd : GdF g H) (hu : A.units + p.depth < cLine)
    (hQ : ∀ h' u tk, (∀ b o, s.heap.get? b = some o → h'.get? b = some o) → Q (.str p.shown u) { s with heap := h', toks := tk }) : wpAny (model X.prog X.w) A (pyReprObj (.ref a)) Q E s := by
  cases rp with
  | lst h q =>
    rename_i vs ds
    simp only [toPy, Option.map_eq_some_iff] at hp
    obtain ⟨ps, e1, rfl⟩ := hp
    obtain ⟨_, its, n, rv, h1⟩ := (show ObjOk X.prog X.w H s.heap a (.lst _) from I.hok a _ h)
    have hz' : (listText (PyData.shownAll ps)).length ≤ sizeLine := by simpa only [PyData.shown] using hz
    obtain ⟨⟨as, h4⟩, bs, hb, hn, hk⟩ := rpKL I q rv e1 (by simpa [PyData.showable] using hs) (fun t ht => Nat.le_trans (listText_mem_le ht) hz')
    have hna : a ∉ bs := not_mem_of_deeper (.list h1 rfl rfl h4) (by simp only [PyData.depth]; omega) hb
    have hna2 : NotF H a := fun o xs z => by rw [h] at z; cases z
    have hcl : ∀ b ∈ a :: bs, Clear g b := fun b hb => by
      rcases List.mem_cons.mp hb with rfl | hb
      · exact gd.clear hna2
      · exact gd.clear (hn b hb)
    simp only [PyData.depth] at hu
    simp only [PyData.shown] at hQ
    refine wpAny_pyReprObj_slot (by omega) ⟨_, h1, rfl⟩ F.slot_list_repr.toG ?_
    cases its with
    | nil =>
      have h4' : ReadsAll s.heap [] ps _ := h4
      cases h4'
      simp only [PyData.shownAll, listText_nil] at hQ
      exact call_list_repr_empty ⟨_, h1, rfl⟩ h1 rfl ⟨_, _, rfl, hQ s.heap _ _ fun _ _ e => e⟩
    | cons x l => exact call_list_reprK h1 rfl rfl hna (by simpa using hk.length_eq) (fun i y e => hk.item i y (by simpa using e)) hg hcl hu (fun _ _ e => e) (fun h' u tk hk => ⟨_, _, rfl, hQ h' u tk hk⟩) hz'
  | tup h q =>
    rename_i vs ds
    simp only [toPy, Option.map_eq_some_iff] at hp
    obtain ⟨ps, e1, rfl⟩ := hp
    obtain ⟨_, its, rv, o, h1, h2, n, h3⟩ := (show ObjOk X.prog X.w H s.heap a (.tup _) from I.hok a _ h)
    have hz' : (tupleText (PyData.shownAll ps)).length ≤ sizeLine := by simpa only [PyData.shown] using hz
    obtain ⟨⟨as, h4⟩, bs, hb, hn, hk⟩ := rpKL I q rv e1 (by simpa [PyData.showable] using hs) (fun t ht => Nat.le_trans (tupleText_mem_le ht) hz')
    have hna : a ∉ bs := not_mem_of_deeper (.tuple h1 h2 h3 h4) (by simp only [PyData.depth]; omega) hb
    have hna2 : NotF H a := fun o xs z => by rw [h] at z; cases z
    have hcl : ∀ b ∈ a :: bs, Clear g b := fun b hb => by
      rcases List.mem_cons.mp hb with rfl | hb
      · exact gd.clear hna2
      · exact gd.clear (hn b hb)
    simp only [PyData.depth] at hu
    simp only [PyData.shown] at hQ
    refine wpAny_pyReprObj_slot (by omega) ⟨_, h1, h2⟩ F.slot_tuple_repr ?_
    exact call_tuple_reprK h1 h2 h3 hna hk hg hcl hu (fun _ _ e => e) (fun h' u tk hk => ⟨_, _, rfl, hQ h' u tk hk⟩) hz'
  | dicK _ _ => simp [toPy] at hp
  | dicT _ _ => simp [toPy] at hp
  | ins _ _ _ => simp [toPy] at hp
end
end DL
set_option maxHeartbeats 2000000
namespace DL
open PySem PySem.Spec PyProof.Rows L2
/-- XOk, while reprs of held lists may run -/
structure XOkG (X : Cx) (E : XK) (k : Nat) : Prop where
  room : Room k X.A
  gd : ∃ g, X.A.guards = some g ∧ GdF g X.H_0
  calm : X.calm = true
  pass : Passes (L2.CX X.prog X.w) X E
  own : PassesOwn (model X.prog X.w) X.A X.env X.xe
  nd : X.N.Nodup
theorem XOkG.u64 {X : Cx} {E : XK} {k : Nat} (x : XOkG X E k) : X.A.units + 64 < cLine := x.room.units
theorem XOkG.gdOf {X : Cx} {E : XK} {k : Nat} (x : XOkG X E k) {pins : List (Addr × Obj)} {σ : L2.St} {H : Hp} {s : Shared} (I : Inv X pins σ H s) : ∃ g, X.A.guards = some g ∧ GdF g H := by
  obtain ⟨g, h1, h2⟩ := x.gd
  exact ⟨g, h1, h2.mono fun b o u e => I.base.frzs b o u e⟩
/-- a promise that holds while reprs of held lists run -/
structure FnGG (P : Program) (w : World) (K : PySem.W.Frag) (mg : Str → Option Value) (base : Heap) (k : Nat) (f : Addr) (fd : FuncData) (ps : List Str) (sp : Sp) : Prop where
  len : ∀ vs H Q E, sp vs H Q E → vs.length = ps.length
  run : ∀ (A : Around) (outer : List Env) (s : Shared) (H : Hp) (args : PySem.Args) (us : List Value) (vs : List V) (Q : VK) (E : XK) (g : List Code), Room k A → A.guards = some g → GdF g H →
    Env0 P w K mg base A outer s H → BindsTo s fd args (ps.zip us) → Vals vs us → sp vs H Q E →
    codeAny (model P w) A (.call (.ref f) args) (CR (L2.CX P w) outer P w H s Q E) s
theorem FnGG.mono {P : Program} {w : World} {K : PySem.W.Frag} {mg : Str → Option Value} {base : Heap} {j k : Nat} {f : Addr} {fd : FuncData} {ps : List Str} {sp : Sp} (F : FnGG P w K mg base j f fd ps sp) (h : j ≤ k) : FnGG P w K mg base k f fd ps sp :=
  ⟨F.len, fun A outer s H args us vs Q E g hr => F.run A outer s H args us vs Q E g (hr.mono h)⟩
theorem fn_ofGG {P : Program} {w : World} {K : PySem.W.Frag} {mg : Str → Option Value} {base : Heap} {k : Nat} {f : Addr} {name qual : Str} {params : Arguments} {body : List Stmt} {scope : Scope} {dV kV doc pm cdv ct oc : Value} {an od : Option Addr} {osl : Array (Option Value)} {N ps : List Str} {sp : Sp}
    (lk : K.lookup f = some ⟨oc, od, .func (PySem.W.fnOf name qual params body scope dV kV doc pm an cdv ct), osl⟩) (hcd : PySem.W.codeIn K cdv qual = true) (S : FnScope N ps scope) (len : ∀ vs H Q E, sp vs H Q E → vs.length = ps.length)
    (hbody : ∀ (A : Around) (outer : List Env) (s : Shared) (H : Hp) (vs : List V) (Q : VK) (E : XK) (g : List Code), Room k (A.deeper (envOfC qual scope s.heap.objs.size f cdv)) → A.guards = some g → GdF g H → sp vs H Q E →
      ∃ t, PSs (cxOf (L2.CX P w) P w K mg base N qual scope f cdv A outer s H E) body t ∧ t { nx := fun _ H' => Q .non H', rt := Q } (start N vs) H) :
    FnGG P w K mg base (k + 1) f (PySem.W.fnOf name qual params body scope dV kV doc pm an cdv ct) ps sp := by
  refine ⟨len, ?_⟩
  intro A outer s H args us vs Q E g room gd gf env0 bind rel want
  have inK : K.In s.heap := env0.mod.kin.keeps fun b o q => (env0.bs b o q).1
  have noLim : s.heap.NoLimit := env0.mod.nolimit.keeps fun b o q => (env0.bs b o q).1
  refine codeAny_call_function room.depth (inK _ _ lk) rfl S.co S.gen rfl (PySem.W.codeRec_of inK hcd) (bind _ _ _ _ ?_)
  refine wpAny_newFunctionEnv_cells S.kind (fun q hq => ?_) fun env he s1 x => ?_
  · obtain ⟨n, v⟩ := q
    exact (S.par n (List.of_mem_zip hq).1).elim .inl fun z => .inr ⟨z, PySem.W.cellsFrom_some _ _ _ (.inl z)⟩
  · subst he
    refine ⟨noLim.keeps x.toInCall.keep, codeAny_func ?_⟩
    obtain ⟨t, ht, hq⟩ := hbody A outer s H vs Q E g (room.deeper _) gd gf want
    have I0 := inv_start (CX := L2.CX P w) (K := K) (mg := mg) (base := base) (N := N) (qual := qual) (f := f) (cd := cdv) (E := E) S room.hd env0 (len _ _ _ _ want) rel x
    refine wpAny_mono (ht.run [] s1 (start N vs) H _ I0 hq) (fun fl s' hs => ?_) fun e s' hs => hs
    cases fl with
    | ret u =>
      obtain ⟨v, σ', H', J, rv, q⟩ := hs
      exact ⟨v, H', J.os, J.bare, J.base, J.hok, rv, q⟩
    | next =>
      obtain ⟨σ', H', J, q⟩ := hs
      exact ⟨.non, H', J.os, J.bare, J.base, J.hok, rfl, q⟩
    | brk =>
      obtain ⟨_, _, _, q⟩ := hs
      exact q.elim
    | cont =>
      obtain ⟨_, _, _, q⟩ := hs
      exact q.elim
section
variable {P : Program} {w : World} {K : PySem.W.Frag} {mg : Str → Option Value} {base : Heap} {k : Nat} {x qual : Str} {st : Stmt} {N ps : List Str} {ks : List Ak} {r : Rm}
theorem fnD_ofG {fs : Fs} {f : Addr} {fd : FuncData} (Γ Γ' : List Md) (h2 : Fun K x qual st f fd) (S : FnScope N ps (defScope st)) (hp : ks.length = ps.length) (hl : Γ.length = N.length) (hk : ks.length ≤ N.length) (hm : modesOk ks Γ = true)
    (hb : ∀ (f : Addr) (cdv : Value) (A : Around) (outer : List Env) (s : Shared) (H : Hp) (E : XK), XOkG (cxOf (L2.CX P w) P w K mg base N qual (defScope st) f cdv A outer s H E) E k →
      ∃ ts, DSs (cxOf (L2.CX P w) P w K mg base N qual (defScope st) f cdv A outer s H E) E r Γ Γ Γ' (defBody st) ts fs) :
    FnGG P w K mg base (k + 1) f fd ps (SpD mg K ks r (runD N.length r fs)) := by
  obtain ⟨oc, od, kV, doc, pm, an, cdv, ct, osl, rfl, lk, hcd⟩ := h2.ex
  refine fn_ofGG lk hcd S (fun vs H Q E h => by rw [h.1, hp]) fun A outer s H vs Q E g room gd gf want => ?_
  obtain ⟨_, pot, M, ds, π, ar, al, pm, pt, post⟩ := want
  have o : XOkG (cxOf (L2.CX P w) P w K mg base N qual (defScope st) f cdv A outer s H E) E k :=
    ⟨room, ⟨g, gd, gf⟩, rfl, passes_call (takes_of rfl rfl rfl rfl) fun _ _ _ _ z => z, passes_of rfl, S.nd⟩
  obtain ⟨ts, B⟩ := hb f cdv A outer s H E o
  refine ⟨ts, B.pss, ?_⟩
  have I := env_start hm hl hk ar al pm
  refine B.sem pot M H (fun _ => none) M _ H _ π _ ⟨I, .refl, fun a h => h, fun i d a h1 h2 h3 => ?_, fun a h => (al a h).nn, fun a u e => by cases e⟩ pt ?_
  · exfalso
    obtain ⟨k', v, q1, _⟩ := ar.at (startD_at h2)
    obtain ⟨m1, _⟩ := Bool.and_eq_true_iff.mp hm
    have m1 := of_decide_eq_true m1
    have hi := (List.getElem?_eq_some_iff.mp q1).1
    have e : (Γ.take ks.length)[i]? = Γ[i]? := List.getElem?_take_of_lt hi
    rw [h1, m1, List.getElem?_map, q1] at e
    cases k' <;> cases e
  · unfold runD at post
    cases ef : fs (startD N.length ds) π with
    | err c ns xs π' =>
      rw [ef] at post
      exact post
    | stuck =>
      rw [ef] at post
      exact post
    | ok y =>
      obtain ⟨y, π1⟩ := y
      rw [ef] at post
      cases y with
      | rt d => exact fun v H' g p q => post v H' g p q
      | nx ρ =>
        simp only [Res.bind_ok] at post
        split at post
        · rename_i hrf
          subst hrf
          exact fun M' σ' H' S' p' => post .non H' S'.gr p' .non
        · exact post.elim
      | bk ρ => exact post.elim
      | ct ρ => exact post.elim
/-- a method of a class whose promise holds while reprs of held lists run -/
structure DMG (P : Program) (w : World) (K : PySem.W.Frag) (mg : Str → Option Value) (base : Heap) (k : Nat) (c x qual : Str) (st : Stmt) (ps : List Str) (ks : List Ak) (r : Rm) (m : Fd) : Prop where
  ex : ∃ C f fd, mg c = some (.ref C) ∧ Cls K C ∧ Meth K C x f ∧ Fun K x qual st f fd ∧ FnGG P w K mg base k f fd ps (SpD mg K (.f :: ks) r m)
theorem DMG.mono {j : Nat} {c : Str} {m : Fd} (F : DMG P w K mg base j c x qual st ps ks r m) (h : j ≤ k) : DMG P w K mg base k c x qual st ps ks r m := by
  obtain ⟨C, f, fd, h0, h1, h2, h3, h4⟩ := F.ex
  exact ⟨C, f, fd, h0, h1, h2, h3, h4.mono h⟩
theorem dmg_of {c : Str} {fs : Fs} (Γ Γ' : List Md) (hf : ∃ C f fd, mg c = some (.ref C) ∧ Cls K C ∧ Meth K C x f ∧ Fun K x qual st f fd) (S : FnScope N ps (defScope st)) (hp : (Ak.f :: ks).length = ps.length) (hl : Γ.length = N.length) (hk : (Ak.f :: ks).length ≤ N.length) (hm : modesOk (.f :: ks) Γ = true)
    (hb : ∀ (f : Addr) (cdv : Value) (A : Around) (outer : List Env) (s : Shared) (H : Hp) (E : XK), XOkG (cxOf (L2.CX P w) P w K mg base N qual (defScope st) f cdv A outer s H E) E k →
      ∃ ts, DSs (cxOf (L2.CX P w) P w K mg base N qual (defScope st) f cdv A outer s H E) E r Γ Γ Γ' (defBody st) ts fs) :
    DMG P w K mg base (k + 1) c x qual st ps ks r (runD N.length r fs) := by
  obtain ⟨C, f, fd, h0, h1, h2, h3⟩ := hf
  exact ⟨C, f, fd, h0, h1, h2, h3, fnD_ofG Γ Γ' h3 S hp hl hk hm hb⟩
end
section
variable {X : Cx} {E : XK} {Γ : List Md} {pos p : Pos} {k j : Nat} {e : Expr} {te : TE} {fe : Ed}
def tFmtRp (mg : Str → Option Value) (K : PySem.W.Frag) (te : TE) : TE := fun σ H Q => te σ H fun v H1 => ∃ a d p, v = .ref a ∧ Rp mg K H1 v d ∧ toPy d = some p ∧ p.showable = true ∧ p.depth ≤ 60 ∧ p.shown.length ≤ sizeLine ∧ Q (.str p.shown) H1
theorem pe_fmtDG (o : XOkG X E k) (ex : PE X e te) : PE X (.FormattedValue e 114 none pos) (tFmtRp X.mg X.K te) := ⟨fun pins s σ H Q I h => by
  refine wpAny_FormattedValue_repr (thn (ex.run pins s σ H _ I h) fun v s1 shown => ?_)
  obtain ⟨x, H1, I1, r1, a, d, p, rfl, hd, hp, h1, h3, h4, q⟩ := shown
  cases r1
  obtain ⟨g, hg, gd⟩ := o.gdOf I1
  have hu : X.A.units + p.depth < cLine := by
    have := o.u64
    omega
  refine reprObj_rp I1 hd hp h1 h4 hg gd hu fun h' u tk hk => ?_
  exact wpAny_formatField_str ⟨.str _, H1, I1.kept (t' := tk) hk, ⟨_, rfl⟩, q⟩ ⟨.str _, H1, (I1.kept (t' := tk) hk).tok _, ⟨_, rfl⟩, q⟩ h4⟩
theorem de_fmtRG (o : XOkG X E k) (he : DE X E .b Γ e te fe) : DE X E .f Γ (.FormattedValue e 114 none pos) (tFmtRp X.mg X.K te) (eFmtR fe) :=
  ⟨pe_fmtDG o he.pe, fun pot M σ H ρ π I p Q h => by
    refine Post.seq (r' := .b) (te := te σ H) h p (fun Q' hq => he.sem pot M σ H ρ π I p Q' hq) fun d π1 v H1 _ g1 p1 r1 h1 => ?_
    dsimp only at h1
    cases d with
    | lst xs =>
      simp only at h1
      cases hw : showD (.lst xs) with
      | none =>
        rw [hw] at h1
        exact h1.elim
      | some w =>
        rw [hw] at h1
        simp only [Option.map_some, ofO_some, Res.bind_ok] at h1
        obtain ⟨p, e, g1, g2, g3, g4, rfl⟩ := showD_eq hw
        obtain ⟨a, zs, rfl, _, _⟩ := rb_lst r1
        exact ⟨a, _, p, rfl, rb_rp r1, e, g1, g3, g4, h1 _ H1 .refl p1 (.str _)⟩
    | tup xs =>
      simp only at h1
      cases hw : showD (.tup xs) with
      | none =>
        rw [hw] at h1
        exact h1.elim
      | some w =>
        rw [hw] at h1
        simp only [Option.map_some, ofO_some, Res.bind_ok] at h1
        obtain ⟨p, e, g1, g2, g3, g4, rfl⟩ := showD_eq hw
        obtain ⟨a, zs, rfl, _, _⟩ := rb_tup r1
        exact ⟨a, _, p, rfl, rb_rp r1, e, g1, g3, g4, h1 _ H1 .refl p1 (.str _)⟩
    | _ => exact h1.elim⟩
end
end DL
set_option maxHeartbeats 2000000
namespace DL
open PySem PySem.Spec PyProof.Rows L2 Builtin Builtin.List
section
variable {prog : Program} {w : World} {A : Around} {R : Result → Shared → Prop}
/-- J i: i elements are shown, their texts stand at P; K i: the i-th one is shown, not yet laid there -/
theorem loopJ {a P : Addr} {items : Array Value} {ts : List Str} {base : Nat} (hlen : ts.length = items.size) (J K : Nat → Shared → Prop)
    (hJ : ∀ i s, J i s → (∃ oa na, s.heap.get? a = some oa ∧ oa.data = .seq items na) ∧ ∃ c done, s.heap.get? P = some { cls := .type "list", dict := none, data := .seq (strValues done).toArray c, slots := #[] } ∧ done.map (·.1) = ts.take i)
    (hK : ∀ i s t, ts[i]? = some t → K i s → ∃ c done, s.heap.get? P = some { cls := .type "list", dict := none, data := .seq (strValues done).toArray c, slots := #[] } ∧ done.map (·.1) = ts.take i ∧ ∀ f : Array Value → Array Value, f (strValues done).toArray = (strValues (done ++ [(t, s.toks)])).toArray →
      J (i + 1) { s with heap := s.heap.update P (Obj.mapSeq f), toks := s.toks + 1 })
    (hT : ∀ i x t, items[i]? = some x → ts[i]? = some t → ∀ (s : Shared) (b : Nat) (rest : List Value) (E : Value → Shared → Prop) (Q : Str → Shared → Prop), b + t.length ≤ sizeLine → J i s → (∀ s', K i s' → Q t s') →
      wpAny (model prog w) (A.under (.builtin "list.__repr__.loop" ⟨.ref a :: rest, []⟩)) (pyReprUnder b x) Q E s)
    (hsz : base + (listText ts).length ≤ sizeLine) (hR : ∀ s, J items.size s → R (.ok (.ret (.str (listText ts) s.toks))) { s with toks := s.toks + 1 }) :
    ∀ (k i : Nat) (s : Shared), items.size - i = k → i ≤ items.size → J i s →
    codeAny (model prog w) A (.builtin "list.__repr__.loop" ⟨[.ref a, rawInt i, .ref P, rawInt ((base + piled (ts.take i) : Nat) : Int)], []⟩) R s := by
  have hX : (listText ts).length = (textFrom 0 "[" ts).length + 1 := by
    show (textFrom 0 "[" ts ++ "]").length = _
    rw [strLen_append]; rfl
  have hL := textFrom_len ts 0 "["
  have hsz1 : items.size ≤ sizeLine := by
    have h1 := hL.1
    rw [if_neg (Nat.lt_irrefl 0)] at h1
    omega
  have hsz2 : ∀ t ∈ ts, t.length ≤ sizeLine := fun t ht => by
    have h2 := hL.2.1 t ht
    omega
  have hsz3 : (listText ts).length ≤ sizeLine := by omega
  have hp3 := piled_le_listText ts
  intro k
  induction k with
  | zero =>
    intro i s hk hi hj
    have hin : i = items.size := by omega
    obtain ⟨⟨oa, na, ha, hda⟩, c, done, hP, hdone⟩ := hJ i s hj
    refine codeAny_builtin F.entry_list_repr_loop ?_
    show wpAny _ _ («list.__repr__.loop» ⟨[.ref a, .int i 0, .ref P, .int ((base + piled (ts.take i) : Nat) : Int) 0], []⟩) _ _ s
    rw [repr_loop_tree]
    refine wpAny_bind (wpAny_listItems ha hda ?_)
    have hnone : items[(i : Int).toNat]? = none := by simp [hin]
    simp only [hnone]
    unfold reprEnd
    refine wpAny_bind (wpAny_listItems hP rfl ?_)
    have hacc : (strValues done).toArray.toList = strValues done := by simp
    rw [hacc, repr_fold]
    refine wpAny_bind (wpAny_pure ?_)
    have hall : done.map (·.1) = ts := by rw [hdone, hin, ← hlen, List.take_length]
    rw [hall]
    refine wpAny_bind (wpAny_mkStr (wpAny_pure ?_) hsz3)
    exact hR s (hin ▸ hj)
  | succ k ih =>
    intro i s hk hi hj
    have hlt : i < items.size := by omega
    obtain ⟨t, ht⟩ : ∃ t, ts[i]? = some t := ⟨ts[i]'(by omega), List.getElem?_eq_getElem (by omega)⟩
    have hx : items[i]? = some items[i] := by simp [hlt]
    obtain ⟨⟨oa, na, ha, hda⟩, -⟩ := hJ i s hj
    have hp1 := piled_take_succ ht
    have hp2 := piled_take_le ts (i + 1)
    refine codeAny_builtin F.entry_list_repr_loop ?_
    show wpAny _ _ («list.__repr__.loop» ⟨[.ref a, .int i 0, .ref P, .int ((base + piled (ts.take i) : Nat) : Int) 0], []⟩) _ _ s
    rw [repr_loop_tree]
    refine wpAny_bind (wpAny_listItems ha hda ?_)
    have hsome : items[(i : Int).toNat]? = some items[i] := by simp [hlt]
    simp only [hsome]
    rw [Int.toNat_natCast]
    refine wpAny_bind (wpAny_holding (hT i _ t hx ht s (base + piled (ts.take i) + 1) _ _ _ (by omega) hj fun s' hk' => ?_))
    obtain ⟨c', done, hP', hdone, hk2⟩ := hK i s' t ht hk'
    refine wpAny_bind (wpAny_mkStr ?_ (hsz2 t (List.mem_of_getElem? ht)))
    refine wpAny_bind ?_
    show wpAny _ _ (updateSeq P _) _ _ _
    have hasz : (strValues done).toArray.size ≤ sizeLine := by
      have e2 : (strValues done).length = done.length := by simp [strValues]
      have e3 : done.length = (ts.take i).length := by rw [← hdone, List.length_map]
      have e4 : (ts.take i).length ≤ i := by rw [List.length_take]; omega
      rw [List.size_toArray]; omega
    refine wpAny_updateSeq hP' rfl (wpAny_pure ⟨F.quiet_list_repr_loop _, ?_⟩) hasz
    have e1 : ((i : Int) + 1) = ((i + 1 : Nat) : Int) := by omega
    have e2 : base + piled (ts.take i) + (t.length + 2) = base + piled (ts.take (i + 1)) := by omega
    rw [e1, e2]
    exact ih (i + 1) _ (by omega) hlt (hk2 _ (by simp [strValues]))
end
end DL
set_option maxHeartbeats 2000000
namespace DL
open PySem PySem.Spec PyProof.Rows L2 PySem.W
section
variable {prog : Program} {w : World} {A : Around} {E : Value → Shared → Prop} {s : Shared} {K : PySem.W.Frag} {C x f : Addr} {ox : Obj} {od : Option Obj}
theorem boundBy_K {last : Value → List Value → Sem Value} {name : Str} {Q : Option Value → Shared → Prop} (X : K.In s.heap) (I : PySem.W.InstAt s.heap x ox C od) (hs : findIn K (.ref C) name = some (some (.ref f))) (hf : isFn K (.ref f) = true)
    (h : wpAny (model prog w) A (last (.ref f) [.ref x]) (fun v => Q (some v)) E s) : wpAny (model prog w) A (callSpecialIfBoundBy? last (.ref x) name) Q E s := by
  simp only [callSpecialIfBoundBy?, bindSpecialIfBound?]
  refine wpAny_holding (wpAny_bind (wpAny_bind (wpAny_bind (I.type.here ((looks_findIn X hs).here ?_)))))
  refine wpAny_bind (wpAny_askSetting (wpAny_ite ?_))
  have fin : wpAny (model prog w) A (last (.ref f) [.ref x] >>= fun v => pure (some v)) Q E s := wpAny_bind (wpAny_mono h (fun v s' h' => wpAny_pure h') fun _ _ h' => h')
  split
  · exact wpAny_bind ((bind_fn X _ (beq_iff_eq.mp hf)).here (wpAny_pure (by exact fin)))
  · exact wpAny_tryCatch (wpAny_bind ((bind_fn X _ (beq_iff_eq.mp hf)).here (wpAny_pure (by exact fin))))
theorem under_K {b : Nat} {Q : Str → Shared → Prop} (hb : b ≤ sizeLine) (hu : A.units < cLine) (X : K.In s.heap) (I : PySem.W.InstAt s.heap x ox C od) (hs : findIn K (.ref C) "__repr__" = some (some (.ref f))) (hf : isFn K (.ref f) = true)
    (h : wpAny (model prog w) A (call (.ref f) [.ref x]) (fun v s' => ∃ z u, v = .str z u ∧ Q z s') E s) : wpAny (model prog w) A (pyReprUnder b (.ref x)) Q E s := by
  refine wpAny_pyReprUnder_ref hb ?_
  unfold pyReprObjUnder pyReprObjBy
  refine wpAny_bind (wpAny_cRoomFor hu ?_)
  refine wpAny_bind (wpAny_bind (I.type.here ((looks_findIn X hs).here ?_)))
  show wpAny _ _ (if (some (Value.ref f)).isNone = true then _ else _) _ _ _
  rw [if_neg (by simp)]
  refine wpAny_bind (boundBy_K (name := "__repr__") X I hs hf ?_)
  have hr : reprUnder? (.ref f) = none := rfl
  simp only [hr]
  show wpAny _ _ (call (.ref f) ([.ref x] ++ [])) _ _ _
  refine wpAny_mono h (fun v s' hv => ?_) fun _ _ y => y
  obtain ⟨z, u, rfl, q⟩ := hv
  exact wpAny_bind (wpAny_isInstance (T := "str") (b := true) rfl isSubtype_str_str (wpAny_pure ⟨z, u, rfl, q⟩))
end
end DL
set_option maxHeartbeats 2000000
namespace DL
open PySem PySem.Spec PyProof.Rows L2 PySem.W
section
variable {P : Program} {w : World} {K : PySem.W.Frag} {mg : Str → Option Value} {base : Heap}
abbrev loopC (a : Addr) (rest : List Value) : Code := .builtin "list.__repr__.loop" ⟨.ref a :: rest, []⟩
theorem loop_depth {A : Around} {a : Addr} {rest : List Value} : (A.under (loopC a rest)).depth = A.depth + 1 := by
  first | rfl | simp [Around.under, Code.weight, Code.isCreation, Code.isGuard, Code.isCaller, Code.frames, Code.isFrame, guardIds]
theorem loop_handled {A : Around} {a : Addr} {rest : List Value} : (A.under (loopC a rest)).handled = A.handled := by
  first | rfl | simp [Around.under]
theorem Room.loop {k : Nat} {A : Around} (r : Room (k + 1) A) (a : Addr) (rest : List Value) : Room k (A.under (loopC a rest)) :=
  ⟨loop_handled.trans r.hd, by have := r.dp; rw [loop_depth]; omega, by have := r.un; rw [units_under_list_loop]; omega⟩
theorem Env0.loop {A : Around} {outer : List Env} {s : Shared} {H : Hp} (e : Env0 P w K mg base A outer s H) (a : Addr) (rest : List Value) : Env0 P w K mg base (A.under (loopC a rest)) outer s H :=
  ⟨by first | exact e.frames | (simpa [Around.under, Code.envs, Code.isFrame, pushEnvs] using e.frames), e.mod, e.bs, e.bsz, e.funs, e.frf, e.hok, e.bare⟩
theorem loop_guards {A : Around} {g : List Code} (hg : A.guards = some g) (a : Addr) (rest : List Value) : (A.under (loopC a rest)).guards = some (loopC a rest :: g) :=
  guards_under_guard (isGuard_list_loop _) hg
theorem GdF.loop {g : List Code} {H : Hp} {a : Addr} {o : Obj} {xs : List V} (gd : GdF g H) (h : H a = some (.frz o (.lst xs))) (rest : List Value) : GdF (loopC a rest :: g) H := fun id v r kw hm => by
  rcases List.mem_cons.mp hm with e | hm
  · cases e
    exact ⟨a, o, xs, rfl, h⟩
  · exact gd id v r kw hm
end
section
variable {X : Cx} {pins : List (Addr × Obj)} {σ : L2.St} {H : Hp} {s : Shared} {k j : Nat} {E : Value → Shared → Prop} {c qual : Str} {st : Stmt} {ps : List Str} {m : Fd} {A : Around} {g : List Code}
/-- an own thing shown by its __repr__, around whatever runs -/
theorem el_own (F : DMG X.prog X.w X.K X.mg X.base j c "__repr__" qual st ps [] .f m) (I : Inv X pins σ H s)
    (hb : ∀ (kV doc pm : Value) (an : Option Addr) (cdv ct : Value) (us : List Value), us.length = ps.length → bindArgs (PySem.W.fnOf "__repr__" qual (defArgs st) (defBody st) (defScope st) .none kV doc pm an cdv ct) ⟨us, []⟩ = pure (ps.zip us))
    {C a da : Addr} {fa : List (Str × V)} (mC : X.mg c = some (.ref C)) (ha : H a = some (.ins C da fa)) (room : Room j A) (hg : A.guards = some g) (gd : GdF g H) (env : Env0 X.prog X.w X.K X.mg X.base A X.stack s H)
    {QQ : Str → Hp → Prop} (hsp : SpD X.mg X.K [.f] .f m [.ref a] H (fun v H' => ∃ y, v = .str y ∧ QQ y H') fun _ _ _ => False) {b : Nat} (hbs : b ≤ sizeLine) (hu : A.units < cLine) {Q : Str → Shared → Prop}
    (hQ : ∀ y s' H', Inv X pins σ H' s' → QQ y H' → Q y s') : wpAny (model X.prog X.w) A (pyReprUnder b (.ref a)) Q E s := by
  obtain ⟨C', f, fd, h0, h1, h2, h3, h4⟩ := F.ex
  rw [mC] at h0
  cases h0
  obtain ⟨mA, J, _⟩ := ins_get I.hok ha
  obtain ⟨od, J, _⟩ := J.look
  have hl : [Value.ref a].length = ps.length := by
    have e := h4.len _ _ _ _ hsp
    simpa using e
  have bd : BindsTo s fd ⟨[.ref a], []⟩ (ps.zip [.ref a]) := by
    obtain ⟨oc, od, kV, doc, pm, an, cdv, ct, osl, rfl, lk, hcd⟩ := h3.ex
    exact .of_eq (hb kV doc pm an cdv ct _ hl)
  have inK : X.K.In s.heap := env.mod.kin.keeps fun b o q => (env.bs b o q).1
  refine under_K hbs hu inK J h2.at_ h2.fn ?_
  refine wpAny_call (codeAny_mono (h4.run A X.stack s H ⟨[.ref a], []⟩ [.ref a] [.ref a] _ _ g room hg gd env bd (.cons rfl .nil) hsp) fun res s' z => ?_)
  match res, z with
  | .error e, z =>
    obtain ⟨_, _, _, _, _, _, _, _, _, _, _, _, no⟩ := z
    exact no.elim
  | .ok (.ret u), z =>
    obtain ⟨v, H', I', rv, y, rfl, q⟩ := I.after z
    obtain ⟨t, e⟩ := rv
    subst e
    exact ⟨y, t, rfl, hQ y s' H' I' q⟩
end
end DL
set_option maxHeartbeats 2000000
namespace DL
open PySem PySem.Spec PyProof.Rows L2 PySem.W Builtin Builtin.List
def txs (ts : List Str) : List V := ts.map V.str
/-- v is shown as t, from H on; what is so behind it -/
def ElR (X : Cx) (n : Nat) (v : V) (t : Str) (H : Hp) (S : Hp → Prop) : Prop := ∀ (pins : List (Addr × Obj)) (σ : L2.St) (s : Shared) (u : Value) (A : Around) (g : List Code) (E : Value → Shared → Prop) (b : Nat) (Q : Str → Shared → Prop),
  Inv X pins σ H s → RelV v u → Room n A → A.guards = some g → GdF g H → Env0 X.prog X.w X.K X.mg X.base A X.stack s H → b + t.length ≤ sizeLine → (∀ s' H', Inv X pins σ H' s' → S H' → Q t s') → wpAny (model X.prog X.w) A (pyReprUnder b u) Q E s
def ChainR (X : Cx) (n : Nat) (a P : Addr) (od : Obj) (vs0 : List V) : List V → List Str → List Str → Hp → (Hp → Prop) → Prop
  | [], [], _, H, S => S H
  | v :: vs, t :: ts, acc, H, S => ElR X n v t H fun H1 => H1 a = some (.frz od (.lst vs0)) ∧ H1 P = some (.lst (txs acc)) ∧ ChainR X n a P od vs0 vs ts (acc ++ [t]) (upd H1 P (.lst (txs (acc ++ [t])))) S
  | _, _, _, _, _ => False
theorem vals_txs : ∀ {ts : List Str} {us : List Value}, Vals (txs ts) us → ∃ done : List (Str × Tok), us = strValues done ∧ done.map (·.1) = ts
  | [], _, .nil => ⟨[], rfl, rfl⟩
  | t :: ts, _ :: _, .cons r rs => by
    obtain ⟨k, rfl⟩ := (show ∃ k, _ = Value.str t k from r)
    obtain ⟨done, rfl, e⟩ := vals_txs rs
    exact ⟨(t, k) :: done, rfl, by simp [e]⟩
theorem txs_vals (done : List (Str × Tok)) : Vals (txs (done.map (·.1))) (strValues done) := by
  induction done with
  | nil => exact .nil
  | cons d done ih => exact .cons ⟨d.2, rfl⟩ ih
section
variable {X : Cx} {pins : List (Addr × Obj)} {σ : L2.St} {H : Hp} {s : Shared} {n : Nat}
theorem list_loop {a P : Addr} {od : Obj} {vs : List V} {ts : List Str} {A : Around} {g : List Code} {R : Result → Shared → Prop} {S : Hp → Prop} {its : List Value} {na : Nat} (hlen : ts.length = vs.length) (hv : Vals vs its) (hod : od.data = .seq its.toArray na)
    (room : Room (n + 1) A) (hg : A.guards = some g)
    (gd0 : ∀ pins σ H s, Inv X pins σ H s → GdF g H) (env0 : ∀ pins σ H s, Inv X pins σ H s → Env0 X.prog X.w X.K X.mg X.base A X.stack s H) (hsz : (listText ts).length ≤ sizeLine)
    (I : Inv X pins σ H s) (ha : H a = some (.frz od (.lst vs))) (hP : H P = some (.lst (txs []))) (ch : ChainR X n a P od vs vs ts [] H S)
    (hR : ∀ s' H', Inv X pins σ H' s' → H' a = some (.frz od (.lst vs)) → S H' → R (.ok (.ret (.str (listText ts) s'.toks))) { s' with toks := s'.toks + 1 }) :
    codeAny (model X.prog X.w) A (.builtin "list.__repr__.loop" ⟨[.ref a, rawInt 0, .ref P, rawInt ((0 + piled (ts.take 0) : Nat) : Int)], []⟩) R s := by
  have hvl := hv.length
  have hts : ts.length ≤ sizeLine := by
    have hX : (listText ts).length = (textFrom 0 "[" ts).length + 1 := by
      show (textFrom 0 "[" ts ++ "]").length = _
      rw [strLen_append]; rfl
    have h1 := (textFrom_len ts 0 "[").1
    rw [if_neg (Nat.lt_irrefl 0)] at h1
    omega
  let J : Nat → Shared → Prop := fun i s => ∃ H, Inv X pins σ H s ∧ H a = some (.frz od (.lst vs)) ∧ H P = some (.lst (txs (ts.take i))) ∧ ChainR X n a P od vs (vs.drop i) (ts.drop i) (ts.take i) H S
  let K : Nat → Shared → Prop := fun i s => ∃ H1, Inv X pins σ H1 s ∧ H1 a = some (.frz od (.lst vs)) ∧ H1 P = some (.lst (txs (ts.take i))) ∧ ChainR X n a P od vs (vs.drop (i + 1)) (ts.drop (i + 1)) (ts.take (i + 1)) (upd H1 P (.lst (txs (ts.take (i + 1))))) S
  have atP : ∀ {H : Hp} {s : Shared} {i : Nat}, Inv X pins σ H s → H P = some (.lst (txs (ts.take i))) → ∃ c done, s.heap.get? P = some { cls := .type "list", dict := none, data := .seq (strValues done).toArray c, slots := #[] } ∧ done.map (·.1) = ts.take i := fun {H s i} I h => by
    obtain ⟨_, its', c, rv, _, e⟩ := I.lstM h
    obtain ⟨done, rfl, hd⟩ := vals_txs rv
    exact ⟨c, done, e, hd⟩
  refine loopJ (items := its.toArray) (ts := ts) (base := 0) (by simp [hlen, hvl]) J K (fun i s h => ?_) (fun i s t ht h => ?_) (fun i x t hx ht s b rest E Q hb h hQ => ?_) (by omega) (fun s h => ?_) _ 0 s rfl (Nat.zero_le _) ⟨H, I, ha, hP, ch⟩
  · obtain ⟨H, I, h1, h2, _⟩ := h
    obtain ⟨e, _⟩ := (show ObjOk X.prog X.w H s.heap a (.frz od (.lst vs)) from I.hok a _ h1)
    exact ⟨⟨od, na, e, hod⟩, atP I h2⟩
  · obtain ⟨H1, I, h1, h2, h3⟩ := h
    obtain ⟨c, done, e, hd⟩ := atP I h2
    refine ⟨c, done, e, hd, fun f hf => ?_⟩
    have hne : a ≠ P := fun z => by rw [z, h2] at h1; cases h1
    have htk : ts.take (i + 1) = ts.take i ++ [t] := by simp [List.take_add_one, ht]
    have hv2 : Vals (txs (ts.take (i + 1))) (strValues (done ++ [(t, s.toks)])) := by
      have := txs_vals (done ++ [(t, s.toks)])
      rw [List.map_append, hd] at this
      rw [htk]
      exact this
    refine ⟨upd H1 P (.lst (txs (ts.take (i + 1)))), I.lset h2 e hf hv2 (by simp only [txs, List.length_map, List.length_take]; omega), by rw [upd_ne hne]; exact h1, upd_same, h3⟩
  · obtain ⟨H, I, h1, h2, h3⟩ := h
    have hi : i < ts.length := by
      have := (List.getElem?_eq_some_iff.mp ht).1
      exact this
    have hiv : i < vs.length := by omega
    rw [List.drop_eq_getElem_cons hiv, List.drop_eq_getElem_cons hi] at h3
    have htt : ts[i] = t := by rw [List.getElem?_eq_getElem hi] at ht; exact Option.some.inj ht
    rw [htt] at h3
    obtain ⟨u, hu1, hu2⟩ := hv.get (i := i) (x := vs[i]) (by simp [hiv])
    have hxu : x = u := by
      have : its.toArray[i]? = its[i]? := by simp
      rw [this, hu1] at hx
      exact (Option.some.inj hx).symm
    subst hxu
    refine h3 pins σ s x (A.under (loopC a rest)) (loopC a rest :: g) E b Q I hu2 (Room.loop room a rest) (loop_guards hg a rest) ((gd0 pins σ H s I).loop h1 rest) (Env0.loop (env0 pins σ H s I) a rest) hb fun s' H' I' hS => hQ s' ?_
    obtain ⟨q1, q2, q3⟩ := hS
    have htk : ts.take (i + 1) = ts.take i ++ [t] := by simp [List.take_add_one, ht]
    exact ⟨H', I', q1, q2, by rw [htk]; exact q3⟩
  · obtain ⟨H, I, h1, h2, h3⟩ := h
    have e1 : vs.drop its.toArray.size = [] := List.drop_eq_nil_of_le (by simp; omega)
    have e2 : ts.drop its.toArray.size = [] := List.drop_eq_nil_of_le (by simp; omega)
    rw [e1, e2] at h3
    exact hR s H I h1 h3
end
end DL
set_option maxHeartbeats 2000000
namespace DL
open PySem PySem.Spec PyProof.Rows L2 PySem.W Builtin Builtin.List
def rReprLs (X : Cx) (n : Nat) : List V → Hp → VK → Prop := fun xs H Q => ∃ a vs ts, xs = [V.ref a] ∧ H a = some (.lst vs) ∧ vs ≠ [] ∧ ts.length = vs.length ∧ (listText ts).length ≤ sizeLine ∧
  ∀ od P, H P = none → ChainR X n a P od vs vs ts [] (upd (upd H a (.frz od (.lst vs))) P (.lst [])) fun H' => Q (.str (listText ts)) (upd H' a (.lst vs))
section
variable {X : Cx} {E : XK} {k n : Nat}
theorem cr_reprLs (o : XOk X E k) (hn : n + 2 ≤ k) : CallR X (.builtin "repr") (rReprLs X n) := by
  intro pins s σ H xs us Q I r h
  obtain ⟨a, vs, ts, rfl, ha, hne0, hlen, hsz, hch⟩ := h
  obtain ⟨u, rfl, ru⟩ := r.one
  cases ru
  have nofr := I.nofrz ha trivial
  obtain ⟨od, I1⟩ := I.lock ha trivial
  have ha1 : upd H a (.frz od (.lst vs)) a = some (.frz od (.lst vs)) := upd_same
  obtain ⟨e1, _, its, na, hv, e2⟩ := (show ObjOk X.prog X.w (upd H a (.frz od (.lst vs))) s.heap a (.frz od (.lst vs)) from I1.hok a _ ha1)
  obtain ⟨i0, il, rfl⟩ : ∃ x l, its = x :: l := by
    cases its with
    | nil => cases hv; exact absurd rfl hne0
    | cons x l => exact ⟨x, l, rfl⟩
  have hod : od = { cls := .type "list", data := .seq (i0 :: il).toArray na } := by rw [e1] at e2; exact Option.some.inj e2
  have hda : od.data = .seq (i0 :: il).toArray na := by rw [hod]
  have hcl : od.cls = .type "list" := by rw [hod]
  have hu := o.u64
  have room : Room (n + 2) X.A := o.room.mono hn
  refine call_repr_slot (by omega) ⟨od, e1, hcl⟩ F.slot_list_repr.toG ?_
  refine wpAny_call (codeAny_call_builtin F.slot_list_repr.plain F.entry_list_repr (F.slot_list_repr.check _ _ _ _ _ _ _ _ ⟨od, e1, hcl⟩ (F.args_list_repr_1 _) ?_))
  refine wpAny_list_repr_head (A := X.A.in1.in1) o.gd (fun v rest kw hm => nomatch hm) e1 hda ?_
  refine wpAny_bind (m := newList []) (wpAny_newObj_type ?_)
  refine wpAny_pure ⟨F.quiet_list_repr_loop _, ?_⟩
  have nP : H s.heap.objs.size = none := I.hok.fresh (Nat.le_refl _)
  have I2 := I1.laid (h' := s.heap.push { cls := .type "list", data := .seq #[] }) (a := s.heap.objs.size) (o := .lst (txs [])) (t' := s.toks) (fun _ _ q => Heap.get?_push_of_some _ q) (Nat.le_refl _)
    ⟨Nat.zero_le _, [], _, .nil, Heap.get?_push_size _ rfl⟩
  have hne : a ≠ s.heap.objs.size := Nat.ne_of_lt (Heap.lt_size e1)
  exact list_loop (n := n) hlen hv hda room.in1 o.gd (fun _ _ _ _ _ => GdF.nil _) (fun pins σ H s I => I.env0.in1) hsz I2 (by rw [upd_ne hne]; exact ha1) upd_same (hch od _ nP) fun s' H' I' h1 hS =>
    ⟨_, _, rfl, .str (listText ts), upd H' a (.lst vs), (I'.unlock h1 nofr).tok _, ⟨_, rfl⟩, hS⟩
end
end DL
set_option maxHeartbeats 2000000
namespace DL
open PySem PySem.Spec PyProof.Rows L2 PySem.W
section
variable {X : Cx} {H : Hp} {n j : Nat} {S : Hp → Prop} {c qual : Str} {st : Stmt} {ps : List Str} {m : Fd}
theorem elR_own (F : DMG X.prog X.w X.K X.mg X.base j c "__repr__" qual st ps [] .f m)
    (hb : ∀ (kV doc pm : Value) (an : Option Addr) (cdv ct : Value) (us : List Value), us.length = ps.length → bindArgs (PySem.W.fnOf "__repr__" qual (defArgs st) (defBody st) (defScope st) .none kV doc pm an cdv ct) ⟨us, []⟩ = pure (ps.zip us))
    {C a da : Addr} {fa : List (Str × V)} {t : Str} (mC : X.mg c = some (.ref C)) (ha : H a = some (.ins C da fa)) (hj : j ≤ n)
    (hsp : SpD X.mg X.K [.f] .f m [.ref a] H (fun v H' => ∃ y, v = .str y ∧ (y = t ∧ S H')) fun _ _ _ => False) : ElR X n (.ref a) t H S := fun pins σ s u A g E b Q I ru room hg gd env hbs hQ => by
  cases ru
  exact el_own F I hb mC ha (room.mono hj) hg gd env (QQ := fun y H' => y = t ∧ S H') hsp (by omega) (by have := room.un; omega) fun y s' H' I' q => by
    obtain ⟨rfl, q⟩ := q
    exact hQ s' H' I' q
end
end DL
set_option maxHeartbeats 2000000
namespace DL
open PySem PySem.Spec PyProof.Rows L2 PySem.W
mutual
def toPyX : D → Option PyData
  | .non => some .none
  | .bl b => some (.bool b)
  | .int i => some (.int i)
  | .str x => some (.str x)
  | .lst xs => (toPyXL xs).map .list
  | .tup xs => (toPyXL xs).map .tuple
  | .dic ks xs => if isTd ks = true then (pairsPy ks xs).map .dict else none
  | .ins _ _ _ => none
def toPyXL : List D → Option (List PyData)
  | [] => some []
  | x :: xs => match toPyX x, toPyXL xs with
    | some p, some ps => some (p :: ps)
    | _, _ => none
end
def showX (d : D) : Option Str := match toPyX d with
  | some p => if PyData.showable p && decide (PyData.depth p ≤ 60) && decide (p.shown.length ≤ sizeLine) then some p.shown else none
  | none => none
theorem showX_eq {d : D} {z : Str} (h : showX d = some z) : ∃ p, toPyX d = some p ∧ p.showable = true ∧ p.depth ≤ 60 ∧ p.shown.length ≤ sizeLine ∧ z = p.shown := by
  unfold showX at h
  split at h
  · rename_i p e
    split at h
    · rename_i c
      simp only [Bool.and_eq_true, decide_eq_true_eq] at c
      cases h
      exact ⟨p, e, c.1.1, c.1.2, c.2, rfl⟩
    · cases h
  · cases h
section
variable {X : Cx} {pins : List (Addr × Obj)} {σ : L2.St} {H : Hp} {s : Shared}
theorem dicK_ (I : Inv X pins σ H s) {a : Addr} {kvs : List (List Key × V)} {ps : List (PyData × PyData)} (hd : Rd H a (.dT kvs)) (hp : pairsV kvs = some ps) (hs : PyData.showable (.dict ps) = true) (hz : (PyData.shown (.dict ps)).length ≤ sizeLine) :
    ∃ (o : Obj) (es : Array DictEntry) (n : Nat) (as : List Addr), s.heap.get? a = some o ∧ o.cls = .type "dict" ∧ o.data = .dict es n ∧ (a == sysModules) = false ∧ Reads s.heap (.ref a) (.dict ps) as ∧
    ∃ bs, a ∉ bs ∧ NotF H a ∧ (∀ b ∈ bs, NotF H b) ∧ ReadAtMost s.heap (PyData.depthKv ps) bs ∧ ReprEntriesK X.prog X.w bs s.heap (PyData.depthKv ps) es.toList (PyData.shownKv ps) := by
  obtain ⟨h1, h2, xs, h3, o, es, ep, h4, h5, h6, h7, -, -⟩ := dt_rd I.hok hd
  obtain ⟨a1, a2, a3, a4, a5, a6⟩ := pairs_rp (mg := X.mg) (K := X.K) h3 hp
  have hz' : (dictText (PyData.shownKv ps)).length ≤ sizeLine := by simpa only [PyData.shown] using hz
  obtain ⟨hs1, hs2⟩ := PyData.showableKv_split ps (by simpa [PyData.showable] using hs)
  obtain ⟨⟨_, r1⟩, b1, hb1, n1, k1⟩ := rpKL I a1 a5 a2 hs1 (fun t ht => let ⟨p, hp, hl⟩ := PyData.shownKv_key_le ps t ht; Nat.le_trans hl (Nat.le_trans (dictText_mem_le hp) hz'))
  obtain ⟨⟨_, r2⟩, b2, hb2, n2, k2⟩ := rpKL I a3 a6 a4 hs2 (fun t ht => let ⟨p, hp, hl⟩ := PyData.shownKv_val_le ps t ht; Nat.le_trans hl (Nat.le_trans (dictText_mem_le hp) hz'))
  have e1 : es.toList.map (·.key) = xs.map fun x => Value.ref x.2.1 := by rw [h7, List.map_map]; rfl
  have e2 : es.toList.map (·.val) = xs.map (·.2.2) := by rw [h7, List.map_map]; rfl
  rw [← e1] at r1 k1
  rw [← e2] at r2 k2
  have hb : ReadAtMost s.heap (PyData.depthKv ps) (b1 ++ b2) := (hb1.mono (PyData.depthAll_keys_le ps)).append (hb2.mono (PyData.depthAll_vals_le ps))
  have hna : a ∉ b1 ++ b2 := not_mem_of_deeper (.dict h4 h5.1 h6 r1 r2) (by simp only [PyData.depth]; omega) hb
  have hna2 : NotF H a := fun o' ys z => by
    rcases hd with h | ⟨o', h⟩ <;> (rw [h] at z; cases z)
  refine ⟨o, es, ep, _, h4, h5.1, h6, h2, .dict h4 h5.1 h6 r1 r2, b1 ++ b2, hna, hna2, fun b hb => ?_, hb, ?_⟩
  · rcases List.mem_append.mp hb with hb | hb
    · exact n1 b hb
    · exact n2 b hb
  · rw [PyData.shownKv_eq]
    exact ReprEntriesK.of_two es.toList _ _ (k1.more_le (fun b hb => List.mem_append_left _ hb) (PyData.depthAll_keys_le ps)) (k2.more_le (fun b hb => List.mem_append_right _ hb) (PyData.depthAll_vals_le ps))
mutual
theorem rpX (I : Inv X pins σ H s) : ∀ {v : V} {d : D} {u : Value} {p : PyData}, Rp X.mg X.K H v d → RelV v u → toPyX d = some p → p.showable = true → p.shown.length ≤ sizeLine →
    (∃ as, Reads s.heap u p as) ∧ ∃ bs, ReadAtMost s.heap p.depth bs ∧ (∀ b ∈ bs, NotF H b) ∧ ReprK X.prog X.w bs s.heap p.depth u p.shown
  | _, _, _, _, .non, r, e, _, _ => by
    cases e; cases r
    exact ⟨⟨_, .none⟩, [], (fun _ h => nomatch h), (fun _ h => nomatch h), by simp only [PyData.shown]; exact .of_is ReprIs.none _ _ _⟩
  | _, _, _, _, .bl b, r, e, _, _ => by
    cases e; cases r
    exact ⟨⟨_, .bool b⟩, [], (fun _ h => nomatch h), (fun _ h => nomatch h), by simp only [PyData.shown]; exact .of_is (ReprIs.bool b) _ _ _⟩
  | _, _, _, _, .int i, r, e, hs, _ => by
    cases e
    obtain ⟨t, rfl⟩ := r
    exact ⟨⟨_, .int i t⟩, [], (fun _ h => nomatch h), (fun _ h => nomatch h), by simp only [PyData.shown]; exact .of_is (ReprIs.int t (by simpa [PyData.showable] using hs)) _ _ _⟩
  | _, _, _, _, .str x, r, e, _, hz => by
    cases e
    obtain ⟨t, rfl⟩ := r
    exact ⟨⟨_, .str x t⟩, [], (fun _ h => nomatch h), (fun _ h => nomatch h), by simp only [PyData.shown]; exact .of_is (ReprIs.str x t (by simpa only [PyData.shown] using hz)) _ _ _⟩
  | _, .lst ds, _, _, .lst (a := a) h q, r, e, hs, hz => by
    simp only [toPyX, Option.map_eq_some_iff] at e
    obtain ⟨ps, e1, rfl⟩ := e
    cases r
    obtain ⟨_, its, n, rv, h1⟩ := (show ObjOk X.prog X.w H s.heap a (.lst _) from I.hok a _ h)
    have hz' : (listText (PyData.shownAll ps)).length ≤ sizeLine := by simpa only [PyData.shown] using hz
    obtain ⟨⟨as, h4⟩, bs, hb, hn, hk⟩ := rpXL I q rv e1 (by simpa [PyData.showable] using hs) (fun t ht => Nat.le_trans (listText_mem_le ht) hz')
    have rd : Reads s.heap (.ref a) (.list ps) _ := .list h1 rfl rfl h4
    have hna : a ∉ bs := not_mem_of_deeper rd (by simp only [PyData.depth]; omega) hb
    refine ⟨⟨_, rd⟩, a :: bs, ReadAtMost.cons rd (by simp only [PyData.depth]; omega) hb, fun b hb => ?_, ?_⟩
    · rcases List.mem_cons.mp hb with rfl | hb
      · intro o xs z
        rw [h] at z
        cases z
      · exact hn b hb
    · simp only [PyData.depth, PyData.shown]
      cases its with
      | nil =>
        have h4' : ReadsAll s.heap [] ps _ := h4
        cases h4'
        simp only [PyData.shownAll, listText_nil]
        exact ReprK.listEmpty h1 rfl rfl
      | cons x l => exact ReprK.list h1 rfl rfl hna (by simpa using hk.length_eq) (fun i y e => hk.item i y (by simpa using e))
  | _, .tup ds, _, _, .tup (a := a) h q, r, e, hs, hz => by
    simp only [toPyX, Option.map_eq_some_iff] at e
    obtain ⟨ps, e1, rfl⟩ := e
    cases r
    obtain ⟨_, its, rv, o, h1, h2, n, h3⟩ := (show ObjOk X.prog X.w H s.heap a (.tup _) from I.hok a _ h)
    have hz' : (tupleText (PyData.shownAll ps)).length ≤ sizeLine := by simpa only [PyData.shown] using hz
    obtain ⟨⟨as, h4⟩, bs, hb, hn, hk⟩ := rpXL I q rv e1 (by simpa [PyData.showable] using hs) (fun t ht => Nat.le_trans (tupleText_mem_le ht) hz')
    have rd : Reads s.heap (.ref a) (.tuple ps) _ := .tuple h1 h2 h3 h4
    have hna : a ∉ bs := not_mem_of_deeper rd (by simp only [PyData.depth]; omega) hb
    refine ⟨⟨_, rd⟩, a :: bs, ReadAtMost.cons rd (by simp only [PyData.depth]; omega) hb, fun b hb => ?_, ?_⟩
    · rcases List.mem_cons.mp hb with rfl | hb
      · intro o xs z
        rw [h] at z
        cases z
      · exact hn b hb
    · simp only [PyData.depth, PyData.shown]
      exact ReprK.tuple h1 h2 h3 hna hk
  | _, _, _, _, .dicK _ _, _, e, _, _ => by simp [toPyX, isTd] at e
  | _, _, _, _, .dicT (kvs := kvs) h q, r, e, hs, hz => by
    simp only [toPyX] at e
    split at e
    · simp only [Option.map_eq_some_iff] at e
      obtain ⟨ps, e1, rfl⟩ := e
      cases r
      obtain ⟨o, es, n, as, h1, h2, h3, h4, h5, bs, h6, h7, h8, h9, h10⟩ := dicK_ I h (pairs_of q e1) hs hz
      refine ⟨⟨_, h5⟩, _ :: bs, ReadAtMost.cons h5 (by simp only [PyData.depth]; omega) h9, fun b hb => ?_, ?_⟩
      · rcases List.mem_cons.mp hb with rfl | hb
        · exact h7
        · exact h8 b hb
      · simp only [PyData.depth, PyData.shown]
        exact ReprK.dict h1 h2 h3 h4 h6 h10
    · cases e
  | _, _, _, _, .ins _ _ _, _, e, _, _ => by simp [toPyX] at e
theorem rpXL (I : Inv X pins σ H s) : ∀ {vs : List V} {ds : List D} {us : List Value} {ps : List PyData}, RpL X.mg X.K H vs ds → Vals vs us → toPyXL ds = some ps → PyData.showableAll ps = true → (∀ t ∈ PyData.shownAll ps, t.length ≤ sizeLine) →
    (∃ as, ReadsAll s.heap us ps as) ∧ ∃ bs, ReadAtMost s.heap (PyData.depthAll ps) bs ∧ (∀ b ∈ bs, NotF H b) ∧ ReprAllK X.prog X.w bs s.heap (PyData.depthAll ps) us (PyData.shownAll ps)
  | _, _, _, _, .nil, r, e, _, _ => by
    simp only [toPyXL, Option.some.injEq] at e
    subst e
    cases r
    exact ⟨⟨_, .nil⟩, [], (fun _ h => nomatch h), (fun _ h => nomatch h), by simp only [PyData.shownAll]; exact .nil⟩
  | _, d :: ds, _, _, .cons h q, r, e, hs, hz => by
    simp only [toPyXL] at e
    split at e
    · rename_i p qs e1 e2
      cases e
      cases r with
      | cons r1 r2 =>
        have hs' : p.showable = true ∧ PyData.showableAll qs = true := by simpa [PyData.showableAll] using hs
        obtain ⟨⟨a1, d1⟩, b1, hb1, n1, k1⟩ := rpX I h r1 e1 hs'.1 (hz _ (by simp only [PyData.shownAll]; exact List.mem_cons_self ..))
        obtain ⟨⟨a2, d2⟩, b2, hb2, n2, k2⟩ := rpXL I q r2 e2 hs'.2 (fun t ht => hz t (by simp only [PyData.shownAll]; exact List.mem_cons_of_mem _ ht))
        refine ⟨⟨_, .cons d1 d2⟩, b1 ++ b2, ?_, ?_, ?_⟩
        · intro b hm
          simp only [PyData.depthAll]
          rcases List.mem_append.mp hm with hm | hm
          · obtain ⟨d', as', r', hd'⟩ := hb1 b hm
            exact ⟨d', as', r', Nat.le_trans hd' (Nat.le_max_left _ _)⟩
          · obtain ⟨d', as', r', hd'⟩ := hb2 b hm
            exact ⟨d', as', r', Nat.le_trans hd' (Nat.le_max_right _ _)⟩
        · intro b hm
          rcases List.mem_append.mp hm with hm | hm
          · exact n1 b hm
          · exact n2 b hm
        · simp only [PyData.depthAll, PyData.shownAll]
          exact .cons ((k1.more fun b hb => List.mem_append_left _ hb).level_le (Nat.le_max_left _ _)) (k2.more_le (fun b hb => List.mem_append_right _ hb) (Nat.le_max_right _ _))
    · cases e
end
/-- such data as an element -/
theorem elR_x {n : Nat} {v : V} {d : D} {p : PyData} {S : Hp → Prop} (rp : Rp X.mg X.K H v d) (hp : toPyX d = some p) (hs : p.showable = true) (hd : p.depth ≤ 60) (hz : p.shown.length ≤ sizeLine) (hS : S H) : ElR X n v p.shown H S := fun pins σ s u A g E b Q I ru room hg gd env hb hQ => by
  obtain ⟨-, bs, -, hn, hk⟩ := rpX I rp ru hp hs hz
  exact hk b hb A g E s Q hg (fun b hb => gd.clear (hn b hb)) (by have := room.un; omega) (fun _ _ e => e) fun h' tk k => hQ _ H (I.kept (t' := tk) k) hS
/-- repr(x), x a list, a tuple or a dict of such data -/
def rReprXd (mg : Str → Option Value) (K : PySem.W.Frag) : List V → Hp → VK → Prop := fun vs H Q => ∃ a d p, vs = [V.ref a] ∧ Rp mg K H (.ref a) d ∧ toPyX d = some p ∧ p.showable = true ∧ p.depth ≤ 60 ∧ p.shown.length ≤ sizeLine ∧ Q (.str p.shown) H
theorem cr_reprXd {E : XK} {k : Nat} (x : XOk X E k) : CallR X (.builtin "repr") (rReprXd X.mg X.K) := by
  intro pins s σ H xs us Q I r h
  obtain ⟨a, d, p, rfl, rp, hp, hs, hd, hz, q⟩ := h
  obtain ⟨u, rfl, ru⟩ := r.one
  have hu := x.u64
  cases ru
  have gd : GdF [] H := GdF.nil H
  cases rp with
  | lst h q0 =>
    rename_i vs ds
    simp only [toPyX, Option.map_eq_some_iff] at hp
    obtain ⟨ps, e1, rfl⟩ := hp
    obtain ⟨_, its, n, rv, h1⟩ := (show ObjOk X.prog X.w H s.heap a (.lst _) from I.hok a _ h)
    have hz' : (listText (PyData.shownAll ps)).length ≤ sizeLine := by simpa only [PyData.shown] using hz
    obtain ⟨⟨as, h4⟩, bs, hb, hn, hk⟩ := rpXL I q0 rv e1 (by simpa [PyData.showable] using hs) (fun t ht => Nat.le_trans (listText_mem_le ht) hz')
    have hna : a ∉ bs := not_mem_of_deeper (.list h1 rfl rfl h4) (by simp only [PyData.depth]; omega) hb
    have hcl : ∀ b ∈ a :: bs, Clear [] b := fun b hb _ _ _ _ hm => nomatch hm
    simp only [PyData.depth] at hd
    simp only [PyData.shown] at q
    refine call_repr_slot (by omega) ⟨_, h1, rfl⟩ F.slot_list_repr.toG ?_
    cases its with
    | nil =>
      have h4' : ReadsAll s.heap [] ps _ := h4
      cases h4'
      simp only [PyData.shownAll, listText_nil] at q
      exact call_list_repr_empty ⟨_, h1, rfl⟩ h1 rfl ⟨_, _, rfl, .str _, H, I.tok _, ⟨_, rfl⟩, q⟩
    | cons x0 l => exact call_list_reprK h1 rfl rfl hna (by simpa using hk.length_eq) (fun i y e => hk.item i y (by simpa using e)) x.gd hcl (by show X.A.units + 1 + _ < cLine; omega) (fun _ _ e => e) (fun h' u tk hk => ⟨_, _, rfl, .str _, H, I.kept (t' := tk) hk, ⟨_, rfl⟩, q⟩) hz'
  | tup h q0 =>
    rename_i vs ds
    simp only [toPyX, Option.map_eq_some_iff] at hp
    obtain ⟨ps, e1, rfl⟩ := hp
    obtain ⟨_, its, rv, o, h1, h2, n, h3⟩ := (show ObjOk X.prog X.w H s.heap a (.tup _) from I.hok a _ h)
    have hz' : (tupleText (PyData.shownAll ps)).length ≤ sizeLine := by simpa only [PyData.shown] using hz
    obtain ⟨⟨as, h4⟩, bs, hb, hn, hk⟩ := rpXL I q0 rv e1 (by simpa [PyData.showable] using hs) (fun t ht => Nat.le_trans (tupleText_mem_le ht) hz')
    have hna : a ∉ bs := not_mem_of_deeper (.tuple h1 h2 h3 h4) (by simp only [PyData.depth]; omega) hb
    have hcl : ∀ b ∈ a :: bs, Clear [] b := fun b hb _ _ _ _ hm => nomatch hm
    simp only [PyData.depth] at hd
    simp only [PyData.shown] at q
    refine call_repr_slot (by omega) ⟨_, h1, h2⟩ F.slot_tuple_repr ?_
    exact call_tuple_reprK h1 h2 h3 hna hk x.gd hcl (by show X.A.units + 1 + _ < cLine; omega) (fun _ _ e => e) (fun h' u tk hk => ⟨_, _, rfl, .str _, H, I.kept (t' := tk) hk, ⟨_, rfl⟩, q⟩) hz'
  | dicK _ _ => simp [toPyX, isTd] at hp
  | dicT h q0 =>
    rename_i kvs ds
    simp only [toPyX] at hp
    split at hp
    · simp only [Option.map_eq_some_iff] at hp
      obtain ⟨ps, e1, rfl⟩ := hp
      obtain ⟨o, es, n, as, h1, h2, h3, h4, h5, bs, h6, h7, h8, h9, h10⟩ := dicK_ I h (pairs_of q0 e1) hs hz
      have hcl : ∀ b ∈ a :: bs, Clear [] b := fun b hb _ _ _ _ hm => nomatch hm
      have hz' : (dictText (PyData.shownKv ps)).length ≤ sizeLine := by simpa only [PyData.shown] using hz
      simp only [PyData.depth] at hd
      simp only [PyData.shown] at q
      refine call_repr_slot (by omega) ⟨_, h1, h2⟩ F.slot_dict_repr ?_
      exact call_dict_reprK h1 h2 h3 h4 h6 h10 x.gd hcl (by show X.A.units + 1 + _ < cLine; omega) (fun _ _ e => e) (fun h' u tk hk => ⟨_, _, rfl, .str _, H, I.kept (t' := tk) hk, ⟨_, rfl⟩, q⟩) hz'
    · cases hp
  | ins _ _ _ => simp [toPyX] at hp
end
end DL
set_option maxHeartbeats 2000000
namespace DL
open PySem PySem.Spec PyProof.Rows L2 PySem.W
mutual
def szD : D → Nat
  | .lst xs => 1 + szL xs
  | .tup xs => 1 + szL xs
  | .dic _ xs => 1 + szL xs
  | .ins _ _ xs => 1 + szL xs
  | _ => 0
def szL : List D → Nat
  | [] => 0
  | x :: xs => 1 + szD x + szL xs
end
section
variable {mg : Str → Option Value} {K : PySem.W.Frag} {H : Hp} {a : Addr}
mutual
theorem sz_one : ∀ {v : V} {d e : D}, Rp mg K H v d → Rp mg K H v e → szD d = szD e
  | _, _, _, .non, h => by cases h; rfl
  | _, _, _, .bl b, h => by cases h; rfl
  | _, _, _, .int i, h => by cases h; rfl
  | _, _, _, .str x, h => by cases h; rfl
  | _, _, _, .lst h1 r, h => by
    cases h with
    | lst h2 r2 =>
      rw [h1] at h2; cases h2
      simp only [szD, sz_all r r2]
    | tup h2 r2 => rw [(show H _ = some _ from h2)] at h1; cases h1
    | dicK h2 r2 => rcases h2 with h2 | ⟨o, h2⟩ <;> (rw [h2] at h1; cases h1)
    | dicT h2 r2 => rcases h2 with h2 | ⟨o, h2⟩ <;> (rw [h2] at h1; cases h1)
    | ins m h2 r2 => rw [h2] at h1; cases h1
  | _, _, _, .tup h1 r, h => by
    have h1 : H _ = some _ := h1
    cases h with
    | lst h2 r2 => rw [h2] at h1; cases h1
    | tup h2 r2 =>
      rw [(show H _ = some _ from h2)] at h1; cases h1
      simp only [szD, sz_all r r2]
    | dicK h2 r2 => rcases h2 with h2 | ⟨o, h2⟩ <;> (rw [h2] at h1; cases h1)
    | dicT h2 r2 => rcases h2 with h2 | ⟨o, h2⟩ <;> (rw [h2] at h1; cases h1)
    | ins m h2 r2 => rw [h2] at h1; cases h1
  | _, _, _, .dicK h1 r, h => by
    cases h with
    | lst h2 r2 => rcases h1 with h1 | ⟨o, h1⟩ <;> (rw [h2] at h1; cases h1)
    | tup h2 r2 =>
      have h2 : H _ = some _ := h2
      rcases h1 with h1 | ⟨o, h1⟩ <;> (rw [h2] at h1; cases h1)
    | dicK h2 r2 =>
      rcases h1 with h1 | ⟨o, h1⟩ <;> rcases h2 with h2 | ⟨o2, h2⟩ <;> (rw [h2] at h1; cases h1 <;> simp only [szD, sz_all r r2])
    | dicT h2 r2 =>
      rcases h1 with h1 | ⟨o, h1⟩ <;> rcases h2 with h2 | ⟨o2, h2⟩ <;> (rw [h2] at h1; cases h1)
    | ins m h2 r2 => rcases h1 with h1 | ⟨o, h1⟩ <;> (rw [h2] at h1; cases h1)
  | _, _, _, .dicT h1 r, h => by
    cases h with
    | lst h2 r2 => rcases h1 with h1 | ⟨o, h1⟩ <;> (rw [h2] at h1; cases h1)
    | tup h2 r2 =>
      have h2 : H _ = some _ := h2
      rcases h1 with h1 | ⟨o, h1⟩ <;> (rw [h2] at h1; cases h1)
    | dicK h2 r2 =>
      rcases h1 with h1 | ⟨o, h1⟩ <;> rcases h2 with h2 | ⟨o2, h2⟩ <;> (rw [h2] at h1; cases h1)
    | dicT h2 r2 =>
      rcases h1 with h1 | ⟨o, h1⟩ <;> rcases h2 with h2 | ⟨o2, h2⟩ <;> (rw [h2] at h1; cases h1 <;> simp only [szD, sz_all r r2])
    | ins m h2 r2 => rcases h1 with h1 | ⟨o, h1⟩ <;> (rw [h2] at h1; cases h1)
  | _, _, _, .ins m1 h1 r, h => by
    cases h with
    | lst h2 r2 => rw [h2] at h1; cases h1
    | tup h2 r2 =>
      have h2 : H _ = some _ := h2
      rw [h2] at h1; cases h1
    | dicK h2 r2 => rcases h2 with h2 | ⟨o, h2⟩ <;> (rw [h2] at h1; cases h1)
    | dicT h2 r2 => rcases h2 with h2 | ⟨o, h2⟩ <;> (rw [h2] at h1; cases h1)
    | ins m h2 r2 =>
      rw [h2] at h1; cases h1
      simp only [szD, sz_all r r2]
theorem sz_all : ∀ {vs : List V} {ds es : List D}, RpL mg K H vs ds → RpL mg K H vs es → szL ds = szL es
  | _, _, _, .nil, h => by cases h; rfl
  | _, _, _, .cons h r, h' => by
    cases h' with
    | cons h2 r2 => simp only [szL, sz_one h h2, sz_all r r2]
end
mutual
/-- what is less than the list at a doesn't lean on it -/
theorem rp_off {vs : List V} {ds : List D} (ha : H a = some (.lst vs)) (hr : RpL mg K H vs ds) : ∀ {v : V} {d : D}, Rp mg K H v d → szD d ≤ szL ds → Rp mg K (less H [a]) v d
  | _, _, .non, _ => .non
  | _, _, .bl b, _ => .bl b
  | _, _, .int i, _ => .int i
  | _, _, .str x, _ => .str x
  | _, _, .lst (a := b) h1 r, h => by
    simp only [szD] at h
    have hne : b ≠ a := fun z => by
      subst z
      rw [ha] at h1; cases h1
      rw [sz_all hr r] at h
      omega
    exact .lst (less_some.mpr ⟨by simpa using hne, h1⟩) (rpl_off ha hr r (by omega))
  | _, _, .tup (a := b) h1 r, h => by
    have h1 : H _ = some _ := h1
    simp only [szD] at h
    have hne : b ≠ a := fun z => by subst z; rw [ha] at h1; cases h1
    exact .tup (less_some.mpr ⟨by simpa using hne, h1⟩) (rpl_off ha hr r (by omega))
  | _, _, .dicK (a := b) h1 r, h => by
    simp only [szD] at h
    have hne : b ≠ a := fun z => by subst z; rcases h1 with h1 | ⟨o, h1⟩ <;> (rw [ha] at h1; cases h1)
    refine .dicK ?_ (rpl_off ha hr r (by omega))
    rcases h1 with h1 | ⟨o, h1⟩
    · exact .inl (less_some.mpr ⟨by simpa using hne, h1⟩)
    · exact .inr ⟨o, less_some.mpr ⟨by simpa using hne, h1⟩⟩
  | _, _, .dicT (a := b) h1 r, h => by
    simp only [szD] at h
    have hne : b ≠ a := fun z => by subst z; rcases h1 with h1 | ⟨o, h1⟩ <;> (rw [ha] at h1; cases h1)
    refine .dicT ?_ (rpl_off ha hr r (by omega))
    rcases h1 with h1 | ⟨o, h1⟩
    · exact .inl (less_some.mpr ⟨by simpa using hne, h1⟩)
    · exact .inr ⟨o, less_some.mpr ⟨by simpa using hne, h1⟩⟩
  | _, _, .ins (a := b) m h1 r, h => by
    simp only [szD] at h
    have hne : b ≠ a := fun z => by subst z; rw [ha] at h1; cases h1
    exact .ins m (less_some.mpr ⟨by simpa using hne, h1⟩) (rpl_off ha hr r (by omega))
theorem rpl_off {vs : List V} {ds : List D} (ha : H a = some (.lst vs)) (hr : RpL mg K H vs ds) : ∀ {ws : List V} {es : List D}, RpL mg K H ws es → szL es ≤ szL ds → RpL mg K (less H [a]) ws es
  | _, _, .nil, _ => .nil
  | _, _, .cons h r, q => by
    simp only [szL] at q
    exact .cons (rp_off ha hr h (by omega)) (rpl_off ha hr r (by omega))
end
/-- a list, its items shown without it -/
theorem rb_lst2 {pot : Option Addr} {M : List Addr} {x : V} {ds : List D} (pm : ∀ a, pot = some a → a ∈ M) (h : Rb mg K pot M H x (.lst ds)) : ∃ p xs, x = .ref p ∧ H p = some (.lst xs) ∧ pot ≠ some p ∧ RpL mg K (less H (p :: M)) xs ds := by
  rcases h with h | ⟨p, e1, hp, o, h1, h2⟩
  · cases h with
    | lst h1 h2 =>
      obtain ⟨h3, h4⟩ := less_some.mp h1
      refine ⟨_, _, rfl, h4, fun z => h3 (pm _ z), (rpl_off h1 h2 h2 (Nat.le_refl _)).mono fun b o e => ?_⟩
      obtain ⟨e1, e2⟩ := less_some.mp e
      obtain ⟨e3, e4⟩ := less_some.mp e2
      exact less_some.mpr ⟨by simp only [List.mem_cons, not_or]; exact ⟨by simpa using e1, e3⟩, e4⟩
  · cases h2 with
    | lst h2 => exact ⟨p, _, e1, h1, hp, h2⟩
end
abbrev RepT := List (Str × Fd)
def meOf : RepT → D → Option Fd
  | [], _ => none
  | (c, m) :: r, d => if isInO c d = true then some m else meOf r d
/-- a thing shown within a list -/
def reprEl (t : RepT) (d : D) (π : Pot) : Res (Str × Pot) := match meOf t d with
  | some m => match m [d] π with
    | .ok (.str y, π') => .ok (y, π')
    | _ => .stuck
  | none => match showX d with
    | some z => .ok (z, π)
    | none => .stuck
def reprAll (t : RepT) : List D → Pot → Res (List Str × Pot)
  | [], π => .ok ([], π)
  | d :: ds, π => (reprEl t d π).bind fun x => (reprAll t ds x.2).bind fun y => .ok (x.1 :: y.1, y.2)
def rprA (t : RepT) (d : D) (π : Pot) : Res (D × Pot) := match meOf t d with
  | some m => match m [d] π with
    | .ok (.str y, π') => .ok (.str y, π')
    | _ => .stuck
  | none => match fReprA [d] with
    | some z => .ok (z, π)
    | none => match d with
      | .lst (d :: ds) => (reprAll t (d :: ds) π).bind fun y => if (listText y.1).length ≤ sizeLine then .ok (.str (listText y.1), y.2) else .stuck
      | .tup ds => match showX (.tup ds) with
        | some z => .ok (.str z, π)
        | none => .stuck
      | _ => .stuck
def eReprA (t : RepT) (a : Ed) : Ed := fun ρ π => (a ρ π).bind fun x => rprA t x.1 x.2
structure ElM (X : Cx) (E : XK) (n k : Nat) (c : Str) (m : Fd) : Prop where
  ex : ∃ j qual st ps, (∃ qual' st' ps' j', DMe X.prog X.w X.K X.mg X.base j' c "__repr__" qual' st' ps' [] .f m ∧ j' + 1 ≤ k ∧
      (∀ (kV doc pm : Value) (an : Option Addr) (cdv ct : Value) (us : List Value), us.length = ps'.length → bindArgs (PySem.W.fnOf "__repr__" qual' (defArgs st') (defBody st') (defScope st') .none kV doc pm an cdv ct) ⟨us, []⟩ = pure (ps'.zip us))) ∧
    j ≤ n ∧ DMG X.prog X.w X.K X.mg X.base j c "__repr__" qual st ps [] .f m ∧
    (∀ (kV doc pm : Value) (an : Option Addr) (cdv ct : Value) (us : List Value), us.length = ps.length → bindArgs (PySem.W.fnOf "__repr__" qual (defArgs st) (defBody st) (defScope st) .none kV doc pm an cdv ct) ⟨us, []⟩ = pure (ps.zip us))
inductive ElT (X : Cx) (E : XK) (n k : Nat) : RepT → Prop
  | nil : ElT X E n k []
  | cons {c : Str} {m : Fd} {t : RepT} : ElM X E n k c m → ElT X E n k t → ElT X E n k ((c, m) :: t)
theorem ElT.get {X : Cx} {E : XK} {n k : Nat} : ∀ {t : RepT} {d : D} {m : Fd}, ElT X E n k t → meOf t d = some m → ∃ c, isInO c d = true ∧ ElM X E n k c m
  | _, _, _, .nil, e => by cases e
  | (c, m') :: t, d, m, .cons h r, e => by
    simp only [meOf] at e
    split at e
    · rename_i hc
      cases e
      exact ⟨c, hc, h⟩
    · exact r.get e
section
variable {X : Cx} {E : XK} {n k : Nat} {t : RepT} {H : Hp} {pot : Option Addr} {M : List Addr}
theorem chain_sem (T : ElT X E n k t) {a P : Addr} {od : Obj} {vs0 : List V} (hpa : pot ≠ some a) (hpP : pot ≠ some P) (pm : ∀ a, pot = some a → a ∈ M) {S : Hp → Prop} :
    ∀ (ds : List D) (vs : List V) (acc : List Str) (H : Hp) (π : Pot) (ts : List Str) (π' : Pot), RpL X.mg X.K (less H (P :: a :: M)) vs ds → reprAll t ds π = .ok (ts, π') → H a = some (.frz od (.lst vs0)) → H P = some (.lst (txs acc)) →
      PotAt pot H π → (∀ b ∈ M, Al H b) → (∀ H', (∀ b o, pot ≠ some b → b ≠ P → H b = some o → H' b = some o) → PotAt pot H' π' → S H') → ChainR X n a P od vs0 vs ts acc H S
  | [], _, acc, H, π, ts, π', r, e, ha, hP, p, al, hS => by
    cases r
    simp only [reprAll, Res.ok.injEq, Prod.mk.injEq] at e
    obtain ⟨rfl, rfl⟩ := e
    exact hS H (fun _ _ _ _ e => e) p
  | d :: ds, _, acc, H, π, ts, π', .cons (v := v) (vs := vs) r rs, e, ha, hP, p, al, hS => by
    simp only [reprAll] at e
    cases e1 : reprEl t d π with
    | stuck => rw [e1] at e; cases e
    | err c ns xs q => rw [e1] at e; cases e
    | ok x =>
      obtain ⟨x, π1⟩ := x
      rw [e1] at e
      simp only [Res.bind_ok] at e
      cases e2 : reprAll t ds π1 with
      | stuck => rw [e2] at e; cases e
      | err c ns xs q => rw [e2] at e; cases e
      | ok y =>
        obtain ⟨y, π2⟩ := y
        rw [e2] at e
        simp only [Res.bind_ok, Res.ok.injEq, Prod.mk.injEq] at e
        obtain ⟨rfl, rfl⟩ := e
        -- what is behind this element
        have tail : ∀ H1, (∀ b o, pot ≠ some b → H b = some o → H1 b = some o) → PotAt pot H1 π1 → H1 a = some (.frz od (.lst vs0)) ∧ H1 P = some (.lst (txs acc)) ∧ ChainR X n a P od vs0 vs y (acc ++ [x]) (upd H1 P (.lst (txs (acc ++ [x])))) S := fun H1 g p1 => by
          have hne : a ≠ P := fun z => by rw [z, hP] at ha; cases ha
          refine ⟨g _ _ hpa ha, g _ _ hpP hP, chain_sem T hpa hpP pm ds vs _ _ π1 y _ (rs.mono fun b o q => ?_) e2 (by rw [upd_ne hne]; exact g _ _ hpa ha) upd_same (fun b q => ?_) (fun b hb => ?_) fun H' g' p' => hS H' (fun b o n1 n2 q => g' b o n1 n2 (by rw [upd_ne n2]; exact g b o n1 q)) p'⟩
          · obtain ⟨q1, q2⟩ := less_some.mp q
            have q3 : b ≠ P := fun z => q1 (by simp [z])
            refine less_some.mpr ⟨q1, by rw [upd_ne q3]; exact g b o (fun z => q1 (List.mem_cons_of_mem _ (List.mem_cons_of_mem _ (pm b z)))) q2⟩
          · rw [upd_ne fun z => hpP (by rw [← z]; exact q)]
            exact p1 b q
          · by_cases z : b = P
            · subst z
              exact .of upd_same fun xs q => by cases q
            · obtain ⟨o, q1, q2⟩ := al b hb
              by_cases hq : pot = some b
              · exact .of (by rw [upd_ne z]; exact p1 b hq) fun xs q => by cases q
              · exact .of (by rw [upd_ne z]; exact g b o hq q1) q2
        simp only [reprEl] at e1
        cases em : meOf t d with
        | some m =>
          rw [em] at e1
          obtain ⟨c, hc, hM⟩ := T.get em
          obtain ⟨j, qual, st, ps, -, hj, F, hb⟩ := hM.ex
          cases d with
          | ins c1 n1 x1 =>
            simp only [isInO, decide_eq_true_eq] at hc
            subst hc
            obtain ⟨a', C, da, fa, rfl, mC, hA, _, _⟩ := rb_ins (.inl r : Rb X.mg X.K pot (P :: a :: M) H v _)
            refine elR_own F hb mC hA hj ⟨rfl, pot, P :: a :: M, [.ins c1 n1 x1], π, .cons r .nil, fun b hb => ?_, fun b q => List.mem_cons_of_mem _ (List.mem_cons_of_mem _ (pm b q)), p, ?_⟩
            · rcases List.mem_cons.mp hb with rfl | hb
              · exact .of hP fun xs q => by cases q
              · rcases List.mem_cons.mp hb with rfl | hb
                · exact .of ha fun xs q => by cases q
                · exact al b hb
            · simp only at e1
              cases em2 : m [.ins c1 n1 x1] π with
              | stuck => rw [em2] at e1; cases e1
              | err c ns xs q => rw [em2] at e1; cases e1
              | ok z =>
                obtain ⟨z, π3⟩ := z
                rw [em2] at e1
                cases z with
                | str z =>
                  simp only [Res.ok.injEq, Prod.mk.injEq] at e1
                  obtain ⟨rfl, rfl⟩ := e1
                  intro v H1 g p1 rr
                  cases (show Rp X.mg X.K (less H1 (P :: a :: M)) v (.str z) from rr)
                  exact ⟨z, rfl, rfl, tail H1 (fun b o n q => g b o n q) p1⟩
                | _ => cases e1
          | _ => cases hc
        | none =>
          rw [em] at e1
          simp only at e1
          cases hw : showX d with
          | none => rw [hw] at e1; cases e1
          | some w =>
            rw [hw] at e1
            simp only [Res.ok.injEq, Prod.mk.injEq] at e1
            obtain ⟨rfl, rfl⟩ := e1
            obtain ⟨pd, g0, g1, g2, g3, rfl⟩ := showX_eq hw
            exact elR_x (r.mono less_le) g0 g1 g2 g3 (tail H (fun _ _ _ q => q) p)
variable {Γ : List Md} {e : Expr} {te : TE} {fe : Ed} {pos p : Pos}
def rReprAny (X : Cx) (E : XK) (n : Nat) : RepT → List V → Hp → VK → Prop
  | [] => fun xs H Q => rReprLs X n xs H Q ∨ rReprXd X.mg X.K xs H Q ∨ (rRepr X.K xs H Q ∨ rReprT xs H Q)
  | (c, m) :: t => fun xs H Q => rReprO X.mg X.K E c m xs H Q ∨ rReprAny X E n t xs H Q
theorem cr_reprAny (o : XOk X E k) (hn : n + 2 ≤ k) : ∀ {t : RepT}, ElT X E n k t → CallR X (.builtin "repr") (rReprAny X E n t)
  | [], _ => (cr_reprLs o hn).or ((cr_reprXd o).or (c_reprA o).1)
  | (c, m) :: t, .cons h r => by
    obtain ⟨_, _, _, _, ⟨qual, st, ps, j, F, hj, hb⟩, _⟩ := h.ex
    exact (cr_reprO F o hb hj).or (cr_reprAny o hn r)
theorem rReprAny.own {xs : List V} {Q : VK} : ∀ {t : RepT} {d : D} {m : Fd}, meOf t d = some m → (∀ c, isInO c d = true → rReprO X.mg X.K E c m xs H Q) → rReprAny X E n t xs H Q
  | [], _, _, e, _ => by cases e
  | (c, m') :: t, d, m, e, h => by
    simp only [meOf] at e
    split at e
    · rename_i hc
      cases e
      exact .inl (h c hc)
    · exact .inr (rReprAny.own e h)
theorem rReprAny.rest {xs : List V} {Q : VK} (h : rReprLs X n xs H Q ∨ rReprXd X.mg X.K xs H Q ∨ (rRepr X.K xs H Q ∨ rReprT xs H Q)) : ∀ t : RepT, rReprAny X E n t xs H Q
  | [] => h
  | (c, m') :: t => .inr (rReprAny.rest h t)
/-- repr(e) -/
theorem de_reprAny (T : ElT X E n k t) (o : XOk X E k) (hm : X.mg "repr" = none) (he : DE X E .b Γ e te fe) (hn : n + 2 ≤ k := by decide) (hg : Gl X "repr" := by rfl) (hst : starEach [e] X.env = (false, eval e X.env) :: starEach [] X.env := by rfl) (hpl : (backTo pos (starEach [] X.env)).any (·.1) = false := by rfl) :
    DE X E .f Γ (.Call (.Name "repr" p) [e] [] pos) (tCB (rReprAny X E n t) (tCons te tNil)) (eReprA t fe) :=
  ⟨pe_callB (cr_reprAny o hn T) hg hm (by decide +kernel) (pa_cons he.pe pa_nil hst) (by decide) (by decide) hst hpl, fun pot M σ H ρ π I p Q h => by
    refine Post.seq (r' := .b) (te := te σ H) h p (fun Q' hq => he.sem pot M σ H ρ π I p Q' hq) fun d π1 v H1 _ g1 p1 r1 h1 => ?_
    have I1 := I.grow g1 p1
    have r1' : Rb X.mg X.K pot M H1 v d := r1
    dsimp only [rprA] at h1
    cases em : meOf t d with
    | some m =>
      rw [em] at h1
      simp only at h1
      refine rReprAny.own em fun c hc => ?_
      cases d with
      | ins c1 n1 x1 =>
        simp only [isInO, decide_eq_true_eq] at hc
        subst hc
        obtain ⟨a, C, da, fa, M', rfl, mC, hA, hM, hpm, rr1⟩ : ∃ a C da fa M', v = .ref a ∧ X.mg c1 = some (.ref C) ∧ H1 a = some (.ins C da fa) ∧ (∀ b ∈ M', b ∈ M) ∧ (∀ b, pot = some b → b ∈ M') ∧ Rp X.mg X.K (less H1 M') v (.ins c1 n1 x1) := by
          rcases r1' with r1' | ⟨q, rfl, hq, oo, hq1, hq2⟩
          · obtain ⟨a, C, da, fa, rfl, mC, hA, _, _⟩ := rb_ins (.inl r1' : Rb X.mg X.K pot M H1 v _)
            exact ⟨a, C, da, fa, M, rfl, mC, hA, fun _ h => h, I1.pm, r1'⟩
          · cases hq2 with
            | ins mC hr =>
              rename_i C fs dx
              refine ⟨q, _, _, _, M.filter (· ≠ q), rfl, mC, hq1, fun b hb => (List.mem_filter.mp hb).1, fun b hb => List.mem_filter.mpr ⟨I1.pm b hb, by simpa using fun z => hq (by rw [hb, z])⟩, .ins mC (less_some.mpr ⟨by simp, hq1⟩) (hr.mono fun b o z => ?_)⟩
              obtain ⟨z1, z2⟩ := less_some.mp z
              exact less_some.mpr ⟨fun w => z1 (List.mem_cons_of_mem _ (List.mem_filter.mp w).1), z2⟩
        refine ⟨C, a, da, fa, rfl, mC, hA, rfl, pot, M', _, π1, .cons rr1 .nil, fun b hb => I1.al b (hM b hb), hpm, p1, ?_⟩
        cases em : m [.ins c1 n1 x1] π1 with
        | err c ns xs π' =>
          rw [em] at h1
          exact h1.elim
        | stuck =>
          rw [em] at h1
          exact h1.elim
        | ok y =>
          obtain ⟨d', π2⟩ := y
          rw [em] at h1
          cases d' with
          | str z =>
            intro v H' g p' rr
            cases (show Rp X.mg X.K (less H' M') v (.str z) from rr)
            exact ⟨z, rfl, h1 _ H' g p' (.str _)⟩
          | _ => exact h1.elim
      | _ => cases hc
    | none =>
      rw [em] at h1
      simp only at h1
      refine rReprAny.rest ?_ t
      cases hz : fReprA [d] with
      | some z =>
        rw [hz] at h1
        exact .inr (.inr ((c_reprA o).2 pot M H1 [v] [d] z I1.al I1.pm p1.has (.cons r1' .nil) hz Q fun w H' s q => h1 w H' (.of_same s) (p1.same s) q))
      | none =>
        rw [hz] at h1
        simp only at h1
        cases d with
        | tup ds =>
          simp only at h1
          cases hw : showX (.tup ds) with
          | none => rw [hw] at h1; exact h1.elim
          | some w =>
            rw [hw] at h1
            obtain ⟨pd, g0, g1, g2, g3, rfl⟩ := showX_eq hw
            obtain ⟨a, _, rfl, _⟩ := rb_tup r1'
            exact .inr (.inl ⟨a, _, pd, rfl, rb_rp r1', g0, g1, g2, g3, h1 _ H1 .refl p1 (.str _)⟩)
        | lst ds =>
          cases ds with
          | nil => exact h1.elim
          | cons d ds =>
            simp only at h1
            cases e2 : reprAll t (d :: ds) π1 with
            | stuck => rw [e2] at h1; exact h1.elim
            | err c ns xs q =>
              exfalso
              have : ∀ (ds : List D) (π : Pot) c ns xs q, reprAll t ds π ≠ .err c ns xs q := by
                intro ds
                induction ds with
                | nil => intro π c ns xs q z; cases z
                | cons d ds ih =>
                  intro π c ns xs q z
                  simp only [reprAll] at z
                  cases e1 : reprEl t d π with
                  | stuck => rw [e1] at z; cases z
                  | err c ns xs q =>
                    simp only [reprEl] at e1
                    split at e1
                    · split at e1 <;> cases e1
                    · split at e1 <;> cases e1
                  | ok x =>
                    rw [e1] at z
                    simp only [Res.bind_ok] at z
                    cases e3 : reprAll t ds x.2 with
                    | stuck => rw [e3] at z; cases z
                    | err c ns xs q => exact ih _ _ _ _ _ e3
                    | ok y => rw [e3] at z; cases z
              exact this _ _ _ _ _ _ e2
            | ok y =>
              obtain ⟨y, π2⟩ := y
              rw [e2] at h1
              simp only [Res.bind_ok] at h1
              split at h1
              · rename_i hl
                obtain ⟨a, vs, rfl, ha, hpa, rl⟩ := rb_lst2 I1.pm r1'
                have hlen : y.length = vs.length := by
                  have q1 := rl.length
                  have q2 : ∀ (ds : List D) (π : Pot) (y : List Str) (π' : Pot), reprAll t ds π = .ok (y, π') → y.length = ds.length := by
                    intro ds
                    induction ds with
                    | nil => intro π y π' z; simp only [reprAll, Res.ok.injEq, Prod.mk.injEq] at z; rw [← z.1]; rfl
                    | cons d ds ih =>
                      intro π y π' z
                      simp only [reprAll] at z
                      cases e1 : reprEl t d π with
                      | stuck => rw [e1] at z; cases z
                      | err c ns xs q => rw [e1] at z; cases z
                      | ok x =>
                        rw [e1] at z
                        simp only [Res.bind_ok] at z
                        cases e3 : reprAll t ds x.2 with
                        | stuck => rw [e3] at z; cases z
                        | err c ns xs q => rw [e3] at z; cases z
                        | ok y2 =>
                          obtain ⟨y2, π3⟩ := y2
                          rw [e3] at z
                          simp only [Res.bind_ok, Res.ok.injEq, Prod.mk.injEq] at z
                          rw [← z.1, List.length_cons, List.length_cons, ih _ _ _ e3]
                  rw [q2 _ _ _ _ e2, ← q1]
                refine .inl ⟨a, vs, y, rfl, ha, fun z => ?_, hlen, hl, fun od P hP => ?_⟩
                · subst z; cases rl
                · have hne : a ≠ P := fun z => by rw [z, hP] at ha; cases ha
                  have hpP : pot ≠ some P := fun z => by have := p1 P z; rw [hP] at this; cases this
                  refine chain_sem T hpa hpP I1.pm _ vs [] _ π1 y π2 (rl.mono fun b o q => ?_) e2 (by rw [upd_ne hne]; exact upd_same) upd_same (fun b q => ?_) (fun b hb => ?_) fun H' g p' => ?_
                  · obtain ⟨q1, q2⟩ := less_some.mp q
                    have n1 : b ≠ a := fun z => q1 (by simp [z])
                    have n2 : b ≠ P := fun z => by rw [z, hP] at q2; cases q2
                    refine less_some.mpr ⟨fun z => ?_, by rw [upd_ne n2, upd_ne n1]; exact q2⟩
                    rcases List.mem_cons.mp z with z | z
                    · exact n2 z
                    · exact q1 z
                  · have n1 : b ≠ a := fun z => hpa (by rw [← z]; exact q)
                    have n2 : b ≠ P := fun z => hpP (by rw [← z]; exact q)
                    rw [upd_ne n2, upd_ne n1]
                    exact p1 b q
                  · have n2 : b ≠ P := fun z => by
                      obtain ⟨o, q1, _⟩ := I1.al b hb
                      rw [z, hP] at q1; cases q1
                    by_cases n1 : b = a
                    · subst n1
                      exact .of (by rw [upd_ne n2]; exact upd_same) fun xs q => by cases q
                    · obtain ⟨o, q1, q2⟩ := I1.al b hb
                      exact .of (by rw [upd_ne n2, upd_ne n1]; exact q1) q2
                  · refine h1 _ _ (fun b o n q => ?_) (fun b q => ?_) (.str _)
                    · by_cases n1 : b = a
                      · subst n1
                        rw [ha] at q; cases q
                        exact upd_same
                      · have n2 : b ≠ P := fun z => by rw [z, hP] at q; cases q
                        rw [upd_ne n1]
                        exact g b o n n2 (by rw [upd_ne n2, upd_ne n1]; exact q)
                    · rw [upd_ne fun z => hpa (by rw [← z]; exact q)]
                      exact p' b q
              · exact h1.elim
        | _ => exact h1.elim⟩
end
end DL
set_option maxHeartbeats 2000000
namespace DL
open PySem PySem.Spec PyProof.Rows L2
def gS (n : Nat) (b : List D → Rho → Option Rho) : D → Rho → Option Rho := fun d ρ => match d with
  | .lst ds => if ds.length = n then b ds ρ else none
  | .tup ds => if ds.length = n then b ds ρ else none
  | _ => none
section
variable {X : Cx} {E : XK} {Γ : List Md} {pos : Pos} {k : Nat}
@[simp] theorem gS_lst (n : Nat) (b : List D → Rho → Option Rho) (ds : List D) (ρ : Rho) : gS n b (.lst ds) ρ = if ds.length = n then b ds ρ else none := rfl
@[simp] theorem gS_tup (n : Nat) (b : List D → Rho → Option Rho) (ds : List D) (ρ : Rho) : gS n b (.tup ds) ρ = if ds.length = n then b ds ρ else none := rfl
end
end DL
set_option maxHeartbeats 2000000
namespace DL
open PySem PySem.Spec PyProof.Rows L2
section
variable {α β : Type} {a b c fk fv : Ed} {t : Et} {fi : Ei} {s : Fs} {m : Fd} {fg : D → Rho → Option Rho}
theorem pu_fmtR (ha : PX a) : PX (eFmtR a) := fun ρ => by
  unfold eFmtR
  refine pa_bind (ha _) fun x => ?_
  dsimp only
  exact pa_ofO1
inductive PXs : List Ed → Prop
  | nil : PXs []
  | cons {a : Ed} {r : List Ed} : PX a → PXs r → PXs (a :: r)
theorem pu_join : ∀ {fs : List Ed} {acc : Str}, PXs fs → PX (joinD fs acc)
  | [], acc, _ => fun ρ => pa_ok _
  | f :: fs, acc, .cons h r => fun ρ => by
    unfold joinD
    refine pa_bind (h _) fun x => ?_
    dsimp only
    split
    · apply pa_if
      · exact pu_join r ρ
      · exact pa_st
    · exact pa_st
inductive PMs : List (Str × Fd) → Prop
  | nil : PMs []
  | cons {c : Str} {m : Fd} {r : List (Str × Fd)} : PF m → PMs r → PMs ((c, m) :: r)
theorem meOf_pf : ∀ {t : RepT} {d : D} {m : Fd}, PMs t → meOf t d = some m → PF m
  | [], _, _, _, e => by cases e
  | (c, m') :: t, d, m, .cons h r, e => by
    simp only [meOf] at e
    split at e
    · cases e
      exact h
    · exact meOf_pf r e
theorem pa_reprEl {t : RepT} (h : PMs t) (d : D) : PA (reprEl t d) := fun π π' => by
  unfold reprEl
  split
  · rename_i m e
    have := meOf_pf h e [d] π π'
    rw [this]
    cases m [d] π with
    | ok x =>
      obtain ⟨x, q⟩ := x
      cases x <;> rfl
    | err c ns xs q => rfl
    | stuck => rfl
  · split <;> rfl
theorem pa_reprAll {t : RepT} (h : PMs t) : ∀ ds : List D, PA (reprAll t ds)
  | [] => pa_ok _
  | d :: ds => by
    show PA fun π => (reprEl t d π).bind fun x => (reprAll t ds x.2).bind fun y => .ok (x.1 :: y.1, y.2)
    refine pa_bind (pa_reprEl h d) fun x => ?_
    dsimp only
    refine pa_bind (pa_reprAll h ds) fun y => ?_
    dsimp only
    exact pa_ok _
theorem pa_rprA {t : RepT} (h : PMs t) (d : D) : PA (rprA t d) := by
  unfold rprA
  split
  · rename_i m e
    intro π π'
    have := meOf_pf h e [d] π π'
    dsimp only
    rw [this]
    cases m [d] π with
    | ok x =>
      obtain ⟨x, q⟩ := x
      cases x <;> rfl
    | err c ns xs q => rfl
    | stuck => rfl
  · split
    · exact pa_ok _
    · split
      · refine pa_bind (pa_reprAll h _) fun y => ?_
        dsimp only
        apply pa_if
        · exact pa_ok _
        · exact pa_st
      · split
        · exact pa_ok _
        · exact pa_st
      · exact pa_st
end
end DL
set_option maxHeartbeats 4000000
namespace LW
open PySem PySem.Spec PyProof.Rows L2 DL
def topS (i : Nat) : Stmt := PySem.Challenge.pw_pointrows_k23_any_value_as_point_or_tabl.main.body.getD i (.Pass ⟨0, 0, 0, 0⟩)
abbrev s_p_is_list : Stmt := topS 8
def f_p_is_list : Fs := (sRet (eUn (fIsA ["Spots"] ["list", "tuple"]) (eVar 0)))
def m_p_is_list : Fd := runD 1 .f f_p_is_list
theorem pu_f_p_is_list : PX f_p_is_list := (pu_ret (pu_un pu_var))
theorem pu_m_p_is_list : PF m_p_is_list := pu_runD pu_f_p_is_list
abbrev s_p_divisor_of : Stmt := topS 10
def f_p_divisor_of_b1 : Fs := (sSeq (sSet 1 (eApp fGcd (aCons (eVar 1) (aCons (eVar 2) aNil)))) (sIf (tBl (eBin opEq (eVar 1) (eC (.int 1)))) (sRet (eC (.int 1))) sNext))
theorem pu_f_p_divisor_of_b1 : PX f_p_divisor_of_b1 := (pu_seq (pu_set (pu_app (pu_acons pu_var (pu_acons pu_var pu_anil)))) (pu_if (pu_tbl (pu_bin pu_var pu_c)) (pu_ret pu_c) pu_next))
def f_p_divisor_of : Fs := (sSeq (sSet 1 (eC (.int 0))) (sSeq (sFor (iVal (eVar 0)) (gN 2) f_p_divisor_of_b1) (sRet (eVar 1))))
def m_p_divisor_of : Fd := runD 3 .f f_p_divisor_of
theorem pu_f_p_divisor_of : PX f_p_divisor_of := (pu_seq (pu_set pu_c) (pu_seq (pu_for (pu_ival pu_var) pu_f_p_divisor_of_b1) (pu_ret pu_var)))
theorem pu_m_p_divisor_of : PF m_p_divisor_of := pu_runD pu_f_p_divisor_of
abbrev s_p_plain : Stmt := topS 11
def f_p_plain_e1 : Ed := (eBin opFdivW (eVar 2) (eVar 1))
theorem f_p_plain_e1_ap (ρ : Rho) (π : Pot) : f_p_plain_e1 ρ π = (eBin opFdivW (eVar 2) (eVar 1)) ρ π := rfl
theorem pu_f_p_plain_e1 : PX f_p_plain_e1 := (pu_bin pu_var pu_var)
def f_p_plain : Fs := (sSeq (sSet 1 (eGo m_p_divisor_of (aCons (eVar 0) aNil))) (sRet (eIf (tBl (eBin (cmpI fun i j => decide (j < i)) (eVar 1) (eC (.int 1)))) (eLC (iVal (eVar 0)) (gN 2) tTrue f_p_plain_e1 [2]) (eApp fList
    (aCons (eVar 0) aNil)))))
def m_p_plain : Fd := runD 3 .o f_p_plain
theorem pu_f_p_plain : PX f_p_plain := (pu_seq (pu_set (pu_go pu_m_p_divisor_of (pu_acons pu_var pu_anil))) (pu_ret (pu_eif (pu_tbl (pu_bin pu_var pu_c)) (pu_lc (pu_ival pu_var) pu_true pu_f_p_plain_e1) (pu_app (pu_acons pu_var pu_anil)))))
theorem pu_m_p_plain : PF m_p_plain := pu_runD pu_f_p_plain
abbrev s_p_lead_place : Stmt := topS 12
def f_p_lead_place_b1 : Fs := (sIf (tBl (eBin opNe (eVar 2) (eC (.int 0)))) (sRet (eVar 1)) sNext)
theorem pu_f_p_lead_place_b1 : PX f_p_lead_place_b1 := (pu_if (pu_tbl (pu_bin pu_var pu_c)) (pu_ret pu_var) pu_next)
def f_p_lead_place : Fs := (sSeq (sFor (iEnumD (aCons (eVar 0) aNil)) (gT 2 (gsCons (gN 1) (gsCons (gN 2) gsNil))) f_p_lead_place_b1) (sRet (eC .non)))
def m_p_lead_place : Fd := runD 3 .f f_p_lead_place
theorem pu_f_p_lead_place : PX f_p_lead_place := (pu_seq (pu_for (pu_ienumd (pu_acons pu_var pu_anil)) pu_f_p_lead_place_b1) (pu_ret pu_c))
theorem pu_m_p_lead_place : PF m_p_lead_place := pu_runD pu_f_p_lead_place
abbrev s_p_signed : Stmt := topS 13
def f_p_signed_e1 : Ed := (eBin opSub (eC (.int 0)) (eVar 3))
theorem pu_f_p_signed_e1 : PX f_p_signed_e1 := (pu_bin pu_c pu_var)
def f_p_signed : Fs := (sSeq (sSet 1 (eGo m_p_plain (aCons (eVar 0) aNil))) (sSeq (sSet 2 (eGo m_p_lead_place (aCons (eVar 1) aNil))) (sRet (eIf (tOrD (tBl (eBin opIsN (eVar 2) (eC .non))) (tBl (eBin (cmpI fun i j => decide
    (j < i)) (eBin opIx (eVar 1) (eVar 2)) (eC (.int 0))))) (eVar 1) (eLC (iVal (eVar 1)) (gN 3) tTrue f_p_signed_e1 [3])))))
def m_p_signed : Fd := runD 4 .f f_p_signed
theorem pu_f_p_signed : PX f_p_signed := (pu_seq (pu_set (pu_go pu_m_p_plain (pu_acons pu_var pu_anil))) (pu_seq (pu_set (pu_go pu_m_p_lead_place (pu_acons pu_var pu_anil))) (pu_ret (pu_eif (pu_tor (pu_tbl (pu_bin pu_var pu_c)) (pu_tbl
    (pu_bin (pu_bin pu_var pu_var) pu_c))) pu_var (pu_lc (pu_ival pu_var) pu_true pu_f_p_signed_e1)))))
theorem pu_m_p_signed : PF m_p_signed := pu_runD pu_f_p_signed
abbrev s_p_told_of : Stmt := topS 20
def f_p_told_of : Fs := (sRet (eApp fTuple (aCons (eGo m_p_signed (aCons (eVar 0) aNil)) aNil)))
def m_p_told_of : Fd := runD 1 .f f_p_told_of
theorem pu_f_p_told_of : PX f_p_told_of := (pu_ret (pu_app (pu_acons (pu_go pu_m_p_signed (pu_acons pu_var pu_anil)) pu_anil)))
theorem pu_m_p_told_of : PF m_p_told_of := pu_runD pu_f_p_told_of
abbrev s_p_is_integer : Stmt := topS 7
def f_p_is_integer : Fs := (sRet (eAnd (eUn (fIsA ["Spots"] ["int"]) (eVar 0)) (eNot (eUn (fIsA ["Spots"] ["bool"]) (eVar 0)))))
def m_p_is_integer : Fd := runD 1 .f f_p_is_integer
theorem pu_f_p_is_integer : PX f_p_is_integer := (pu_ret (pu_and (pu_un pu_var) (pu_not (pu_un pu_var))))
theorem pu_m_p_is_integer : PF m_p_is_integer := pu_runD pu_f_p_is_integer
abbrev s_p_are_point : Stmt := topS 19
def f_p_are_point_e1 : Ed := (eGo m_p_is_integer (aCons (eVar 1) aNil))
theorem f_p_are_point_e1_ap (ρ : Rho) (π : Pot) : f_p_are_point_e1 ρ π = (eGo m_p_is_integer (aCons (eVar 1) aNil)) ρ π := rfl
theorem pu_f_p_are_point_e1 : PX f_p_are_point_e1 := (pu_go pu_m_p_is_integer (pu_acons pu_var pu_anil))
def f_p_are_point_e2 : Ed := (eBin opNe (eVar 1) (eC (.int 0)))
theorem f_p_are_point_e2_ap (ρ : Rho) (π : Pot) : f_p_are_point_e2 ρ π = (eBin opNe (eVar 1) (eC (.int 0))) ρ π := rfl
theorem pu_f_p_are_point_e2 : PX f_p_are_point_e2 := (pu_bin pu_var pu_c)
def f_p_are_point : Fs := (sSeq (sIf (tOrD (tNotD (tOf (eGo m_p_is_list (aCons (eVar 0) aNil)))) (tOrD (tBl (eBin opNe (eApp fLen (aCons (eVar 0) aNil)) (eC (.int 3)))) (tNotD (tOf (eApp fAll (aCons (eLC (iVal (eVar 0)) (gN 1)
    tTrue f_p_are_point_e1 [1]) aNil)))))) (sRet (eC (.bl false))) sNext) (sRet (eApp fAnyA (aCons (eLC (iVal (eVar 0)) (gN 1) tTrue f_p_are_point_e2 [1]) aNil))))
def m_p_are_point : Fd := runD 2 .f f_p_are_point
theorem pu_f_p_are_point : PX f_p_are_point := (pu_seq (pu_if (pu_tor (pu_tnot (pu_tof (pu_go pu_m_p_is_list (pu_acons pu_var pu_anil)))) (pu_tor (pu_tbl (pu_bin (pu_app (pu_acons pu_var pu_anil)) pu_c)) (pu_tnot (pu_tof (pu_app (pu_acons (pu_lc
    (pu_ival pu_var) pu_true pu_f_p_are_point_e1) pu_anil)))))) (pu_ret pu_c) pu_next) (pu_ret (pu_app (pu_acons (pu_lc (pu_ival pu_var) pu_true pu_f_p_are_point_e2) pu_anil))))
theorem pu_m_p_are_point : PF m_p_are_point := pu_runD pu_f_p_are_point
abbrev s_p_told_points : Stmt := topS 26
def f_p_told_points_b1 : Fs := (sSeq (sIf (tOrD (tNotD (tOf (eGo m_p_are_point (aCons (eVar 3) aNil)))) (tBl (eBin opInA (eGo m_p_told_of (aCons (eVar 3) aNil)) (eVar 1)))) sStuck sNext) (sApp 1 (eGo m_p_told_of (aCons (eVar 3)
    aNil))))
theorem pu_f_p_told_points_b1 : PX f_p_told_points_b1 := (pu_seq (pu_if (pu_tor (pu_tnot (pu_tof (pu_go pu_m_p_are_point (pu_acons pu_var pu_anil)))) (pu_tbl (pu_bin (pu_go pu_m_p_told_of (pu_acons pu_var pu_anil)) pu_var))) pu_stuck pu_next) (pu_sapp (pu_go
    pu_m_p_told_of (pu_acons pu_var pu_anil))))
def f_p_told_points : Fs := (sSeq (sIf (tOf (eUn (fIsC "Told" ["Spots"]) (eVar 0))) (sRet (eUn (fldD "Told" "told_points") (eVar 0))) sNext) (sSeq (sIf (tOrD (tNotD (tOf (eGo m_p_is_list (aCons (eVar 0) aNil)))) (tNotD (tBl
    (eChain (cmpI fun i j => decide (i ≤ j)) (cmpI fun i j => decide (i ≤ j)) (eC (.int 1)) (eApp fLen (aCons (eVar 0) aNil)) (eC (.int 24)))))) sStuck sNext) (sSeq (sSet 1 (eLst aNil)) (sSeq (sFor
    (iEnumD (aCons (eVar 0) aNil)) (gT 2 (gsCons (gN 2) (gsCons (gN 3) gsNil))) f_p_told_points_b1) (sRet (eApp fTuple (aCons (eVar 1) aNil)))))))
def m_p_told_points : Fd := runD 4 .f f_p_told_points
theorem pu_f_p_told_points : PX f_p_told_points := (pu_seq (pu_if (pu_tof (pu_un pu_var)) (pu_ret (pu_un pu_var)) pu_next) (pu_seq (pu_if (pu_tor (pu_tnot (pu_tof (pu_go pu_m_p_is_list (pu_acons pu_var pu_anil)))) (pu_tnot (pu_tbl (pu_chain pu_c
    (pu_app (pu_acons pu_var pu_anil)) pu_c)))) pu_stuck pu_next) (pu_seq (pu_set (pu_lst pu_anil)) (pu_seq (pu_for (pu_ienumd (pu_acons pu_var pu_anil)) pu_f_p_told_points_b1) (pu_ret (pu_app (pu_acons
    pu_var pu_anil)))))))
theorem pu_m_p_told_points : PF m_p_told_points := pu_runD pu_f_p_told_points
abbrev s_i_Spots : Stmt := inClass (topS 27) 0
def f_i_Spots : Fi := (iFld "own_points" (eGo m_p_told_points (aCons (eVar 1) aNil)) (iCk "Spots" iNil))
def m_i_Spots : Fd := runI 2 "Spots" f_i_Spots
theorem pu_f_i_Spots : PI f_i_Spots := (pu_ifld (pu_go pu_m_p_told_points (pu_acons pu_var pu_anil)) (pu_ick pu_inil))
theorem pu_m_i_Spots : PF m_i_Spots := pu_runI pu_f_i_Spots
abbrev s_c_Spots___repr__ : Stmt := inClass (topS 27) 3
def f_c_Spots___repr__ : Fs := (sRet (joinD [(eC (.str "Spots(")), (eFmtR (eApp fList (aCons (eUn (fldD "Spots" "own_points") (eVar 0)) aNil))), (eC (.str ")"))] Str.empty))
def m_c_Spots___repr__ : Fd := runD 1 .f f_c_Spots___repr__
theorem pu_f_c_Spots___repr__ : PX f_c_Spots___repr__ := (pu_ret (pu_join (.cons pu_c (.cons (pu_fmtR (pu_app (pu_acons (pu_un pu_var) pu_anil))) (.cons pu_c .nil)))))
theorem pu_m_c_Spots___repr__ : PF m_c_Spots___repr__ := pu_runD pu_f_c_Spots___repr__
abbrev s_l_draw : Stmt := topS 34
def f_l_draw : Fs := (sSeq (sIf (tBl (eBin (cmpI fun i j => decide (j < i)) ePot0 (eC (.int 0)))) (sSeq (sPotDm 2 (eVar 1)) (sRet (eVar 2))) sNext) (sSeq (sPot1 (eBin opMod (eApp fInt (aCons (eBin opAdd (eBin opMulA ePot1
    (eC (.int 39373))) (eC (.int 7583))) aNil)) (eC (.int 2147483587)))) (sRet (eBin opMod (eApp fInt (aCons (eBin opFdivW (eBin opMod (eApp fInt (aCons (eBin opMulA ePot1 ePot1) aNil)) (eC (.int
    2147483563))) (eC (.int 19))) aNil)) (eVar 1)))))
def m_l_draw : Fd := runD 3 .f f_l_draw
abbrev s_l_point : Stmt := topS 39
def f_l_point_e1 : Ed := (eBin opSub (eGo m_l_draw (aCons (eC .non) (aCons (eBin opAdd (eBin opMulA (eC (.int 2)) (eVar 1)) (eC (.int 1))) aNil))) (eVar 1))
theorem f_l_point_e1_ap (ρ : Rho) (π : Pot) : f_l_point_e1 ρ π = (eBin opSub (eGo m_l_draw (aCons (eC .non) (aCons (eBin opAdd (eBin opMulA (eC (.int 2)) (eVar 1)) (eC (.int 1))) aNil))) (eVar 1)) ρ π := rfl
def f_l_point : Fs := (sSeq (sSet 2 (eLC (iRng (aCons (eC (.int 3)) aNil)) (gN 3) tTrue f_l_point_e1 [3])) (sRet (eIf (tOf (eApp fAnyA (aCons (eVar 2) aNil))) (eVar 2) (eLst (aCons (eC (.int 0)) (aCons (eC (.int 1)) (aCons
    (eBin opSub (eC (.int 0)) (eVar 1)) aNil)))))))
def m_l_point : Fd := runD 4 .f f_l_point
abbrev s_l_sum : Stmt := topS 36
def f_l_sum_e1 : Ed := (eBin opMulA (eVar 2) (eVar 3))
theorem f_l_sum_e1_ap (ρ : Rho) (π : Pot) : f_l_sum_e1 ρ π = (eBin opMulA (eVar 2) (eVar 3)) ρ π := rfl
def f_l_sum : Fs := (sRet (eApp fSum (aCons (eLC (iZipD (aCons (eVar 0) (aCons (eVar 1) aNil))) (gT 2 (gsCons (gN 2) (gsCons (gN 3) gsNil))) tTrue f_l_sum_e1 [2, 3]) aNil)))
def m_l_sum : Fd := runD 4 .f f_l_sum
abbrev s_l_cross : Stmt := topS 37
def f_l_cross : Fs := (sRet (eTup (aCons (eBin opSub (eBin opMulA (eBin opIx (eVar 0) (eC (.int 1))) (eBin opIx (eVar 1) (eC (.int 2)))) (eBin opMulA (eBin opIx (eVar 0) (eC (.int 2))) (eBin opIx (eVar 1) (eC (.int 1)))))
    (aCons (eBin opSub (eBin opMulA (eBin opIx (eVar 0) (eC (.int 2))) (eBin opIx (eVar 1) (eC (.int 0)))) (eBin opMulA (eBin opIx (eVar 0) (eC (.int 0))) (eBin opIx (eVar 1) (eC (.int 2))))) (aCons
    (eBin opSub (eBin opMulA (eBin opIx (eVar 0) (eC (.int 0))) (eBin opIx (eVar 1) (eC (.int 1)))) (eBin opMulA (eBin opIx (eVar 0) (eC (.int 1))) (eBin opIx (eVar 1) (eC (.int 0))))) aNil)))))
def m_l_cross : Fd := runD 2 .f f_l_cross
abbrev s_l_whole : Stmt := topS 38
def f_l_whole : Fs := (sRet (eGo m_l_sum (aCons (eGo m_l_cross (aCons (eVar 0) (aCons (eVar 1) aNil))) (aCons (eVar 2) aNil))))
def m_l_whole : Fd := runD 3 .f f_l_whole
abbrev s_l_pick : Stmt := topS 35
def f_l_pick : Fs := (sRet (eBin opIx (eVar 1) (eGo m_l_draw (aCons (eC .non) (aCons (eApp fLen (aCons (eVar 1) aNil)) aNil)))))
def m_l_pick : Fd := runD 2 .f f_l_pick
abbrev s_l_table : Stmt := topS 41
def f_l_table_e1 : Ed := (eGo m_l_point (aCons (eC .non) (aCons (eVar 1) aNil)))
theorem f_l_table_e1_ap (ρ : Rho) (π : Pot) : f_l_table_e1 ρ π = (eGo m_l_point (aCons (eC .non) (aCons (eVar 1) aNil))) ρ π := rfl
def f_l_table : Fs := (sSeq (sSet 2 (eLC (iRng (aCons (eC (.int 3)) aNil)) (gN 3) tTrue f_l_table_e1 [3])) (sSeq (sIf (tBl (eBin opEq (eGo m_l_whole (aCons (eBin opIx (eVar 2) (eC (.int 0))) (aCons (eBin opIx (eVar 2) (eC
    (.int 1))) (aCons (eBin opIx (eVar 2) (eC (.int 2))) aNil)))) (eC (.int 0)))) (sSet 2 (eLst (aCons (eLst (aCons (eC (.int 1)) (aCons (eC (.int 0)) (aCons (eC (.int 0)) aNil)))) (aCons (eLst (aCons
    (eBin opSub (eGo m_l_draw (aCons (eC .non) (aCons (eC (.int 5)) aNil))) (eC (.int 2))) (aCons (eC (.int 1)) (aCons (eC (.int 0)) aNil)))) (aCons (eLst (aCons (eBin opSub (eGo m_l_draw (aCons (eC
    .non) (aCons (eC (.int 3)) aNil))) (eC (.int 1))) (aCons (eBin opSub (eGo m_l_draw (aCons (eC .non) (aCons (eC (.int 5)) aNil))) (eC (.int 2))) (aCons (eGo m_l_pick (aCons (eC .non) (aCons (eLst
    (aCons (eC (.int 1)) (aCons (eUn opNeg (eC (.int 1))) (aCons (eC (.int 2)) aNil)))) aNil))) aNil)))) aNil))))) sNext) (sRet (eVar 2))))
def m_l_table : Fd := runD 4 .f f_l_table
abbrev s_p_is_point : Stmt := topS 24
def f_p_is_point : Fs := (sRet (eGo m_p_are_point (aCons (eVar 0) aNil)))
def m_p_is_point : Fd := runD 1 .f f_p_is_point
abbrev s_p_less : Stmt := topS 14
def f_p_less_e1 : Ed := (eBin opSub (eBin opMulA (eVar 4) (eVar 6)) (eBin opMulA (eVar 5) (eVar 7)))
theorem f_p_less_e1_ap (ρ : Rho) (π : Pot) : f_p_less_e1 ρ π = (eBin opSub (eBin opMulA (eVar 4) (eVar 6)) (eBin opMulA (eVar 5) (eVar 7))) ρ π := rfl
def f_p_less : Fs := (sSeq (sSet 3 (eApp fGcd (aCons (eBin opIx (eVar 1) (eVar 2)) (aCons (eBin opIx (eVar 0) (eVar 2)) aNil)))) (sSeq (sUnp (eTup (aCons (eBin opFdivW (eBin opIx (eVar 1) (eVar 2)) (eVar 3)) (aCons (eBin
    opFdivW (eBin opIx (eVar 0) (eVar 2)) (eVar 3)) aNil))) (gT 2 (gsCons (gN 4) (gsCons (gN 5) gsNil)))) (sRet (eLC (iZipD (aCons (eVar 0) (aCons (eVar 1) aNil))) (gT 2 (gsCons (gN 6) (gsCons (gN 7)
    gsNil))) tTrue f_p_less_e1 [6, 7]))))
def m_p_less : Fd := runD 8 .o f_p_less
abbrev s_p_cleared : Stmt := topS 15
def f_p_cleared_b1 : Fs := (sIf (tBl (eBin opNe (eBin opIx (eVar 2) (eVar 3)) (eC (.int 0)))) (sSet 2 (eGo m_p_less (aCons (eVar 2) (aCons (eVar 4) (aCons (eVar 3) aNil))))) sNext)
def f_p_cleared : Fs := (sSeq (sSet 2 (eVar 1)) (sSeq (sFor (iVal (eVar 0)) (gT 2 (gsCons (gN 3) (gsCons (gN 4) gsNil))) f_p_cleared_b1) (sRet (eGo m_p_plain (aCons (eVar 2) aNil)))))
def m_p_cleared : Fd := runD 5 .o f_p_cleared
abbrev s_p_echelon : Stmt := topS 16
def f_p_echelon_b1 : Fs := (sSeq (sSet 5 (eGoL .o [.b, .f] m_p_cleared (aCons (eVar 1) (aCons (eVar 4) aNil)))) (sSeq (sSet 6 (eGo m_p_lead_place (aCons (eVar 5) aNil))) (sIf (tBl (eBin opNotN (eVar 6) (eC .non))) (sSeq (sApp 1
    (eTup (aCons (eVar 6) (aCons (eVar 5) aNil)))) (sApp 2 (eVar 3))) sNext)))
def f_p_echelon : Fs := (sSeq (sPar 1 2 (eLst aNil) (eLst aNil)) (sSeq (sFor (iEnumD (aCons (eVar 0) aNil)) (gT 2 (gsCons (gN 3) (gsCons (gN 4) gsNil))) f_p_echelon_b1) (sRet (eTup (aCons (eVar 1) (aCons (eVar 2) aNil))))))
def m_p_echelon : Fd := runD 7 .t f_p_echelon
abbrev s_p_rank_of : Stmt := topS 17
def f_p_rank_of : Fs := (sRet (eApp fLen (aCons (eBin opIx (eGo m_p_echelon (aCons (eVar 0) aNil)) (eC (.int 0))) aNil)))
def m_p_rank_of : Fd := runD 1 .f f_p_rank_of
abbrev s_p_are_table : Stmt := topS 29
def f_p_are_table_e1 : Ed := (eGo m_p_is_integer (aCons (eVar 2) aNil))
theorem f_p_are_table_e1_ap (ρ : Rho) (π : Pot) : f_p_are_table_e1 ρ π = (eGo m_p_is_integer (aCons (eVar 2) aNil)) ρ π := rfl
def f_p_are_table_b1 : Fs := (sIf (tOrD (tNotD (tOf (eGo m_p_is_list (aCons (eVar 1) aNil)))) (tOrD (tBl (eBin opNe (eApp fLen (aCons (eVar 1) aNil)) (eC (.int 3)))) (tNotD (tOf (eApp fAll (aCons (eLC (iVal (eVar 1)) (gN 2) tTrue
    f_p_are_table_e1 [2]) aNil)))))) (sRet (eC (.bl false))) sNext)
theorem f_p_are_table_b1_ap (ρ : Rho) (π : Pot) : f_p_are_table_b1 ρ π = (sIf (tOrD (tNotD (tOf (eGo m_p_is_list (aCons (eVar 1) aNil)))) (tOrD (tBl (eBin opNe (eApp fLen (aCons (eVar 1) aNil)) (eC (.int 3)))) (tNotD (tOf (eApp fAll (aCons (eLC (iVal (eVar 1)) (gN 2) tTrue
    f_p_are_table_e1 [2]) aNil)))))) (sRet (eC (.bl false))) sNext) ρ π := rfl
def f_p_are_table : Fs := (sSeq (sIf (tOrD (tNotD (tOf (eGo m_p_is_list (aCons (eVar 0) aNil)))) (tBl (eBin opNe (eApp fLen (aCons (eVar 0) aNil)) (eC (.int 3))))) (sRet (eC (.bl false))) sNext) (sSeq (sFor (iVal (eVar 0)) (gN
    1) f_p_are_table_b1) (sRet (eBin opEq (eGo m_p_rank_of (aCons (eVar 0) aNil)) (eC (.int 3))))))
def m_p_are_table : Fd := runD 3 .f f_p_are_table
abbrev s_p_is_table : Stmt := topS 31
def f_p_is_table : Fs := (sRet (eGo m_p_are_table (aCons (eVar 0) aNil)))
def m_p_is_table : Fd := runD 1 .f f_p_is_table
abbrev s_l_is_point : Stmt := topS 42
def f_l_is_point_e1 : Ed := (eAnd (eUn (fIsA ["Spots"] ["int"]) (eVar 1)) (eNot (eUn (fIsA ["Spots"] ["bool"]) (eVar 1))))
def f_l_is_point_e2 : Ed := (eBin opNe (eVar 1) (eC (.int 0)))
theorem f_l_is_point_e2_ap (ρ : Rho) (π : Pot) : f_l_is_point_e2 ρ π = (eBin opNe (eVar 1) (eC (.int 0))) ρ π := rfl
def f_l_is_point : Fs := (sSeq (sIf (tOrD (tNotD (tOf (eUn (fIsA ["Spots"] ["list", "tuple"]) (eVar 0)))) (tBl (eBin opNe (eApp fLen (aCons (eVar 0) aNil)) (eC (.int 3))))) (sRet (eC (.bl false))) sNext) (sSeq (sIf (tNotD (tOf
    (eApp fAll (aCons (eLC (iVal (eVar 0)) (gN 1) tTrue f_l_is_point_e1 [1]) aNil)))) (sRet (eC (.bl false))) sNext) (sRet (eApp fAnyA (aCons (eLC (iVal (eVar 0)) (gN 1) tTrue f_l_is_point_e2 [1])
    aNil)))))
def m_l_is_point : Fd := runD 2 .f f_l_is_point
abbrev s_l_is_table : Stmt := topS 43
def f_l_is_table_e1 : Ed := (eAnd (eUn (fIsA ["Spots"] ["int"]) (eVar 2)) (eNot (eUn (fIsA ["Spots"] ["bool"]) (eVar 2))))
theorem f_l_is_table_e1_ap (ρ : Rho) (π : Pot) : f_l_is_table_e1 ρ π = (eAnd (eUn (fIsA ["Spots"] ["int"]) (eVar 2)) (eNot (eUn (fIsA ["Spots"] ["bool"]) (eVar 2)))) ρ π := rfl
def f_l_is_table_b1 : Fs := (sIf (tOrD (tNotD (tOf (eUn (fIsA ["Spots"] ["list", "tuple"]) (eVar 1)))) (tOrD (tBl (eBin opNe (eApp fLen (aCons (eVar 1) aNil)) (eC (.int 3)))) (tNotD (tOf (eApp fAll (aCons (eLC (iVal (eVar 1)) (gN
    2) tTrue f_l_is_table_e1 [2]) aNil)))))) (sRet (eC (.bl false))) sNext)
theorem f_l_is_table_b1_ap (ρ : Rho) (π : Pot) : f_l_is_table_b1 ρ π = (sIf (tOrD (tNotD (tOf (eUn (fIsA ["Spots"] ["list", "tuple"]) (eVar 1)))) (tOrD (tBl (eBin opNe (eApp fLen (aCons (eVar 1) aNil)) (eC (.int 3)))) (tNotD (tOf (eApp fAll (aCons (eLC (iVal (eVar 1)) (gN
    2) tTrue f_l_is_table_e1 [2]) aNil)))))) (sRet (eC (.bl false))) sNext) ρ π := rfl
def f_l_is_table : Fs := (sSeq (sIf (tOrD (tNotD (tOf (eUn (fIsA ["Spots"] ["list", "tuple"]) (eVar 0)))) (tBl (eBin opNe (eApp fLen (aCons (eVar 0) aNil)) (eC (.int 3))))) (sRet (eC (.bl false))) sNext) (sSeq (sFor (iVal
    (eVar 0)) (gN 1) f_l_is_table_b1) (sRet (eBin opNe (eGo m_l_whole (aCons (eBin opIx (eVar 0) (eC (.int 0))) (aCons (eBin opIx (eVar 0) (eC (.int 1))) (aCons (eBin opIx (eVar 0) (eC (.int 2)))
    aNil)))) (eC (.int 0))))))
def m_l_is_table : Fd := runD 3 .f f_l_is_table
abbrev s_l_bent : Stmt := topS 44
def f_l_bent_e1 : Ed := (eIf (tOf (eUn (fIsA ["Spots"] ["int"]) (eVar 5))) (eC (.int 0)) (eApp fList (aCons (eVar 5) aNil)))
theorem f_l_bent_e1_ap (ρ : Rho) (π : Pot) : f_l_bent_e1 ρ π = (eIf (tOf (eUn (fIsA ["Spots"] ["int"]) (eVar 5))) (eC (.int 0)) (eApp fList (aCons (eVar 5) aNil))) ρ π := rfl
def f_l_bent_r1 : Fs := (sSeq (sIf (tBl (eBin opEq (eVar 4) (eC (.int 3)))) (sRet (eLC (iVal (eVar 2)) (gN 5) tTrue f_l_bent_e1 [5])) sNext) (sRet (eIf (tBl (eBin opEq (eVar 4) (eC (.int 4)))) (eApp fTuple (aCons (eVar 2)
    aNil)) (eUn fRev (eVar 2)))))
theorem f_l_bent_r1_ap (ρ : Rho) (π : Pot) : f_l_bent_r1 ρ π = (sSeq (sIf (tBl (eBin opEq (eVar 4) (eC (.int 3)))) (sRet (eLC (iVal (eVar 2)) (gN 5) tTrue f_l_bent_e1 [5])) sNext) (sRet (eIf (tBl (eBin opEq (eVar 4) (eC (.int 4)))) (eApp fTuple (aCons (eVar 2)
    aNil)) (eUn fRev (eVar 2))))) ρ π := rfl
def f_l_bent : Fs := (sSeq (sPar 2 3 (eApp fList (aCons (eVar 1) aNil)) (eGo m_l_draw (aCons (eC .non) (aCons (eC (.int 3)) aNil)))) (sSeq (sSet 4 (eGo m_l_draw (aCons (eC .non) (aCons (eC (.int 6)) aNil)))) (sSeq (sIf
    (tBl (eBin opEq (eVar 4) (eC (.int 0)))) (sRet (eBin opAdd (eSl (eVar 2) oNone (oSome (eVar 3))) (eSl (eVar 2) (oSome (eBin opAdd (eVar 3) (eC (.int 1)))) oNone))) sNext) (sSeq (sIf (tBl (eBin opEq
    (eVar 4) (eC (.int 1)))) (sRet (eBin opAdd (eVar 2) (eSl (eVar 2) oNone (oSome (eC (.int 1)))))) sNext) (sSeq (sIf (tBl (eBin opEq (eVar 4) (eC (.int 2)))) (sRet (eBin opAdd (eBin opAdd (eSl (eVar 2)
    oNone (oSome (eVar 3))) (eLst (aCons (eGo m_l_pick (aCons (eC .non) (aCons (eLst (aCons (eC .non) (aCons (eC (.bl true)) (aCons (eC (.bl false)) (aCons (eC (.str "1")) (aCons (eLst (aCons (eC (.int
    1)) aNil)) (aCons (eTup (aCons (eC (.int 1)) (aCons (eC (.int 0)) (aCons (eC (.int 0)) aNil)))) (aCons (eC (.dic [] [])) aNil)))))))) aNil))) aNil))) (eSl (eVar 2) (oSome (eBin opAdd (eVar 3) (eC
    (.int 1)))) oNone))) sNext) f_l_bent_r1)))))
def m_l_bent : Fd := runD 6 .f f_l_bent
abbrev s_l_given : Stmt := topS 40
def f_l_given : Fs := (sRet (eIf (tBl (eBin opEq (eGo m_l_draw (aCons (eC .non) (aCons (eC (.int 2)) aNil))) (eC (.int 0)))) (eApp fTuple (aCons (eVar 1) aNil)) (eApp fList (aCons (eVar 1) aNil))))
def m_l_given : Fd := runD 2 .f f_l_given
abbrev s_l_rows_bent : Stmt := topS 45
def f_l_rows_bent_e1 : Ed := (eGo m_l_given (aCons (eC .non) (aCons (eVar 5) aNil)))
theorem f_l_rows_bent_e1_ap (ρ : Rho) (π : Pot) : f_l_rows_bent_e1 ρ π = (eGo m_l_given (aCons (eC .non) (aCons (eVar 5) aNil))) ρ π := rfl
def f_l_rows_bent_e2 : Ed := (eBin opAdd (eVar 6) (eVar 7))
theorem f_l_rows_bent_e2_ap (ρ : Rho) (π : Pot) : f_l_rows_bent_e2 ρ π = (eBin opAdd (eVar 6) (eVar 7)) ρ π := rfl
def f_l_rows_bent : Fs := (sSeq (sPar 2 3 (eLC (iVal (eVar 1)) (gN 5) tTrue f_l_rows_bent_e1 [5]) (eGo m_l_draw (aCons (eC .non) (aCons (eC (.int 3)) aNil)))) (sSeq (sSet 4 (eGo m_l_draw (aCons (eC .non) (aCons (eC (.int 6))
    aNil)))) (sSeq (sIf (tBl (eBin opEq (eVar 4) (eC (.int 0)))) (sSetIx 2 (eGo m_l_bent (aCons (eC .non) (aCons (eBin opIx (eVar 1) (eVar 3)) aNil))) (eVar 3)) (sIf (tBl (eBin opEq (eVar 4) (eC (.int
    1)))) (sSetIx 2 (eBin opIx (eVar 2) (eBin opSub (eVar 3) (eC (.int 1)))) (eVar 3)) (sIf (tBl (eBin opEq (eVar 4) (eC (.int 2)))) (sSetIx 2 (eLC (iZipD (aCons (eBin opIx (eVar 1) (eBin opSub (eVar 3)
    (eC (.int 1)))) (aCons (eBin opIx (eVar 1) (eBin opSub (eVar 3) (eC (.int 2)))) aNil))) (gT 2 (gsCons (gN 6) (gsCons (gN 7) gsNil))) tTrue f_l_rows_bent_e2 [6, 7]) (eVar 3)) (sIf (tBl (eBin opEq
    (eVar 4) (eC (.int 3)))) (sSetIx 2 (eLst (aCons (eC (.int 0)) (aCons (eC (.int 0)) (aCons (eC (.int 0)) aNil)))) (eVar 3)) (sIf (tBl (eBin opEq (eVar 4) (eC (.int 4)))) (sRet (eGo m_l_bent (aCons (eC
    .non) (aCons (eVar 2) aNil)))) sNext))))) (sRet (eIf (tBl (eBin opEq (eGo m_l_draw (aCons (eC .non) (aCons (eC (.int 2)) aNil))) (eC (.int 0)))) (eVar 2) (eApp fTuple (aCons (eVar 2) aNil)))))))
def m_l_rows_bent : Fd := runD 8 .f f_l_rows_bent
abbrev s_l_right : Stmt := topS 46
def f_l_right_e1 : Ed := (eGo m_l_point (aCons (eC .non) (aCons (eC (.int 2)) aNil)))
theorem f_l_right_e1_ap (ρ : Rho) (π : Pot) : f_l_right_e1 ρ π = (eGo m_l_point (aCons (eC .non) (aCons (eC (.int 2)) aNil))) ρ π := rfl
def f_l_right_b1 : Fs := (sSeq (sPar 4 5 (eGo m_l_point (aCons (eC .non) (aCons (eC (.int 4)) aNil))) (eGo m_l_table (aCons (eC .non) (aCons (eC (.int 3)) aNil)))) (sExt 1 (eLst (aCons (eVar 4) (aCons (eGo m_l_bent (aCons (eC
    .non) (aCons (eVar 4) aNil))) (aCons (eVar 5) (aCons (eApp fTuple (aCons (eVar 5) aNil)) (aCons (eGo m_l_rows_bent (aCons (eC .non) (aCons (eVar 5) aNil))) (aCons (eLC (iRng (aCons (eC (.int 3))
    aNil)) (gN 10) tTrue f_l_right_e1 [10]) aNil)))))))))
theorem f_l_right_b1_ap (ρ : Rho) (π : Pot) : f_l_right_b1 ρ π = (sSeq (sPar 4 5 (eGo m_l_point (aCons (eC .non) (aCons (eC (.int 4)) aNil))) (eGo m_l_table (aCons (eC .non) (aCons (eC (.int 3)) aNil)))) (sExt 1 (eLst (aCons (eVar 4) (aCons (eGo m_l_bent (aCons (eC
    .non) (aCons (eVar 4) aNil))) (aCons (eVar 5) (aCons (eApp fTuple (aCons (eVar 5) aNil)) (aCons (eGo m_l_rows_bent (aCons (eC .non) (aCons (eVar 5) aNil))) (aCons (eLC (iRng (aCons (eC (.int 3))
    aNil)) (gN 10) tTrue f_l_right_e1 [10]) aNil))))))))) ρ π := rfl
def f_l_right_b2 : Fs := (sSeq (sSet 6 (eReprA [("Spots", m_c_Spots___repr__)] (eVar 3))) (sSeq (sSet 7 (eLst (aCons (eGo m_p_is_point (aCons (eVar 3) aNil)) (aCons (eGo m_p_is_point (aCons (eVar 3) aNil)) (aCons (eGo
    m_p_is_table (aCons (eVar 3) aNil)) (aCons (eGo m_p_is_table (aCons (eVar 3) aNil)) aNil)))))) (sSeq (sPar 8 9 (eGo m_l_is_point (aCons (eVar 3) aNil)) (eGo m_l_is_table (aCons (eVar 3) aNil))) (sIf
    (tOrD (tBl (eBin opNe (eReprA [("Spots", m_c_Spots___repr__)] (eVar 7)) (eReprA [("Spots", m_c_Spots___repr__)] (eLst (aCons (eVar 8) (aCons (eVar 8) (aCons (eVar 9) (aCons (eVar 9) aNil)))))))) (tBl
    (eBin opNe (eReprA [("Spots", m_c_Spots___repr__)] (eVar 3)) (eVar 6)))) (sRet (eC (.bl false))) sNext))))
theorem f_l_right_b2_ap (ρ : Rho) (π : Pot) : f_l_right_b2 ρ π = (sSeq (sSet 6 (eReprA [("Spots", m_c_Spots___repr__)] (eVar 3))) (sSeq (sSet 7 (eLst (aCons (eGo m_p_is_point (aCons (eVar 3) aNil)) (aCons (eGo m_p_is_point (aCons (eVar 3) aNil)) (aCons (eGo
    m_p_is_table (aCons (eVar 3) aNil)) (aCons (eGo m_p_is_table (aCons (eVar 3) aNil)) aNil)))))) (sSeq (sPar 8 9 (eGo m_l_is_point (aCons (eVar 3) aNil)) (eGo m_l_is_table (aCons (eVar 3) aNil))) (sIf
    (tOrD (tBl (eBin opNe (eReprA [("Spots", m_c_Spots___repr__)] (eVar 7)) (eReprA [("Spots", m_c_Spots___repr__)] (eLst (aCons (eVar 8) (aCons (eVar 8) (aCons (eVar 9) (aCons (eVar 9) aNil)))))))) (tBl
    (eBin opNe (eReprA [("Spots", m_c_Spots___repr__)] (eVar 3)) (eVar 6)))) (sRet (eC (.bl false))) sNext)))) ρ π := rfl
def f_l_right : Fs := (sSeq (sSet 1 (eLst (aCons (eC .non) (aCons (eC (.int 0)) (aCons (eC (.int 7)) (aCons (eC (.bl true)) (aCons (eC (.str "")) (aCons (eC (.str "abc")) (aCons (eLst aNil) (aCons (eTup aNil) (aCons (eC
    (.dic [] [])) (aCons (eBin opRep (eLst (aCons (eC .non) aNil)) (eC (.int 3))) (aCons (eBin opRep (eLst (aCons (eLst aNil) aNil)) (eC (.int 3))) (aCons (eTup (aCons (eC (.int 0)) (aCons (eC (.int 0))
    (aCons (eC (.int 0)) aNil)))) (aCons (eLst (aCons (eC (.int 0)) (aCons (eC (.int 0)) (aCons (eUn opNeg (eC (.int 1))) aNil)))) (aCons (eTup (aCons (eBin opPow (eC (.int 10)) (eC (.int 5))) (aCons (eC
    (.int 0)) (aCons (eUn opNeg (eC (.int 4))) aNil)))) (aCons (eLst (aCons (eTup (aCons (eC (.int 1)) (aCons (eC (.int 0)) (aCons (eC (.int 0)) aNil)))) aNil)) (aCons (eGo m_i_Spots (aCons (eLst (aCons
    (eTup (aCons (eC (.int 1)) (aCons (eC (.int 0)) (aCons (eC (.int 0)) aNil)))) aNil)) aNil)) aNil)))))))))))))))))) (sSeq (sExt 1 (eLst (aCons (eLst (aCons (eLst (aCons (eC (.int 1)) (aCons (eC (.int
    0)) (aCons (eC (.int 0)) aNil)))) (aCons (eLst (aCons (eC (.int 0)) (aCons (eC (.int 1)) (aCons (eC (.int 0)) aNil)))) (aCons (eLst (aCons (eC (.int 0)) (aCons (eC (.int 0)) (aCons (eC (.int 1))
    aNil)))) aNil)))) (aCons (eTup (aCons (eTup (aCons (eC (.int 0)) (aCons (eC (.int 0)) (aCons (eC (.int 1)) aNil)))) (aCons (eTup (aCons (eC (.int 0)) (aCons (eC (.int 1)) (aCons (eC (.int 0))
    aNil)))) (aCons (eLst (aCons (eC (.int 1)) (aCons (eC (.int 0)) (aCons (eC (.int 0)) aNil)))) aNil)))) (aCons (eLst (aCons (eLst (aCons (eC (.int 1)) (aCons (eC (.int 2)) (aCons (eC (.int 3))
    aNil)))) (aCons (eLst (aCons (eC (.int 4)) (aCons (eC (.int 5)) (aCons (eC (.int 6)) aNil)))) (aCons (eLst (aCons (eC (.int 7)) (aCons (eC (.int 8)) (aCons (eC (.int 9)) aNil)))) aNil)))) (aCons
    (eLst (aCons (eLst (aCons (eC (.bl true)) (aCons (eC (.int 0)) (aCons (eC (.int 0)) aNil)))) (aCons (eLst (aCons (eC (.int 0)) (aCons (eC (.int 1)) (aCons (eC (.int 0)) aNil)))) (aCons (eLst (aCons
    (eC (.int 0)) (aCons (eC (.int 0)) (aCons (eC (.int 1)) aNil)))) aNil)))) (aCons (eLst (aCons (eLst (aCons (eC (.int 1)) (aCons (eC (.int 0)) (aCons (eC (.int 0)) aNil)))) (aCons (eLst (aCons (eC
    (.int 0)) (aCons (eC (.int 1)) (aCons (eC (.int 0)) aNil)))) (aCons (eTup (aCons (eC (.int 0)) (aCons (eC (.int 0)) (aCons (eC (.bl true)) aNil)))) aNil)))) aNil))))))) (sSeq (sFor (iRng (aCons (eC
    (.int 6)) aNil)) (gN 2) f_l_right_b1) (sSeq (sFor (iVal (eVar 1)) (gN 3) f_l_right_b2) (sRet (eC (.bl true)))))))
def m_l_right : Fd := runD 11 .f f_l_right
abbrev s_l_pot : Stmt := topS 33
def f_l_pot : Fs := (sSeq (sSet 2 (eIf (tBl (eBin (cmpI fun i j => decide (i < j)) (eVar 1) (eApp fLen (aCons (eVar 0) aNil)))) (eApp fAbs (aCons (eBin opIx (eVar 0) (eVar 1)) aNil)) (eBin opAdd (eBin opMulA (eC (.int
    283)) (eVar 1)) (eC (.int 251))))) (sRet (eLst (aCons (eApp fMax2 (aCons (eC (.int 0)) (aCons (eBin opSub (eVar 2) (eBin opPow (eC (.int 10)) (eC (.int 18)))) aNil))) (aCons (eBin opAdd (eBin opMod
    (eApp fInt (aCons (eBin opAdd (eBin opAdd (eBin opMulA (eBin opMod (eApp fInt (aCons (eVar 2) aNil)) (eC (.int 2147483549))) (eC (.int 48271))) (eBin opMulA (eC (.int 7583)) (eVar 1))) (eC (.int
    31))) aNil)) (eC (.int 2147483563))) (eC (.int 1))) aNil)))))
def m_l_pot : Fd := runD 3 .o f_l_pot
abbrev s_law_ : Stmt := topS 47
def f_law_ : Fs := (sRet (eGoPot m_l_right (eGo m_l_pot (aCons (eVar 0) (aCons (eC (.int 0)) aNil)))))
def m_law_ : Fd := runD 1 .f f_law_
structure Top (K : PySem.W.Frag) (mg : Str → Option Value) : Prop where
  cl_Told : ClsF K mg "Told" ["told_points"]
  cl_Spots : ClsF K mg "Spots" ["own_points"]
  ci_Told : ClsI K mg "Told" ["Spots"]
  cT : ClsT K mg ["Spots"]
  g_gcd : mg "gcd" = some (.builtin "math.gcd")
  f_p_is_list : ∃ f fd, mg "is_list" = some (.ref f) ∧ Fun K "is_list" "is_list" s_p_is_list f fd
  f_p_divisor_of : ∃ f fd, mg "divisor_of" = some (.ref f) ∧ Fun K "divisor_of" "divisor_of" s_p_divisor_of f fd
  f_p_plain : ∃ f fd, mg "plain" = some (.ref f) ∧ Fun K "plain" "plain" s_p_plain f fd
  f_p_lead_place : ∃ f fd, mg "lead_place" = some (.ref f) ∧ Fun K "lead_place" "lead_place" s_p_lead_place f fd
  f_p_signed : ∃ f fd, mg "signed" = some (.ref f) ∧ Fun K "signed" "signed" s_p_signed f fd
  f_p_told_of : ∃ f fd, mg "told_of" = some (.ref f) ∧ Fun K "told_of" "told_of" s_p_told_of f fd
  f_p_is_integer : ∃ f fd, mg "is_integer" = some (.ref f) ∧ Fun K "is_integer" "is_integer" s_p_is_integer f fd
  f_p_are_point : ∃ f fd, mg "are_point" = some (.ref f) ∧ Fun K "are_point" "are_point" s_p_are_point f fd
  f_p_told_points : ∃ f fd, mg "told_points" = some (.ref f) ∧ Fun K "told_points" "told_points" s_p_told_points f fd
  f_i_Spots : ∃ C f fd, mg "Spots" = some (.ref C) ∧ Mk K C f ∧ Fun K "__init__" "Spots.__init__" s_i_Spots f fd
  f_c_Spots___repr__ : ∃ C f fd, mg "Spots" = some (.ref C) ∧ Cls K C ∧ Meth K C "__repr__" f ∧ Fun K "__repr__" "Spots.__repr__" s_c_Spots___repr__ f fd
  f_l_draw : ∃ f fd, mg "_law_draw" = some (.ref f) ∧ Fun K "_law_draw" "_law_draw" s_l_draw f fd
  f_l_point : ∃ f fd, mg "_law_point" = some (.ref f) ∧ Fun K "_law_point" "_law_point" s_l_point f fd
  f_l_sum : ∃ f fd, mg "_law_sum" = some (.ref f) ∧ Fun K "_law_sum" "_law_sum" s_l_sum f fd
  f_l_cross : ∃ f fd, mg "_law_cross" = some (.ref f) ∧ Fun K "_law_cross" "_law_cross" s_l_cross f fd
  f_l_whole : ∃ f fd, mg "_law_whole" = some (.ref f) ∧ Fun K "_law_whole" "_law_whole" s_l_whole f fd
  f_l_pick : ∃ f fd, mg "_law_pick" = some (.ref f) ∧ Fun K "_law_pick" "_law_pick" s_l_pick f fd
  f_l_table : ∃ f fd, mg "_law_table" = some (.ref f) ∧ Fun K "_law_table" "_law_table" s_l_table f fd
  f_p_is_point : ∃ f fd, mg "is_point" = some (.ref f) ∧ Fun K "is_point" "is_point" s_p_is_point f fd
  f_p_less : ∃ f fd, mg "less" = some (.ref f) ∧ Fun K "less" "less" s_p_less f fd
  f_p_cleared : ∃ f fd, mg "cleared" = some (.ref f) ∧ Fun K "cleared" "cleared" s_p_cleared f fd
  f_p_echelon : ∃ f fd, mg "echelon" = some (.ref f) ∧ Fun K "echelon" "echelon" s_p_echelon f fd
  f_p_rank_of : ∃ f fd, mg "rank_of" = some (.ref f) ∧ Fun K "rank_of" "rank_of" s_p_rank_of f fd
  f_p_are_table : ∃ f fd, mg "are_table" = some (.ref f) ∧ Fun K "are_table" "are_table" s_p_are_table f fd
  f_p_is_table : ∃ f fd, mg "is_table" = some (.ref f) ∧ Fun K "is_table" "is_table" s_p_is_table f fd
  f_l_is_point : ∃ f fd, mg "_law_is_point" = some (.ref f) ∧ Fun K "_law_is_point" "_law_is_point" s_l_is_point f fd
  f_l_is_table : ∃ f fd, mg "_law_is_table" = some (.ref f) ∧ Fun K "_law_is_table" "_law_is_table" s_l_is_table f fd
  f_l_bent : ∃ f fd, mg "_law_bent" = some (.ref f) ∧ Fun K "_law_bent" "_law_bent" s_l_bent f fd
  f_l_given : ∃ f fd, mg "_law_given" = some (.ref f) ∧ Fun K "_law_given" "_law_given" s_l_given f fd
  f_l_rows_bent : ∃ f fd, mg "_law_rows_bent" = some (.ref f) ∧ Fun K "_law_rows_bent" "_law_rows_bent" s_l_rows_bent f fd
  f_l_right : ∃ f fd, mg "_law_right" = some (.ref f) ∧ Fun K "_law_right" "_law_right" s_l_right f fd
  f_l_pot : ∃ f fd, mg "_law_pot" = some (.ref f) ∧ Fun K "_law_pot" "_law_pot" s_l_pot f fd
  f_law_ : ∃ f fd, mg "law" = some (.ref f) ∧ Fun K "law" "law" s_law_ f fd
  b_abs : mg "abs" = none
  b_all : mg "all" = none
  b_any : mg "any" = none
  b_bool : mg "bool" = none
  b_divmod : mg "divmod" = none
  b_enumerate : mg "enumerate" = none
  b_int : mg "int" = none
  b_isinstance : mg "isinstance" = none
  b_len : mg "len" = none
  b_list : mg "list" = none
  b_max : mg "max" = none
  b_range : mg "range" = none
  b_repr : mg "repr" = none
  b_sum : mg "sum" = none
  b_tuple : mg "tuple" = none
  b_zip : mg "zip" = none
  c_MOST_POINTS : ∃ u, mg "MOST_POINTS" = some u ∧ RelV (.int 24) u
theorem top_mk {K : PySem.W.Frag} {h : Heap} {mg : Str → Option Value} (X : K.In h) (G : h.Ns mainGlobals mg)
    (oN : PySem.W.specialIn K (.builtin "object.__class__") "__get__" = some (some (.builtin "getset_descriptor.__get__"))) (oT : PySem.W.takesIn K (.builtin "object.__class__") = some true)
    {C_Spots : Addr} (aC_Spots : PySem.W.nsIn K mainGlobals "Spots" = some (some (.ref C_Spots)))
    (pg_Spots : PySem.W.plainGet K C_Spots Str.empty = true) (hd_Spots : PySem.W.hasDictIn K C_Spots = true) (po_Spots : PySem.W.plainOver K C_Spots = true) (sa_Spots : PySem.W.findIn K (.ref C_Spots) "__setattr__" = some (some (.builtin "object.__setattr__")))
    (mk_Spots : PySem.W.makesIn K C_Spots = true) (kc_Spots : PySem.W.keepIn K (.ref C_Spots) = true)
    (ha_Spots : PySem.W.findIn K (.ref C_Spots) "__class__" = some (some (.builtin "object.__class__"))) (hm_Spots : PySem.W.mroIn K C_Spots (.type "object") = some true)
    {C_Told : Addr} (aC_Told : PySem.W.nsIn K mainGlobals "Told" = some (some (.ref C_Told)))
    (pg_Told : PySem.W.plainGet K C_Told Str.empty = true) (hd_Told : PySem.W.hasDictIn K C_Told = true) (po_Told : PySem.W.plainOver K C_Told = true) (sa_Told : PySem.W.findIn K (.ref C_Told) "__setattr__" = some (some (.builtin "object.__setattr__")))
    (nf_Told_told_points : PySem.W.findIn K (.ref C_Told) "told_points" = some none)
    (nf_Spots_own_points : PySem.W.findIn K (.ref C_Spots) "own_points" = some none)
    (ic_Told : PySem.W.isClsIn K C_Told = true) (ty_Told : PySem.W.typeIn K (.ref C_Told) = some (.type "type"))
    (kt_Told_NoneType : PySem.W.subIn K (.type "NoneType") (.ref C_Told) = some false)
    (kt_Told_bool : PySem.W.subIn K (.type "bool") (.ref C_Told) = some false)
    (kt_Told_int : PySem.W.subIn K (.type "int") (.ref C_Told) = some false)
    (kt_Told_str : PySem.W.subIn K (.type "str") (.ref C_Told) = some false)
    (kt_Told_list : PySem.W.subIn K (.type "list") (.ref C_Told) = some false)
    (kt_Told_tuple : PySem.W.subIn K (.type "tuple") (.ref C_Told) = some false)
    (kt_Told_dict : PySem.W.subIn K (.type "dict") (.ref C_Told) = some false)
    (ne_Told_Spots : (C_Spots == C_Told) = false) (ks_Told_Spots : PySem.W.subIn K (.ref C_Spots) (.ref C_Told) = some false)
    (st_Spots_NoneType : PySem.W.subIn K (.ref C_Spots) (.type "NoneType") = some false)
    (st_Spots_bool : PySem.W.subIn K (.ref C_Spots) (.type "bool") = some false)
    (st_Spots_int : PySem.W.subIn K (.ref C_Spots) (.type "int") = some false)
    (st_Spots_str : PySem.W.subIn K (.ref C_Spots) (.type "str") = some false)
    (st_Spots_list : PySem.W.subIn K (.ref C_Spots) (.type "list") = some false)
    (st_Spots_tuple : PySem.W.subIn K (.ref C_Spots) (.type "tuple") = some false)
    (st_Spots_dict : PySem.W.subIn K (.ref C_Spots) (.type "dict") = some false)
    (hg_gcd : PySem.W.nsIn K mainGlobals "gcd" = some (some (.builtin "math.gcd")))
    {f0 : Addr} {od0 an0 : Option Addr} {sl0 : Array (Option Value)} {oc0 kV0 dc0 pm0 cd0 ct0 : Value}
    (a0 : PySem.W.nsIn K mainGlobals "is_list" = some (some (.ref f0)))
    (l0 : K.lookup f0 = some ⟨oc0, od0, .func (PySem.W.fnOf "is_list" "is_list" (defArgs s_p_is_list) (defBody s_p_is_list) (defScope s_p_is_list) .none kV0 dc0 pm0 an0 cd0 ct0), sl0⟩) (c0 : PySem.W.codeIn K cd0 "is_list" = true) (k0 : PySem.W.keepIn K (.ref f0) = true)
    {f1 : Addr} {od1 an1 : Option Addr} {sl1 : Array (Option Value)} {oc1 kV1 dc1 pm1 cd1 ct1 : Value}
    (a1 : PySem.W.nsIn K mainGlobals "divisor_of" = some (some (.ref f1)))
    (l1 : K.lookup f1 = some ⟨oc1, od1, .func (PySem.W.fnOf "divisor_of" "divisor_of" (defArgs s_p_divisor_of) (defBody s_p_divisor_of) (defScope s_p_divisor_of) .none kV1 dc1 pm1 an1 cd1 ct1), sl1⟩) (c1 : PySem.W.codeIn K cd1 "divisor_of" = true) (k1 : PySem.W.keepIn K (.ref f1) = true)
    {f2 : Addr} {od2 an2 : Option Addr} {sl2 : Array (Option Value)} {oc2 kV2 dc2 pm2 cd2 ct2 : Value}
    (a2 : PySem.W.nsIn K mainGlobals "plain" = some (some (.ref f2)))
    (l2 : K.lookup f2 = some ⟨oc2, od2, .func (PySem.W.fnOf "plain" "plain" (defArgs s_p_plain) (defBody s_p_plain) (defScope s_p_plain) .none kV2 dc2 pm2 an2 cd2 ct2), sl2⟩) (c2 : PySem.W.codeIn K cd2 "plain" = true) (k2 : PySem.W.keepIn K (.ref f2) = true)
    {f3 : Addr} {od3 an3 : Option Addr} {sl3 : Array (Option Value)} {oc3 kV3 dc3 pm3 cd3 ct3 : Value}
    (a3 : PySem.W.nsIn K mainGlobals "lead_place" = some (some (.ref f3)))
    (l3 : K.lookup f3 = some ⟨oc3, od3, .func (PySem.W.fnOf "lead_place" "lead_place" (defArgs s_p_lead_place) (defBody s_p_lead_place) (defScope s_p_lead_place) .none kV3 dc3 pm3 an3 cd3 ct3), sl3⟩) (c3 : PySem.W.codeIn K cd3 "lead_place" = true) (k3 : PySem.W.keepIn K (.ref f3) = true)
    {f4 : Addr} {od4 an4 : Option Addr} {sl4 : Array (Option Value)} {oc4 kV4 dc4 pm4 cd4 ct4 : Value}
    (a4 : PySem.W.nsIn K mainGlobals "signed" = some (some (.ref f4)))
    (l4 : K.lookup f4 = some ⟨oc4, od4, .func (PySem.W.fnOf "signed" "signed" (defArgs s_p_signed) (defBody s_p_signed) (defScope s_p_signed) .none kV4 dc4 pm4 an4 cd4 ct4), sl4⟩) (c4 : PySem.W.codeIn K cd4 "signed" = true) (k4 : PySem.W.keepIn K (.ref f4) = true)
    {f5 : Addr} {od5 an5 : Option Addr} {sl5 : Array (Option Value)} {oc5 kV5 dc5 pm5 cd5 ct5 : Value}
    (a5 : PySem.W.nsIn K mainGlobals "told_of" = some (some (.ref f5)))
    (l5 : K.lookup f5 = some ⟨oc5, od5, .func (PySem.W.fnOf "told_of" "told_of" (defArgs s_p_told_of) (defBody s_p_told_of) (defScope s_p_told_of) .none kV5 dc5 pm5 an5 cd5 ct5), sl5⟩) (c5 : PySem.W.codeIn K cd5 "told_of" = true) (k5 : PySem.W.keepIn K (.ref f5) = true)
    {f6 : Addr} {od6 an6 : Option Addr} {sl6 : Array (Option Value)} {oc6 kV6 dc6 pm6 cd6 ct6 : Value}
    (a6 : PySem.W.nsIn K mainGlobals "is_integer" = some (some (.ref f6)))
    (l6 : K.lookup f6 = some ⟨oc6, od6, .func (PySem.W.fnOf "is_integer" "is_integer" (defArgs s_p_is_integer) (defBody s_p_is_integer) (defScope s_p_is_integer) .none kV6 dc6 pm6 an6 cd6 ct6), sl6⟩) (c6 : PySem.W.codeIn K cd6 "is_integer" = true) (k6 : PySem.W.keepIn K (.ref f6) = true)
    {f7 : Addr} {od7 an7 : Option Addr} {sl7 : Array (Option Value)} {oc7 kV7 dc7 pm7 cd7 ct7 : Value}
    (a7 : PySem.W.nsIn K mainGlobals "are_point" = some (some (.ref f7)))
    (l7 : K.lookup f7 = some ⟨oc7, od7, .func (PySem.W.fnOf "are_point" "are_point" (defArgs s_p_are_point) (defBody s_p_are_point) (defScope s_p_are_point) .none kV7 dc7 pm7 an7 cd7 ct7), sl7⟩) (c7 : PySem.W.codeIn K cd7 "are_point" = true) (k7 : PySem.W.keepIn K (.ref f7) = true)
    {f8 : Addr} {od8 an8 : Option Addr} {sl8 : Array (Option Value)} {oc8 kV8 dc8 pm8 cd8 ct8 : Value}
    (a8 : PySem.W.nsIn K mainGlobals "told_points" = some (some (.ref f8)))
    (l8 : K.lookup f8 = some ⟨oc8, od8, .func (PySem.W.fnOf "told_points" "told_points" (defArgs s_p_told_points) (defBody s_p_told_points) (defScope s_p_told_points) .none kV8 dc8 pm8 an8 cd8 ct8), sl8⟩) (c8 : PySem.W.codeIn K cd8 "told_points" = true) (k8 : PySem.W.keepIn K (.ref f8) = true)
    {f9 : Addr} {od9 an9 : Option Addr} {sl9 : Array (Option Value)} {oc9 kV9 dc9 pm9 cd9 ct9 : Value}
    (a9 : PySem.W.findIn K (.ref C_Spots) "__init__" = some (some (.ref f9))) (i9 : PySem.W.isFn K (.ref f9) = true)
    (l9 : K.lookup f9 = some ⟨oc9, od9, .func (PySem.W.fnOf "__init__" "Spots.__init__" (defArgs s_i_Spots) (defBody s_i_Spots) (defScope s_i_Spots) .none kV9 dc9 pm9 an9 cd9 ct9), sl9⟩) (c9 : PySem.W.codeIn K cd9 "Spots.__init__" = true) (k9 : PySem.W.keepIn K (.ref f9) = true)
    {f10 : Addr} {od10 an10 : Option Addr} {sl10 : Array (Option Value)} {oc10 kV10 dc10 pm10 cd10 ct10 : Value}
    (a10 : PySem.W.findIn K (.ref C_Spots) "__repr__" = some (some (.ref f10))) (i10 : PySem.W.isFn K (.ref f10) = true)
    (l10 : K.lookup f10 = some ⟨oc10, od10, .func (PySem.W.fnOf "__repr__" "Spots.__repr__" (defArgs s_c_Spots___repr__) (defBody s_c_Spots___repr__) (defScope s_c_Spots___repr__) .none kV10 dc10 pm10 an10 cd10 ct10), sl10⟩) (c10 : PySem.W.codeIn K cd10 "Spots.__repr__" = true) (k10 : PySem.W.keepIn K (.ref f10) = true)
    {f11 : Addr} {od11 an11 : Option Addr} {sl11 : Array (Option Value)} {oc11 kV11 dc11 pm11 cd11 ct11 : Value}
    (a11 : PySem.W.nsIn K mainGlobals "_law_draw" = some (some (.ref f11)))
    (l11 : K.lookup f11 = some ⟨oc11, od11, .func (PySem.W.fnOf "_law_draw" "_law_draw" (defArgs s_l_draw) (defBody s_l_draw) (defScope s_l_draw) .none kV11 dc11 pm11 an11 cd11 ct11), sl11⟩) (c11 : PySem.W.codeIn K cd11 "_law_draw" = true) (k11 : PySem.W.keepIn K (.ref f11) = true)
    {f12 : Addr} {od12 an12 : Option Addr} {sl12 : Array (Option Value)} {oc12 kV12 dc12 pm12 cd12 ct12 : Value}
    (a12 : PySem.W.nsIn K mainGlobals "_law_point" = some (some (.ref f12)))
    (l12 : K.lookup f12 = some ⟨oc12, od12, .func (PySem.W.fnOf "_law_point" "_law_point" (defArgs s_l_point) (defBody s_l_point) (defScope s_l_point) .none kV12 dc12 pm12 an12 cd12 ct12), sl12⟩) (c12 : PySem.W.codeIn K cd12 "_law_point" = true) (k12 : PySem.W.keepIn K (.ref f12) = true)
    {f13 : Addr} {od13 an13 : Option Addr} {sl13 : Array (Option Value)} {oc13 kV13 dc13 pm13 cd13 ct13 : Value}
    (a13 : PySem.W.nsIn K mainGlobals "_law_sum" = some (some (.ref f13)))
    (l13 : K.lookup f13 = some ⟨oc13, od13, .func (PySem.W.fnOf "_law_sum" "_law_sum" (defArgs s_l_sum) (defBody s_l_sum) (defScope s_l_sum) .none kV13 dc13 pm13 an13 cd13 ct13), sl13⟩) (c13 : PySem.W.codeIn K cd13 "_law_sum" = true) (k13 : PySem.W.keepIn K (.ref f13) = true)
    {f14 : Addr} {od14 an14 : Option Addr} {sl14 : Array (Option Value)} {oc14 kV14 dc14 pm14 cd14 ct14 : Value}
    (a14 : PySem.W.nsIn K mainGlobals "_law_cross" = some (some (.ref f14)))
    (l14 : K.lookup f14 = some ⟨oc14, od14, .func (PySem.W.fnOf "_law_cross" "_law_cross" (defArgs s_l_cross) (defBody s_l_cross) (defScope s_l_cross) .none kV14 dc14 pm14 an14 cd14 ct14), sl14⟩) (c14 : PySem.W.codeIn K cd14 "_law_cross" = true) (k14 : PySem.W.keepIn K (.ref f14) = true)
    {f15 : Addr} {od15 an15 : Option Addr} {sl15 : Array (Option Value)} {oc15 kV15 dc15 pm15 cd15 ct15 : Value}
    (a15 : PySem.W.nsIn K mainGlobals "_law_whole" = some (some (.ref f15)))
    (l15 : K.lookup f15 = some ⟨oc15, od15, .func (PySem.W.fnOf "_law_whole" "_law_whole" (defArgs s_l_whole) (defBody s_l_whole) (defScope s_l_whole) .none kV15 dc15 pm15 an15 cd15 ct15), sl15⟩) (c15 : PySem.W.codeIn K cd15 "_law_whole" = true) (k15 : PySem.W.keepIn K (.ref f15) = true)
    {f16 : Addr} {od16 an16 : Option Addr} {sl16 : Array (Option Value)} {oc16 kV16 dc16 pm16 cd16 ct16 : Value}
    (a16 : PySem.W.nsIn K mainGlobals "_law_pick" = some (some (.ref f16)))
    (l16 : K.lookup f16 = some ⟨oc16, od16, .func (PySem.W.fnOf "_law_pick" "_law_pick" (defArgs s_l_pick) (defBody s_l_pick) (defScope s_l_pick) .none kV16 dc16 pm16 an16 cd16 ct16), sl16⟩) (c16 : PySem.W.codeIn K cd16 "_law_pick" = true) (k16 : PySem.W.keepIn K (.ref f16) = true)
    {f17 : Addr} {od17 an17 : Option Addr} {sl17 : Array (Option Value)} {oc17 kV17 dc17 pm17 cd17 ct17 : Value}
    (a17 : PySem.W.nsIn K mainGlobals "_law_table" = some (some (.ref f17)))
    (l17 : K.lookup f17 = some ⟨oc17, od17, .func (PySem.W.fnOf "_law_table" "_law_table" (defArgs s_l_table) (defBody s_l_table) (defScope s_l_table) .none kV17 dc17 pm17 an17 cd17 ct17), sl17⟩) (c17 : PySem.W.codeIn K cd17 "_law_table" = true) (k17 : PySem.W.keepIn K (.ref f17) = true)
    {f18 : Addr} {od18 an18 : Option Addr} {sl18 : Array (Option Value)} {oc18 kV18 dc18 pm18 cd18 ct18 : Value}
    (a18 : PySem.W.nsIn K mainGlobals "is_point" = some (some (.ref f18)))
    (l18 : K.lookup f18 = some ⟨oc18, od18, .func (PySem.W.fnOf "is_point" "is_point" (defArgs s_p_is_point) (defBody s_p_is_point) (defScope s_p_is_point) .none kV18 dc18 pm18 an18 cd18 ct18), sl18⟩) (c18 : PySem.W.codeIn K cd18 "is_point" = true) (k18 : PySem.W.keepIn K (.ref f18) = true)
    {f19 : Addr} {od19 an19 : Option Addr} {sl19 : Array (Option Value)} {oc19 kV19 dc19 pm19 cd19 ct19 : Value}
    (a19 : PySem.W.nsIn K mainGlobals "less" = some (some (.ref f19)))
    (l19 : K.lookup f19 = some ⟨oc19, od19, .func (PySem.W.fnOf "less" "less" (defArgs s_p_less) (defBody s_p_less) (defScope s_p_less) .none kV19 dc19 pm19 an19 cd19 ct19), sl19⟩) (c19 : PySem.W.codeIn K cd19 "less" = true) (k19 : PySem.W.keepIn K (.ref f19) = true)
    {f20 : Addr} {od20 an20 : Option Addr} {sl20 : Array (Option Value)} {oc20 kV20 dc20 pm20 cd20 ct20 : Value}
    (a20 : PySem.W.nsIn K mainGlobals "cleared" = some (some (.ref f20)))
    (l20 : K.lookup f20 = some ⟨oc20, od20, .func (PySem.W.fnOf "cleared" "cleared" (defArgs s_p_cleared) (defBody s_p_cleared) (defScope s_p_cleared) .none kV20 dc20 pm20 an20 cd20 ct20), sl20⟩) (c20 : PySem.W.codeIn K cd20 "cleared" = true) (k20 : PySem.W.keepIn K (.ref f20) = true)
    {f21 : Addr} {od21 an21 : Option Addr} {sl21 : Array (Option Value)} {oc21 kV21 dc21 pm21 cd21 ct21 : Value}
    (a21 : PySem.W.nsIn K mainGlobals "echelon" = some (some (.ref f21)))
    (l21 : K.lookup f21 = some ⟨oc21, od21, .func (PySem.W.fnOf "echelon" "echelon" (defArgs s_p_echelon) (defBody s_p_echelon) (defScope s_p_echelon) .none kV21 dc21 pm21 an21 cd21 ct21), sl21⟩) (c21 : PySem.W.codeIn K cd21 "echelon" = true) (k21 : PySem.W.keepIn K (.ref f21) = true)
    {f22 : Addr} {od22 an22 : Option Addr} {sl22 : Array (Option Value)} {oc22 kV22 dc22 pm22 cd22 ct22 : Value}
    (a22 : PySem.W.nsIn K mainGlobals "rank_of" = some (some (.ref f22)))
    (l22 : K.lookup f22 = some ⟨oc22, od22, .func (PySem.W.fnOf "rank_of" "rank_of" (defArgs s_p_rank_of) (defBody s_p_rank_of) (defScope s_p_rank_of) .none kV22 dc22 pm22 an22 cd22 ct22), sl22⟩) (c22 : PySem.W.codeIn K cd22 "rank_of" = true) (k22 : PySem.W.keepIn K (.ref f22) = true)
    {f23 : Addr} {od23 an23 : Option Addr} {sl23 : Array (Option Value)} {oc23 kV23 dc23 pm23 cd23 ct23 : Value}
    (a23 : PySem.W.nsIn K mainGlobals "are_table" = some (some (.ref f23)))
    (l23 : K.lookup f23 = some ⟨oc23, od23, .func (PySem.W.fnOf "are_table" "are_table" (defArgs s_p_are_table) (defBody s_p_are_table) (defScope s_p_are_table) .none kV23 dc23 pm23 an23 cd23 ct23), sl23⟩) (c23 : PySem.W.codeIn K cd23 "are_table" = true) (k23 : PySem.W.keepIn K (.ref f23) = true)
    {f24 : Addr} {od24 an24 : Option Addr} {sl24 : Array (Option Value)} {oc24 kV24 dc24 pm24 cd24 ct24 : Value}
    (a24 : PySem.W.nsIn K mainGlobals "is_table" = some (some (.ref f24)))
    (l24 : K.lookup f24 = some ⟨oc24, od24, .func (PySem.W.fnOf "is_table" "is_table" (defArgs s_p_is_table) (defBody s_p_is_table) (defScope s_p_is_table) .none kV24 dc24 pm24 an24 cd24 ct24), sl24⟩) (c24 : PySem.W.codeIn K cd24 "is_table" = true) (k24 : PySem.W.keepIn K (.ref f24) = true)
    {f25 : Addr} {od25 an25 : Option Addr} {sl25 : Array (Option Value)} {oc25 kV25 dc25 pm25 cd25 ct25 : Value}
    (a25 : PySem.W.nsIn K mainGlobals "_law_is_point" = some (some (.ref f25)))
    (l25 : K.lookup f25 = some ⟨oc25, od25, .func (PySem.W.fnOf "_law_is_point" "_law_is_point" (defArgs s_l_is_point) (defBody s_l_is_point) (defScope s_l_is_point) .none kV25 dc25 pm25 an25 cd25 ct25), sl25⟩) (c25 : PySem.W.codeIn K cd25 "_law_is_point" = true) (k25 : PySem.W.keepIn K (.ref f25) = true)
    {f26 : Addr} {od26 an26 : Option Addr} {sl26 : Array (Option Value)} {oc26 kV26 dc26 pm26 cd26 ct26 : Value}
    (a26 : PySem.W.nsIn K mainGlobals "_law_is_table" = some (some (.ref f26)))
    (l26 : K.lookup f26 = some ⟨oc26, od26, .func (PySem.W.fnOf "_law_is_table" "_law_is_table" (defArgs s_l_is_table) (defBody s_l_is_table) (defScope s_l_is_table) .none kV26 dc26 pm26 an26 cd26 ct26), sl26⟩) (c26 : PySem.W.codeIn K cd26 "_law_is_table" = true) (k26 : PySem.W.keepIn K (.ref f26) = true)
    {f27 : Addr} {od27 an27 : Option Addr} {sl27 : Array (Option Value)} {oc27 kV27 dc27 pm27 cd27 ct27 : Value}
    (a27 : PySem.W.nsIn K mainGlobals "_law_bent" = some (some (.ref f27)))
    (l27 : K.lookup f27 = some ⟨oc27, od27, .func (PySem.W.fnOf "_law_bent" "_law_bent" (defArgs s_l_bent) (defBody s_l_bent) (defScope s_l_bent) .none kV27 dc27 pm27 an27 cd27 ct27), sl27⟩) (c27 : PySem.W.codeIn K cd27 "_law_bent" = true) (k27 : PySem.W.keepIn K (.ref f27) = true)
    {f28 : Addr} {od28 an28 : Option Addr} {sl28 : Array (Option Value)} {oc28 kV28 dc28 pm28 cd28 ct28 : Value}
    (a28 : PySem.W.nsIn K mainGlobals "_law_given" = some (some (.ref f28)))
    (l28 : K.lookup f28 = some ⟨oc28, od28, .func (PySem.W.fnOf "_law_given" "_law_given" (defArgs s_l_given) (defBody s_l_given) (defScope s_l_given) .none kV28 dc28 pm28 an28 cd28 ct28), sl28⟩) (c28 : PySem.W.codeIn K cd28 "_law_given" = true) (k28 : PySem.W.keepIn K (.ref f28) = true)
    {f29 : Addr} {od29 an29 : Option Addr} {sl29 : Array (Option Value)} {oc29 kV29 dc29 pm29 cd29 ct29 : Value}
    (a29 : PySem.W.nsIn K mainGlobals "_law_rows_bent" = some (some (.ref f29)))
    (l29 : K.lookup f29 = some ⟨oc29, od29, .func (PySem.W.fnOf "_law_rows_bent" "_law_rows_bent" (defArgs s_l_rows_bent) (defBody s_l_rows_bent) (defScope s_l_rows_bent) .none kV29 dc29 pm29 an29 cd29 ct29), sl29⟩) (c29 : PySem.W.codeIn K cd29 "_law_rows_bent" = true) (k29 : PySem.W.keepIn K (.ref f29) = true)
    {f30 : Addr} {od30 an30 : Option Addr} {sl30 : Array (Option Value)} {oc30 kV30 dc30 pm30 cd30 ct30 : Value}
    (a30 : PySem.W.nsIn K mainGlobals "_law_right" = some (some (.ref f30)))
    (l30 : K.lookup f30 = some ⟨oc30, od30, .func (PySem.W.fnOf "_law_right" "_law_right" (defArgs s_l_right) (defBody s_l_right) (defScope s_l_right) .none kV30 dc30 pm30 an30 cd30 ct30), sl30⟩) (c30 : PySem.W.codeIn K cd30 "_law_right" = true) (k30 : PySem.W.keepIn K (.ref f30) = true)
    {f31 : Addr} {od31 an31 : Option Addr} {sl31 : Array (Option Value)} {oc31 kV31 dc31 pm31 cd31 ct31 : Value}
    (a31 : PySem.W.nsIn K mainGlobals "_law_pot" = some (some (.ref f31)))
    (l31 : K.lookup f31 = some ⟨oc31, od31, .func (PySem.W.fnOf "_law_pot" "_law_pot" (defArgs s_l_pot) (defBody s_l_pot) (defScope s_l_pot) .none kV31 dc31 pm31 an31 cd31 ct31), sl31⟩) (c31 : PySem.W.codeIn K cd31 "_law_pot" = true) (k31 : PySem.W.keepIn K (.ref f31) = true)
    {f32 : Addr} {od32 an32 : Option Addr} {sl32 : Array (Option Value)} {oc32 kV32 dc32 pm32 cd32 ct32 : Value}
    (a32 : PySem.W.nsIn K mainGlobals "law" = some (some (.ref f32)))
    (l32 : K.lookup f32 = some ⟨oc32, od32, .func (PySem.W.fnOf "law" "law" (defArgs s_law_) (defBody s_law_) (defScope s_law_) .none kV32 dc32 pm32 an32 cd32 ct32), sl32⟩) (c32 : PySem.W.codeIn K cd32 "law" = true) (k32 : PySem.W.keepIn K (.ref f32) = true)
    (hb_abs : PySem.W.nsIn K mainGlobals "abs" = some none)
    (hb_all : PySem.W.nsIn K mainGlobals "all" = some none)
    (hb_any : PySem.W.nsIn K mainGlobals "any" = some none)
    (hb_bool : PySem.W.nsIn K mainGlobals "bool" = some none)
    (hb_divmod : PySem.W.nsIn K mainGlobals "divmod" = some none)
    (hb_enumerate : PySem.W.nsIn K mainGlobals "enumerate" = some none)
    (hb_int : PySem.W.nsIn K mainGlobals "int" = some none)
    (hb_isinstance : PySem.W.nsIn K mainGlobals "isinstance" = some none)
    (hb_len : PySem.W.nsIn K mainGlobals "len" = some none)
    (hb_list : PySem.W.nsIn K mainGlobals "list" = some none)
    (hb_max : PySem.W.nsIn K mainGlobals "max" = some none)
    (hb_range : PySem.W.nsIn K mainGlobals "range" = some none)
    (hb_repr : PySem.W.nsIn K mainGlobals "repr" = some none)
    (hb_sum : PySem.W.nsIn K mainGlobals "sum" = some none)
    (hb_tuple : PySem.W.nsIn K mainGlobals "tuple" = some none)
    (hb_zip : PySem.W.nsIn K mainGlobals "zip" = some none)
    {tk_MOST_POINTS : Tok} (hc_MOST_POINTS : PySem.W.nsIn K mainGlobals "MOST_POINTS" = some (some (.int 24 tk_MOST_POINTS))) : Top K mg :=
  { cl_Told := ⟨C_Told, PySem.W.mg_of X G aC_Told, ⟨pg_Told, hd_Told, po_Told, sa_Told⟩, (fa_cons nf_Told_told_points fa_nil)⟩,
    cl_Spots := ⟨C_Spots, PySem.W.mg_of X G aC_Spots, ⟨pg_Spots, hd_Spots, po_Spots, sa_Spots⟩, (fa_cons nf_Spots_own_points fa_nil)⟩,
    ci_Told := ⟨C_Told, PySem.W.mg_of X G aC_Told, (fa_cons (kit_ty ic_Told ty_Told kt_Told_NoneType) (fa_cons (kit_ty ic_Told ty_Told kt_Told_bool) (fa_cons (kit_ty ic_Told ty_Told kt_Told_int) (fa_cons (kit_ty ic_Told ty_Told kt_Told_str) (fa_cons (kit_ty ic_Told ty_Told kt_Told_list) (fa_cons (kit_ty ic_Told ty_Told kt_Told_tuple) (fa_cons (kit_ty ic_Told ty_Told kt_Told_dict) fa_nil))))))), (fa_cons ⟨C_Spots, PySem.W.mg_of X G aC_Spots, ⟨⟨pg_Spots, hd_Spots, po_Spots, sa_Spots⟩, ha_Spots, oN, oT, hm_Spots, kit_self⟩, (kit_ref ne_Told_Spots ic_Told ty_Told ks_Told_Spots)⟩ fa_nil)⟩,
    cT := ⟨(fa_cons ⟨C_Spots, PySem.W.mg_of X G aC_Spots, ⟨⟨pg_Spots, hd_Spots, po_Spots, sa_Spots⟩, ha_Spots, oN, oT, hm_Spots, kit_self⟩, (fa_cons (kit_own (by decide +kernel) st_Spots_NoneType) (fa_cons (kit_own (by decide +kernel) st_Spots_bool) (fa_cons (kit_own (by decide +kernel) st_Spots_int) (fa_cons (kit_own (by decide +kernel) st_Spots_str) (fa_cons (kit_own (by decide +kernel) st_Spots_list) (fa_cons (kit_own (by decide +kernel) st_Spots_tuple) (fa_cons (kit_own (by decide +kernel) st_Spots_dict) fa_nil)))))))⟩ fa_nil)⟩,
    g_gcd := PySem.W.mg_of X G hg_gcd,
    f_p_is_list := ⟨f0, _, PySem.W.mg_of X G a0, fun_mk (st := s_p_is_list) l0 c0 k0⟩,
    f_p_divisor_of := ⟨f1, _, PySem.W.mg_of X G a1, fun_mk (st := s_p_divisor_of) l1 c1 k1⟩,
    f_p_plain := ⟨f2, _, PySem.W.mg_of X G a2, fun_mk (st := s_p_plain) l2 c2 k2⟩,
    f_p_lead_place := ⟨f3, _, PySem.W.mg_of X G a3, fun_mk (st := s_p_lead_place) l3 c3 k3⟩,
    f_p_signed := ⟨f4, _, PySem.W.mg_of X G a4, fun_mk (st := s_p_signed) l4 c4 k4⟩,
    f_p_told_of := ⟨f5, _, PySem.W.mg_of X G a5, fun_mk (st := s_p_told_of) l5 c5 k5⟩,
    f_p_is_integer := ⟨f6, _, PySem.W.mg_of X G a6, fun_mk (st := s_p_is_integer) l6 c6 k6⟩,
    f_p_are_point := ⟨f7, _, PySem.W.mg_of X G a7, fun_mk (st := s_p_are_point) l7 c7 k7⟩,
    f_p_told_points := ⟨f8, _, PySem.W.mg_of X G a8, fun_mk (st := s_p_told_points) l8 c8 k8⟩,
    f_i_Spots := ⟨C_Spots, f9, _, PySem.W.mg_of X G aC_Spots, ⟨mk_Spots, a9, i9, kc_Spots⟩, fun_mk (st := s_i_Spots) l9 c9 k9⟩,
    f_c_Spots___repr__ := ⟨C_Spots, f10, _, PySem.W.mg_of X G aC_Spots, ⟨pg_Spots, hd_Spots, po_Spots, sa_Spots⟩, ⟨a10, i10, k10⟩, fun_mk (st := s_c_Spots___repr__) l10 c10 k10⟩,
    f_l_draw := ⟨f11, _, PySem.W.mg_of X G a11, fun_mk (st := s_l_draw) l11 c11 k11⟩,
    f_l_point := ⟨f12, _, PySem.W.mg_of X G a12, fun_mk (st := s_l_point) l12 c12 k12⟩,
    f_l_sum := ⟨f13, _, PySem.W.mg_of X G a13, fun_mk (st := s_l_sum) l13 c13 k13⟩,
    f_l_cross := ⟨f14, _, PySem.W.mg_of X G a14, fun_mk (st := s_l_cross) l14 c14 k14⟩,
    f_l_whole := ⟨f15, _, PySem.W.mg_of X G a15, fun_mk (st := s_l_whole) l15 c15 k15⟩,
    f_l_pick := ⟨f16, _, PySem.W.mg_of X G a16, fun_mk (st := s_l_pick) l16 c16 k16⟩,
    f_l_table := ⟨f17, _, PySem.W.mg_of X G a17, fun_mk (st := s_l_table) l17 c17 k17⟩,
    f_p_is_point := ⟨f18, _, PySem.W.mg_of X G a18, fun_mk (st := s_p_is_point) l18 c18 k18⟩,
    f_p_less := ⟨f19, _, PySem.W.mg_of X G a19, fun_mk (st := s_p_less) l19 c19 k19⟩,
    f_p_cleared := ⟨f20, _, PySem.W.mg_of X G a20, fun_mk (st := s_p_cleared) l20 c20 k20⟩,
    f_p_echelon := ⟨f21, _, PySem.W.mg_of X G a21, fun_mk (st := s_p_echelon) l21 c21 k21⟩,
    f_p_rank_of := ⟨f22, _, PySem.W.mg_of X G a22, fun_mk (st := s_p_rank_of) l22 c22 k22⟩,
    f_p_are_table := ⟨f23, _, PySem.W.mg_of X G a23, fun_mk (st := s_p_are_table) l23 c23 k23⟩,
    f_p_is_table := ⟨f24, _, PySem.W.mg_of X G a24, fun_mk (st := s_p_is_table) l24 c24 k24⟩,
    f_l_is_point := ⟨f25, _, PySem.W.mg_of X G a25, fun_mk (st := s_l_is_point) l25 c25 k25⟩,
    f_l_is_table := ⟨f26, _, PySem.W.mg_of X G a26, fun_mk (st := s_l_is_table) l26 c26 k26⟩,
    f_l_bent := ⟨f27, _, PySem.W.mg_of X G a27, fun_mk (st := s_l_bent) l27 c27 k27⟩,
    f_l_given := ⟨f28, _, PySem.W.mg_of X G a28, fun_mk (st := s_l_given) l28 c28 k28⟩,
    f_l_rows_bent := ⟨f29, _, PySem.W.mg_of X G a29, fun_mk (st := s_l_rows_bent) l29 c29 k29⟩,
    f_l_right := ⟨f30, _, PySem.W.mg_of X G a30, fun_mk (st := s_l_right) l30 c30 k30⟩,
    f_l_pot := ⟨f31, _, PySem.W.mg_of X G a31, fun_mk (st := s_l_pot) l31 c31 k31⟩,
    f_law_ := ⟨f32, _, PySem.W.mg_of X G a32, fun_mk (st := s_law_) l32 c32 k32⟩,
    b_abs := PySem.W.mg_none_of X G hb_abs,
    b_all := PySem.W.mg_none_of X G hb_all,
    b_any := PySem.W.mg_none_of X G hb_any,
    b_bool := PySem.W.mg_none_of X G hb_bool,
    b_divmod := PySem.W.mg_none_of X G hb_divmod,
    b_enumerate := PySem.W.mg_none_of X G hb_enumerate,
    b_int := PySem.W.mg_none_of X G hb_int,
    b_isinstance := PySem.W.mg_none_of X G hb_isinstance,
    b_len := PySem.W.mg_none_of X G hb_len,
    b_list := PySem.W.mg_none_of X G hb_list,
    b_max := PySem.W.mg_none_of X G hb_max,
    b_range := PySem.W.mg_none_of X G hb_range,
    b_repr := PySem.W.mg_none_of X G hb_repr,
    b_sum := PySem.W.mg_none_of X G hb_sum,
    b_tuple := PySem.W.mg_none_of X G hb_tuple,
    b_zip := PySem.W.mg_none_of X G hb_zip,
    c_MOST_POINTS := ⟨_, PySem.W.mg_of X G hc_MOST_POINTS, _, rfl⟩ }
section
variable {P : Program} {w : World} {K : PySem.W.Frag} {mg : Str → Option Value} {base : Heap}
theorem d_p_is_list (T : Top K mg) : DFn P w K mg base 1 "is_list" s_p_is_list ["value"] [.f] .f m_p_is_list :=
  dfn_of (N := ["value"]) [.f] [.f] T.f_p_is_list ⟨rfl, rfl, rfl, by decide, rfl, by decide, by decide⟩ rfl rfl (by decide) rfl (by first | exact .inl (.inl rfl) | exact .inl (.inr rfl) | exact .inr rfl) fun f cdv A outer s H E o =>
  ⟨_, (dss_one (ds_ret (de_isi2A (T := "list") (U := "tuple") ["Spots"] T.cT T.b_isinstance T.b_list T.b_tuple (de_var 0))))⟩
theorem b_p_is_list : ∀ (kV doc pm : Value) (an : Option Addr) (cdv ct : Value) (us : List Value), us.length = 1 → bindArgs (PySem.W.fnOf "is_list" "is_list" (defArgs s_p_is_list) (defBody s_p_is_list) (defScope s_p_is_list) .none kV doc pm an cdv ct) ⟨us, []⟩ = pure ((["value"] : List Str).zip us) := fun _ _ _ _ _ _ us hl => match us, hl with | [_], _ => rfl
theorem d_p_divisor_of (T : Top K mg) : DFn P w K mg base 1 "divisor_of" s_p_divisor_of ["row"] [.f] .f m_p_divisor_of :=
  dfn_of (N := ["row", "found", "number"]) [.f, .f, .f] [.f, .f, .f] T.f_p_divisor_of ⟨rfl, rfl, rfl, by decide, rfl, by decide, by decide⟩ rfl rfl (by decide) rfl (by first | exact .inl (.inl rfl) | exact .inl (.inr rfl) | exact .inr rfl) fun f cdv A outer s H E o =>
  ⟨_, (dss_cons (ds_set 1 o de_int) (dss_cons (ds_for o (di_seq (de_var 0)) (dg_name 2 o.nd) (dss_cons (ds_set 1 o (de_callG c_gcd T.g_gcd (da_b (de_var 1) (da_b (de_var 2) da_nil)))) (dss_one (ds_if (dt_cmp
    (o_eq o) (de_var 1) de_int) (dss_one (ds_ret de_int)) dss_nil)))) (dss_one (ds_ret (de_var 1)))))⟩
theorem b_p_divisor_of : ∀ (kV doc pm : Value) (an : Option Addr) (cdv ct : Value) (us : List Value), us.length = 1 → bindArgs (PySem.W.fnOf "divisor_of" "divisor_of" (defArgs s_p_divisor_of) (defBody s_p_divisor_of) (defScope s_p_divisor_of) .none kV doc pm an cdv ct) ⟨us, []⟩ = pure ((["row"] : List Str).zip us) := fun _ _ _ _ _ _ us hl => match us, hl with | [_], _ => rfl
theorem d_p_plain (T : Top K mg) : DFn P w K mg base 2 "plain" s_p_plain ["row"] [.f] .o m_p_plain :=
  dfn_of (N := ["row", "divisor", "number"]) [.f, .f, .f] [.f, .f, .f] T.f_p_plain ⟨rfl, rfl, rfl, by decide, rfl, by decide, by decide⟩ rfl rfl (by decide) rfl (by first | exact .inl (.inl rfl) | exact .inl (.inr rfl) | exact .inr rfl) fun f cdv A outer s H E o =>
  ⟨_, (dss_cons (ds_set 1 o (de_call (d_p_divisor_of T) o b_p_divisor_of (da_f (de_var 0) da_nil))) (dss_one (ds_ret (de_if (dt_cmp o_gt (de_var 1) de_int) (de_lc (own := [("number", 2)]) o (di_seq (de_var
    0)) (blk_of (by rfl)) (fun _ _ _ _ _ => ⟨_, (dg_name 2 (XOk.blk o).nd)⟩) (fun _ _ _ _ _ => ⟨_, dts_nil⟩) (fun _ _ _ _ _ => ⟨_, (de_bin o_fdivW (de_var 2) (de_var 1))⟩)) (de_callTy c_list T.b_list
    (da_b (de_var 0) da_nil))))))⟩
theorem b_p_plain : ∀ (kV doc pm : Value) (an : Option Addr) (cdv ct : Value) (us : List Value), us.length = 1 → bindArgs (PySem.W.fnOf "plain" "plain" (defArgs s_p_plain) (defBody s_p_plain) (defScope s_p_plain) .none kV doc pm an cdv ct) ⟨us, []⟩ = pure ((["row"] : List Str).zip us) := fun _ _ _ _ _ _ us hl => match us, hl with | [_], _ => rfl
theorem d_p_lead_place (T : Top K mg) : DFn P w K mg base 1 "lead_place" s_p_lead_place ["row"] [.f] .f m_p_lead_place :=
  dfn_of (N := ["row", "place", "number"]) [.f, .f, .f] [.f, .f, .f] T.f_p_lead_place ⟨rfl, rfl, rfl, by decide, rfl, by decide, by decide⟩ rfl rfl (by decide) rfl (by first | exact .inl (.inl rfl) | exact .inl (.inr rfl) | exact .inr rfl) fun f cdv A outer s H E o =>
  ⟨_, (dss_cons (ds_for o (di_enum T.b_enumerate (da_f (de_var 0) da_nil)) (dg_tup o.calm (dgs_cons (dg_name 1 o.nd) (dgs_cons (dg_name 2 o.nd) dgs_nil))) (dss_one (ds_if (dt_cmp (o_ne o) (de_var 2) de_int)
    (dss_one (ds_ret (de_var 1))) dss_nil))) (dss_one (ds_ret de_non)))⟩
theorem b_p_lead_place : ∀ (kV doc pm : Value) (an : Option Addr) (cdv ct : Value) (us : List Value), us.length = 1 → bindArgs (PySem.W.fnOf "lead_place" "lead_place" (defArgs s_p_lead_place) (defBody s_p_lead_place) (defScope s_p_lead_place) .none kV doc pm an cdv ct) ⟨us, []⟩ = pure ((["row"] : List Str).zip us) := fun _ _ _ _ _ _ us hl => match us, hl with | [_], _ => rfl
theorem d_p_signed (T : Top K mg) : DFn P w K mg base 3 "signed" s_p_signed ["row"] [.f] .f m_p_signed :=
  dfn_of (N := ["row", "found", "place", "number"]) [.f, .f, .f, .f] [.f, .f, .f, .f] T.f_p_signed ⟨rfl, rfl, rfl, by decide, rfl, by decide, by decide⟩ rfl rfl (by decide) rfl (by first | exact .inl (.inl rfl) | exact .inl (.inr rfl) | exact .inr rfl) fun f cdv A outer s H E o =>
  ⟨_, (dss_cons (ds_set 1 o ((de_call (d_p_plain T) o b_p_plain (da_f (de_var 0) da_nil))).toF) (dss_cons (ds_set 2 o (de_call (d_p_lead_place T) o b_p_lead_place (da_f (de_var 1) da_nil))) (dss_one (ds_ret
    (de_if (DW.dt (dw_or (dt_cmp o_isN (de_var 2) de_non) (dw_or1 (dt_cmp o_gt (de_ix (de_var 1) (de_var 2)) de_int)))) (de_var 1) ((de_lc (own := [("number", 3)]) o (di_seq (de_var 1)) (blk_of (by rfl))
    (fun _ _ _ _ _ => ⟨_, (dg_name 3 (XOk.blk o).nd)⟩) (fun _ _ _ _ _ => ⟨_, dts_nil⟩) (fun _ _ _ _ _ => ⟨_, (de_bin o_sub de_int (de_var 3))⟩))).toF)))))⟩
theorem b_p_signed : ∀ (kV doc pm : Value) (an : Option Addr) (cdv ct : Value) (us : List Value), us.length = 1 → bindArgs (PySem.W.fnOf "signed" "signed" (defArgs s_p_signed) (defBody s_p_signed) (defScope s_p_signed) .none kV doc pm an cdv ct) ⟨us, []⟩ = pure ((["row"] : List Str).zip us) := fun _ _ _ _ _ _ us hl => match us, hl with | [_], _ => rfl
theorem d_p_told_of (T : Top K mg) : DFn P w K mg base 4 "told_of" s_p_told_of ["point"] [.f] .f m_p_told_of :=
  dfn_of (N := ["point"]) [.f] [.f] T.f_p_told_of ⟨rfl, rfl, rfl, by decide, rfl, by decide, by decide⟩ rfl rfl (by decide) rfl (by first | exact .inl (.inl rfl) | exact .inl (.inr rfl) | exact .inr rfl) fun f cdv A outer s H E o =>
  ⟨_, (dss_one (ds_ret (de_callTy c_tuple T.b_tuple (da_b (de_call (d_p_signed T) o b_p_signed (da_f (de_var 0) da_nil)) da_nil))))⟩
theorem b_p_told_of : ∀ (kV doc pm : Value) (an : Option Addr) (cdv ct : Value) (us : List Value), us.length = 1 → bindArgs (PySem.W.fnOf "told_of" "told_of" (defArgs s_p_told_of) (defBody s_p_told_of) (defScope s_p_told_of) .none kV doc pm an cdv ct) ⟨us, []⟩ = pure ((["point"] : List Str).zip us) := fun _ _ _ _ _ _ us hl => match us, hl with | [_], _ => rfl
theorem d_p_is_integer (T : Top K mg) : DFn P w K mg base 1 "is_integer" s_p_is_integer ["value"] [.f] .f m_p_is_integer :=
  dfn_of (N := ["value"]) [.f] [.f] T.f_p_is_integer ⟨rfl, rfl, rfl, by decide, rfl, by decide, by decide⟩ rfl rfl (by decide) rfl (by first | exact .inl (.inl rfl) | exact .inl (.inr rfl) | exact .inr rfl) fun f cdv A outer s H E o =>
  ⟨_, (dss_one (ds_ret (de_and (de_isiA (T := "int") ["Spots"] T.cT T.b_isinstance T.b_int (de_var 0)) (de_one (de_not (de_isiA (T := "bool") ["Spots"] T.cT T.b_isinstance T.b_bool (de_var 0)))))))⟩
theorem b_p_is_integer : ∀ (kV doc pm : Value) (an : Option Addr) (cdv ct : Value) (us : List Value), us.length = 1 → bindArgs (PySem.W.fnOf "is_integer" "is_integer" (defArgs s_p_is_integer) (defBody s_p_is_integer) (defScope s_p_is_integer) .none kV doc pm an cdv ct) ⟨us, []⟩ = pure ((["value"] : List Str).zip us) := fun _ _ _ _ _ _ us hl => match us, hl with | [_], _ => rfl
theorem d_p_are_point (T : Top K mg) : DFn P w K mg base 2 "are_point" s_p_are_point ["value"] [.f] .f m_p_are_point :=
  dfn_of (N := ["value", "number"]) [.f, .f] [.f, .f] T.f_p_are_point ⟨rfl, rfl, rfl, by decide, rfl, by decide, by decide⟩ rfl rfl (by decide) rfl (by first | exact .inl (.inl rfl) | exact .inl (.inr rfl) | exact .inr rfl) fun f cdv A outer s H E o =>
  ⟨_, (dss_cons (ds_if (DW.dt (dw_or (dt_not (dt_of (de_call (d_p_is_list T) o b_p_is_list (da_f (de_var 0) da_nil)))) (dw_or (dt_cmp (o_ne o) (de_callB c_len T.b_len (da_b (de_var 0) da_nil)) de_int)
    (dw_or1 (dt_not (dt_of (de_callB (c_all o) T.b_all (da_b (de_lc (own := [("number", 1)]) o (di_seq (de_var 0)) (blk_of (by rfl)) (fun _ _ _ _ _ => ⟨_, (dg_name 1 (XOk.blk o).nd)⟩) (fun _ _ _ _ _ =>
    ⟨_, dts_nil⟩) (fun _ _ _ _ _ => ⟨_, (de_call (d_p_is_integer T) (XOk.blk o) b_p_is_integer (da_f (de_var 1) da_nil))⟩)) da_nil)))))))) (dss_one (ds_ret de_bl)) dss_nil) (dss_one (ds_ret (de_callB
    (c_anyA o) T.b_any (da_b (de_lc (own := [("number", 1)]) o (di_seq (de_var 0)) (blk_of (by rfl)) (fun _ _ _ _ _ => ⟨_, (dg_name 1 (XOk.blk o).nd)⟩) (fun _ _ _ _ _ => ⟨_, dts_nil⟩) (fun _ _ _ _ _ =>
    ⟨_, (de_cmp (o_ne (XOk.blk o)) (de_var 1) de_int)⟩)) da_nil)))))⟩
theorem b_p_are_point : ∀ (kV doc pm : Value) (an : Option Addr) (cdv ct : Value) (us : List Value), us.length = 1 → bindArgs (PySem.W.fnOf "are_point" "are_point" (defArgs s_p_are_point) (defBody s_p_are_point) (defScope s_p_are_point) .none kV doc pm an cdv ct) ⟨us, []⟩ = pure ((["value"] : List Str).zip us) := fun _ _ _ _ _ _ us hl => match us, hl with | [_], _ => rfl
theorem d_p_told_points (T : Top K mg) : DFn P w K mg base 5 "told_points" s_p_told_points ["value"] [.f] .f m_p_told_points :=
  dfn_of (N := ["value", "found", "position", "point"]) [.f, .o, .f, .f] [.f, .o, .f, .f] T.f_p_told_points ⟨rfl, rfl, rfl, by decide, rfl, by decide, by decide⟩ rfl rfl (by decide) rfl (by first | exact .inl (.inl rfl) | exact .inl (.inr rfl) | exact .inr rfl) fun f cdv A outer s H E o =>
  ⟨_, (dss_cons (ds_if (dt_of (de_isC ["Spots"] T.ci_Told T.b_isinstance (de_var 0))) (dss_one (ds_ret (de_fld "Told" ["told_points"] T.cl_Told (de_var 0)))) dss_nil) (dss_cons (ds_if (DW.dt (dw_or (dt_not
    (dt_of (de_call (d_p_is_list T) o b_p_is_list (da_f (de_var 0) da_nil)))) (dw_or1 (dt_not (dt_chain o_le o_le de_int (de_callB c_len T.b_len (da_b (de_var 0) da_nil)) (de_glob T.c_MOST_POINTS fun _
    => .int _)))))) (dss_one ds_never) dss_nil) (dss_cons (ds_set 1 o (de_lst da_nil)) (dss_cons (ds_for o (di_enum T.b_enumerate (da_f (de_var 0) da_nil)) (dg_tup o.calm (dgs_cons (dg_name 2 o.nd)
    (dgs_cons (dg_name 3 o.nd) dgs_nil))) (dss_cons (ds_if (DW.dt (dw_or (dt_not (dt_of (de_call (d_p_are_point T) o b_p_are_point (da_f (de_var 3) da_nil)))) (dw_or1 (dt_cmp (o_inA o) (de_call
    (d_p_told_of T) o b_p_told_of (da_f (de_var 3) da_nil)) (de_varo 1))))) (dss_one ds_never) dss_nil) (dss_one (ds_app 1 (de_call (d_p_told_of T) o b_p_told_of (da_f (de_var 3) da_nil)))))) (dss_one
    (ds_ret (de_callTy c_tuple T.b_tuple (da_b (de_varo 1) da_nil))))))))⟩
theorem b_p_told_points : ∀ (kV doc pm : Value) (an : Option Addr) (cdv ct : Value) (us : List Value), us.length = 1 → bindArgs (PySem.W.fnOf "told_points" "told_points" (defArgs s_p_told_points) (defBody s_p_told_points) (defScope s_p_told_points) .none kV doc pm an cdv ct) ⟨us, []⟩ = pure ((["value"] : List Str).zip us) := fun _ _ _ _ _ _ us hl => match us, hl with | [_], _ => rfl
theorem d_i_Spots (T : Top K mg) : DMk P w K mg base 6 "Spots" "Spots.__init__" s_i_Spots ["self", "points"] [.f] m_i_Spots :=
  dmk_of (N := ["self", "points"]) [.u, .f] T.f_i_Spots ⟨rfl, rfl, rfl, by decide, rfl, by decide, by decide⟩ rfl rfl (by decide) rfl (by decide) (by decide) fun f cdv A outer s H E o =>
  ⟨_, (din_fldC "Spots" ["own_points"] T.cl_Spots (de_call (d_p_told_points T) o b_p_told_points (da_f (de_var 1) da_nil)) din_nil)⟩
theorem b_i_Spots : ∀ (kV doc pm : Value) (an : Option Addr) (cdv ct : Value) (us : List Value), us.length = 2 → bindArgs (PySem.W.fnOf "__init__" "Spots.__init__" (defArgs s_i_Spots) (defBody s_i_Spots) (defScope s_i_Spots) .none kV doc pm an cdv ct) ⟨us, []⟩ = pure ((["self", "points"] : List Str).zip us) := fun _ _ _ _ _ _ us hl => match us, hl with | [_, _], _ => rfl
theorem d_c_Spots___repr__ (T : Top K mg) : DMe P w K mg base 1 "Spots" "__repr__" "Spots.__repr__" s_c_Spots___repr__ ["self"] [] .f m_c_Spots___repr__ :=
  dme_of (N := ["self"]) [.f] [.f] T.f_c_Spots___repr__ ⟨rfl, rfl, rfl, by decide, rfl, by decide, by decide⟩ rfl rfl (by decide) rfl fun f cdv A outer s H E o =>
  ⟨_, (dss_one (ds_ret (de_join (.cons de_str (.cons (de_fmtR o (de_callTy c_list T.b_list (da_b (de_fld "Spots" ["own_points"] T.cl_Spots (de_var 0)) da_nil)).toB) (.cons de_str .nil))))))⟩
theorem d_c_Spots___repr___g (T : Top K mg) : DMG P w K mg base 1 "Spots" "__repr__" "Spots.__repr__" s_c_Spots___repr__ ["self"] [] .f m_c_Spots___repr__ :=
  dmg_of (N := ["self"]) [.f] [.f] T.f_c_Spots___repr__ ⟨rfl, rfl, rfl, by decide, rfl, by decide, by decide⟩ rfl rfl (by decide) rfl fun f cdv A outer s H E o =>
  ⟨_, (dss_one (ds_ret (de_join (.cons de_str (.cons (de_fmtRG o (de_callTy c_list T.b_list (da_b (de_fld "Spots" ["own_points"] T.cl_Spots (de_var 0)) da_nil)).toB) (.cons de_str .nil))))))⟩
theorem b_c_Spots___repr__ : ∀ (kV doc pm : Value) (an : Option Addr) (cdv ct : Value) (us : List Value), us.length = 1 → bindArgs (PySem.W.fnOf "__repr__" "Spots.__repr__" (defArgs s_c_Spots___repr__) (defBody s_c_Spots___repr__) (defScope s_c_Spots___repr__) .none kV doc pm an cdv ct) ⟨us, []⟩ = pure ((["self"] : List Str).zip us) := fun _ _ _ _ _ _ us hl => match us, hl with | [_], _ => rfl
theorem d_l_draw (T : Top K mg) : DFn P w K mg base 1 "_law_draw" s_l_draw ["_law_pot_here", "_law_many"] [.p, .f] .f m_l_draw :=
  dfn_of (N := ["_law_pot_here", "_law_many", "_law_digit"]) [.p, .f, .f] [.p, .f, .f] T.f_l_draw ⟨rfl, rfl, rfl, by decide, rfl, by decide, by decide⟩ rfl rfl (by decide) rfl (by first | exact .inl (.inl rfl) | exact .inl (.inr rfl) | exact .inr rfl) fun f cdv A outer s H E o =>
  ⟨_, (dss_cons (ds_if (dt_cmp o_gt (de_pot0 0) de_int) (dss_cons (ds_potdm 0 2 o T.b_divmod (de_var 1)) (dss_one (ds_ret (de_var 2)))) dss_nil) (dss_cons (ds_pot1 0 (de_bin o_mod (de_callTy c_int T.b_int
    (da_b (de_bin o_add (de_bin o_mulA (de_pot1 0) de_int) de_int) da_nil)) de_int)) (dss_one (ds_ret (de_bin o_mod (de_callTy c_int T.b_int (da_b (de_bin o_fdivW (de_bin o_mod (de_callTy c_int T.b_int
    (da_b (de_bin o_mulA (de_pot1 0) (de_pot1 0)) da_nil)) de_int) de_int) da_nil)) (de_var 1))))))⟩
theorem b_l_draw : ∀ (kV doc pm : Value) (an : Option Addr) (cdv ct : Value) (us : List Value), us.length = 2 → bindArgs (PySem.W.fnOf "_law_draw" "_law_draw" (defArgs s_l_draw) (defBody s_l_draw) (defScope s_l_draw) .none kV doc pm an cdv ct) ⟨us, []⟩ = pure ((["_law_pot_here", "_law_many"] : List Str).zip us) := fun _ _ _ _ _ _ us hl => match us, hl with | [_, _], _ => rfl
theorem d_l_point (T : Top K mg) : DFn P w K mg base 2 "_law_point" s_l_point ["_law_pot_here", "_law_most"] [.p, .f] .f m_l_point :=
  dfn_of (N := ["_law_pot_here", "_law_most", "_law_found", "_law_at"]) [.p, .f, .f, .f] [.p, .f, .f, .f] T.f_l_point ⟨rfl, rfl, rfl, by decide, rfl, by decide, by decide⟩ rfl rfl (by decide) rfl (by first | exact .inl (.inl rfl) | exact .inl (.inr rfl) | exact .inr rfl) fun f cdv A outer s H E o =>
  ⟨_, (dss_cons (ds_setLcR 2 (r' := .f) (.inl rfl) (own := [("_law_at", 3)]) o (di_range1 T.b_range (da_f de_int da_nil)) (blk_of (by rfl)) (fun _ _ _ _ _ => ⟨_, (dg_name 3 (XOk.blk o).nd)⟩) (fun _ _ _ _ _
    => ⟨_, dts_nil⟩) (fun _ _ _ _ _ => ⟨_, (de_bin o_sub (de_call (d_l_draw T) (XOk.blk o) b_l_draw (da_p 0 (da_f (de_bin o_add (de_bin o_mulA de_int (de_var 1)) de_int) da_nil))) (de_var 1))⟩)) (dss_one
    (ds_ret (de_if (dt_of (de_callB (c_anyA o) T.b_any (da_b (de_var 2) da_nil))) (de_var 2) ((de_lst (da_f de_int (da_f de_int (da_f (de_bin o_sub de_int (de_var 1)) da_nil))))).toF))))⟩
theorem b_l_point : ∀ (kV doc pm : Value) (an : Option Addr) (cdv ct : Value) (us : List Value), us.length = 2 → bindArgs (PySem.W.fnOf "_law_point" "_law_point" (defArgs s_l_point) (defBody s_l_point) (defScope s_l_point) .none kV doc pm an cdv ct) ⟨us, []⟩ = pure ((["_law_pot_here", "_law_most"] : List Str).zip us) := fun _ _ _ _ _ _ us hl => match us, hl with | [_, _], _ => rfl
theorem d_l_sum (T : Top K mg) : DFn P w K mg base 1 "_law_sum" s_l_sum ["_law_one", "_law_other"] [.f, .f] .f m_l_sum :=
  dfn_of (N := ["_law_one", "_law_other", "_law_near", "_law_far"]) [.f, .f, .f, .f] [.f, .f, .f, .f] T.f_l_sum ⟨rfl, rfl, rfl, by decide, rfl, by decide, by decide⟩ rfl rfl (by decide) rfl (by first | exact .inl (.inl rfl) | exact .inl (.inr rfl) | exact .inr rfl) fun f cdv A outer s H E o =>
  ⟨_, (dss_one (ds_ret (de_callB (c_sum o) T.b_sum (da_b (de_lc (own := [("_law_near", 2), ("_law_far", 3)]) o (di_zip T.b_zip (da_f (de_var 0) (da_f (de_var 1) da_nil))) (blk_of (by rfl)) (fun _ _ _ _ _ =>
    ⟨_, (dg_tup (XOk.blk o).calm (dgs_cons (dg_name 2 (XOk.blk o).nd) (dgs_cons (dg_name 3 (XOk.blk o).nd) dgs_nil)))⟩) (fun _ _ _ _ _ => ⟨_, dts_nil⟩) (fun _ _ _ _ _ => ⟨_, (de_bin o_mulA (de_var 2)
    (de_var 3))⟩)) da_nil))))⟩
theorem b_l_sum : ∀ (kV doc pm : Value) (an : Option Addr) (cdv ct : Value) (us : List Value), us.length = 2 → bindArgs (PySem.W.fnOf "_law_sum" "_law_sum" (defArgs s_l_sum) (defBody s_l_sum) (defScope s_l_sum) .none kV doc pm an cdv ct) ⟨us, []⟩ = pure ((["_law_one", "_law_other"] : List Str).zip us) := fun _ _ _ _ _ _ us hl => match us, hl with | [_, _], _ => rfl
theorem d_l_cross (T : Top K mg) : DFn P w K mg base 1 "_law_cross" s_l_cross ["_law_one", "_law_other"] [.f, .f] .f m_l_cross :=
  dfn_of (N := ["_law_one", "_law_other"]) [.f, .f] [.f, .f] T.f_l_cross ⟨rfl, rfl, rfl, by decide, rfl, by decide, by decide⟩ rfl rfl (by decide) rfl (by first | exact .inl (.inl rfl) | exact .inl (.inr rfl) | exact .inr rfl) fun f cdv A outer s H E o =>
  ⟨_, (dss_one (ds_ret (de_tup (da_f (de_bin o_sub (de_bin o_mulA (de_ix (de_var 0) de_int) (de_ix (de_var 1) de_int)) (de_bin o_mulA (de_ix (de_var 0) de_int) (de_ix (de_var 1) de_int))) (da_f (de_bin o_sub
    (de_bin o_mulA (de_ix (de_var 0) de_int) (de_ix (de_var 1) de_int)) (de_bin o_mulA (de_ix (de_var 0) de_int) (de_ix (de_var 1) de_int))) (da_f (de_bin o_sub (de_bin o_mulA (de_ix (de_var 0) de_int)
    (de_ix (de_var 1) de_int)) (de_bin o_mulA (de_ix (de_var 0) de_int) (de_ix (de_var 1) de_int))) da_nil))))))⟩
theorem b_l_cross : ∀ (kV doc pm : Value) (an : Option Addr) (cdv ct : Value) (us : List Value), us.length = 2 → bindArgs (PySem.W.fnOf "_law_cross" "_law_cross" (defArgs s_l_cross) (defBody s_l_cross) (defScope s_l_cross) .none kV doc pm an cdv ct) ⟨us, []⟩ = pure ((["_law_one", "_law_other"] : List Str).zip us) := fun _ _ _ _ _ _ us hl => match us, hl with | [_, _], _ => rfl
theorem d_l_whole (T : Top K mg) : DFn P w K mg base 2 "_law_whole" s_l_whole ["_law_one", "_law_other", "_law_third"] [.f, .f, .f] .f m_l_whole :=
  dfn_of (N := ["_law_one", "_law_other", "_law_third"]) [.f, .f, .f] [.f, .f, .f] T.f_l_whole ⟨rfl, rfl, rfl, by decide, rfl, by decide, by decide⟩ rfl rfl (by decide) rfl (by first | exact .inl (.inl rfl) | exact .inl (.inr rfl) | exact .inr rfl) fun f cdv A outer s H E o =>
  ⟨_, (dss_one (ds_ret (de_call (d_l_sum T) o b_l_sum (da_f (de_call (d_l_cross T) o b_l_cross (da_f (de_var 0) (da_f (de_var 1) da_nil))) (da_f (de_var 2) da_nil)))))⟩
theorem b_l_whole : ∀ (kV doc pm : Value) (an : Option Addr) (cdv ct : Value) (us : List Value), us.length = 3 → bindArgs (PySem.W.fnOf "_law_whole" "_law_whole" (defArgs s_l_whole) (defBody s_l_whole) (defScope s_l_whole) .none kV doc pm an cdv ct) ⟨us, []⟩ = pure ((["_law_one", "_law_other", "_law_third"] : List Str).zip us) := fun _ _ _ _ _ _ us hl => match us, hl with | [_, _, _], _ => rfl
theorem d_l_pick (T : Top K mg) : DFn P w K mg base 2 "_law_pick" s_l_pick ["_law_pot_here", "_law_some"] [.p, .f] .f m_l_pick :=
  dfn_of (N := ["_law_pot_here", "_law_some"]) [.p, .f] [.p, .f] T.f_l_pick ⟨rfl, rfl, rfl, by decide, rfl, by decide, by decide⟩ rfl rfl (by decide) rfl (by first | exact .inl (.inl rfl) | exact .inl (.inr rfl) | exact .inr rfl) fun f cdv A outer s H E o =>
  ⟨_, (dss_one (ds_ret (de_ix (de_var 1) (de_call (d_l_draw T) o b_l_draw (da_p 0 (da_f (de_callB c_len T.b_len (da_b (de_var 1) da_nil)) da_nil))))))⟩
theorem b_l_pick : ∀ (kV doc pm : Value) (an : Option Addr) (cdv ct : Value) (us : List Value), us.length = 2 → bindArgs (PySem.W.fnOf "_law_pick" "_law_pick" (defArgs s_l_pick) (defBody s_l_pick) (defScope s_l_pick) .none kV doc pm an cdv ct) ⟨us, []⟩ = pure ((["_law_pot_here", "_law_some"] : List Str).zip us) := fun _ _ _ _ _ _ us hl => match us, hl with | [_, _], _ => rfl
theorem d_l_table (T : Top K mg) : DFn P w K mg base 3 "_law_table" s_l_table ["_law_pot_here", "_law_most"] [.p, .f] .f m_l_table :=
  dfn_of (N := ["_law_pot_here", "_law_most", "_law_found", "_law_at"]) [.p, .f, .f, .f] [.p, .f, .f, .f] T.f_l_table ⟨rfl, rfl, rfl, by decide, rfl, by decide, by decide⟩ rfl rfl (by decide) rfl (by first | exact .inl (.inl rfl) | exact .inl (.inr rfl) | exact .inr rfl) fun f cdv A outer s H E o =>
  ⟨_, (dss_cons (ds_setLcR 2 (r' := .f) (.inl rfl) (own := [("_law_at", 3)]) o (di_range1 T.b_range (da_f de_int da_nil)) (blk_of (by rfl)) (fun _ _ _ _ _ => ⟨_, (dg_name 3 (XOk.blk o).nd)⟩) (fun _ _ _ _ _
    => ⟨_, dts_nil⟩) (fun _ _ _ _ _ => ⟨_, (de_call (d_l_point T) (XOk.blk o) b_l_point (da_p 0 (da_f (de_var 1) da_nil)))⟩)) (dss_cons (ds_if (dt_cmp (o_eq o) (de_call (d_l_whole T) o b_l_whole (da_f
    (de_ix (de_var 2) de_int) (da_f (de_ix (de_var 2) de_int) (da_f (de_ix (de_var 2) de_int) da_nil)))) de_int) (dss_one (ds_set 2 o ((de_lst (da_f ((de_lst (da_f de_int (da_f de_int (da_f de_int
    da_nil))))).toF (da_f ((de_lst (da_f (de_bin o_sub (de_call (d_l_draw T) o b_l_draw (da_p 0 (da_f de_int da_nil))) de_int) (da_f de_int (da_f de_int da_nil))))).toF (da_f ((de_lst (da_f (de_bin o_sub
    (de_call (d_l_draw T) o b_l_draw (da_p 0 (da_f de_int da_nil))) de_int) (da_f (de_bin o_sub (de_call (d_l_draw T) o b_l_draw (da_p 0 (da_f de_int da_nil))) de_int) (da_f (de_call (d_l_pick T) o
    b_l_pick (da_p 0 (da_f ((de_lst (da_f de_int (da_f (de_un o_neg de_int) (da_f de_int da_nil))))).toF da_nil))) da_nil))))).toF da_nil))))).toF)) dss_nil) (dss_one (ds_ret (de_var 2)))))⟩
theorem b_l_table : ∀ (kV doc pm : Value) (an : Option Addr) (cdv ct : Value) (us : List Value), us.length = 2 → bindArgs (PySem.W.fnOf "_law_table" "_law_table" (defArgs s_l_table) (defBody s_l_table) (defScope s_l_table) .none kV doc pm an cdv ct) ⟨us, []⟩ = pure ((["_law_pot_here", "_law_most"] : List Str).zip us) := fun _ _ _ _ _ _ us hl => match us, hl with | [_, _], _ => rfl
theorem d_p_is_point (T : Top K mg) : DFn P w K mg base 3 "is_point" s_p_is_point ["value"] [.f] .f m_p_is_point :=
  dfn_of (N := ["value"]) [.f] [.f] T.f_p_is_point ⟨rfl, rfl, rfl, by decide, rfl, by decide, by decide⟩ rfl rfl (by decide) rfl (by first | exact .inl (.inl rfl) | exact .inl (.inr rfl) | exact .inr rfl) fun f cdv A outer s H E o =>
  ⟨_, (dss_one (ds_ret (de_call (d_p_are_point T) o b_p_are_point (da_f (de_var 0) da_nil))))⟩
theorem b_p_is_point : ∀ (kV doc pm : Value) (an : Option Addr) (cdv ct : Value) (us : List Value), us.length = 1 → bindArgs (PySem.W.fnOf "is_point" "is_point" (defArgs s_p_is_point) (defBody s_p_is_point) (defScope s_p_is_point) .none kV doc pm an cdv ct) ⟨us, []⟩ = pure ((["value"] : List Str).zip us) := fun _ _ _ _ _ _ us hl => match us, hl with | [_], _ => rfl
theorem b_p_is_point_k : ∀ (kV doc pm : Value) (an : Option Addr) (cdv ct : Value) (us : List Value), us.length = 1 → bindArgs (PySem.W.fnOf "is_point" "is_point" (defArgs s_p_is_point) (defBody s_p_is_point) (defScope s_p_is_point) .none kV doc pm an cdv ct) ⟨[], (["value"] : List Str).zip us⟩ = pure ((["value"] : List Str).zip us) := fun _ _ _ _ _ _ us hl => match us, hl with | [_], _ => rfl
theorem d_p_less (T : Top K mg) : DFn P w K mg base 1 "less" s_p_less ["row", "pivot", "place"] [.f, .f, .f] .o m_p_less :=
  dfn_of (N := ["row", "pivot", "place", "shared", "near", "far", "number", "taken"]) [.f, .f, .f, .f, .f, .f, .f, .f] [.f, .f, .f, .f, .f, .f, .f, .f] T.f_p_less ⟨rfl, rfl, rfl, by decide, rfl, by decide, by decide⟩ rfl rfl (by decide) rfl (by first | exact .inl (.inl rfl) | exact .inl (.inr rfl) | exact .inr rfl) fun f cdv A outer s H E o =>
  ⟨_, (dss_cons (ds_set 3 o (de_callG c_gcd T.g_gcd (da_b (de_ix (de_var 1) (de_var 2)) (da_b (de_ix (de_var 0) (de_var 2)) da_nil)))) (dss_cons (ds_unp (de_tup (da_f (de_bin o_fdivW (de_ix (de_var 1)
    (de_var 2)) (de_var 3)) (da_f (de_bin o_fdivW (de_ix (de_var 0) (de_var 2)) (de_var 3)) da_nil))) (dg_tup o.calm (dgs_cons (dg_name 4 o.nd) (dgs_cons (dg_name 5 o.nd) dgs_nil)))) (dss_one (ds_ret
    (de_lc (own := [("number", 6), ("taken", 7)]) o (di_zip T.b_zip (da_f (de_var 0) (da_f (de_var 1) da_nil))) (blk_of (by rfl)) (fun _ _ _ _ _ => ⟨_, (dg_tup (XOk.blk o).calm (dgs_cons (dg_name 6
    (XOk.blk o).nd) (dgs_cons (dg_name 7 (XOk.blk o).nd) dgs_nil)))⟩) (fun _ _ _ _ _ => ⟨_, dts_nil⟩) (fun _ _ _ _ _ => ⟨_, (de_bin o_sub (de_bin o_mulA (de_var 4) (de_var 6)) (de_bin o_mulA (de_var 5)
    (de_var 7)))⟩))))))⟩
theorem b_p_less : ∀ (kV doc pm : Value) (an : Option Addr) (cdv ct : Value) (us : List Value), us.length = 3 → bindArgs (PySem.W.fnOf "less" "less" (defArgs s_p_less) (defBody s_p_less) (defScope s_p_less) .none kV doc pm an cdv ct) ⟨us, []⟩ = pure ((["row", "pivot", "place"] : List Str).zip us) := fun _ _ _ _ _ _ us hl => match us, hl with | [_, _, _], _ => rfl
theorem d_p_cleared (T : Top K mg) : DFn P w K mg base 3 "cleared" s_p_cleared ["found", "row"] [.f, .f] .o m_p_cleared :=
  dfn_of (N := ["found", "row", "here", "place", "pivot"]) [.f, .f, .f, .f, .f] [.f, .f, .f, .f, .f] T.f_p_cleared ⟨rfl, rfl, rfl, by decide, rfl, by decide, by decide⟩ rfl rfl (by decide) rfl (by first | exact .inl (.inl rfl) | exact .inl (.inr rfl) | exact .inr rfl) fun f cdv A outer s H E o =>
  ⟨_, (dss_cons (ds_set 2 o (de_var 1)) (dss_cons (ds_for o (di_seq (de_var 0)) (dg_tup o.calm (dgs_cons (dg_name 3 o.nd) (dgs_cons (dg_name 4 o.nd) dgs_nil))) (dss_one (ds_if (dt_cmp (o_ne o) (de_ix (de_var
    2) (de_var 3)) de_int) (dss_one (ds_set 2 o ((de_call (d_p_less T) o b_p_less (da_f (de_var 2) (da_f (de_var 4) (da_f (de_var 3) da_nil))))).toF)) dss_nil))) (dss_one (ds_ret (de_call (d_p_plain T) o
    b_p_plain (da_f (de_var 2) da_nil))))))⟩
theorem b_p_cleared : ∀ (kV doc pm : Value) (an : Option Addr) (cdv ct : Value) (us : List Value), us.length = 2 → bindArgs (PySem.W.fnOf "cleared" "cleared" (defArgs s_p_cleared) (defBody s_p_cleared) (defScope s_p_cleared) .none kV doc pm an cdv ct) ⟨us, []⟩ = pure ((["found", "row"] : List Str).zip us) := fun _ _ _ _ _ _ us hl => match us, hl with | [_, _], _ => rfl
theorem d_p_echelon (T : Top K mg) : DFn P w K mg base 4 "echelon" s_p_echelon ["rows"] [.f] .t m_p_echelon :=
  dfn_of (N := ["rows", "found", "positions", "position", "row", "here", "place"]) [.f, .o, .o, .f, .f, .f, .f] [.f, .o, .o, .f, .f, .f, .f] T.f_p_echelon ⟨rfl, rfl, rfl, by decide, rfl, by decide, by decide⟩ rfl rfl (by decide) rfl (by first | exact .inl (.inl rfl) | exact .inl (.inr rfl) | exact .inr rfl) fun f cdv A outer s H E o =>
  ⟨_, (dss_cons (ds_par 1 2 o (de_lst da_nil) (de_lst da_nil)) (dss_cons (ds_for o (di_enum T.b_enumerate (da_f (de_var 0) da_nil)) (dg_tup o.calm (dgs_cons (dg_name 3 o.nd) (dgs_cons (dg_name 4 o.nd)
    dgs_nil))) (dss_cons (ds_set 5 o ((de_callL (d_p_cleared T) o b_p_cleared (da_b (de_varo 1) (da_f (de_var 4) da_nil)))).toF) (dss_cons (ds_set 6 o (de_call (d_p_lead_place T) o b_p_lead_place (da_f
    (de_var 5) da_nil))) (dss_one (ds_if (dt_cmp o_notN (de_var 6) de_non) (dss_cons (ds_app 1 (de_tup (da_f (de_var 6) (da_f (de_var 5) da_nil)))) (dss_one (ds_app 2 (de_var 3)))) dss_nil))))) (dss_one
    (ds_rett 1 2))))⟩
theorem b_p_echelon : ∀ (kV doc pm : Value) (an : Option Addr) (cdv ct : Value) (us : List Value), us.length = 1 → bindArgs (PySem.W.fnOf "echelon" "echelon" (defArgs s_p_echelon) (defBody s_p_echelon) (defScope s_p_echelon) .none kV doc pm an cdv ct) ⟨us, []⟩ = pure ((["rows"] : List Str).zip us) := fun _ _ _ _ _ _ us hl => match us, hl with | [_], _ => rfl
theorem d_p_rank_of (T : Top K mg) : DFn P w K mg base 5 "rank_of" s_p_rank_of ["rows"] [.f] .f m_p_rank_of :=
  dfn_of (N := ["rows"]) [.f] [.f] T.f_p_rank_of ⟨rfl, rfl, rfl, by decide, rfl, by decide, by decide⟩ rfl rfl (by decide) rfl (by first | exact .inl (.inl rfl) | exact .inl (.inr rfl) | exact .inr rfl) fun f cdv A outer s H E o =>
  ⟨_, (dss_one (ds_ret (de_callB c_len T.b_len (da_b (de_ixT 0 (de_call (d_p_echelon T) o b_p_echelon (da_f (de_var 0) da_nil)) de_int) da_nil))))⟩
theorem b_p_rank_of : ∀ (kV doc pm : Value) (an : Option Addr) (cdv ct : Value) (us : List Value), us.length = 1 → bindArgs (PySem.W.fnOf "rank_of" "rank_of" (defArgs s_p_rank_of) (defBody s_p_rank_of) (defScope s_p_rank_of) .none kV doc pm an cdv ct) ⟨us, []⟩ = pure ((["rows"] : List Str).zip us) := fun _ _ _ _ _ _ us hl => match us, hl with | [_], _ => rfl
theorem d_p_are_table (T : Top K mg) : DFn P w K mg base 6 "are_table" s_p_are_table ["value"] [.f] .f m_p_are_table :=
  dfn_of (N := ["value", "row", "number"]) [.f, .f, .f] [.f, .f, .f] T.f_p_are_table ⟨rfl, rfl, rfl, by decide, rfl, by decide, by decide⟩ rfl rfl (by decide) rfl (by first | exact .inl (.inl rfl) | exact .inl (.inr rfl) | exact .inr rfl) fun f cdv A outer s H E o =>
  ⟨_, (dss_cons (ds_if (DW.dt (dw_or (dt_not (dt_of (de_call (d_p_is_list T) o b_p_is_list (da_f (de_var 0) da_nil)))) (dw_or1 (dt_cmp (o_ne o) (de_callB c_len T.b_len (da_b (de_var 0) da_nil)) de_int))))
    (dss_one (ds_ret de_bl)) dss_nil) (dss_cons (ds_for o (di_seq (de_var 0)) (dg_name 1 o.nd) (dss_one (ds_if (DW.dt (dw_or (dt_not (dt_of (de_call (d_p_is_list T) o b_p_is_list (da_f (de_var 1)
    da_nil)))) (dw_or (dt_cmp (o_ne o) (de_callB c_len T.b_len (da_b (de_var 1) da_nil)) de_int) (dw_or1 (dt_not (dt_of (de_callB (c_all o) T.b_all (da_b (de_lc (own := [("number", 2)]) o (di_seq (de_var
    1)) (blk_of (by rfl)) (fun _ _ _ _ _ => ⟨_, (dg_name 2 (XOk.blk o).nd)⟩) (fun _ _ _ _ _ => ⟨_, dts_nil⟩) (fun _ _ _ _ _ => ⟨_, (de_call (d_p_is_integer T) (XOk.blk o) b_p_is_integer (da_f (de_var 2)
    da_nil))⟩)) da_nil)))))))) (dss_one (ds_ret de_bl)) dss_nil))) (dss_one (ds_ret (de_cmp (o_eq o) (de_call (d_p_rank_of T) o b_p_rank_of (da_f (de_var 0) da_nil)) de_int)))))⟩
theorem b_p_are_table : ∀ (kV doc pm : Value) (an : Option Addr) (cdv ct : Value) (us : List Value), us.length = 1 → bindArgs (PySem.W.fnOf "are_table" "are_table" (defArgs s_p_are_table) (defBody s_p_are_table) (defScope s_p_are_table) .none kV doc pm an cdv ct) ⟨us, []⟩ = pure ((["value"] : List Str).zip us) := fun _ _ _ _ _ _ us hl => match us, hl with | [_], _ => rfl
theorem d_p_is_table (T : Top K mg) : DFn P w K mg base 7 "is_table" s_p_is_table ["value"] [.f] .f m_p_is_table :=
  dfn_of (N := ["value"]) [.f] [.f] T.f_p_is_table ⟨rfl, rfl, rfl, by decide, rfl, by decide, by decide⟩ rfl rfl (by decide) rfl (by first | exact .inl (.inl rfl) | exact .inl (.inr rfl) | exact .inr rfl) fun f cdv A outer s H E o =>
  ⟨_, (dss_one (ds_ret (de_call (d_p_are_table T) o b_p_are_table (da_f (de_var 0) da_nil))))⟩
theorem b_p_is_table : ∀ (kV doc pm : Value) (an : Option Addr) (cdv ct : Value) (us : List Value), us.length = 1 → bindArgs (PySem.W.fnOf "is_table" "is_table" (defArgs s_p_is_table) (defBody s_p_is_table) (defScope s_p_is_table) .none kV doc pm an cdv ct) ⟨us, []⟩ = pure ((["value"] : List Str).zip us) := fun _ _ _ _ _ _ us hl => match us, hl with | [_], _ => rfl
theorem b_p_is_table_k : ∀ (kV doc pm : Value) (an : Option Addr) (cdv ct : Value) (us : List Value), us.length = 1 → bindArgs (PySem.W.fnOf "is_table" "is_table" (defArgs s_p_is_table) (defBody s_p_is_table) (defScope s_p_is_table) .none kV doc pm an cdv ct) ⟨[], (["value"] : List Str).zip us⟩ = pure ((["value"] : List Str).zip us) := fun _ _ _ _ _ _ us hl => match us, hl with | [_], _ => rfl
theorem d_l_is_point (T : Top K mg) : DFn P w K mg base 1 "_law_is_point" s_l_is_point ["_law_value"] [.f] .f m_l_is_point :=
  dfn_of (N := ["_law_value", "_law_number"]) [.f, .f] [.f, .f] T.f_l_is_point ⟨rfl, rfl, rfl, by decide, rfl, by decide, by decide⟩ rfl rfl (by decide) rfl (by first | exact .inl (.inl rfl) | exact .inl (.inr rfl) | exact .inr rfl) fun f cdv A outer s H E o =>
  ⟨_, (dss_cons (ds_if (DW.dt (dw_or (dt_not (dt_of (de_isi2A (T := "list") (U := "tuple") ["Spots"] T.cT T.b_isinstance T.b_list T.b_tuple (de_var 0)))) (dw_or1 (dt_cmp (o_ne o) (de_callB c_len T.b_len
    (da_b (de_var 0) da_nil)) de_int)))) (dss_one (ds_ret de_bl)) dss_nil) (dss_cons (ds_if (dt_not (dt_of (de_callB (c_all o) T.b_all (da_b (de_lc (own := [("_law_number", 1)]) o (di_seq (de_var 0))
    (blk_of (by rfl)) (fun _ _ _ _ _ => ⟨_, (dg_name 1 (XOk.blk o).nd)⟩) (fun _ _ _ _ _ => ⟨_, dts_nil⟩) (fun _ _ _ _ _ => ⟨_, (de_and (de_isiA (T := "int") ["Spots"] T.cT T.b_isinstance T.b_int (de_var
    1)) (de_one (de_not (de_isiA (T := "bool") ["Spots"] T.cT T.b_isinstance T.b_bool (de_var 1)))))⟩)) da_nil)))) (dss_one (ds_ret de_bl)) dss_nil) (dss_one (ds_ret (de_callB (c_anyA o) T.b_any (da_b
    (de_lc (own := [("_law_number", 1)]) o (di_seq (de_var 0)) (blk_of (by rfl)) (fun _ _ _ _ _ => ⟨_, (dg_name 1 (XOk.blk o).nd)⟩) (fun _ _ _ _ _ => ⟨_, dts_nil⟩) (fun _ _ _ _ _ => ⟨_, (de_cmp (o_ne
    (XOk.blk o)) (de_var 1) de_int)⟩)) da_nil))))))⟩
theorem b_l_is_point : ∀ (kV doc pm : Value) (an : Option Addr) (cdv ct : Value) (us : List Value), us.length = 1 → bindArgs (PySem.W.fnOf "_law_is_point" "_law_is_point" (defArgs s_l_is_point) (defBody s_l_is_point) (defScope s_l_is_point) .none kV doc pm an cdv ct) ⟨us, []⟩ = pure ((["_law_value"] : List Str).zip us) := fun _ _ _ _ _ _ us hl => match us, hl with | [_], _ => rfl
theorem d_l_is_table (T : Top K mg) : DFn P w K mg base 3 "_law_is_table" s_l_is_table ["_law_value"] [.f] .f m_l_is_table :=
  dfn_of (N := ["_law_value", "_law_row", "_law_one"]) [.f, .f, .f] [.f, .f, .f] T.f_l_is_table ⟨rfl, rfl, rfl, by decide, rfl, by decide, by decide⟩ rfl rfl (by decide) rfl (by first | exact .inl (.inl rfl) | exact .inl (.inr rfl) | exact .inr rfl) fun f cdv A outer s H E o =>
  ⟨_, (dss_cons (ds_if (DW.dt (dw_or (dt_not (dt_of (de_isi2A (T := "list") (U := "tuple") ["Spots"] T.cT T.b_isinstance T.b_list T.b_tuple (de_var 0)))) (dw_or1 (dt_cmp (o_ne o) (de_callB c_len T.b_len
    (da_b (de_var 0) da_nil)) de_int)))) (dss_one (ds_ret de_bl)) dss_nil) (dss_cons (ds_for o (di_seq (de_var 0)) (dg_name 1 o.nd) (dss_one (ds_if (DW.dt (dw_or (dt_not (dt_of (de_isi2A (T := "list") (U
    := "tuple") ["Spots"] T.cT T.b_isinstance T.b_list T.b_tuple (de_var 1)))) (dw_or (dt_cmp (o_ne o) (de_callB c_len T.b_len (da_b (de_var 1) da_nil)) de_int) (dw_or1 (dt_not (dt_of (de_callB (c_all o)
    T.b_all (da_b (de_lc (own := [("_law_one", 2)]) o (di_seq (de_var 1)) (blk_of (by rfl)) (fun _ _ _ _ _ => ⟨_, (dg_name 2 (XOk.blk o).nd)⟩) (fun _ _ _ _ _ => ⟨_, dts_nil⟩) (fun _ _ _ _ _ => ⟨_,
    (de_and (de_isiA (T := "int") ["Spots"] T.cT T.b_isinstance T.b_int (de_var 2)) (de_one (de_not (de_isiA (T := "bool") ["Spots"] T.cT T.b_isinstance T.b_bool (de_var 2)))))⟩)) da_nil)))))))) (dss_one
    (ds_ret de_bl)) dss_nil))) (dss_one (ds_ret (de_cmp (o_ne o) (de_call (d_l_whole T) o b_l_whole (da_f (de_ix (de_var 0) de_int) (da_f (de_ix (de_var 0) de_int) (da_f (de_ix (de_var 0) de_int)
    da_nil)))) de_int)))))⟩
theorem b_l_is_table : ∀ (kV doc pm : Value) (an : Option Addr) (cdv ct : Value) (us : List Value), us.length = 1 → bindArgs (PySem.W.fnOf "_law_is_table" "_law_is_table" (defArgs s_l_is_table) (defBody s_l_is_table) (defScope s_l_is_table) .none kV doc pm an cdv ct) ⟨us, []⟩ = pure ((["_law_value"] : List Str).zip us) := fun _ _ _ _ _ _ us hl => match us, hl with | [_], _ => rfl
theorem d_l_bent (T : Top K mg) : DFn P w K mg base 3 "_law_bent" s_l_bent ["_law_pot_here", "_law_value"] [.p, .f] .f m_l_bent :=
  dfn_of (N := ["_law_pot_here", "_law_value", "_law_found", "_law_at", "_law_way", "_law_one"]) [.p, .f, .f, .f, .f, .f] [.p, .f, .f, .f, .f, .f] T.f_l_bent ⟨rfl, rfl, rfl, by decide, rfl, by decide, by decide⟩ rfl rfl (by decide) rfl (by first | exact .inl (.inl rfl) | exact .inl (.inr rfl) | exact .inr rfl) fun f cdv A outer s H E o =>
  ⟨_, (dss_cons (ds_par 2 3 o ((de_callTy c_list T.b_list (da_b (de_var 1) da_nil))).toF (de_call (d_l_draw T) o b_l_draw (da_p 0 (da_f de_int da_nil)))) (dss_cons (ds_set 4 o (de_call (d_l_draw T) o
    b_l_draw (da_p 0 (da_f de_int da_nil)))) (dss_cons (ds_if (dt_cmp (o_eq o) (de_var 4) de_int) (dss_one (ds_ret (de_bin o_add (de_slice (de_var 2) do_none (do_some (de_var 3))) (de_slice (de_var 2)
    (do_some (de_bin o_add (de_var 3) de_int)) do_none)))) dss_nil) (dss_cons (ds_if (dt_cmp (o_eq o) (de_var 4) de_int) (dss_one (ds_ret (de_bin o_add (de_var 2) (de_slice (de_var 2) do_none (do_some
    de_int))))) dss_nil) (dss_cons (ds_if (dt_cmp (o_eq o) (de_var 4) de_int) (dss_one (ds_ret (de_bin o_add (de_bin o_add (de_slice (de_var 2) do_none (do_some (de_var 3))) (de_lst (da_f (de_call
    (d_l_pick T) o b_l_pick (da_p 0 (da_f ((de_lst (da_f de_non (da_f de_bl (da_f de_bl (da_f de_str (da_f ((de_lst (da_f de_int da_nil))).toF (da_f (de_tup (da_f de_int (da_f de_int (da_f de_int
    da_nil)))) (da_f de_dict0 da_nil))))))))).toF da_nil))) da_nil))) (de_slice (de_var 2) (do_some (de_bin o_add (de_var 3) de_int)) do_none)))) dss_nil) (dss_cons (ds_if (dt_cmp (o_eq o) (de_var 4)
    de_int) (dss_one (ds_ret ((de_lc (own := [("_law_one", 5)]) o (di_seq (de_var 2)) (blk_of (by rfl)) (fun _ _ _ _ _ => ⟨_, (dg_name 5 (XOk.blk o).nd)⟩) (fun _ _ _ _ _ => ⟨_, dts_nil⟩) (fun _ _ _ _ _
    => ⟨_, (de_if (dt_of (de_isiA (T := "int") ["Spots"] T.cT T.b_isinstance T.b_int (de_var 5))) de_int ((de_callTy c_list T.b_list (da_b (de_var 5) da_nil))).toF)⟩))).toF)) dss_nil) (dss_one (ds_ret
    (de_if (dt_cmp (o_eq o) (de_var 4) de_int) (de_callTy c_tuple T.b_tuple (da_b (de_var 2) da_nil)) ((de_revL (de_var 2))).toF)))))))))⟩
theorem b_l_bent : ∀ (kV doc pm : Value) (an : Option Addr) (cdv ct : Value) (us : List Value), us.length = 2 → bindArgs (PySem.W.fnOf "_law_bent" "_law_bent" (defArgs s_l_bent) (defBody s_l_bent) (defScope s_l_bent) .none kV doc pm an cdv ct) ⟨us, []⟩ = pure ((["_law_pot_here", "_law_value"] : List Str).zip us) := fun _ _ _ _ _ _ us hl => match us, hl with | [_, _], _ => rfl
theorem d_l_given (T : Top K mg) : DFn P w K mg base 2 "_law_given" s_l_given ["_law_pot_here", "_law_point_here"] [.p, .f] .f m_l_given :=
  dfn_of (N := ["_law_pot_here", "_law_point_here"]) [.p, .f] [.p, .f] T.f_l_given ⟨rfl, rfl, rfl, by decide, rfl, by decide, by decide⟩ rfl rfl (by decide) rfl (by first | exact .inl (.inl rfl) | exact .inl (.inr rfl) | exact .inr rfl) fun f cdv A outer s H E o =>
  ⟨_, (dss_one (ds_ret (de_if (dt_cmp (o_eq o) (de_call (d_l_draw T) o b_l_draw (da_p 0 (da_f de_int da_nil))) de_int) (de_callTy c_tuple T.b_tuple (da_b (de_var 1) da_nil)) ((de_callTy c_list T.b_list (da_b
    (de_var 1) da_nil))).toF)))⟩
theorem b_l_given : ∀ (kV doc pm : Value) (an : Option Addr) (cdv ct : Value) (us : List Value), us.length = 2 → bindArgs (PySem.W.fnOf "_law_given" "_law_given" (defArgs s_l_given) (defBody s_l_given) (defScope s_l_given) .none kV doc pm an cdv ct) ⟨us, []⟩ = pure ((["_law_pot_here", "_law_point_here"] : List Str).zip us) := fun _ _ _ _ _ _ us hl => match us, hl with | [_, _], _ => rfl
theorem d_l_rows_bent (T : Top K mg) : DFn P w K mg base 4 "_law_rows_bent" s_l_rows_bent ["_law_pot_here", "_law_rows"] [.p, .f] .f m_l_rows_bent :=
  dfn_of (N := ["_law_pot_here", "_law_rows", "_law_found", "_law_at", "_law_way", "_law_row", "_law_one", "_law_two"]) [.p, .f, .o, .f, .f, .f, .f, .f] [.p, .f, .f, .f, .f, .f, .f, .f] T.f_l_rows_bent ⟨rfl, rfl, rfl, by decide, rfl, by decide, by decide⟩ rfl rfl (by decide) rfl (by first | exact .inl (.inl rfl) | exact .inl (.inr rfl) | exact .inr rfl) fun f cdv A outer s H E o =>
  ⟨_, (dss_cons (ds_par 2 3 o (de_lc (own := [("_law_row", 5)]) o (di_seq (de_var 1)) (blk_of (by rfl)) (fun _ _ _ _ _ => ⟨_, (dg_name 5 (XOk.blk o).nd)⟩) (fun _ _ _ _ _ => ⟨_, dts_nil⟩) (fun _ _ _ _ _ =>
    ⟨_, (de_call (d_l_given T) (XOk.blk o) b_l_given (da_p 0 (da_f (de_var 5) da_nil)))⟩)) (de_call (d_l_draw T) o b_l_draw (da_p 0 (da_f de_int da_nil)))) (dss_cons (ds_set 4 o (de_call (d_l_draw T) o
    b_l_draw (da_p 0 (da_f de_int da_nil)))) (dss_cons (ds_if (dt_cmp (o_eq o) (de_var 4) de_int) (dss_one (ds_setix 2 (de_call (d_l_bent T) o b_l_bent (da_p 0 (da_f (de_ix (de_var 1) (de_var 3))
    da_nil))) (de_var 3))) (dss_one (ds_if (dt_cmp (o_eq o) (de_var 4) de_int) (dss_one (ds_setix 2 (de_ix (de_varo 2) (de_bin o_sub (de_var 3) de_int)) (de_var 3))) (dss_one (ds_if (dt_cmp (o_eq o)
    (de_var 4) de_int) (dss_one (ds_setix 2 ((de_lc (own := [("_law_one", 6), ("_law_two", 7)]) o (di_zip T.b_zip (da_f (de_ix (de_var 1) (de_bin o_sub (de_var 3) de_int)) (da_f (de_ix (de_var 1) (de_bin
    o_sub (de_var 3) de_int)) da_nil))) (blk_of (by rfl)) (fun _ _ _ _ _ => ⟨_, (dg_tup (XOk.blk o).calm (dgs_cons (dg_name 6 (XOk.blk o).nd) (dgs_cons (dg_name 7 (XOk.blk o).nd) dgs_nil)))⟩) (fun _ _ _
    _ _ => ⟨_, dts_nil⟩) (fun _ _ _ _ _ => ⟨_, (de_bin o_add (de_var 6) (de_var 7))⟩))).toF (de_var 3))) (dss_one (ds_if (dt_cmp (o_eq o) (de_var 4) de_int) (dss_one (ds_setix 2 ((de_lst (da_f de_int
    (da_f de_int (da_f de_int da_nil))))).toF (de_var 3))) (dss_one (ds_if (dt_cmp (o_eq o) (de_var 4) de_int) (dss_frz 2 (dss_one (ds_ret (de_call (d_l_bent T) o b_l_bent (da_p 0 (da_f (de_var 2)
    da_nil)))))) dss_nil))))))))) (dss_frz 2 (dss_one (ds_ret (de_if (dt_cmp (o_eq o) (de_call (d_l_draw T) o b_l_draw (da_p 0 (da_f de_int da_nil))) de_int) (de_var 2) (de_callTy c_tuple T.b_tuple (da_b
    (de_var 2) da_nil)))))))))⟩
theorem b_l_rows_bent : ∀ (kV doc pm : Value) (an : Option Addr) (cdv ct : Value) (us : List Value), us.length = 2 → bindArgs (PySem.W.fnOf "_law_rows_bent" "_law_rows_bent" (defArgs s_l_rows_bent) (defBody s_l_rows_bent) (defScope s_l_rows_bent) .none kV doc pm an cdv ct) ⟨us, []⟩ = pure ((["_law_pot_here", "_law_rows"] : List Str).zip us) := fun _ _ _ _ _ _ us hl => match us, hl with | [_, _], _ => rfl
theorem d_l_right (T : Top K mg) : DFn P w K mg base 8 "_law_right" s_l_right ["_law_pot_here"] [.p] .f m_l_right :=
  dfn_of (N := ["_law_pot_here", "_law_values", "_law_turn", "_law_value", "_law_point_here", "_law_rows", "_law_shown", "_law_told", "_law_one", "_law_other", "_law_at"]) [.p, .o, .f, .f, .f, .f, .f, .f, .f, .f, .f] [.p, .f, .f, .f, .f, .f, .f, .f, .f, .f, .f] T.f_l_right ⟨rfl, rfl, rfl, by decide, rfl, by decide, by decide⟩ rfl rfl (by decide) rfl (by first | exact .inl (.inl rfl) | exact .inl (.inr rfl) | exact .inr rfl) fun f cdv A outer s H E o =>
  ⟨_, (dss_cons (ds_set 1 o (de_lst (da_f de_non (da_f de_int (da_f de_int (da_f de_bl (da_f de_str (da_f de_str (da_f ((de_lst da_nil)).toF (da_f (de_tup da_nil) (da_f de_dict0 (da_f ((de_bin o_rep (de_lst
    (da_f de_non da_nil)) de_int)).toF (da_f ((de_bin o_rep (de_lst (da_f ((de_lst da_nil)).toF da_nil)) de_int)).toF (da_f (de_tup (da_f de_int (da_f de_int (da_f de_int da_nil)))) (da_f ((de_lst (da_f
    de_int (da_f de_int (da_f (de_un o_neg de_int) da_nil))))).toF (da_f (de_tup (da_f (de_bin o_pow de_int de_int) (da_f de_int (da_f (de_un o_neg de_int) da_nil)))) (da_f ((de_lst (da_f (de_tup (da_f
    de_int (da_f de_int (da_f de_int da_nil)))) da_nil))).toF (da_f ((de_new (d_i_Spots T) o b_i_Spots (da_f ((de_lst (da_f (de_tup (da_f de_int (da_f de_int (da_f de_int da_nil)))) da_nil))).toF
    da_nil))).toF da_nil)))))))))))))))))) (dss_cons (ds_ext 1 (de_lst (da_f ((de_lst (da_f ((de_lst (da_f de_int (da_f de_int (da_f de_int da_nil))))).toF (da_f ((de_lst (da_f de_int (da_f de_int (da_f
    de_int da_nil))))).toF (da_f ((de_lst (da_f de_int (da_f de_int (da_f de_int da_nil))))).toF da_nil))))).toF (da_f (de_tup (da_f (de_tup (da_f de_int (da_f de_int (da_f de_int da_nil)))) (da_f
    (de_tup (da_f de_int (da_f de_int (da_f de_int da_nil)))) (da_f ((de_lst (da_f de_int (da_f de_int (da_f de_int da_nil))))).toF da_nil)))) (da_f ((de_lst (da_f ((de_lst (da_f de_int (da_f de_int
    (da_f de_int da_nil))))).toF (da_f ((de_lst (da_f de_int (da_f de_int (da_f de_int da_nil))))).toF (da_f ((de_lst (da_f de_int (da_f de_int (da_f de_int da_nil))))).toF da_nil))))).toF (da_f ((de_lst
    (da_f ((de_lst (da_f de_bl (da_f de_int (da_f de_int da_nil))))).toF (da_f ((de_lst (da_f de_int (da_f de_int (da_f de_int da_nil))))).toF (da_f ((de_lst (da_f de_int (da_f de_int (da_f de_int
    da_nil))))).toF da_nil))))).toF (da_f ((de_lst (da_f ((de_lst (da_f de_int (da_f de_int (da_f de_int da_nil))))).toF (da_f ((de_lst (da_f de_int (da_f de_int (da_f de_int da_nil))))).toF (da_f
    (de_tup (da_f de_int (da_f de_int (da_f de_bl da_nil)))) da_nil))))).toF da_nil))))))) (dss_cons (ds_for o (di_range1 T.b_range (da_f de_int da_nil)) (dg_name 2 o.nd) (dss_cons (ds_par 4 5 o (de_call
    (d_l_point T) o b_l_point (da_p 0 (da_f de_int da_nil))) (de_call (d_l_table T) o b_l_table (da_p 0 (da_f de_int da_nil)))) (dss_one (ds_ext 1 (de_lst (da_f (de_var 4) (da_f (de_call (d_l_bent T) o
    b_l_bent (da_p 0 (da_f (de_var 4) da_nil))) (da_f (de_var 5) (da_f (de_callTy c_tuple T.b_tuple (da_b (de_var 5) da_nil)) (da_f (de_call (d_l_rows_bent T) o b_l_rows_bent (da_p 0 (da_f (de_var 5)
    da_nil))) (da_f ((de_lc (own := [("_law_at", 10)]) o (di_range1 T.b_range (da_f de_int da_nil)) (blk_of (by rfl)) (fun _ _ _ _ _ => ⟨_, (dg_name 10 (XOk.blk o).nd)⟩) (fun _ _ _ _ _ => ⟨_, dts_nil⟩)
    (fun _ _ _ _ _ => ⟨_, (de_call (d_l_point T) (XOk.blk o) b_l_point (da_p 0 (da_f de_int da_nil)))⟩))).toF da_nil))))))))))) (dss_frz 1 (dss_cons (ds_for o (di_seq (de_var 1)) (dg_name 3 o.nd)
    (dss_cons (ds_set 6 o (de_reprAny (n := 1) (.cons ⟨_, _, _, _, ⟨_, _, _, _, d_c_Spots___repr__ T, by decide, b_c_Spots___repr__⟩, by decide, d_c_Spots___repr___g T, b_c_Spots___repr__⟩ .nil) o
    T.b_repr (de_var 3).toB)) (dss_cons (ds_set 7 o ((de_lst (da_f (de_call (d_p_is_point T) o b_p_is_point (da_f (de_var 3) da_nil)) (da_f (de_callK (d_p_is_point T) o b_p_is_point_k (dk_f (de_var 3)
    dk_nil)) (da_f (de_call (d_p_is_table T) o b_p_is_table (da_f (de_var 3) da_nil)) (da_f (de_callK (d_p_is_table T) o b_p_is_table_k (dk_f (de_var 3) dk_nil)) da_nil)))))).toF) (dss_cons (ds_par 8 9 o
    (de_call (d_l_is_point T) o b_l_is_point (da_f (de_var 3) da_nil)) (de_call (d_l_is_table T) o b_l_is_table (da_f (de_var 3) da_nil))) (dss_one (ds_if (DW.dt (dw_or (dt_cmp (o_ne o) (de_reprAny (n :=
    1) (.cons ⟨_, _, _, _, ⟨_, _, _, _, d_c_Spots___repr__ T, by decide, b_c_Spots___repr__⟩, by decide, d_c_Spots___repr___g T, b_c_Spots___repr__⟩ .nil) o T.b_repr (de_var 7).toB) (de_reprAny (n := 1)
    (.cons ⟨_, _, _, _, ⟨_, _, _, _, d_c_Spots___repr__ T, by decide, b_c_Spots___repr__⟩, by decide, d_c_Spots___repr___g T, b_c_Spots___repr__⟩ .nil) o T.b_repr (de_lst (da_f (de_var 8) (da_f (de_var
    8) (da_f (de_var 9) (da_f (de_var 9) da_nil))))).toB)) (dw_or1 (dt_cmp (o_ne o) (de_reprAny (n := 1) (.cons ⟨_, _, _, _, ⟨_, _, _, _, d_c_Spots___repr__ T, by decide, b_c_Spots___repr__⟩, by decide,
    d_c_Spots___repr___g T, b_c_Spots___repr__⟩ .nil) o T.b_repr (de_var 3).toB) (de_var 6))))) (dss_one (ds_ret de_bl)) dss_nil)))))) (dss_one (ds_ret de_bl)))))))⟩
theorem b_l_right : ∀ (kV doc pm : Value) (an : Option Addr) (cdv ct : Value) (us : List Value), us.length = 1 → bindArgs (PySem.W.fnOf "_law_right" "_law_right" (defArgs s_l_right) (defBody s_l_right) (defScope s_l_right) .none kV doc pm an cdv ct) ⟨us, []⟩ = pure ((["_law_pot_here"] : List Str).zip us) := fun _ _ _ _ _ _ us hl => match us, hl with | [_], _ => rfl
theorem d_l_pot (T : Top K mg) : DFn P w K mg base 1 "_law_pot" s_l_pot ["_law_script", "_law_k"] [.s, .f] .o m_l_pot :=
  dfn_of (N := ["_law_script", "_law_k", "_law_cell"]) [.s, .f, .f] [.s, .f, .f] T.f_l_pot ⟨rfl, rfl, rfl, by decide, rfl, by decide, by decide⟩ rfl rfl (by decide) rfl (by first | exact .inl (.inl rfl) | exact .inl (.inr rfl) | exact .inr rfl) fun f cdv A outer s H E o =>
  ⟨_, (dss_cons (ds_set 2 o (de_if (dt_cmp o_lt (de_var 1) (de_callB c_lenS T.b_len (da_s 0 da_nil))) (de_callB c_abs T.b_abs (da_b (de_six 0 (de_var 1)) da_nil)) (de_bin o_add (de_bin o_mulA de_int (de_var
    1)) de_int))) (dss_one (ds_ret (de_lst (da_f (de_callB (c_max2 o) T.b_max (da_b de_int (da_b (de_bin o_sub (de_var 2) (de_bin o_pow de_int de_int)) da_nil))) (da_f (de_bin o_add (de_bin o_mod
    (de_callTy c_int T.b_int (da_b (de_bin o_add (de_bin o_add (de_bin o_mulA (de_bin o_mod (de_callTy c_int T.b_int (da_b (de_var 2) da_nil)) de_int) de_int) (de_bin o_mulA de_int (de_var 1))) de_int)
    da_nil)) de_int) de_int) da_nil))))))⟩
theorem b_l_pot : ∀ (kV doc pm : Value) (an : Option Addr) (cdv ct : Value) (us : List Value), us.length = 2 → bindArgs (PySem.W.fnOf "_law_pot" "_law_pot" (defArgs s_l_pot) (defBody s_l_pot) (defScope s_l_pot) .none kV doc pm an cdv ct) ⟨us, []⟩ = pure ((["_law_script", "_law_k"] : List Str).zip us) := fun _ _ _ _ _ _ us hl => match us, hl with | [_, _], _ => rfl
theorem d_law_ (T : Top K mg) : DFn P w K mg base 9 "law" s_law_ ["_law_script"] [.s] .f m_law_ :=
  dfn_of (N := ["_law_script"]) [.s] [.s] T.f_law_ ⟨rfl, rfl, rfl, by decide, rfl, by decide, by decide⟩ rfl rfl (by decide) rfl (by first | exact .inl (.inl rfl) | exact .inl (.inr rfl) | exact .inr rfl) fun f cdv A outer s H E o =>
  ⟨_, (dss_one (ds_ret (de_callPot (d_l_right T) o b_l_right (de_call (d_l_pot T) o b_l_pot (da_s 0 (da_f de_int da_nil))))))⟩
theorem b_law_ : ∀ (kV doc pm : Value) (an : Option Addr) (cdv ct : Value) (us : List Value), us.length = 1 → bindArgs (PySem.W.fnOf "law" "law" (defArgs s_law_) (defBody s_law_) (defScope s_law_) .none kV doc pm an cdv ct) ⟨us, []⟩ = pure ((["_law_script"] : List Str).zip us) := fun _ _ _ _ _ _ us hl => match us, hl with | [_], _ => rfl
end
end LW
set_option maxHeartbeats 2000000
namespace DL
open PySem PySem.Spec PyProof.Rows L2
theorem lcGo_filter {α : Type} {enc : α → D} {fg : D → Rho → Option Rho} {ft : Et} {fe : Ed} {ρ : Rho} {π : Pot} {ρ1 : α → Rho} {p : α → Bool} {g : α → D} : ∀ {xs : List α}, (∀ x ∈ xs, fg (enc x) ρ = some (ρ1 x)) → (∀ x ∈ xs, ft (ρ1 x) π = .ok (p x, π)) → (∀ x ∈ xs, p x = true → fe (ρ1 x) π = .ok (g x, π)) →
    lcGo fg ft fe ρ (xs.map enc) π = .ok ((xs.filter p).map g, π)
  | [], _, _, _ => rfl
  | x :: xs, h1, h2, h3 => by
    have ih := lcGo_filter (xs := xs) (fun y hy => h1 y (List.mem_cons_of_mem _ hy)) (fun y hy => h2 y (List.mem_cons_of_mem _ hy)) (fun y hy => h3 y (List.mem_cons_of_mem _ hy))
    simp only [List.map_cons, lcGo, h1 x (List.mem_cons_self ..), ofO_some, Res.bind_ok, h2 x (List.mem_cons_self ..), safe_ok]
    cases hp : p x with
    | true =>
      rw [List.filter_cons, if_pos hp, List.map_cons]
      simp only [if_true, h3 x (List.mem_cons_self ..) hp, safe_ok, Res.bind_ok, ih]
    | false =>
      simp only [Bool.false_eq_true, if_false, ih, List.filter_cons, hp]
theorem lcGo_map {α : Type} {enc : α → D} {fg : D → Rho → Option Rho} {fe : Ed} {ρ : Rho} {π : Pot} {ρ1 : α → Rho} {g : α → D} {xs : List α} (h1 : ∀ x ∈ xs, fg (enc x) ρ = some (ρ1 x)) (h3 : ∀ x ∈ xs, fe (ρ1 x) π = .ok (g x, π)) :
    lcGo fg tTrue fe ρ (xs.map enc) π = .ok (xs.map g, π) := by
  have := lcGo_filter (ft := tTrue) (p := fun _ => true) h1 (fun x hx => rfl) (fun x hx _ => h3 x hx)
  rwa [List.filter_eq_self.mpr (fun _ _ => rfl)] at this
theorem divOk_small {i j : Int} (h : 0 < j) (h2 : j < 1073741824) : divOk i j = true := by
  unfold divOk Builtin.divisionGoesByPylong
  have e : j.natAbs.log2 < 30 := by
    rw [Nat.log2_lt (by omega)]
    omega
  have e2 : (if (j == 0) = true then 0 else j.natAbs.log2 / 30 + 1) ≤ 300 := by
    split <;> omega
  simp only [Bool.and_eq_true, decide_eq_true_eq, Bool.not_eq_true', Bool.and_eq_false_imp]
  refine ⟨h, fun q => ?_⟩
  omega
theorem opFdivW_s {i j : Int} (h : 0 < j) (h2 : j < 1152921504606846976) : opFdivW (.int i) (.int j) = some (.int (i / j)) := by
  unfold opFdivW
  have e : j.natAbs.log2 < 9000 := by
    have : j.natAbs.log2 < 60 := by
      rw [Nat.log2_lt (by omega)]
      omega
    omega
  simp [h, e]
theorem opMod_s {i j : Int} (h : 0 < j) : opMod (.int i) (.int j) = some (.int (i % j)) := by
  simp [opMod, h]
theorem opMulA_l {i j : Int} (h : -18446744073709551616 < i) (h2 : i < 18446744073709551616) : opMulA (.int i) (.int j) = some (.int (i * j)) := by
  simp [opMulA, small, h, h2]
theorem opMulA_r {i j : Int} (h : -18446744073709551616 < j) (h2 : j < 18446744073709551616) : opMulA (.int i) (.int j) = some (.int (i * j)) := by
  simp [opMulA, small, h, h2]
mutual
def plainD : D → Bool
  | .non | .bl _ | .int _ => true
  | .str x => PyData.strOk x
  | .lst xs | .tup xs => plainL xs
  | _ => false
def plainL : List D → Bool
  | [] => true
  | x :: xs => plainD x && plainL xs
def deepD : D → Nat
  | .lst xs | .tup xs => deepL xs + 1
  | _ => 0
def deepL : List D → Nat
  | [] => 0
  | x :: xs => max (deepD x) (deepL xs)
end
mutual
def wideD : D → Nat
  | .non => 4
  | .bl _ => 5
  | .int i => i.natAbs.log2 + 2
  | .str x => (reprText x).length
  | .lst xs => wideL xs + 2
  | .tup xs => wideL xs + 3
  | _ => 0
def wideL : List D → Nat
  | [] => 0
  | x :: xs => wideD x + 2 + wideL xs
def showB : D → Bool
  | .non | .bl _ | .str _ => true
  | .int i => decide (i.natAbs.log2 < 1920)
  | .lst xs | .tup xs => showL xs
  | _ => false
def showL : List D → Bool
  | [] => true
  | x :: xs => showB x && showL xs
end
theorem text_from : ∀ (ts : List Str) (k : Nat) (acc : Str), (textFrom k acc ts).length ≤ acc.length + piled ts
  | [], k, acc => by simp [textFrom]
  | t :: ts, k, acc => by
    have ih := text_from ts (k + 1) (acc ++ (if k > 0 then ", " else "" : String) ++ t)
    have e : (((if k > 0 then ", " else "" : String) : Str)).length ≤ 2 := by split <;> decide
    rw [PySem.strLen_append, PySem.strLen_append] at ih
    rw [piled_cons]
    show (textFrom (k + 1) (acc ++ (if k > 0 then ", " else "" : String) ++ t) ts).length ≤ _
    omega
theorem list_text (ts : List Str) : (listText ts).length ≤ piled ts + 2 := by
  unfold listText
  rw [PySem.strLen_append]
  have := text_from ts 0 "["
  have e1 : (("[" : String) : Str).length = 1 := rfl
  have e2 : (("]" : String) : Str).length = 1 := rfl
  omega
theorem tup_text (ts : List Str) : (tupleText ts).length ≤ piled ts + 3 := by
  unfold tupleText
  rw [PySem.strLen_append, PySem.strLen_append]
  have e1 : (("(" : String) : Str).length = 1 := rfl
  have e2 : (((if (ts.length == 1) = true then ",)" else ")" : String) : Str)).length ≤ 2 := by split <;> decide
  cases ts with
  | nil =>
    have : (Str.join ", " ([] : List Str)).length = 0 := rfl
    omega
  | cons t r =>
    have := join_length_add (t :: r) (by simp)
    omega
mutual
theorem show_py : ∀ {d : D}, showB d = true → ∃ p, toPy d = some p ∧ p.showable = true ∧ p.hasDict = false ∧ p.depth = deepD d ∧ p.shown.length ≤ wideD d
  | .non, _ => ⟨_, rfl, rfl, rfl, rfl, by decide⟩
  | .bl b, _ => ⟨_, rfl, rfl, rfl, rfl, by cases b <;> decide⟩
  | .int i, h => ⟨_, rfl, (by simpa [PyData.showable, showB] using h), rfl, rfl, by
      have := int_text_length_le (a := i) (k := i.natAbs.log2 + 1) (by omega) (by omega)
      have e : (PyData.int i).shown.length = (toString i).length := by
        show (Str.ofString (toString i)).length = _
        exact PySem.ofString_length _
      rw [e]
      show _ ≤ i.natAbs.log2 + 2
      omega⟩
  | .str x, h => ⟨_, rfl, rfl, rfl, rfl, Nat.le_refl _⟩
  | .lst xs, h => by
    obtain ⟨ps, h1, h2, h3, h4, h5⟩ := show_pyL (xs := xs) (by simpa [showB] using h)
    refine ⟨.list ps, by simp [toPy, h1], by simpa [PyData.showable] using h2, by simpa [PyData.hasDict] using h3, by simp [PyData.depth, deepD, h4], ?_⟩
    have := list_text (PyData.shownAll ps)
    show (PyData.shown (.list ps)).length ≤ wideL xs + 2
    rw [PyData.shown]
    omega
  | .tup xs, h => by
    obtain ⟨ps, h1, h2, h3, h4, h5⟩ := show_pyL (xs := xs) (by simpa [showB] using h)
    refine ⟨.tuple ps, by simp [toPy, h1], by simpa [PyData.showable] using h2, by simpa [PyData.hasDict] using h3, by simp [PyData.depth, deepD, h4], ?_⟩
    have := tup_text (PyData.shownAll ps)
    show (PyData.shown (.tuple ps)).length ≤ wideL xs + 3
    rw [PyData.shown]
    omega
  | .dic _ _, h => by cases h
  | .ins _ _ _, h => by cases h
theorem show_pyL : ∀ {xs : List D}, showL xs = true → ∃ ps, toPyL xs = some ps ∧ PyData.showableAll ps = true ∧ PyData.hasDictAll ps = false ∧ PyData.depthAll ps = deepL xs ∧ piled (PyData.shownAll ps) ≤ wideL xs
  | [], _ => ⟨[], rfl, rfl, rfl, rfl, Nat.le_refl _⟩
  | x :: xs, h => by
    simp only [showL, Bool.and_eq_true] at h
    obtain ⟨p, h1, h2, h3, h4, h5⟩ := show_py h.1
    obtain ⟨ps, g1, g2, g3, g4, g5⟩ := show_pyL h.2
    refine ⟨p :: ps, by simp [toPyL, h1, g1], by simp [PyData.showableAll, h2, g2], by simp [PyData.hasDictAll, h3, g3], by simp [PyData.depthAll, deepL, h4, g4], ?_⟩
    rw [PyData.shownAll, piled_cons]
    show _ ≤ wideD x + 2 + wideL xs
    omega
end
def shOk (d : D) : Bool := showB d && decide (deepD d ≤ 60) && decide (wideD d ≤ 16777216)
theorem showD_ok {d : D} (h : shOk d = true) : ∃ z, showD d = some z := by
  unfold shOk at h
  simp only [Bool.and_eq_true, decide_eq_true_eq] at h
  obtain ⟨⟨h1, h2⟩, h3⟩ := h
  obtain ⟨p, e, g1, g2, g3, g4⟩ := show_py h1
  refine ⟨p.shown, ?_⟩
  unfold showD
  rw [e]
  have : p.depth ≤ 60 := by omega
  have : p.shown.length ≤ sizeLine := by rw [sizeLine_eq]; omega
  simp [*]
end DL
set_option maxHeartbeats 2000000
namespace DL
open PySem PySem.Spec PyProof.Rows L2
@[simp] theorem eVar_ap (i : Nat) (ρ : Rho) (π : Pot) : eVar i ρ π = match ρ[i]? with
  | some (some d) => .ok (d, π)
  | _ => .stuck := rfl
@[simp] theorem eC_ap (d : D) (ρ : Rho) (π : Pot) : eC d ρ π = .ok (d, π) := rfl
@[simp] theorem eBin_ap (g : D → D → Option D) (a b : Ed) (ρ : Rho) (π : Pot) : eBin g a b ρ π = (a ρ π).bind fun x => (b ρ x.2).bind fun y => (ofO (g x.1 y.1)).bind fun z => .ok (z, y.2) := rfl
@[simp] theorem eUn_ap (g : D → Option D) (a : Ed) (ρ : Rho) (π : Pot) : eUn g a ρ π = (a ρ π).bind fun x => (ofO (g x.1)).bind fun z => .ok (z, x.2) := rfl
@[simp] theorem eAnd_ap (a b : Ed) (ρ : Rho) (π : Pot) : eAnd a b ρ π = (a ρ π).bind fun x => (ofO (truth x.1)).bind fun k => if k = true then b ρ x.2 else .ok x := rfl
@[simp] theorem eOr_ap (a b : Ed) (ρ : Rho) (π : Pot) : eOr a b ρ π = (a ρ π).bind fun x => (ofO (truth x.1)).bind fun k => if k = true then .ok x else b ρ x.2 := rfl
@[simp] theorem eNot_ap (a : Ed) (ρ : Rho) (π : Pot) : eNot a ρ π = (a ρ π).bind fun x => (ofO (truth x.1)).bind fun k => .ok (.bl (!k), x.2) := rfl
@[simp] theorem eIf_ap (t : Et) (a b : Ed) (ρ : Rho) (π : Pot) : eIf t a b ρ π = (t ρ π).bind fun x => if x.1 = true then a ρ x.2 else b ρ x.2 := rfl
@[simp] theorem aNil_ap (ρ : Rho) (π : Pot) : aNil  ρ π = .ok ([], π) := rfl
@[simp] theorem aCons_ap (a : Ed) (b : Ea) (ρ : Rho) (π : Pot) : aCons a b ρ π = (a ρ π).bind fun x => (b ρ x.2).bind fun y => .ok (x.1 :: y.1, y.2) := rfl
@[simp] theorem eTup_ap (a : Ea) (ρ : Rho) (π : Pot) : eTup a ρ π = (a ρ π).bind fun x => if x.1.length ≤ sizeLine then .ok (.tup x.1, x.2) else .stuck := rfl
@[simp] theorem eLst_ap (a : Ea) (ρ : Rho) (π : Pot) : eLst a ρ π = (a ρ π).bind fun x => if x.1.length ≤ sizeLine then .ok (.lst x.1, x.2) else .stuck := rfl
@[simp] theorem eApp_ap (g : List D → Option D) (a : Ea) (ρ : Rho) (π : Pot) : eApp g a ρ π = (a ρ π).bind fun x => (ofO (g x.1)).bind fun z => .ok (z, x.2) := rfl
@[simp] theorem tOf_ap (a : Ed) (ρ : Rho) (π : Pot) : tOf a ρ π = (a ρ π).bind fun x => (ofO (truth x.1)).bind fun k => .ok (k, x.2) := rfl
@[simp] theorem tBl_ap (a : Ed) (ρ : Rho) (π : Pot) : tBl a ρ π = (a ρ π).bind fun x => match x.1 with
  | .bl k => .ok (k, x.2)
  | _ => .stuck := rfl
@[simp] theorem tAndD_ap (a b : Et) (ρ : Rho) (π : Pot) : tAndD a b ρ π = (a ρ π).bind fun x => if x.1 = true then b ρ x.2 else .ok (false, x.2) := rfl
@[simp] theorem tOrD_ap (a b : Et) (ρ : Rho) (π : Pot) : tOrD a b ρ π = (a ρ π).bind fun x => if x.1 = true then .ok (true, x.2) else b ρ x.2 := rfl
@[simp] theorem tNotD_ap (a : Et) (ρ : Rho) (π : Pot) : tNotD a ρ π = (a ρ π).bind fun x => .ok (!x.1, x.2) := rfl
@[simp] theorem eChain_ap (g g' : D → D → Option D) (a b c : Ed) (ρ : Rho) (π : Pot) : eChain g g' a b c ρ π = (a ρ π).bind fun x => (b ρ x.2).bind fun y => (ofO (g x.1 y.1)).bind fun z => match z with
  | .bl true => (c ρ y.2).bind fun u => (ofO (g' y.1 u.1)).bind fun q => .ok (q, u.2)
  | .bl false => .ok (.bl false, y.2)
  | _ => .stuck := rfl
@[simp] theorem iVal_ap (a : Ed) (ρ : Rho) (π : Pot) : iVal a ρ π = (a ρ π).bind fun x => (ofO (seqOf x.1)).bind fun z => .ok (z, x.2) := rfl
@[simp] theorem iEnumD_ap (a : Ea) (ρ : Rho) (π : Pot) : iEnumD a ρ π = (a ρ π).bind fun x => match x.1 with
  | [d] => (ofO (seqOf d)).bind fun z => .ok (numbered 0 z, x.2)
  | _ => .stuck := rfl
@[simp] theorem iRng_ap (a : Ea) (ρ : Rho) (π : Pot) : iRng a ρ π = (a ρ π).bind fun x => (ofO (rng x.1)).bind fun z => .ok (z, x.2) := rfl
@[simp] theorem iRngDown_ap (a : Ea) (ρ : Rho) (π : Pot) : iRngDown a ρ π = (a ρ π).bind fun x => (ofO (rngDown x.1)).bind fun z => .ok (z, x.2) := rfl
@[simp] theorem eLC_ap (fi : Ei) (fg : D → Rho → Option Rho) (ft : Et) (fe : Ed) (vs : List Nat) (ρ : Rho) (π : Pot) : eLC fi fg ft fe vs ρ π = (fi ρ π).bind fun x => if x.1.length < sizeLine then (lcGo fg ft fe (wipeD ρ vs) x.1 x.2).bind fun r => .ok (.lst r.1, r.2) else .stuck := rfl
@[simp] theorem tTrue_ap (ρ : Rho) (π : Pot) : tTrue  ρ π = .ok (true, π) := rfl
@[simp] theorem sNext_ap (ρ : Rho) (π : Pot) : sNext  ρ π = .ok (.nx ρ, π) := rfl
@[simp] theorem sSeq_ap (a b : Fs) (ρ : Rho) (π : Pot) : sSeq a b ρ π = (a ρ π).bind fun x => match x.1 with
  | .nx ρ1 => b ρ1 x.2
  | .bk ρ1 => .ok (.bk ρ1, x.2)
  | .ct ρ1 => .ok (.ct ρ1, x.2)
  | .rt d => .ok (.rt d, x.2) := rfl
@[simp] theorem sSet_ap (i : Nat) (fe : Ed) (ρ : Rho) (π : Pot) : sSet i fe ρ π = (fe ρ π).bind fun x => .ok (.nx (ρ.set i (some x.1)), x.2) := rfl
@[simp] theorem sPar_ap (i j : Nat) (fa fb : Ed) (ρ : Rho) (π : Pot) : sPar i j fa fb ρ π = (fa ρ π).bind fun x => (fb ρ x.2).bind fun y => .ok (.nx ((ρ.set i (some x.1)).set j (some y.1)), y.2) := rfl
@[simp] theorem sPar3_ap (i j l : Nat) (fa fb fc : Ed) (ρ : Rho) (π : Pot) : sPar3 i j l fa fb fc ρ π = (fa ρ π).bind fun x => (fb ρ x.2).bind fun y => (fc ρ y.2).bind fun z => .ok (.nx (((ρ.set i (some x.1)).set j (some y.1)).set l (some z.1)), z.2) := rfl
@[simp] theorem sUnp_ap (fe : Ed) (fg : D → Rho → Option Rho) (ρ : Rho) (π : Pot) : sUnp fe fg ρ π = (fe ρ π).bind fun x => (ofO (fg x.1 ρ)).bind fun ρ1 => .ok (.nx ρ1, x.2) := rfl
@[simp] theorem sExpr_ap (fe : Ed) (ρ : Rho) (π : Pot) : sExpr fe ρ π = (fe ρ π).bind fun x => .ok (.nx ρ, x.2) := rfl
@[simp] theorem sRet_ap (fe : Ed) (ρ : Rho) (π : Pot) : sRet fe ρ π = (fe ρ π).bind fun x => .ok (.rt x.1, x.2) := rfl
@[simp] theorem sRetN_ap (ρ : Rho) (π : Pot) : sRetN  ρ π = .ok (.rt .non, π) := rfl
@[simp] theorem sIf_ap (ft : Et) (a b : Fs) (ρ : Rho) (π : Pot) : sIf ft a b ρ π = (ft ρ π).bind fun x => if x.1 = true then a ρ x.2 else b ρ x.2 := rfl
@[simp] theorem sBreak_ap (ρ : Rho) (π : Pot) : sBreak  ρ π = .ok (.bk ρ, π) := rfl
@[simp] theorem sCont_ap (ρ : Rho) (π : Pot) : sCont  ρ π = .ok (.ct ρ, π) := rfl
@[simp] theorem sStuck_ap (ρ : Rho) (π : Pot) : sStuck  ρ π = .stuck := rfl
@[simp] theorem sFor_ap (fi : Ei) (fg : D → Rho → Option Rho) (fb : Fs) (ρ : Rho) (π : Pot) : sFor fi fg fb ρ π = (fi ρ π).bind fun x => forGo fg fb x.1 ρ x.2 := rfl
@[simp] theorem sAugIx_ap (i : Nat) (g : Int → Int → Int) (fk fe : Ed) (ρ : Rho) (π : Pot) : sAugIx i g fk fe ρ π = match ρ[i]? with
  | some (some (.lst ds)) => (fk ρ π).bind fun y => (ofO (intAt ds y.1)).bind fun a => (fe ρ y.2).bind fun x => match x.1 with
    | .int b => .ok (.nx (ρ.set i (some (.lst (ds.set a.1 (.int (g a.2 b)))))), x.2)
    | _ => .stuck
  | _ => .stuck := rfl
@[simp] theorem sAug_ap (i : Nat) (g : Int → Int → Int) (fe : Ed) (ρ : Rho) (π : Pot) : sAug i g fe ρ π = match ρ[i]? with
  | some (some (.int a)) => (fe ρ π).bind fun x => match x.1 with
    | .int b => .ok (.nx (ρ.set i (some (.int (g a b)))), x.2)
    | _ => .stuck
  | _ => .stuck := rfl
@[simp] theorem ePot0_ap (ρ : Rho) (π : Pot) : ePot0  ρ π = .ok (.int π.1, π) := rfl
@[simp] theorem ePot1_ap (ρ : Rho) (π : Pot) : ePot1  ρ π = .ok (.int π.2, π) := rfl
@[simp] theorem sPot1_ap (fe : Ed) (ρ : Rho) (π : Pot) : sPot1 fe ρ π = (fe ρ π).bind fun x => match x.1 with
  | .int n => .ok (.nx ρ, (x.2.1, n))
  | _ => .stuck := rfl
@[simp] theorem sPotDm_ap (j : Nat) (fe : Ed) (ρ : Rho) (π : Pot) : sPotDm j fe ρ π = (fe ρ π).bind fun x => match x.1 with
  | .int n => if divOk π.1 n then .ok (.nx (ρ.set j (some (.int (π.1 % n)))), (π.1 / n, x.2.2)) else .stuck
  | _ => .stuck := rfl
@[simp] theorem runD_ap (n : Nat) (r : Rm) (fs : Fs) (ds : List D) (π : Pot) : runD n r fs ds π = (fs (startD n ds) π).bind fun x => match x.1 with
  | .rt d => .ok (d, x.2)
  | .nx _ => if r = .f then .ok (.non, x.2) else .stuck
  | _ => .stuck := rfl
@[simp] theorem eGo_ap (m : Fd) (a : Ea) (ρ : Rho) (π : Pot) : eGo m a ρ π = (a ρ π).bind fun x => m x.1 x.2 := rfl
@[simp] theorem oNone_ap (ρ : Rho) (π : Pot) : oNone  ρ π = .ok (none, π) := rfl
@[simp] theorem oSome_ap (a : Ed) (ρ : Rho) (π : Pot) : oSome a ρ π = (a ρ π).bind fun x => match x.1 with
  | .int i => .ok (some i, x.2)
  | _ => .stuck := rfl
@[simp] theorem eSl_ap (a : Ed) (l u : Eo) (ρ : Rho) (π : Pot) : eSl a l u ρ π = (a ρ π).bind fun x => (l ρ x.2).bind fun y => (u ρ y.2).bind fun z => (ofO (fCut x.1 y.1 z.1)).bind fun w => .ok (w, z.2) := rfl
@[simp] theorem eSix_ap (i : Nat) (fb : Ed) (ρ : Rho) (π : Pot) : eSix i fb ρ π = (fb ρ π).bind fun y => match ρ[i]? with
  | some (some d) => (ofO (opIx d y.1)).bind fun z => .ok (z, y.2)
  | _ => .stuck := rfl
@[simp] theorem eGoPot_ap (m : Fd) (a : Ed) (ρ : Rho) (π : Pot) : eGoPot m a ρ π = (a ρ π).bind fun x => match x.1 with
  | .lst [.int u, .int v] => (safe (m [.non] (u, v))).bind fun y => .ok (y.1, x.2)
  | _ => .stuck := rfl
@[simp] theorem sApp_ap (i : Nat) (fe : Ed) (ρ : Rho) (π : Pot) : sApp i fe ρ π = match ρ[i]? with
  | some (some (.lst ds)) => (fe ρ π).bind fun x => (ofO (appD x.1 ds)).bind fun es => .ok (.nx (ρ.set i (some (.lst es))), x.2)
  | _ => .stuck := rfl
@[simp] theorem sExt_ap (i : Nat) (fe : Ed) (ρ : Rho) (π : Pot) : sExt i fe ρ π = match ρ[i]? with
  | some (some (.lst ds)) => (fe ρ π).bind fun x => (ofO (extD x.1 ds)).bind fun es => .ok (.nx (ρ.set i (some (.lst es))), x.2)
  | _ => .stuck := rfl
@[simp] theorem sSetIx_ap (i : Nat) (fe fk : Ed) (ρ : Rho) (π : Pot) : sSetIx i fe fk ρ π = match ρ[i]? with
  | some (some (.lst ds)) => (fe ρ π).bind fun y => (fk ρ y.2).bind fun x => (ofO (setD y.1 x.1 ds)).bind fun es => .ok (.nx (ρ.set i (some (.lst es))), x.2)
  | _ => .stuck := rfl
@[simp] theorem truth_non : truth .non = some false := rfl
@[simp] theorem truth_bl (b : Bool) : truth (.bl b) = some b := rfl
@[simp] theorem truth_int (i : Int) : truth (.int i) = some (i != 0) := rfl
@[simp] theorem truth_lst (xs : List D) : truth (.lst xs) = some (!xs.isEmpty) := rfl
@[simp] theorem truth_tup (xs : List D) : truth (.tup xs) = some (!xs.isEmpty) := rfl
@[simp] theorem cmpI_ap (p : Int → Int → Bool) (i j : Int) : cmpI p (.int i) (.int j) = some (.bl (p i j)) := rfl
@[simp] theorem opSub_ap (i j : Int) : opSub (.int i) (.int j) = some (.int (i - j)) := rfl
@[simp] theorem opNeg_ap (i : Int) : opNeg (.int i) = some (.int (-i)) := rfl
@[simp] theorem gN_ap (i : Nat) (d : D) (ρ : Rho) : gN i d ρ = some (ρ.set i (some d)) := rfl
@[simp] theorem gsNil_ap (ρ : Rho) : gsNil [] ρ = some ρ := rfl
@[simp] theorem gsCons_ap (a : D → Rho → Option Rho) (b : List D → Rho → Option Rho) (d : D) (r : List D) (ρ : Rho) : gsCons a b (d :: r) ρ = (a d ρ).bind (b r) := rfl
@[simp] theorem gT_ap (n : Nat) (b : List D → Rho → Option Rho) (ds : List D) (ρ : Rho) : gT n b (.tup ds) ρ = if ds.length = n then b ds ρ else none := rfl
@[simp] theorem fInt_ap (i : Int) : fInt [.int i] = some (.int i) := rfl
@[simp] theorem fAbs_ap (i : Int) : fAbs [.int i] = some (.int (if i < 0 then -i else i)) := rfl
@[simp] theorem fMax2_ap (i j : Int) : fMax2 [.int i, .int j] = some (.int (if j > i then j else i)) := rfl
@[simp] theorem fList_lst (xs : List D) : fList [.lst xs] = some (.lst xs) := rfl
@[simp] theorem fList_tup (xs : List D) : fList [.tup xs] = some (.lst xs) := rfl
@[simp] theorem fTuple_lst (xs : List D) : fTuple [.lst xs] = some (.tup xs) := rfl
@[simp] theorem fTuple_tup (xs : List D) : fTuple [.tup xs] = some (.tup xs) := rfl
@[simp] theorem isNonD_ap (d : D) : opIsN d .non = some (.bl (isNonD d)) := rfl
@[simp] theorem notNonD_ap (d : D) : opNotN d .non = some (.bl (!isNonD d)) := rfl
@[simp] theorem isNonD_non : isNonD .non = true := rfl
@[simp] theorem isNonD_int (i : Int) : isNonD (.int i) = false := rfl
@[simp] theorem isNonD_bl (i : Bool) : isNonD (.bl i) = false := rfl
@[simp] theorem isNonD_str (i : Str) : isNonD (.str i) = false := rfl
@[simp] theorem isNonD_lst (i : List D) : isNonD (.lst i) = false := rfl
@[simp] theorem isNonD_tup (i : List D) : isNonD (.tup i) = false := rfl
@[simp] theorem isTyB_ap (a b : String) : isTyB a b = (a == b || (a == "bool" && b == "int")) := rfl
@[simp] theorem fIs_non (ns : List String) : fIs ns .non = some (.bl (ns.any fun b => isTyB "NoneType" b)) := rfl
@[simp] theorem fIs_bl (ns : List String) (i : Bool) : fIs ns (.bl i) = some (.bl (ns.any fun b => isTyB "bool" b)) := rfl
@[simp] theorem fIs_int (ns : List String) (i : Int) : fIs ns (.int i) = some (.bl (ns.any fun b => isTyB "int" b)) := rfl
@[simp] theorem fIs_str (ns : List String) (i : Str) : fIs ns (.str i) = some (.bl (ns.any fun b => isTyB "str" b)) := rfl
@[simp] theorem fIs_lst (ns : List String) (i : List D) : fIs ns (.lst i) = some (.bl (ns.any fun b => isTyB "list" b)) := rfl
@[simp] theorem fIs_tup (ns : List String) (i : List D) : fIs ns (.tup i) = some (.bl (ns.any fun b => isTyB "tuple" b)) := rfl
@[simp] theorem fIs_dic (ns : List String) (a : List DKey) (i : List D) : fIs ns (.dic a i) = some (.bl (ns.any fun b => isTyB "dict" b)) := rfl
@[simp] theorem seqOf_lst (xs : List D) : seqOf (.lst xs) = some xs := rfl
@[simp] theorem seqOf_tup (xs : List D) : seqOf (.tup xs) = some xs := rfl
@[simp] theorem wipeD_nil (ρ : Rho) : wipeD ρ [] = ρ := rfl
@[simp] theorem wipeD_cons (ρ : Rho) (v : Nat) (vs : List Nat) : wipeD ρ (v :: vs) = (wipeD ρ vs).set v none := rfl
@[simp] theorem startD_ap (n : Nat) (ds : List D) : startD n ds = ds.map some ++ List.replicate (n - ds.length) none := rfl
@[simp] theorem opAdd_int (i j : Int) : opAdd (.int i) (.int j) = some (.int (i + j)) := rfl
theorem opAdd_lst {xs ys : List D} (h : xs.length + ys.length ≤ 16777216) : opAdd (.lst xs) (.lst ys) = some (.lst (xs ++ ys)) := by
  simp [opAdd, sizeLine_eq, h]
@[simp] theorem sl_ok {n : Nat} (h : n ≤ 16777216) : (n ≤ sizeLine) = True := by
  rw [sizeLine_eq]
  exact eq_true h
@[simp] theorem sl_lt {n : Nat} (h : n < 16777216) : (n < sizeLine) = True := by
  rw [sizeLine_eq]
  exact eq_true h
@[simp] theorem fLen_lst (xs : List D) : fLen [.lst xs] = some (.int xs.length) := rfl
@[simp] theorem fLen_tup (xs : List D) : fLen [.tup xs] = some (.int xs.length) := rfl
@[simp] theorem fSum_iz (ns : List Int) : fSum [.lst (ns.map D.int)] = some (.int ns.sum) := by simp [fSum, onInts]
@[simp] theorem fSortI_iz (ns : List Int) : fSortI [.lst (ns.map D.int)] = some (.lst ((sortI ns).map D.int)) := by simp [fSortI, onInts]
@[simp] theorem fAll_bl {α : Type} (xs : List α) (p : α → Bool) : fAll [.lst (xs.map fun x => .bl (p x))] = some (.bl (xs.all p)) := by
  have e : (xs.map fun x => D.bl (p x)) = (xs.map p).map D.bl := by simp
  rw [e]
  show (asBls ((xs.map p).map D.bl)).map (fun bs => D.bl (bs.all id)) = _
  rw [asBls_bl]
  simp
@[simp] theorem fAny_bl {α : Type} (xs : List α) (p : α → Bool) : fAny [.lst (xs.map fun x => .bl (p x))] = some (.bl (xs.any p)) := by
  have e : (xs.map fun x => D.bl (p x)) = (xs.map p).map D.bl := by simp
  rw [e]
  show (asBls ((xs.map p).map D.bl)).map (fun bs => D.bl (bs.any id)) = _
  rw [asBls_bl]
  simp
theorem atI_in {α : Type} {xs : List α} {i : Int} {v : α} (h : 0 ≤ i) (e : xs[i.toNat]? = some v) : L2.atI xs i = some v := by
  have := L2.atI_nat (xs := xs) (j := i.toNat) e
  rwa [Int.toNat_of_nonneg h] at this
theorem opIx_iz {ns : List Int} {i v : Int} (h : 0 ≤ i) (e : ns[i.toNat]? = some v) : opIx (.lst (ns.map D.int)) (.int i) = some (.int v) := by
  show L2.atI (ns.map D.int) i = _
  exact atI_in h (by rw [List.getElem?_map, e]; rfl)
theorem cut_to {xs : List D} {k : Int} (h : 0 ≤ k) : cutD xs none (some k) = xs.take k.toNat := by
  unfold cutD HT.sIx
  simp only [List.drop_zero, Nat.sub_zero]
  rw [if_neg (by omega)]
  by_cases q : k.toNat ≤ xs.length
  · rw [Nat.min_eq_left q]
  · rw [Nat.min_eq_right (by omega), List.take_length, List.take_of_length_le (by omega)]
theorem cut_from {xs : List D} {k : Int} (h : 0 ≤ k) : cutD xs (some k) none = xs.drop k.toNat := by
  unfold cutD HT.sIx
  show List.take (xs.length - (if k < 0 then (k + xs.length).toNat else min k.toNat xs.length)) (List.drop (if k < 0 then (k + xs.length).toNat else min k.toNat xs.length) xs) = _
  rw [if_neg (by omega)]
  by_cases q : k.toNat ≤ xs.length
  · rw [Nat.min_eq_left q, List.take_of_length_le (by rw [List.length_drop]; omega)]
  · rw [Nat.min_eq_right (by omega), List.drop_length, List.drop_of_length_le (by omega)]
    simp
theorem fCut_to {xs : List D} {k : Int} (h : 0 ≤ k) : fCut (.lst xs) none (some k) = some (.lst (xs.take k.toNat)) := by
  simp [fCut, cut_to h]
theorem fCut_from {xs : List D} {k : Int} (h : 0 ≤ k) : fCut (.lst xs) (some k) none = some (.lst (xs.drop k.toNat)) := by
  simp [fCut, cut_from h]
theorem appD_ok {d : D} {xs : List D} (h : xs.length < 16777216) : appD d xs = some (xs ++ [d]) := by
  simp [appD, sizeLine_eq, h]
@[simp] theorem fRev_iz (ns : List Int) : fRev (.lst (ns.map D.int)) = some (.lst (ns.reverse.map D.int)) := by
  simp [fRev]
@[simp] theorem opEq_nil : opEq (.lst []) (.lst []) = some (.bl true) := rfl
@[simp] theorem opNe_nil : opNe (.lst []) (.lst []) = some (.bl false) := rfl
@[simp] theorem opEq_str (x y : Str) : opEq (.str x) (.str y) = some (.bl (decide (x = y))) := rfl
@[simp] theorem opNe_str (x y : Str) : opNe (.str x) (.str y) = some (.bl (!decide (x = y))) := rfl
@[simp] theorem opEq_int (x y : Int) : opEq (.int x) (.int y) = some (.bl (decide (x = y))) := rfl
@[simp] theorem opNe_int (x y : Int) : opNe (.int x) (.int y) = some (.bl (!decide (x = y))) := rfl
@[simp] theorem opEq_bl (x y : Bool) : opEq (.bl x) (.bl y) = some (.bl (decide (x = y))) := by cases x <;> cases y <;> rfl
@[simp] theorem opNe_bl (x y : Bool) : opNe (.bl x) (.bl y) = some (.bl (!decide (x = y))) := by cases x <;> cases y <;> rfl
/-- lists of ints -/
theorem eqv_ints : ∀ (xs ys : List Int), PyData.eqvAll (xs.map PyData.int) (ys.map PyData.int) = decide (xs = ys)
  | [], [] => rfl
  | [], y :: ys => by simp [PyData.eqvAll]
  | x :: xs, [] => by simp [PyData.eqvAll]
  | x :: xs, y :: ys => by
    simp only [List.map_cons, PyData.eqvAll, PyData.eqv, eqv_ints xs ys, List.cons.injEq]
    by_cases e : x = y <;> by_cases f : xs = ys <;> simp [e, f]
theorem toPyL_iz : ∀ (ns : List Int), toPyL (ns.map D.int) = some (ns.map PyData.int)
  | [] => rfl
  | n :: ns => by
    show (match some (PyData.int n), toPyL (ns.map D.int) with | some p, some ps => some (p :: ps) | _, _ => none) = _
    rw [toPyL_iz ns]
    rfl
theorem shaped_iz (ns : List Int) : SeqAt.shaped (.list (ns.map PyData.int)) = true := by
  have h1 : PyData.canLayAll0 (ns.map PyData.int) = true := by
    induction ns with
    | nil => rfl
    | cons n ns ih => simpa [PyData.canLayAll0, PyData.canLay0] using ih
  have h2 : PyData.depthAll (ns.map PyData.int) = 0 := by
    induction ns with
    | nil => rfl
    | cons n ns ih =>
      simp only [List.map_cons, PyData.depthAll, PyData.depth, ih (by simpa [PyData.canLayAll0, PyData.canLay0] using h1)]
      rfl
  simp [SeqAt.shaped, PyData.canLay0, h1, PyData.depth, h2]
theorem eqD_iz (xs ys : List Int) : eqD (.lst (xs.map D.int)) (.lst (ys.map D.int)) = some (decide (xs = ys)) := by
  show eqP _ _ = _
  unfold eqP
  simp only [toPy, toPyL_iz, Option.map_some, shaped_iz, Bool.and_self, if_true, PyData.eqv, eqv_ints]
@[simp] theorem opEq_iz (xs ys : List Int) : opEq (.lst (xs.map D.int)) (.lst (ys.map D.int)) = some (.bl (decide (xs = ys))) := by simp [opEq, eqD_iz]
@[simp] theorem opNe_iz (xs ys : List Int) : opNe (.lst (xs.map D.int)) (.lst (ys.map D.int)) = some (.bl (!decide (xs = ys))) := by simp [opNe, eqD_iz]
end DL
set_option maxHeartbeats 2000000
namespace LW
open PySem PySem.Spec PyProof.Rows L2 DL
theorem draw_ex {n : Int} {a : D} (π : Pot) (h : 0 < n) (h2 : n < 1073741824) : ∃ v π', m_l_draw [a, .int n] π = .ok (.int v, π') ∧ 0 ≤ v ∧ v < n := by
  obtain ⟨u, v⟩ := π
  by_cases hu : 0 < u
  · refine ⟨u % n, (u / n, v), ?_, Int.emod_nonneg _ (by omega), Int.emod_lt_of_pos _ h⟩
    unfold m_l_draw f_l_draw
    simp [divOk_small h h2, hu]
  · obtain ⟨s, hs⟩ : ∃ s, s = (v * 39373 + 7583) % 2147483587 := ⟨_, rfl⟩
    have q : 0 ≤ s ∧ s < 2147483587 := by
      rw [hs]
      exact ⟨Int.emod_nonneg _ (by decide), Int.emod_lt_of_pos _ (by decide)⟩
    have q1 : opMulA (.int s) (.int s) = some (.int (s * s)) := opMulA_l (by omega) (by omega)
    refine ⟨(s * s % 2147483563 / 19) % n, (u, s), ?_, Int.emod_nonneg _ (by omega), Int.emod_lt_of_pos _ h⟩
    unfold m_l_draw f_l_draw
    simp [opMulA_r, opMod_s, opFdivW_s, h, hu, ← hs, q1]
theorem opIx_at {xs : List D} {v : Int} (h : 0 ≤ v) (h2 : v < xs.length) : ∃ d, opIx (.lst xs) (.int v) = some d ∧ d ∈ xs := by
  have e := List.getElem?_eq_getElem (show v.toNat < xs.length by omega)
  refine ⟨xs[v.toNat], ?_, List.getElem_mem _⟩
  show (L2.atI xs v) = _
  exact atI_in h e
theorem pick_ex {a : D} {xs : List D} (π : Pot) (h : xs ≠ []) (h2 : xs.length < 1073741824) : ∃ d π', m_l_pick [a, .lst xs] π = .ok (d, π') ∧ d ∈ xs := by
  have hp := List.length_pos_iff.mpr h
  obtain ⟨v, π', e, h3, h4⟩ := draw_ex (n := xs.length) (a := .non) π (by omega) (by omega)
  obtain ⟨d, e2, h5⟩ := opIx_at (xs := xs) h3 h4
  refine ⟨d, π', ?_, h5⟩
  unfold m_l_pick f_l_pick
  simp -implicitDefEqProofs [e, e2]
theorem pot_eq (ns : List Int) (k : Nat) (hl : ns.length ≤ 63) (hk : k ≤ 100) (π : Pot) : ∃ u v : Int, m_l_pot [.lst (ns.map D.int), .int (k : Int)] π = .ok (.lst [.int u, .int v], π) := by
  have m1 : opMulA (.int 283) (.int (k : Int)) = some (.int (283 * (k : Int))) := opMulA_l (by decide) (by decide)
  have m2 : opMulA (.int 7583) (.int (k : Int)) = some (.int (7583 * (k : Int))) := opMulA_l (by decide) (by decide)
  have po : opPow (.int 10) (.int 18) = some (.int 1000000000000000000) := by rfl
  have lL : (ns.map D.int).length = ns.length := List.length_map _
  have key : ∀ cell : Int, ∃ u v : Int, (eLst (aCons (eApp fMax2 (aCons (eC (.int 0)) (aCons (eBin opSub (eVar 2) (eBin opPow (eC (.int 10)) (eC (.int 18)))) aNil))) (aCons (eBin opAdd (eBin opMod (eApp fInt (aCons (eBin opAdd (eBin opAdd (eBin opMulA (eBin opMod (eApp fInt (aCons (eVar 2) aNil)) (eC (.int 2147483549))) (eC (.int 48271))) (eBin opMulA (eC (.int 7583)) (eVar 1))) (eC (.int 31))) aNil)) (eC (.int 2147483563))) (eC (.int 1))) aNil))) [some (.lst (ns.map D.int)), some (.int (k : Int)), some (.int cell)] π = .ok (.lst [.int u, .int v], π) := fun cell => by
    refine ⟨if cell - 1000000000000000000 > 0 then cell - 1000000000000000000 else 0, (cell % 2147483549 * 48271 + 7583 * (k : Int) + 31) % 2147483563 + 1, ?_⟩
    simp -implicitDefEqProofs [po, m2, opMod_s, opMulA_r]
  by_cases h : k < ns.length
  · have ix := opIx_iz (ns := ns) (i := (k : Int)) (by omega) (List.getElem?_eq_getElem (show (k : Int).toNat < ns.length by omega))
    obtain ⟨x, ex⟩ : ∃ x, x = ns[(k : Int).toNat]'(by omega) := ⟨_, rfl⟩
    rw [← ex] at ix
    obtain ⟨u, v, e⟩ := key (if x < 0 then -x else x)
    refine ⟨u, v, ?_⟩
    obtain ⟨L, hL⟩ : ∃ L, L = ns.map D.int := ⟨_, rfl⟩
    rw [← hL] at ix e lL
    rw [← hL]
    unfold m_l_pot f_l_pot
    simp -implicitDefEqProofs [-eLst_ap, m1, lL, h, ix, e]
  · obtain ⟨u, v, e⟩ := key (283 * k + 251)
    refine ⟨u, v, ?_⟩
    obtain ⟨L, hL⟩ : ∃ L, L = ns.map D.int := ⟨_, rfl⟩
    rw [← hL] at e lL
    rw [← hL]
    unfold m_l_pot f_l_pot
    simp -implicitDefEqProofs [-eLst_ap, m1, lL, h, e]
/-- the one turn is right: so is the law -/
theorem good_of (h : ∀ π, ∃ π', m_l_right [.non] π = .ok (.bl true, π')) : ∀ ns : List Int, ns.length ≤ 63 → ∃ π, m_law_ [.lst (DL.iz ns)] (0, 0) = .ok (.bl true, π) := by
  intro ns hl
  obtain ⟨u, v, e⟩ := pot_eq ns 0 hl (by first | rfl | omega) (0, 0)
  obtain ⟨π2, e2⟩ := h (u, v)
  refine ⟨(0, 0), ?_⟩
  have e' : m_l_pot [.lst (ns.map D.int), .int 0] (0, 0) = .ok (.lst [.int u, .int v], (0, 0)) := e
  unfold m_law_ f_law_
  simp -implicitDefEqProofs [e', e2]
end LW
namespace RK
abbrev V := Nat → Int
def zr : V := fun _ => 0
def ad (u v : V) : V := fun j => u j + v j
def sm (a : Int) (u : V) : V := fun j => a * u j
/-- sums over the rationals, of whole vectors -/
inductive Sp (W : List V) : V → Prop
  | mem {w} : w ∈ W → Sp W w
  | zero : Sp W zr
  | add {u v} : Sp W u → Sp W v → Sp W (ad u v)
  | smul {u} (a : Int) : Sp W u → Sp W (sm a u)
  | div {u} (a : Int) : a ≠ 0 → Sp W (sm a u) → Sp W u
theorem Sp.trans {W X : List V} (h : ∀ w ∈ W, Sp X w) {v} (hv : Sp W v) : Sp X v := by
  induction hv with
  | mem hw => exact h _ hw
  | zero => exact Sp.zero
  | add _ _ i j => exact i.add j
  | smul a _ i => exact i.smul a
  | div a ha _ i => exact i.div a ha
theorem Sp.mono {W X : List V} (h : ∀ w ∈ W, w ∈ X) {v} (hv : Sp W v) : Sp X v :=
  hv.trans fun w hw => Sp.mem (h w hw)
theorem Sp.congr {W : List V} {u v : V} (hu : Sp W u) (h : ∀ j, u j = v j) : Sp W v := by
  have : u = v := funext h
  exact this ▸ hu
theorem Sp.lin {W : List V} {u v : V} (hu : Sp W u) (hv : Sp W v) (a b : Int) {x : V}
    (h : ∀ j, x j = a * u j + b * v j) : Sp W x :=
  ((hu.smul a).add (hv.smul b)).congr fun j => (h j).symm
theorem Sp.dlin {W : List V} {u v : V} (hu : Sp W u) (hv : Sp W v) (a b d : Int) (hd : d ≠ 0) {x : V}
    (h : ∀ j, d * x j = a * u j + b * v j) : Sp W x :=
  Sp.div d hd (Sp.lin hu hv a b h)
theorem Sp.nil {v : V} (h : Sp [] v) (j) : v j = 0 := by
  induction h with
  | mem hw => simp at hw
  | zero => rfl
  | add _ _ i k => simp [ad, i, k]
  | smul a _ i => simp [sm, i]
  | div a ha _ i => simp only [sm] at i; exact (Int.mul_eq_zero.mp i).resolve_left ha
theorem Sp.split {w : V} {W : List V} {v : V} (h : Sp (w :: W) v) :
    ∃ (d a : Int) (y : V), d ≠ 0 ∧ Sp W y ∧ ∀ j, d * v j = a * w j + y j := by
  induction h with
  | mem hw =>
    rcases List.mem_cons.mp hw with rfl | hw
    · exact ⟨1, 1, zr, by decide, Sp.zero, fun j => by simp [zr]⟩
    · exact ⟨1, 0, _, by decide, Sp.mem hw, fun j => by simp⟩
  | zero => exact ⟨1, 0, zr, by decide, Sp.zero, fun j => by simp [zr]⟩
  | add _ _ i k =>
    obtain ⟨d, a, y, hd, hy, e⟩ := i
    obtain ⟨d', a', y', hd', hy', e'⟩ := k
    refine ⟨d * d', a * d' + a' * d, _, Int.mul_ne_zero hd hd', (hy.smul d').add (hy'.smul d), fun j => ?_⟩
    have e1 := e j; have e2 := e' j
    simp only [ad, sm]; grind
  | smul c _ i =>
    obtain ⟨d, a, y, hd, hy, e⟩ := i
    refine ⟨d, c * a, _, hd, hy.smul c, fun j => ?_⟩
    have e1 := e j
    simp only [sm]; grind
  | div c hc _ i =>
    obtain ⟨d, a, y, hd, hy, e⟩ := i
    refine ⟨d * c, a, y, Int.mul_ne_zero hd hc, hy, fun j => ?_⟩
    have e1 := e j
    simp only [sm] at e1; grind
/-- linear maps -/
structure Lin (T : V → V) : Prop where
  z : ∀ j, T zr j = 0
  a : ∀ u v j, T (ad u v) j = T u j + T v j
  s : ∀ c u j, T (sm c u) j = c * T u j
theorem Sp.map {T : V → V} (hT : Lin T) {W : List V} {v} (h : Sp W v) : Sp (W.map T) (T v) := by
  induction h with
  | mem hw => exact Sp.mem (List.mem_map_of_mem hw)
  | zero => exact Sp.zero.congr fun j => by simp [hT.z, zr]
  | add _ _ i k => exact (i.add k).congr fun j => by simp [hT.a, ad]
  | smul c _ i => exact (i.smul c).congr fun j => by simp [hT.s, sm]
  | div c hc _ i => exact Sp.div c hc (i.congr fun j => by simp [hT.s, sm])
def Ind : List V → Prop
  | [] => True
  | w :: W => ¬ Sp W w ∧ Ind W
theorem Ind.swap {u v : V} {W} (h : Ind (u :: v :: W)) : Ind (v :: u :: W) := by
  obtain ⟨hu, hv, hW⟩ := h
  refine ⟨fun hs => ?_, fun hs => hu (hs.mono (by simp +contextual)), hW⟩
  obtain ⟨d, a, y, hd, hy, e⟩ := hs.split
  by_cases ha : a = 0
  · subst ha
    exact hv (Sp.dlin hy hy 1 0 d hd fun j => by have := e j; grind)
  · refine hu (Sp.dlin (u := v) (v := y) (Sp.mem (by simp)) (hy.mono (by simp +contextual)) d (-1) a ha
      fun j => by have := e j; grind)
theorem Ind.perm {A B : List V} (p : A.Perm B) : Ind A → Ind B := by
  induction p with
  | nil => exact id
  | cons x p ih => exact fun h => ⟨fun hs => h.1 (hs.mono fun w hw => p.mem_iff.mpr hw), ih h.2⟩
  | swap x y l => exact Ind.swap
  | trans _ _ i k => exact fun h => k (i h)
theorem Ind.shear {b : V} {B : List V} (f : V → V)
    (hf : ∀ v ∈ B, ∃ c e : Int, c ≠ 0 ∧ ∀ j, f v j = c * v j + e * b j)
    (h : Ind (B ++ [b])) : Ind (B.map f) := by
  induction B with
  | nil => trivial
  | cons v B ih =>
    refine ⟨fun hs => h.1 ?_, ih (fun v hv => hf v (by simp [hv])) h.2⟩
    have hs' : Sp (B ++ [b]) (f v) := hs.trans fun w hw => by
      obtain ⟨x, hx, rfl⟩ := List.mem_map.mp hw
      obtain ⟨c, e, _, he⟩ := hf x (by simp [hx])
      exact Sp.lin (Sp.mem (by simp [hx])) (Sp.mem (w := b) (by simp)) c e he
    obtain ⟨c, e, hc, he⟩ := hf v (by simp)
    exact Sp.dlin hs' (Sp.mem (w := b) (by simp)) 1 (-e) c hc fun j => by have := he j; grind
theorem steinitz (W : List V) : ∀ (B : List V), Ind B → (∀ b ∈ B, Sp W b) → B.length ≤ W.length := by
  induction W with
  | nil =>
    intro B hB hs
    cases B with
    | nil => simp
    | cons b B =>
      exact absurd (Sp.zero.congr fun j => ((hs b (by simp)).nil j).symm) hB.1
  | cons w W ih =>
    intro B hB hs
    by_cases hall : ∀ b ∈ B, Sp W b
    · exact Nat.le_succ_of_le (ih B hB hall)
    · have ⟨b, hb, hnb⟩ : ∃ b ∈ B, ¬ Sp W b := by
        apply Classical.byContradiction; intro hc; apply hall; intro b hb
        apply Classical.byContradiction; intro hn; exact hc ⟨b, hb, hn⟩
      obtain ⟨B1, B2, rfl⟩ := List.append_of_mem hb
      have hp : (B1 ++ b :: B2).Perm ((B1 ++ B2) ++ [b]) :=
        List.perm_middle.trans (List.perm_append_singleton _ _).symm
      have hB' := Ind.perm hp hB
      obtain ⟨d, a, y, hd, hy, e⟩ := (hs b hb).split
      have ha : a ≠ 0 := by
        rintro rfl
        exact hnb (Sp.dlin hy hy 1 0 d hd fun j => by have := e j; grind)
      have hch : ∀ v : V, ∃ f : V, (v ∈ B1 ++ B2 → (∃ c e : Int, c ≠ 0 ∧ ∀ j, f j = c * v j + e * b j) ∧ Sp W f) := by
        intro v
        by_cases hv : v ∈ B1 ++ B2
        · obtain ⟨d', a', y', hd', hy', e'⟩ := (hs v (hp.mem_iff.mpr (by simp at hv ⊢; grind))).split
          refine ⟨fun j => (a * d') * v j + (- (a' * d)) * b j, fun _ => ⟨⟨_, _, Int.mul_ne_zero ha hd', fun j => rfl⟩, ?_⟩⟩
          exact Sp.lin hy' hy a (-a') fun j => by
            have e1 := e j; have e2 := e' j; grind
        · exact ⟨zr, fun h => absurd h hv⟩
      have ⟨f, hf⟩ : ∃ f : V → V, ∀ v ∈ B1 ++ B2, (∃ c e : Int, c ≠ 0 ∧ ∀ j, f v j = c * v j + e * b j) ∧ Sp W (f v) :=
        ⟨fun v => Classical.choose (hch v), fun v hv => Classical.choose_spec (hch v) hv⟩
      have hI := Ind.shear f (fun v hv => (hf v hv).1) hB'
      have := ih _ hI (fun x hx => by obtain ⟨v, hv, rfl⟩ := List.mem_map.mp hx; exact (hf v hv).2)
      simp only [List.length_map, List.length_append, List.length_cons] at this ⊢
      omega
theorem basis_ex (L : List V) : ∃ B : List V, (∀ b ∈ B, b ∈ L) ∧ Ind B ∧ ∀ v ∈ L, Sp B v := by
  induction L with
  | nil => exact ⟨[], by simp, trivial, by simp⟩
  | cons v L ih =>
    obtain ⟨B, h1, h2, h3⟩ := ih
    by_cases h : Sp B v
    · refine ⟨B, fun b hb => by simp [h1 b hb], h2, fun x hx => ?_⟩
      rcases List.mem_cons.mp hx with rfl | hx
      · exact h
      · exact h3 x hx
    · refine ⟨v :: B, fun b hb => ?_, ⟨h, h2⟩, fun x hx => ?_⟩
      · rcases List.mem_cons.mp hb with rfl | hb
        · simp
        · simp [h1 b hb]
      · rcases List.mem_cons.mp hx with rfl | hx
        · exact Sp.mem (by simp)
        · exact (h3 x hx).mono (by simp +contextual)
noncomputable def rk (L : List V) : Nat := (Classical.choose (basis_ex L)).length
theorem rk_spec (L : List V) : ∃ B : List V, (∀ b ∈ B, b ∈ L) ∧ Ind B ∧ (∀ v ∈ L, Sp B v) ∧ B.length = rk L :=
  ⟨_, (Classical.choose_spec (basis_ex L)).1, (Classical.choose_spec (basis_ex L)).2.1,
    (Classical.choose_spec (basis_ex L)).2.2, rfl⟩
theorem rk_of_basis {L B : List V} (hI : Ind B) (h1 : ∀ b ∈ B, Sp L b) (h2 : ∀ v ∈ L, Sp B v) : rk L = B.length := by
  obtain ⟨C, c1, c2, c3, e⟩ := rk_spec L
  rw [← e]
  apply Nat.le_antisymm
  · exact steinitz B C c2 fun c hc => h2 c (c1 c hc)
  · exact steinitz C B hI fun b hb => (h1 b hb).trans c3
theorem ind_le_rk {L B : List V} (hI : Ind B) (h1 : ∀ b ∈ B, Sp L b) : B.length ≤ rk L := by
  obtain ⟨C, c1, c2, c3, e⟩ := rk_spec L
  rw [← e]; exact steinitz C B hI fun b hb => (h1 b hb).trans c3
theorem rk_le_of {L W : List V} (h : ∀ v ∈ L, Sp W v) : rk L ≤ W.length := by
  obtain ⟨C, c1, c2, c3, e⟩ := rk_spec L
  rw [← e]; exact steinitz W C c2 fun c hc => h c (c1 c hc)
theorem rk_le_length (L : List V) : rk L ≤ L.length := rk_le_of fun _ hv => Sp.mem hv
theorem ind_of_rk {L : List V} (h : rk L = L.length) : Ind L := by
  induction L with
  | nil => trivial
  | cons v L ih =>
    have hl := rk_le_length L
    simp only [List.length_cons] at h
    refine ⟨fun hs => ?_, ih ?_⟩
    · have : rk (v :: L) ≤ L.length := rk_le_of fun x hx => by
        rcases List.mem_cons.mp hx with rfl | hx
        · exact hs
        · exact Sp.mem hx
      omega
    · obtain ⟨C, c1, c2, c3, e⟩ := rk_spec L
      have : rk (v :: L) ≤ (v :: C).length := rk_le_of fun x hx => by
        rcases List.mem_cons.mp hx with rfl | hx
        · exact Sp.mem (by simp)
        · exact (c3 x hx).mono (by simp +contextual)
      simp only [List.length_cons] at this
      omega
end RK
namespace RK
/-- pivots: places and vectors, the later ones nought at the places of the earlier ones -/
def Tri : List (Nat × V) → Prop
  | [] => True
  | p :: ps => p.2 p.1 ≠ 0 ∧ (∀ q ∈ ps, q.2 p.1 = 0) ∧ Tri ps
theorem tri_snoc {ps : List (Nat × V)} (h : Tri ps) {p : Nat} {v : V} (hp : v p ≠ 0) (hz : ∀ q ∈ ps, v q.1 = 0) :
    Tri (ps ++ [(p, v)]) := by
  induction ps with
  | nil => exact ⟨hp, by simp, trivial⟩
  | cons q ps ih =>
    refine ⟨h.1, fun x hx => ?_, ih h.2.2 fun x hx => hz x (by simp [hx])⟩
    rcases List.mem_append.mp hx with hx | hx
    · exact h.2.1 x hx
    · simp at hx; subst hx; exact hz q (by simp)
theorem Sp.van {W : List V} {j : Nat} (h : ∀ w ∈ W, w j = 0) {v : V} (hv : Sp W v) : v j = 0 := by
  induction hv with
  | mem hw => exact h _ hw
  | zero => rfl
  | add _ _ i k => simp [ad, i, k]
  | smul a _ i => simp [sm, i]
  | div a ha _ i => simp only [sm] at i; exact (Int.mul_eq_zero.mp i).resolve_left ha
theorem tri_ind {ps : List (Nat × V)} (h : Tri ps) : Ind (ps.map (·.2)) := by
  induction ps with
  | nil => trivial
  | cons p ps ih =>
    refine ⟨fun hs => h.1 (hs.van fun w hw => ?_), ih h.2.2⟩
    obtain ⟨q, hq, rfl⟩ := List.mem_map.mp hw
    exact h.2.1 q hq
/-- a sum of pivots that is nought at all their places is nought -/
theorem tri_zero {ps : List (Nat × V)} (h : Tri ps) {v : V} (hv : Sp (ps.map (·.2)) v) (hz : ∀ p ∈ ps, v p.1 = 0) :
    ∀ j, v j = 0 := by
  induction ps generalizing v with
  | nil => exact hv.nil
  | cons p ps ih =>
    obtain ⟨d, a, y, hd, hy, e⟩ := hv.split
    have hyp : y p.1 = 0 := hy.van fun w hw => by
      obtain ⟨q, hq, rfl⟩ := List.mem_map.mp hw
      exact h.2.1 q hq
    have ha : a = 0 := by
      have := e p.1
      rw [hz p (by simp), hyp] at this
      have h1 := h.1
      have h2 : a * p.2 p.1 = 0 := by
        have t := this; rw [Int.mul_zero, Int.add_zero] at t; exact t.symm
      exact (Int.mul_eq_zero.mp h2).resolve_right h1
    subst ha
    have hv' : Sp (ps.map (·.2)) v := Sp.dlin hy hy 1 0 d hd fun j => by have := e j; grind
    exact ih h.2.2 hv' fun q hq => hz q (by simp [hq])
/-- sums with whole coefficients -/
def lc : List Int → List V → V
  | c :: cs, v :: vs => fun j => c * v j + lc cs vs j
  | _, _ => zr
theorem lc_sp (cs : List Int) (vs : List V) : Sp vs (lc cs vs) := by
  induction vs generalizing cs with
  | nil => cases cs <;> exact Sp.zero
  | cons v vs ih =>
    cases cs with
    | nil => exact Sp.zero
    | cons c cs =>
      exact Sp.lin (Sp.mem (w := v) (by simp)) ((ih cs).mono (by simp +contextual)) c 1 fun j => by simp [lc]
theorem lc_ind {vs : List V} (h : Ind vs) (cs : List Int) (hl : cs.length = vs.length) (hz : ∀ j, lc cs vs j = 0) :
    ∀ c ∈ cs, c = 0 := by
  induction vs generalizing cs with
  | nil => cases cs with
    | nil => simp
    | cons c cs => simp at hl
  | cons v vs ih =>
    cases cs with
    | nil => simp
    | cons c cs =>
      have hc : c = 0 := by
        apply Classical.byContradiction
        intro hc
        refine h.1 (Sp.dlin (lc_sp cs vs) (lc_sp cs vs) (-1) 0 c hc fun j => ?_)
        have := hz j; simp only [lc] at this; grind
      subst hc
      intro c hc
      rcases List.mem_cons.mp hc with rfl | hc
      · rfl
      · exact ih h.2 cs (by simpa using hl) (fun j => by have := hz j; simpa [lc] using this) c hc
theorem lc_sub (cs ds : List Int) (vs : List V) (hl : cs.length = ds.length) (j) :
    lc (cs.zipWith (· - ·) ds) vs j = lc cs vs j - lc ds vs j := by
  induction vs generalizing cs ds with
  | nil => cases cs <;> cases ds <;> simp [lc, zr]
  | cons v vs ih =>
    cases cs with
    | nil => cases ds with
      | nil => simp [lc, zr]
      | cons d ds => simp at hl
    | cons c cs => cases ds with
      | nil => simp at hl
      | cons d ds =>
        simp only [List.zipWith_cons_cons, lc]
        rw [ih cs ds (by simpa using hl)]; grind
theorem natAbs_mul_le {a b : Int} {x y : Nat} (ha : a.natAbs ≤ x) (hb : b.natAbs ≤ y) : (a * b).natAbs ≤ x * y := by
  rw [Int.natAbs_mul]; exact Nat.mul_le_mul ha hb
theorem lc_bound (cs : List Int) (vs : List V) (N B j : Nat) (hc : ∀ c ∈ cs, c.natAbs ≤ N)
    (hv : ∀ v ∈ vs, (v j).natAbs ≤ B) : (lc cs vs j).natAbs ≤ vs.length * (N * B) := by
  induction vs generalizing cs with
  | nil => cases cs <;> simp [lc, zr]
  | cons v vs ih =>
    cases cs with
    | nil => simp [lc, zr]
    | cons c cs =>
      have h1 := ih cs (fun c hc' => hc c (by simp [hc'])) (fun v hv' => hv v (by simp [hv']))
      have h2 := natAbs_mul_le (hc c (by simp)) (hv v (by simp))
      have h3 := Int.natAbs_add_le (c * v j) (lc cs vs j)
      simp only [lc, List.length_cons, Nat.succ_mul]
      omega
theorem pigeon (M : Nat) (f : Nat → Nat) (h : ∀ i, i ≤ M → f i < M) : ∃ i j, i < j ∧ j ≤ M ∧ f i = f j := by
  induction M generalizing f with
  | zero => exact absurd (h 0 (Nat.le_refl _)) (Nat.not_lt_zero _)
  | succ M ih =>
    by_cases hx : ∃ i, i ≤ M ∧ f i = f (M + 1)
    · obtain ⟨i, hi, e⟩ := hx
      exact ⟨i, M + 1, by omega, Nat.le_refl _, e⟩
    · have hne : ∀ i, i ≤ M → f i ≠ f (M + 1) := fun i hi e => hx ⟨i, hi, e⟩
      have hM := h (M + 1) (Nat.le_refl _)
      obtain ⟨i, j, hij, hj, e⟩ := ih (fun i => if f i = M then f (M + 1) else f i) (fun i hi => by
        have h1 := h i (by omega); have h2 := hne i hi
        by_cases he : f i = M
        · simp [he]; omega
        · simp [he]; omega)
      refine ⟨i, j, hij, by omega, ?_⟩
      have h1 := hne i (by omega); have h2 := hne j (by omega)
      by_cases hi : f i = M <;> by_cases hj' : f j = M <;> simp [hi, hj'] at e <;> omega
/-- digits, the lowest first -/
def dg (D : Nat) : Nat → Nat → List Nat
  | 0, _ => []
  | k + 1, x => x % D :: dg D k (x / D)
theorem dg_length (D k x) : (dg D k x).length = k := by
  induction k generalizing x with
  | zero => rfl
  | succ k ih => simp [dg, ih]
theorem dg_lt {D : Nat} (hD : 0 < D) (k x) : ∀ d ∈ dg D k x, d < D := by
  induction k generalizing x with
  | zero => simp [dg]
  | succ k ih =>
    intro d hd
    simp only [dg, List.mem_cons] at hd
    rcases hd with rfl | hd
    · exact Nat.mod_lt _ hD
    · exact ih _ d hd
theorem dg_inj {D : Nat} (k x y : Nat) (hx : x < D ^ k) (hy : y < D ^ k) (h : dg D k x = dg D k y) : x = y := by
  induction k generalizing x y with
  | zero => simp at hx hy; omega
  | succ k ih =>
    simp only [dg, List.cons.injEq] at h
    have h1 : x / D = y / D := ih _ _ (Nat.div_lt_of_lt_mul (by rw [Nat.pow_succ, Nat.mul_comm] at hx; exact hx))
      (Nat.div_lt_of_lt_mul (by rw [Nat.pow_succ, Nat.mul_comm] at hy; exact hy)) h.2
    have e1 := Nat.div_add_mod x D; have e2 := Nat.div_add_mod y D
    rw [← e1, ← e2, h1, h.1]
/-- a list of numbers as one number -/
def cde (D : Nat) : List Nat → Nat
  | [] => 0
  | x :: xs => x + D * cde D xs
theorem cde_lt {D : Nat} (xs : List Nat) (h : ∀ x ∈ xs, x < D) : cde D xs < D ^ xs.length := by
  induction xs with
  | nil => simp [cde]
  | cons x xs ih =>
    have h1 := h x (by simp)
    have h2 := ih fun x hx => h x (by simp [hx])
    simp only [cde, List.length_cons, Nat.pow_succ]
    have : D * (cde D xs + 1) ≤ D * D ^ xs.length := Nat.mul_le_mul_left _ h2
    rw [Nat.mul_comm (D ^ xs.length) D]
    grind
theorem cde_inj {D : Nat} (xs ys : List Nat) (hl : xs.length = ys.length) (hx : ∀ x ∈ xs, x < D) (hy : ∀ y ∈ ys, y < D)
    (h : cde D xs = cde D ys) : xs = ys := by
  induction xs generalizing ys with
  | nil => cases ys with
    | nil => rfl
    | cons y ys => simp at hl
  | cons x xs ih =>
    cases ys with
    | nil => simp at hl
    | cons y ys =>
      simp only [cde] at h
      have h1 := hx x (by simp); have h2 := hy y (by simp)
      have m1 : (x + D * cde D xs) % D = x := by rw [Nat.add_mul_mod_self_left, Nat.mod_eq_of_lt h1]
      have m2 : (y + D * cde D ys) % D = y := by rw [Nat.add_mul_mod_self_left, Nat.mod_eq_of_lt h2]
      have exy : x = y := by rw [← m1, ← m2, h]
      subst exy
      have : cde D xs = cde D ys := Nat.eq_of_mul_eq_mul_left (by omega : 0 < D) (by omega)
      rw [ih ys (by simpa using hl) (fun x hx' => hx x (by simp [hx'])) (fun y hy' => hy y (by simp [hy'])) this]
/-- a small sum that is nought at fewer places than there are rows -/
theorem siegel (vs : List V) (ps : List Nat) (B : Nat) (hB : 1 ≤ B) (hlt : ps.length < vs.length)
    (hb : ∀ v ∈ vs, ∀ j, (v j).natAbs ≤ B) :
    ∃ cs : List Int, cs.length = vs.length ∧ (∃ c ∈ cs, c ≠ 0) ∧
      (∀ c ∈ cs, c.natAbs ≤ (2 * vs.length * B) ^ ps.length) ∧ ∀ p ∈ ps, lc cs vs p = 0 := by
  let k := vs.length
  let q := ps.length
  let N := (2 * k * B) ^ q
  let K := k * (N * B)
  let D := 2 * K + 1
  have hk : 1 ≤ k := by show 1 ≤ vs.length; omega
  have hcs : ∀ x, ((dg (N + 1) k x).map Int.ofNat).length = vs.length := fun x => by simp [dg_length, k]
  let cs : Nat → List Int := fun x => (dg (N + 1) k x).map Int.ofNat
  have hbnd : ∀ x, ∀ c ∈ cs x, c.natAbs ≤ N := by
    intro x c hc
    obtain ⟨d, hd, rfl⟩ := List.mem_map.mp hc
    have := dg_lt (Nat.succ_pos N) k x d hd
    simp only [Int.ofNat_eq_natCast, Int.natAbs_natCast]; omega
  have hval : ∀ x p, (lc (cs x) vs p).natAbs ≤ K := fun x p => lc_bound _ _ N B p (hbnd x) fun v hv => hb v hv p
  let im : Nat → List Nat := fun x => ps.map fun p => (lc (cs x) vs p + K).toNat
  have him : ∀ x, ∀ y ∈ im x, y < D := by
    intro x y hy
    obtain ⟨p, _, rfl⟩ := List.mem_map.mp hy
    have := hval x p
    show (lc (cs x) vs p + (K : Int)).toNat < 2 * K + 1
    omega
  have hNK : D ^ q < (N + 1) ^ k := by
    have h1 : D ≤ (2 * k * B) * (N + 1) := by
      show 2 * (k * (N * B)) + 1 ≤ _
      have : 1 ≤ k * B := Nat.mul_le_mul hk hB
      have e : 2 * k * B * (N + 1) = 2 * (k * (N * B)) + 2 * (k * B) := by grind
      omega
    have h2 : D ^ q ≤ N * (N + 1) ^ q := by
      have := Nat.pow_le_pow_left h1 q
      rwa [Nat.mul_pow] at this
    have h3 : N * (N + 1) ^ q < (N + 1) ^ (q + 1) := by
      rw [Nat.pow_succ, Nat.mul_comm]
      exact Nat.mul_lt_mul_of_pos_left (Nat.lt_succ_self N) (Nat.pow_pos (Nat.succ_pos N))
    exact Nat.lt_of_lt_of_le (Nat.lt_of_le_of_lt h2 h3) (Nat.pow_le_pow_right (Nat.succ_pos N) hlt)
  obtain ⟨x, y, hxy, hy, e⟩ := pigeon (D ^ q) (fun x => cde D (im x)) (fun i _ => by
    have := cde_lt (im i) (him i)
    simpa [im] using this)
  have hlen : ∀ x, (im x).length = ps.length := fun x => by simp [im]
  have him2 : im x = im y := cde_inj _ _ (by rw [hlen, hlen]) (him x) (him y) e
  refine ⟨(cs x).zipWith (· - ·) (cs y), by simp [cs, dg_length, k], ?_, ?_, ?_⟩
  · apply Classical.byContradiction
    intro hn
    have hall : ∀ c ∈ (cs x).zipWith (· - ·) (cs y), c = 0 := fun c hc => Classical.byContradiction fun h => hn ⟨c, hc, h⟩
    have hgen : ∀ (a b : List Nat), a.length = b.length →
        (∀ c ∈ (a.map Int.ofNat).zipWith (· - ·) (b.map Int.ofNat), c = 0) → a = b := by
      intro a
      induction a with
      | nil => intro b hl _; cases b with
        | nil => rfl
        | cons _ _ => simp at hl
      | cons a as ih => intro b hl h; cases b with
        | nil => simp at hl
        | cons b bs =>
          have h1 := h ((a : Int) - b) (by simp)
          rw [ih bs (by simpa using hl) fun c hc => h c (by
            simp only [List.map_cons, List.zipWith_cons_cons, List.mem_cons]; exact Or.inr hc)]
          have : a = b := by omega
          rw [this]
    have := dg_inj k x y (by omega) (by omega) (hgen _ _ (by simp [dg_length]) hall)
    omega
  · intro c hc
    obtain ⟨i, hi, rfl⟩ := List.mem_iff_getElem.mp hc
    rw [List.getElem_zipWith]
    have hgx : ∀ x i (hi : i < (cs x).length), ∃ m : Nat, (cs x)[i] = (m : Int) ∧ m ≤ N := by
      intro x i hi
      have hm := List.getElem_mem hi
      obtain ⟨d, hd, e⟩ := List.mem_map.mp hm
      have := dg_lt (Nat.succ_pos N) k x d hd
      exact ⟨d, e.symm, by omega⟩
    simp only [List.length_zipWith] at hi
    obtain ⟨m, e1, h1⟩ := hgx x i (by omega)
    obtain ⟨m', e2, h2⟩ := hgx y i (by omega)
    rw [e1, e2]
    show _ ≤ N
    omega
  · intro p hp
    rw [lc_sub _ _ _ (by simp [cs, dg_length])]
    have hz : (lc (cs x) vs p + K).toNat = (lc (cs y) vs p + K).toNat := by
      have hgen : ∀ (l : List Nat), l.map (fun p => (lc (cs x) vs p + K).toNat) = l.map (fun p => (lc (cs y) vs p + K).toNat) →
          ∀ p ∈ l, (lc (cs x) vs p + K).toNat = (lc (cs y) vs p + K).toNat := by
        intro l
        induction l with
        | nil => simp
        | cons a l ih =>
          intro h p hp
          simp only [List.map_cons, List.cons.injEq] at h
          rcases List.mem_cons.mp hp with rfl | hp
          · exact h.1
          · exact ih h.2 p hp
      exact hgen ps him2 p hp
    have h1 := hval x p; have h2 := hval y p
    omega
/-- a primitive sum of k rows that is nought at k - 1 pivots' places is small -/
theorem pivot_bound {R : List V} {B : Nat} (hB : 1 ≤ B) (hb : ∀ r ∈ R, ∀ j, (r j).natAbs ≤ B)
    {ps : List (Nat × V)} (ht : Tri ps) (hs : ∀ p ∈ ps, Sp R p.2) (hl : R.length = ps.length + 1)
    {u : V} {p : Nat} (hu : Sp R u) (hp : u p ≠ 0) (hz : ∀ q ∈ ps, u q.1 = 0)
    (hprim : ∀ d : Int, (∀ j, d ∣ u j) → d.natAbs = 1) (j : Nat) :
    (u j).natAbs ≤ (2 * R.length * B) ^ R.length := by
  have ht' : Tri (ps ++ [(p, u)]) := tri_snoc ht hp hz
  have hI := tri_ind ht'
  have hsp : ∀ v ∈ (ps ++ [(p, u)]).map (·.2), Sp R v := by
    intro v hv
    obtain ⟨q, hq, rfl⟩ := List.mem_map.mp hv
    rcases List.mem_append.mp hq with hq | hq
    · exact hs q hq
    · simp at hq; subst hq; exact hu
  have hrk : rk R = R.length := Nat.le_antisymm (rk_le_length R) (by
    have := ind_le_rk hI hsp
    simp at this; omega)
  have hIR := ind_of_rk hrk
  obtain ⟨cs, h1, ⟨c, hc, hc0⟩, h3, h4⟩ := siegel R (ps.map (·.1)) B hB (by simp; omega) hb
  have hback : ∀ r ∈ R, Sp ((ps ++ [(p, u)]).map (·.2)) r := by
    intro r hr
    apply Classical.byContradiction
    intro hn
    have : Ind (r :: (ps ++ [(p, u)]).map (·.2)) := ⟨hn, hI⟩
    have := steinitz R _ this (fun b hb => by
      rcases List.mem_cons.mp hb with rfl | hb
      · exact Sp.mem hr
      · exact hsp b hb)
    simp at this; omega
  have hw : Sp ((ps ++ [(p, u)]).map (·.2)) (lc cs R) := (lc_sp cs R).trans hback
  have hw' : Sp (u :: ps.map (·.2)) (lc cs R) := hw.mono (by simp; grind)
  obtain ⟨d, a, y, hd, hy, e⟩ := hw'.split
  have hy0 := tri_zero ht hy fun q hq => by
    have h5 := h4 q.1 (by simp; exact ⟨_, hq⟩)
    have := e q.1
    rw [h5, hz q hq] at this
    omega
  have e' : ∀ j, d * lc cs R j = a * u j := fun j => by have := e j; rw [hy0 j] at this; omega
  have hane : a ≠ 0 := by
    rintro rfl
    have := lc_ind hIR cs h1 (fun j => by
      have := e' j
      have : d * lc cs R j = 0 := by omega
      exact (Int.mul_eq_zero.mp this).resolve_left hd) c hc
    exact hc0 this
  -- d divides a
  have hdiv : d ∣ a := by
    let g : Int := Int.gcd d a
    have hg : g ≠ 0 := by
      show ((Int.gcd d a : Nat) : Int) ≠ 0
      simp [Int.gcd_eq_zero_iff, hd]
    obtain ⟨d', hd'⟩ : g ∣ d := Int.gcd_dvd_left ..
    obtain ⟨a', ha'⟩ : g ∣ a := Int.gcd_dvd_right ..
    have hcop : Int.gcd d' a' = 1 := by
      have h5 : Int.gcd d a = g.natAbs * Int.gcd d' a' := by
        rw [show Int.gcd d a = Int.gcd (g * d') (g * a') by rw [← hd', ← ha'], Int.gcd_mul_left]
      have h6 : g.natAbs = Int.gcd d a := by simp [g]
      have h7 : 0 < Int.gcd d a := by
        rw [← h6]; exact Int.natAbs_pos.mpr hg
      rw [h6] at h5
      exact Nat.eq_of_mul_eq_mul_left h7 (by omega)
    have hall : ∀ j, d' ∣ u j := by
      intro j
      have h8 := e' j
      rw [hd', ha', Int.mul_assoc, Int.mul_assoc] at h8
      have h9 := Int.eq_of_mul_eq_mul_left hg h8
      have : d' ∣ a' * u j := ⟨_, h9.symm⟩
      exact by
        have h10 := Int.dvd_gcd_mul_iff_dvd_mul.mpr this
        simpa [hcop] using h10
    have := hprim d' hall
    rw [hd', ha']
    exact Int.mul_dvd_mul_left g (Int.natAbs_dvd.mp (by rw [this]; exact ⟨a', by simp⟩))
  obtain ⟨m, rfl⟩ := hdiv
  have hm : m ≠ 0 := fun h => hane (by simp [h])
  have e'' : lc cs R j = m * u j := by
    have := e' j
    rw [Int.mul_assoc] at this
    exact Int.eq_of_mul_eq_mul_left hd this
  have hle : (u j).natAbs ≤ (lc cs R j).natAbs := by
    rw [e'', Int.natAbs_mul]
    exact Nat.le_mul_of_pos_left _ (Int.natAbs_pos.mpr hm)
  have hb2 := lc_bound cs R _ B j h3 fun v hv => hb v hv j
  simp only [List.length_map] at hb2
  have hk : R.length = ps.length + 1 := hl
  have : R.length * ((2 * R.length * B) ^ ps.length * B) ≤ (2 * R.length * B) ^ R.length := by
    rw [show (2 * R.length * B) ^ R.length = (2 * R.length * B) ^ ps.length * (2 * R.length * B) by
      conv => lhs; rw [hk]
      rw [Nat.pow_succ, ← hk]]
    generalize (2 * R.length * B) ^ ps.length = X
    have : R.length * (X * B) = X * (R.length * B) := by grind
    rw [this]
    exact Nat.mul_le_mul_left _ (Nat.mul_le_mul_right _ (by omega))
  omega
end RK
namespace RK
/-- rows as vectors -/
def vz (l : List Int) : V := fun j => l.getD j 0
theorem vz_out {l : List Int} {j} (h : l.length ≤ j) : vz l j = 0 := by simp [vz, List.getD, h]
theorem vz_mem {l : List Int} {j} (h : j < l.length) : vz l j ∈ l := by
  simp only [vz, List.getD, List.getElem?_eq_getElem h, Option.getD_some]; exact List.getElem_mem h
theorem vz_get {l : List Int} {j} (h : j < l.length) : l[j] = vz l j := by
  simp only [vz, List.getD, List.getElem?_eq_getElem h, Option.getD_some]
/-- all numbers of a row are small -/
def Bd (B : Nat) (l : List Int) : Prop := ∀ x ∈ l, x.natAbs ≤ B
theorem Bd.vz {B l} (h : Bd B l) (j) : (vz l j).natAbs ≤ B := by
  by_cases hj : j < l.length
  · exact h _ (vz_mem hj)
  · rw [vz_out (by omega)]; simp
theorem Bd.of {B l} (h : ∀ j, (RK.vz l j).natAbs ≤ B) : Bd B l := by
  intro x hx
  obtain ⟨j, hj, rfl⟩ := List.mem_iff_getElem.mp hx
  rw [vz_get hj]; exact h j
theorem Bd.le {B C l} (h : Bd B l) (hc : B ≤ C) : Bd C l := fun x hx => Nat.le_trans (h x hx) hc
def gcdF (g : Nat) (l : List Int) : Nat := l.foldl (fun g x => Int.gcd g x) g
def gcdL (l : List Int) : Nat := gcdF 0 l
theorem gcdF_cons (g : Nat) (x l) : gcdF g (x :: l) = gcdF (Int.gcd g x) l := rfl
theorem gcdF_dvd (l : List Int) (g : Nat) : gcdF g l ∣ g ∧ ∀ x ∈ l, (gcdF g l : Int) ∣ x := by
  induction l generalizing g with
  | nil => simp [gcdF]
  | cons a l ih =>
    obtain ⟨h1, h2⟩ := ih (Int.gcd g a)
    simp only [gcdF_cons]
    refine ⟨Nat.dvd_trans h1 ?_, fun x hx => ?_⟩
    · have := Int.gcd_dvd_left (a := (g : Int)) (b := a)
      exact Int.natCast_dvd_natCast.mp this
    · rcases List.mem_cons.mp hx with rfl | hx
      · exact Int.dvd_trans (Int.natCast_dvd_natCast.mpr h1) (Int.gcd_dvd_right ..)
      · exact h2 x hx
theorem gcdF_dvd_of (l : List Int) (g : Nat) (d : Int) (hg : d ∣ (g : Int)) (h : ∀ x ∈ l, d ∣ x) : d ∣ (gcdF g l : Nat) := by
  induction l generalizing g with
  | nil => exact hg
  | cons a l ih =>
    simp only [gcdF_cons]
    exact ih _ (Int.dvd_coe_gcd hg (h a (by simp))) fun x hx => h x (by simp [hx])
theorem gcdL_dvd (l : List Int) : ∀ x ∈ l, (gcdL l : Int) ∣ x := (gcdF_dvd l 0).2
theorem dvd_gcdL {l : List Int} {d : Int} (h : ∀ x ∈ l, d ∣ x) : d ∣ (gcdL l : Nat) := gcdF_dvd_of l 0 d (by simp) h
theorem gcdL_zero {l : List Int} : gcdL l = 0 ↔ ∀ x ∈ l, x = 0 := by
  constructor
  · intro h x hx
    have := gcdL_dvd l x hx
    rw [h] at this; simpa using this
  · intro h
    have := dvd_gcdL (l := l) (d := 0) fun x hx => by rw [h x hx]; exact Int.dvd_refl 0
    have := Int.zero_dvd.mp this
    omega
theorem gcdL_le {l : List Int} {B} (h : Bd B l) : gcdL l ≤ B := by
  by_cases h0 : gcdL l = 0
  · omega
  · have ⟨x, hx, hx0⟩ : ∃ x ∈ l, x ≠ 0 := by
      apply Classical.byContradiction; intro hn; apply h0; rw [gcdL_zero]
      intro x hx; apply Classical.byContradiction; intro h; exact hn ⟨x, hx, h⟩
    have h1 := Int.natAbs_dvd_natAbs.mpr (gcdL_dvd l x hx)
    have h2 := Nat.le_of_dvd (Int.natAbs_pos.mpr hx0) h1
    have := h x hx
    simp at h2; omega
/-- divided by what divides all -/
def divL (d : Int) (l : List Int) : List Int := l.map (· / d)
theorem divL_vz {d : Int} {l : List Int} (h : ∀ x ∈ l, d ∣ x) (j) : d * vz (divL d l) j = vz l j := by
  by_cases hj : j < l.length
  · have h2 : j < (divL d l).length := by simpa [divL] using hj
    rw [← vz_get h2, ← vz_get hj]
    simp only [divL, List.getElem_map]
    exact Int.mul_ediv_cancel' (h _ (List.getElem_mem hj))
  · rw [vz_out (by simp [divL]; omega), vz_out (by omega)]; simp
def plainZ (l : List Int) : List Int := if 1 < gcdL l then divL (gcdL l) l else l
theorem plainZ_length (l) : (plainZ l).length = l.length := by unfold plainZ; split <;> simp [divL]
theorem plainZ_eq (l : List Int) : ∃ d : Int, d ≠ 0 ∧ ∀ j, vz l j = d * vz (plainZ l) j := by
  unfold plainZ
  split
  · rename_i h
    exact ⟨gcdL l, by omega, fun j => (divL_vz (gcdL_dvd l) j).symm⟩
  · exact ⟨1, by decide, fun j => by simp⟩
/-- what is left when a row is divided by its own divisor has none -/
theorem prim_of {l m : List Int} {d : Nat} (hd : d = max 1 (gcdL l)) (h : ∀ j, vz l j = d * vz m j) 
    {p} (hp : vz l p ≠ 0) : ∀ e : Int, (∀ j, e ∣ vz m j) → e.natAbs = 1 := by
  intro e he
  have h0 : gcdL l ≠ 0 := by
    intro h0
    rw [gcdL_zero] at h0
    have : p < l.length := by apply Classical.byContradiction; intro hn; exact hp (vz_out (by omega))
    exact hp (h0 _ (vz_mem this))
  have hd' : d = gcdL l := by omega
  have h1 : (d : Int) * e ∣ (gcdL l : Nat) := dvd_gcdL fun x hx => by
    obtain ⟨j, hj, rfl⟩ := List.mem_iff_getElem.mp hx
    rw [vz_get hj, h j]
    exact Int.mul_dvd_mul_left _ (he j)
  rw [← hd'] at h1
  obtain ⟨c, hc⟩ := h1
  have h2 : (d : Int) ≠ 0 := by omega
  have h3 : (1 : Int) = e * c := by
    have : (d : Int) * 1 = d * (e * c) := by rw [← Int.mul_assoc, ← hc]; simp
    exact Int.eq_of_mul_eq_mul_left h2 this
  have h4 := congrArg Int.natAbs h3
  rw [Int.natAbs_mul] at h4
  exact Nat.eq_one_of_mul_eq_one_right h4.symm
theorem plainZ_prim {l : List Int} {p} (hp : vz (plainZ l) p ≠ 0) : ∀ e : Int, (∀ j, e ∣ vz (plainZ l) j) → e.natAbs = 1 := by
  obtain ⟨d, hd, he⟩ := plainZ_eq l
  have hp' : vz l p ≠ 0 := by rw [he p]; exact Int.mul_ne_zero hd hp
  refine prim_of (l := l) (d := max 1 (gcdL l)) rfl (fun j => ?_) hp'
  unfold plainZ
  split
  · rename_i h
    rw [show ((max 1 (gcdL l) : Nat) : Int) = gcdL l by omega]
    exact (divL_vz (gcdL_dvd l) j).symm
  · have : gcdL l ≠ 0 := by
      intro h0; rw [gcdL_zero] at h0
      have : p < l.length := by apply Classical.byContradiction; intro hn; exact hp' (vz_out (by omega))
      exact hp' (h0 _ (vz_mem this))
    rw [show ((max 1 (gcdL l) : Nat) : Int) = 1 by omega]; simp
def leadZ (l : List Int) : Option Nat := l.findIdx? (fun x => x != 0)
theorem leadZ_some {l : List Int} {p} (h : leadZ l = some p) : p < l.length ∧ vz l p ≠ 0 := by
  unfold leadZ at h
  rw [List.findIdx?_eq_some_iff_getElem] at h
  obtain ⟨h1, h2, _⟩ := h
  refine ⟨h1, ?_⟩
  rw [← vz_get h1]; simpa using h2
theorem leadZ_none {l : List Int} (h : leadZ l = none) : ∀ j, vz l j = 0 := by
  unfold leadZ at h
  rw [List.findIdx?_eq_none_iff] at h
  intro j
  by_cases hj : j < l.length
  · have := h _ (vz_mem hj); simpa using this
  · exact vz_out (by omega)
/-- c x + e y, number by number -/
def cmbZ (c e : Int) (x y : List Int) : List Int := List.zipWith (fun a b => c * a - e * b) x y
theorem cmbZ_length (c e x y) : (cmbZ c e x y).length = min x.length y.length := by simp [cmbZ]
theorem cmbZ_vz {c e : Int} {x y : List Int} (h : x.length = y.length) (j) : vz (cmbZ c e x y) j = c * vz x j - e * vz y j := by
  by_cases hj : j < x.length
  · have h2 : j < (cmbZ c e x y).length := by rw [cmbZ_length]; omega
    rw [← vz_get h2, ← vz_get hj, ← vz_get (by omega : j < y.length)]
    simp [cmbZ]
  · rw [vz_out (by rw [cmbZ_length]; omega), vz_out (by omega), vz_out (by omega)]; simp
theorem cmbZ_bd {c e : Int} {x y : List Int} {Q M : Nat} (hl : x.length = y.length) (hc : c.natAbs ≤ Q) (he : e.natAbs ≤ M)
    (hx : Bd M x) (hy : Bd Q y) : Bd (2 * Q * M) (cmbZ c e x y) := by
  apply Bd.of; intro j
  rw [cmbZ_vz hl]
  have h1 := natAbs_mul_le hc (hx.vz j)
  have h2 := natAbs_mul_le he (hy.vz j)
  have h3 := Int.natAbs_sub_le (c * vz x j) (e * vz y j)
  have : 2 * Q * M = Q * M + M * Q := by grind
  omega
def lessZ (x f : List Int) (p : Nat) : List Int :=
  cmbZ (vz f p / Int.gcd (vz f p) (vz x p)) (vz x p / Int.gcd (vz f p) (vz x p)) x f
theorem div_natAbs_le (a : Int) (d : Nat) : (a / (d : Int)).natAbs ≤ a.natAbs := by
  rcases Nat.eq_zero_or_pos d with rfl | h
  · simp
  · by_cases hd : (d : Int) ∣ a
    · obtain ⟨c, rfl⟩ := hd
      rw [Int.mul_ediv_cancel_left _ (by omega), Int.natAbs_mul]
      exact Nat.le_mul_of_pos_left _ (by simpa using h)
    · exact Int.natAbs_ediv_le_natAbs a d
theorem lessZ_spec {x f : List Int} {p : Nat} (hl : x.length = f.length) (hf : vz f p ≠ 0) :
    ∃ c e : Int, c ≠ 0 ∧ (∀ j, vz (lessZ x f p) j = c * vz x j - e * vz f j) ∧ vz (lessZ x f p) p = 0 ∧ (lessZ x f p).length = x.length ∧
      ∀ Q M, Bd Q f → Bd M x → Bd (2 * Q * M) (lessZ x f p) := by
  have hg : Int.gcd (vz f p) (vz x p) ≠ 0 := by simp [Int.gcd_eq_zero_iff, hf]
  obtain ⟨a, ha⟩ := Int.gcd_dvd_left (a := vz f p) (b := vz x p)
  obtain ⟨b, hb⟩ := Int.gcd_dvd_right (a := vz f p) (b := vz x p)
  have e1 : vz f p / Int.gcd (vz f p) (vz x p) = a := by
    conv => lhs; lhs; rw [ha]
    exact Int.mul_ediv_cancel_left _ (by omega)
  have e2 : vz x p / Int.gcd (vz f p) (vz x p) = b := by
    conv => lhs; lhs; rw [hb]
    exact Int.mul_ediv_cancel_left _ (by omega)
  refine ⟨a, b, ?_, fun j => by simp only [lessZ]; rw [e1, e2, cmbZ_vz hl], ?_, by simp [lessZ, cmbZ_length]; omega, fun Q M hQ hM => ?_⟩
  · rintro rfl; exact hf (by rw [ha]; simp)
  · simp only [lessZ]; rw [e1, e2, cmbZ_vz hl]
    generalize (Int.gcd (vz f p) (vz x p)) = g at ha hb
    rw [ha, hb]; grind
  · exact cmbZ_bd hl (Nat.le_trans (div_natAbs_le _ _) (hQ.vz p)) (Nat.le_trans (div_natAbs_le _ _) (hM.vz p)) hM hQ
/-- what a list of pivots is to be for rows of a length -/
def Piv (w Q : Nat) (found : List (Nat × List Int)) : Prop := ∀ q ∈ found, q.1 < w ∧ q.2.length = w ∧ vz q.2 q.1 ≠ 0 ∧ Bd Q q.2
abbrev tv (found : List (Nat × List Int)) : List (Nat × V) := found.map fun q => (q.1, vz q.2)
def clr1 (h : List Int) (q : Nat × List Int) : List Int := if vz h q.1 ≠ 0 then lessZ h q.2 q.1 else h
def clrZ (found : List (Nat × List Int)) (h : List Int) : List Int := found.foldl clr1 h
theorem clr1_spec {w Q} {h : List Int} {q : Nat × List Int} (hq : q.2.length = w ∧ vz q.2 q.1 ≠ 0 ∧ Bd Q q.2) (hQ : 1 ≤ Q) (hl : h.length = w) :
    ∃ c e : Int, c ≠ 0 ∧ (∀ j, vz (clr1 h q) j = c * vz h j - e * vz q.2 j) ∧ vz (clr1 h q) q.1 = 0 ∧ (clr1 h q).length = w ∧
      ∀ M, Bd M h → Bd (2 * Q * M) (clr1 h q) := by
  unfold clr1
  split
  · obtain ⟨c, e, h1, h2, h3, h4, h5⟩ := lessZ_spec (x := h) (by rw [hl, hq.1]) hq.2.1
    exact ⟨c, e, h1, h2, h3, by omega, fun M hM => h5 Q M hq.2.2 hM⟩
  · rename_i hz
    refine ⟨1, 0, by decide, fun j => by simp, by simpa using hz, hl, fun M hM => hM.le ?_⟩
    exact Nat.le_mul_of_pos_left _ (by omega)
theorem clrZ_spec {w Q} (hQ : 1 ≤ Q) (found : List (Nat × List Int)) (hp : Piv w Q found) (ht : Tri (tv found)) (h : List Int) (hl : h.length = w) :
    (∃ (c : Int) (y : V), c ≠ 0 ∧ Sp ((tv found).map (·.2)) y ∧ ∀ j, vz (clrZ found h) j = c * vz h j + y j) ∧
    (∀ q ∈ found, vz (clrZ found h) q.1 = 0) ∧ (clrZ found h).length = w ∧
    (∀ j, vz h j = 0 → (∀ q ∈ found, vz q.2 j = 0) → vz (clrZ found h) j = 0) ∧
    ∀ M, Bd M h → Bd ((2 * Q) ^ found.length * M) (clrZ found h) := by
  induction found generalizing h with
  | nil => exact ⟨⟨1, zr, by decide, Sp.zero, fun j => by simp [clrZ, zr]⟩, by simp, hl, fun j hj _ => hj, fun M hM => by simpa [clrZ] using hM⟩
  | cons q found ih =>
    obtain ⟨hq1, hq2, hq3, hq4⟩ := hp q (by simp)
    obtain ⟨c, e, c0, hc, hz, hlen, hb⟩ := clr1_spec (h := h) ⟨hq2, hq3, hq4⟩ hQ hl
    obtain ⟨⟨c', y, c0', hy, hc'⟩, hz', hlen', hk, hb'⟩ := ih (fun x hx => hp x (by simp [hx])) ht.2.2 (clr1 h q) hlen
    have hfold : clrZ (q :: found) h = clrZ found (clr1 h q) := rfl
    rw [hfold]
    refine ⟨⟨c' * c, _, Int.mul_ne_zero c0' c0, ((Sp.mem (w := vz q.2) (by simp)).smul (-(c' * e))).add (hy.mono (by simp +contextual)), fun j => ?_⟩, ?_, hlen', ?_, ?_⟩
    · rw [hc', hc]; simp only [ad, sm]; grind
    · intro x hx
      rcases List.mem_cons.mp hx with rfl | hx
      · exact hk _ hz fun y hy => ht.2.1 (y.1, vz y.2) (List.mem_map.mpr ⟨y, hy, rfl⟩)
      · exact hz' x hx
    · intro j hj hall
      refine hk j ?_ fun x hx => hall x (by simp [hx])
      rw [hc, hj, hall q (by simp)]; simp
    · intro M hM
      have := hb' _ (hb M hM)
      rwa [List.length_cons, Nat.pow_succ, Nat.mul_assoc]
def stepZ (found : List (Nat × List Int)) (r : List Int) : List (Nat × List Int) :=
  match leadZ (plainZ (clrZ found r)) with
  | none => found
  | some p => found ++ [(p, plainZ (clrZ found r))]
structure Inv (w B Q : Nat) (rows : List (List Int)) (found : List (Nat × List Int)) : Prop where
  own : ∃ I : List (List Int), I.length = found.length ∧ (∀ r ∈ I, r ∈ rows) ∧ ∀ q ∈ found, Sp (I.map vz) (vz q.2)
  tri : Tri (tv found)
  piv : Piv w Q found
  all : ∀ r ∈ rows, Sp ((tv found).map (·.2)) (vz r)
theorem pow_grow {a b c d : Nat} (h1 : 1 ≤ a) (h2 : a ≤ b) (h3 : c ≤ d) : a ^ c ≤ b ^ d :=
  Nat.le_trans (Nat.pow_le_pow_left h2 c) (Nat.pow_le_pow_right (by omega) h3)
theorem step_inv {w B n : Nat} (hB : 1 ≤ B) (hn : 1 ≤ n) {rows found} (hi : Inv w B ((2 * n * B) ^ n) rows found) (hlt : found.length < n)
    (hrb : ∀ r ∈ rows, Bd B r) {r : List Int} (hl : r.length = w) (hb : Bd B r) : Inv w B ((2 * n * B) ^ n) (rows ++ [r]) (stepZ found r) := by
  have hQ : 1 ≤ (2 * n * B) ^ n := Nat.one_le_pow _ _ (Nat.mul_pos (by omega) hB)
  obtain ⟨⟨c, y, c0, hy, hc⟩, hz, hlen, _, _⟩ := clrZ_spec hQ found hi.piv hi.tri r hl
  obtain ⟨d, d0, hd⟩ := plainZ_eq (clrZ found r)
  obtain ⟨I, hI1, hI2, hI3⟩ := hi.own
  unfold stepZ
  generalize hu : plainZ (clrZ found r) = u at *
  have hul : u.length = w := by rw [← hu, plainZ_length, hlen]
  have huz : ∀ q ∈ found, vz u q.1 = 0 := fun q hq => by
    have h1 := hz q hq; rw [hd] at h1; exact (Int.mul_eq_zero.mp h1).resolve_left d0
  have hur : Sp (vz u :: (tv found).map (·.2)) (vz r) := by
    refine Sp.dlin (u := vz u) (v := y) (Sp.mem (by simp)) (hy.mono (by simp +contextual)) d (-1) c c0 fun j => ?_
    have h1 := hc j; rw [hd] at h1; grind
  have hus : Sp (vz r :: I.map vz) (vz u) := by
    have hy' : Sp (vz r :: I.map vz) y := hy.trans fun v hv => by
      simp only [tv, List.map_map, List.mem_map, Function.comp] at hv
      obtain ⟨q, hq, rfl⟩ := hv
      exact (hI3 q hq).mono (by simp +contextual)
    refine Sp.dlin (u := vz r) (v := y) (Sp.mem (by simp)) hy' c 1 d d0 fun j => ?_
    have h1 := hc j; rw [hd] at h1; grind
  split
  · rename_i hnone
    have h0 := leadZ_none hnone
    refine ⟨⟨I, hI1, fun r hr => by simp [hI2 r hr], hI3⟩, hi.tri, hi.piv, fun x hx => ?_⟩
    rcases List.mem_append.mp hx with hx | hx
    · exact hi.all x hx
    · simp at hx; subst hx
      refine hur.trans fun v hv => ?_
      rcases List.mem_cons.mp hv with rfl | hv
      · exact Sp.zero.congr fun j => (h0 j).symm
      · exact Sp.mem hv
  · rename_i p hsome
    obtain ⟨hp1, hp2⟩ := leadZ_some hsome
    have hub : Bd ((2 * n * B) ^ n) u := by
      apply Bd.of; intro j
      have hpb := pivot_bound (R := vz r :: I.map vz) (B := B) hB (by
        intro v hv j
        simp only [List.mem_cons, List.mem_map] at hv
        rcases hv with rfl | ⟨x, hx, rfl⟩
        · exact hb.vz j
        · exact (hrb x (hI2 x hx)).vz j) hi.tri (fun q hq => by
          obtain ⟨x, hx, rfl⟩ := List.mem_map.mp hq
          exact (hI3 x hx).mono (by simp +contextual)) (by simp [hI1]) hus hp2 (fun q hq => by
          obtain ⟨x, hx, rfl⟩ := List.mem_map.mp hq
          exact huz x hx) (hu ▸ plainZ_prim (hu.symm ▸ hp2)) j
      refine Nat.le_trans hpb ?_
      simp only [List.length_cons, List.length_map, hI1]
      refine pow_grow (Nat.mul_pos (by omega) hB) (Nat.mul_le_mul_right _ (by omega)) (by omega)
    refine ⟨⟨I ++ [r], by simp [hI1], ?_, ?_⟩, ?_, ?_, ?_⟩
    · intro x hx
      rcases List.mem_append.mp hx with hx | hx
      · simp [hI2 x hx]
      · simp at hx; simp [hx]
    · intro q hq
      rcases List.mem_append.mp hq with hq | hq
      · exact (hI3 q hq).mono (by simp +contextual)
      · simp at hq; subst hq
        exact hus.mono (by simp +contextual)
    · have := tri_snoc hi.tri (p := p) (v := vz u) hp2 (fun q hq => by
        obtain ⟨x, hx, rfl⟩ := List.mem_map.mp hq
        exact huz x hx)
      simpa [tv] using this
    · intro q hq
      rcases List.mem_append.mp hq with hq | hq
      · exact hi.piv q hq
      · simp at hq; subst hq
        exact ⟨by omega, hul, hp2, hub⟩
    · intro x hx
      rcases List.mem_append.mp hx with hx | hx
      · exact (hi.all x hx).mono (by simp +contextual)
      · simp at hx; subst hx
        exact hur.mono (by simp; grind)
def echZ (rows : List (List Int)) : List (Nat × List Int) := rows.foldl stepZ []
theorem stepZ_len (found r) : (stepZ found r).length ≤ found.length + 1 := by unfold stepZ; split <;> simp
theorem echF_inv {w B n : Nat} (hB : 1 ≤ B) (hn : 1 ≤ n) (rs : List (List Int)) : ∀ (rows : List (List Int)) (found), Inv w B ((2 * n * B) ^ n) rows found →
    found.length + rs.length ≤ n → (∀ r ∈ rows, Bd B r) → (∀ r ∈ rs, r.length = w ∧ Bd B r) →
    Inv w B ((2 * n * B) ^ n) (rows ++ rs) (rs.foldl stepZ found) := by
  induction rs with
  | nil => intro rows found hi _ _ _; simpa using hi
  | cons r rs ih =>
    intro rows found hi hl hb hr
    simp only [List.length_cons] at hl
    have h1 := step_inv hB hn hi (by omega) hb (hr r (by simp)).1 (hr r (by simp)).2
    have := ih (rows ++ [r]) (stepZ found r) h1 (by have := stepZ_len found r; omega) (fun x hx => by
      rcases List.mem_append.mp hx with hx | hx
      · exact hb x hx
      · simp at hx; exact hx ▸ (hr r (by simp)).2) fun x hx => hr x (by simp [hx])
    simpa using this
theorem inv_nil (w B Q) : Inv w B Q [] [] := ⟨⟨[], rfl, by simp, by simp⟩, trivial, by simp [Piv], by simp⟩
theorem ech_inv {w B n : Nat} (hB : 1 ≤ B) (hn : 1 ≤ n) (rs : List (List Int)) (hl : rs.length ≤ n) (hr : ∀ r ∈ rs, r.length = w ∧ Bd B r) :
    Inv w B ((2 * n * B) ^ n) rs (echZ rs) := by
  have := echF_inv hB hn rs [] [] (inv_nil w B _) (by simpa using hl) (by simp) hr
  simpa [echZ] using this
theorem Inv.rank {w B Q rows found} (h : Inv w B Q rows found) : found.length = rk (rows.map vz) := by
  obtain ⟨I, h1, h2, h3⟩ := h.own
  rw [rk_of_basis (tri_ind h.tri) ?_ ?_]
  · simp [tv]
  · intro b hb
    simp only [tv, List.map_map, List.mem_map, Function.comp] at hb
    obtain ⟨q, hq, rfl⟩ := hb
    refine (h3 q hq).mono fun v hv => ?_
    obtain ⟨x, hx, rfl⟩ := List.mem_map.mp hv
    exact List.mem_map_of_mem (h2 x hx)
  · intro v hv
    obtain ⟨x, hx, rfl⟩ := List.mem_map.mp hv
    exact h.all x hx
/-- a bound that every list of rows has -/
theorem bd_ex (rs : List (List Int)) : ∃ B, 1 ≤ B ∧ ∀ r ∈ rs, Bd B r := by
  induction rs with
  | nil => exact ⟨1, by simp, by simp⟩
  | cons r rs ih =>
    obtain ⟨B, h1, h2⟩ := ih
    have ⟨C, hC⟩ : ∃ C, Bd C r := by
      clear h2
      induction r with
      | nil => exact ⟨0, by simp [Bd]⟩
      | cons x r ih =>
        obtain ⟨C, hC⟩ := ih
        refine ⟨C + x.natAbs, fun y hy => ?_⟩
        rcases List.mem_cons.mp hy with rfl | hy
        · omega
        · have := hC y hy; omega
    refine ⟨B + C, by omega, fun x hx => ?_⟩
    rcases List.mem_cons.mp hx with rfl | hx
    · exact hC.le (by omega)
    · exact (h2 x hx).le (by omega)
theorem echZ_rank {w : Nat} (rs : List (List Int)) (hr : ∀ r ∈ rs, r.length = w) : (echZ rs).length = rk (rs.map vz) := by
  obtain ⟨B, h1, h2⟩ := bd_ex rs
  exact (ech_inv (n := rs.length + 1) h1 (by omega) rs (by omega) fun r h => ⟨hr r h, h2 r h⟩).rank
end RK
namespace RK
/-- the other way of taking a row off another one -/
def lwless (here other : List Int) (p : Nat) : List Int :=
  divL (max 1 (gcdL (cmbZ (vz other p) (vz here p) here other)) : Nat) (cmbZ (vz other p) (vz here p) here other)
theorem lwless_spec {w p : Nat} {here other : List Int} (h1 : here.length = w) (h2 : other.length = w) :
    (∃ d : Int, d ≠ 0 ∧ ∀ j, d * vz (lwless here other p) j = vz other p * vz here j - vz here p * vz other j) ∧ (lwless here other p).length = w ∧
      ((∀ j, vz (lwless here other p) j = 0) ∨ ∀ e : Int, (∀ j, e ∣ vz (lwless here other p) j) → e.natAbs = 1) := by
  obtain ⟨l, hl⟩ : ∃ l, l = cmbZ (vz other p) (vz here p) here other := ⟨_, rfl⟩
  have hv : ∀ j, vz l j = vz other p * vz here j - vz here p * vz other j := fun j => by rw [hl]; exact cmbZ_vz (by omega) j
  have hlen : l.length = w := by rw [hl, cmbZ_length]; omega
  unfold lwless
  rw [← hl]
  have hdv : ∀ x ∈ l, ((max 1 (gcdL l) : Nat) : Int) ∣ x := by
    intro x hx
    by_cases h0 : gcdL l = 0
    · rw [gcdL_zero.mp h0 x hx]; exact Int.dvd_zero _
    · rw [show max 1 (gcdL l) = gcdL l by omega]; exact gcdL_dvd l x hx
  have he := divL_vz hdv
  refine ⟨⟨((max 1 (gcdL l) : Nat) : Int), by omega, fun j => by rw [he, hv]⟩, by simp [divL, hlen], ?_⟩
  by_cases hz : ∀ j, vz l j = 0
  · left; intro j
    have := he j; rw [hz j] at this
    exact (Int.mul_eq_zero.mp this).resolve_left (by omega)
  · right
    have ⟨q, hq⟩ : ∃ q, vz l q ≠ 0 := by
      apply Classical.byContradiction; intro hn; exact hz fun j => Classical.byContradiction fun h => hn ⟨j, h⟩
    exact prim_of (l := l) rfl (fun j => (he j).symm) hq
def lwmap (here : List Int) (p : Nat) (left : List (List Int)) : List (List Int) :=
  left.map fun o => if vz o p ≠ 0 then lwless here o p else o
/-- what holds of each line that is left -/
def LEl (w B : Nat) (ps : List (Nat × V)) (I : List V) (x : List Int) : Prop :=
  x.length = w ∧ (∃ r : V, (∀ j, (r j).natAbs ≤ B) ∧ Sp (r :: I) (vz x)) ∧ (∀ p ∈ ps, vz x p.1 = 0) ∧
    (Bd B x ∨ (∀ j, vz x j = 0) ∨ ∀ e : Int, (∀ j, e ∣ vz x j) → e.natAbs = 1)
structure LInv (w B : Nat) (ps : List (Nat × V)) (I : List V) (left : List (List Int)) : Prop where
  tri : Tri ps
  len : I.length = ps.length
  sp : ∀ p ∈ ps, Sp I p.2
  bd : ∀ v ∈ I, ∀ j, (v j).natAbs ≤ B
  el : ∀ x ∈ left, LEl w B ps I x
theorem LInv.next {w B : Nat} {ps I left here} (h : LInv w B ps I (left ++ [here])) {p : Nat} (hp : vz here p ≠ 0) :
    ∃ ps' I', ps'.length = ps.length + 1 ∧ LInv w B ps' I' (lwmap here p left) := by
  obtain ⟨h1, ⟨r, hr, hs⟩, h3, h4⟩ := h.el here (by simp)
  refine ⟨ps ++ [(p, vz here)], r :: I, by simp, tri_snoc h.tri hp h3, by simp [h.len], ?_, ?_, ?_⟩
  · intro q hq
    rcases List.mem_append.mp hq with hq | hq
    · exact (h.sp q hq).mono (by simp +contextual)
    · simp at hq; subst hq; exact hs
  · intro v hv
    rcases List.mem_cons.mp hv with rfl | hv
    · exact hr
    · exact h.bd v hv
  · intro x hx
    obtain ⟨o, ho, rfl⟩ := List.mem_map.mp hx
    obtain ⟨g1, ⟨s, gs, gsp⟩, g3, g4⟩ := h.el o (by simp [ho])
    split
    · rename_i hop
      obtain ⟨⟨d, d0, hd⟩, l2, l3⟩ := lwless_spec (p := p) h1 g1
      refine ⟨l2, ⟨s, gs, ?_⟩, ?_, .inr l3⟩
      · exact Sp.dlin (hs.mono (by simp +contextual)) (gsp.mono (by simp; grind)) (vz o p) (-vz here p) d d0 fun j => by
          have := hd j; grind
      · intro q hq
        have := hd q.1
        have hz : vz here q.1 = 0 ∨ q.1 = p := by
          rcases List.mem_append.mp hq with hq | hq
          · exact .inl (h3 q hq)
          · simp at hq; exact .inr (by rw [hq])
        have : d * vz (lwless here o p) q.1 = 0 := by
          rcases List.mem_append.mp hq with hq | hq
          · rw [this, h3 q hq, g3 q hq]; simp
          · simp at hq; rw [this, hq]; simp; grind
        exact (Int.mul_eq_zero.mp this).resolve_left d0
    · rename_i hop
      refine ⟨g1, ⟨s, gs, gsp.mono (by simp; grind)⟩, ?_, g4⟩
      intro q hq
      rcases List.mem_append.mp hq with hq | hq
      · exact g3 q hq
      · simp at hq; rw [hq]; simpa using hop
end RK
namespace RK
theorem Sp.coef {W : List V} {v : V} (h : Sp W v) : ∃ (d : Int) (cs : List Int), d ≠ 0 ∧ cs.length = W.length ∧ ∀ j, d * v j = lc cs W j := by
  induction W generalizing v with
  | nil => exact ⟨1, [], by decide, rfl, fun j => by simp [h.nil j, lc, zr]⟩
  | cons w W ih =>
    obtain ⟨d, a, y, hd, hy, e⟩ := h.split
    obtain ⟨d', cs, hd', hl, e'⟩ := ih hy
    refine ⟨d' * d, (d' * a) :: cs, Int.mul_ne_zero hd' hd, by simp [hl], fun j => ?_⟩
    have h1 := e j; have h2 := e' j
    simp only [lc]; rw [← h2]; grind
theorem ind_of_lc {vs : List V} (h : ∀ cs : List Int, cs.length = vs.length → (∀ j, lc cs vs j = 0) → ∀ c ∈ cs, c = 0) : Ind vs := by
  induction vs with
  | nil => trivial
  | cons v vs ih =>
    refine ⟨fun hs => ?_, ih fun cs hl hz => ?_⟩
    · obtain ⟨d, cs, hd, hl, e⟩ := hs.coef
      have := h ((-d) :: cs) (by simp [hl]) (fun j => by have := e j; simp only [lc]; grind) (-d) (by simp)
      omega
    · intro c hc
      exact h (0 :: cs) (by simp [hl]) (fun j => by simpa [lc] using hz j) c (by simp [hc])
abbrev Pt := Int × Int × Int
abbrev Tr := Nat × Nat × Nat
def mono (m : Tr) (p : Pt) : Int := p.1 ^ m.1 * p.2.1 ^ m.2.1 * p.2.2 ^ m.2.2
/-- the triples of a degree, falling -/
def trs (d : Nat) : List Tr := (List.range (d + 1)).flatMap fun a => (List.range (a + 1)).map fun b => (d - a, a - b, b)
def cnd (d : Nat) (p : Pt) : List Int := (trs d).map fun m => mono m p
/-- linear forms -/
def lf (a : Pt) (p : Pt) : Int := a.1 * p.1 + a.2.1 * p.2.1 + a.2.2 * p.2.2
def nz (p : Pt) : Prop := p.1 ≠ 0 ∨ p.2.1 ≠ 0 ∨ p.2.2 ≠ 0
/-- the number of independent conditions -/
noncomputable def hh (d : Nat) (ps : List Pt) : Nat := rk (ps.map fun p => vz (cnd d p))
def crs (p q : Pt) : Pt := (p.2.1 * q.2.2 - p.2.2 * q.2.1, p.2.2 * q.1 - p.1 * q.2.2, p.1 * q.2.1 - p.2.1 * q.1)
end RK
namespace RK
theorem leadZ_iff {l : List Int} {p : Nat} : leadZ l = some p ↔ vz l p ≠ 0 ∧ ∀ i, i < p → vz l i = 0 := by
  unfold leadZ
  rw [List.findIdx?_eq_some_iff_getElem]
  constructor
  · rintro ⟨h1, h2, h3⟩
    refine ⟨by rw [← vz_get h1]; simpa using h2, fun i hi => ?_⟩
    have := h3 i hi
    rw [← vz_get (by omega)]; simpa using this
  · rintro ⟨h1, h2⟩
    have hp : p < l.length := by
      apply Classical.byContradiction; intro hn; exact h1 (vz_out (by omega))
    refine ⟨hp, by rw [vz_get hp]; simpa using h1, fun i hi => ?_⟩
    have := h2 i hi
    rw [vz_get (by omega)]; simpa using this
theorem lead_ex {l : List Int} (h : ∃ j, vz l j ≠ 0) : ∃ p, leadZ l = some p := by
  cases e : leadZ l with
  | some p => exact ⟨p, rfl⟩
  | none => obtain ⟨j, hj⟩ := h; exact absurd (leadZ_none e j) hj
def Prim (l : List Int) : Prop := ∀ e : Int, (∀ j, e ∣ vz l j) → e.natAbs = 1
def IsTold (l : List Int) : Prop := Prim l ∧ ∃ p, leadZ l = some p ∧ 0 < vz l p
def signZ (l : List Int) : List Int := match leadZ l with
  | none => l
  | some p => if 0 < vz l p then l else l.map (0 - ·)
def toldL (l : List Int) : List Int := signZ (plainZ l)
theorem vz_neg (l : List Int) (j) : vz (l.map (0 - ·)) j = - vz l j := by
  by_cases hj : j < l.length
  · rw [← vz_get (by simpa using hj), ← vz_get hj]; simp
  · rw [vz_out (by simp; omega), vz_out (by omega)]; rfl
theorem signZ_length (l) : (signZ l).length = l.length := by
  unfold signZ
  split
  · rfl
  · split <;> simp
theorem toldL_length (l) : (toldL l).length = l.length := by rw [toldL, signZ_length, plainZ_length]
theorem signZ_eq (l : List Int) : ∃ d : Int, (d = 1 ∨ d = -1) ∧ ∀ j, vz l j = d * vz (signZ l) j := by
  unfold signZ
  split
  · exact ⟨1, .inl rfl, fun j => by simp⟩
  · split
    · exact ⟨1, .inl rfl, fun j => by simp⟩
    · exact ⟨-1, .inr rfl, fun j => by rw [vz_neg]; simp⟩
theorem toldL_spec {l : List Int} (h : ∃ j, vz l j ≠ 0) : IsTold (toldL l) ∧ ∃ d : Int, d ≠ 0 ∧ ∀ j, vz l j = d * vz (toldL l) j := by
  obtain ⟨a, ha, ea⟩ := plainZ_eq l
  obtain ⟨b, hb, eb⟩ := signZ_eq (plainZ l)
  have hb0 : b ≠ 0 := by omega
  obtain ⟨j0, hj0⟩ := h
  have hpl : vz (plainZ l) j0 ≠ 0 := fun e => hj0 (by rw [ea, e]; simp)
  refine ⟨⟨fun e he => ?_, ?_⟩, a * b, Int.mul_ne_zero ha hb0, fun j => by rw [ea, eb]; simp only [toldL]; grind⟩
  · exact plainZ_prim hpl e fun j => by rw [eb]; exact Int.dvd_mul_of_dvd_right (he j)
  · obtain ⟨p, hp⟩ := lead_ex (l := plainZ l) ⟨j0, hpl⟩
    have hp' := leadZ_iff.mp hp
    have e : toldL l = if 0 < vz (plainZ l) p then plainZ l else (plainZ l).map (0 - ·) := by
      simp only [toldL, signZ, hp]
    rw [e]
    split
    · exact ⟨p, hp, by assumption⟩
    · refine ⟨p, leadZ_iff.mpr ⟨by rw [vz_neg]; omega, fun i hi => by rw [vz_neg, hp'.2 i hi]; rfl⟩, by rw [vz_neg]; omega⟩
theorem cop_dvd {a b c : Int} (h : a ∣ b * c) (hc : Int.gcd a b = 1) : a ∣ c := by
  have h1 := Int.natAbs_dvd_natAbs.mpr h
  rw [Int.natAbs_mul] at h1
  have hc' : Nat.Coprime a.natAbs b.natAbs := hc
  exact Int.natAbs_dvd_natAbs.mp (hc'.dvd_of_dvd_mul_left h1)
theorem told_uniq {s t : List Int} (hs : IsTold s) (ht : IsTold t) (hl : s.length = t.length) {a b : Int} (ha : a ≠ 0) (hb : b ≠ 0) (h : ∀ j, a * vz s j = b * vz t j) : s = t := by
  have hg : 0 < Int.gcd a b := Int.gcd_pos_of_ne_zero_left _ ha
  obtain ⟨a', ha'⟩ := Int.gcd_dvd_left (a := a) (b := b)
  obtain ⟨b', hb'⟩ := Int.gcd_dvd_right (a := a) (b := b)
  obtain ⟨g, hgd⟩ : ∃ g, g = Int.gcd a b := ⟨_, rfl⟩
  rw [← hgd] at ha' hb' hg
  have hc : Int.gcd a' b' = 1 := by
    have h1 : Int.gcd ((g : Int) * a') ((g : Int) * b') = g * Int.gcd a' b' := by
      rw [Int.gcd_mul_left]; simp
    rw [← ha', ← hb', ← hgd] at h1
    have : g * 1 = g * Int.gcd a' b' := by rw [Nat.mul_one]; exact h1
    exact (Nat.eq_of_mul_eq_mul_left hg this).symm
  have hj : ∀ j, a' * vz s j = b' * vz t j := fun j => by
    have := h j
    rw [ha', hb'] at this
    have h2 : (g : Int) * (a' * vz s j) = (g : Int) * (b' * vz t j) := by
      rw [← Int.mul_assoc, ← Int.mul_assoc]; exact this
    exact Int.eq_of_mul_eq_mul_left (by omega) h2
  have d1 : a'.natAbs = 1 := ht.1 a' fun j => by
    have : a' ∣ b' * vz t j := ⟨vz s j, (hj j).symm⟩
    exact cop_dvd this hc
  have d2 : b'.natAbs = 1 := hs.1 b' fun j => by
    have : b' ∣ a' * vz s j := ⟨vz t j, hj j⟩
    exact cop_dvd this (by rw [Int.gcd_comm]; exact hc)
  obtain ⟨p, hp, hp0⟩ := hs.2
  obtain ⟨q, hq, hq0⟩ := ht.2
  have hz : ∀ j, vz s j = 0 ↔ vz t j = 0 := fun j => by
    have := hj j
    constructor
    · intro e; rw [e] at this; exact (Int.mul_eq_zero.mp (by rw [← this]; simp)).resolve_left (show b' ≠ 0 by omega)
    · intro e; rw [e] at this; exact (Int.mul_eq_zero.mp (by rw [this]; simp)).resolve_left (show a' ≠ 0 by omega)
  have hpq : p = q := by
    have e1 := leadZ_iff.mp hp
    have e2 := leadZ_iff.mp hq
    rcases Nat.lt_trichotomy p q with h1 | h1 | h1
    · exact absurd ((hz p).mpr (e2.2 p h1)) e1.1
    · exact h1
    · exact absurd ((hz q).mp (e1.2 q h1)) e2.1
  subst hpq
  have hjp := hj p
  have key : ∀ j, vz s j = vz t j := by
    have c1 : a' = 1 ∨ a' = -1 := by omega
    have c2 : b' = 1 ∨ b' = -1 := by omega
    intro j
    have := hj j
    rcases c1 with rfl | rfl <;> rcases c2 with rfl | rfl <;> omega
  apply List.ext_getElem hl
  intro i h1 h2
  rw [vz_get h1, vz_get h2, key]
/-- multiples are told alike -/
theorem told_like {l m : List Int} (hl : l.length = m.length) (h : ∃ j, vz l j ≠ 0) {a b : Int} (ha : a ≠ 0) (hb : b ≠ 0) (e : ∀ j, a * vz l j = b * vz m j) : toldL l = toldL m := by
  obtain ⟨j0, hj0⟩ := h
  obtain ⟨h1, d, hd, e1⟩ := toldL_spec (l := l) ⟨j0, hj0⟩
  obtain ⟨h2, d', hd', e2⟩ := toldL_spec (l := m) ⟨j0, fun q => by
    have := e j0; rw [q] at this; exact (Int.mul_eq_zero.mp (by rw [this]; simp)).elim ha hj0⟩
  refine told_uniq h1 h2 (by rw [toldL_length, toldL_length, hl]) (a := a * d) (b := b * d') (Int.mul_ne_zero ha hd) (Int.mul_ne_zero hb hd') fun j => ?_
  have := e j
  rw [e1, e2] at this; grind
def lp (p : Pt) : List Int := [p.1, p.2.1, p.2.2]
def pt (l : List Int) : Pt := (vz l 0, vz l 1, vz l 2)
def isT (p : Pt) : Prop := IsTold (lp p)
def smul (c : Int) (p : Pt) : Pt := (c * p.1, c * p.2.1, c * p.2.2)
def row3 (r p : Pt) : Int := r.1 * p.1 + r.2.1 * p.2.1 + r.2.2 * p.2.2
abbrev Tb := Pt × Pt × Pt
def tap (t : Tb) (p : Pt) : Pt := (row3 t.1 p, row3 t.2.1 p, row3 t.2.2 p)
/-- a table that leads nothing to nought -/
def inj (t : Tb) : Prop := ∀ p, nz p → nz (tap t p)
end RK
namespace RK
end RK
namespace RK
def keepZ (found : List (Nat × List Int)) (r : List Int) : Bool := (leadZ (plainZ (clrZ found r))).isSome
def posZ (found : List (Nat × List Int)) (k : Nat) : List (List Int) → List Nat
  | [] => []
  | r :: rs => if keepZ found r then k :: posZ (stepZ found r) (k + 1) rs else posZ (stepZ found r) (k + 1) rs
def atP (ps : List Pt) (is : List Nat) : List Pt := is.map fun i => ps.getD i (0, 0, 0)
end RK
namespace RK
def det (t : Tb) : Int := lf t.1 (crs t.2.1 t.2.2)
end RK
namespace RK
def smulT (c : Int) (t : Tb) : Tb := (smul c t.1, smul c t.2.1, smul c t.2.2)
def l9 (t : Tb) : List Int := lp t.1 ++ (lp t.2.1 ++ lp t.2.2)
def t9 (l : List Int) : Tb := ((vz l 0, vz l 1, vz l 2), (vz l 3, vz l 4, vz l 5), (vz l 6, vz l 7, vz l 8))
theorem l9_t9 {l : List Int} (h : l.length = 9) : l9 (t9 l) = l := by
  match l, h with
  | [a, b, c, d, e, f, g, h, i], _ => rfl
theorem l9_smul (c : Int) (t : Tb) (j) : vz (l9 (smulT c t)) j = c * vz (l9 t) j := by
  unfold vz
  match j with
  | 0 | 1 | 2 | 3 | 4 | 5 | 6 | 7 | 8 => rfl
  | j + 9 => simp [l9, lp]
def plainT (t : Tb) : Tb := t9 (toldL (l9 t))
theorem l9_plain (t : Tb) : l9 (plainT t) = toldL (l9 t) := l9_t9 (by rw [toldL_length]; rfl)
def nzT (t : Tb) : Prop := ∃ j, vz (l9 t) j ≠ 0
theorem det_nz {t : Tb} (h : det t ≠ 0) : nzT t := Classical.byContradiction fun hn => h (by
  have h0 : ∀ j, vz (l9 t) j = 0 := fun j => Classical.byContradiction fun hj => hn ⟨j, hj⟩
  have a0 : t.1.1 = 0 := h0 0
  have a1 : t.1.2.1 = 0 := h0 1
  have a2 : t.1.2.2 = 0 := h0 2
  unfold det lf
  rw [a0, a1, a2]
  simp)
theorem plain_ex {t : Tb} (h : nzT t) : ∃ c : Int, c ≠ 0 ∧ t = smulT c (plainT t) := by
  obtain ⟨_, c, hc, e⟩ := toldL_spec h
  refine ⟨c, hc, ?_⟩
  have e' : ∀ j, vz (l9 t) j = vz (l9 (smulT c (plainT t))) j := fun j => by rw [l9_smul, l9_plain, e]
  have h1 : t9 (l9 t) = t9 (l9 (smulT c (plainT t))) := by
    unfold t9
    simp only [e']
  exact h1
theorem plain_like {s t : Tb} (h : nzT s) {a b : Int} (ha : a ≠ 0) (hb : b ≠ 0) (e : smulT a s = smulT b t) : plainT s = plainT t := by
  unfold plainT
  rw [told_like (l := l9 s) (m := l9 t) rfl h ha hb fun j => by rw [← l9_smul, ← l9_smul, e]]
theorem ext3 {s t : Tb} (h1 : s.1 = t.1) (h2 : s.2.1 = t.2.1) (h3 : s.2.2 = t.2.2) : s = t := by
  obtain ⟨a, b, c⟩ := s; obtain ⟨d, e, f⟩ := t; simp_all
theorem extp {p q : Pt} (h1 : p.1 = q.1) (h2 : p.2.1 = q.2.1) (h3 : p.2.2 = q.2.2) : p = q := by
  obtain ⟨a, b, c⟩ := p; obtain ⟨d, e, f⟩ := q; simp_all
theorem smulT_smulT (a b : Int) (t : Tb) : smulT a (smulT b t) = smulT (a * b) t := by
  refine ext3 (extp ?_ ?_ ?_) (extp ?_ ?_ ?_) (extp ?_ ?_ ?_) <;> simp only [smulT, smul] <;> grind
theorem det_smul (c : Int) (t : Tb) : det (smulT c t) = c * c * c * det t := by
  simp only [smulT, smul, det, lf, crs]; grind
/-- the three rows are independent -/
theorem det_ind {t : Tb} (h : det t ≠ 0) : Ind [vz (lp t.1), vz (lp t.2.1), vz (lp t.2.2)] := by
  refine ind_of_lc fun cs hl hz => ?_
  match cs, hl with
  | [a, b, c], _ =>
    have e : ∀ j, a * vz (lp t.1) j + (b * vz (lp t.2.1) j + c * vz (lp t.2.2) j) = 0 := fun j => by
      have := hz j
      simpa [lc, zr] using this
    have e0 : a * t.1.1 + (b * t.2.1.1 + c * t.2.2.1) = 0 := e 0
    have e1 : a * t.1.2.1 + (b * t.2.1.2.1 + c * t.2.2.2.1) = 0 := e 1
    have e2 : a * t.1.2.2 + (b * t.2.1.2.2 + c * t.2.2.2.2) = 0 := e 2
    have ha : a * det t = 0 := by simp only [det, lf, crs]; grind
    have hb : b * det t = 0 := by simp only [det, lf, crs]; grind
    have hc : c * det t = 0 := by simp only [det, lf, crs]; grind
    have f : ∀ x : Int, x * det t = 0 → x = 0 := fun x hx => by
      rcases Int.mul_eq_zero.mp hx with k | k
      · exact k
      · exact absurd k h
    intro x hx
    simp only [List.mem_cons, List.not_mem_nil, or_false] at hx
    rcases hx with rfl | rfl | rfl
    · exact f _ ha
    · exact f _ hb
    · exact f _ hc
theorem det_rank {t : Tb} (h : det t ≠ 0) : rk ([lp t.1, lp t.2.1, lp t.2.2].map vz) = 3 := by
  have h1 := ind_le_rk (L := [lp t.1, lp t.2.1, lp t.2.2].map vz) (det_ind h) (fun b hb => Sp.mem (by simpa using hb))
  have h2 := rk_le_length ([lp t.1, lp t.2.1, lp t.2.2].map vz)
  simp at h1 h2
  simp only [List.map_cons, List.map_nil]
  omega
end RK
namespace RK
def Sim (s t : Tb) : Prop := ∃ a b : Int, a ≠ 0 ∧ b ≠ 0 ∧ smulT a s = smulT b t
theorem mul_nz {a b : Int} (ha : a ≠ 0) (hb : b ≠ 0) : a * b ≠ 0 := Int.mul_ne_zero ha hb
theorem one_smulT (t : Tb) : smulT 1 t = t := by simp [smulT, smul]
theorem Sim.refl (t : Tb) : Sim t t := ⟨1, 1, by decide, by decide, rfl⟩
theorem Sim.symm {s t : Tb} (h : Sim s t) : Sim t s := by
  obtain ⟨a, b, ha, hb, e⟩ := h
  exact ⟨b, a, hb, ha, e.symm⟩
theorem Sim.trans {r s t : Tb} (h : Sim r s) (k : Sim s t) : Sim r t := by
  obtain ⟨a, b, ha, hb, e⟩ := h
  obtain ⟨c, d, hc, hd, f⟩ := k
  refine ⟨c * a, b * d, mul_nz hc ha, mul_nz hb hd, ?_⟩
  rw [← smulT_smulT, e, smulT_smulT, Int.mul_comm c b, ← smulT_smulT, f, smulT_smulT]
theorem Sim.smul {c : Int} (hc : c ≠ 0) (t : Tb) : Sim (smulT c t) t := ⟨1, c, by decide, hc, one_smulT _⟩
theorem Sim.plain {t : Tb} (h : det t ≠ 0) : Sim (plainT t) t := by
  obtain ⟨c, hc, e⟩ := plain_ex (det_nz h)
  exact ⟨c, 1, hc, by decide, by rw [← e, one_smulT]⟩
theorem Sim.eq {s t : Tb} (h : Sim s t) (hd : det s ≠ 0) : plainT s = plainT t := by
  obtain ⟨a, b, ha, hb, e⟩ := h
  exact plain_like (det_nz hd) ha hb e
theorem Sim.det {s t : Tb} (h : Sim s t) (hd : det t ≠ 0) : det s ≠ 0 := fun h0 => by
  obtain ⟨a, b, ha, hb, e⟩ := h
  have := congrArg RK.det e
  rw [det_smul, det_smul, h0, Int.mul_zero] at this
  exact mul_nz (mul_nz (mul_nz hb hb) hb) hd this.symm
end RK
set_option maxHeartbeats 2000000
namespace LW
open PySem PySem.Spec PyProof.Rows L2 DL RK
abbrev iL (l : List Int) : D := .lst (l.map D.int)
abbrev iT (l : List Int) : D := .tup (l.map D.int)
theorem log_le {x b : Nat} (h : x ≤ 2 ^ b) : x.log2 ≤ b := by
  by_cases h0 : x = 0
  · subst h0; simp
  · have : x < 2 ^ (b + 1) := Nat.lt_of_le_of_lt h (Nat.pow_lt_pow_right (by decide) (by omega))
    have := (Nat.log2_lt h0).mpr this
    omega
theorem mul_b {i j : Int} {a b : Nat} (ha : i.natAbs ≤ 2 ^ a) (hb : j.natAbs ≤ 2 ^ b) (h : a + b < 1000000) : opMulA (.int i) (.int j) = some (.int (i * j)) := by
  have h1 := log_le ha; have h2 := log_le hb
  have : i.natAbs.log2 + j.natAbs.log2 < 1000000 := by omega
  simp [opMulA, this]
theorem div_b {i j : Int} {b : Nat} (h : 0 < j) (hb : j.natAbs ≤ 2 ^ b) (h9 : b < 9000) : opFdivW (.int i) (.int j) = some (.int (i / j)) := by
  have h1 := log_le hb
  have : j.natAbs.log2 < 9000 := by omega
  simp [opFdivW, h, this]
theorem one_le_two (b : Nat) : 1 ≤ 2 ^ b := Nat.one_le_pow _ _ (by decide)
@[simp] theorem fGcd_ap (a b : Int) : fGcd [.int a, .int b] = some (.int (Int.gcd a b)) := rfl
theorem gcdF_one (l : List Int) : gcdF 1 l = 1 := by
  have := (gcdF_dvd l 1).1
  exact Nat.dvd_one.mp this
theorem div_loop (π : Pot) (row : D) : ∀ (l : List Int) (g : Nat) (o : Option D),
    ∃ y, forGo (gN 2) f_p_divisor_of_b1 (l.map D.int) [some row, some (.int g), o] π = .ok (y, π) ∧
      ((y = .rt (.int 1) ∧ gcdF g l = 1) ∨ ∃ o', y = .nx [some row, some (.int (gcdF g l)), o'])
  | [], g, o => ⟨_, rfl, .inr ⟨o, rfl⟩⟩
  | x :: l, g, o => by
    simp only [List.map_cons, forGo]
    rw [gcdF_cons]
    by_cases h : Int.gcd g x = 1
    · refine ⟨.rt (.int 1), ?_, .inl ⟨rfl, by rw [h]; exact gcdF_one l⟩⟩
      unfold f_p_divisor_of_b1
      simp -implicitDefEqProofs [h]
    · obtain ⟨y, e, hy⟩ := div_loop π row l (Int.gcd g x) (some (.int x))
      refine ⟨y, ?_, hy⟩
      rw [← e]
      unfold f_p_divisor_of_b1
      have h' : ¬ ((Int.gcd g x : Nat) : Int) = 1 := by omega
      simp -implicitDefEqProofs [h']
theorem divisor_eq {d : D} {l : List Int} (hd : seqOf d = some (l.map D.int)) (π : Pot) : m_p_divisor_of [d] π = .ok (.int (gcdL l), π) := by
  obtain ⟨y, e, hy⟩ := div_loop π d l 0 none
  unfold m_p_divisor_of f_p_divisor_of
  rcases hy with ⟨rfl, h⟩ | ⟨o', rfl⟩
  · have h' : gcdL l = 1 := h
    simp -implicitDefEqProofs [hd, h'] at e ⊢
    simp -implicitDefEqProofs [e]
  · simp -implicitDefEqProofs [hd] at e ⊢
    simp -implicitDefEqProofs [e, gcdL]
theorem plain_eq {d : D} {l : List Int} (hd : d = iL l ∨ d = iT l) {b : Nat} (hb : Bd (2 ^ b) l) (h9 : b < 9000) (hl : l.length < 1000000) (π : Pot) : m_p_plain [d] π = .ok (iL (plainZ l), π) := by
  have hs : seqOf d = some (l.map D.int) := by rcases hd with rfl | rfl <;> rfl
  have hf : fList [d] = some (iL l) := by rcases hd with rfl | rfl <;> rfl
  have e := divisor_eq hs π
  have hg := gcdL_le hb
  unfold m_p_plain f_p_plain plainZ
  by_cases h : 1 < gcdL l
  · have h' : (1 : Int) < (gcdL l : Nat) := by omega
    have lc : lcGo (gN 2) tTrue f_p_plain_e1 [some d, some (.int (gcdL l)), none] (l.map D.int) π = .ok (l.map fun x => .int (x / (gcdL l : Nat)), π) :=
      lcGo_map (ρ1 := fun x => [some d, some (.int (gcdL l)), some (.int x)]) (fun x hx => rfl) fun x hx => by
        have := div_b (i := x) (j := (gcdL l : Nat)) (b := b) (by omega) (by simpa using hg) h9
        simp -implicitDefEqProofs [f_p_plain_e1_ap, this]
    have hl' : l.length < 16777216 := by omega
    simp -implicitDefEqProofs [e, h, h', hs, lc, sl_lt, hl', divL, Function.comp_def]
  · have h' : ¬ (1 : Int) < (gcdL l : Nat) := by omega
    simp -implicitDefEqProofs [e, h, h', hf]
/-- a place, or None -/
def plD : Option Nat → D
  | none => .non
  | some p => .int (p : Int)
theorem lead_loop (π : Pot) (row : D) : ∀ (l : List Int) (k : Nat) (o1 o2 : Option D),
    ∃ y, forGo (gT 2 (gsCons (gN 1) (gsCons (gN 2) gsNil))) f_p_lead_place_b1 (DL.numbered k (l.map D.int)) [some row, o1, o2] π = .ok (y, π) ∧
      (match leadZ l with | some p => y = .rt (.int ((k + p : Nat) : Int)) | none => ∃ a b, y = .nx [some row, a, b])
  | [], k, o1, o2 => ⟨_, rfl, _, _, rfl⟩
  | x :: l, k, o1, o2 => by
    simp only [List.map_cons, DL.numbered, forGo]
    by_cases h : x = 0
    · obtain ⟨y, e, hy⟩ := lead_loop π row l (k + 1) (some (.int k)) (some (.int x))
      refine ⟨y, ?_, ?_⟩
      · rw [← e]
        unfold f_p_lead_place_b1
        simp -implicitDefEqProofs [h]
      · have : leadZ (x :: l) = (leadZ l).map (· + 1) := by
          unfold leadZ; rw [List.findIdx?_cons]; simp [h]
        rw [this]
        cases hl : leadZ l with
        | none => rw [hl] at hy; exact hy
        | some p =>
          rw [hl] at hy
          simp only [Option.map_some]
          rw [hy]; congr 3; omega
    · refine ⟨.rt (.int k), ?_, ?_⟩
      · unfold f_p_lead_place_b1
        simp -implicitDefEqProofs [h]
      · have : leadZ (x :: l) = some 0 := by
          unfold leadZ; rw [List.findIdx?_cons]; simp [h]
        rw [this]; simp
theorem lead_eq {d : D} {l : List Int} (hd : seqOf d = some (l.map D.int)) (π : Pot) : m_p_lead_place [d] π = .ok (plD (leadZ l), π) := by
  obtain ⟨y, e, hy⟩ := lead_loop π d l 0 none none
  unfold m_p_lead_place f_p_lead_place
  cases hl : leadZ l with
  | some p =>
    rw [hl] at hy
    subst hy
    simp -implicitDefEqProofs [hd] at e ⊢
    simp -implicitDefEqProofs [e, plD]
  | none =>
    rw [hl] at hy
    obtain ⟨a, b, rfl⟩ := hy
    simp -implicitDefEqProofs [hd] at e ⊢
    simp -implicitDefEqProofs [e, plD]
theorem zip_iz (a b : List Int) : zipD (a.map D.int) (b.map D.int) = (a.zip b).map fun x => D.tup [.int x.1, .int x.2] := by
  induction a generalizing b with
  | nil => cases b <;> rfl
  | cons x a ih => cases b with
    | nil => rfl
    | cons y b => simp [zipD, ih]
@[simp] theorem iZipD_ap (a : Ea) (ρ : Rho) (π : Pot) : iZipD a ρ π = (a ρ π).bind fun x => match x.1 with
  | [d, e] => (ofO (seqOf d)).bind fun z => (ofO (seqOf e)).bind fun y => .ok (zipD z y, x.2)
  | _ => .stuck := rfl
theorem ix_vz {l : List Int} {p : Nat} (h : p < l.length) : opIx (iL l) (.int (p : Int)) = some (.int (vz l p)) :=
  opIx_iz (by omega) (by simp only [Int.toNat_natCast]; rw [List.getElem?_eq_getElem h, vz_get h])
end LW
set_option maxHeartbeats 2000000
namespace LW
open PySem PySem.Spec PyProof.Rows L2 DL RK
abbrev pvD (q : Nat × List Int) : D := .tup [.int (q.1 : Int), iL q.2]
theorem clr_len {h : List Int} {q : Nat × List Int} (hl : h.length = q.2.length) : (clr1 h q).length = h.length := by
  unfold clr1
  split
  · simp [lessZ, cmbZ_length]; omega
  · rfl
@[simp] theorem eGoL_ap (r : Rm) (ks : List Ak) (m : Fd) (a : Ea) (ρ : Rho) (π : Pot) : eGoL r ks m a ρ π = (a ρ π).bind fun x => if lentOk ks x.1 = true then chk r (m x.1 x.2) else .stuck := rfl
theorem noLs_iz (l : List Int) : noLs (l.map D.int) = true := by
  induction l with
  | nil => rfl
  | cons x l ih => simp [noLs, noL, ih]
end LW
set_option maxHeartbeats 2000000
namespace LW
open PySem PySem.Spec PyProof.Rows L2 DL RK
theorem opIx_tup (xs : List D) (i : D) : opIx (.tup xs) i = opIx (.lst xs) i := by cases i <;> rfl
theorem ix_vzG {d : D} {l : List Int} (hd : d = iL l ∨ d = iT l) {p : Nat} (h : p < l.length) : opIx d (.int (p : Int)) = some (.int (vz l p)) := by
  rcases hd with rfl | rfl
  · exact ix_vz h
  · rw [iT, opIx_tup]; exact ix_vz h
abbrev encB (r : Bool × List Int) : D := if r.1 then iL r.2 else iT r.2
theorem encB_or (r : Bool × List Int) : encB r = iL r.2 ∨ encB r = iT r.2 := by
  unfold encB; split
  · exact .inl rfl
  · exact .inr rfl
theorem less_eqG {dh : D} {h f : List Int} (hdh : dh = iL h ∨ dh = iT h) {p a q : Nat} (hl : h.length = f.length) (hp : p < h.length) (hf : vz f p ≠ 0) (ha : Bd (2 ^ a) h) (hq : Bd (2 ^ q) f) (h9 : q < 9000) (haq : a + q < 1000000) (hw : h.length < 1000000) (π : Pot) :
    m_p_less [dh, iL f, .int (p : Int)] π = .ok (iL (lessZ h f p), π) := by
  have i1 := ix_vzG hdh hp
  have hsd : seqOf dh = some (h.map D.int) := by rcases hdh with rfl | rfl <;> rfl
  have i2 := ix_vz (l := f) (p := p) (by omega)
  have hg : 0 < Int.gcd (vz f p) (vz h p) := Nat.pos_of_ne_zero (by simp [Int.gcd_eq_zero_iff, hf])
  obtain ⟨g, hgd⟩ : ∃ g, g = Int.gcd (vz f p) (vz h p) := ⟨_, rfl⟩
  have hgq : g ≤ 2 ^ q := by
    have h1 := Int.natAbs_dvd_natAbs.mpr (Int.gcd_dvd_left (a := vz f p) (b := vz h p))
    have h2 := Nat.le_of_dvd (Int.natAbs_pos.mpr hf) h1
    have h3 := hq.vz p
    simp at h2; omega
  have d1 : opFdivW (.int (vz f p)) (.int (g : Int)) = some (.int (vz f p / g)) := div_b (b := q) (by omega) (by simpa using hgq) h9
  have d2 : opFdivW (.int (vz h p)) (.int (g : Int)) = some (.int (vz h p / g)) := div_b (b := q) (by omega) (by simpa using hgq) h9
  have z := zip_iz h f
  have b1 : (vz f p / (g : Int)).natAbs ≤ 2 ^ q := Nat.le_trans (div_natAbs_le _ _) (hq.vz p)
  have b2 : (vz h p / (g : Int)).natAbs ≤ 2 ^ a := Nat.le_trans (div_natAbs_le _ _) (ha.vz p)
  have lc : lcGo (gT 2 (gsCons (gN 6) (gsCons (gN 7) gsNil))) tTrue f_p_less_e1 [some dh, some (iL f), some (.int (p : Int)), some (.int (g : Int)), some (.int (vz f p / g)), some (.int (vz h p / g)), none, none] ((h.zip f).map fun x => D.tup [.int x.1, .int x.2]) π =
      .ok ((h.zip f).map fun x => D.int (vz f p / g * x.1 - vz h p / g * x.2), π) :=
    lcGo_map (ρ1 := fun x => [some dh, some (iL f), some (.int (p : Int)), some (.int (g : Int)), some (.int (vz f p / g)), some (.int (vz h p / g)), some (.int x.1), some (.int x.2)]) (fun x hx => by simp) fun x hx => by
      have hx1 : x.1 ∈ h := (List.of_mem_zip hx).1
      have hx2 : x.2 ∈ f := (List.of_mem_zip hx).2
      have m1 := mul_b b1 (ha _ hx1) (by omega)
      have m2 := mul_b b2 (hq _ hx2) (by omega)
      simp -implicitDefEqProofs [f_p_less_e1_ap, m1, m2]
  have hz : ((h.zip f).map fun x => D.tup [.int x.1, .int x.2]).length < 16777216 := by rw [List.length_map, List.length_zip]; omega
  have e : ((h.zip f).map fun x => D.int (vz f p / g * x.1 - vz h p / g * x.2)) = (lessZ h f p).map D.int := by
    simp only [lessZ, cmbZ, ← hgd, ← List.zip_map', List.map_map]
    rw [List.map_zipWith, ← List.map_uncurry_zip_eq_zipWith]
    rfl
  rw [e] at lc
  unfold m_p_less f_p_less
  obtain ⟨A, hA⟩ : ∃ A, A = h.map D.int := ⟨_, rfl⟩
  obtain ⟨B, hB⟩ : ∃ B, B = f.map D.int := ⟨_, rfl⟩
  obtain ⟨C, hC⟩ : ∃ C, C = (h.zip f).map fun x => D.tup [.int x.1, .int x.2] := ⟨_, rfl⟩
  simp only [iL] at i1 i2 lc ⊢
  rw [← hA] at hsd z
  rw [← hB] at i2 lc z ⊢
  rw [← hC] at z lc hz
  simp -implicitDefEqProofs [hsd, i1, i2, ← hgd, d1, d2, z, hz, lc, sl_lt]
theorem clear_loopG {w q : Nat} (F R : D) (π : Pot) : ∀ (found : List (Nat × List Int)) (h : List Int) (dh : D) (a : Nat) (o3 o4 : Option D), (dh = iL h ∨ dh = iT h) →
    Piv w (2 ^ q) found → h.length = w → Bd (2 ^ a) h → a + (q + 1) * found.length < 9000 → w < 1000000 →
    ∃ u3 u4 d', (d' = iL (clrZ found h) ∨ d' = iT (clrZ found h)) ∧ forGo (gT 2 (gsCons (gN 3) (gsCons (gN 4) gsNil))) f_p_cleared_b1 (found.map pvD) [some F, some R, some dh, o3, o4] π = .ok (.nx [some F, some R, some d', u3, u4], π) ∧
      (clrZ found h).length = w ∧ Bd (2 ^ (a + (q + 1) * found.length)) (clrZ found h)
  | [], h, dh, a, o3, o4, hdh, hp, hl, hb, h9, hw => ⟨o3, o4, dh, by simpa [clrZ] using hdh, rfl, hl, by simpa [clrZ] using hb⟩
  | (p, f) :: found, h, dh, a, o3, o4, hdh, hp, hl, hb, h9, hw => by
    obtain ⟨q1, q2, q3, q4⟩ := hp (p, f) (by simp)
    dsimp only at q1 q2 q3 q4
    simp only [List.length_cons, Nat.mul_succ] at h9
    have hq : Bd (2 ^ (a + (q + 1))) (clr1 h (p, f)) := by
      obtain ⟨_, _, _, _, _, _, hbb⟩ := clr1_spec (w := w) (Q := 2 ^ q) (q := (p, f)) (h := h) ⟨q2, q3, q4⟩ (one_le_two q) hl
      have := hbb _ hb
      rwa [show 2 * 2 ^ q * 2 ^ a = 2 ^ (a + (q + 1)) by rw [Nat.pow_add, Nat.pow_succ]; grind] at this
    have i1 := ix_vzG hdh (p := p) (by omega)
    by_cases hz : vz h p = 0
    · have hc : clr1 h (p, f) = h := by unfold clr1; simp [hz]
      obtain ⟨o3', o4', d', hd', e, l2, b2⟩ := clear_loopG F R π found (clr1 h (p, f)) dh (a + (q + 1)) (some (.int p)) (some (iL f)) (by rw [hc]; exact hdh) (fun x hx => hp x (by simp [hx]))
        (by rw [clr_len (by dsimp only; omega)]; exact hl) hq (by omega) hw
      refine ⟨o3', o4', d', hd', ?_, l2, ?_⟩
      · rw [← e]
        simp only [List.map_cons, forGo]
        unfold f_p_cleared_b1
        simp -implicitDefEqProofs [i1, hz]
      · rw [show clrZ ((p, f) :: found) h = clrZ found (clr1 h (p, f)) from rfl]
        simp only [List.length_cons, Nat.mul_succ]
        rwa [show a + ((q + 1) * found.length + (q + 1)) = a + (q + 1) + (q + 1) * found.length by omega]
    · have hc : clr1 h (p, f) = lessZ h f p := by unfold clr1; simp [hz]
      obtain ⟨o3', o4', d', hd', e, l2, b2⟩ := clear_loopG F R π found (clr1 h (p, f)) (iL (clr1 h (p, f))) (a + (q + 1)) (some (.int p)) (some (iL f)) (.inl rfl) (fun x hx => hp x (by simp [hx]))
        (by rw [clr_len (by dsimp only; omega)]; exact hl) hq (by omega) hw
      have m := less_eqG hdh (f := f) (p := p) (a := a) (q := q) (by omega) (by omega) q3 hb q4 (by omega) (by omega) (by omega) π
      rw [hc] at e
      refine ⟨o3', o4', d', hd', ?_, l2, ?_⟩
      · rw [← e]
        simp only [List.map_cons, forGo]
        unfold f_p_cleared_b1
        simp -implicitDefEqProofs [i1, hz, m]
      · rw [show clrZ ((p, f) :: found) h = clrZ found (clr1 h (p, f)) from rfl]
        simp only [List.length_cons, Nat.mul_succ]
        rwa [show a + ((q + 1) * found.length + (q + 1)) = a + (q + 1) + (q + 1) * found.length by omega]
theorem cleared_eqG {w q a : Nat} {found : List (Nat × List Int)} {r : List Int} {dr : D} (hdr : dr = iL r ∨ dr = iT r) (hp : Piv w (2 ^ q) found) (hl : r.length = w) (hb : Bd (2 ^ a) r) (h9 : a + (q + 1) * found.length < 9000) (hw : w < 1000000) (π : Pot) :
    m_p_cleared [.lst (found.map pvD), dr] π = .ok (iL (plainZ (clrZ found r)), π) := by
  obtain ⟨o3, o4, d', hd', e, hl2, hb2⟩ := clear_loopG (.lst (found.map pvD)) dr π found r dr a none none hdr hp hl hb h9 hw
  have e2 := plain_eq (d := d') hd' hb2 h9 (by omega) π
  unfold m_p_cleared f_p_cleared
  simp -implicitDefEqProofs [e]
  simp -implicitDefEqProofs [e2]
theorem ech_loopG {w b n q : Nat} (hn : 1 ≤ n) (hq : (2 * n * 2 ^ b) ^ n ≤ 2 ^ q) (h9 : b + (q + 1) * (n - 1) < 9000) (hw : w < 1000000) (hn2 : n < 1000000) (R : D) (π : Pot) : ∀ (rs : List (Bool × List Int)) (rows : List (List Int)) (found : List (Nat × List Int)) (pos : List D) (k : Nat) (o3 o4 o5 o6 : Option D),
    Inv w (2 ^ b) ((2 * n * 2 ^ b) ^ n) rows found → found.length + rs.length ≤ n → pos.length + rs.length ≤ n → (∀ r ∈ rows, Bd (2 ^ b) r) → (∀ r ∈ rs, r.2.length = w ∧ Bd (2 ^ b) r.2) →
    ∃ u3 u4 u5 u6, forGo (gT 2 (gsCons (gN 3) (gsCons (gN 4) gsNil))) f_p_echelon_b1 (DL.numbered k (rs.map encB)) [some R, some (.lst (found.map pvD)), some (.lst pos), o3, o4, o5, o6] π =
      .ok (.nx [some R, some (.lst (((rs.map (·.2)).foldl stepZ found).map pvD)), some (.lst (pos ++ (posZ found k (rs.map (·.2))).map fun (i : Nat) => D.int (i : Int))), u3, u4, u5, u6], π) := by
  intro rs
  induction rs with
  | nil => intro rows found pos k o3 o4 o5 o6 _ _ _ _ _; exact ⟨o3, o4, o5, o6, by simp [posZ, DL.numbered, forGo]⟩
  | cons r rs ih =>
    intro rows found pos k o3 o4 o5 o6 hi hl hpl hb hr
    simp only [List.length_cons] at hl hpl
    have hpv : Piv w (2 ^ q) found := fun x hx => ⟨(hi.piv x hx).1, (hi.piv x hx).2.1, (hi.piv x hx).2.2.1, (hi.piv x hx).2.2.2.le hq⟩
    have hm : b + (q + 1) * found.length < 9000 := by
      have : (q + 1) * found.length ≤ (q + 1) * (n - 1) := Nat.mul_le_mul_left _ (by omega)
      omega
    obtain ⟨dr, hdr⟩ : ∃ z, z = encB r := ⟨_, rfl⟩
    have hdr2 := encB_or r
    rw [← hdr] at hdr2
    have e1 := cleared_eqG hdr2 hpv (hr r (by simp)).1 (hr r (by simp)).2 hm hw π
    have e2 := lead_eq (d := iL (plainZ (clrZ found r.2))) (l := plainZ (clrZ found r.2)) rfl π
    have hstep := step_inv (one_le_two b) hn hi (by omega) hb (hr r (by simp)).1 (hr r (by simp)).2
    have hsl := stepZ_len found r.2
    simp only [List.map_cons, DL.numbered, forGo, List.foldl_cons]
    rw [← hdr]
    have hl1 : ((found.map pvD).length < 16777216) := by simp; omega
    have hl2 : pos.length < 16777216 := by omega
    have hnr : noR .o (iL (plainZ (clrZ found r.2))) = true := noLs_iz _
    cases hz : leadZ (plainZ (clrZ found r.2)) with
    | none =>
      have hs : stepZ found r.2 = found := by unfold stepZ; rw [hz]
      rw [hz] at e2
      rw [hs] at hstep ⊢
      have hk : keepZ found r.2 = false := by unfold keepZ; rw [hz]; rfl
      have hpz : posZ found k (r.2 :: rs.map (·.2)) = posZ found (k + 1) (rs.map (·.2)) := by rw [posZ, hk, hs]; rfl
      rw [hpz]
      obtain ⟨o3, o4, o5, o6, e⟩ := ih (rows ++ [r.2]) found pos (k + 1) (some (.int k)) (some dr) (some (iL (plainZ (clrZ found r.2)))) (some .non) hstep (by omega) (by omega) (by simp; grind) (fun x hx => hr x (by simp [hx]))
      refine ⟨o3, o4, o5, o6, ?_⟩
      rw [← e]
      obtain ⟨Z, hZ⟩ : ∃ Z, Z = iL (plainZ (clrZ found r.2)) := ⟨_, rfl⟩
      obtain ⟨F, hF⟩ : ∃ F, F = found.map pvD := ⟨_, rfl⟩
      rw [← hZ] at e1 e2 hnr ⊢
      rw [← hF] at e1 ⊢
      unfold f_p_echelon_b1
      simp -implicitDefEqProofs [e1, e2, plD, lentOk, chk, hnr]
    | some p =>
      have hs : stepZ found r.2 = found ++ [(p, plainZ (clrZ found r.2))] := by unfold stepZ; rw [hz]
      rw [hz] at e2
      rw [hs] at hstep hsl ⊢
      have hk : keepZ found r.2 = true := by unfold keepZ; rw [hz]; rfl
      have hpz : posZ found k (r.2 :: rs.map (·.2)) = k :: posZ (found ++ [(p, plainZ (clrZ found r.2))]) (k + 1) (rs.map (·.2)) := by rw [posZ, hk, hs]; rfl
      rw [hpz, List.map_cons, show pos ++ D.int (k : Int) :: (posZ (found ++ [(p, plainZ (clrZ found r.2))]) (k + 1) (rs.map (·.2))).map (fun (i : Nat) => D.int (i : Int)) = (pos ++ [D.int (k : Int)]) ++ (posZ (found ++ [(p, plainZ (clrZ found r.2))]) (k + 1) (rs.map (·.2))).map (fun (i : Nat) => D.int (i : Int)) by simp]
      obtain ⟨o3, o4, o5, o6, e⟩ := ih (rows ++ [r.2]) (found ++ [(p, plainZ (clrZ found r.2))]) (pos ++ [.int k]) (k + 1) (some (.int k)) (some dr) (some (iL (plainZ (clrZ found r.2)))) (some (.int p)) hstep (by omega) (by simp; omega) (by simp; grind) (fun x hx => hr x (by simp [hx]))
      refine ⟨o3, o4, o5, o6, ?_⟩
      rw [← e, List.map_append]
      obtain ⟨Z, hZ⟩ : ∃ Z, Z = iL (plainZ (clrZ found r.2)) := ⟨_, rfl⟩
      obtain ⟨F, hF⟩ : ∃ F, F = found.map pvD := ⟨_, rfl⟩
      have hpv : (List.map pvD [(p, plainZ (clrZ found r.2))]) = [.tup [.int p, Z]] := by simp [hZ]
      rw [hpv]
      rw [← hZ] at e1 e2 hnr ⊢
      rw [← hF] at e1 hl1 ⊢
      unfold f_p_echelon_b1
      simp -implicitDefEqProofs [e1, e2, plD, lentOk, chk, hnr, appD_ok, hl1, hl2, sl_ok]
theorem echelon_eqG {w b n q : Nat} (hn : 1 ≤ n) (hq : (2 * n * 2 ^ b) ^ n ≤ 2 ^ q) (h9 : b + (q + 1) * (n - 1) < 9000) (hw : w < 1000000) (hn2 : n < 1000000) {d : D} {rs : List (Bool × List Int)} (hd : seqOf d = some (rs.map encB)) (hl : rs.length ≤ n) (hr : ∀ r ∈ rs, r.2.length = w ∧ Bd (2 ^ b) r.2) (π : Pot) :
    m_p_echelon [d] π = .ok (.tup [.lst ((echZ (rs.map (·.2))).map pvD), .lst ((posZ [] 0 (rs.map (·.2))).map fun (i : Nat) => D.int (i : Int))], π) := by
  obtain ⟨o3, o4, o5, o6, e⟩ := ech_loopG hn hq h9 hw hn2 d π rs [] [] [] 0 none none none none (inv_nil _ _ _) (by simpa using hl) (by simpa using hl) (by simp) hr
  rw [List.nil_append] at e
  obtain ⟨P, hP⟩ : ∃ P, P = (posZ [] 0 (rs.map (·.2))).map fun (i : Nat) => D.int (i : Int) := ⟨_, rfl⟩
  rw [← hP] at e ⊢
  unfold m_p_echelon f_p_echelon echZ
  simp -implicitDefEqProofs [hd] at e ⊢
  simp -implicitDefEqProofs [e]
theorem rank_eqG {w b n q : Nat} (hn : 1 ≤ n) (hq : (2 * n * 2 ^ b) ^ n ≤ 2 ^ q) (h9 : b + (q + 1) * (n - 1) < 9000) (hw : w < 1000000) (hn2 : n < 1000000) {d : D} {rs : List (Bool × List Int)} (hd : seqOf d = some (rs.map encB)) (hl : rs.length ≤ n) (hr : ∀ r ∈ rs, r.2.length = w ∧ Bd (2 ^ b) r.2) (π : Pot) :
    m_p_rank_of [d] π = .ok (.int (rk ((rs.map (·.2)).map vz)), π) := by
  have em := echelon_eqG hn hq h9 hw hn2 hd hl hr π
  have e3 : (echZ (rs.map (·.2))).length = rk ((rs.map (·.2)).map vz) := echZ_rank (rs.map (·.2)) fun r h => by
    obtain ⟨x, hx, rfl⟩ := List.mem_map.mp h
    exact (hr x hx).1
  unfold m_p_rank_of f_p_rank_of
  have hix : opIx (.tup [.lst ((echZ (rs.map (·.2))).map pvD), .lst ((posZ [] 0 (rs.map (·.2))).map fun (i : Nat) => D.int (i : Int))]) (.int 0) = some (.lst ((echZ (rs.map (·.2))).map pvD)) := rfl
  simp -implicitDefEqProofs [em, hix, e3]
end LW
set_option maxHeartbeats 4000000
namespace LW
open PySem PySem.Spec PyProof.Rows L2 DL RK
abbrev pD (p : Pt) : D := iT (lp p)
abbrev lD (p : Pt) : D := iL (lp p)
theorem bd3 {B : Nat} {p : Pt} : Bd B (lp p) ↔ p.1.natAbs ≤ B ∧ p.2.1.natAbs ≤ B ∧ p.2.2.natAbs ≤ B := by
  constructor
  · intro h; exact ⟨h _ (by simp [lp]), h _ (by simp [lp]), h _ (by simp [lp])⟩
  · rintro ⟨h1, h2, h3⟩ x hx
    simp [lp] at hx
    rcases hx with rfl | rfl | rfl <;> assumption
theorem safe_ok' {α : Type} (a : α) : safe (Res.ok a) = .ok a := rfl
theorem sum3 (a b c : Int) : fSum [.lst [.int a, .int b, .int c]] = some (.int (a + b + c)) := by
  have := fSum_iz [a, b, c]
  simp only [List.map_cons, List.map_nil] at this
  rw [this]; simp; omega
end LW
set_option maxHeartbeats 4000000
namespace LW
open PySem PySem.Spec PyProof.Rows L2 DL RK
/-- a point, given in one way or the other -/
def Giv (d : D) (p : Pt) : Prop := d = pD p ∨ d = lD p
end LW
set_option maxHeartbeats 4000000
set_option maxHeartbeats 4000000
namespace LW
open PySem PySem.Spec PyProof.Rows L2 DL RK
/-- a table that is given: rows as lists or tuples, in a list or a tuple -/
inductive GivT : D → Tb → Prop where
  | l {a b c t} : Giv a t.1 → Giv b t.2.1 → Giv c t.2.2 → GivT (.lst [a, b, c]) t
  | t {a b c t} : Giv a t.1 → Giv b t.2.1 → Giv c t.2.2 → GivT (.tup [a, b, c]) t
theorem Giv.len {d : D} {p : Pt} (h : Giv d p) : fLen [d] = some (.int 3) := by rcases h with rfl | rfl <;> rfl
theorem Giv.seq {d : D} {p : Pt} (h : Giv d p) : seqOf d = some [.int p.1, .int p.2.1, .int p.2.2] := by rcases h with rfl | rfl <;> rfl
theorem Giv.tuple {d : D} {p : Pt} (h : Giv d p) : fTuple [d] = some (pD p) := by rcases h with rfl | rfl <;> rfl
theorem Giv.ilist {d : D} {p : Pt} (h : Giv d p) (π : Pot) : m_p_is_list [d] π = .ok (.bl true, π) := by
  unfold m_p_is_list f_p_is_list
  rcases h with rfl | rfl <;> simp -implicitDefEqProofs
theorem Giv.enc {d : D} {p : Pt} (h : Giv d p) : ∃ b : Bool, d = encB (b, lp p) := by
  rcases h with rfl | rfl
  · exact ⟨false, rfl⟩
  · exact ⟨true, rfl⟩
theorem is_int_eq (i : Int) (π : Pot) : m_p_is_integer [.int i] π = .ok (.bl true, π) := by
  unfold m_p_is_integer f_p_is_integer
  simp -implicitDefEqProofs
theorem GivT.ilist {d : D} {t : Tb} (h : GivT d t) (π : Pot) : m_p_is_list [d] π = .ok (.bl true, π) := by
  unfold m_p_is_list f_p_is_list
  cases h <;> simp -implicitDefEqProofs
theorem all3 : fAll [.lst [.bl true, .bl true, .bl true]] = some (.bl true) := rfl
theorem tb_row {d : D} {p : Pt} (h : Giv d p) (A o2 : Option D) (o1 : Option D) (π : Pot) : f_p_are_table_b1 [A, some d, o2] π = .ok (.nx [A, some d, o2], π) := by
  rw [f_p_are_table_b1_ap]
  have e1 := h.ilist π
  have e2 := h.len
  have e3 := h.seq
  simp -implicitDefEqProofs [e1, e2, e3, lcGo, f_p_are_table_e1_ap, is_int_eq, safe_ok', all3]
theorem bd9 {B : Nat} {t : Tb} (h : Bd B (l9 t)) : Bd B (lp t.1) ∧ Bd B (lp t.2.1) ∧ Bd B (lp t.2.2) :=
  ⟨fun x hx => h x (by simp [l9, hx]), fun x hx => h x (by simp [l9, hx]), fun x hx => h x (by simp [l9, hx])⟩
end LW
set_option maxHeartbeats 8000000
namespace LW
open PySem PySem.Spec PyProof.Rows L2 DL RK
theorem sum3' (a b c : Int) : fSum [.lst [.int a, .int b, .int c]] = some (.int (a + b + c)) := sum3 a b c
theorem bd_c {B : Nat} {p : Pt} (h : Bd B (lp p)) : p.1.natAbs ≤ B ∧ p.2.1.natAbs ≤ B ∧ p.2.2.natAbs ≤ B := bd3.mp h
theorem ofb {a b : Nat} : 2 ^ a * 2 ^ b = 2 ^ (a + b) := (Nat.pow_add 2 a b).symm
theorem two3 {b c : Nat} : 3 * (2 ^ b * 2 ^ c) ≤ 2 ^ (b + c + 2) := by
  rw [ofb, Nat.pow_add 2 (b + c) 2]; omega
theorem mulN {x y : Int} {b c : Nat} (hx : x.natAbs ≤ 2 ^ b) (hy : y.natAbs ≤ 2 ^ c) : (x * y).natAbs ≤ 2 ^ b * 2 ^ c := by
  rw [Int.natAbs_mul]; exact Nat.mul_le_mul hx hy
theorem crs_bd {p q : Pt} {b c : Nat} (hp : Bd (2 ^ b) (lp p)) (hq : Bd (2 ^ c) (lp q)) : Bd (2 ^ (b + c + 2)) (lp (crs p q)) := by
  obtain ⟨p1, p2, p3⟩ := bd_c hp
  obtain ⟨q1, q2, q3⟩ := bd_c hq
  have := @two3 b c
  rw [bd3]
  unfold crs
  refine ⟨?_, ?_, ?_⟩
  · have := mulN p2 q3; have := mulN p3 q2; dsimp only; omega
  · have := mulN p3 q1; have := mulN p1 q3; dsimp only; omega
  · have := mulN p1 q2; have := mulN p2 q1; dsimp only; omega
theorem bd9_of {B : Nat} {t : Tb} (h1 : Bd B (lp t.1)) (h2 : Bd B (lp t.2.1)) (h3 : Bd B (lp t.2.2)) : Bd B (l9 t) := fun x hx => by
  simp only [l9, List.mem_append] at hx
  rcases hx with h | h | h
  · exact h1 x h
  · exact h2 x h
  · exact h3 x h
theorem mulO {x y : Int} {b c : Nat} (hx : x.natAbs ≤ 2 ^ b) (hy : y.natAbs ≤ 2 ^ c) (h : b + c < 1000000) : opMulA (.int x) (.int y) = some (.int (x * y)) := mul_b hx hy h
end LW
namespace LW
open PySem PySem.Spec PyProof.Rows L2 DL RK
theorem rng3 : rng [.int 3] = some [.int 0, .int 1, .int 2] := rfl
end LW
set_option maxHeartbeats 2000000
namespace DL
open PySem PySem.Spec PyProof.Rows L2 PySem.Builtin PySem.Builtin.Str
end DL
set_option maxHeartbeats 2000000
namespace DL
open PySem PySem.Spec PyProof.Rows L2
end DL
set_option maxHeartbeats 8000000
namespace LW
open PySem PySem.Spec PyProof.Rows L2 DL RK
abbrev tL (t : Tb) : D := .lst [lD t.1, lD t.2.1, lD t.2.2]
theorem GivT.ix {d : D} {t : Tb} (h : GivT d t) : ∃ x y z, Giv x t.1 ∧ Giv y t.2.1 ∧ Giv z t.2.2 ∧ seqOf d = some [x, y, z] ∧ opIx d (.int 0) = some x ∧ opIx d (.int 1) = some y ∧ opIx d (.int 2) = some z := by
  cases h with
  | l ha hb hc => exact ⟨_, _, _, ha, hb, hc, rfl, rfl, rfl, rfl⟩
  | t ha hb hc => exact ⟨_, _, _, ha, hb, hc, rfl, rfl, rfl, rfl⟩
theorem Giv.ix {d : D} {p : Pt} (h : Giv d p) : opIx d (.int 0) = some (.int p.1) ∧ opIx d (.int 1) = some (.int p.2.1) ∧ opIx d (.int 2) = some (.int p.2.2) := by
  rcases h with rfl | rfl <;> exact ⟨rfl, rfl, rfl⟩
theorem lsum_eq {d e : D} {p q : Pt} (hd : Giv d p) (he : Giv e q) {b c : Nat} (hp : Bd (2 ^ b) (lp p)) (hq : Bd (2 ^ c) (lp q)) (h : b + c < 1000000) (π : Pot) : m_l_sum [d, e] π = .ok (.int (row3 p q), π) := by
  obtain ⟨p1, p2, p3⟩ := bd_c hp
  obtain ⟨q1, q2, q3⟩ := bd_c hq
  have m1 := mulO p1 q1 h
  have m2 := mulO p2 q2 h
  have m3 := mulO p3 q3 h
  have s1 := hd.seq
  have s2 := he.seq
  unfold m_l_sum f_l_sum
  simp -implicitDefEqProofs [s1, s2, zipD, lcGo, f_l_sum_e1_ap, m1, m2, m3, safe_ok', sum3', row3]
theorem lcross_eq {d e : D} {p q : Pt} (hd : Giv d p) (he : Giv e q) {b c : Nat} (hp : Bd (2 ^ b) (lp p)) (hq : Bd (2 ^ c) (lp q)) (h : b + c < 1000000) (π : Pot) : m_l_cross [d, e] π = .ok (pD (crs p q), π) := by
  obtain ⟨p1, p2, p3⟩ := bd_c hp
  obtain ⟨q1, q2, q3⟩ := bd_c hq
  have m1 := mulO p2 q3 h
  have m2 := mulO p3 q2 h
  have m3 := mulO p3 q1 h
  have m4 := mulO p1 q3 h
  have m5 := mulO p1 q2 h
  have m6 := mulO p2 q1 h
  obtain ⟨i0, i1, i2⟩ := hd.ix
  obtain ⟨j0, j1, j2⟩ := he.ix
  have hr : pD (crs p q) = .tup [.int (p.2.1 * q.2.2 - p.2.2 * q.2.1), .int (p.2.2 * q.1 - p.1 * q.2.2), .int (p.1 * q.2.1 - p.2.1 * q.1)] := rfl
  rw [hr]
  unfold m_l_cross f_l_cross
  simp -implicitDefEqProofs [m1, m2, m3, m4, m5, m6, i0, i1, i2, j0, j1, j2]
theorem whole_eq {x y z : D} {t : Tb} (hx : Giv x t.1) (hy : Giv y t.2.1) (hz : Giv z t.2.2) {b : Nat} (ht : Bd (2 ^ b) (l9 t)) (h : b < 300000) (π : Pot) : m_l_whole [x, y, z] π = .ok (.int (det t), π) := by
  obtain ⟨b1, b2, b3⟩ := bd9 ht
  have e1 := lcross_eq hx hy b1 b2 (by omega) π
  have e2 := lsum_eq (.inl rfl) hz (crs_bd b1 b2) b3 (by omega) π
  have e3 : row3 (crs t.1 t.2.1) t.2.2 = det t := by simp only [row3, crs, det, lf]; grind
  rw [e3] at e2
  obtain ⟨P, hP⟩ : ∃ P, P = pD (crs t.1 t.2.1) := ⟨_, rfl⟩
  rw [← hP] at e1 e2
  unfold m_l_whole f_l_whole
  simp -implicitDefEqProofs [e1, e2]
theorem Giv.list {d : D} {p : Pt} (h : Giv d p) : fList [d] = some (lD p) := by rcases h with rfl | rfl <;> rfl
end LW
set_option maxHeartbeats 8000000
namespace LW
open PySem PySem.Spec PyProof.Rows L2 DL RK
theorem tL_is (t : Tb) : tL t = .lst [.lst [.int t.1.1, .int t.1.2.1, .int t.1.2.2], .lst [.int t.2.1.1, .int t.2.1.2.1, .int t.2.1.2.2], .lst [.int t.2.2.1, .int t.2.2.2.1, .int t.2.2.2.2]] := rfl
theorem given_ex {a : D} {p : Pt} (π : Pot) : ∃ d π', m_l_given [a, lD p] π = .ok (d, π') ∧ Giv d p := by
  obtain ⟨v, π1, e1, v0, v1⟩ := draw_ex (n := 2) (a := .non) π (by decide) (by decide)
  have f1 : fTuple [lD p] = some (pD p) := rfl
  have f2 : fList [lD p] = some (lD p) := rfl
  by_cases h : v = 0
  · refine ⟨pD p, π1, ?_, .inl rfl⟩
    obtain ⟨P, hP⟩ : ∃ P, P = pD p := ⟨_, rfl⟩
    obtain ⟨L, hL⟩ : ∃ P, P = lD p := ⟨_, rfl⟩
    rw [← hP, ← hL] at f1
    rw [← hP, ← hL]
    unfold m_l_given f_l_given
    simp -implicitDefEqProofs [e1, h, f1]
  · refine ⟨lD p, π1, ?_, .inr rfl⟩
    obtain ⟨L, hL⟩ : ∃ P, P = lD p := ⟨_, rfl⟩
    rw [← hL] at f2 ⊢
    unfold m_l_given f_l_given
    simp -implicitDefEqProofs [e1, h, f2]
theorem any3i (a b c : Int) : fAnyA [.lst [.int a, .int b, .int c]] = some (.bl (a != 0 || (b != 0 || (c != 0 || false)))) := rfl
theorem point_ex {a : D} {m : Nat} (hm : 1 ≤ m) (h9 : m ≤ 100) (π : Pot) : ∃ p π', m_l_point [a, .int (m : Int)] π = .ok (lD p, π') ∧ nz p ∧ Bd m (lp p) := by
  have hmul : opMulA (.int 2) (.int (m : Int)) = some (.int (2 * (m : Int))) := opMulA_l (by decide) (by decide)
  obtain ⟨x, π1, e1, x0, x1⟩ := draw_ex (n := 2 * (m : Int) + 1) (a := .non) π (by omega) (by omega)
  obtain ⟨y, π2, e2, y0, y1⟩ := draw_ex (n := 2 * (m : Int) + 1) (a := .non) π1 (by omega) (by omega)
  obtain ⟨z, π3, e3, z0, z1⟩ := draw_ex (n := 2 * (m : Int) + 1) (a := .non) π2 (by omega) (by omega)
  have an := any3i (x - m) (y - m) (z - m)
  by_cases h : x - (m : Int) = 0 ∧ y - (m : Int) = 0 ∧ z - (m : Int) = 0
  · refine ⟨(0, 1, 0 - (m : Int)), π3, ?_, Or.inr (.inl (show (1 : Int) ≠ 0 by decide)), bd3.mpr ⟨by simp, by simp; omega, by simp⟩⟩
    have an' : fAnyA [.lst [.int (x - m), .int (y - m), .int (z - m)]] = some (.bl false) := by rw [an]; simp [h]
    have hr : lD (0, 1, 0 - (m : Int)) = .lst [.int 0, .int 1, .int (0 - (m : Int))] := rfl
    rw [hr]
    unfold m_l_point f_l_point
    simp -implicitDefEqProofs [rng3, lcGo, f_l_point_e1_ap, hmul, e1, e2, e3, safe_ok', an']
  · have hne : x - (m : Int) ≠ 0 ∨ y - (m : Int) ≠ 0 ∨ z - (m : Int) ≠ 0 := by omega
    refine ⟨(x - m, y - m, z - m), π3, ?_, hne, bd3.mpr ⟨by dsimp only; omega, by dsimp only; omega, by dsimp only; omega⟩⟩
    have an' : fAnyA [.lst [.int (x - m), .int (y - m), .int (z - m)]] = some (.bl true) := by
      rw [an]
      congr 2
      rcases hne with h | h | h <;> simp [h]
    have hr : lD (x - (m : Int), y - (m : Int), z - (m : Int)) = .lst [.int (x - m), .int (y - m), .int (z - m)] := rfl
    rw [hr]
    unfold m_l_point f_l_point
    simp -implicitDefEqProofs [rng3, lcGo, f_l_point_e1_ap, hmul, e1, e2, e3, safe_ok', an']
theorem table_ex {a : D} {m : Nat} (hm : 2 ≤ m) (h9 : m ≤ 8) (π : Pot) : ∃ t π', m_l_table [a, .int (m : Int)] π = .ok (tL t, π') ∧ det t ≠ 0 ∧ Bd (2 ^ 3) (l9 t) := by
  obtain ⟨p, π1, e1, -, b1⟩ := point_ex (a := .non) (m := m) (by omega) (by omega) π
  obtain ⟨q, π2, e2, -, b2⟩ := point_ex (a := .non) (m := m) (by omega) (by omega) π1
  obtain ⟨r, π3, e3, -, b3⟩ := point_ex (a := .non) (m := m) (by omega) (by omega) π2
  have hb : Bd (2 ^ 3) (l9 (p, q, r)) := bd9_of (b1.le (by omega)) (b2.le (by omega)) (b3.le (by omega))
  have ew := whole_eq (t := (p, q, r)) (.inr rfl) (.inr rfl) (.inr rfl) hb (by decide) π3
  have x0 : opIx (.lst [lD p, lD q, lD r]) (.int 0) = some (lD p) := rfl
  have x1 : opIx (.lst [lD p, lD q, lD r]) (.int 1) = some (lD q) := rfl
  have x2 : opIx (.lst [lD p, lD q, lD r]) (.int 2) = some (lD r) := rfl
  by_cases h : det (p, q, r) = 0
  · obtain ⟨v1, π4, f1, v10, v11⟩ := draw_ex (n := 5) (a := .non) π3 (by decide) (by decide)
    obtain ⟨v2, π5, f2, v20, v21⟩ := draw_ex (n := 3) (a := .non) π4 (by decide) (by decide)
    obtain ⟨v3, π6, f3, v30, v31⟩ := draw_ex (n := 5) (a := .non) π5 (by decide) (by decide)
    obtain ⟨dk, π7, f4, hk⟩ := pick_ex (a := .non) (xs := [.int 1, .int (-1), .int 2]) π6 (by simp) (by simp)
    have ⟨k, hk1, hk2⟩ : ∃ k : Int, dk = .int k ∧ (k = 1 ∨ k = -1 ∨ k = 2) := by
      simp only [List.mem_cons, List.not_mem_nil, or_false] at hk
      rcases hk with rfl | rfl | rfl
      · exact ⟨_, rfl, .inl rfl⟩
      · exact ⟨_, rfl, .inr (.inl rfl)⟩
      · exact ⟨_, rfl, .inr (.inr rfl)⟩
    subst hk1
    refine ⟨((1, 0, 0), (v1 - 2, 1, 0), (v2 - 1, v3 - 2, k)), π7, ?_, ?_, ?_⟩
    · rw [tL_is]
      dsimp only
      obtain ⟨P, hP⟩ : ∃ P, P = lD p := ⟨_, rfl⟩
      obtain ⟨Q, hQ⟩ : ∃ P, P = lD q := ⟨_, rfl⟩
      obtain ⟨R, hR⟩ : ∃ P, P = lD r := ⟨_, rfl⟩
      dsimp only at ew
      rw [h] at ew
      rw [← hP] at e1
      rw [← hQ] at e2
      rw [← hR] at e3
      rw [← hP, ← hQ, ← hR] at x0 x1 x2
      have ew' : m_l_whole [P, Q, R] π3 = .ok (.int 0, π3) := by rw [hP, hQ, hR]; exact whole_eq (t := (p, q, r)) (.inr rfl) (.inr rfl) (.inr rfl) hb (by decide) π3 ▸ (by rw [h])
      unfold m_l_table f_l_table
      simp -implicitDefEqProofs [rng3, lcGo, f_l_table_e1_ap, e1, e2, e3, safe_ok', x0, x1, x2, ew', f1, f2, f3, f4]
    · have : det ((1, 0, 0), (v1 - 2, 1, 0), (v2 - 1, v3 - 2, k)) = k := by simp [det, lf, crs]
      rw [this]; omega
    · refine bd9_of (bd3.mpr ⟨?_, ?_, ?_⟩) (bd3.mpr ⟨?_, ?_, ?_⟩) (bd3.mpr ⟨?_, ?_, ?_⟩) <;> simp <;> omega
  · refine ⟨(p, q, r), π3, ?_, h, hb⟩
    have hr : tL (p, q, r) = .lst [lD p, lD q, lD r] := rfl
    rw [hr]
    obtain ⟨P, hP⟩ : ∃ P, P = lD p := ⟨_, rfl⟩
    obtain ⟨Q, hQ⟩ : ∃ P, P = lD q := ⟨_, rfl⟩
    obtain ⟨R, hR⟩ : ∃ P, P = lD r := ⟨_, rfl⟩
    have ew' : m_l_whole [P, Q, R] π3 = .ok (.int (det (p, q, r)), π3) := by rw [hP, hQ, hR]; exact ew
    rw [← hP] at e1
    rw [← hQ] at e2
    rw [← hR] at e3
    rw [← hP, ← hQ, ← hR] at x0 x1 x2
    rw [← hP, ← hQ, ← hR]
    unfold m_l_table f_l_table
    simp -implicitDefEqProofs [rng3, lcGo, f_l_table_e1_ap, e1, e2, e3, safe_ok', x0, x1, x2, ew', h]
end LW
set_option maxHeartbeats 2000000
namespace DL
open PySem PySem.Spec PyProof.Rows L2
inductive Vx : Nat → D → Prop
  | non {n : Nat} : Vx n .non
  | bl {n : Nat} (b : Bool) : Vx n (.bl b)
  | int {n : Nat} (i : Int) (h : i.natAbs ≤ 2 ^ 40) : Vx n (.int i)
  | str {n : Nat} (x : Str) (h : (reprText x).length ≤ 100) : Vx n (.str x)
  | emp {n : Nat} : Vx n (.dic [] [])
  | lst {n : Nat} {xs : List D} (h : xs.length ≤ 8) (r : ∀ x ∈ xs, Vx n x) : Vx (n + 1) (.lst xs)
  | tup {n : Nat} {xs : List D} (h : xs.length ≤ 8) (r : ∀ x ∈ xs, Vx n x) : Vx (n + 1) (.tup xs)
theorem Vx.up {n : Nat} {d : D} (h : Vx n d) : Vx (n + 1) d := by
  induction h with
  | non => exact .non
  | bl b => exact .bl b
  | int i h => exact .int i h
  | str x h => exact .str x h
  | emp => exact .emp
  | lst h r ih => exact .lst h ih
  | tup h r ih => exact .tup h ih
theorem Vx.le {n m : Nat} {d : D} (h : Vx n d) (hm : n ≤ m) : Vx m d := by
  obtain ⟨k, rfl⟩ : ∃ k, m = n + k := ⟨m - n, by omega⟩
  induction k with
  | zero => exact h
  | succ k ih => exact (ih (by omega)).up
def WX : Nat → Nat
  | 0 => 110
  | n + 1 => 8 * (WX n + 2) + 3
theorem wx_ge (n : Nat) : 110 ≤ WX n := by
  induction n with
  | zero => exact Nat.le_refl _
  | succ n ih => simp only [WX]; omega
def ShX (n : Nat) (d : D) : Prop := ∃ p, toPyX d = some p ∧ p.showable = true ∧ p.depth ≤ n + 1 ∧ p.shown.length ≤ WX n
theorem shx_all {n : Nat} : ∀ {xs : List D}, (∀ x ∈ xs, ShX n x) → ∃ ps, toPyXL xs = some ps ∧ PyData.showableAll ps = true ∧ PyData.depthAll ps ≤ n + 1 ∧ piled (PyData.shownAll ps) ≤ (WX n + 2) * xs.length
  | [], _ => ⟨[], rfl, rfl, Nat.zero_le _, Nat.zero_le _⟩
  | x :: xs, h => by
    obtain ⟨p, h1, h2, h3, h4⟩ := h x (by simp)
    obtain ⟨ps, g1, g2, g3, g4⟩ := shx_all (xs := xs) fun y hy => h y (by simp [hy])
    refine ⟨p :: ps, by simp [toPyXL, h1, g1], by simp [PyData.showableAll, h2, g2], ?_, ?_⟩
    · simp only [PyData.depthAll]
      omega
    · rw [PyData.shownAll, piled_cons, List.length_cons, Nat.mul_add]
      omega
theorem Vx.sh {n : Nat} {d : D} (h : Vx n d) : ShX n d := by
  have flat : ∀ {d : D} {n : Nat}, showB d = true → deepD d = 0 → wideD d ≤ 100 → (∀ p, toPy d = some p → toPyX d = some p) → ShX n d := fun {d n} h1 h2 h3 h4 => by
    obtain ⟨p, e, g1, g2, g3, g4⟩ := show_py h1
    have := wx_ge n
    exact ⟨p, h4 p e, g1, by omega, by omega⟩
  induction h with
  | non => exact flat rfl rfl (by decide) fun p e => e
  | bl b => exact flat rfl rfl (by cases b <;> decide) fun p e => e
  | int i h =>
    have hl : i.natAbs.log2 ≤ 41 := by
      by_cases h0 : i.natAbs = 0
      · rw [h0]; decide
      · have := (Nat.log2_lt (k := 41) h0).mpr (Nat.lt_of_le_of_lt h (by decide))
        omega
    exact flat (by show decide (i.natAbs.log2 < 1920) = true; exact decide_eq_true (by omega)) rfl (by show i.natAbs.log2 + 2 ≤ 100; omega) fun p e => e
  | str x h => exact flat rfl rfl h fun p e => e
  | @emp n =>
    have := wx_ge n
    exact ⟨.dict [], rfl, rfl, by show 0 + 1 ≤ n + 1; omega, by show 2 ≤ _; omega⟩
  | @lst n xs h r ih =>
    obtain ⟨ps, g1, g2, g3, g4⟩ := shx_all ih
    have := list_text (PyData.shownAll ps)
    refine ⟨.list ps, by simp [toPyX, g1], by simpa [PyData.showable] using g2, by simp only [PyData.depth]; omega, ?_⟩
    rw [PyData.shown, WX]
    have : (WX n + 2) * xs.length ≤ (WX n + 2) * 8 := Nat.mul_le_mul_left _ h
    omega
  | @tup n xs h r ih =>
    obtain ⟨ps, g1, g2, g3, g4⟩ := shx_all ih
    have := tup_text (PyData.shownAll ps)
    refine ⟨.tuple ps, by simp [toPyX, g1], by simpa [PyData.showable] using g2, by simp only [PyData.depth]; omega, ?_⟩
    rw [PyData.shown, WX]
    have : (WX n + 2) * xs.length ≤ (WX n + 2) * 8 := Nat.mul_le_mul_left _ h
    omega
theorem wx_le {n : Nat} (h : n ≤ 4) : WX n ≤ 600000 := by
  rcases (show n = 0 ∨ n = 1 ∨ n = 2 ∨ n = 3 ∨ n = 4 by omega) with rfl | rfl | rfl | rfl | rfl <;> decide
theorem ShX.show {n : Nat} (hn : n ≤ 4) {d : D} (h : ShX n d) : ∃ z, showX d = some z ∧ z.length ≤ WX n := by
  obtain ⟨p, h1, h2, h3, h4⟩ := h
  have := wx_le hn
  refine ⟨p.shown, ?_, h4⟩
  unfold showX
  rw [h1]
  have d1 : p.depth ≤ 60 := by omega
  have d2 : p.shown.length ≤ sizeLine := by rw [sizeLine_eq]; omega
  simp [h2, d1, d2]
def noInsX : D → Bool
  | .ins _ _ _ => false
  | _ => true
theorem Vx.noInsX {n : Nat} {d : D} (h : Vx n d) : noInsX d = true := by cases h <;> rfl
theorem meOf_no {d : D} (h : noInsX d = true) : ∀ t : RepT, meOf t d = none
  | [] => rfl
  | (c, m) :: t => by
    have : isInO c d = false := by cases d <;> first | rfl | cases h
    simp only [meOf, this]
    exact meOf_no h t
theorem fReprA_str {d z : D} (h : fReprA [d] = some z) : ∃ s, z = .str s := by
  cases d <;> (simp only [fReprA, fRepr, Option.map_eq_some_iff] at h; obtain ⟨s, _, rfl⟩ := h; exact ⟨s, rfl⟩)
theorem repr_el_all {t : RepT} {n : Nat} (hn : n ≤ 4) (π : Pot) : ∀ {xs : List D}, (∀ x ∈ xs, Vx n x) → ∃ zs, reprAll t xs π = .ok (zs, π) ∧ piled zs ≤ (WX n + 2) * xs.length
  | [], _ => ⟨[], rfl, Nat.zero_le _⟩
  | x :: xs, h => by
    obtain ⟨z, e, hz⟩ := (h x (by simp)).sh.show hn
    obtain ⟨zs, e2, hz2⟩ := repr_el_all (t := t) hn π (xs := xs) fun y hy => h y (by simp [hy])
    refine ⟨z :: zs, ?_, ?_⟩
    · have e3 : reprEl t x π = .ok (z, π) := by
        unfold reprEl
        rw [meOf_no (h x (by simp)).noInsX]
        simp only [e]
      simp only [reprAll, e3, Res.bind_ok, e2]
    · rw [piled_cons, List.length_cons, Nat.mul_add]
      omega
/-- repr of such a value -/
theorem Vx.rpr {n : Nat} (hn : n ≤ 4) {d : D} (h : Vx n d) {t : RepT} (hp : PMs t) : ∃ z, ∀ π, rprA t d π = .ok (.str z, π) := by
  have main : ∃ z, rprA t d (0, 0) = .ok (.str z, (0, 0)) := by
    have m0 := meOf_no h.noInsX t
    unfold rprA
    rw [m0]
    simp only
    cases e : fReprA [d] with
    | some z =>
      obtain ⟨s, rfl⟩ := fReprA_str e
      exact ⟨s, rfl⟩
    | none =>
      have no : ∀ {d : D}, shOk d = true → fReprA [d] = (showD d).map D.str → fReprA [d] = none → False := fun {d} h1 h2 h3 => by
        obtain ⟨z, hz⟩ := showD_ok h1
        rw [h2, hz] at h3
        cases h3
      cases h with
      | non => exact (no rfl rfl e).elim
      | bl b => exact (no (by cases b <;> rfl) rfl e).elim
      | int i hi =>
        refine (no ?_ rfl e).elim
        have hl : i.natAbs.log2 ≤ 41 := by
          by_cases h0 : i.natAbs = 0
          · rw [h0]; decide
          · have := (Nat.log2_lt (k := 41) h0).mpr (Nat.lt_of_le_of_lt hi (by decide))
            omega
        show (decide (i.natAbs.log2 < 1920) && decide (0 ≤ 60) && decide (i.natAbs.log2 + 2 ≤ 16777216)) = true
        have a1 : i.natAbs.log2 < 1920 := by omega
        have a2 : i.natAbs.log2 + 2 ≤ 16777216 := by omega
        simp [a1, a2]
      | str x hx =>
        refine (no ?_ rfl e).elim
        show (true && decide (0 ≤ 60) && decide ((reprText x).length ≤ 16777216)) = true
        have a2 : (reprText x).length ≤ 16777216 := by omega
        simp [a2]
      | emp => exact absurd e (by rw [show fReprA [.dic [] []] = some _ from rfl]; simp)
      | @lst m xs hl r =>
        cases xs with
        | nil => exact (no rfl rfl e).elim
        | cons x xs =>
          obtain ⟨zs, e2, hz⟩ := repr_el_all (t := t) (n := m) (by omega) (0, 0) r
          have := wx_le (n := m) (by omega)
          have h3 : (WX m + 2) * (x :: xs).length ≤ (WX m + 2) * 8 := Nat.mul_le_mul_left _ hl
          have h4 := list_text zs
          have h5 : (listText zs).length ≤ sizeLine := by rw [sizeLine_eq]; omega
          exact ⟨listText zs, by simp only [e2, Res.bind_ok, h5, if_true]⟩
      | @tup m xs hl r =>
        obtain ⟨z, e2, _⟩ := (Vx.tup hl r).sh.show hn
        exact ⟨z, by simp only [e2]⟩
  obtain ⟨z, e⟩ := main
  refine ⟨z, fun π => ?_⟩
  have := pa_rprA hp d (0, 0) π
  rw [e] at this
  exact this
end DL
set_option maxHeartbeats 4000000
namespace LW
open PySem PySem.Spec PyProof.Rows L2 DL RK
def isZ : D → Bool
  | .int _ => true
  | _ => false
theorem isint_any {d : D} (h : noInsX d = true) (π : Pot) : m_p_is_integer [d] π = .ok (.bl (isZ d), π) := by
  unfold m_p_is_integer f_p_is_integer
  cases d with
  | ins _ _ _ => cases h
  | _ => simp -implicitDefEqProofs [isZ, eAnd]
theorem lint_any {d : D} (h : noInsX d = true) {ρ : Rho} {i : Nat} (hi : ρ[i]? = some (some d)) (π : Pot) : (eAnd (eUn (fIsA ["Spots"] ["int"]) (eVar i)) (eNot (eUn (fIsA ["Spots"] ["bool"]) (eVar i)))) ρ π = .ok (.bl (isZ d), π) := by
  cases d with
  | ins _ _ _ => cases h
  | _ => simp -implicitDefEqProofs [isZ, eAnd, hi]
def ptB : List D → Bool
  | [.int a, .int b, .int c] => a != 0 || (b != 0 || (c != 0 || false))
  | _ => false
theorem ptB_no {x y z : D} (h : (isZ x && (isZ y && isZ z)) = false) : ptB [x, y, z] = false := by
  unfold ptB
  split
  · rename_i a b c e
    simp only [List.cons.injEq, and_true] at e
    obtain ⟨rfl, rfl, rfl⟩ := e
    cases h
  · rfl
theorem ints3 {x y z : D} (h : (isZ x && (isZ y && isZ z)) = true) : ∃ a b c : Int, x = .int a ∧ y = .int b ∧ z = .int c := by
  simp only [Bool.and_eq_true] at h
  obtain ⟨h1, h2, h3⟩ := h
  have g : ∀ {d : D}, isZ d = true → ∃ a, d = .int a := fun {d} h => by cases d <;> first | exact ⟨_, rfl⟩ | cases h
  obtain ⟨a, rfl⟩ := g h1
  obtain ⟨b, rfl⟩ := g h2
  obtain ⟨c, rfl⟩ := g h3
  exact ⟨a, b, c, rfl, rfl, rfl⟩
theorem all3b (a b c : Bool) : fAll [.lst [.bl a, .bl b, .bl c]] = some (.bl (a && (b && c))) := by cases a <;> cases b <;> cases c <;> rfl
theorem any3b (a b c : Bool) : fAnyA [.lst [.bl a, .bl b, .bl c]] = some (.bl (a || (b || (c || false)))) := by cases a <;> cases b <;> cases c <;> rfl
theorem ne_zero (a : Int) : opNe (.int a) (.int 0) = some (.bl (a != 0)) := by
  show some (D.bl (!decide (a = 0))) = _
  by_cases h : a = 0 <;> simp [h]
theorem len3 {xs : List D} (h : xs.length = 3) : ∃ x y z, xs = [x, y, z] := by
  match xs, h with
  | [x, y, z], _ => exact ⟨x, y, z, rfl⟩
theorem ptB_len {xs : List D} (h : xs.length ≠ 3) : ptB xs = false := by
  unfold ptB
  split
  · simp at h
  · rfl
theorem is_list_lt {v : D} {xs : List D} (hv : v = .lst xs ∨ v = .tup xs) (π : Pot) : m_p_is_list [v] π = .ok (.bl true, π) := by
  unfold m_p_is_list f_p_is_list
  rcases hv with rfl | rfl <;> simp -implicitDefEqProofs
theorem is_list_nl {v : D} (h : noInsX v = true) (h2 : seqOf v = none) (π : Pot) : m_p_is_list [v] π = .ok (.bl false, π) := by
  unfold m_p_is_list f_p_is_list
  cases v with
  | ins _ _ _ => cases h
  | lst _ => cases h2
  | tup _ => cases h2
  | _ => simp -implicitDefEqProofs
theorem p_point_seq {v : D} {xs : List D} (hv : v = .lst xs ∨ v = .tup xs) (hn : ∀ x ∈ xs, noInsX x = true) (hl : xs.length ≤ 8) (π : Pot) : m_p_is_point [v] π = .ok (.bl (ptB xs), π) := by
  have e1 := is_list_lt hv π
  have e2 : fLen [v] = some (.int (xs.length : Int)) := by rcases hv with rfl | rfl <;> simp [fLen]
  have e3 : seqOf v = some xs := by rcases hv with rfl | rfl <;> rfl
  suffices h : m_p_are_point [v] π = .ok (.bl (ptB xs), π) by
    unfold m_p_is_point f_p_is_point
    simp -implicitDefEqProofs [h]
  by_cases h3 : xs.length = 3
  · obtain ⟨x, y, z, rfl⟩ := len3 h3
    have i1 := isint_any (hn x (by simp)) π
    have i2 := isint_any (hn y (by simp)) π
    have i3 := isint_any (hn z (by simp)) π
    have al := all3b (isZ x) (isZ y) (isZ z)
    have q : opNe (.int 3) (.int 3) = some (.bl false) := rfl
    by_cases hz : (isZ x && (isZ y && isZ z)) = true
    · rw [hz] at al
      obtain ⟨a, b, c, rfl, rfl, rfl⟩ := ints3 hz
      have n1 := ne_zero a
      have n2 := ne_zero b
      have n3 := ne_zero c
      have an := any3b (a != 0) (b != 0) (c != 0)
      have hp : ptB [.int a, .int b, .int c] = (a != 0 || (b != 0 || (c != 0 || false))) := rfl
      rw [hp]
      generalize (a != 0) = ba at *
      generalize (b != 0) = bb at *
      generalize (c != 0) = bc at *
      simp only [isZ] at i1 i2 i3
      unfold m_p_are_point f_p_are_point
      simp -implicitDefEqProofs [e1, e2, e3, q, lcGo, f_p_are_point_e1_ap, f_p_are_point_e2_ap, is_int_eq, safe_ok', all3, n1, n2, n3, an]
    · have hz' : (isZ x && (isZ y && isZ z)) = false := by simpa using hz
      rw [hz'] at al
      rw [ptB_no hz']
      generalize isZ x = bx at *
      generalize isZ y = by' at *
      generalize isZ z = bz at *
      unfold m_p_are_point f_p_are_point
      simp -implicitDefEqProofs [e1, e2, e3, q, lcGo, f_p_are_point_e1_ap, i1, i2, i3, safe_ok', al]
  · rw [ptB_len h3]
    have q : opNe (.int (xs.length : Int)) (.int 3) = some (.bl true) := by simp [opNe, eqD]; omega
    unfold m_p_are_point f_p_are_point
    simp -implicitDefEqProofs [e1, e2, q]
theorem l_point_seq {v : D} {xs : List D} (hv : v = .lst xs ∨ v = .tup xs) (hn : ∀ x ∈ xs, noInsX x = true) (hl : xs.length ≤ 8) (π : Pot) : m_l_is_point [v] π = .ok (.bl (ptB xs), π) := by
  have e1 : fIsA ["Spots"] ["list", "tuple"] v = some (.bl true) := by rcases hv with rfl | rfl <;> rfl
  have e2 : fLen [v] = some (.int (xs.length : Int)) := by rcases hv with rfl | rfl <;> simp [fLen]
  have e3 : seqOf v = some xs := by rcases hv with rfl | rfl <;> rfl
  by_cases h3 : xs.length = 3
  · obtain ⟨x, y, z, rfl⟩ := len3 h3
    have i1 := fun ρ h => lint_any (hn x (by simp)) (ρ := ρ) (i := 1) h π
    have i2 := fun ρ h => lint_any (hn y (by simp)) (ρ := ρ) (i := 1) h π
    have i3 := fun ρ h => lint_any (hn z (by simp)) (ρ := ρ) (i := 1) h π
    have j1 : f_l_is_point_e1 [some v, some x] π = .ok (.bl (isZ x), π) := i1 _ rfl
    have j2 : f_l_is_point_e1 [some v, some y] π = .ok (.bl (isZ y), π) := i2 _ rfl
    have j3 : f_l_is_point_e1 [some v, some z] π = .ok (.bl (isZ z), π) := i3 _ rfl
    have al := all3b (isZ x) (isZ y) (isZ z)
    have q : opNe (.int 3) (.int 3) = some (.bl false) := rfl
    by_cases hz : (isZ x && (isZ y && isZ z)) = true
    · rw [hz] at al
      obtain ⟨a, b, c, rfl, rfl, rfl⟩ := ints3 hz
      have n1 := ne_zero a
      have n2 := ne_zero b
      have n3 := ne_zero c
      have an := any3b (a != 0) (b != 0) (c != 0)
      have hp : ptB [.int a, .int b, .int c] = (a != 0 || (b != 0 || (c != 0 || false))) := rfl
      rw [hp]
      generalize (a != 0) = ba at *
      generalize (b != 0) = bb at *
      generalize (c != 0) = bc at *
      simp only [isZ] at j1 j2 j3
      unfold m_l_is_point f_l_is_point
      simp -implicitDefEqProofs [e1, e2, e3, q, lcGo, j1, j2, j3, f_l_is_point_e2_ap, safe_ok', all3, n1, n2, n3, an]
    · have hz' : (isZ x && (isZ y && isZ z)) = false := by simpa using hz
      rw [hz'] at al
      rw [ptB_no hz']
      generalize isZ x = bx at *
      generalize isZ y = by' at *
      generalize isZ z = bz at *
      unfold m_l_is_point f_l_is_point
      simp -implicitDefEqProofs [e1, e2, e3, q, lcGo, j1, j2, j3, safe_ok', al]
  · rw [ptB_len h3]
    have q : opNe (.int (xs.length : Int)) (.int 3) = some (.bl true) := by simp [opNe, eqD]; omega
    unfold m_l_is_point f_l_is_point
    simp -implicitDefEqProofs [e1, e2, q]
def rowZ : D → Option Pt
  | .lst [.int a, .int b, .int c] => some (a, b, c)
  | .tup [.int a, .int b, .int c] => some (a, b, c)
  | _ => none
theorem rowZ_giv {d : D} {p : Pt} (h : rowZ d = some p) : Giv d p := by
  unfold rowZ at h
  split at h
  · cases h; exact .inr rfl
  · cases h; exact .inl rfl
  · cases h
theorem rowZ_no {v : D} {x y z : D} (hv : v = .lst [x, y, z] ∨ v = .tup [x, y, z]) (h : rowZ v = none) : (isZ x && (isZ y && isZ z)) = false := by
  apply Bool.eq_false_iff.mpr
  intro hz
  obtain ⟨a, b, c, rfl, rfl, rfl⟩ := ints3 hz
  rcases hv with rfl | rfl <;> cases h
def okRow (d : D) : Prop := noInsX d = true ∧ ∀ xs, seqOf d = some xs → xs.length ≤ 8 ∧ ∀ x ∈ xs, noInsX x = true
theorem seq_cases {v : D} {xs : List D} (h : seqOf v = some xs) : v = .lst xs ∨ v = .tup xs := by
  cases v <;> first | (cases h; done) | (cases h; exact .inl rfl) | (cases h; exact .inr rfl)
theorem row_bad {d : D} (hd : okRow d) (h : rowZ d = none) (A o2 : Option D) (π : Pot) : f_p_are_table_b1 [A, some d, o2] π = .ok (.rt (.bl false), π) := by
  obtain ⟨n0, n1⟩ := hd
  cases hs : seqOf d with
  | none =>
    have e1 := is_list_nl n0 hs π
    simp -implicitDefEqProofs [f_p_are_table_b1_ap, e1]
  | some xs =>
    obtain ⟨hl, hn⟩ := n1 xs hs
    have hv := seq_cases hs
    have e1 := is_list_lt hv π
    have e2 : fLen [d] = some (.int (xs.length : Int)) := by rcases hv with rfl | rfl <;> simp [fLen]
    by_cases h3 : xs.length = 3
    · obtain ⟨x, y, z, rfl⟩ := len3 h3
      have hz := rowZ_no hv h
      have i1 := isint_any (hn x (by simp)) π
      have i2 := isint_any (hn y (by simp)) π
      have i3 := isint_any (hn z (by simp)) π
      have al := all3b (isZ x) (isZ y) (isZ z)
      rw [hz] at al
      have q : opNe (.int 3) (.int 3) = some (.bl false) := rfl
      generalize isZ x = bx at *
      generalize isZ y = by' at *
      generalize isZ z = bz at *
      simp -implicitDefEqProofs [f_p_are_table_b1_ap, e1, e2, hs, q, lcGo, f_p_are_table_e1_ap, i1, i2, i3, safe_ok', al]
    · have q : opNe (.int (xs.length : Int)) (.int 3) = some (.bl true) := by simp [opNe, eqD]; omega
      simp -implicitDefEqProofs [f_p_are_table_b1_ap, e1, e2, q]
theorem fisa_no {d : D} (h : noInsX d = true) (h2 : seqOf d = none) : fIsA ["Spots"] ["list", "tuple"] d = some (.bl false) := by
  cases d with
  | ins _ _ _ => cases h
  | lst _ => cases h2
  | tup _ => cases h2
  | _ => rfl
theorem lrow_bad {d : D} (hd : okRow d) (h : rowZ d = none) (A o2 : Option D) (π : Pot) : f_l_is_table_b1 [A, some d, o2] π = .ok (.rt (.bl false), π) := by
  obtain ⟨n0, n1⟩ := hd
  cases hs : seqOf d with
  | none =>
    have e1 := fisa_no n0 hs
    simp -implicitDefEqProofs [f_l_is_table_b1_ap, e1]
  | some xs =>
    obtain ⟨hl, hn⟩ := n1 xs hs
    have hv := seq_cases hs
    have e1 : fIsA ["Spots"] ["list", "tuple"] d = some (.bl true) := by rcases hv with rfl | rfl <;> rfl
    have e2 : fLen [d] = some (.int (xs.length : Int)) := by rcases hv with rfl | rfl <;> simp [fLen]
    by_cases h3 : xs.length = 3
    · obtain ⟨x, y, z, rfl⟩ := len3 h3
      have hz := rowZ_no hv h
      have j1 : f_l_is_table_e1 [A, some d, some x] π = .ok (.bl (isZ x), π) := lint_any (hn x (by simp)) (i := 2) rfl π
      have j2 : f_l_is_table_e1 [A, some d, some y] π = .ok (.bl (isZ y), π) := lint_any (hn y (by simp)) (i := 2) rfl π
      have j3 : f_l_is_table_e1 [A, some d, some z] π = .ok (.bl (isZ z), π) := lint_any (hn z (by simp)) (i := 2) rfl π
      have al := all3b (isZ x) (isZ y) (isZ z)
      rw [hz] at al
      have q : opNe (.int 3) (.int 3) = some (.bl false) := rfl
      generalize isZ x = bx at *
      generalize isZ y = by' at *
      generalize isZ z = bz at *
      simp -implicitDefEqProofs [f_l_is_table_b1_ap, e1, e2, hs, q, lcGo, j1, j2, j3, safe_ok', al]
    · have q : opNe (.int (xs.length : Int)) (.int 3) = some (.bl true) := by simp [opNe, eqD]; omega
      simp -implicitDefEqProofs [f_l_is_table_b1_ap, e1, e2, q]
theorem lrow_ok {d : D} {p : Pt} (h : Giv d p) (A o2 : Option D) (π : Pot) : f_l_is_table_b1 [A, some d, o2] π = .ok (.nx [A, some d, o2], π) := by
  have e1 : fIsA ["Spots"] ["list", "tuple"] d = some (.bl true) := by rcases h with rfl | rfl <;> rfl
  have e2 := h.len
  have e3 := h.seq
  have q : opNe (.int 3) (.int 3) = some (.bl false) := rfl
  have i1 : ∀ a : Int, fIsA ["Spots"] ["int"] (.int a) = some (.bl true) := fun _ => rfl
  have i2 : ∀ a : Int, fIsA ["Spots"] ["bool"] (.int a) = some (.bl false) := fun _ => rfl
  simp -implicitDefEqProofs [f_l_is_table_b1_ap, e1, e2, e3, q, lcGo, f_l_is_table_e1_ap, i1, i2, eAnd, safe_ok', all3]
def tbB : List D → Bool
  | [x, y, z] => match rowZ x, rowZ y, rowZ z with
    | some p, some q, some r => decide (det (p, q, r) ≠ 0)
    | _, _, _ => false
  | _ => false
theorem tbB_len {xs : List D} (h : xs.length ≠ 3) : tbB xs = false := by
  unfold tbB
  split
  · simp at h
  · rfl
/-- rows of a table with determinant 0 don't lie apart -/
theorem det_zero {t : Tb} (h : det t = 0) : rk ([lp t.1, lp t.2.1, lp t.2.2].map vz) ≠ 3 := by
  intro hk
  have hI : Ind ([lp t.1, lp t.2.1, lp t.2.2].map vz) := ind_of_rk (by rw [hk]; rfl)
  obtain ⟨⟨a, b, c⟩, ⟨d, e, f⟩, ⟨g, k, i⟩⟩ := t
  simp only [det, lf, crs] at h
  simp only [List.map_cons, List.map_nil] at hI
  obtain ⟨i1, i2, i3, -⟩ := hI
  have m1 : Sp [vz (lp (d, e, f)), vz (lp (g, k, i))] (vz (lp (d, e, f))) := Sp.mem (by simp)
  have m2 : Sp [vz (lp (d, e, f)), vz (lp (g, k, i))] (vz (lp (g, k, i))) := Sp.mem (by simp)
  have m3 : Sp [vz (lp (g, k, i))] (vz (lp (g, k, i))) := Sp.mem (by simp)
  by_cases c3 : d * k - e * g = 0
  · by_cases c2 : f * g - d * i = 0
    · by_cases c1 : e * i - f * k = 0
      · by_cases g0 : g = 0
        · by_cases k0 : k = 0
          · by_cases i0 : i = 0
            · refine i3 (Sp.zero.congr fun j => ?_)
              subst g0; subst k0; subst i0
              rcases j with _ | _ | _ | j <;> simp [vz, lp, zr]
            · refine i2 (Sp.dlin m3 m3 f 0 i i0 fun j => ?_)
              rcases j with _ | _ | _ | j <;> simp [vz, lp] <;> grind
          · refine i2 (Sp.dlin m3 m3 e 0 k k0 fun j => ?_)
            rcases j with _ | _ | _ | j <;> simp [vz, lp] <;> grind
        · refine i2 (Sp.dlin m3 m3 d 0 g g0 fun j => ?_)
          rcases j with _ | _ | _ | j <;> simp [vz, lp] <;> grind
      · refine i1 (Sp.dlin m1 m2 (b * i - c * k) (c * e - b * f) _ c1 fun j => ?_)
        rcases j with _ | _ | _ | j <;> simp [vz, lp] <;> grind
    · refine i1 (Sp.dlin m1 m2 (c * g - a * i) (a * f - c * d) _ c2 fun j => ?_)
      rcases j with _ | _ | _ | j <;> simp [vz, lp] <;> grind
  · refine i1 (Sp.dlin m1 m2 (a * k - b * g) (d * b - e * a) _ c3 fun j => ?_)
    rcases j with _ | _ | _ | j <;> simp [vz, lp] <;> grind
theorem p_table_seq {v : D} {xs : List D} (hv : v = .lst xs ∨ v = .tup xs) (hn : ∀ x ∈ xs, okRow x) (hl : xs.length ≤ 8) (hb : ∀ x ∈ xs, ∀ p, rowZ x = some p → Bd (2 ^ 40) (lp p)) (π : Pot) : m_p_is_table [v] π = .ok (.bl (tbB xs), π) := by
  have e1 := is_list_lt hv π
  have e2 : fLen [v] = some (.int (xs.length : Int)) := by rcases hv with rfl | rfl <;> simp [fLen]
  have e3 : seqOf v = some xs := by rcases hv with rfl | rfl <;> rfl
  suffices h : m_p_are_table [v] π = .ok (.bl (tbB xs), π) by
    unfold m_p_is_table f_p_is_table
    simp -implicitDefEqProofs [h]
  by_cases h3 : xs.length = 3
  · obtain ⟨x, y, z, rfl⟩ := len3 h3
    have q : opNe (.int 3) (.int 3) = some (.bl false) := rfl
    cases hx : rowZ x with
    | none =>
      have b1 := row_bad (hn x (by simp)) hx (some v) none π
      have ht : tbB [x, y, z] = false := by simp [tbB, hx]
      rw [ht]
      unfold m_p_are_table f_p_are_table
      simp -implicitDefEqProofs [e1, e2, e3, q, forGo, b1]
    | some p =>
      have g1 := rowZ_giv hx
      have b1 := tb_row g1 (some v) none none π
      cases hy : rowZ y with
      | none =>
        have b2 := row_bad (hn y (by simp)) hy (some v) none π
        have ht : tbB [x, y, z] = false := by simp [tbB, hx, hy]
        rw [ht]
        unfold m_p_are_table f_p_are_table
        simp -implicitDefEqProofs [e1, e2, e3, q, forGo, b1, b2]
      | some p2 =>
        have g2 := rowZ_giv hy
        have b2 := tb_row g2 (some v) none none π
        cases hz : rowZ z with
        | none =>
          have b3 := row_bad (hn z (by simp)) hz (some v) none π
          have ht : tbB [x, y, z] = false := by simp [tbB, hx, hy, hz]
          rw [ht]
          unfold m_p_are_table f_p_are_table
          simp -implicitDefEqProofs [e1, e2, e3, q, forGo, b1, b2, b3]
        | some p3 =>
          have g3 := rowZ_giv hz
          have b3 := tb_row g3 (some v) none none π
          have c1 := hb x (by simp) p hx
          have c2 := hb y (by simp) p2 hy
          have c3 := hb z (by simp) p3 hz
          have ht : tbB [x, y, z] = decide (det (p, p2, p3) ≠ 0) := by simp [tbB, hx, hy, hz]
          rw [ht]
          obtain ⟨bx, ex⟩ := g1.enc
          obtain ⟨by', ey⟩ := g2.enc
          obtain ⟨bz, ez⟩ := g3.enc
          have er := rank_eqG (w := 3) (b := 40) (n := 3) (q := 3 * (5 + 40)) (d := v) (rs := [(bx, lp p), (by', lp p2), (bz, lp p3)]) (by decide) (by decide) (by decide) (by decide) (by decide) (by rw [e3, ex, ey, ez]; rfl) (by simp) (by
            intro r hr
            simp only [List.mem_cons, List.not_mem_nil, or_false] at hr
            rcases hr with rfl | rfl | rfl
            · exact ⟨rfl, c1⟩
            · exact ⟨rfl, c2⟩
            · exact ⟨rfl, c3⟩) π
          have hk : ([(bx, lp p), (by', lp p2), (bz, lp p3)].map (·.2)).map vz = [lp p, lp p2, lp p3].map vz := rfl
          rw [hk] at er
          have ek : opEq (.int (rk ([lp p, lp p2, lp p3].map vz) : Int)) (.int 3) = some (.bl (decide (det (p, p2, p3) ≠ 0))) := by
            have e : decide ((rk ([lp p, lp p2, lp p3].map vz) : Int) = 3) = decide (det (p, p2, p3) ≠ 0) := by
              rw [decide_eq_decide]
              constructor
              · intro h1 h0
                have := det_zero h0
                simp only at this
                omega
              · intro h1
                have := det_rank h1
                simp only at this
                omega
            show some (D.bl (decide ((rk ([lp p, lp p2, lp p3].map vz) : Int) = 3))) = _
            rw [e]
          generalize (rk ([lp p, lp p2, lp p3].map vz) : Int) = k at *
          generalize decide (det (p, p2, p3) ≠ 0) = db at *
          unfold m_p_are_table f_p_are_table
          simp -implicitDefEqProofs [e1, e2, e3, q, forGo, b1, b2, b3, er, ek]
  · rw [tbB_len h3]
    have q : opNe (.int (xs.length : Int)) (.int 3) = some (.bl true) := by simp [opNe, eqD]; omega
    unfold m_p_are_table f_p_are_table
    simp -implicitDefEqProofs [e1, e2, q]
theorem l_table_seq {v : D} {xs : List D} (hv : v = .lst xs ∨ v = .tup xs) (hn : ∀ x ∈ xs, okRow x) (hl : xs.length ≤ 8) (hb : ∀ x ∈ xs, ∀ p, rowZ x = some p → Bd (2 ^ 40) (lp p)) (π : Pot) : m_l_is_table [v] π = .ok (.bl (tbB xs), π) := by
  have e1 : fIsA ["Spots"] ["list", "tuple"] v = some (.bl true) := by rcases hv with rfl | rfl <;> rfl
  have e2 : fLen [v] = some (.int (xs.length : Int)) := by rcases hv with rfl | rfl <;> simp [fLen]
  have e3 : seqOf v = some xs := by rcases hv with rfl | rfl <;> rfl
  by_cases h3 : xs.length = 3
  · obtain ⟨x, y, z, rfl⟩ := len3 h3
    have q : opNe (.int 3) (.int 3) = some (.bl false) := rfl
    cases hx : rowZ x with
    | none =>
      have b1 := lrow_bad (hn x (by simp)) hx (some v) none π
      have ht : tbB [x, y, z] = false := by simp [tbB, hx]
      rw [ht]
      unfold m_l_is_table f_l_is_table
      simp -implicitDefEqProofs [e1, e2, e3, q, forGo, b1]
    | some p =>
      have g1 := rowZ_giv hx
      have b1 := lrow_ok g1 (some v) none π
      cases hy : rowZ y with
      | none =>
        have b2 := lrow_bad (hn y (by simp)) hy (some v) none π
        have ht : tbB [x, y, z] = false := by simp [tbB, hx, hy]
        rw [ht]
        unfold m_l_is_table f_l_is_table
        simp -implicitDefEqProofs [e1, e2, e3, q, forGo, b1, b2]
      | some p2 =>
        have g2 := rowZ_giv hy
        have b2 := lrow_ok g2 (some v) none π
        cases hz : rowZ z with
        | none =>
          have b3 := lrow_bad (hn z (by simp)) hz (some v) none π
          have ht : tbB [x, y, z] = false := by simp [tbB, hx, hy, hz]
          rw [ht]
          unfold m_l_is_table f_l_is_table
          simp -implicitDefEqProofs [e1, e2, e3, q, forGo, b1, b2, b3]
        | some p3 =>
          have g3 := rowZ_giv hz
          have b3 := lrow_ok g3 (some v) none π
          have c1 := hb x (by simp) p hx
          have c2 := hb y (by simp) p2 hy
          have c3 := hb z (by simp) p3 hz
          have ht : tbB [x, y, z] = decide (det (p, p2, p3) ≠ 0) := by simp [tbB, hx, hy, hz]
          rw [ht]
          have ew := whole_eq (t := (p, p2, p3)) g1 g2 g3 (b := 40) (fun w hw => by
            simp only [l9, List.mem_append] at hw
            rcases hw with hw | hw | hw
            · exact c1 w hw
            · exact c2 w hw
            · exact c3 w hw) (by decide) π
          have i0 : opIx v (.int 0) = some x := by rcases hv with rfl | rfl <;> rfl
          have i1 : opIx v (.int 1) = some y := by rcases hv with rfl | rfl <;> rfl
          have i2 : opIx v (.int 2) = some z := by rcases hv with rfl | rfl <;> rfl
          have ek : opNe (.int (det (p, p2, p3))) (.int 0) = some (.bl (decide (det (p, p2, p3) ≠ 0))) := by
            rw [ne_zero]
            congr 2
            by_cases h : det (p, p2, p3) = 0 <;> simp [h]
          generalize decide (det (p, p2, p3) ≠ 0) = db at *
          generalize det (p, p2, p3) = k at *
          unfold m_l_is_table f_l_is_table
          simp -implicitDefEqProofs [e1, e2, e3, q, forGo, b1, b2, b3, i0, i1, i2, ew, ek]
  · rw [tbB_len h3]
    have q : opNe (.int (xs.length : Int)) (.int 3) = some (.bl true) := by simp [opNe, eqD]; omega
    unfold m_l_is_table f_l_is_table
    simp -implicitDefEqProofs [e1, e2, q]
end LW
set_option maxHeartbeats 4000000
namespace LW
open PySem PySem.Spec PyProof.Rows L2 DL RK
theorem _root_.DL.Vx.seq {n : Nat} {v : D} (h : Vx (n + 1) v) {xs : List D} (hs : seqOf v = some xs) : xs.length ≤ 8 ∧ ∀ x ∈ xs, Vx n x := by
  cases h with
  | lst h r => cases hs; exact ⟨h, r⟩
  | tup h r => cases hs; exact ⟨h, r⟩
  | _ => cases hs
def Ok23 (v : D) : Prop := ∃ a b z, (∀ π, m_p_is_point [v] π = .ok (.bl a, π)) ∧ (∀ π, m_l_is_point [v] π = .ok (.bl a, π)) ∧ (∀ π, m_p_is_table [v] π = .ok (.bl b, π)) ∧ (∀ π, m_l_is_table [v] π = .ok (.bl b, π)) ∧ ∀ π, rprA [("Spots", m_c_Spots___repr__)] v π = .ok (.str z, π)
theorem pmS : PMs [("Spots", m_c_Spots___repr__)] := .cons pu_m_c_Spots___repr__ .nil
theorem vx_int {n : Nat} {i : Int} (h : Vx n (.int i)) : i.natAbs ≤ 2 ^ 40 := by
  cases h with
  | int i h => exact h
theorem ok_vx {v : D} (h : Vx 3 v) : Ok23 v := by
  obtain ⟨z, ez⟩ := h.rpr (by decide) pmS
  cases hs : seqOf v with
  | none =>
    refine ⟨false, false, z, fun π => ?_, fun π => ?_, fun π => ?_, fun π => ?_, ez⟩
    · have e1 := is_list_nl h.noInsX hs π
      unfold m_p_is_point f_p_is_point m_p_are_point f_p_are_point
      simp -implicitDefEqProofs [e1]
    · have e1 := fisa_no h.noInsX hs
      unfold m_l_is_point f_l_is_point
      simp -implicitDefEqProofs [e1]
    · have e1 := is_list_nl h.noInsX hs π
      unfold m_p_is_table f_p_is_table m_p_are_table f_p_are_table
      simp -implicitDefEqProofs [e1]
    · have e1 := fisa_no h.noInsX hs
      unfold m_l_is_table f_l_is_table
      simp -implicitDefEqProofs [e1]
  | some xs =>
    obtain ⟨hl, hx⟩ := h.seq hs
    have hv := seq_cases hs
    have n1 : ∀ x ∈ xs, noInsX x = true := fun x hm => (hx x hm).noInsX
    have n2 : ∀ x ∈ xs, okRow x := fun x hm => ⟨n1 x hm, fun ys hy => by
      obtain ⟨l1, l2⟩ := (hx x hm).seq hy
      exact ⟨l1, fun y hy => (l2 y hy).noInsX⟩⟩
    have n3 : ∀ x ∈ xs, ∀ p, rowZ x = some p → Bd (2 ^ 40) (lp p) := fun x hm p hp => by
      have g := rowZ_giv hp
      obtain ⟨l1, l2⟩ := (hx x hm).seq g.seq
      have a1 := vx_int (l2 (.int p.1) (by simp))
      have a2 := vx_int (l2 (.int p.2.1) (by simp))
      have a3 := vx_int (l2 (.int p.2.2) (by simp))
      exact bd3.mpr ⟨a1, a2, a3⟩
    exact ⟨ptB xs, tbB xs, z, fun π => p_point_seq hv n1 hl π, fun π => l_point_seq hv n1 hl π, fun π => p_table_seq hv n2 hl n3 π, fun π => l_table_seq hv n2 hl n3 π, ez⟩
theorem vx3 {n : Nat} {x y z : D} (h1 : Vx n x) (h2 : Vx n y) (h3 : Vx n z) : Vx (n + 1) (.lst [x, y, z]) := .lst (by simp) fun a ha => by
  simp only [List.mem_cons, List.not_mem_nil, or_false] at ha
  rcases ha with rfl | rfl | rfl <;> assumption
theorem vxl {n : Nat} {xs : List D} (h : xs.length ≤ 8) (r : ∀ x ∈ xs, Vx n x) : Vx (n + 1) (.lst xs) := .lst h r
def Sq (x : D) : Prop := (∃ i, x = .int i) ∨ ∃ xs, x = .lst xs ∨ x = .tup xs
theorem bent_e1_ex {n : Nat} (hn : 1 ≤ n) {x : D} (hx : Vx n x) (hs : Sq x) (A B C E G : Option D) (π : Pot) : ∃ y, f_l_bent_e1 [A, B, C, E, G, some x] π = .ok (y, π) ∧ Vx n y := by
  rcases hs with ⟨i, rfl⟩ | ⟨xs, rfl | rfl⟩
  · refine ⟨.int 0, ?_, .int 0 (by decide)⟩
    have : fIsA ["Spots"] ["int"] (.int i) = some (.bl true) := rfl
    simp -implicitDefEqProofs [f_l_bent_e1_ap, this]
  · refine ⟨.lst xs, ?_, hx⟩
    have h1 : fIsA ["Spots"] ["int"] (.lst xs) = some (.bl false) := rfl
    have h2 : fList [.lst xs] = some (.lst xs) := rfl
    simp -implicitDefEqProofs [f_l_bent_e1_ap, h1, h2]
  · refine ⟨.lst xs, ?_, ?_⟩
    · have h1 : fIsA ["Spots"] ["int"] (.tup xs) = some (.bl false) := rfl
      have h2 : fList [.tup xs] = some (.lst xs) := rfl
      simp -implicitDefEqProofs [f_l_bent_e1_ap, h1, h2]
    · cases hx with
      | tup h r => exact .lst h r
theorem opAdd_l {xs ys : List D} (h : xs.length + ys.length ≤ 100) : opAdd (.lst xs) (.lst ys) = some (.lst (xs ++ ys)) := opAdd_lst (by omega)
theorem bent_ex {n : Nat} (hn : 1 ≤ n) {x y z : D} (h : ∀ a ∈ [x, y, z], Vx n a ∧ Sq a) (π : Pot) : ∃ v π', m_l_bent [.non, .lst [x, y, z]] π = .ok (v, π') ∧ Vx (n + 1) v := by
  obtain ⟨hx, sx⟩ := h x (by simp)
  obtain ⟨hy, sy⟩ := h y (by simp)
  obtain ⟨hz, sz⟩ := h z (by simp)
  obtain ⟨i, π1, d1, i0, i3⟩ := draw_ex (n := 3) (a := .non) π (by decide) (by decide)
  obtain ⟨w, π2, d2, w0, w6⟩ := draw_ex (n := 6) (a := .non) π1 (by decide) (by decide)
  have fl : fList [.lst [x, y, z]] = some (.lst [x, y, z]) := rfl
  obtain ⟨A, B, cA, cB, hA, hB, lA, lB⟩ : ∃ A B, fCut (.lst [x, y, z]) none (some i) = some (.lst A) ∧ fCut (.lst [x, y, z]) (some (i + 1)) none = some (.lst B) ∧ (∀ a ∈ A, Vx n a) ∧ (∀ a ∈ B, Vx n a) ∧ A.length ≤ 3 ∧ B.length ≤ 3 := by
    rw [fCut_to (by omega), fCut_from (by omega)]
    refine ⟨_, _, rfl, rfl, fun a ha => (h a (List.mem_of_mem_take ha)).1, fun a ha => (h a (List.mem_of_mem_drop ha)).1, ?_, ?_⟩
    · rw [List.length_take]; simp; omega
    · rw [List.length_drop]; simp
  have n0 : opEq (.int w) (.int 0) = some (.bl (decide (w = 0))) := rfl
  have n1 : opEq (.int w) (.int 1) = some (.bl (decide (w = 1))) := rfl
  have n2 : opEq (.int w) (.int 2) = some (.bl (decide (w = 2))) := rfl
  have n3 : opEq (.int w) (.int 3) = some (.bl (decide (w = 3))) := rfl
  have n4 : opEq (.int w) (.int 4) = some (.bl (decide (w = 4))) := rfl
  have all : ∀ a ∈ [x, y, z], Vx n a := fun a ha => (h a ha).1
  rcases (show w = 0 ∨ w = 1 ∨ w = 2 ∨ w = 3 ∨ w = 4 ∨ w = 5 by omega) with rfl | rfl | rfl | rfl | rfl | rfl
  · have ad := opAdd_l (xs := A) (ys := B) (by omega)
    refine ⟨.lst (A ++ B), π2, ?_, vxl (by rw [List.length_append]; omega) fun a ha => ?_⟩
    · unfold m_l_bent f_l_bent
      simp -implicitDefEqProofs [fl, d1, d2, eSl, cA, cB, ad]
    · rcases List.mem_append.mp ha with ha | ha
      · exact hA a ha
      · exact hB a ha
  · have c1 : fCut (.lst [x, y, z]) none (some 1) = some (.lst [x]) := by rw [fCut_to (by decide)]; rfl
    have ad := opAdd_l (xs := [x, y, z]) (ys := [x]) (by simp)
    refine ⟨.lst [x, y, z, x], π2, ?_, vxl (by simp) fun a ha => ?_⟩
    · have e : [x, y, z] ++ [x] = [x, y, z, x] := rfl
      rw [e] at ad
      unfold m_l_bent f_l_bent
      simp -implicitDefEqProofs [fl, d1, d2, eSl, c1, ad]
    · simp only [List.mem_cons, List.not_mem_nil, or_false] at ha
      rcases ha with rfl | rfl | rfl | rfl <;> assumption
  · obtain ⟨o, π3, pk, ho⟩ := pick_ex (a := .non) (xs := [.non, .bl true, .bl false, .str "1", .lst [.int 1], .tup [.int 1, .int 0, .int 0], .dic [] []]) π2 (by simp) (by simp)
    have hov : Vx n o := by
      have : Vx 1 o := by
        simp only [List.mem_cons, List.not_mem_nil, or_false] at ho
        rcases ho with rfl | rfl | rfl | rfl | rfl | rfl | rfl
        · exact .non
        · exact .bl true
        · exact .bl false
        · exact .str "1" (by decide +kernel)
        · exact .lst (by decide) fun a ha => by simp at ha; rw [ha]; exact .int 1 (by decide)
        · exact .tup (by decide) fun a ha => by simp at ha; rcases ha with rfl | rfl <;> exact .int _ (by decide)
        · exact .emp
      exact this.le hn
    have ad1 := opAdd_l (xs := A) (ys := [o]) (by simp; omega)
    have ad2 := opAdd_l (xs := A ++ [o]) (ys := B) (by simp; omega)
    refine ⟨.lst ((A ++ [o]) ++ B), π3, ?_, vxl (by simp; omega) fun a ha => ?_⟩
    · have tt : eTup (aCons (eC (.int 1)) (aCons (eC (.int 0)) (aCons (eC (.int 0)) aNil))) = eTup (aCons (eC (.int 1)) (aCons (eC (.int 0)) (aCons (eC (.int 0)) aNil))) := rfl
      generalize hAo : A ++ [o] = Ao at *
      unfold m_l_bent f_l_bent
      simp -implicitDefEqProofs [fl, d1, d2, eSl, cA, cB, pk, ad1, ad2]
    · rcases List.mem_append.mp ha with ha | ha
      · rcases List.mem_append.mp ha with ha | ha
        · exact hA a ha
        · simp at ha; rw [ha]; exact hov
      · exact hB a ha
  · obtain ⟨x', ex, vx⟩ := bent_e1_ex hn hx sx (some .non) (some (.lst [x, y, z])) (some (.lst [x, y, z])) (some (.int i)) (some (.int 3)) π2
    obtain ⟨y', ey, vy⟩ := bent_e1_ex hn hy sy (some .non) (some (.lst [x, y, z])) (some (.lst [x, y, z])) (some (.int i)) (some (.int 3)) π2
    obtain ⟨z', ez, vz⟩ := bent_e1_ex hn hz sz (some .non) (some (.lst [x, y, z])) (some (.lst [x, y, z])) (some (.int i)) (some (.int 3)) π2
    refine ⟨.lst [x', y', z'], π2, ?_, vx3 vx vy vz⟩
    unfold m_l_bent f_l_bent
    simp -implicitDefEqProofs [fl, d1, d2, f_l_bent_r1_ap, lcGo, ex, ey, ez, safe_ok']
  · have ft : fTuple [.lst [x, y, z]] = some (.tup [x, y, z]) := rfl
    refine ⟨.tup [x, y, z], π2, ?_, .tup (by simp) all⟩
    unfold m_l_bent f_l_bent
    simp -implicitDefEqProofs [fl, d1, d2, f_l_bent_r1_ap, ft]
  · have fr : fRev (.lst [x, y, z]) = some (.lst [z, y, x]) := rfl
    refine ⟨.lst [z, y, x], π2, ?_, vx3 hz hy hx⟩
    unfold m_l_bent f_l_bent
    simp -implicitDefEqProofs [fl, d1, d2, f_l_bent_r1_ap, fr]
theorem giv_vx {d : D} {p : Pt} (h : Giv d p) (hp : Bd (2 ^ 20) (lp p)) : Vx 1 d ∧ Sq d := by
  obtain ⟨h1, h2, h3⟩ := bd3.mp hp
  have r : ∀ a ∈ [D.int p.1, .int p.2.1, .int p.2.2], Vx 0 a := fun a ha => by
    simp only [List.mem_cons, List.not_mem_nil, or_false] at ha
    rcases ha with rfl | rfl | rfl
    · exact .int _ (by omega)
    · exact .int _ (by omega)
    · exact .int _ (by omega)
  rcases h with rfl | rfl
  · exact ⟨.tup (by simp [lp]) r, .inr ⟨_, .inr rfl⟩⟩
  · exact ⟨.lst (by simp [lp]) r, .inr ⟨_, .inl rfl⟩⟩
theorem rows_bent_ex {t : Tb} (hp : Bd (2 ^ 3) (l9 t)) (π : Pot) : ∃ v π', m_l_rows_bent [.non, tL t] π = .ok (v, π') ∧ Vx 3 v := by
  obtain ⟨q1, q2, q3⟩ := bd9 hp
  obtain ⟨a, π1, g1, ga⟩ := given_ex (a := .non) (p := t.1) π
  obtain ⟨b, π2, g2, gb⟩ := given_ex (a := .non) (p := t.2.1) π1
  obtain ⟨c, π3, g3, gc⟩ := given_ex (a := .non) (p := t.2.2) π2
  obtain ⟨i, π4, d1, i0, i3⟩ := draw_ex (n := 3) (a := .non) π3 (by decide) (by decide)
  obtain ⟨w, π5, d2, w0, w6⟩ := draw_ex (n := 6) (a := .non) π4 (by decide) (by decide)
  have va := giv_vx ga (q1.le (by decide))
  have vb := giv_vx gb (q2.le (by decide))
  have vc := giv_vx gc (q3.le (by decide))
  have ht : tL t = .lst [lD t.1, lD t.2.1, lD t.2.2] := rfl
  have lc : ∀ o3 o4 o6 o7, lcGo (gN 5) tTrue f_l_rows_bent_e1 [some .non, some (tL t), none, o3, o4, none, o6, o7] [lD t.1, lD t.2.1, lD t.2.2] π = .ok ([a, b, c], π3) := fun o3 o4 o6 o7 => by
    rw [ht]
    generalize lD t.1 = x1 at *
    generalize lD t.2.1 = x2 at *
    generalize lD t.2.2 = x3 at *
    simp -implicitDefEqProofs [lcGo, f_l_rows_bent_e1_ap, g1, g2, g3, safe_ok']
  have fin : ∀ (xs : List D) (π : Pot), xs.length ≤ 8 → (∀ x ∈ xs, Vx 2 x) → ∃ k π6 v, m_l_draw [.non, .int 2] π = .ok (.int k, π6) ∧ (if k = 0 then D.lst xs else .tup xs) = v ∧ Vx 3 v := fun xs π hl hx => by
    obtain ⟨k, π6, d3, k0, k2⟩ := draw_ex (n := 2) (a := .non) π (by decide) (by decide)
    refine ⟨k, π6, _, d3, rfl, ?_⟩
    split
    · exact .lst hl hx
    · exact .tup hl hx
  have ft : ∀ xs, fTuple [.lst xs] = some (.tup xs) := fun _ => rfl
  have eqk : ∀ k : Int, opEq (.int k) (.int 0) = some (.bl (decide (k = 0))) := fun _ => rfl
  have up2 : ∀ {d : D}, Vx 1 d → Vx 2 d := fun h => h.up
  have mem3 : ∀ {x y z : D}, Vx 2 x → Vx 2 y → Vx 2 z → ∀ d ∈ [x, y, z], Vx 2 d := fun {x y z} h1 h2 h3 d hd => by
    simp only [List.mem_cons, List.not_mem_nil, or_false] at hd
    rcases hd with rfl | rfl | rfl <;> assumption
  have set3 : ∀ (o : D), Vx 2 o → ∃ xs, DL.setD o (.int i) [a, b, c] = some xs ∧ xs.length ≤ 8 ∧ ∀ x ∈ xs, Vx 2 x := fun o ho => by
    rcases (show i = 0 ∨ i = 1 ∨ i = 2 by omega) with rfl | rfl | rfl
    · exact ⟨[o, b, c], rfl, by simp, mem3 ho (up2 vb.1) (up2 vc.1)⟩
    · exact ⟨[a, o, c], rfl, by simp, mem3 (up2 va.1) ho (up2 vc.1)⟩
    · exact ⟨[a, b, o], rfl, by simp, mem3 (up2 va.1) (up2 vb.1) ho⟩
  have fl3 : ∀ x : D, fList [x] = fList [x] := fun _ => rfl
  rcases (show w = 0 ∨ w = 1 ∨ w = 2 ∨ w = 3 ∨ w = 4 ∨ w = 5 by omega) with rfl | rfl | rfl | rfl | rfl | rfl
  · obtain ⟨p, ix, hp⟩ : ∃ p : Pt, opIx (tL t) (.int i) = some (lD p) ∧ Bd (2 ^ 3) (lp p) := by
      rcases (show i = 0 ∨ i = 1 ∨ i = 2 by omega) with rfl | rfl | rfl
      · exact ⟨t.1, rfl, q1⟩
      · exact ⟨t.2.1, rfl, q2⟩
      · exact ⟨t.2.2, rfl, q3⟩
    obtain ⟨h1, h2, h3⟩ := bd3.mp hp
    obtain ⟨o, π6, be, bv⟩ := bent_ex (n := 1) (by decide) (x := .int p.1) (y := .int p.2.1) (z := .int p.2.2) (fun a ha => by
      simp only [List.mem_cons, List.not_mem_nil, or_false] at ha
      rcases ha with rfl | rfl | rfl
      · exact ⟨.int _ (by omega), .inl ⟨_, rfl⟩⟩
      · exact ⟨.int _ (by omega), .inl ⟨_, rfl⟩⟩
      · exact ⟨.int _ (by omega), .inl ⟨_, rfl⟩⟩) π5
    have be' : m_l_bent [.non, lD p] π5 = .ok (o, π6) := be
    obtain ⟨xs, st, l8, hx⟩ := set3 o bv
    obtain ⟨k, π7, v, d3, hv, fv⟩ := fin xs π6 l8 hx
    refine ⟨v, π7, ?_, fv⟩
    rw [← hv]
    have lc' := fun o3 o4 o6 o7 => lc o3 o4 o6 o7
    have hs : seqOf (tL t) = some [lD t.1, lD t.2.1, lD t.2.2] := rfl
    generalize tL t = T at *
    generalize lD p = P at *
    generalize lD t.1 = x1 at *
    generalize lD t.2.1 = x2 at *
    generalize lD t.2.2 = x3 at *
    unfold m_l_rows_bent f_l_rows_bent
    by_cases hk : k = 0 <;> simp -implicitDefEqProofs [hs, lc', d1, d2, ix, be', st, d3, hk, eqk, ft]
  · obtain ⟨o, ix, ho⟩ : ∃ o, opIx (.lst [a, b, c]) (.int (i - 1)) = some o ∧ Vx 1 o := by
      rcases (show i = 0 ∨ i = 1 ∨ i = 2 by omega) with rfl | rfl | rfl
      · exact ⟨c, rfl, vc.1⟩
      · exact ⟨a, rfl, va.1⟩
      · exact ⟨b, rfl, vb.1⟩
    obtain ⟨xs, st, l8, hx⟩ := set3 o (up2 ho)
    obtain ⟨k, π7, v, d3, hv, fv⟩ := fin xs π5 l8 hx
    refine ⟨v, π7, ?_, fv⟩
    rw [← hv]
    have hs : seqOf (tL t) = some [lD t.1, lD t.2.1, lD t.2.2] := rfl
    generalize tL t = T at *
    generalize lD t.1 = x1 at *
    generalize lD t.2.1 = x2 at *
    generalize lD t.2.2 = x3 at *
    unfold m_l_rows_bent f_l_rows_bent
    by_cases hk : k = 0 <;> simp -implicitDefEqProofs [hs, lc, d1, d2, ix, st, d3, hk, eqk, ft]
  · obtain ⟨p, q, ix1, ix2, hp, hq⟩ : ∃ p q : Pt, opIx (tL t) (.int (i - 1)) = some (lD p) ∧ opIx (tL t) (.int (i - 2)) = some (lD q) ∧ Bd (2 ^ 3) (lp p) ∧ Bd (2 ^ 3) (lp q) := by
      rcases (show i = 0 ∨ i = 1 ∨ i = 2 by omega) with rfl | rfl | rfl
      · exact ⟨t.2.2, t.2.1, rfl, rfl, q3, q2⟩
      · exact ⟨t.1, t.2.2, rfl, rfl, q1, q3⟩
      · exact ⟨t.2.1, t.1, rfl, rfl, q2, q1⟩
    obtain ⟨h1, h2, h3⟩ := bd3.mp hp
    obtain ⟨h4, h5, h6⟩ := bd3.mp hq
    have vo : Vx 2 (.lst [.int (p.1 + q.1), .int (p.2.1 + q.2.1), .int (p.2.2 + q.2.2)]) := vx3 (n := 1) (.int _ (by omega)) (.int _ (by omega)) (.int _ (by omega))
    obtain ⟨xs, st, l8, hx⟩ := set3 _ vo
    obtain ⟨k, π7, v, d3, hv, fv⟩ := fin xs π5 l8 hx
    refine ⟨v, π7, ?_, fv⟩
    rw [← hv]
    have hs : seqOf (tL t) = some [lD t.1, lD t.2.1, lD t.2.2] := rfl
    have z1 : seqOf (lD p) = some [.int p.1, .int p.2.1, .int p.2.2] := rfl
    have z2 : seqOf (lD q) = some [.int q.1, .int q.2.1, .int q.2.2] := rfl
    generalize tL t = T at *
    generalize lD p = P at *
    generalize lD q = Q at *
    generalize lD t.1 = x1 at *
    generalize lD t.2.1 = x2 at *
    generalize lD t.2.2 = x3 at *
    unfold m_l_rows_bent f_l_rows_bent
    by_cases hk : k = 0 <;> simp -implicitDefEqProofs [hs, f_l_rows_bent_e1_ap, g1, g2, g3, d1, d2, ix1, ix2, z1, z2, zipD, lcGo, f_l_rows_bent_e2_ap, safe_ok', st, d3, hk, eqk, ft]
  · have vo : Vx 2 (.lst [.int 0, .int 0, .int 0]) := vx3 (n := 1) (.int _ (by decide)) (.int _ (by decide)) (.int _ (by decide))
    obtain ⟨xs, st, l8, hx⟩ := set3 _ vo
    obtain ⟨k, π7, v, d3, hv, fv⟩ := fin xs π5 l8 hx
    refine ⟨v, π7, ?_, fv⟩
    rw [← hv]
    have hs : seqOf (tL t) = some [lD t.1, lD t.2.1, lD t.2.2] := rfl
    generalize tL t = T at *
    generalize lD t.1 = x1 at *
    generalize lD t.2.1 = x2 at *
    generalize lD t.2.2 = x3 at *
    unfold m_l_rows_bent f_l_rows_bent
    by_cases hk : k = 0 <;> simp -implicitDefEqProofs [hs, lc, d1, d2, st, d3, hk, eqk, ft]
  · obtain ⟨o, π6, be, bv⟩ := bent_ex (n := 1) (by decide) (x := a) (y := b) (z := c) (fun d hd => by
      simp only [List.mem_cons, List.not_mem_nil, or_false] at hd
      rcases hd with rfl | rfl | rfl <;> assumption) π5
    refine ⟨o, π6, ?_, bv.up⟩
    have hs : seqOf (tL t) = some [lD t.1, lD t.2.1, lD t.2.2] := rfl
    generalize tL t = T at *
    generalize lD t.1 = x1 at *
    generalize lD t.2.1 = x2 at *
    generalize lD t.2.2 = x3 at *
    unfold m_l_rows_bent f_l_rows_bent
    simp -implicitDefEqProofs [hs, lc, d1, d2, be]
  · obtain ⟨k, π7, v, d3, hv, fv⟩ := fin [a, b, c] π5 (by simp) (mem3 (up2 va.1) (up2 vb.1) (up2 vc.1))
    refine ⟨v, π7, ?_, fv⟩
    rw [← hv]
    have hs : seqOf (tL t) = some [lD t.1, lD t.2.1, lD t.2.2] := rfl
    generalize tL t = T at *
    generalize lD t.1 = x1 at *
    generalize lD t.2.1 = x2 at *
    generalize lD t.2.2 = x3 at *
    unfold m_l_rows_bent f_l_rows_bent
    by_cases hk : k = 0 <;> simp -implicitDefEqProofs [hs, lc, d1, d2, d3, hk, eqk, ft]
end LW
set_option maxHeartbeats 4000000
namespace LW
open PySem PySem.Spec PyProof.Rows L2 DL RK
def vxB : Nat → D → Bool
  | _, .non => true
  | _, .bl _ => true
  | _, .int i => decide (i.natAbs ≤ 2 ^ 40)
  | _, .str x => decide ((reprText x).length ≤ 100)
  | _, .dic [] [] => true
  | n + 1, .lst xs => decide (xs.length ≤ 8) && xs.all (vxB n)
  | n + 1, .tup xs => decide (xs.length ≤ 8) && xs.all (vxB n)
  | _, _ => false
theorem vxB_ok : ∀ {n : Nat} {d : D}, vxB n d = true → Vx n d := by
  intro n
  induction n with
  | zero =>
    intro d h
    cases d with
    | non => exact .non
    | bl b => exact .bl b
    | int i => exact .int i (of_decide_eq_true h)
    | str x => exact .str x (of_decide_eq_true h)
    | dic ks xs =>
      cases ks <;> cases xs <;> first | exact .emp | cases h
    | _ => cases h
  | succ n ih =>
    intro d h
    cases d with
    | non => exact .non
    | bl b => exact .bl b
    | int i => exact .int i (of_decide_eq_true h)
    | str x => exact .str x (of_decide_eq_true h)
    | dic ks xs =>
      cases ks <;> cases xs <;> first | exact .emp | cases h
    | lst xs =>
      simp only [vxB, Bool.and_eq_true, decide_eq_true_eq, List.all_eq_true] at h
      exact .lst h.1 fun x hx => ih (h.2 x hx)
    | tup xs =>
      simp only [vxB, Bool.and_eq_true, decide_eq_true_eq, List.all_eq_true] at h
      exact .tup h.1 fun x hx => ih (h.2 x hx)
    | ins _ _ _ => cases h
abbrev sp1 : D := .ins "Spots" ["own_points"] [.tup [.tup [.int 1, .int 0, .int 0]]]
theorem ok_sp : Ok23 sp1 := ⟨false, false, _, fun π => rfl, fun π => rfl, fun π => rfl, fun π => rfl, fun π => rfl⟩
theorem sp1_eq (π : Pot) : m_i_Spots [.lst [.tup [.int 1, .int 0, .int 0]]] π = .ok (sp1, π) := by
  have h : isR (m_i_Spots [.lst [.tup [.int 1, .int 0, .int 0]]] (0, 0)) sp1 = true := by decide +kernel
  exact pu_m_i_Spots.r h π
def l3 (a b c : Int) : D := .lst [.int a, .int b, .int c]
def t3 (a b c : Int) : D := .tup [.int a, .int b, .int c]
def C0 : List D := [.non, .int 0, .int 7, .bl true, .str "", .str "abc", .lst [], .tup [], .dic [] [], .lst [.non, .non, .non], .lst [.lst [], .lst [], .lst []], t3 0 0 0, l3 0 0 (-1), t3 100000 0 (-4), .lst [t3 1 0 0]]
def C2 : List D := [.lst [l3 1 0 0, l3 0 1 0, l3 0 0 1], .tup [t3 0 0 1, t3 0 1 0, l3 1 0 0], .lst [l3 1 2 3, l3 4 5 6, l3 7 8 9], .lst [.lst [.bl true, .int 0, .int 0], l3 0 1 0, l3 0 0 1], .lst [l3 1 0 0, l3 0 1 0, .tup [.int 0, .int 0, .bl true]]]
theorem const_ok : ∀ v ∈ (C0 ++ [sp1]) ++ C2, Ok23 v := fun v hv => by
  have h0 : (C0.all (vxB 3)) = true := by decide +kernel
  have h2 : (C2.all (vxB 3)) = true := by decide +kernel
  rcases List.mem_append.mp hv with hv | hv
  · rcases List.mem_append.mp hv with hv | hv
    · exact ok_vx (vxB_ok (List.all_eq_true.mp h0 v hv))
    · simp at hv; rw [hv]; exact ok_sp
  · exact ok_vx (vxB_ok (List.all_eq_true.mp h2 v hv))
theorem tab_vx {t : Tb} (hp : Bd (2 ^ 3) (l9 t)) : Vx 2 (tL t) ∧ Vx 2 (.tup [lD t.1, lD t.2.1, lD t.2.2]) := by
  obtain ⟨q1, q2, q3⟩ := bd9 hp
  have r : ∀ a ∈ [lD t.1, lD t.2.1, lD t.2.2], Vx 1 a := fun a ha => by
    simp only [List.mem_cons, List.not_mem_nil, or_false] at ha
    rcases ha with rfl | rfl | rfl
    · exact (giv_vx (.inr rfl) (q1.le (by decide))).1
    · exact (giv_vx (.inr rfl) (q2.le (by decide))).1
    · exact (giv_vx (.inr rfl) (q3.le (by decide))).1
  exact ⟨.lst (by simp) r, .tup (by simp) r⟩
theorem turn_ex (L : List D) (hl : L.length ≤ 10000) (A o2 o3 o4 o5 o6 o7 o8 o9 : Option D) (π : Pot) : ∃ p4 p5 M π', M.length = 6 ∧ (∀ v ∈ M, Ok23 v) ∧ f_l_right_b1 [A, some (.lst L), o2, o3, o4, o5, o6, o7, o8, o9, none] π = .ok (.nx [A, some (.lst (L ++ M)), o2, o3, p4, p5, o6, o7, o8, o9, none], π') := by
  obtain ⟨p, π1, e1, _, bp⟩ := point_ex (a := .non) (m := 4) (by decide) (by decide) π
  obtain ⟨t, π2, e2, _, bt⟩ := table_ex (a := .non) (m := 3) (by decide) (by decide) π1
  have gp := giv_vx (d := lD p) (p := p) (.inr rfl) (bp.le (by decide))
  obtain ⟨h1, h2, h3⟩ := bd3.mp bp
  obtain ⟨o, π3, e3, vo⟩ := bent_ex (n := 1) (by decide) (x := .int p.1) (y := .int p.2.1) (z := .int p.2.2) (fun a ha => by
    simp only [List.mem_cons, List.not_mem_nil, or_false] at ha
    rcases ha with rfl | rfl | rfl
    · exact ⟨.int _ (by omega), .inl ⟨_, rfl⟩⟩
    · exact ⟨.int _ (by omega), .inl ⟨_, rfl⟩⟩
    · exact ⟨.int _ (by omega), .inl ⟨_, rfl⟩⟩) π2
  have e3' : m_l_bent [.non, lD p] π2 = .ok (o, π3) := e3
  obtain ⟨r, π4, e4, vr⟩ := rows_bent_ex bt π3
  obtain ⟨x, π5, e5, _, bx⟩ := point_ex (a := .non) (m := 2) (by decide) (by decide) π4
  obtain ⟨y, π6, e6, _, by'⟩ := point_ex (a := .non) (m := 2) (by decide) (by decide) π5
  obtain ⟨z, π7, e7, _, bz⟩ := point_ex (a := .non) (m := 2) (by decide) (by decide) π6
  obtain ⟨t1, t2⟩ := tab_vx bt
  have v6 : Vx 2 (.lst [lD x, lD y, lD z]) := vx3 (giv_vx (.inr rfl) (bx.le (by decide))).1 (giv_vx (.inr rfl) (by'.le (by decide))).1 (giv_vx (.inr rfl) (bz.le (by decide))).1
  refine ⟨some (lD p), some (tL t), [lD p, o, tL t, .tup [lD t.1, lD t.2.1, lD t.2.2], r, .lst [lD x, lD y, lD z]], π7, rfl, fun v hv => ?_, ?_⟩
  rotate_left
  · have rg : rng [.int 3] = some [.int 0, .int 1, .int 2] := rfl
    have ft : fTuple [tL t] = some (.tup [lD t.1, lD t.2.1, lD t.2.2]) := rfl
    have ex : ∀ M : List D, M.length = 6 → extD (.lst M) L = some (L ++ M) := fun M hM => by
      show (if L.length + M.length ≤ sizeLine then some (L ++ M) else none) = _
      rw [if_pos (by rw [sizeLine_eq]; omega)]
    generalize lD p = P at *
    generalize tL t = T at *
    generalize lD x = X at *
    generalize lD y = Y at *
    generalize lD z = Z at *
    generalize D.tup [lD t.1, lD t.2.1, lD t.2.2] = U at *
    have c4 : ((4 : Nat) : Int) = 4 := rfl
    have c3 : ((3 : Nat) : Int) = 3 := rfl
    have c2 : ((2 : Nat) : Int) = 2 := rfl
    rw [c4] at e1
    rw [c3] at e2
    rw [c2] at e5 e6 e7
    simp -implicitDefEqProofs [f_l_right_b1_ap, e1, e2, e3', ft, e4, rg, lcGo, f_l_right_e1_ap, e5, e6, e7, safe_ok', ex]
  · simp only [List.mem_cons, List.not_mem_nil, or_false] at hv
    rcases hv with rfl | rfl | rfl | rfl | rfl | rfl
    · exact ok_vx (gp.1.le (by decide))
    · exact ok_vx vo.up
    · exact ok_vx t1.up
    · exact ok_vx t2.up
    · exact ok_vx vr
    · exact ok_vx v6.up
theorem val_step {v : D} (h : Ok23 v) (A B C o4 o5 o6 o7 o8 o9 : Option D) (π : Pot) : ∃ p6 p7 p8 p9, f_l_right_b2 [A, B, C, some v, o4, o5, o6, o7, o8, o9, none] π = .ok (.nx [A, B, C, some v, o4, o5, p6, p7, p8, p9, none], π) := by
  obtain ⟨a, b, z, e1, e2, e3, e4, e5⟩ := h
  obtain ⟨w, ew⟩ := (show Vx 1 (.lst [.bl a, .bl a, .bl b, .bl b]) from .lst (by simp) fun x hx => by
    simp only [List.mem_cons, List.not_mem_nil, or_false] at hx
    rcases hx with rfl | rfl | rfl | rfl
    · exact .bl a
    · exact .bl a
    · exact .bl b
    · exact .bl b).rpr (by decide) pmS
  have n1 : ∀ s : Str, opNe (.str s) (.str s) = some (.bl false) := fun s => by simp [opNe, eqD]
  refine ⟨some (.str z), some (.lst [.bl a, .bl a, .bl b, .bl b]), some (.bl a), some (.bl b), ?_⟩
  simp -implicitDefEqProofs [f_l_right_b2_ap, eReprA, e5, e1, e2, e3, e4, ew, n1]
theorem vals_loop (A B C : Option D) (π : Pot) : ∀ (M : List D) (o3 o4 o5 o6 o7 o8 o9 : Option D), (∀ v ∈ M, Ok23 v) → ∃ p3 p6 p7 p8 p9, forGo (gN 3) f_l_right_b2 M [A, B, C, o3, o4, o5, o6, o7, o8, o9, none] π = .ok (.nx [A, B, C, p3, o4, o5, p6, p7, p8, p9, none], π)
  | [], o3, o4, o5, o6, o7, o8, o9, _ => ⟨o3, o6, o7, o8, o9, rfl⟩
  | v :: M, o3, o4, o5, o6, o7, o8, o9, h => by
    obtain ⟨p6, p7, p8, p9, e⟩ := val_step (h v (by simp)) A B C o4 o5 o6 o7 o8 o9 π
    obtain ⟨q3, q6, q7, q8, q9, ih⟩ := vals_loop A B C π M (some v) o4 o5 p6 p7 p8 p9 fun x hx => h x (by simp [hx])
    refine ⟨q3, q6, q7, q8, q9, ?_⟩
    have g : gN 3 v [A, B, C, o3, o4, o5, o6, o7, o8, o9, none] = some [A, B, C, some v, o4, o5, o6, o7, o8, o9, none] := rfl
    simp only [forGo, g, ofO_some, Res.bind_ok, e]
    exact ih
theorem turns (A o3 o6 o7 o8 o9 : Option D) : ∀ (ts : List D) (L : List D) (o2 o4 o5 : Option D) (π : Pot), L.length + 6 * ts.length ≤ 10000 → (∀ v ∈ L, Ok23 v) → ∃ L' p2 p4 p5 π', L'.length ≤ 10000 ∧ (∀ v ∈ L', Ok23 v) ∧ forGo (gN 2) f_l_right_b1 ts [A, some (.lst L), o2, o3, o4, o5, o6, o7, o8, o9, none] π = .ok (.nx [A, some (.lst L'), p2, o3, p4, p5, o6, o7, o8, o9, none], π')
  | [], L, o2, o4, o5, π, hl, h => ⟨L, o2, o4, o5, π, by omega, h, rfl⟩
  | t :: ts, L, o2, o4, o5, π, hl, h => by
    rw [List.length_cons] at hl
    obtain ⟨p4, p5, M, π1, hM, hok, e⟩ := turn_ex L (by omega) A (some t) o3 o4 o5 o6 o7 o8 o9 π
    obtain ⟨L', q2, q4, q5, π2, l1, l2, ih⟩ := turns A o3 o6 o7 o8 o9 ts (L ++ M) (some t) p4 p5 π1 (by rw [List.length_append, hM]; omega) (fun v hv => by
      rcases List.mem_append.mp hv with hv | hv
      · exact h v hv
      · exact hok v hv)
    refine ⟨L', q2, q4, q5, π2, l1, l2, ?_⟩
    have g : gN 2 t [A, some (.lst L), o2, o3, o4, o5, o6, o7, o8, o9, none] = some [A, some (.lst L), some t, o3, o4, o5, o6, o7, o8, o9, none] := rfl
    simp only [forGo, g, ofO_some, Res.bind_ok, e]
    exact ih
theorem right_eq (π : Pot) : ∃ π', m_l_right [.non] π = .ok (.bl true, π') := by
  obtain ⟨L, p2, p4, p5, π1, l1, l2, e1⟩ := turns (some .non) none none none none none [.int 0, .int 1, .int 2, .int 3, .int 4, .int 5] ((C0 ++ [sp1]) ++ C2) none none none π (by decide) const_ok
  obtain ⟨q3, q6, q7, q8, q9, e2⟩ := vals_loop (some .non) (some (.lst L)) p2 π1 L none p4 p5 none none none none l2
  refine ⟨π1, ?_⟩
  have s1 := sp1_eq
  have rg : rng [.int 6] = some [.int 0, .int 1, .int 2, .int 3, .int 4, .int 5] := rfl
  have ex : extD (.lst C2) (C0 ++ [sp1]) = some ((C0 ++ [sp1]) ++ C2) := by
    show (if (C0 ++ [sp1]).length + C2.length ≤ sizeLine then some ((C0 ++ [sp1]) ++ C2) else none) = _
    rw [if_pos (by rw [sizeLine_eq]; decide)]
  have hC : C0 ++ [sp1] = [.non, .int 0, .int 7, .bl true, .str "", .str "abc", .lst [], .tup [], .dic [] [], .lst [.non, .non, .non], .lst [.lst [], .lst [], .lst []], .tup [.int 0, .int 0, .int 0], .lst [.int 0, .int 0, .int (-1)], .tup [.int 100000, .int 0, .int (-4)], .lst [.tup [.int 1, .int 0, .int 0]], sp1] := rfl
  have hC2 : C2 = [.lst [.lst [.int 1, .int 0, .int 0], .lst [.int 0, .int 1, .int 0], .lst [.int 0, .int 0, .int 1]], .tup [.tup [.int 0, .int 0, .int 1], .tup [.int 0, .int 1, .int 0], .lst [.int 1, .int 0, .int 0]], .lst [.lst [.int 1, .int 2, .int 3], .lst [.int 4, .int 5, .int 6], .lst [.int 7, .int 8, .int 9]], .lst [.lst [.bl true, .int 0, .int 0], .lst [.int 0, .int 1, .int 0], .lst [.int 0, .int 0, .int 1]], .lst [.lst [.int 1, .int 0, .int 0], .lst [.int 0, .int 1, .int 0], .tup [.int 0, .int 0, .bl true]]] := rfl
  have r1 : opRep (.lst [.non]) (.int 3) = some (.lst [.non, .non, .non]) := rfl
  have r2 : opRep (.lst [.lst []]) (.int 3) = some (.lst [.lst [], .lst [], .lst []]) := rfl
  have pw : opPow (.int 10) (.int 5) = some (.int 100000) := rfl
  have ll : L.length < 16777216 := by omega
  rw [hC] at ex
  rw [hC2] at ex
  rw [hC, hC2] at e1
  generalize hsp : sp1 = SP at *
  have hlen : ([.non, .int 0, .int 7, .bl true, .str "", .str "abc", .lst [], .tup [], .dic [] [], .lst [.non, .non, .non], .lst [.lst [], .lst [], .lst []], .tup [.int 0, .int 0, .int 0], .lst [.int 0, .int 0, .int (-1)], .tup [.int 100000, .int 0, .int (-4)], .lst [.tup [.int 1, .int 0, .int 0]], SP] : List D).length ≤ 16777216 := by
    simp only [List.length_cons, List.length_nil]; decide
  generalize hbig : ([.non, .int 0, .int 7, .bl true, .str "", .str "abc", .lst [], .tup [], .dic [] [], .lst [.non, .non, .non], .lst [.lst [], .lst [], .lst []], .tup [.int 0, .int 0, .int 0], .lst [.int 0, .int 0, .int (-1)], .tup [.int 100000, .int 0, .int (-4)], .lst [.tup [.int 1, .int 0, .int 0]], SP] : List D) = B1 at ex e1 hlen
  unfold m_l_right f_l_right
  simp -implicitDefEqProofs [s1, rg, r1, r2, pw, hbig, hlen, ex, ll, e1, e2]
theorem good : ∀ ns : List Int, ns.length ≤ 63 → ∃ π, m_law_ [.lst (DL.iz ns)] (0, 0) = .ok (.bl true, π) := good_of fun π => right_eq π
end LW
open PySem PySem.W PyProof.Rows
set_option maxRecDepth 100000 in
set_option maxHeartbeats 0 in
theorem PySem.Challenge.cw_pointrows_k23_any_value_as_point_or_tabl_holds : PySem.Challenge.rw_pointrows_k23_any_value_as_point_or_tabl.Holds := by
  refine LH.hd ?_
  k_fill
  refine DL.walk_D (l := PySem.Challenge.rw_pointrows_k23_any_value_as_point_or_tabl) (m := LW.m_law_) (k := 9) (x := "_law_script") rfl (by decide) rfl ⟨rfl, by decide, by decide⟩ (fun w h Y => PySem.W.kIn_of Y) LW.good ?F
  case F =>
    intro w mg fa h KX G hmg
    refine DL.law_end (T := LW.Top _ mg) hmg ?T (fun T => T.f_law_) (fun T _ => LW.d_law_ T) rfl (fun kV doc pm an cdv ct s u => .of_eq (LW.b_law_ kV doc pm an cdv ct [u] rfl))
    refine' LW.top_mk KX G ?oN ?oT ?aC_Spots ?pg_Spots ?hd_Spots ?po_Spots ?sa_Spots ?mk_Spots ?kc_Spots ?ha_Spots ?hm_Spots ?aC_Told ?pg_Told ?hd_Told ?po_Told ?sa_Told ?nf_Told_told_points ?nf_Spots_own_points ?ic_Told ?ty_Told ?kt_Told_NoneType ?kt_Told_bool ?kt_Told_int ?kt_Told_str ?kt_Told_list ?kt_Told_tuple ?kt_Told_dict ?ne_Told_Spots ?ks_Told_Spots ?st_Spots_NoneType ?st_Spots_bool ?st_Spots_int ?st_Spots_str ?st_Spots_list ?st_Spots_tuple ?st_Spots_dict ?hg_gcd ?a0 ?l0 ?c0 ?k0 ?a1 ?l1 ?c1 ?k1 ?a2 ?l2 ?c2 ?k2 ?a3 ?l3 ?c3 ?k3 ?a4 ?l4 ?c4 ?k4 ?a5 ?l5 ?c5 ?k5 ?a6 ?l6 ?c6 ?k6 ?a7 ?l7 ?c7 ?k7 ?a8 ?l8 ?c8 ?k8 ?a9 ?i9 ?l9 ?c9 ?k9 ?a10 ?i10 ?l10 ?c10 ?k10 ?a11 ?l11 ?c11 ?k11 ?a12 ?l12 ?c12 ?k12 ?a13 ?l13 ?c13 ?k13 ?a14 ?l14 ?c14 ?k14 ?a15 ?l15 ?c15 ?k15 ?a16 ?l16 ?c16 ?k16 ?a17 ?l17 ?c17 ?k17 ?a18 ?l18 ?c18 ?k18 ?a19 ?l19 ?c19 ?k19 ?a20 ?l20 ?c20 ?k20 ?a21 ?l21 ?c21 ?k21 ?a22 ?l22 ?c22 ?k22 ?a23 ?l23 ?c23 ?k23 ?a24 ?l24 ?c24 ?k24 ?a25 ?l25 ?c25 ?k25 ?a26 ?l26 ?c26 ?k26 ?a27 ?l27 ?c27 ?k27 ?a28 ?l28 ?c28 ?k28 ?a29 ?l29 ?c29 ?k29 ?a30 ?l30 ?c30 ?k30 ?a31 ?l31 ?c31 ?k31 ?a32 ?l32 ?c32 ?k32 ?hb_abs ?hb_all ?hb_any ?hb_bool ?hb_divmod ?hb_enumerate ?hb_int ?hb_isinstance ?hb_len ?hb_list ?hb_max ?hb_range ?hb_repr ?hb_sum ?hb_tuple ?hb_zip ?hc_MOST_POINTS
    (case oN => k_is)
    (case oT => k_is)
    (case aC_Spots => k_is)
    (case pg_Spots => k_is)
    (case hd_Spots => k_is)
    (case po_Spots => k_is)
    (case sa_Spots => k_is)
    (case mk_Spots => k_is)
    (case kc_Spots => k_is)
    (case ha_Spots => k_is)
    (case hm_Spots => k_is)
    (case aC_Told => k_is)
    (case pg_Told => k_is)
    (case hd_Told => k_is)
    (case po_Told => k_is)
    (case sa_Told => k_is)
    (case nf_Told_told_points => k_is)
    (case nf_Spots_own_points => k_is)
    (case ic_Told => k_is)
    (case ty_Told => k_is)
    (case kt_Told_NoneType => k_is)
    (case kt_Told_bool => k_is)
    (case kt_Told_int => k_is)
    (case kt_Told_str => k_is)
    (case kt_Told_list => k_is)
    (case kt_Told_tuple => k_is)
    (case kt_Told_dict => k_is)
    (case ne_Told_Spots => decide)
    (case ks_Told_Spots => k_is)
    (case st_Spots_NoneType => k_is)
    (case st_Spots_bool => k_is)
    (case st_Spots_int => k_is)
    (case st_Spots_str => k_is)
    (case st_Spots_list => k_is)
    (case st_Spots_tuple => k_is)
    (case st_Spots_dict => k_is)
    (case hg_gcd => k_is)
    (case a0 => k_is)
    (case l0 => k_is)
    (case c0 => k_is)
    (case k0 => k_is)
    (case a1 => k_is)
    (case l1 => k_is)
    (case c1 => k_is)
    (case k1 => k_is)
    (case a2 => k_is)
    (case l2 => k_is)
    (case c2 => k_is)
    (case k2 => k_is)
    (case a3 => k_is)
    (case l3 => k_is)
    (case c3 => k_is)
    (case k3 => k_is)
    (case a4 => k_is)
    (case l4 => k_is)
    (case c4 => k_is)
    (case k4 => k_is)
    (case a5 => k_is)
    (case l5 => k_is)
    (case c5 => k_is)
    (case k5 => k_is)
    (case a6 => k_is)
    (case l6 => k_is)
    (case c6 => k_is)
    (case k6 => k_is)
    (case a7 => k_is)
    (case l7 => k_is)
    (case c7 => k_is)
    (case k7 => k_is)
    (case a8 => k_is)
    (case l8 => k_is)
    (case c8 => k_is)
    (case k8 => k_is)
    (case a9 => k_is)
    (case i9 => k_is)
    (case l9 => k_is)
    (case c9 => k_is)
    (case k9 => k_is)
    (case a10 => k_is)
    (case i10 => k_is)
    (case l10 => k_is)
    (case c10 => k_is)
    (case k10 => k_is)
    (case a11 => k_is)
    (case l11 => k_is)
    (case c11 => k_is)
    (case k11 => k_is)
    (case a12 => k_is)
    (case l12 => k_is)
    (case c12 => k_is)
    (case k12 => k_is)
    (case a13 => k_is)
    (case l13 => k_is)
    (case c13 => k_is)
    (case k13 => k_is)
    (case a14 => k_is)
    (case l14 => k_is)
    (case c14 => k_is)
    (case k14 => k_is)
    (case a15 => k_is)
    (case l15 => k_is)
    (case c15 => k_is)
    (case k15 => k_is)
    (case a16 => k_is)
    (case l16 => k_is)
    (case c16 => k_is)
    (case k16 => k_is)
    (case a17 => k_is)
    (case l17 => k_is)
    (case c17 => k_is)
    (case k17 => k_is)
    (case a18 => k_is)
    (case l18 => k_is)
    (case c18 => k_is)
    (case k18 => k_is)
    (case a19 => k_is)
    (case l19 => k_is)
    (case c19 => k_is)
    (case k19 => k_is)
    (case a20 => k_is)
    (case l20 => k_is)
    (case c20 => k_is)
    (case k20 => k_is)
    (case a21 => k_is)
    (case l21 => k_is)
    (case c21 => k_is)
    (case k21 => k_is)
    (case a22 => k_is)
    (case l22 => k_is)
    (case c22 => k_is)
    (case k22 => k_is)
    (case a23 => k_is)
    (case l23 => k_is)
    (case c23 => k_is)
    (case k23 => k_is)
    (case a24 => k_is)
    (case l24 => k_is)
    (case c24 => k_is)
    (case k24 => k_is)
    (case a25 => k_is)
    (case l25 => k_is)
    (case c25 => k_is)
    (case k25 => k_is)
    (case a26 => k_is)
    (case l26 => k_is)
    (case c26 => k_is)
    (case k26 => k_is)
    (case a27 => k_is)
    (case l27 => k_is)
    (case c27 => k_is)
    (case k27 => k_is)
    (case a28 => k_is)
    (case l28 => k_is)
    (case c28 => k_is)
    (case k28 => k_is)
    (case a29 => k_is)
    (case l29 => k_is)
    (case c29 => k_is)
    (case k29 => k_is)
    (case a30 => k_is)
    (case l30 => k_is)
    (case c30 => k_is)
    (case k30 => k_is)
    (case a31 => k_is)
    (case l31 => k_is)
    (case c31 => k_is)
    (case k31 => k_is)
    (case a32 => k_is)
    (case l32 => k_is)
    (case c32 => k_is)
    (case k32 => k_is)
    (case hb_abs => k_is)
    (case hb_all => k_is)
    (case hb_any => k_is)
    (case hb_bool => k_is)
    (case hb_divmod => k_is)
    (case hb_enumerate => k_is)
    (case hb_int => k_is)
    (case hb_isinstance => k_is)
    (case hb_len => k_is)
    (case hb_list => k_is)
    (case hb_max => k_is)
    (case hb_range => k_is)
    (case hb_repr => k_is)
    (case hb_sum => k_is)
    (case hb_tuple => k_is)
    (case hb_zip => k_is)
    (case hc_MOST_POINTS => k_is)
