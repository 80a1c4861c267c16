import PyProof.Rows.All
import Wide.All
import OpenK.AllK
import Wide.FinOn
import KE.OsRunLaw
import PySem.Challenge.RW_pointrows_k19_any_value_as_triple_or_for
import HandS.ForMost
import HandS.WordsExc
import HandS.Walk
import HandS.Wide
import HandS.WideBits
import HandS.TupAny
import HandS.Deep
import HandS.Flow
import HandS.Style
import HandS.Steps
import HandS.Iter
import KE.GoesNew
import HandS.Defaults
import HandS.MakeKwOnly
import HandS.IsInst
import HandS.SortInts
import HandS.Gcd
import HandS.Conv
import HandS.Dict
import PyProof.ReprRoads
import PyProof.CallFns
import HandS.Ends
import HandS.EndBits
import KE.GoesMore
import KE.GoesEnum
import HandS.Property
import HandS.Strs
import PyProof.P3In
import HandS.Codes
import PyProof.MaxThree
import HandS.TryOnly
import HandS.OwnEq
import PyProof.InstNe
import HandS.TupSets
import PyProof.TupleOfSeq
import HandS.More
import HandS.TupMul
import PyProof.StrOps2
import HandS.ExcOwn
import PyProof.ExcBaseAll.RuntimeError
import PyProof.ExcBaseAll.ValueError
import HandS.Flt
import HandS.TupLen
import PyProof.DictTruth
import KE.KDictOf
import KE.KDictCopyH
import KE.KDictWalk
import HandS.DictComp
import PyProof.DictCompW
import HandS.SortKw
import KE.KDictSum
import PyProof.Rows.CallKwBuiltin
import KE.KDictDisplayH
import PyProof.DictDisplay
import KE.KOpsOwn
import KE.KDictPairs
import HandS.FStr
import OpenK.KOps
import PyProof.SumWalkG
import PyProof.WalkInts
import HandS.DeepEq
import PyProof.DictFindH
import KE.LtSeq
import KE.LtData
import KE.KSortAsk
import HandS.NamedTupSort
import HandS.ExcInit
import HandS.ExcField
import HandS.SetFor
import PyProof.Rows.SetFrom
import PyProof.NeKinds
import KE.DataMinMax
import PyProof.ReprReads
import PyProof.P3Eq
import PyProof.FitsInt
import PyProof.Rows.ReprOcc
import PyProof.ReprLen
set_option Elab.async false
set_option maxRecDepth 100000
set_option maxHeartbeats 0
namespace LH
open PySem PySem.W PySem.Calls PyProof.Rows
def vw : Program := view PySem.Challenge.pw_pointrows_k19_any_value_as_triple_or_for [43]
def lo0 : List PySem.Str := [⟨#[95, 119, 97, 108, 108]⟩, ⟨#[83, 112, 111, 116, 69, 114, 114, 111, 114]⟩, ⟨#[83, 116, 97, 116, 101, 69, 114, 114, 111, 114]⟩, ⟨#[76, 105, 109, 105, 116, 69, 114, 114, 111, 114]⟩, ⟨#[73, 110, 118, 97, 108, 105, 100, 68, 101, 103, 114, 101, 101]⟩, ⟨#[73, 110, 118, 97, 108, 105, 100, 70, 111, 114, 109]⟩, ⟨#[73, 110, 118, 97, 108, 105, 100, 78, 117, 109, 98, 101, 114]⟩, ⟨#[73, 110, 118, 97, 108, 105, 100, 84, 101, 114, 109, 115]⟩, ⟨#[85, 110, 108, 105, 107, 101, 68, 101, 103, 114, 101, 101, 115]⟩, ⟨#[84, 111, 111, 77, 97, 110, 121]⟩, ⟨#[105, 115, 95, 105, 110, 116, 101, 103, 101, 114]⟩, ⟨#[105, 115, 95, 99, 111, 117, 110, 116]⟩, ⟨#[105, 115, 95, 108, 105, 115, 116]⟩, ⟨#[119, 97, 110, 116, 95, 110, 117, 109, 98, 101, 114]⟩, ⟨#[119, 97, 110, 116, 95, 100, 101, 103, 114, 101, 101]⟩, ⟨#[119, 97, 110, 116, 95, 97, 116, 95, 109, 111, 115, 116]⟩, ⟨#[77, 79, 83, 84, 95, 68, 69, 71, 82, 69, 69]⟩, ⟨#[105, 115, 95, 116, 114, 105, 112, 108, 101]⟩, ⟨#[102, 97, 108, 108, 105, 110, 103]⟩, ⟨#[112, 108, 117, 115, 95, 116, 101, 114, 109, 115]⟩, ⟨#[116, 105, 109, 101, 115, 95, 116, 101, 114, 109, 115]⟩, ⟨#[84, 111, 108, 100]⟩, ⟨#[97, 114, 101, 95, 116, 101, 114, 109, 115]⟩, ⟨#[116, 111, 108, 100, 95, 102, 111, 114, 109]⟩, ⟨#[70, 111, 114, 109]⟩, ⟨#[102, 111, 114, 109, 95, 98, 121]⟩, ⟨#[119, 97, 110, 116, 95, 102, 111, 114, 109]⟩, ⟨#[119, 97, 110, 116, 95, 108, 105, 107, 101]⟩, ⟨#[108, 101, 116, 116, 101, 114, 95, 102, 111, 114, 109, 115]⟩, ⟨#[95, 108, 97, 119, 95, 112, 111, 116]⟩, ⟨#[95, 108, 97, 119, 95, 100, 114, 97, 119]⟩, ⟨#[95, 108, 97, 119, 95, 112, 105, 99, 107]⟩, ⟨#[95, 108, 97, 119, 95, 116, 114, 105, 112, 108, 101, 115]⟩, ⟨#[95, 108, 97, 119, 95, 99, 108, 101, 97, 110]⟩, ⟨#[95, 108, 97, 119, 95, 116, 101, 114, 109, 115]⟩, ⟨#[95, 108, 97, 119, 95, 105, 115, 95, 119, 104, 111, 108, 101]⟩, ⟨#[95, 108, 97, 119, 95, 105, 115, 95, 116, 104, 114, 101, 101]⟩, ⟨#[95, 108, 97, 119, 95, 118, 97, 108, 117, 101, 115]⟩, ⟨#[95, 108, 97, 119, 95, 114, 105, 103, 104, 116]⟩]
def lo : List PySem.Str := lo0

end LH
section
open PySem PySem.W
local macro_rules
  | `(tactic| refine $f:ident (q := $_) (loose := $_) (Xt := $_) (XP := $_) $rest*) => if f.getId.eraseMacroScopes == `PySem.W.holds_open then `(tactic| refine ($f (q := LH.vw) (loose := LH.lo) (Xt := fun s => xlAt LH.vw [] s && recOk (RowW.records (OpenRow.toRowW (OpenLaw.row PySem.Challenge.rw_pointrows_k19_any_value_as_triple_or_for))) s) (XP := XL LH.vw []) $rest*)) else Lean.Macro.throwUnsupported
local macro_rules
  | `(tactic| k_head) => `(tactic| k_headL)
open_top LH.hd for PySem.Challenge.rw_pointrows_k19_any_value_as_triple_or_for
end

set_option Elab.async false
set_option linter.all false
set_option maxRecDepth 100000
namespace DL
open PySem PySem.Spec PyProof.Rows L2
abbrev DKey := Sum Key (List Key)
inductive D where
  | non | bl (b : Bool) | int (i : Int) | str (x : Str)
  | lst (xs : List D) | tup (xs : List D)
  | dic (ks : List DKey) (xs : List D)
  | ins (c : Str) (ns : List Str) (xs : List D)
abbrev Pot := Int × Int
inductive Res (α : Type) where
  | ok (a : α)
  | err (c : Str) (ns : List Str) (xs : List D) (π : Pot)
  | stuck
def Res.bind {α β : Type} (x : Res α) (f : α → Res β) : Res β := match x with
  | .ok a => f a
  | .err c ns xs π => .err c ns xs π
  | .stuck => .stuck
@[simp] theorem Res.bind_ok {α β : Type} (a : α) (f : α → Res β) : (Res.ok a).bind f = f a := rfl
@[simp] theorem Res.bind_stuck {α β : Type} (f : α → Res β) : (Res.stuck : Res α).bind f = .stuck := rfl
@[simp] theorem Res.bind_err {α β : Type} (c : Str) (ns : List Str) (xs : List D) (π : Pot) (f : α → Res β) : (Res.err c ns xs π : Res α).bind f = .err c ns xs π := rfl
/-- a tuple that is tracked -/
abbrev TpK (_ : PySem.W.Frag) (H : Hp) (a : Addr) (vs : List V) : Prop := H a = some (.tup vs)
section
variable (mg : Str → Option Value) (K : PySem.W.Frag) (H : Hp)
mutual
/-- the value stands for the datum, all of it to be read in the heap -/
inductive Rp : V → D → Prop
  | non : Rp .non .non
  | bl (b : Bool) : Rp (.bl b) (.bl b)
  | int (i : Int) : Rp (.int i) (.int i)
  | str (x : Str) : Rp (.str x) (.str x)
  | lst {a : Addr} {vs : List V} {ds : List D} : H a = some (.lst vs) → RpL vs ds → Rp (.ref a) (.lst ds)
  | tup {a : Addr} {vs : List V} {ds : List D} : TpK K H a vs → RpL vs ds → Rp (.ref a) (.tup ds)
  | dicK {a : Addr} {q : Key × V} {kvs : List (Key × V)} {ds : List D} : Rd H a (.dK (q :: kvs)) → RpL ((q :: kvs).map (·.2)) ds → Rp (.ref a) (.dic ((q :: kvs).map fun p => .inl p.1) ds)
  | dicT {a : Addr} {kvs : List (List Key × V)} {ds : List D} : Rd H a (.dT kvs) → RpL (kvs.map (·.2)) ds → Rp (.ref a) (.dic (kvs.map fun p => .inr p.1) ds)
  | ins {a C dx : Addr} {fs : List (Str × V)} {c : Str} {ds : List D} : mg c = some (.ref C) → H a = some (.ins C dx fs) → RpL (fs.map (·.2)) ds → Rp (.ref a) (.ins c (fs.map (·.1)) ds)
inductive RpL : List V → List D → Prop
  | nil : RpL [] []
  | cons {v : V} {vs : List V} {d : D} {ds : List D} : Rp v d → RpL vs ds → RpL (v :: vs) (d :: ds)
end
end
section
variable (mg : Str → Option Value) (K : PySem.W.Frag) (H : Hp)
/-- what an own thing holds -/
inductive HoR : HO → D → Prop
  | lst {vs : List V} {ds : List D} : RpL mg K H vs ds → HoR (.lst vs) (.lst ds)
  | dicK {q : Key × V} {kvs : List (Key × V)} {ds : List D} : RpL mg K H ((q :: kvs).map (·.2)) ds → HoR (.dK (q :: kvs)) (.dic ((q :: kvs).map fun p => .inl p.1) ds)
  | dicT {kvs : List (List Key × V)} {ds : List D} : RpL mg K H (kvs.map (·.2)) ds → HoR (.dT kvs) (.dic (kvs.map fun p => .inr p.1) ds)
  | ins {C dx : Addr} {fs : List (Str × V)} {c : Str} {ds : List D} : mg c = some (.ref C) → RpL mg K H (fs.map (·.2)) ds → HoR (.ins C dx fs) (.ins c (fs.map (·.1)) ds)
end
/-- the heap without the cells that may change -/
def less (H : Hp) (M : List Addr) : Hp := fun a => if a ∈ M then none else H a
theorem less_some {H : Hp} {M : List Addr} {a : Addr} {o : HO} : less H M a = some o ↔ a ∉ M ∧ H a = some o := by
  unfold less
  by_cases h : a ∈ M
  · rw [if_pos h]
    exact ⟨fun e => (by cases e), fun e => absurd h e.1⟩
  · rw [if_neg h]
    exact ⟨fun e => ⟨h, e⟩, fun e => e.2⟩
section
variable {mg : Str → Option Value} {K : PySem.W.Frag} {H H' : Hp}
theorem sqL_mono {a : Addr} {xs : List V} (e : Same H H') (h : SqL K H a xs) : SqL K H' a xs := e.seq h
theorem rd_mono {a : Addr} {u : HO} (e : Same H H') (h : Rd H a u) : Rd H' a u := by
  rcases h with h | ⟨o, h⟩
  · exact .inl (e _ _ h)
  · exact .inr ⟨o, e _ _ h⟩
theorem sqT_mono {a : Addr} {xs : List V} (e : Same H H') (h : SqT K H a xs) : SqT K H' a xs := by
  rcases h with h | h
  · exact .inl (rd_mono e h)
  · exact .inr h
mutual
theorem Rp.mono (e : Same H H') : ∀ {v : V} {d : D}, Rp mg K H v d → Rp mg K H' v d
  | _, _, .non => .non
  | _, _, .bl b => .bl b
  | _, _, .int i => .int i
  | _, _, .str x => .str x
  | _, _, .lst h r => .lst (e _ _ h) (RpL.mono e r)
  | _, _, .tup h r => .tup (e _ _ h) (RpL.mono e r)
  | _, _, .dicK h r => .dicK (rd_mono e h) (RpL.mono e r)
  | _, _, .dicT h r => .dicT (rd_mono e h) (RpL.mono e r)
  | _, _, .ins m h r => .ins m (e _ _ h) (RpL.mono e r)
theorem RpL.mono (e : Same H H') : ∀ {vs : List V} {ds : List D}, RpL mg K H vs ds → RpL mg K H' vs ds
  | _, _, .nil => .nil
  | _, _, .cons h r => .cons (Rp.mono e h) (RpL.mono e r)
end
theorem HoR.mono {o : HO} {d : D} (e : Same H H') (h : HoR mg K H o d) : HoR mg K H' o d := by
  cases h with
  | lst r => exact .lst (r.mono e)
  | dicK r => exact .dicK (r.mono e)
  | dicT r => exact .dicT (r.mono e)
  | ins m r => exact .ins m (r.mono e)
theorem HoR.rp {a : Addr} {o : HO} {d : D} (e : H a = some o) (h : HoR mg K H o d) : Rp mg K H (.ref a) d := by
  cases h with
  | lst r => exact .lst e r
  | dicK r => exact .dicK (.inl e) r
  | dicT r => exact .dicT (.inl e) r
  | ins m r => exact .ins m e r
theorem RpL.length : ∀ {vs : List V} {ds : List D}, RpL mg K H vs ds → vs.length = ds.length
  | _, _, .nil => rfl
  | _, _, .cons _ r => congrArg Nat.succ r.length
theorem RpL.append : ∀ {vs ws : List V} {ds es : List D}, RpL mg K H vs ds → RpL mg K H ws es → RpL mg K H (vs ++ ws) (ds ++ es)
  | _, _, _, _, .nil, s => s
  | _, _, _, _, .cons h r, s => .cons h (r.append s)
theorem RpL.get : ∀ {vs : List V} {ds : List D} {i : Nat} {d : D}, RpL mg K H vs ds → ds[i]? = some d → ∃ v, vs[i]? = some v ∧ Rp mg K H v d
  | _, _, _, _, .nil, e => by simp at e
  | _, _, 0, _, .cons h r, e => by
    simp at e
    subst e
    exact ⟨_, rfl, h⟩
  | _, _, i + 1, _, .cons h r, e => by
    obtain ⟨v, q, p⟩ := r.get (i := i) (by simpa using e)
    exact ⟨v, by simpa using q, p⟩
theorem RpL.getV : ∀ {vs : List V} {ds : List D} {i : Nat} {v : V}, RpL mg K H vs ds → vs[i]? = some v → ∃ d, ds[i]? = some d ∧ Rp mg K H v d
  | _, _, _, _, .nil, e => by simp at e
  | _, _, 0, _, .cons h r, e => by
    simp at e
    subst e
    exact ⟨_, rfl, h⟩
  | _, _, i + 1, _, .cons h r, e => by
    obtain ⟨v, q, p⟩ := r.getV (i := i) (by simpa using e)
    exact ⟨v, by simpa using q, p⟩
theorem RpL.take : ∀ {vs : List V} {ds : List D} (n : Nat), RpL mg K H vs ds → RpL mg K H (vs.take n) (ds.take n)
  | _, _, 0, _ => .nil
  | _, _, _ + 1, .nil => .nil
  | _, _, n + 1, .cons h r => .cons h (r.take n)
theorem RpL.drop : ∀ {vs : List V} {ds : List D} (n : Nat), RpL mg K H vs ds → RpL mg K H (vs.drop n) (ds.drop n)
  | _, _, 0, r => r
  | _, _, _ + 1, .nil => .nil
  | _, _, n + 1, .cons _ r => r.drop n
theorem RpL.set : ∀ {vs : List V} {ds : List D} (i : Nat) {v : V} {d : D}, Rp mg K H v d → RpL mg K H vs ds → RpL mg K H (vs.set i v) (ds.set i d)
  | _, _, _, _, _, _, .nil => .nil
  | _, _, 0, _, _, h, .cons _ r => .cons h r
  | _, _, i + 1, _, _, h, .cons q r => .cons q (r.set i h)
theorem RpL.reverse : ∀ {vs : List V} {ds : List D}, RpL mg K H vs ds → RpL mg K H vs.reverse ds.reverse
  | _, _, .nil => .nil
  | _, _, .cons h r => by
    rw [List.reverse_cons, List.reverse_cons]
    exact r.reverse.append (.cons h .nil)
theorem RpL.replicate {v : V} {d : D} (h : Rp mg K H v d) : ∀ n, RpL mg K H (List.replicate n v) (List.replicate n d)
  | 0 => .nil
  | n + 1 => .cons h (RpL.replicate h n)
/-- ints -/
abbrev iz (ns : List Int) : List D := ns.map D.int
theorem RpL.iz : ∀ {ns : List Int} {vs : List V}, RpL mg K H vs (DL.iz ns) → vs = ns.map V.int
  | [], _, .nil => rfl
  | n :: ns, _, .cons h r => by
    cases h
    rw [RpL.iz r]
    rfl
theorem RpL.of_ints : ∀ (ns : List Int), RpL mg K H (ns.map V.int) (DL.iz ns)
  | [] => .nil
  | n :: ns => .cons (.int n) (RpL.of_ints ns)
mutual
def toPy : D → Option PyData
  | .non => some .none
  | .bl b => some (.bool b)
  | .int i => some (.int i)
  | .str x => some (.str x)
  | .lst xs => (toPyL xs).map .list
  | .tup xs => (toPyL xs).map .tuple
  | .dic _ _ => none
  | .ins _ _ _ => none
def toPyL : List D → Option (List PyData)
  | [] => some []
  | x :: xs => match toPy x, toPyL xs with
    | some p, some ps => some (p :: ps)
    | _, _ => none
end
mutual
theorem Rp.dp : ∀ {v : V} {d : D} {p : PyData}, Rp mg K H v d → toPy d = some p → Dp K H v p
  | _, _, _, .non, e => by
    cases e
    exact .non
  | _, _, _, .bl b, e => by
    cases e
    exact .bl b
  | _, _, _, .int i, e => by
    cases e
    exact .int i
  | _, _, _, .str x, e => by
    cases e
    exact .str x
  | _, .lst ds, p, .lst h r, e => by
    simp only [toPy, Option.map_eq_some_iff] at e
    obtain ⟨ps, e1, rfl⟩ := e
    exact .lst (.inl (.inl h)) (RpL.dp r e1)
  | _, .tup ds, p, .tup h r, e => by
    simp only [toPy, Option.map_eq_some_iff] at e
    obtain ⟨ps, e1, rfl⟩ := e
    exact .tup (.inl (.inl h)) (RpL.dp r e1)
  | _, _, _, .dicK _ _, e => by simp [toPy] at e
  | _, _, _, .dicT _ _, e => by simp [toPy] at e
  | _, _, _, .ins _ _ _, e => by simp [toPy] at e
theorem RpL.dp : ∀ {vs : List V} {ds : List D} {ps : List PyData}, RpL mg K H vs ds → toPyL ds = some ps → DpAll K H vs ps
  | _, _, _, .nil, e => by
    simp only [toPyL, Option.some.injEq] at e
    subst e
    exact .nil
  | _, d :: ds, ps, .cons h r, e => by
    simp only [toPyL] at e
    split at e
    · rename_i p qs e1 e2
      cases e
      exact .cons (Rp.dp h e1) (RpL.dp r e2)
    · cases e
end
end
end DL
set_option maxHeartbeats 2000000
namespace DL
open PySem PySem.Spec PyProof.Rows L2
/-- how a slot is held: not at all, as data, as a list of the def's own that changes, as the pot -/
inductive Md where | u | f | o | p | s | x (a dd : Addr)
  deriving DecidableEq
/-- how a value comes: as data, to be looked at only, as a new list -/
inductive Rm where | f | b | o | t
  deriving DecidableEq
/-- how an argument goes -/
inductive Ak where | f | b | p | s
  deriving DecidableEq
abbrev Rho := List (Option D)
abbrev Ed := Rho → Pot → Res (D × Pot)
abbrev Et := Rho → Pot → Res (Bool × Pot)
abbrev Ea := Rho → Pot → Res (List D × Pot)
abbrev Fd := List D → Pot → Res (D × Pot)
def Grow (pot : Option Addr) (H H' : Hp) : Prop := ∀ a o, pot ≠ some a → H a = some o → H' a = some o
/-- there is something, and it's no tuple -/
def Al (H : Hp) (a : Addr) : Prop := ∃ o, H a = some o ∧ ∀ xs, o ≠ .tup xs
theorem Al.nn {H : Hp} {a : Addr} (h : Al H a) : H a ≠ none := fun e => by
  obtain ⟨o, h, _⟩ := h
  rw [e] at h
  cases h
theorem Al.of {H : Hp} {a : Addr} {o : HO} (h : H a = some o) (n : ∀ xs, o ≠ .tup xs) : Al H a := ⟨o, h, n⟩
theorem HoR.nt {mg : Str → Option Value} {K : PySem.W.Frag} {H : Hp} {o : HO} {d : D} (h : HoR mg K H o d) : ∀ xs, o ≠ .tup xs := fun xs e => by
  subst e
  cases h
def PotAt (pot : Option Addr) (H : Hp) (π : Pot) : Prop := ∀ p, pot = some p → H p = some (.lst [.int π.1, .int π.2])
section
variable (mg : Str → Option Value) (K : PySem.W.Frag)
def Own (pot : Option Addr) (M : List Addr) (H : Hp) (p : Addr) (d : D) : Prop :=
  pot ≠ some p ∧ ∃ o, H p = some o ∧ HoR mg K (less H (p :: M)) o d
def Rb (pot : Option Addr) (M : List Addr) (H : Hp) (v : V) (d : D) : Prop :=
  Rp mg K (less H M) v d ∨ ∃ p, v = .ref p ∧ Own mg K pot M H p d
/-- a new tuple of new things -/
def OwnT (pot : Option Addr) (M : List Addr) (H H' : Hp) (v : V) (d : D) : Prop :=
  ∃ q ps ds, v = .ref q ∧ d = .tup ds ∧ H' q = some (.tup (ps.map V.ref)) ∧ H q = none ∧ q ∉ M ∧ q ∉ ps ∧ ds.length = ps.length ∧ pot ≠ some q ∧
    ∀ (i : Nat) (p : Addr) (e : D), ps[i]? = some p → ds[i]? = some e → pot ≠ some p ∧ H p = none ∧ p ∉ M ∧ ∃ o, H' p = some o ∧ HoR mg K (less H' (ps ++ M)) o e
def RpR (r : Rm) (pot : Option Addr) (M : List Addr) (H H' : Hp) (v : V) (d : D) : Prop := match r with
  | .f => Rp mg K (less H' M) v d
  | .b => Rb mg K pot M H' v d
  | .o => ∃ p, v = .ref p ∧ H p = none ∧ Own mg K pot M H' p d
  | .t => OwnT mg K pot M H H' v d
def ArgR (pot : Option Addr) (M : List Addr) (H : Hp) (k : Ak) (v : V) (d : D) : Prop := match k with
  | .f => Rp mg K (less H M) v d
  | .b => Rb mg K pot M H v d
  | .p => ∃ p, pot = some p ∧ v = .ref p
  | .s => ∃ p ns, v = .ref p ∧ d = .lst (DL.iz ns) ∧ SqL K (less H M) p (ns.map V.int)
inductive Args (pot : Option Addr) (M : List Addr) (H : Hp) : List Ak → List V → List D → Prop
  | nil : Args pot M H [] [] []
  | cons {k : Ak} {v : V} {d : D} {ks : List Ak} {vs : List V} {ds : List D} : ArgR mg K pot M H k v d → Args pot M H ks vs ds → Args pot M H (k :: ks) (v :: vs) (d :: ds)
def ErrAt (M : List Addr) (H : Hp) (cv : Value) (dd : Option Addr) (c : Str) (ns : List Str) (xs : List D) : Prop :=
  ∃ C, mg c = some (.ref C) ∧ cv = .ref C ∧ ((dd = none ∧ ns = [] ∧ xs = []) ∨ ∃ a fs, dd = some a ∧ H a = some (.xd fs) ∧ a ∉ M ∧ ns = fs.map (·.1) ∧ RpL mg K (less H M) (fs.map (·.2)) xs)
def PErr (pot : Option Addr) (M : List Addr) (H : Hp) (c : Str) (ns : List Str) (xs : List D) (π : Pot) (E : XK) : Prop :=
  ∀ cv dd H', Grow pot H H' → PotAt pot H' π → ErrAt mg K M H' cv dd c ns xs → E cv dd H'
def Post (r : Rm) (pot : Option Addr) (M : List Addr) (H : Hp) (x : Res (D × Pot)) (Q : VK) (E : XK) : Prop := match x with
  | .ok (d, π) => ∀ v H', Grow pot H H' → PotAt pot H' π → RpR mg K r pot M H H' v d → Q v H'
  | .err c ns xs π => PErr mg K pot M H c ns xs π E
  | .stuck => False
def PostT (pot : Option Addr) (M : List Addr) (H : Hp) (x : Res (Bool × Pot)) (Q : Bool → Hp → Prop) (E : XK) : Prop := match x with
  | .ok (b, π) => ∀ H', Grow pot H H' → PotAt pot H' π → Q b H'
  | .err c ns xs π => PErr mg K pot M H c ns xs π E
  | .stuck => False
def PostA (ks : List Ak) (pot : Option Addr) (M : List Addr) (H : Hp) (x : Res (List D × Pot)) (Q : List V → Hp → Prop) (E : XK) : Prop := match x with
  | .ok (ds, π) => ∀ vs H', Grow pot H H' → PotAt pot H' π → Args mg K pot M H' ks vs ds → Q vs H'
  | .err c ns xs π => PErr mg K pot M H c ns xs π E
  | .stuck => False
/-- the fields of an error at dd -/
def XdR (H : Hp) (dd : Addr) (d : D) : Prop := ∃ fs xs c, H dd = some (.xd fs) ∧ d = .ins c (fs.map (·.1)) xs ∧ RpL mg K H (fs.map (·.2)) xs
structure EnvOk (Γ : List Md) (pot : Option Addr) (M : List Addr) (σ : L2.St) (H : Hp) (ρ : Rho) : Prop where
  ls : σ.length = Γ.length
  lr : ρ.length = Γ.length
  f : ∀ (i : Nat) (d : D), Γ[i]? = some .f → ρ[i]? = some (some d) → ∃ v, σ[i]? = some (some v) ∧ Rp mg K (less H M) v d
  o : ∀ (i : Nat) (d : D), Γ[i]? = some .o → ρ[i]? = some (some d) → ∃ p, σ[i]? = some (some (.ref p)) ∧ p ∈ M ∧ Own mg K pot M H p d
  p : ∀ (i : Nat), Γ[i]? = some .p → ∃ p, pot = some p ∧ σ[i]? = some (some (.ref p))
  s : ∀ (i : Nat) (d : D), Γ[i]? = some .s → ρ[i]? = some (some d) → ∃ p ns, σ[i]? = some (some (.ref p)) ∧ d = .lst (DL.iz ns) ∧ SqL K (less H M) p (ns.map V.int)
  ap : ∀ (i j : Nat) (a : Addr) (d e : D), Γ[i]? = some .o → Γ[j]? = some .o → ρ[i]? = some (some d) → ρ[j]? = some (some e) → σ[i]? = some (some (.ref a)) → σ[j]? = some (some (.ref a)) → i = j
  al : ∀ a ∈ M, Al H a
  pm : ∀ a, pot = some a → a ∈ M
  x : ∀ (i : Nat) (a dd : Addr) (d : D), Γ[i]? = some (.x a dd) → ρ[i]? = some (some d) → σ[i]? = some (some (.ref a)) ∧ XdR mg K (less H M) dd d
def SemE (E : XK) (r : Rm) (Γ : List Md) (te : TE) (fe : Ed) : Prop :=
  ∀ pot M σ H ρ π, EnvOk mg K Γ pot M σ H ρ → PotAt pot H π → ∀ Q, Post mg K r pot M H (fe ρ π) Q E → te σ H Q
def SemT (E : XK) (Γ : List Md) (tt : TT) (ft : Et) : Prop :=
  ∀ pot M σ H ρ π, EnvOk mg K Γ pot M σ H ρ → PotAt pot H π → ∀ Q, PostT mg K pot M H (ft ρ π) Q E → tt σ H Q
def SemA (E : XK) (ks : List Ak) (Γ : List Md) (ta : TA) (fa : Ea) : Prop :=
  ∀ pot M σ H ρ π, EnvOk mg K Γ pot M σ H ρ → PotAt pot H π → ∀ Q, PostA mg K ks pot M H (fa ρ π) Q E → ta σ H Q
end
section
variable {mg : Str → Option Value} {K : PySem.W.Frag} {pot : Option Addr} {M : List Addr} {H H' H1 H2 : Hp} {π : Pot} {Γ : List Md} {σ : L2.St} {ρ : Rho} {v : V} {d : D}
theorem Grow.refl : Grow pot H H := fun _ _ _ h => h
theorem Grow.trans (a : Grow pot H H1) (b : Grow pot H1 H2) : Grow pot H H2 := fun x o n h => b x o n (a x o n h)
theorem Grow.of_same (e : Same H H') : Grow pot H H' := fun a o _ h => e a o h
theorem same_upd {p : Addr} {o : HO} (h : H p = none) : Same H (upd H p o) := fun b x e => by
  rw [upd_ne (ne_of_none e h)]
  exact e
theorem Grow.new {p : Addr} {o : HO} (h : H p = none) : Grow pot H (upd H p o) := .of_same (same_upd h)
/-- nothing that was there is hurt: data stays -/
theorem less_grow (hp : ∀ a, pot = some a → a ∈ M) (g : Grow pot H H') : Same (less H M) (less H' M) := fun a o h => by
  obtain ⟨h1, h2⟩ := less_some.mp h
  exact less_some.mpr ⟨h1, g a o (fun e => h1 (hp a e)) h2⟩
theorem less_sub {N : List Addr} (h : ∀ a ∈ N, a ∈ M) : Same (less H M) (less H N) := fun a o e => by
  obtain ⟨h1, h2⟩ := less_some.mp e
  exact less_some.mpr ⟨fun q => h1 (h a q), h2⟩
theorem PotAt.same (p : PotAt pot H π) (e : Same H H') : PotAt pot H' π := fun a h => e _ _ (p a h)
theorem PotAt.new {q : Addr} {o : HO} (p : PotAt pot H π) (h : H q = none) : PotAt pot (upd H q o) π := p.same (same_upd h)
theorem Own.grow {p : Addr} (hp : ∀ a, pot = some a → a ∈ M) (g : Grow pot H H') (h : Own mg K pot M H p d) : Own mg K pot M H' p d := by
  obtain ⟨n, o, h1, h2⟩ := h
  exact ⟨n, o, g _ _ n h1, h2.mono (less_grow (fun a q => List.mem_cons_of_mem _ (hp a q)) g)⟩
theorem Rb.grow (hp : ∀ a, pot = some a → a ∈ M) (g : Grow pot H H') (h : Rb mg K pot M H v d) : Rb mg K pot M H' v d := by
  rcases h with h | ⟨p, e, h⟩
  · exact .inl (h.mono (less_grow hp g))
  · exact .inr ⟨p, e, h.grow hp g⟩
theorem ArgR.grow {k : Ak} (hp : ∀ a, pot = some a → a ∈ M) (g : Grow pot H H') (h : ArgR mg K pot M H k v d) : ArgR mg K pot M H' k v d := by
  cases k with
  | f => exact h.mono (less_grow hp g)
  | b => exact Rb.grow hp g h
  | p => exact h
  | s =>
    obtain ⟨q, ns, e1, e2, e3⟩ := h
    exact ⟨q, ns, e1, e2, sqL_mono (less_grow hp g) e3⟩
theorem Args.grow {ks : List Ak} {vs : List V} {ds : List D} (hp : ∀ a, pot = some a → a ∈ M) (g : Grow pot H H') (h : Args mg K pot M H ks vs ds) : Args mg K pot M H' ks vs ds := by
  induction h with
  | nil => exact .nil
  | cons a _ ih => exact .cons (a.grow hp g) ih
theorem Args.length {ks : List Ak} {vs : List V} {ds : List D} (h : Args mg K pot M H ks vs ds) : vs.length = ks.length := by
  induction h with
  | nil => rfl
  | cons _ _ ih => exact congrArg Nat.succ ih
theorem alive (al : ∀ a ∈ M, Al H a) (p : PotAt pot H' π) (g : Grow pot H H') : ∀ a ∈ M, Al H' a := fun a ha => by
  obtain ⟨o, h, n⟩ := al a ha
  by_cases q : pot = some a
  · exact .of (p a q) fun xs e => by cases e
  · exact .of (g a o q h) n
theorem XdR.mono {H H' : Hp} (e : Same H H') {dd : Addr} (h : XdR mg K H dd d) : XdR mg K H' dd d := by
  obtain ⟨fs, xs, c, h1, h2, h3⟩ := h
  exact ⟨fs, xs, c, e _ _ h1, h2, h3.mono e⟩
theorem EnvOk.grow (I : EnvOk mg K Γ pot M σ H ρ) (g : Grow pot H H') (p : PotAt pot H' π) : EnvOk mg K Γ pot M σ H' ρ where
  ls := I.ls
  lr := I.lr
  f := fun i d h1 h2 => by
    obtain ⟨v, e, r⟩ := I.f i d h1 h2
    exact ⟨v, e, r.mono (less_grow I.pm g)⟩
  o := fun i d h1 h2 => by
    obtain ⟨q, e, m, r⟩ := I.o i d h1 h2
    exact ⟨q, e, m, r.grow I.pm g⟩
  p := I.p
  s := fun i d h1 h2 => by
    obtain ⟨q, ns, e1, e2, e3⟩ := I.s i d h1 h2
    exact ⟨q, ns, e1, e2, sqL_mono (less_grow I.pm g) e3⟩
  ap := I.ap
  al := alive I.al p g
  pm := I.pm
  x := fun i a dd d h1 h2 => ⟨(I.x i a dd d h1 h2).1, (I.x i a dd d h1 h2).2.mono (less_grow I.pm g)⟩
theorem ErrAt.grow {cv : Value} {dd : Option Addr} {c : Str} {ns : List Str} {xs : List D} (h : ErrAt mg K M H cv dd c ns xs) : ErrAt mg K M H cv dd c ns xs := h
/-- a new list is data as well -/
theorem own_f {p : Addr} (al : ∀ a ∈ M, Al H a) (hn : H p = none) (h : Own mg K pot M H' p d) : Rp mg K (less H' M) (.ref p) d := by
  obtain ⟨_, o, h1, h2⟩ := h
  have np : p ∉ M := fun q => (al p q).nn hn
  exact HoR.rp (less_some.mpr ⟨np, h1⟩) (h2.mono (less_sub fun a q => List.mem_cons_of_mem _ q))
theorem RpR.toF (al : ∀ a ∈ M, Al H a) (h : RpR mg K .o pot M H H' v d) : Rp mg K (less H' M) v d := by
  obtain ⟨p, rfl, hn, h⟩ := h
  exact own_f al hn h
theorem rpl_refs {H : Hp} : ∀ {ps : List Addr} {ds : List D}, ds.length = ps.length → (∀ (i : Nat) (p : Addr) (e : D), ps[i]? = some p → ds[i]? = some e → Rp mg K H (.ref p) e) → RpL mg K H (ps.map V.ref) ds
  | [], [], _, _ => .nil
  | [], _ :: _, h, _ => by simp at h
  | _ :: _, [], h, _ => by simp at h
  | p :: ps, d :: ds, h, k => .cons (k 0 p d rfl rfl) (rpl_refs (by simpa using h) fun i q e h1 h2 => k (i + 1) q e (by simpa using h1) (by simpa using h2))
theorem ownT_f (h : OwnT mg K pot M H H' v d) : Rp mg K (less H' M) v d := by
  obtain ⟨q, ps, ds, rfl, rfl, h1, _, h3, _, h5, _, h6⟩ := h
  refine .tup (less_some.mpr ⟨h3, h1⟩) (rpl_refs h5 fun i p e e1 e2 => ?_)
  obtain ⟨_, _, g3, o, g4, g5⟩ := h6 i p e e1 e2
  exact HoR.rp (less_some.mpr ⟨g3, g4⟩) (g5.mono (less_sub fun a ha => List.mem_append_right _ ha))
theorem RpR.toB {r : Rm} (h : RpR mg K r pot M H H' v d) : Rb mg K pot M H' v d := by
  cases r with
  | f => exact .inl h
  | b => exact h
  | o =>
    obtain ⟨p, e, _, h⟩ := h
    exact .inr ⟨p, e, h⟩
  | t => exact .inl (ownT_f h)
/-- seen from further back -/
theorem RpR.back {r : Rm} (g : Grow pot H H1) (h0 : PotAt pot H π) (h : RpR mg K r pot M H1 H2 v d) : RpR mg K r pot M H H2 v d := by
  cases r with
  | f => exact h
  | b => exact h
  | o =>
    obtain ⟨p, e, hn, h⟩ := h
    refine ⟨p, e, ?_, h⟩
    cases q : H p with
    | none => rfl
    | some o =>
      rw [g p o h.1 q] at hn
      cases hn
  | t =>
    have bk : ∀ p, pot ≠ some p → H1 p = none → H p = none := fun p np hn => by
      cases q : H p with
      | none => rfl
      | some o =>
        rw [g p o np q] at hn
        cases hn
    obtain ⟨q, ps, ds, e1, e2, h1, h2, h3, h4, h5, h7, h6⟩ := h
    refine ⟨q, ps, ds, e1, e2, h1, bk q h7 h2, h3, h4, h5, h7, fun i p e a1 a2 => ?_⟩
    obtain ⟨g1, g2, g3, g4⟩ := h6 i p e a1 a2
    exact ⟨g1, bk p g1 g2, g3, g4⟩
theorem PErr.back {c : Str} {ns : List Str} {xs : List D} {π' : Pot} {E : XK} (h : PErr mg K pot M H c ns xs π' E) (g : Grow pot H H1) : PErr mg K pot M H1 c ns xs π' E :=
  fun cv dd H' g' p e => h cv dd H' (g.trans g') p e
/-- the post of what comes last is the post of the whole -/
theorem Post.back {r : Rm} {x : Res (D × Pot)} {Q : VK} {E : XK} (g : Grow pot H H1) (h0 : PotAt pot H π) (h : Post mg K r pot M H x Q E) : Post mg K r pot M H1 x Q E := by
  cases x with
  | ok a => exact fun v H' g' p q => h v H' (g.trans g') p (q.back g h0)
  | err c ns xs π' => exact PErr.back h g
  | stuck => exact h
theorem PostT.back {x : Res (Bool × Pot)} {Q : Bool → Hp → Prop} {E : XK} (g : Grow pot H H1) (h : PostT mg K pot M H x Q E) : PostT mg K pot M H1 x Q E := by
  cases x with
  | ok a => exact fun H' g' p => h H' (g.trans g') p
  | err c ns xs π' => exact PErr.back h g
  | stuck => exact h
/-- first x, then k -/
theorem Post.seq {r r' : Rm} {x : Res (D × Pot)} {k : D × Pot → Res (D × Pot)} {Q : VK} {E : XK} (h : Post mg K r pot M H (x.bind k) Q E) (h0 : PotAt pot H π)
    {te : VK → Prop} (ht : ∀ Q', Post mg K r' pot M H x Q' E → te Q') {R : VK}
    (hk : ∀ d π1 v H1, x = .ok (d, π1) → Grow pot H H1 → PotAt pot H1 π1 → RpR mg K r' pot M H H1 v d → Post mg K r pot M H1 (k (d, π1)) Q E → R v H1) : te R := by
  refine ht R ?_
  cases x with
  | ok a =>
    obtain ⟨d, π1⟩ := a
    exact fun v H1 g p q => hk d π1 v H1 rfl g p q (Post.back g h0 h)
  | err c ns xs π' => exact h
  | stuck => exact h
end
end DL
set_option maxHeartbeats 2000000
namespace DL
open PySem PySem.Spec PyProof.Rows L2
/-- what a rule asks of the place where it is used -/
structure XOk (X : Cx) (E : XK) (k : Nat) : Prop where
  room : Room k X.A
  gd : X.A.guards = some []
  calm : X.calm = true
  pass : Passes (L2.CX X.prog X.w) X E
  own : PassesOwn (model X.prog X.w) X.A X.env X.xe
  nd : X.N.Nodup
theorem XOk.u1 {X : Cx} {E : XK} {k : Nat} (x : XOk X E k) : X.A.units + 1 < cLine := hu_of x.room
theorem XOk.u0 {X : Cx} {E : XK} {k : Nat} (x : XOk X E k) : X.A.units < cLine := x.room.units0
theorem XOk.u64 {X : Cx} {E : XK} {k : Nat} (x : XOk X E k) : X.A.units + 64 < cLine := x.room.units
theorem XOk.u65 {X : Cx} {E : XK} {k : Nat} (x : XOk X E k) : X.A.units + 65 < cLine := by
  have := x.room.un
  omega
structure DE (X : Cx) (E : XK) (r : Rm) (Γ : List Md) (e : Expr) (te : TE) (fe : Ed) : Prop where
  pe : PE X e te
  sem : SemE X.mg X.K E r Γ te fe
structure DT (X : Cx) (E : XK) (Γ : List Md) (e : Expr) (tt : TT) (ft : Et) : Prop where
  pt : PT X e tt
  sem : SemT X.mg X.K E Γ tt ft
structure DW (X : Cx) (E : XK) (Γ : List Md) (e : Expr) (tt : TT) (ft : Et) : Prop where
  pw : PW X e tt
  sem : SemT X.mg X.K E Γ tt ft
structure DA (X : Cx) (E : XK) (ks : List Ak) (Γ : List Md) (es : List Expr) (ta : TA) (fa : Ea) : Prop where
  pa : PA X es ta
  sem : SemA X.mg X.K E ks Γ ta fa
theorem DW.dt {X : Cx} {E : XK} {Γ : List Md} {e : Expr} {tt : TT} {ft : Et} (h : DW X E Γ e tt ft) : DT X E Γ e tt ft := ⟨h.pw.pt, h.sem⟩
def ofO {α : Type} : Option α → Res α
  | some a => .ok a
  | none => .stuck
@[simp] theorem ofO_some {α : Type} (a : α) : ofO (some a) = .ok a := rfl
@[simp] theorem ofO_none {α : Type} : ofO (none : Option α) = .stuck := rfl
def eVar (i : Nat) : Ed := fun ρ π => match ρ[i]? with
  | some (some d) => .ok (d, π)
  | _ => .stuck
def eC (d : D) : Ed := fun _ π => .ok (d, π)
def eBin (g : D → D → Option D) (a b : Ed) : Ed := fun ρ π => (a ρ π).bind fun x => (b ρ x.2).bind fun y => (ofO (g x.1 y.1)).bind fun z => .ok (z, y.2)
def eUn (g : D → Option D) (a : Ed) : Ed := fun ρ π => (a ρ π).bind fun x => (ofO (g x.1)).bind fun z => .ok (z, x.2)
def truth : D → Option Bool
  | .non => some false
  | .bl b => some b
  | .int i => some (i != 0)
  | .str y => if y.length ≤ sizeLine then some ((y.length : Int) != 0) else none
  | .lst xs => some (!xs.isEmpty)
  | .tup xs => some (!xs.isEmpty)
  | .dic _ _ => none
  | .ins _ _ _ => none
def eAnd (a b : Ed) : Ed := fun ρ π => (a ρ π).bind fun x => (ofO (truth x.1)).bind fun k => if k = true then b ρ x.2 else .ok x
def eOr (a b : Ed) : Ed := fun ρ π => (a ρ π).bind fun x => (ofO (truth x.1)).bind fun k => if k = true then .ok x else b ρ x.2
def eNot (a : Ed) : Ed := fun ρ π => (a ρ π).bind fun x => (ofO (truth x.1)).bind fun k => .ok (.bl (!k), x.2)
def eIf (t : Et) (a b : Ed) : Ed := fun ρ π => (t ρ π).bind fun x => if x.1 = true then a ρ x.2 else b ρ x.2
def aNil : Ea := fun _ π => .ok ([], π)
def aCons (a : Ed) (b : Ea) : Ea := fun ρ π => (a ρ π).bind fun x => (b ρ x.2).bind fun y => .ok (x.1 :: y.1, y.2)
def eTup (a : Ea) : Ed := fun ρ π => (a ρ π).bind fun x => if x.1.length ≤ sizeLine then .ok (.tup x.1, x.2) else .stuck
def eLst (a : Ea) : Ed := fun ρ π => (a ρ π).bind fun x => if x.1.length ≤ sizeLine then .ok (.lst x.1, x.2) else .stuck
def eApp (g : List D → Option D) (a : Ea) : Ed := fun ρ π => (a ρ π).bind fun x => (ofO (g x.1)).bind fun z => .ok (z, x.2)
def tOf (a : Ed) : Et := fun ρ π => (a ρ π).bind fun x => (ofO (truth x.1)).bind fun k => .ok (k, x.2)
def tBl (a : Ed) : Et := fun ρ π => (a ρ π).bind fun x => match x.1 with
  | .bl k => .ok (k, x.2)
  | _ => .stuck
def tAndD (a b : Et) : Et := fun ρ π => (a ρ π).bind fun x => if x.1 = true then b ρ x.2 else .ok (false, x.2)
def tOrD (a b : Et) : Et := fun ρ π => (a ρ π).bind fun x => if x.1 = true then .ok (true, x.2) else b ρ x.2
def tNotD (a : Et) : Et := fun ρ π => (a ρ π).bind fun x => .ok (!x.1, x.2)
section
variable {X : Cx} {E : XK} {Γ : List Md} {r ra rb : Rm} {e a b c : Expr} {ta tb te : TE} {fa fb fe : Ed} {pos : Pos} {k : Nat}
theorem DE.toF (h : DE X E .o Γ e te fe) : DE X E .f Γ e te fe := ⟨h.pe, fun pot M σ H ρ π I p Q q => by
  refine h.sem pot M σ H ρ π I p Q ?_
  cases e : fe ρ π with
  | ok a =>
    rw [e] at q
    exact fun v H' g p' y => q v H' g p' (y.toF I.al)
  | err c ns xs π' =>
    rw [e] at q
    exact q
  | stuck =>
    rw [e] at q
    exact q⟩
theorem DE.toB (h : DE X E r Γ e te fe) : DE X E .b Γ e te fe := ⟨h.pe, fun pot M σ H ρ π I p Q q => by
  refine h.sem pot M σ H ρ π I p Q ?_
  cases e : fe ρ π with
  | ok a =>
    rw [e] at q
    exact fun v H' g p' y => q v H' g p' y.toB
  | err c ns xs π' =>
    rw [e] at q
    exact q
  | stuck =>
    rw [e] at q
    exact q⟩
theorem de_var (i : Nat) {x : Str} (hN : X.N[i]? = some x := by rfl) (hv : Vis X.env.scope x := by first | exact Or.inl rfl | exact Or.inr (Or.inl rfl) | exact Or.inr (Or.inr rfl)) (hΓ : Γ[i]? = some .f := by rfl)
    (hd : (x == ("__debug__" : Str)) = false := by decide) (hcd : (x == ("__classdict__" : Str)) = false := by decide) : DE X E .f Γ (.Name x pos) (tVar i) (eVar i) :=
  ⟨pe_var hN hv hd hcd, fun pot M σ H ρ π I p Q q => by
    unfold eVar at q
    split at q
    · rename_i d e
      obtain ⟨v, e1, r⟩ := I.f i d hΓ e
      exact ⟨v, e1, q v H .refl p r⟩
    · exact q.elim⟩
/-- an own list that changes, to be looked at -/
theorem de_varo (i : Nat) {x : Str} (hN : X.N[i]? = some x := by rfl) (hv : Vis X.env.scope x := by first | exact Or.inl rfl | exact Or.inr (Or.inl rfl) | exact Or.inr (Or.inr rfl)) (hΓ : Γ[i]? = some .o := by rfl)
    (hd : (x == ("__debug__" : Str)) = false := by decide) (hcd : (x == ("__classdict__" : Str)) = false := by decide) : DE X E .b Γ (.Name x pos) (tVar i) (eVar i) :=
  ⟨pe_var hN hv hd hcd, fun pot M σ H ρ π I p Q q => by
    unfold eVar at q
    split at q
    · rename_i d e
      obtain ⟨v, e1, m, r⟩ := I.o i d hΓ e
      exact ⟨_, e1, q _ H .refl p (.inr ⟨_, rfl, r⟩)⟩
    · exact q.elim⟩
theorem sem_c {v : V} {d : D} (h : ∀ H, Rp X.mg X.K H v d) : SemE X.mg X.K E .f Γ (tC v) (eC d) := fun pot M σ H ρ π I p Q q => q v H .refl p (h _)
theorem de_int {i : Int} {j : Nat} : DE X E .f Γ (.Constant (.int i) j pos) (tC (.int i)) (eC (.int i)) := ⟨pe_int, sem_c fun _ => .int i⟩
theorem de_bl {i : Bool} {j : Nat} : DE X E .f Γ (.Constant (.bool i) j pos) (tC (.bl i)) (eC (.bl i)) := ⟨pe_bl, sem_c fun _ => .bl i⟩
theorem de_non {j : Nat} : DE X E .f Γ (.Constant .none j pos) (tC .non) (eC .non) := ⟨pe_non, sem_c fun _ => .non⟩
theorem de_str {x : Str} {j : Nat} : DE X E .f Γ (.Constant (.str x) j pos) (tC (.str x)) (eC (.str x)) := ⟨pe_str, sem_c fun _ => .str x⟩
/-- a constant of the module -/
theorem de_glob {x : Str} {v : V} {d : D} (h : ∃ u, X.mg x = some u ∧ RelV v u) (hr : ∀ H, Rp X.mg X.K H v d) (hg : Gl X x := by rfl) (hdb : (x == ("__debug__" : Str)) = false := by decide) : DE X E .f Γ (.Name x pos) (tC v) (eC d) := by
  obtain ⟨u, h1, h2⟩ := h
  exact ⟨pe_glob hg h1 h2 hdb, sem_c hr⟩
def SemOp (mg : Str → Option Value) (K : PySem.W.Frag) (r2 : R2) (rz : Rm) (g : D → D → Option D) : Prop :=
  ∀ (pot : Option Addr) (M : List Addr) (H : Hp) (x y : V) (d e z : D), (∀ a ∈ M, Al H a) → (∀ a, pot = some a → a ∈ M) → (∀ a, pot = some a → H a ≠ none) → Rb mg K pot M H x d → Rb mg K pot M H y e → g d e = some z →
    ∀ Q : VK, (∀ v H', Same H H' → RpR mg K rz pot M H H' v z → Q v H') → r2 x y H Q
def SemUn (mg : Str → Option Value) (K : PySem.W.Frag) (r1 : V → Hp → VK → Prop) (rz : Rm) (g : D → Option D) : Prop :=
  ∀ (pot : Option Addr) (M : List Addr) (H : Hp) (x : V) (d z : D), (∀ a ∈ M, Al H a) → (∀ a, pot = some a → a ∈ M) → (∀ a, pot = some a → H a ≠ none) → Rb mg K pot M H x d → g d = some z →
    ∀ Q : VK, (∀ v H', Same H H' → RpR mg K rz pot M H H' v z → Q v H') → r1 x H Q
theorem PotAt.has {pot : Option Addr} {H : Hp} {π : Pot} (p : PotAt pot H π) : ∀ a, pot = some a → H a ≠ none := fun a h e => by
  rw [p a h] at e
  cases e
theorem sem_bin {r2 : R2} {rz : Rm} {g : D → D → Option D} (hg : SemOp X.mg X.K r2 rz g) (ha : SemE X.mg X.K E ra Γ ta fa) (hb : SemE X.mg X.K E rb Γ tb fb) : SemE X.mg X.K E rz Γ (tOp r2 ta tb) (eBin g fa fb) := by
  intro pot M σ H ρ π I p Q h
  refine Post.seq (r' := ra) (te := ta σ H) h p (fun Q' hq => ha pot M σ H ρ π I p Q' hq) fun d π1 v H1 _ g1 p1 r1 h1 => ?_
  refine Post.seq (r' := rb) (te := tb σ H1) h1 p1 (fun Q' hq => hb pot M σ H1 ρ π1 (I.grow g1 p1) p1 Q' hq) fun e π2 w H2 _ g2 p2 r2' h2 => ?_
  have I2 := I.grow (g1.trans g2) p2
  cases hz : g d e with
  | none =>
    simp only [hz, ofO_none, Res.bind_stuck] at h2
    exact h2.elim
  | some z =>
    simp only [hz, ofO_some, Res.bind_ok] at h2
    exact hg pot M H2 v w d e z I2.al I.pm p2.has (r1.toB.grow I.pm g2) r2'.toB hz Q fun u H3 s q => h2 u H3 (.of_same s) (p2.same s) q
theorem sem_un {r1 : V → Hp → VK → Prop} {rz : Rm} {g : D → Option D} (hg : SemUn X.mg X.K r1 rz g) (ha : SemE X.mg X.K E ra Γ ta fa) : SemE X.mg X.K E rz Γ (tUn r1 ta) (eUn g fa) := by
  intro pot M σ H ρ π I p Q h
  refine Post.seq (r' := ra) (te := ta σ H) h p (fun Q' hq => ha pot M σ H ρ π I p Q' hq) fun d π1 v H1 _ g1 p1 r1' h1 => ?_
  have I1 := I.grow g1 p1
  cases hz : g d with
  | none =>
    simp only [hz, ofO_none, Res.bind_stuck] at h1
    exact h1.elim
  | some z =>
    simp only [hz, ofO_some, Res.bind_ok] at h1
    exact hg pot M H1 v d z I1.al I.pm p1.has r1'.toB hz Q fun u H3 s q => h1 u H3 (.of_same s) (p1.same s) q
theorem de_bin {op : Operator} {r2 : R2} {rz : Rm} {g : D → D → Option D} (o : OpR X (binaryOp op) r2 ∧ SemOp X.mg X.K r2 rz g) (ha : DE X E ra Γ a ta fa) (hb : DE X E rb Γ b tb fb) : DE X E rz Γ (.BinOp a op b pos) (tOp r2 ta tb) (eBin g fa fb) :=
  ⟨pe_op o.1 ha.pe hb.pe, sem_bin o.2 ha.sem hb.sem⟩
theorem de_un {op : UnaryOp} {r1 : V → Hp → VK → Prop} {rz : Rm} {g : D → Option D} (o : UnR X (unaryOp op) r1 ∧ SemUn X.mg X.K r1 rz g) (ha : DE X E ra Γ a ta fa) : DE X E rz Γ (.UnaryOp op a pos) (tUn r1 ta) (eUn g fa) :=
  ⟨pe_un o.1 ha.pe, sem_un o.2 ha.sem⟩
theorem de_cmp {op : CmpOp} {r2 : R2} {rz : Rm} {g : D → D → Option D} (o : OpR X (compareOp op) r2 ∧ SemOp X.mg X.K r2 rz g) (ha : DE X E ra Γ a ta fa) (hb : DE X E rb Γ b tb fb) (hm : behindInMarks op b = false := by rfl) : DE X E rz Γ (.Compare a [op] [b] pos) (tOp r2 ta tb) (eBin g fa fb) :=
  ⟨pe_cmpR o.1 ha.pe hb.pe hm, sem_bin o.2 ha.sem hb.sem⟩
end
end DL
set_option maxHeartbeats 2000000
namespace DL
open PySem PySem.Spec PyProof.Rows L2
section
variable {mg : Str → Option Value} {K : PySem.W.Frag} {pot : Option Addr} {M : List Addr} {H H' : Hp} {v x : V} {d : D}
theorem rb_int {i : Int} (h : Rb mg K pot M H x (.int i)) : x = .int i := by
  rcases h with h | ⟨_, _, _, _, _, e⟩
  · cases h
    rfl
  · cases e
theorem rb_bl {i : Bool} (h : Rb mg K pot M H x (.bl i)) : x = .bl i := by
  rcases h with h | ⟨_, _, _, _, _, e⟩
  · cases h
    rfl
  · cases e
theorem rb_str {i : Str} (h : Rb mg K pot M H x (.str i)) : x = .str i := by
  rcases h with h | ⟨_, _, _, _, _, e⟩
  · cases h
    rfl
  · cases e
theorem rb_non (h : Rb mg K pot M H x .non) : x = .non := by
  rcases h with h | ⟨_, _, _, _, _, e⟩
  · cases h
    rfl
  · cases e
theorem less_le : Same (less H M) H := fun a o h => (less_some.mp h).2
theorem rb_lst {ds : List D} (h : Rb mg K pot M H x (.lst ds)) : ∃ p xs, x = .ref p ∧ H p = some (.lst xs) ∧ RpL mg K (less H M) xs ds := by
  rcases h with h | ⟨p, e1, _, o, h1, h2⟩
  · cases h with
    | lst h1 h2 => exact ⟨_, _, rfl, less_le _ _ h1, h2⟩
  · cases h2 with
    | lst h2 => exact ⟨p, _, e1, h1, h2.mono (less_sub fun a q => List.mem_cons_of_mem _ q)⟩
theorem rb_tupP {ds : List D} (h : Rb mg K pot M H x (.tup ds)) : ∃ p xs, x = .ref p ∧ less H M p = some (.tup xs) ∧ RpL mg K (less H M) xs ds := by
  rcases h with h | ⟨p, e1, _, o, h1, h2⟩
  · cases h with
    | tup h1 h2 => exact ⟨_, _, rfl, h1, h2⟩
  · cases h2
theorem rb_tup {ds : List D} (h : Rb mg K pot M H x (.tup ds)) : ∃ p xs, x = .ref p ∧ SqT K (less H M) p xs ∧ RpL mg K (less H M) xs ds := by
  obtain ⟨p, xs, e, h1, h2⟩ := rb_tupP h
  exact ⟨p, xs, e, .inl (.inl h1), h2⟩
theorem rb_rp (h : Rb mg K pot M H x d) : Rp mg K H x d := by
  rcases h with h | ⟨p, e1, _, o, h1, h2⟩
  · exact h.mono less_le
  · cases e1
    exact HoR.rp h1 (h2.mono less_le)
theorem less_new {q : Addr} {o : HO} (hn : H q = none) : Same (less H M) (less (upd H q o) (q :: M)) := fun a u h => by
  obtain ⟨h1, h2⟩ := less_some.mp h
  have n := ne_of_none h2 hn
  refine less_some.mpr ⟨fun m => ?_, ?_⟩
  · rcases List.mem_cons.mp m with e | m
    · exact n e
    · exact h1 m
  · rw [upd_ne n]
    exact h2
theorem less_new1 {q : Addr} {o : HO} (hn : H q = none) : Same (less H M) (less (upd H q o) M) := fun a u h => by
  obtain ⟨h1, h2⟩ := less_some.mp h
  refine less_some.mpr ⟨h1, ?_⟩
  rw [upd_ne (ne_of_none h2 hn)]
  exact h2
theorem new_lst {q : Addr} {xs : List V} {ds : List D} (hp : ∀ a, pot = some a → H a ≠ none) (hn : H q = none) (r : RpL mg K (less H M) xs ds) : RpR mg K .o pot M H (upd H q (.lst xs)) (.ref q) (.lst ds) :=
  ⟨q, rfl, hn, fun e => hp q e hn, _, upd_same, .lst (r.mono (less_new hn))⟩
theorem new_tup {q : Addr} {xs : List V} {ds : List D} (al : ∀ a ∈ M, Al H a) (hn : H q = none) (r : RpL mg K (less H M) xs ds) : Rp mg K (less (upd H q (.tup xs)) M) (.ref q) (.tup ds) :=
  .tup (less_some.mpr ⟨fun m => (al q m).nn hn, upd_same⟩) (r.mono (less_new1 hn))
theorem new_lstF {q : Addr} {xs : List V} {ds : List D} (al : ∀ a ∈ M, Al H a) (hn : H q = none) (r : RpL mg K (less H M) xs ds) : Rp mg K (less (upd H q (.lst xs)) M) (.ref q) (.lst ds) :=
  .lst (less_some.mpr ⟨fun m => (al q m).nn hn, upd_same⟩) (r.mono (less_new1 hn))
end
def opAdd : D → D → Option D
  | .int i, .int j => some (.int (i + j))
  | .lst xs, .lst ys => if xs.length + ys.length ≤ sizeLine then some (.lst (xs ++ ys)) else none
  | .tup xs, .tup ys => if xs.length + ys.length ≤ sizeLine then some (.tup (xs ++ ys)) else none
  | .str x, .str y => if x.length + y.length ≤ sizeLine then some (.str (x ++ y)) else none
  | _, _ => none
def opSub : D → D → Option D
  | .int i, .int j => some (.int (i - j))
  | _, _ => none
def small (i : Int) : Bool := decide (-18446744073709551616 < i ∧ i < 18446744073709551616)
def opFdivW : D → D → Option D
  | .int i, .int j => if 0 < j ∧ j.natAbs.log2 < 9000 then some (.int (i / j)) else if j < 0 ∧ j.natAbs.log2 < 9000 then some (.int (i.fdiv j)) else none
  | _, _ => none
def opMod : D → D → Option D
  | .int i, .int j => if 0 < j then some (.int (i % j)) else none
  | _, _ => none
def opPow : D → D → Option D
  | .int i, .int j => if decide (0 ≤ j ∧ j ≤ 1000000) && small i then some (.int (i ^ j.toNat)) else none
  | _, _ => none
def opNeg : D → Option D
  | .int i => some (.int (-i))
  | _ => none
def cmpI (p : Int → Int → Bool) : D → D → Option D
  | .int i, .int j => some (.bl (p i j))
  | _, _ => none
def eqP (d e : D) : Option Bool := match toPy d, toPy e with
  | some p, some q => if SeqAt.shaped p && SeqAt.shaped q then some (PyData.eqv p q) else none
  | _, _ => none
def eqD : D → D → Option Bool
  | .str x, .str y => some (decide (x = y))
  | .int x, .int y => some (decide (x = y))
  | d, e => eqP d e
def opEq (d e : D) : Option D := (eqD d e).map .bl
def opNe (d e : D) : Option D := (eqD d e).map fun b => .bl (!b)
def isNonD : D → Bool
  | .non => true
  | _ => false
def opIsN (d e : D) : Option D := if isNonD e then some (.bl (isNonD d)) else none
def opNotN (d e : D) : Option D := if isNonD e then some (.bl (!isNonD d)) else none
section
variable {X : Cx} {E : XK} {k : Nat}
abbrev OpOk (X : Cx) (f : Value → Value → Sem Value) (r2 : R2) (rz : Rm) (g : D → D → Option D) : Prop := OpR X f r2 ∧ SemOp X.mg X.K r2 rz g
theorem sem_int {mg : Str → Option Value} {K : PySem.W.Frag} {C : Int → Int → Prop} {g : D → D → Option D} {gi : Int → Int → Int} (h : ∀ d e z, g d e = some z → ∃ i j, d = .int i ∧ e = .int j ∧ C i j ∧ z = .int (gi i j)) : SemOp mg K (rI C fun i j => .int (gi i j)) .f g := by
  intro pot M H x y d e z al pm ph rx ry hz Q q
  obtain ⟨i, j, rfl, rfl, c, rfl⟩ := h d e z hz
  exact ⟨i, j, rb_int rx, rb_int ry, c, q _ H (Same.refl H) (.int _)⟩
theorem sem_int0 {mg : Str → Option Value} {K : PySem.W.Frag} {g : D → D → Option D} {gi : Int → Int → V} {gd : Int → Int → D} (hr : ∀ i j H, Rp mg K H (gi i j) (gd i j)) (h : ∀ d e z, g d e = some z → ∃ i j, d = .int i ∧ e = .int j ∧ z = gd i j) : SemOp mg K (rI0 gi) .f g := by
  intro pot M H x y d e z al pm ph rx ry hz Q q
  obtain ⟨i, j, rfl, rfl, rfl⟩ := h d e z hz
  exact ⟨i, j, rb_int rx, rb_int ry, q _ H (Same.refl H) (hr _ _ _)⟩
theorem o_sub : OpOk X (binaryOp .Sub) (rI0 fun i j => .int (i - j)) .f opSub := ⟨op_sub, sem_int0 (gd := fun i j => .int (i - j)) (fun _ _ _ => .int _) fun d e z h => by
  cases d <;> cases e <;> simp [opSub] at h
  exact ⟨_, _, rfl, rfl, h.symm⟩⟩
def CDivA (_ j : Int) : Prop := j ≠ 0 ∧ j.natAbs.log2 < 9000
theorem op_fdivA : OpR X (binaryOp .FloorDiv) (rI CDivA fun i j => .int (i.fdiv j)) := opI fun i j _ _ _ _ _ hc q => floordiv_int hc.1 q (.inl (PyProof.noPylong_of_log2 hc.2))
theorem o_fdivW : OpOk X (binaryOp .FloorDiv) (rI CDivA fun i j => .int (i.fdiv j)) .f opFdivW := ⟨op_fdivA, sem_int (gi := fun i j => i.fdiv j) fun d e z h => by
  cases d <;> cases e <;> simp only [opFdivW] at h <;> try cases h
  rename_i i j
  by_cases h1 : 0 < j ∧ j.natAbs.log2 < 9000
  · rw [if_pos h1] at h
    cases h
    exact ⟨_, _, rfl, rfl, ⟨by omega, h1.2⟩, by rw [Int.fdiv_eq_ediv_of_nonneg i (by omega)]⟩
  · rw [if_neg h1] at h
    by_cases h2 : j < 0 ∧ j.natAbs.log2 < 9000
    · rw [if_pos h2] at h
      cases h
      exact ⟨_, _, rfl, rfl, ⟨by omega, h2.2⟩, rfl⟩
    · rw [if_neg h2] at h; cases h⟩
theorem o_mod : OpOk X (binaryOp .Mod) (rI (fun _ j => 0 < j) fun i j => .int (i % j)) .f opMod := ⟨op_mod, sem_int (gi := fun i j => i % j) fun d e z h => by
  cases d <;> cases e <;> simp [opMod] at h
  exact ⟨_, _, rfl, rfl, h.1, h.2.symm⟩⟩
theorem o_pow : OpOk X (binaryOp .Pow) (rI CPow fun i j => .int (i ^ j.toNat)) .f opPow := ⟨op_pow, sem_int (gi := fun i j => i ^ j.toNat) fun d e z h => by
  cases d <;> cases e <;> simp [opPow, small] at h
  exact ⟨_, _, rfl, rfl, (by unfold CPow; omega), h.2.symm⟩⟩
theorem o_neg : UnR X (unaryOp .USub) (rU fun i => .int (-i)) ∧ SemUn X.mg X.K (rU fun i => .int (-i)) .f opNeg := ⟨un_neg, fun pot M H x d z al pm ph rx hz Q q => by
  cases d <;> simp [opNeg] at hz
  subst hz
  exact ⟨_, rb_int rx, q _ H (Same.refl H) (.int _)⟩⟩
theorem o_lt : OpOk X (compareOp .Lt) (rI0 fun i j => .bl (decide (i < j))) .f (cmpI fun i j => decide (i < j)) := ⟨op_lt, sem_int0 (gd := fun i j => .bl (decide (i < j))) (fun _ _ _ => .bl _) fun d e z h => by
  cases d <;> cases e <;> simp [cmpI] at h
  exact ⟨_, _, rfl, rfl, h.symm⟩⟩
theorem o_gt : OpOk X (compareOp .Gt) (rI0 fun i j => .bl (decide (j < i))) .f (cmpI fun i j => decide (j < i)) := ⟨op_gt, sem_int0 (gd := fun i j => .bl (decide (j < i))) (fun _ _ _ => .bl _) fun d e z h => by
  cases d <;> cases e <;> simp [cmpI] at h
  exact ⟨_, _, rfl, rfl, h.symm⟩⟩
theorem o_ge : OpOk X (compareOp .GtE) (rI0 fun i j => .bl (decide (j ≤ i))) .f (cmpI fun i j => decide (j ≤ i)) := ⟨op_ge, sem_int0 (gd := fun i j => .bl (decide (j ≤ i))) (fun _ _ _ => .bl _) fun d e z h => by
  cases d <;> cases e <;> simp [cmpI] at h
  exact ⟨_, _, rfl, rfl, h.symm⟩⟩
/-- + of ints, texts, lists, tuples -/
def rAddA (K : PySem.W.Frag) : R2 := fun x y H Q => rI0 (fun i j => .int (i + j)) x y H Q ∨ (∃ i j, x = .str i ∧ y = .str j ∧ i.length + j.length ≤ sizeLine ∧ Q (.str (i ++ j)) H) ∨ rCat x y H Q ∨ rCatA K x y H Q
theorem o_add : OpOk X (binaryOp .Add) (rAddA X.K) .f opAdd := ⟨op_add.or (op_add_str.or (op_cat.or op_catA)), fun pot M H x y d e z al pm ph rx ry hz Q q => by
  cases d <;> cases e <;> simp [opAdd] at hz
  · subst hz
    exact .inl ⟨_, _, rb_int rx, rb_int ry, q _ H (Same.refl H) (.int _)⟩
  · obtain ⟨hl, rfl⟩ := hz
    exact .inr (.inl ⟨_, _, rb_str rx, rb_str ry, hl, q _ H (Same.refl H) (.str _)⟩)
  · obtain ⟨p, xs, rfl, h1, r1⟩ := rb_lst rx
    obtain ⟨p', ys, rfl, h2, r2⟩ := rb_lst ry
    obtain ⟨hl, rfl⟩ := hz
    refine .inr (.inr (.inl ⟨p, p', xs, ys, rfl, rfl, h1, h2, by rw [r1.length, r2.length]; exact hl, fun l hn => ?_⟩))
    exact q _ _ (same_upd hn) (new_lstF al hn (r1.append r2))
  · obtain ⟨p, xs, rfl, h1, r1⟩ := rb_tupP rx
    obtain ⟨p', ys, rfl, h2, r2⟩ := rb_tupP ry
    obtain ⟨hl, rfl⟩ := hz
    refine .inr (.inr (.inr ⟨p, p', xs, ys, rfl, rfl, .inl (.inl (less_le _ _ h1)), .inl (.inl (less_le _ _ h2)), by rw [r1.length, r2.length]; exact hl, fun e0 => ?_, fun e0 e1 => ?_, fun e0 e1 l hn => ?_⟩))
    · subst e0
      cases r1
      exact q _ H (Same.refl H) (.tup h2 r2)
    · subst e1
      cases r2
      rw [List.append_nil] at q
      exact q _ H (Same.refl H) (.tup h1 r1)
    · exact q _ _ (same_upd hn) (new_tup al hn (r1.append r2))⟩
theorem dec_strV {i j : Str} : decide (V.str i = V.str j) = decide (i = j) := by
  rw [Bool.eq_iff_iff]
  simp
theorem dec_intV {i j : Int} : decide (V.int i = V.int j) = decide (i = j) := by
  rw [Bool.eq_iff_iff]
  simp
theorem o_eq (x : XOk X E k) : OpOk X (compareOp .Eq) (fun x y H Q => rEq x y H Q ∨ rEqD X.K x y H Q) .f opEq := ⟨op_eq.or (op_eqD x.u64), fun pot M H x y d e z al pm ph rx ry hz Q q => by
  unfold opEq eqD at hz
  split at hz
  · cases hz
    rw [rb_str rx, rb_str ry]
    exact .inl ⟨rfl, by rw [dec_strV]; exact q _ H (Same.refl H) (.bl _)⟩
  · cases hz
    rw [rb_int rx, rb_int ry]
    exact .inl ⟨rfl, by rw [dec_intV]; exact q _ H (Same.refl H) (.bl _)⟩
  · unfold eqP at hz
    split at hz
    · rename_i p p' e1 e2
      split at hz
      · rename_i hs
        cases hz
        obtain ⟨s1, s2⟩ := Bool.and_eq_true_iff.mp hs
        exact .inr ⟨p, p', (rb_rp rx).dp e1, (rb_rp ry).dp e2, s1, s2, q _ H (Same.refl H) (.bl _)⟩
      · cases hz
    · cases hz⟩
theorem o_ne (x : XOk X E k) : OpOk X (compareOp .NotEq) (fun x y H Q => rNe x y H Q ∨ rNeD X.K x y H Q) .f opNe := ⟨op_ne.or (op_neD x.u64), fun pot M H x y d e z al pm ph rx ry hz Q q => by
  unfold opNe eqD at hz
  split at hz
  · cases hz
    rw [rb_str rx, rb_str ry]
    exact .inl ⟨rfl, by rw [dec_strV]; exact q _ H (Same.refl H) (.bl _)⟩
  · cases hz
    rw [rb_int rx, rb_int ry]
    exact .inl ⟨rfl, by rw [dec_intV]; exact q _ H (Same.refl H) (.bl _)⟩
  · unfold eqP at hz
    split at hz
    · rename_i p p' e1 e2
      split at hz
      · rename_i hs
        cases hz
        obtain ⟨s1, s2⟩ := Bool.and_eq_true_iff.mp hs
        exact .inr ⟨p, p', (rb_rp rx).dp e1, (rb_rp ry).dp e2, s1, s2, q _ H (Same.refl H) (.bl _)⟩
      · cases hz
    · cases hz⟩
end
end DL
set_option maxHeartbeats 2000000
namespace DL
open PySem PySem.Spec PyProof.Rows L2
section
variable {mg : Str → Option Value} {K : PySem.W.Frag} {pot : Option Addr} {M : List Addr} {H H' : Hp} {v x : V} {d : D}
theorem RpL.empty {vs : List V} {ds : List D} (h : RpL mg K H vs ds) : vs.isEmpty = ds.isEmpty := by
  cases h <;> rfl
theorem tru_of {k : Bool} (h : Rb mg K pot M H x d) (e : truth d = some k) : TruV K x H k := by
  cases d with
  | non =>
    cases rb_non h
    cases e
    rfl
  | bl b =>
    cases rb_bl h
    cases e
    rfl
  | int i =>
    cases rb_int h
    simp only [truth, Option.some.injEq] at e
    exact e.symm
  | str y =>
    cases rb_str h
    simp only [truth] at e
    split at e
    · rename_i hl
      simp only [Option.some.injEq] at e
      exact ⟨hl, e.symm⟩
    · cases e
  | lst ds =>
    obtain ⟨p, xs, rfl, h1, r1⟩ := rb_lst h
    simp only [truth, Option.some.injEq] at e
    exact .inl ⟨xs, .inl (.inl h1), by rw [r1.empty, e]⟩
  | tup ds =>
    obtain ⟨p, xs, rfl, h1, r1⟩ := rb_tup h
    simp only [truth, Option.some.injEq] at e
    exact .inr (.inl ⟨xs, sqT_mono less_le h1, by rw [r1.empty, e]⟩)
  | dic ks xs => cases e
  | ins c ns xs => cases e
theorem Args.rpl : ∀ {ks : List Ak} {vs : List V} {ds : List D}, Args mg K pot M H ks vs ds → (∀ k ∈ ks, k = Ak.f) → RpL mg K (less H M) vs ds
  | _, _, _, .nil, _ => .nil
  | _, _, _, .cons (k := k) a r, h => by
    have e : k = .f := h k (List.mem_cons_self ..)
    subst e
    exact .cons a (r.rpl fun k hk => h k (List.mem_cons_of_mem _ hk))
end
section
variable {X : Cx} {E : XK} {Γ : List Md} {r ra rb rc : Rm} {e a b c : Expr} {ta tb tc te : TE} {fa fb fc fe : Ed} {tt uu : TT} {ft fu : Et} {pos : Pos} {k : Nat} {ks : List Ak} {es rest : List Expr} {tA : TA} {fA : Ea}
theorem de_one {op : BoolOp} (ha : DE X E r Γ a ta fa) : DE X E r Γ (.BoolOp op [a] pos) ta fa := ⟨pe_one ha.pe, ha.sem⟩
theorem de_and (ha : DE X E .f Γ a ta fa) (hb : DE X E .f Γ (.BoolOp .And (b :: rest) pos) tb fb) : DE X E .f Γ (.BoolOp .And (a :: b :: rest) pos) (tAndT X.K ta tb) (eAnd fa fb) :=
  ⟨pe_andT ha.pe hb.pe, fun pot M σ H ρ π I p Q h => by
    refine Post.seq (r' := .f) (te := ta σ H) h p (fun Q' hq => ha.sem pot M σ H ρ π I p Q' hq) fun d π1 v H1 _ g1 p1 r1 h1 => ?_
    cases hz : truth d with
    | none =>
      simp only [hz, ofO_none, Res.bind_stuck] at h1
      exact h1.elim
    | some z =>
      simp only [hz, ofO_some, Res.bind_ok] at h1
      refine ⟨z, tru_of r1.toB hz, ?_⟩
      cases z with
      | true => exact hb.sem pot M σ H1 ρ π1 (I.grow g1 p1) p1 Q h1
      | false => exact h1 v H1 .refl p1 r1⟩
theorem de_not (ha : DE X E r Γ a ta fa) : DE X E .f Γ (.UnaryOp .Not a pos) (tNotT X.K ta) (eNot fa) :=
  ⟨pe_notT ha.pe, fun pot M σ H ρ π I p Q h => by
    refine Post.seq (r' := r) (te := ta σ H) h p (fun Q' hq => ha.sem pot M σ H ρ π I p Q' hq) fun d π1 v H1 _ g1 p1 r1 h1 => ?_
    cases hz : truth d with
    | none =>
      simp only [hz, ofO_none, Res.bind_stuck] at h1
      exact h1.elim
    | some z =>
      simp only [hz, ofO_some, Res.bind_ok] at h1
      exact ⟨z, tru_of r1.toB hz, h1 _ H1 .refl p1 (.bl _)⟩⟩
theorem PostT.seq {pot : Option Addr} {M : List Addr} {H : Hp} {π : Pot} {x : Res (Bool × Pot)} {kk : Bool × Pot → Res (D × Pot)} {Q : VK} (h : Post X.mg X.K r pot M H (x.bind kk) Q E) (h0 : PotAt pot H π)
    {te : (Bool → Hp → Prop) → Prop} (ht : ∀ Q', PostT X.mg X.K pot M H x Q' E → te Q') {R : Bool → Hp → Prop}
    (hk : ∀ d π1 H1, x = .ok (d, π1) → Grow pot H H1 → PotAt pot H1 π1 → Post X.mg X.K r pot M H1 (kk (d, π1)) Q E → R d H1) : te R := by
  refine ht R ?_
  cases x with
  | ok a =>
    obtain ⟨d, π1⟩ := a
    exact fun H1 g p => hk d π1 H1 rfl g p (Post.back g h0 h)
  | err c ns xs π' => exact h
  | stuck => exact h
theorem PostT.seqT {pot : Option Addr} {M : List Addr} {H : Hp} {x : Res (Bool × Pot)} {kk : Bool × Pot → Res (Bool × Pot)} {Q : Bool → Hp → Prop} (h : PostT X.mg X.K pot M H (x.bind kk) Q E)
    {te : (Bool → Hp → Prop) → Prop} (ht : ∀ Q', PostT X.mg X.K pot M H x Q' E → te Q') {R : Bool → Hp → Prop}
    (hk : ∀ d π1 H1, x = .ok (d, π1) → Grow pot H H1 → PotAt pot H1 π1 → PostT X.mg X.K pot M H1 (kk (d, π1)) Q E → R d H1) : te R := by
  refine ht R ?_
  cases x with
  | ok a =>
    obtain ⟨d, π1⟩ := a
    exact fun H1 g p => hk d π1 H1 rfl g p (PostT.back g h)
  | err c ns xs π' => exact h
  | stuck => exact h
theorem Post.seqT {pot : Option Addr} {M : List Addr} {H : Hp} {x : Res (D × Pot)} {kk : D × Pot → Res (Bool × Pot)} {Q : Bool → Hp → Prop} (h : PostT X.mg X.K pot M H (x.bind kk) Q E)
    {te : VK → Prop} (ht : ∀ Q', Post X.mg X.K r pot M H x Q' E → te Q') {R : VK}
    (hk : ∀ d π1 v H1, x = .ok (d, π1) → Grow pot H H1 → PotAt pot H1 π1 → RpR X.mg X.K r pot M H H1 v d → PostT X.mg X.K pot M H1 (kk (d, π1)) Q E → R v H1) : te R := by
  refine ht R ?_
  cases x with
  | ok a =>
    obtain ⟨d, π1⟩ := a
    exact fun v H1 g p q => hk d π1 v H1 rfl g p q (PostT.back g h)
  | err c ns xs π' => exact h
  | stuck => exact h
theorem dt_of (ha : DE X E r Γ a ta fa) (he : ∀ whole, isTrue a X.env whole = (do let v ← whole; standAt a.pos; holding [v] (truthy v)) := by intro _; rfl) : DT X E Γ a (fun σ H Q => ta σ H fun x H' => ∃ k, TruV X.K x H' k ∧ Q k H') (tOf fa) :=
  ⟨pt_truth ha.pe he, fun pot M σ H ρ π I p Q h => by
    refine Post.seqT (r := r) (te := ta σ H) h (fun Q' hq => ha.sem pot M σ H ρ π I p Q' hq) fun d π1 v H1 _ g1 p1 r1 h1 => ?_
    cases hz : truth d with
    | none =>
      simp only [hz, ofO_none, Res.bind_stuck] at h1
      exact h1.elim
    | some z =>
      simp only [hz, ofO_some, Res.bind_ok] at h1
      exact ⟨z, tru_of r1.toB hz, h1 H1 .refl p1⟩⟩
theorem sem_bl {t : TE} {f : Ed} (ha : SemE X.mg X.K E .f Γ t f) : SemT X.mg X.K E Γ (tTest t) (tBl f) := fun pot M σ H ρ π I p Q h => by
  refine Post.seqT (r := .f) (te := t σ H) h (fun Q' hq => ha pot M σ H ρ π I p Q' hq) fun d π1 v H1 _ g1 p1 r1 h1 => ?_
  cases d with
  | bl z =>
    cases rb_bl (RpR.toB (r := .f) r1)
    exact ⟨z, rfl, h1 H1 .refl p1⟩
  | _ => exact h1.elim
theorem dt_cmp {op : CmpOp} {r2 : R2} {g : D → D → Option D} (o : OpOk X (compareOp op) r2 .f g) (ha : DE X E ra Γ a ta fa) (hb : DE X E rb Γ b tb fb) (hm : behindInMarks op b = false := by rfl) : DT X E Γ (.Compare a [op] [b] pos) (tTest (tOp r2 ta tb)) (tBl (eBin g fa fb)) :=
  ⟨pt_cmpR o.1 ha.pe hb.pe hm, sem_bl (sem_bin o.2 ha.sem hb.sem)⟩
theorem dt_not (hc : DT X E Γ c tt ft) : DT X E Γ (.UnaryOp .Not c pos) (tNot tt) (tNotD ft) :=
  ⟨pt_not hc.pt, fun pot M σ H ρ π I p Q h => by
    refine PostT.seqT (te := tt σ H) h (fun Q' hq => hc.sem pot M σ H ρ π I p Q' hq) fun d π1 H1 _ g1 p1 h1 => ?_
    exact h1 H1 .refl p1⟩
theorem dw_or1 (hc : DT X E Γ c tt ft) : DW X E Γ (.BoolOp .Or [c] pos) tt ft := ⟨pw_or1 hc.pt, hc.sem⟩
theorem dw_or (hc : DT X E Γ a tt ft) (hb : DW X E Γ (.BoolOp .Or (b :: rest) pos) uu fu) : DW X E Γ (.BoolOp .Or (a :: b :: rest) pos) (tOr tt uu) (tOrD ft fu) :=
  ⟨pw_or hc.pt hb.pw, fun pot M σ H ρ π I p Q h => by
    refine PostT.seqT (te := tt σ H) h (fun Q' hq => hc.sem pot M σ H ρ π I p Q' hq) fun d π1 H1 _ g1 p1 h1 => ?_
    cases d with
    | true => exact h1 H1 .refl p1
    | false => exact hb.sem pot M σ H1 ρ π1 (I.grow g1 p1) p1 Q h1⟩
/-- a < b <= c -/
def eChain (g g' : D → D → Option D) (a b c : Ed) : Ed := fun ρ π => (a ρ π).bind fun x => (b ρ x.2).bind fun y => (ofO (g x.1 y.1)).bind fun z => match z with
  | .bl true => (c ρ y.2).bind fun u => (ofO (g' y.1 u.1)).bind fun q => .ok (q, u.2)
  | .bl false => .ok (.bl false, y.2)
  | _ => .stuck
theorem da_nil : DA X E [] Γ [] tNil aNil := ⟨pa_nil, fun pot M σ H ρ π I p Q h => h _ H .refl p .nil⟩
theorem sem_cons {kk : Ak} {ra : Rm} (hr : ∀ pot M H H' v d, (∀ a ∈ M, Al H a) → RpR X.mg X.K ra pot M H H' v d → ArgR X.mg X.K pot M H' kk v d) (ha : SemE X.mg X.K E ra Γ ta fa) (hA : SemA X.mg X.K E ks Γ tA fA) : SemA X.mg X.K E (kk :: ks) Γ (tCons ta tA) (aCons fa fA) :=
  fun pot M σ H ρ π I p Q h => by
    refine ha pot M σ H ρ π I p _ ?_
    unfold aCons at h
    cases e : fa ρ π with
    | ok x =>
      obtain ⟨d, π1⟩ := x
      rw [e] at h
      intro v H1 g1 p1 r1
      refine hA pot M σ H1 ρ π1 (I.grow g1 p1) p1 _ ?_
      cases e2 : fA ρ π1 with
      | ok y =>
        obtain ⟨ds, π2⟩ := y
        simp only [Res.bind_ok, e2] at h
        intro vs H2 g2 p2 r2
        exact h _ H2 (g1.trans g2) p2 (.cons ((hr _ _ _ _ _ _ I.al r1).grow I.pm g2) r2)
      | err c ns xs π' =>
        simp only [Res.bind_ok, e2, Res.bind_err] at h
        exact PErr.back h g1
      | stuck =>
        simp only [Res.bind_ok, e2, Res.bind_stuck] at h
        exact h
    | err c ns xs π' =>
      rw [e] at h
      exact h
    | stuck =>
      rw [e] at h
      exact h
theorem da_f (ha : DE X E .f Γ a ta fa) (hA : DA X E ks Γ es tA fA) (hs : starEach (a :: es) X.env = (false, eval a X.env) :: starEach es X.env := by rfl) : DA X E (.f :: ks) Γ (a :: es) (tCons ta tA) (aCons fa fA) :=
  ⟨pa_cons ha.pe hA.pa hs, sem_cons (kk := .f) (ra := .f) (fun _ _ _ _ _ _ _ h => h) ha.sem hA.sem⟩
theorem da_b (ha : DE X E r Γ a ta fa) (hA : DA X E ks Γ es tA fA) (hs : starEach (a :: es) X.env = (false, eval a X.env) :: starEach es X.env := by rfl) : DA X E (.b :: ks) Γ (a :: es) (tCons ta tA) (aCons fa fA) :=
  ⟨pa_cons ha.pe hA.pa hs, sem_cons (kk := .b) (fun _ _ _ _ _ _ _ h => h.toB) ha.sem hA.sem⟩
/-- the pot, the script handed on -/
theorem da_p (i : Nat) {x : Str} (hA : DA X E ks Γ es tA fA) (hN : X.N[i]? = some x := by rfl) (hv : Vis X.env.scope x := by first | exact Or.inl rfl | exact Or.inr (Or.inl rfl) | exact Or.inr (Or.inr rfl)) (hΓ : Γ[i]? = some .p := by rfl)
    (hd : (x == ("__debug__" : Str)) = false := by decide) (hcd : (x == ("__classdict__" : Str)) = false := by decide) (hs : starEach (.Name x pos :: es) X.env = (false, eval (.Name x pos) X.env) :: starEach es X.env := by rfl) :
    DA X E (.p :: ks) Γ (.Name x pos :: es) (tCons (tVar i) tA) (aCons (eC .non) fA) :=
  ⟨pa_cons (pe_var hN hv hd hcd) hA.pa hs, fun pot M σ H ρ π I p Q h => by
    obtain ⟨q, e, e1⟩ := I.p i hΓ
    refine ⟨_, e1, ?_⟩
    refine hA.sem pot M σ H ρ π I p _ ?_
    unfold aCons eC at h
    simp only [Res.bind_ok] at h
    cases e2 : fA ρ π with
    | ok y =>
      obtain ⟨ds, π2⟩ := y
      simp only [Res.bind_ok, e2] at h
      exact fun vs H2 g2 p2 r2 => h _ H2 g2 p2 (.cons ⟨q, e, rfl⟩ r2)
    | err c ns xs π' =>
      simp only [e2, Res.bind_err] at h
      exact h
    | stuck =>
      simp only [e2, Res.bind_stuck] at h
      exact h⟩
theorem da_s (i : Nat) {x : Str} (hA : DA X E ks Γ es tA fA) (hN : X.N[i]? = some x := by rfl) (hv : Vis X.env.scope x := by first | exact Or.inl rfl | exact Or.inr (Or.inl rfl) | exact Or.inr (Or.inr rfl)) (hΓ : Γ[i]? = some .s := by rfl)
    (hd : (x == ("__debug__" : Str)) = false := by decide) (hcd : (x == ("__classdict__" : Str)) = false := by decide) (hs : starEach (.Name x pos :: es) X.env = (false, eval (.Name x pos) X.env) :: starEach es X.env := by rfl) :
    DA X E (.s :: ks) Γ (.Name x pos :: es) (tCons (tVar i) tA) (aCons (eVar i) fA) :=
  ⟨pa_cons (pe_var hN hv hd hcd) hA.pa hs, fun pot M σ H ρ π I p Q h => by
    unfold aCons eVar at h
    split at h
    · rename_i d e
      obtain ⟨q, ns, e1, e2, e3⟩ := I.s i d hΓ e
      refine ⟨_, e1, ?_⟩
      refine hA.sem pot M σ H ρ π I p _ ?_
      simp only [Res.bind_ok] at h
      cases e2 : fA ρ π with
      | ok y =>
        obtain ⟨ds, π2⟩ := y
        simp only [Res.bind_ok, e2] at h
        exact fun vs H2 g2 p2 r2 => h _ H2 g2 p2 (.cons (ArgR.grow (k := .s) I.pm g2 ⟨q, ns, rfl, by assumption, e3⟩) r2)
      | err c ns xs π' =>
        simp only [e2, Res.bind_err] at h
        exact h
      | stuck =>
        simp only [e2, Res.bind_stuck] at h
        exact h
    · exact h.elim⟩
theorem PostA.seq {r : Rm} {pot : Option Addr} {M : List Addr} {H : Hp} {π : Pot} {x : Res (List D × Pot)} {kk : List D × Pot → Res (D × Pot)} {Q : VK} (h : Post X.mg X.K r pot M H (x.bind kk) Q E) (h0 : PotAt pot H π)
    {te : (List V → Hp → Prop) → Prop} (ht : ∀ Q', PostA X.mg X.K ks pot M H x Q' E → te Q') {R : List V → Hp → Prop}
    (hk : ∀ ds π1 vs H1, x = .ok (ds, π1) → Grow pot H H1 → PotAt pot H1 π1 → Args X.mg X.K pot M H1 ks vs ds → Post X.mg X.K r pot M H1 (kk (ds, π1)) Q E → R vs H1) : te R := by
  refine ht R ?_
  cases x with
  | ok a =>
    obtain ⟨d, π1⟩ := a
    exact fun vs H1 g p q => hk d π1 vs H1 rfl g p q (Post.back g h0 h)
  | err c ns xs π' => exact h
  | stuck => exact h
theorem de_tup {x1 : Nat} (hA : DA X E ks Γ es tA fA) (hk : ∀ k ∈ ks, k = Ak.f := by decide) : DE X E .f Γ (.Tuple es x1 pos) (tTup tA) (eTup fA) :=
  ⟨pe_tup hA.pa, fun pot M σ H ρ π I p Q h => by
    refine PostA.seq (ks := ks) (te := tA σ H) h p (fun Q' hq => hA.sem pot M σ H ρ π I p Q' hq) fun ds π1 vs H1 _ g1 p1 r1 h1 => ?_
    split at h1
    · rename_i hl
      have r2 := r1.rpl hk
      exact ⟨by rw [r2.length]; exact hl, fun q hn => h1 _ _ (.new hn) (p1.new hn) (new_tup (I.grow g1 p1).al hn r2)⟩
    · exact h1.elim⟩
theorem de_lst (hA : DA X E ks Γ es tA fA) (hk : ∀ k ∈ ks, k = Ak.f := by decide) : DE X E .o Γ (.List es pos) (tLst tA) (eLst fA) :=
  ⟨pe_lst hA.pa, fun pot M σ H ρ π I p Q h => by
    refine PostA.seq (ks := ks) (te := tA σ H) h p (fun Q' hq => hA.sem pot M σ H ρ π I p Q' hq) fun ds π1 vs H1 _ g1 p1 r1 h1 => ?_
    split at h1
    · rename_i hl
      have r2 := r1.rpl hk
      exact ⟨by rw [r2.length]; exact hl, fun q hn => h1 _ _ (.new hn) (p1.new hn) (new_lst p1.has hn r2)⟩
    · exact h1.elim⟩
def SemCall (mg : Str → Option Value) (K : PySem.W.Frag) (rc : List V → Hp → VK → Prop) (ks : List Ak) (rz : Rm) (g : List D → Option D) : Prop :=
  ∀ (pot : Option Addr) (M : List Addr) (H : Hp) (vs : List V) (ds : List D) (z : D), (∀ a ∈ M, Al H a) → (∀ a, pot = some a → a ∈ M) → (∀ a, pot = some a → H a ≠ none) → Args mg K pot M H ks vs ds → g ds = some z →
    ∀ Q : VK, (∀ v H', Same H H' → RpR mg K rz pot M H H' v z → Q v H') → rc vs H Q
abbrev CallOk (X : Cx) (f : Value) (rc : List V → Hp → VK → Prop) (ks : List Ak) (rz : Rm) (g : List D → Option D) : Prop := CallR X f rc ∧ SemCall X.mg X.K rc ks rz g
theorem sem_app {rc : List V → Hp → VK → Prop} {rz : Rm} {g : List D → Option D} (o : SemCall X.mg X.K rc ks rz g) (hA : SemA X.mg X.K E ks Γ tA fA) : SemE X.mg X.K E rz Γ (tCB rc tA) (eApp g fA) := fun pot M σ H ρ π I p Q h => by
  refine PostA.seq (ks := ks) (te := tA σ H) h p (fun Q' hq => hA pot M σ H ρ π I p Q' hq) fun ds π1 vs H1 _ g1 p1 r1 h1 => ?_
  cases hz : g ds with
  | none =>
    simp only [hz, ofO_none, Res.bind_stuck] at h1
    exact h1.elim
  | some z =>
    simp only [hz, ofO_some, Res.bind_ok] at h1
    exact o pot M H1 vs ds z (I.grow g1 p1).al I.pm p1.has r1 hz Q fun u H3 s q => h1 u H3 (.of_same s) (p1.same s) q
theorem de_callB {id : String} {x : Str} {p : Pos} {rc : List V → Hp → VK → Prop} {rz : Rm} {g : List D → Option D} (o : CallOk X (.builtin id) rc ks rz g) (hm : X.mg x = none) (hA : DA X E ks Γ (e :: es) tA fA) (hg : Gl X x := by rfl) (hv : bootBuiltins x = some (.builtin id) := by decide +kernel)
    (hn : x ≠ "__name__" := by decide) (hdb : (x == ("__debug__" : Str)) = false := by decide) (he : starEach (e :: es) X.env = (false, eval e X.env) :: starEach es X.env := by rfl) (hpl : (backTo pos (starEach es X.env)).any (·.1) = false := by rfl) :
    DE X E rz Γ (.Call (.Name x p) (e :: es) [] pos) (tCB rc tA) (eApp g fA) := ⟨pe_callB o.1 hg hm hv hA.pa hn hdb he hpl, sem_app o.2 hA.sem⟩
theorem de_callTy {T : String} {x : Str} {p : Pos} {rc : List V → Hp → VK → Prop} {rz : Rm} {g : List D → Option D} (o : CallOk X (.type T) rc ks rz g) (hm : X.mg x = none) (hA : DA X E ks Γ (e :: es) tA fA) (hg : Gl X x := by rfl) (hv : bootBuiltins x = some (.type T) := by decide +kernel)
    (hn : x ≠ "__name__" := by decide) (hdb : (x == ("__debug__" : Str)) = false := by decide) (he : starEach (e :: es) X.env = (false, eval e X.env) :: starEach es X.env := by rfl) (hpl : (backTo pos (starEach es X.env)).any (·.1) = false := by rfl) :
    DE X E rz Γ (.Call (.Name x p) (e :: es) [] pos) (tCB rc tA) (eApp g fA) := ⟨pe_callTy o.1 hg hm hv hA.pa hn hdb he hpl, sem_app o.2 hA.sem⟩
end
end DL
set_option maxHeartbeats 2000000
namespace DL
open PySem PySem.Spec PyProof.Rows L2
/-- a list (l) or a tuple at a -/
structure Src where
  l : Bool
  a : Addr
def Src.sq (K : PySem.W.Frag) (S : Src) (H : Hp) (xs : List V) : Prop := if S.l = true then SqL K H S.a xs else SqT K H S.a xs
section
variable {S : Src} {X : Cx} {pins : List (Addr × Obj)} {σ : L2.St} {H : Hp} {s : Shared} {h h' : Heap}
theorem Src.inj {xs ys : List V} (I : Inv X pins σ H s) (q : S.sq X.K H xs) (r : S.sq X.K H ys) : xs = ys := by
  unfold Src.sq at q r
  split at q
  · rename_i e
    rw [if_pos e] at r
    exact I.list_inj q r
  · rename_i e
    rw [if_neg e] at r
    exact I.tuple_inj q r
end
def ItS (K : PySem.W.Frag) (S : Src) : It := if S.l = true then Itl K S.a else Itt K S.a
def iSeq (K : PySem.W.Frag) (tl : TE) : TI := fun σ H R => tl σ H fun x H1 => ∃ S : Src, x = .ref S.a ∧ (∃ xs, S.sq K H1 xs) ∧ R (ItS K S) H1
theorem pi_seq {X : Cx} {tg l : Expr} {tl : TE} (hl : PE X l tl) : PI X tg l (iSeq X.K tl) := by
  refine ⟨fun pins s σ H R I h => ?_⟩
  refine thn (hl.run pins s σ H _ I h) fun v s1 ⟨x, H1, I1, r1, q1⟩ => ?_
  obtain ⟨⟨b, a⟩, e, ⟨xs, hq⟩, q⟩ := q1
  subst e
  cases r1
  cases b
  · obtain ⟨its, rv, p, hz⟩ := I1.tuple hq
    refine wpAny_pyIter_tuple (show s1.heap.IsTuple a its.toArray from p) ⟨s1.heap.objs.size, [s1.heap.objs.size], _, _, H1, rfl, I1.kept (t' := s1.toks) fun b o e => Heap.get?_push_of_some _ e, turn_tuple a _, ⟨_, Heap.get?_push_size _ rfl, rfl, rfl⟩, fun b hb => ?_, q⟩
    rw [List.mem_singleton.mp hb]
    exact I1.fpOk (Nat.le_refl _) (I1.hok.fresh (Nat.le_refl _))
  · obtain ⟨its, rv, p, hz⟩ := I1.list hq
    refine wpAny_pyIter_list p.isList ⟨s1.heap.objs.size, [s1.heap.objs.size], _, _, H1, rfl, I1.kept (t' := s1.toks) fun b o e => Heap.get?_push_of_some _ e, turn_list a _, ⟨_, Heap.get?_push_size _ rfl, rfl, rfl⟩, fun b hb => ?_, q⟩
    rw [List.mem_singleton.mp hb]
    exact I1.fpOk (Nat.le_refl _) (I1.hok.fresh (Nat.le_refl _))
theorem walk_seq {K : PySem.W.Frag} {S : Src} {xs : List V} : Walk (ItS K S) xs.length (fun H => S.sq K H xs) (YAt xs) := by
  obtain ⟨b, a⟩ := S
  cases b
  · exact walk_tup
  · exact walk_list
end DL
set_option maxHeartbeats 2000000
namespace DL
open PySem PySem.Spec PyProof.Rows L2
abbrev Ei := Rho → Pot → Res (List D × Pot)
section
variable (mg : Str → Option Value) (K : PySem.W.Frag)
/-- an iterator gives these data; w: as long as nothing but the pot changes -/
structure WalkD (w : Bool) (pot : Option Addr) (M : List Addr) (H1 : Hp) (J : It) (items : List D) (G : Hp → Prop) (Y : Nat → Hp → V → Hp → Prop) : Prop where
  walk : Walk J items.length G Y
  stay : ∀ H' M', (w = true → Grow pot H1 H') → Same (less H1 M) (less H' M') → G H'
  item : ∀ i H x H' M', (w = true → Grow pot H1 H) → Same (less H1 M) (less H M') → (∀ a ∈ M', Al H a) → i < items.length → Y i H x H' → Same H H' ∧ ∃ d, items[i]? = some d ∧ Rp mg K (less H' M') x d
def PostI (w : Bool) (pot : Option Addr) (M : List Addr) (H : Hp) (x : Res (List D × Pot)) (R : It → Hp → Prop) (E : XK) : Prop := match x with
  | .ok (items, π) => ∀ J H1 G Y, Grow pot H H1 → PotAt pot H1 π → WalkD mg K w pot M H1 J items G Y → R J H1
  | .err c ns xs π => PErr mg K pot M H c ns xs π E
  | .stuck => False
def SemI (w : Bool) (E : XK) (Γ : List Md) (wi : TI) (fi : Ei) : Prop :=
  ∀ pot M σ H ρ π, EnvOk mg K Γ pot M σ H ρ → PotAt pot H π → ∀ R, PostI mg K w pot M H (fi ρ π) R E → wi σ H R
/-- a target: the slots that it sets -/
def SemG (Γ : List Md) (is : List Nat) (g : TG) (fg : D → Rho → Option Rho) : Prop :=
  ∀ pot M σ H ρ v d, EnvOk mg K Γ pot M σ H ρ → Rp mg K (less H M) v d → ∀ ρ', fg d ρ = some ρ' → ∀ Q : L2.St → Hp → Prop, (∀ σ', EnvOk mg K Γ pot M σ' H ρ' → (∀ i, i ∉ is → σ'[i]? = σ[i]?) → (∀ i, i ∉ is → ρ'[i]? = ρ[i]?) → Q σ' H) → g v σ H Q
def SemGs (Γ : List Md) (is : List Nat) (g : TGs) (fg : List D → Rho → Option Rho) : Prop :=
  ∀ pot M σ H ρ vs ds, EnvOk mg K Γ pot M σ H ρ → RpL mg K (less H M) vs ds → ∀ ρ', fg ds ρ = some ρ' → ∀ Q : L2.St → Hp → Prop, (∀ σ', EnvOk mg K Γ pot M σ' H ρ' → (∀ i, i ∉ is → σ'[i]? = σ[i]?) → (∀ i, i ∉ is → ρ'[i]? = ρ[i]?) → Q σ' H) → g vs σ H Q
end
structure DI (w : Bool) (X : Cx) (E : XK) (Γ : List Md) (tg iter : Expr) (wi : TI) (fi : Ei) : Prop where
  pi : PI X tg iter wi
  sem : SemI X.mg X.K w E Γ wi fi
structure DG (X : Cx) (Γ : List Md) (tg : Expr) (is : List Nat) (g : TG) (fg : D → Rho → Option Rho) : Prop where
  pg : PG X tg g
  fs : ∀ i ∈ is, Γ[i]? = some .f
  sem : SemG X.mg X.K Γ is g fg
structure DGs (X : Cx) (Γ : List Md) (tgs : List Expr) (is : List Nat) (g : TGs) (fg : List D → Rho → Option Rho) : Prop where
  pgs : PGs X tgs g
  fs : ∀ i ∈ is, Γ[i]? = some .f
  sem : SemGs X.mg X.K Γ is g fg
def gN (i : Nat) : D → Rho → Option Rho := fun d ρ => some (ρ.set i (some d))
def gsNil : List D → Rho → Option Rho := fun ds ρ => match ds with
  | [] => some ρ
  | _ => none
def gsCons (a : D → Rho → Option Rho) (b : List D → Rho → Option Rho) : List D → Rho → Option Rho := fun ds ρ => match ds with
  | d :: r => (a d ρ).bind (b r)
  | [] => none
def gT (n : Nat) (b : List D → Rho → Option Rho) : D → Rho → Option Rho := fun d ρ => match d with
  | .tup ds => if ds.length = n then b ds ρ else none
  | _ => none
section
variable {mg : Str → Option Value} {K : PySem.W.Frag} {pot : Option Addr} {M : List Addr} {H H' : Hp} {v : V} {d : D} {Γ : List Md} {σ : L2.St} {ρ : Rho}
theorem EnvOk.setf (I : EnvOk mg K Γ pot M σ H ρ) {i : Nat} (hi : Γ[i]? = some .f) (r : Rp mg K (less H M) v d) : EnvOk mg K Γ pot M (σ.set i (some v)) H (ρ.set i (some d)) where
  ls := by rw [List.length_set]; exact I.ls
  lr := by rw [List.length_set]; exact I.lr
  f := fun j e h1 h2 => by
    by_cases e1 : i = j
    · subst e1
      have hl : i < ρ.length := by rw [I.lr]; exact (List.getElem?_eq_some_iff.mp hi).1
      have hs : i < σ.length := by rw [I.ls]; exact (List.getElem?_eq_some_iff.mp hi).1
      rw [List.getElem?_set_self hl] at h2
      cases h2
      exact ⟨v, by rw [List.getElem?_set_self hs], r⟩
    · rw [List.getElem?_set_ne e1] at h2
      obtain ⟨u, q, z⟩ := I.f j e h1 h2
      exact ⟨u, by rw [List.getElem?_set_ne e1]; exact q, z⟩
  o := fun j e h1 h2 => by
    have e1 : i ≠ j := fun q => by rw [q, h1] at hi; cases hi
    rw [List.getElem?_set_ne e1] at h2
    obtain ⟨p, q, z⟩ := I.o j e h1 h2
    exact ⟨p, by rw [List.getElem?_set_ne e1]; exact q, z⟩
  p := fun j h1 => by
    have e1 : i ≠ j := fun q => by rw [q, h1] at hi; cases hi
    obtain ⟨p, q, z⟩ := I.p j h1
    exact ⟨p, q, by rw [List.getElem?_set_ne e1]; exact z⟩
  s := fun j e h1 h2 => by
    have e1 : i ≠ j := fun q => by rw [q, h1] at hi; cases hi
    rw [List.getElem?_set_ne e1] at h2
    obtain ⟨p, ns, q, z⟩ := I.s j e h1 h2
    exact ⟨p, ns, by rw [List.getElem?_set_ne e1]; exact q, z⟩
  ap := fun j k a b c h1 h2 h3 h4 h5 h6 => by
    have e1 : i ≠ j := fun q => by rw [q, h1] at hi; cases hi
    have e2 : i ≠ k := fun q => by rw [q, h2] at hi; cases hi
    rw [List.getElem?_set_ne e1] at h3 h5
    rw [List.getElem?_set_ne e2] at h4 h6
    exact I.ap j k a b c h1 h2 h3 h4 h5 h6
  al := I.al
  pm := I.pm
  x := fun j a dd e h1 h2 => by
    have e1 : i ≠ j := fun q => by rw [q, h1] at hi; cases hi
    rw [List.getElem?_set_ne e1] at h2
    obtain ⟨z1, z2⟩ := I.x j a dd e h1 h2
    exact ⟨by rw [List.getElem?_set_ne e1]; exact z1, z2⟩
end
section
variable {X : Cx} {E : XK} {Γ : List Md} {pos : Pos} {k : Nat}
theorem dg_name (i : Nat) {x : Str} (hN : X.N.Nodup) (hi : X.N[i]? = some x := by rfl) (hx : Loc X.env.scope x := by first | exact Or.inl rfl | exact Or.inr rfl) (hΓ : Γ[i]? = some .f := by rfl)
    (hf : X.fn x = true ∨ X.env.scope.names.lookup x = some .local := by first | exact .inl rfl | exact .inr rfl) : DG X Γ (.Name x pos) [i] (gName i) (gN i) :=
  ⟨pg_name hN hi hx hf, fun j hj => by rw [List.mem_singleton.mp hj]; exact hΓ, fun pot M σ H ρ v d I r ρ' h Q q => by
    cases h
    refine q _ (I.setf hΓ r) (fun j hj => ?_) fun j hj => ?_
    · rw [List.getElem?_set_ne (fun e => hj (by simp [e]))]
    · rw [List.getElem?_set_ne (fun e => hj (by simp [e]))]⟩
theorem dgs_nil : DGs X Γ [] [] gNil gsNil := ⟨pgs_nil, (fun _ h => by cases h), fun pot M σ H ρ vs ds I r ρ' h Q q => by
  cases r with
  | nil =>
    cases h
    exact ⟨rfl, q σ I (fun _ _ => rfl) fun _ _ => rfl⟩
  | cons => cases h⟩
theorem dgs_cons {e : Expr} {es : List Expr} {is js : List Nat} {g : TG} {gs : TGs} {fg : D → Rho → Option Rho} {fgs : List D → Rho → Option Rho} (a : DG X Γ e is g fg) (b : DGs X Γ es js gs fgs)
    (hs : (assignEach (e :: es) X.env).map (·.2) = assign e X.env :: (assignEach es X.env).map (·.2) := by rfl) : DGs X Γ (e :: es) (is ++ js) (gCons g gs) (gsCons fg fgs) :=
  ⟨pgs_cons a.pg b.pgs hs, fun i hi => (List.mem_append.mp hi).elim (a.fs i) (b.fs i), fun pot M σ H ρ vs ds I r ρ' h Q q => by
    cases r with
    | nil => cases h
    | cons r1 r2 =>
      rename_i v ws d es
      unfold gsCons at h
      simp only [Option.bind_eq_some_iff] at h
      obtain ⟨ρ1, h1, h2⟩ := h
      refine ⟨v, ws, rfl, a.sem pot M σ H ρ v d I r1 ρ1 h1 _ fun σ1 I1 s1 s2 => ?_⟩
      refine b.sem pot M σ1 H ρ1 ws es I1 r2 ρ' h2 _ fun σ2 I2 s3 s4 => q σ2 I2 (fun i hi => ?_) fun i hi => ?_
      · rw [s3 i fun z => hi (List.mem_append_right _ z), s1 i fun z => hi (List.mem_append_left _ z)]
      · rw [s4 i fun z => hi (List.mem_append_right _ z), s2 i fun z => hi (List.mem_append_left _ z)]⟩
end
def seqOf : D → Option (List D)
  | .lst xs => some xs
  | .tup xs => some xs
  | _ => none
def iVal (a : Ed) : Ei := fun ρ π => (a ρ π).bind fun x => (ofO (seqOf x.1)).bind fun z => .ok (z, x.2)
def numbered : Nat → List D → List D
  | _, [] => []
  | n, x :: xs => .tup [.int (n : Int), x] :: numbered (n + 1) xs
def iEnumD (a : Ea) : Ei := fun ρ π => (a ρ π).bind fun x => match x.1 with
  | [d] => (ofO (seqOf d)).bind fun z => .ok (numbered 0 z, x.2)
  | _ => .stuck
def rangeD (lo c : Int) (n : Nat) : List D := (List.range n).map fun (i : Nat) => .int (lo + (i : Int) * c)
def mid62 (i : Int) : Bool := decide (-4611686018427387904 ≤ i ∧ i < 4611686018427387904)
def rng (xs : List D) : Option (List D) := match xs with
  | [.int j] => if mid62 j then some (rangeD 0 1 j.toNat) else none
  | [.int i, .int j] => if mid62 i && mid62 j then some (rangeD i 1 (j - i).toNat) else none
  | _ => none
def iRng (a : Ea) : Ei := fun ρ π => (a ρ π).bind fun x => (ofO (rng x.1)).bind fun z => .ok (z, x.2)
/-- range(i, j, -1) -/
def rngDown (xs : List D) : Option (List D) := match xs with
  | [.int i, .int j, .int c] => if mid62 i && mid62 j && decide (c = -1) then some (rangeD i (-1) (i - j).toNat) else none
  | _ => none
def iRngDown (a : Ea) : Ei := fun ρ π => (a ρ π).bind fun x => (ofO (rngDown x.1)).bind fun z => .ok (z, x.2)
section
variable {mg : Str → Option Value} {K : PySem.W.Frag} {pot : Option Addr} {M : List Addr} {H H1 H' : Hp} {v x : V} {d : D} {ds : List D}
/-- a list or a tuple of data: where it lies -/
theorem seq_src (h : Rp mg K (less H M) x d) (e : seqOf d = some ds) : ∃ (S : Src) (xs : List V), x = .ref S.a ∧ S.sq K (less H M) xs ∧ RpL mg K (less H M) xs ds := by
  cases d with
  | lst es =>
    cases e
    cases h with
    | lst h1 h2 => exact ⟨⟨true, _⟩, _, rfl, .inl (.inl h1), h2⟩
  | tup es =>
    cases e
    cases h with
    | tup h1 h2 => exact ⟨⟨false, _⟩, _, rfl, .inl (.inl h1), h2⟩
  | _ => cases e
theorem sq_mono {S : Src} {xs : List V} (e : Same H H') (h : S.sq K H xs) : S.sq K H' xs := by
  unfold Src.sq at h ⊢
  split at h
  · rename_i q
    rw [if_pos q]
    exact sqL_mono e h
  · rename_i q
    rw [if_neg q]
    exact sqT_mono e h
theorem walkS {w : Bool} {S : Src} {xs : List V} (r : RpL mg K (less H1 M) xs ds) (st : ∀ H' M', (w = true → Grow pot H1 H') → Same (less H1 M) (less H' M') → S.sq K H' xs) : WalkD mg K w pot M H1 (ItS K S) ds (fun H => S.sq K H xs) (YAt xs) where
  walk := by
    rw [← r.length]
    exact walk_seq
  stay := st
  item := fun i H x H' M' _ s _ hi y => by
    obtain ⟨rfl, y⟩ := y
    obtain ⟨d, e, q⟩ := r.getV y
    exact ⟨Same.refl _, d, e, q.mono s⟩
end
theorem args1 {mg : Str → Option Value} {K : PySem.W.Frag} {pot : Option Addr} {M : List Addr} {H : Hp} {k : Ak} {vs : List V} {ds : List D} (h : Args mg K pot M H [k] vs ds) : ∃ v d, vs = [v] ∧ ds = [d] ∧ ArgR mg K pot M H k v d := by
  cases h with
  | cons a r =>
    cases r
    exact ⟨_, _, rfl, rfl, a⟩
theorem args2 {mg : Str → Option Value} {K : PySem.W.Frag} {pot : Option Addr} {M : List Addr} {H : Hp} {k l : Ak} {vs : List V} {ds : List D} (h : Args mg K pot M H [k, l] vs ds) : ∃ v d w e, vs = [v, w] ∧ ds = [d, e] ∧ ArgR mg K pot M H k v d ∧ ArgR mg K pot M H l w e := by
  cases h with
  | cons a r =>
    obtain ⟨w, e, rfl, rfl, b⟩ := args1 r
    exact ⟨_, _, _, _, rfl, rfl, a, b⟩
section
variable {X : Cx} {E : XK} {Γ : List Md} {pos p tpos : Pos} {k kk : Nat} {r : Rm} {e tg : Expr} {te : TE} {fe : Ed} {es elts : List Expr} {tA : TA} {fA : Ea} {ks : List Ak}
theorem PostI.seq {w : Bool} {pot : Option Addr} {M : List Addr} {H : Hp} {x : Res (D × Pot)} {kk : D × Pot → Res (List D × Pot)} {R0 : It → Hp → Prop} (h : PostI X.mg X.K w pot M H (x.bind kk) R0 E)
    {te : VK → Prop} (ht : ∀ Q', Post X.mg X.K r pot M H x Q' E → te Q') {R : VK}
    (hk : ∀ d π1 v H1, x = .ok (d, π1) → Grow pot H H1 → PotAt pot H1 π1 → RpR X.mg X.K r pot M H H1 v d → PostI X.mg X.K w pot M H1 (kk (d, π1)) R0 E → R v H1) : te R := by
  refine ht R ?_
  cases x with
  | ok a =>
    obtain ⟨d, π1⟩ := a
    refine fun v H1 g p q => hk d π1 v H1 rfl g p q ?_
    simp only [Res.bind_ok] at h
    cases e : kk (d, π1) with
    | ok b =>
      rw [e] at h
      exact fun J H2 G Y g2 p2 w2 => h J H2 G Y (g.trans g2) p2 w2
    | err c ns xs π' =>
      rw [e] at h
      exact PErr.back h g
    | stuck =>
      rw [e] at h
      exact h
  | err c ns xs π' => exact h
  | stuck => exact h
theorem PostI.seqA {w : Bool} {pot : Option Addr} {M : List Addr} {H : Hp} {x : Res (List D × Pot)} {kk : List D × Pot → Res (List D × Pot)} {R0 : It → Hp → Prop} (h : PostI X.mg X.K w pot M H (x.bind kk) R0 E)
    {te : (List V → Hp → Prop) → Prop} (ht : ∀ Q', PostA X.mg X.K ks pot M H x Q' E → te Q') {R : List V → Hp → Prop}
    (hk : ∀ ds π1 vs H1, x = .ok (ds, π1) → Grow pot H H1 → PotAt pot H1 π1 → Args X.mg X.K pot M H1 ks vs ds → PostI X.mg X.K w pot M H1 (kk (ds, π1)) R0 E → R vs H1) : te R := by
  refine ht R ?_
  cases x with
  | ok a =>
    obtain ⟨d, π1⟩ := a
    refine fun v H1 g p q => hk d π1 v H1 rfl g p q ?_
    simp only [Res.bind_ok] at h
    cases e : kk (d, π1) with
    | ok b =>
      rw [e] at h
      exact fun J H2 G Y g2 p2 w2 => h J H2 G Y (g.trans g2) p2 w2
    | err c ns xs π' =>
      rw [e] at h
      exact PErr.back h g
    | stuck =>
      rw [e] at h
      exact h
  | err c ns xs π' => exact h
  | stuck => exact h
theorem di_seq (ha : DE X E .f Γ e te fe) : DI false X E Γ tg e (iSeq X.K te) (iVal fe) :=
  ⟨pi_seq ha.pe, fun pot M σ H ρ π I p R h => by
    refine PostI.seq (r := .f) (te := te σ H) h (fun Q' hq => ha.sem pot M σ H ρ π I p Q' hq) fun d π1 v H1 _ g1 p1 r1 h1 => ?_
    cases hz : seqOf d with
    | none =>
      simp only [hz, ofO_none, Res.bind_stuck] at h1
      exact h1.elim
    | some ds =>
      simp only [hz, ofO_some, Res.bind_ok] at h1
      obtain ⟨S, xs, e1, e2, e3⟩ := seq_src r1 hz
      exact ⟨S, e1, ⟨xs, sq_mono less_le e2⟩, h1 _ H1 _ _ .refl p1 (walkS e3 fun H' M' _ s => sq_mono less_le (sq_mono s e2))⟩⟩
theorem mid_of {i : Int} (h : mid62 i = true) : -(2 ^ 62) ≤ i ∧ i < 2 ^ 62 := by
  unfold mid62 at h
  have := of_decide_eq_true h
  omega
theorem rangeD_get {lo c : Int} {n i : Nat} (h : i < n) : (rangeD lo c n)[i]? = some (.int (lo + (i : Int) * c)) := by
  unfold rangeD
  rw [List.getElem?_map, List.getElem?_range h]
  rfl
theorem rangeD_len (lo c : Int) (n : Nat) : (rangeD lo c n).length = n := by
  unfold rangeD
  rw [List.length_map, List.length_range]
theorem walkR {w : Bool} {pot : Option Addr} {M : List Addr} {H1 : Hp} {lo : Int} {n : Nat} : WalkD X.mg X.K w pot M H1 (Itr lo n) (rangeD lo 1 n) (fun _ => True) (YFn fun i => .int (lo + i)) where
  walk := by
    rw [rangeD_len]
    exact walk_range
  stay := fun _ _ _ _ => trivial
  item := fun i H x H' M' _ s al hi y => by
    obtain ⟨rfl, rfl⟩ := y
    rw [rangeD_len] at hi
    exact ⟨Same.refl _, _, rangeD_get hi, by rw [Int.mul_one]; exact .int _⟩
theorem di_range1 (hm : X.mg "range" = none) (ha : DA X E [.f] Γ [e] tA fA) (hg : Gl X "range" := by rfl) (hs : starEach [e] X.env = [(false, eval e X.env)] := by rfl) : DI false X E Γ tg (.Call (.Name "range" p) [e] [] pos) (iRng1 tA) (iRng fA) :=
  ⟨pi_range1 hg hm ha.pa hs, fun pot M σ H ρ π I p R h => by
    refine PostI.seqA (ks := [.f]) (te := tA σ H) h (fun Q' hq => ha.sem pot M σ H ρ π I p Q' hq) fun ds π1 vs H1 _ g1 p1 r1 h1 => ?_
    obtain ⟨v, d, rfl, rfl, a⟩ := args1 r1
    cases d with
    | int j =>
      cases rb_int (.inl (show Rp X.mg X.K (less H1 M) v (.int j) from a) : Rb X.mg X.K pot M H1 v (.int j))
      simp only [rng] at h1
      split at h1
      · rename_i hj
        obtain ⟨q1, q2⟩ := mid_of hj
        exact ⟨j, rfl, q1, q2, h1 _ H1 _ _ .refl p1 walkR⟩
      · exact h1.elim
    | _ => exact h1.elim⟩
end
end DL
set_option maxHeartbeats 2000000
namespace DL
open PySem PySem.Spec PyProof.Rows L2
def safe {α : Type} : Res α → Res α
  | .ok a => .ok a
  | _ => .stuck
@[simp] theorem safe_ok {α : Type} (a : α) : safe (Res.ok a) = .ok a := rfl
def lcGo (fg : D → Rho → Option Rho) (ft : Et) (fe : Ed) (ρ : Rho) : List D → Pot → Res (List D × Pot)
  | [], π => .ok ([], π)
  | d :: ds, π => (ofO (fg d ρ)).bind fun ρ1 => (safe (ft ρ1 π)).bind fun b => if b.1 = true then (safe (fe ρ1 b.2)).bind fun x => (lcGo fg ft fe ρ ds x.2).bind fun r => .ok (x.1 :: r.1, r.2) else lcGo fg ft fe ρ ds b.2
def wipeD (ρ : Rho) : List Nat → Rho
  | [] => ρ
  | v :: vs => (wipeD ρ vs).set v none
def eLC (fi : Ei) (fg : D → Rho → Option Rho) (ft : Et) (fe : Ed) (vs : List Nat) : Ed := fun ρ π => (fi ρ π).bind fun x => if x.1.length < sizeLine then (lcGo fg ft fe (wipeD ρ vs) x.1 x.2).bind fun r => .ok (.lst r.1, r.2) else .stuck
def tTrue : Et := fun _ π => .ok (true, π)
section
variable {mg : Str → Option Value} {K : PySem.W.Frag} {pot : Option Addr} {M : List Addr} {H H1 H' : Hp} {v : V} {d : D} {Γ : List Md} {σ : L2.St} {ρ : Rho} {π : Pot}
theorem safe_ne {α : Type} {x : Res α} {c : Str} {ns : List Str} {xs : List D} : safe x ≠ .err c ns xs π := by
  cases x <;> simp [safe]
theorem lcGo_ne {fg : D → Rho → Option Rho} {ft : Et} {fe : Ed} {c : Str} {ns : List Str} {xs : List D} {π' : Pot} : ∀ (ds : List D) (π : Pot), lcGo fg ft fe ρ ds π ≠ .err c ns xs π'
  | [], π => by simp [lcGo]
  | d :: ds, π => by
    unfold lcGo
    cases h1 : fg d ρ with
    | none => simp
    | some ρ1 =>
      simp only [ofO_some, Res.bind_ok]
      cases h2 : safe (ft ρ1 π) with
      | ok b =>
        simp only [Res.bind_ok]
        split
        · cases h3 : safe (fe ρ1 b.2) with
          | ok x =>
            simp only [Res.bind_ok]
            cases h4 : lcGo fg ft fe ρ ds x.2 with
            | ok r => simp
            | err c ns xs p => exact absurd h4 (lcGo_ne ds x.2)
            | stuck => simp
          | err c ns xs p => exact absurd h3 safe_ne
          | stuck => simp
        · exact lcGo_ne ds b.2
      | err c ns xs p => exact absurd h2 safe_ne
      | stuck => simp
theorem EnvOk.unset (I : EnvOk mg K Γ pot M σ H ρ) {i : Nat} (hi : Γ[i]? = some .f) : EnvOk mg K Γ pot M (σ.set i none) H (ρ.set i none) where
  ls := by rw [List.length_set]; exact I.ls
  lr := by rw [List.length_set]; exact I.lr
  f := fun j e h1 h2 => by
    by_cases e1 : i = j
    · subst e1
      have hl : i < ρ.length := by rw [I.lr]; exact (List.getElem?_eq_some_iff.mp hi).1
      rw [List.getElem?_set_self hl] at h2
      cases h2
    · rw [List.getElem?_set_ne e1] at h2
      obtain ⟨u, q, z⟩ := I.f j e h1 h2
      exact ⟨u, by rw [List.getElem?_set_ne e1]; exact q, z⟩
  o := fun j e h1 h2 => by
    have e1 : i ≠ j := fun q => by rw [q, h1] at hi; cases hi
    rw [List.getElem?_set_ne e1] at h2
    obtain ⟨p, q, z⟩ := I.o j e h1 h2
    exact ⟨p, by rw [List.getElem?_set_ne e1]; exact q, z⟩
  p := fun j h1 => by
    have e1 : i ≠ j := fun q => by rw [q, h1] at hi; cases hi
    obtain ⟨p, q, z⟩ := I.p j h1
    exact ⟨p, q, by rw [List.getElem?_set_ne e1]; exact z⟩
  s := fun j e h1 h2 => by
    have e1 : i ≠ j := fun q => by rw [q, h1] at hi; cases hi
    rw [List.getElem?_set_ne e1] at h2
    obtain ⟨p, ns, q, z⟩ := I.s j e h1 h2
    exact ⟨p, ns, by rw [List.getElem?_set_ne e1]; exact q, z⟩
  ap := fun j k a b c h1 h2 h3 h4 h5 h6 => by
    have e1 : i ≠ j := fun q => by rw [q, h1] at hi; cases hi
    have e2 : i ≠ k := fun q => by rw [q, h2] at hi; cases hi
    rw [List.getElem?_set_ne e1] at h3 h5
    rw [List.getElem?_set_ne e2] at h4 h6
    exact I.ap j k a b c h1 h2 h3 h4 h5 h6
  al := I.al
  pm := I.pm
  x := fun j a dd e h1 h2 => by
    have e1 : i ≠ j := fun q => by rw [q, h1] at hi; cases hi
    rw [List.getElem?_set_ne e1] at h2
    obtain ⟨z1, z2⟩ := I.x j a dd e h1 h2
    exact ⟨by rw [List.getElem?_set_ne e1]; exact z1, z2⟩
theorem EnvOk.wipe (I : EnvOk mg K Γ pot M σ H ρ) : ∀ {vs : List Nat}, (∀ i ∈ vs, Γ[i]? = some .f) → EnvOk mg K Γ pot M (L2.wipe σ vs) H (wipeD ρ vs)
  | [], _ => I
  | v :: vs, h => (EnvOk.wipe I fun i hi => h i (List.mem_cons_of_mem _ hi)).unset (h v (List.mem_cons_self ..))
/-- the same place, later, a new cell beside -/
theorem EnvOk.under (I : EnvOk mg K Γ pot M σ H1 ρ) {q : Addr} (hn : H1 q = none) (g : Grow pot H1 H) (p : PotAt pot H π) (hq : Al H q) : EnvOk mg K Γ pot (q :: M) σ H ρ := by
  have nq : ∀ a o, H1 a = some o → a ≠ q := fun a o h => ne_of_none h hn
  have sm : ∀ L : List Addr, (∀ a, pot = some a → a ∈ L) → Same (less H1 L) (less H (q :: L)) := fun L hL a o h => by
    obtain ⟨h1, h2⟩ := less_some.mp h
    refine less_some.mpr ⟨fun m => ?_, g a o (fun e => h1 (hL a e)) h2⟩
    rcases List.mem_cons.mp m with e | m
    · exact nq a o h2 e
    · exact h1 m
  refine ⟨I.ls, I.lr, fun i d h1 h2 => ?_, fun i d h1 h2 => ?_, I.p, fun i d h1 h2 => ?_, I.ap, fun a ha => ?_, fun a e => List.mem_cons_of_mem _ (I.pm a e), fun i a dd d h1 h2 => ⟨(I.x i a dd d h1 h2).1, (I.x i a dd d h1 h2).2.mono (sm M I.pm)⟩⟩
  · obtain ⟨v, e, r⟩ := I.f i d h1 h2
    exact ⟨v, e, r.mono (sm M I.pm)⟩
  · obtain ⟨a, e, m, n, oo, h3, h4⟩ := I.o i d h1 h2
    refine ⟨a, e, List.mem_cons_of_mem _ m, n, oo, g a _ n h3, h4.mono fun b o h => ?_⟩
    obtain ⟨h5, h6⟩ := less_some.mp (sm (a :: M) (fun b e => List.mem_cons_of_mem _ (I.pm b e)) b o h)
    refine less_some.mpr ⟨fun m => h5 ?_, h6⟩
    rcases List.mem_cons.mp m with z | m
    · exact List.mem_cons_of_mem _ (by rw [z]; exact List.mem_cons_self ..)
    · rcases List.mem_cons.mp m with z | m
      · rw [z]
        exact List.mem_cons_self ..
      · exact List.mem_cons_of_mem _ (List.mem_cons_of_mem _ m)
  · obtain ⟨a, ns, e1, e2, e3⟩ := I.s i d h1 h2
    exact ⟨a, ns, e1, e2, sqL_mono (sm M I.pm) e3⟩
  · rcases List.mem_cons.mp ha with e | m
    · rw [e]
      exact hq
    · exact alive I.al p g a m
theorem wipe_at (σ : L2.St) (i : Nat) : ∀ (vs : List Nat), (L2.wipe σ vs)[i]? = if i ∈ vs then (if i < σ.length then some none else none) else σ[i]?
  | [] => by simp [L2.wipe]
  | v :: vs => by
    have ih := wipe_at σ i vs
    unfold L2.wipe
    by_cases e : v = i
    · subst e
      rw [List.getElem?_set, if_pos rfl, wipe_length]
      simp
    · rw [List.getElem?_set_ne e, ih]
      simp [Ne.symm e]
theorem wipe_of {σ σ2 : L2.St} {vs is : List Nat} (hl : σ2.length = σ.length) (hs : ∀ i ∈ is, i ∈ vs) (h : ∀ i, i ∉ is → σ2[i]? = (L2.wipe σ vs)[i]?) : L2.wipe σ2 vs = L2.wipe σ vs := by
  apply List.ext_getElem?
  intro i
  rw [wipe_at, wipe_at]
  by_cases e : i ∈ vs
  · rw [if_pos e, if_pos e, hl]
  · rw [if_neg e, if_neg e, h i fun z => e (hs i z), wipe_at, if_neg e]
end
structure DTs (X : Cx) (E : XK) (Γ : List Md) (es : List Expr) (tt : TT) (ft : Et) : Prop where
  pts : PTs X es tt
  sem : SemT X.mg X.K E Γ tt ft
section
variable {X : Cx} {E : XK} {Γ : List Md} {pos : Pos} {k : Nat}
theorem dts_nil : DTs X E Γ [] tYes tTrue := ⟨pts_nil, fun pot M σ H ρ π I p Q h => h H .refl p⟩
theorem dts_one {c : Expr} {tt : TT} {ft : Et} (h : DT X E Γ c tt ft) : DTs X E Γ [c] tt ft := ⟨pts_one h.pt, h.sem⟩
theorem XOk.blk {s : Shared} {H : Hp} {scope : Scope} {cenv : Env} {fp : List Addr} (x : XOk X E k) : XOk (X.blk s H scope cenv fp) E0 k := ⟨x.room, x.gd, x.calm, passL, PassesOwn.never, x.nd⟩
theorem sem_lcAt {w : Bool} {wi : TI} {fi : Ei} {is vs : List Nat} {g : TG} {fg : D → Rho → Option Rho} {tt : TT} {ft : Et} {te : TE} {fe : Ed} {pot : Option Addr} {M : List Addr} {σ : L2.St} {H : Hp} {ρ : Rho} {π : Pot} (hi : ∀ R, PostI X.mg X.K w pot M H (fi ρ π) R E → wi σ H R) (hg : SemG X.mg X.K Γ is g fg) (hv : ∀ i ∈ is, i ∈ vs) (hΓ : ∀ i ∈ vs, Γ[i]? = some .f)
    (ht : SemT X.mg X.K E0 Γ tt ft) (he : SemE X.mg X.K E0 .f Γ te fe) (I : EnvOk X.mg X.K Γ pot M σ H ρ) (p : PotAt pot H π) (Q : VK) (h : Post X.mg X.K .o pot M H (eLC fi fg ft fe vs ρ π) Q E) : tLc wi g tt te vs σ H Q := by
  refine hi _ ?_
  unfold eLC at h
  cases ei : fi ρ π with
  | err c ns xs π' =>
    rw [ei] at h
    exact h
  | stuck =>
    rw [ei] at h
    exact h
  | ok x =>
    obtain ⟨items, π0⟩ := x
    rw [ei] at h
    simp only [Res.bind_ok] at h
    intro J H1 G Y g1 p1 W D hD
    by_cases hz : items.length < sizeLine
    · rw [if_pos hz] at h
      have I1 := I.grow g1 p1
      cases et : lcGo fg ft fe (wipeD ρ vs) items π0 with
      | err c ns xs π' => exact absurd et (lcGo_ne items π0)
      | stuck =>
        rw [et] at h
        exact h.elim
      | ok r =>
        obtain ⟨ds, π9⟩ := r
        rw [et] at h
        simp only [Res.bind_ok] at h
        have nD : pot ≠ some D := fun e => p1.has D e hD
        have gD : ∀ {H2 : Hp} {o : HO}, Grow pot H1 H2 → Grow pot H1 (upd H2 D o) := fun gr a o n e => by
          rw [upd_ne (ne_of_none e hD)]
          exact gr a o n e
        have pD : ∀ {H2 : Hp} {o : HO} {π : Pot}, PotAt pot H2 π → PotAt pot (upd H2 D o) π := fun q a e => by
          rw [upd_ne (fun z => nD (by rw [e, z]))]
          exact q a e
        have lD : ∀ {H2 : Hp} {o : HO}, Same (less H2 (D :: M)) (less (upd H2 D o) (D :: M)) := fun a o e => by
          obtain ⟨e1, e2⟩ := less_some.mp e
          refine less_some.mpr ⟨e1, ?_⟩
          rw [upd_ne (fun z => e1 (by rw [z]; exact List.mem_cons_self ..))]
          exact e2
        have sD : ∀ {H2 : Hp}, Grow pot H1 H2 → Same (less H1 M) (less H2 (D :: M)) := fun gr a o e => by
          obtain ⟨e1, e2⟩ := less_some.mp e
          refine less_some.mpr ⟨fun m => ?_, gr a o (fun z => e1 (I.pm a z)) e2⟩
          rcases List.mem_cons.mp m with z | m
          · exact ne_of_none e2 hD z
          · exact e1 m
        refine lc_it W.walk (fun i H2 => ∃ π2 vsa dsa, Grow pot H1 H2 ∧ PotAt pot H2 π2 ∧ H2 D = some (.lst vsa) ∧ RpL X.mg X.K (less H2 (D :: M)) vsa dsa ∧ dsa.length ≤ i ∧
            (lcGo fg ft fe (wipeD ρ vs) (items.drop i) π2).bind (fun r => .ok (dsa ++ r.1, r.2)) = .ok (ds, π9))
          ⟨π0, [], [], gD .refl, pD p1, upd_same, .nil, Nat.le_refl _, by rw [List.drop_zero, et]; rfl⟩ (fun i H2 _ ⟨_, _, _, gr, _⟩ => W.stay H2 (D :: M) (fun _ => gr) (sD gr)) ?_ ?_
        · rintro i xv H2 H3 hlt ⟨π2, vsa, dsa, gr, pr, hDv, rr, hle, hgo⟩ hy
          have I2 := I1.under hD gr pr (.of hDv fun _ e => by cases e)
          obtain ⟨sm, d, hd, rd⟩ := W.item i H2 xv H3 (D :: M) (fun _ => gr) (sD gr) I2.al hlt hy
          have gr3 : Grow pot H1 H3 := gr.trans (.of_same sm)
          have pr3 := pr.same sm
          have hDv3 := sm _ _ hDv
          have I3 := (I1.under hD gr3 pr3 (.of hDv3 fun _ e => by cases e)).wipe hΓ
          have rr3 : RpL X.mg X.K (less H3 (D :: M)) vsa dsa := rr.mono (less_grow I2.pm (.of_same sm))
          have edr : items.drop i = d :: items.drop (i + 1) := by
            rw [List.drop_eq_getElem_cons hlt]
            congr 1
            have := List.getElem?_eq_getElem hlt
            rw [hd] at this
            exact (Option.some.inj this).symm
          rw [edr] at hgo
          unfold lcGo at hgo
          cases e1 : fg d (wipeD ρ vs) with
          | none => rw [e1] at hgo; cases hgo
          | some ρ1 =>
            rw [e1] at hgo
            simp only [ofO_some, Res.bind_ok] at hgo
            refine hg pot (D :: M) _ H3 _ xv d I3 rd ρ1 e1 _ fun σ2 I4 so _ => ⟨wipe_of (by rw [I4.ls, I1.ls]) hv so, ?_⟩
            refine ht pot (D :: M) σ2 H3 ρ1 π2 I4 pr3 _ ?_
            cases e2 : ft ρ1 π2 with
            | err c ns xs p => rw [e2] at hgo; cases hgo
            | stuck => rw [e2] at hgo; cases hgo
            | ok b =>
              obtain ⟨b, π3⟩ := b
              rw [e2] at hgo
              simp only [safe_ok, Res.bind_ok] at hgo
              intro H4 g4 p4
              have gr4 := gr3.trans g4
              have hDv4 := g4 D _ nD hDv3
              cases b with
              | false =>
                rw [if_neg Bool.false_ne_true] at hgo ⊢
                exact ⟨π3, vsa, dsa, gr4, p4, hDv4, rr3.mono (less_grow I4.pm g4), Nat.le_succ_of_le hle, hgo⟩
              | true =>
                rw [if_pos rfl] at hgo ⊢
                refine he pot (D :: M) σ2 H4 ρ1 π3 (I4.grow g4 p4) p4 _ ?_
                cases e3 : fe ρ1 π3 with
                | err c ns xs p => rw [e3] at hgo; cases hgo
                | stuck => rw [e3] at hgo; cases hgo
                | ok y =>
                  obtain ⟨y, π4⟩ := y
                  rw [e3] at hgo
                  simp only [safe_ok, Res.bind_ok] at hgo
                  intro yv H5 g5 p5 ry
                  have gr5 := gr4.trans g5
                  have hDv5 := g5 D _ nD hDv4
                  have rr5 := (rr3.mono (less_grow I4.pm g4)).mono (less_grow I4.pm g5)
                  refine ⟨vsa, hDv5, by rw [rr.length]; omega, π4, vsa ++ [yv], dsa ++ [y], gD gr5, pD p5, upd_same, (rr5.append (.cons ry .nil)).mono lD, by simp; omega, ?_⟩
                  cases e4 : lcGo fg ft fe (wipeD ρ vs) (items.drop (i + 1)) π4 with
                  | ok r =>
                    rw [e4] at hgo
                    simp only [Res.bind_ok] at hgo ⊢
                    rw [← hgo, List.append_assoc]
                    rfl
                  | err c ns xs p => rw [e4] at hgo; cases hgo
                  | stuck => rw [e4] at hgo; cases hgo
        · rintro H2 ⟨π2, vsa, dsa, gr, pr, hDv, rr, hle, hgo⟩
          rw [List.drop_length] at hgo
          simp only [lcGo, Res.bind_ok, List.append_nil, Res.ok.injEq, Prod.mk.injEq] at hgo
          obtain ⟨rfl, rfl⟩ := hgo
          refine h (.ref D) H2 (g1.trans gr) pr ⟨D, rfl, ?_, nD, _, hDv, .lst rr⟩
          cases e : H D with
          | none => rfl
          | some o =>
            rw [g1 D o nD e] at hD
            cases hD
    · rw [if_neg hz] at h
      exact h.elim
/-- one reading for all places that are alike -/
def canE (mg : Str → Option Value) (K : PySem.W.Frag) (E : XK) (r : Rm) (Γ : List Md) (fe : Ed) : TE := fun σ H Q => ∃ pot M ρ π, EnvOk mg K Γ pot M σ H ρ ∧ PotAt pot H π ∧ Post mg K r pot M H (fe ρ π) Q E
def canT (mg : Str → Option Value) (K : PySem.W.Frag) (E : XK) (Γ : List Md) (ft : Et) : TT := fun σ H Q => ∃ pot M ρ π, EnvOk mg K Γ pot M σ H ρ ∧ PotAt pot H π ∧ PostT mg K pot M H (ft ρ π) Q E
def canG (mg : Str → Option Value) (K : PySem.W.Frag) (Γ : List Md) (is : List Nat) (fg : D → Rho → Option Rho) : TG := fun v σ H Q => ∃ pot M ρ d ρ', EnvOk mg K Γ pot M σ H ρ ∧ Rp mg K (less H M) v d ∧ fg d ρ = some ρ' ∧ ∀ σ', EnvOk mg K Γ pot M σ' H ρ' → (∀ i, i ∉ is → σ'[i]? = σ[i]?) → (∀ i, i ∉ is → ρ'[i]? = ρ[i]?) → Q σ' H
theorem DE.can {r : Rm} {e : Expr} {te : TE} {fe : Ed} (h : DE X E r Γ e te fe) : DE X E r Γ e (canE X.mg X.K E r Γ fe) fe :=
  ⟨⟨fun pins s σ H Q I q => by
    obtain ⟨pot, M, ρ, π, h1, h2, h3⟩ := q
    exact h.pe.run pins s σ H Q I (h.sem pot M σ H ρ π h1 h2 Q h3)⟩, fun pot M σ H ρ π I p Q q => ⟨pot, M, ρ, π, I, p, q⟩⟩
theorem DTs.can {es : List Expr} {tt : TT} {ft : Et} (h : DTs X E Γ es tt ft) : DTs X E Γ es (canT X.mg X.K E Γ ft) ft :=
  ⟨⟨fun pins s σ H Q I q => by
    obtain ⟨pot, M, ρ, π, h1, h2, h3⟩ := q
    exact h.pts.run pins s σ H Q I (h.sem pot M σ H ρ π h1 h2 Q h3)⟩, fun pot M σ H ρ π I p Q q => ⟨pot, M, ρ, π, I, p, q⟩⟩
theorem DG.can {tg : Expr} {is : List Nat} {g : TG} {fg : D → Rho → Option Rho} (h : DG X Γ tg is g fg) : DG X Γ tg is (canG X.mg X.K Γ is fg) fg :=
  ⟨⟨fun pins s σ H v u Q I r q => by
    obtain ⟨pot, M, ρ, d, ρ', h1, h2, h3, h4⟩ := q
    exact h.pg.run pins s σ H v u Q I r (h.sem pot M σ H ρ v d h1 h2 ρ' h3 Q h4)⟩, h.fs, fun pot M σ H ρ v d I r ρ' e Q q => ⟨pot, M, ρ, d, ρ', I, r, e, q⟩⟩
theorem sem_lc {w : Bool} {wi : TI} {fi : Ei} {is vs : List Nat} {g : TG} {fg : D → Rho → Option Rho} {tt : TT} {ft : Et} {te : TE} {fe : Ed} (hi : SemI X.mg X.K w E Γ wi fi) (hg : SemG X.mg X.K Γ is g fg) (hv : ∀ i ∈ is, i ∈ vs) (hΓ : ∀ i ∈ vs, Γ[i]? = some .f)
    (ht : SemT X.mg X.K E0 Γ tt ft) (he : SemE X.mg X.K E0 .f Γ te fe) : SemE X.mg X.K E .o Γ (tLc wi g tt te vs) (eLC fi fg ft fe vs) := fun pot M σ H ρ π I p Q h => sem_lcAt (fun R q => hi pot M σ H ρ π I p R q) hg hv hΓ ht he I p Q h
theorem de_lc {w : Bool} {elt tg iter : Expr} {ifs : List Expr} {scope : Scope} {own : List (Str × Nat)} {wi : TI} {fi : Ei} {is : List Nat} {fg : D → Rho → Option Rho} {ft : Et} {fe : Ed} (x : XOk X E k) (hi : DI w X E Γ tg iter wi fi) (ok : BlkOk X.N X.env.scope scope own)
    (hg : ∀ (s : Shared) (H : Hp) (C : Addr) (cl : List (Str × Addr)) (fp : List Addr), ∃ g, DG (X.blk s H scope (compEnvC scope cl C X.env) fp) Γ tg is g fg)
    (ht : ∀ (s : Shared) (H : Hp) (C : Addr) (cl : List (Str × Addr)) (fp : List Addr), ∃ tt, DTs (X.blk s H scope (compEnvC scope cl C X.env) fp) E0 Γ ifs tt ft)
    (he : ∀ (s : Shared) (H : Hp) (C : Addr) (cl : List (Str × Addr)) (fp : List Addr), ∃ te, DE (X.blk s H scope (compEnvC scope cl C X.env) fp) E0 .f Γ elt te fe)
    (hv : ∀ i ∈ is, i ∈ own.map (·.2) := by decide) (hΓ : ∀ i ∈ own.map (·.2), Γ[i]? = some .f := by decide) (hs : ∀ x, foldedSetIterable iter X.env x = pure x := by intro _; rfl) :
    DE X E .o Γ (.ListComp elt [⟨tg, iter, ifs, 0⟩] scope pos) (tLc wi (canG X.mg X.K Γ is fg) (canT X.mg X.K E0 Γ ft) (canE X.mg X.K E0 .f Γ fe) (own.map (·.2))) (eLC fi fg ft fe (own.map (·.2))) := by
  have hg' : ∀ (s : Shared) (H : Hp) (C : Addr) (cl : List (Str × Addr)) (fp : List Addr), DG (X.blk s H scope (compEnvC scope cl C X.env) fp) Γ tg is (canG X.mg X.K Γ is fg) fg := fun s H C cl fp => by
    obtain ⟨g, h⟩ := hg s H C cl fp
    exact h.can
  have ht' : ∀ (s : Shared) (H : Hp) (C : Addr) (cl : List (Str × Addr)) (fp : List Addr), DTs (X.blk s H scope (compEnvC scope cl C X.env) fp) E0 Γ ifs (canT X.mg X.K E0 Γ ft) ft := fun s H C cl fp => by
    obtain ⟨g, h⟩ := ht s H C cl fp
    exact h.can
  have he' : ∀ (s : Shared) (H : Hp) (C : Addr) (cl : List (Str × Addr)) (fp : List Addr), DE (X.blk s H scope (compEnvC scope cl C X.env) fp) E0 .f Γ elt (canE X.mg X.K E0 .f Γ fe) fe := fun s H C cl fp => by
    obtain ⟨g, h⟩ := he s H C cl fp
    exact h.can
  exact ⟨pe_lc x.calm x.nd hi.pi ok (fun s H C cl fp => (hg' s H C cl fp).pg) (fun s H C cl fp => (ht' s H C cl fp).pts) (fun s H C cl fp => (he' s H C cl fp).pe) hs,
    sem_lc hi.sem (hg' X.s_0 X.H_0 0 [] []).sem hv hΓ (ht' X.s_0 X.H_0 0 [] []).sem (he' X.s_0 X.H_0 0 [] []).sem⟩
end
end DL
set_option maxHeartbeats 2000000
namespace DL
open PySem PySem.Spec PyProof.Rows L2
inductive Out where
  | nx (ρ : Rho) | bk (ρ : Rho) | ct (ρ : Rho) | rt (d : D)
abbrev Fs := Rho → Pot → Res (Out × Pot)
def Rm.md : Rm → Md
  | .f => .f
  | .b => .u
  | .o => .o
  | .t => .u
section
variable (mg : Str → Option Value) (K : PySem.W.Frag)
structure SOk (Γ : List Md) (pot : Option Addr) (M0 : List Addr) (H0 B : Hp) (M : List Addr) (σ : L2.St) (H : Hp) (ρ : Rho) : Prop where
  env : EnvOk mg K Γ pot M σ H ρ
  gr : Grow pot H0 H
  sub : ∀ a ∈ M0, a ∈ M
  ow : ∀ (i : Nat) (d : D) (a : Addr), Γ[i]? = some .o → ρ[i]? = some (some d) → σ[i]? = some (some (.ref a)) → H0 a = none
  m0 : ∀ a ∈ M0, H0 a ≠ none
  bs : Same B (less H M)
/-- a value that is to be put into a slot -/
def Held (r : Rm) (Γ : List Md) (pot : Option Addr) (H0 : Hp) (M : List Addr) (σ : L2.St) (H : Hp) (ρ : Rho) (v : V) (d : D) : Prop := match r with
  | .f => Rp mg K (less H M) v d
  | .b => True
  | .t => True
  | .o => ∃ p, v = .ref p ∧ p ∈ M ∧ Own mg K pot M H p d ∧ H0 p = none ∧ ∀ (i : Nat) (e : D), Γ[i]? = some .o → ρ[i]? = some (some e) → σ[i]? ≠ some (some (.ref p))
def PostS (r : Rm) (Γl Γ' : List Md) (pot : Option Addr) (M0 : List Addr) (H0 B : Hp) (x : Res (Out × Pot)) (D : Ends) (E : XK) : Prop := match x with
  | .ok (.nx ρ, π) => ∀ M σ H, SOk mg K Γ' pot M0 H0 B M σ H ρ → PotAt pot H π → D.nx σ H
  | .ok (.bk ρ, π) => ∀ M σ H, SOk mg K Γl pot M0 H0 B M σ H ρ → PotAt pot H π → D.bk σ H
  | .ok (.ct ρ, π) => ∀ M σ H, SOk mg K Γl pot M0 H0 B M σ H ρ → PotAt pot H π → D.ct σ H
  | .ok (.rt d, π) => ∀ v H, Grow pot H0 H → PotAt pot H π → RpR mg K r pot M0 H0 H v d → D.rt v H
  | .err c ns xs π => PErr mg K pot M0 H0 c ns xs π E
  | .stuck => False
def SemS (E : XK) (r : Rm) (Γl Γ Γ' : List Md) (ts : TS) (fs : Fs) : Prop :=
  ∀ pot M0 H0 B M σ H ρ π D, SOk mg K Γ pot M0 H0 B M σ H ρ → PotAt pot H π → PostS mg K r Γl Γ' pot M0 H0 B (fs ρ π) D E → ts D σ H
end
section
variable {mg : Str → Option Value} {K : PySem.W.Frag} {pot : Option Addr} {M M0 M1 : List Addr} {H H0 H1 H2 B : Hp} {π π1 : Pot} {Γ Γl Γ' : List Md} {σ : L2.St} {ρ : Rho} {v : V} {d : D} {r : Rm} {E : XK}
theorem SOk.grow (S : SOk mg K Γ pot M0 H0 B M σ H ρ) (g : Grow pot H H1) (p : PotAt pot H1 π) : SOk mg K Γ pot M0 H0 B M σ H1 ρ := ⟨S.env.grow g p, S.gr.trans g, S.sub, S.ow, S.m0, fun a o h => less_grow S.env.pm g a o (S.bs a o h)⟩
theorem PErr.out {c : Str} {ns : List Str} {xs : List D} {π' : Pot} (h : PErr mg K pot M0 H0 c ns xs π' E) (S : SOk mg K Γ pot M0 H0 B M σ H ρ) : PErr mg K pot M H c ns xs π' E := fun cv dd H' g p e => by
  refine h cv dd H' (S.gr.trans g) p ?_
  obtain ⟨C, h1, h2, h3⟩ := e
  refine ⟨C, h1, h2, h3.imp id ?_⟩
  rintro ⟨a, fs, e1, e2, e3, e4, e5⟩
  exact ⟨a, fs, e1, e2, fun m => e3 (S.sub a m), e4, e5.mono (less_sub S.sub)⟩
/-- an expression, then the rest of the statement -/
theorem PostS.seq {r' : Rm} {x : Res (D × Pot)} {kk : D × Pot → Res (Out × Pot)} {D' : Ends} (h : PostS mg K r Γl Γ' pot M0 H0 B (x.bind kk) D' E) (S : SOk mg K Γ pot M0 H0 B M σ H ρ)
    {te : VK → Prop} (ht : ∀ Q', Post mg K r' pot M H x Q' E → te Q') {R : VK}
    (hk : ∀ d π1 v H1, x = .ok (d, π1) → Grow pot H H1 → PotAt pot H1 π1 → RpR mg K r' pot M H H1 v d → PostS mg K r Γl Γ' pot M0 H0 B (kk (d, π1)) D' E → R v H1) : te R := by
  refine ht R ?_
  cases x with
  | ok a =>
    obtain ⟨d, π1⟩ := a
    exact fun v H1 g p q => hk d π1 v H1 rfl g p q h
  | err c ns xs π' => exact PErr.out h S
  | stuck => exact h
theorem PostS.seqT {x : Res (Bool × Pot)} {kk : Bool × Pot → Res (Out × Pot)} {D' : Ends} (h : PostS mg K r Γl Γ' pot M0 H0 B (x.bind kk) D' E) (S : SOk mg K Γ pot M0 H0 B M σ H ρ)
    {te : (Bool → Hp → Prop) → Prop} (ht : ∀ Q', PostT mg K pot M H x Q' E → te Q') {R : Bool → Hp → Prop}
    (hk : ∀ d π1 H1, x = .ok (d, π1) → Grow pot H H1 → PotAt pot H1 π1 → PostS mg K r Γl Γ' pot M0 H0 B (kk (d, π1)) D' E → R d H1) : te R := by
  refine ht R ?_
  cases x with
  | ok a =>
    obtain ⟨d, π1⟩ := a
    exact fun H1 g p => hk d π1 H1 rfl g p h
  | err c ns xs π' => exact PErr.out h S
  | stuck => exact h
theorem PostS.seqI {w : Bool} {x : Res (List D × Pot)} {kk : List D × Pot → Res (Out × Pot)} {D' : Ends} (h : PostS mg K r Γl Γ' pot M0 H0 B (x.bind kk) D' E) (S : SOk mg K Γ pot M0 H0 B M σ H ρ)
    {te : (It → Hp → Prop) → Prop} (ht : ∀ Q', PostI mg K w pot M H x Q' E → te Q') {R : It → Hp → Prop}
    (hk : ∀ ds π1 J H1 G Y, x = .ok (ds, π1) → Grow pot H H1 → PotAt pot H1 π1 → WalkD mg K w pot M H1 J ds G Y → PostS mg K r Γl Γ' pot M0 H0 B (kk (ds, π1)) D' E → R J H1) : te R := by
  refine ht R ?_
  cases x with
  | ok a =>
    obtain ⟨ds, π1⟩ := a
    exact fun J H1 G Y g p q => hk ds π1 J H1 G Y rfl g p q h
  | err c ns xs π' => exact PErr.out h S
  | stuck => exact h
theorem less_in {p : Addr} (h : p ∈ M) : Same (less H M) (less H (p :: M)) := fun a o e => by
  obtain ⟨e1, e2⟩ := less_some.mp e
  refine less_some.mpr ⟨fun m => ?_, e2⟩
  rcases List.mem_cons.mp m with z | m
  · exact e1 (by rw [z]; exact h)
  · exact e1 m
/-- a new value is held -/
theorem SOk.hold (S : SOk mg K Γ pot M0 H0 B M σ H ρ) (g : Grow pot H H1) (p : PotAt pot H1 π) (q : RpR mg K r pot M H H1 v d) :
    ∃ M1, SOk mg K Γ pot M0 H0 B M1 σ H1 ρ ∧ Held mg K r Γ pot H0 M1 σ H1 ρ v d ∧ (M1 = M ∨ ∃ c, M1 = c :: M ∧ H c = none) := by
  cases r with
  | f => exact ⟨M, S.grow g p, q, .inl rfl⟩
  | b => exact ⟨M, S.grow g p, trivial, .inl rfl⟩
  | t => exact ⟨M, S.grow g p, trivial, .inl rfl⟩
  | o =>
    obtain ⟨c, rfl, hn, n, oo, h1, h2⟩ := q
    have S1 := S.env.under hn g p (.of h1 h2.nt)
    refine ⟨c :: M, ⟨S1, S.gr.trans g, fun a m => List.mem_cons_of_mem _ (S.sub a m), S.ow, S.m0, fun a o h => ?_⟩, ⟨c, rfl, List.mem_cons_self .., ⟨n, oo, h1, h2.mono (less_in (List.mem_cons_self ..))⟩, ?_, fun i e hi he hs => ?_⟩, .inr ⟨c, rfl, hn⟩⟩
    · obtain ⟨e1, e2⟩ := less_some.mp (S.bs a o h)
      refine less_some.mpr ⟨fun m => ?_, g a o (fun z => e1 (S.env.pm a z)) e2⟩
      rcases List.mem_cons.mp m with z | m
      · rw [z, hn] at e2
        cases e2
      · exact e1 m
    · cases z : H0 c with
      | none => rfl
      | some o =>
        rw [S.gr c o n z] at hn
        cases hn
    · obtain ⟨a, e1, m, _⟩ := S.env.o i e hi he
      rw [hs] at e1
      cases e1
      exact (S.env.al c m).nn hn
/-- later, with one more cell or none -/
theorem Held.carry {r : Rm} (h : Held mg K r Γ pot H0 M σ H ρ v d) (pm : ∀ a, pot = some a → a ∈ M) (g : Grow pot H H1) (c : M1 = M ∨ ∃ c, M1 = c :: M ∧ H c = none) : Held mg K r Γ pot H0 M1 σ H1 ρ v d := by
  have sm : ∀ L L1 : List Addr, (∀ a, pot = some a → a ∈ L) → (L1 = L ∨ ∃ c, (∀ a, a ∈ L1 → a = c ∨ a ∈ L) ∧ H c = none) → Same (less H L) (less H1 L1) := fun L L1 hp hl a o e => by
    obtain ⟨e1, e2⟩ := less_some.mp e
    refine less_some.mpr ⟨fun m => ?_, g a o (fun z => e1 (hp a z)) e2⟩
    rcases hl with z | ⟨c, hl, hc⟩
    · exact e1 (by rw [← z]; exact m)
    · rcases hl a m with z | z
      · rw [z, hc] at e2
        cases e2
      · exact e1 z
  cases r with
  | f =>
    refine Rp.mono (sm M M1 pm ?_) h
    rcases c with c | ⟨c, e, hc⟩
    · exact .inl c
    · exact .inr ⟨c, fun a m => by rw [e] at m; exact List.mem_cons.mp m, hc⟩
  | b => trivial
  | t => trivial
  | o =>
    obtain ⟨p, e1, m, ⟨n, oo, h1, h2⟩, h3, h4⟩ := h
    refine ⟨p, e1, ?_, ⟨n, oo, g p _ n h1, h2.mono (sm (p :: M) (p :: M1) (fun a z => List.mem_cons_of_mem _ (pm a z)) ?_)⟩, h3, h4⟩
    · rcases c with c | ⟨c, e, _⟩
      · rw [c]; exact m
      · rw [e]; exact List.mem_cons_of_mem _ m
    · rcases c with c | ⟨c, e, hc⟩
      · exact .inl (by rw [c])
      · refine .inr ⟨c, fun a ma => ?_, hc⟩
        rcases List.mem_cons.mp ma with z | ma
        · exact .inr (by rw [z]; exact List.mem_cons_self ..)
        · rw [e] at ma
          rcases List.mem_cons.mp ma with z | ma
          · exact .inl z
          · exact .inr (List.mem_cons_of_mem _ ma)
theorem set_at {α : Type} {l : List α} {i j : Nat} {a : α} {x : α} (h : (l.set i a)[j]? = some x) : (i = j ∧ x = a ∧ i < l.length) ∨ (i ≠ j ∧ l[j]? = some x) := by
  by_cases e : i = j
  · subst e
    rw [List.getElem?_set] at h
    rw [if_pos rfl] at h
    split at h
    · rename_i hl
      cases h
      exact .inl ⟨rfl, rfl, hl⟩
    · cases h
  · rw [List.getElem?_set_ne e] at h
    exact .inr ⟨e, h⟩
/-- it is put into slot i -/
theorem SOk.put (S : SOk mg K Γ pot M0 H0 B M σ H ρ) {i : Nat} (hi : i < Γ.length) (q : Held mg K r Γ pot H0 M σ H ρ v d) : SOk mg K (Γ.set i r.md) pot M0 H0 B M (σ.set i (some v)) H (ρ.set i (some d)) := by
  have I := S.env
  have hs : i < σ.length := by rw [I.ls]; exact hi
  have hr : i < ρ.length := by rw [I.lr]; exact hi
  refine ⟨⟨by simp [I.ls], by simp [I.lr], fun j e h1 h2 => ?_, fun j e h1 h2 => ?_, fun j h1 => ?_, fun j e h1 h2 => ?_, fun j k a b c h1 h2 h3 h4 h5 h6 => ?_, I.al, I.pm, fun j a dd e h1 h2 => by
    rcases set_at h1 with ⟨rfl, e1, _⟩ | ⟨n, e1⟩
    · cases r <;> cases e1
    · rw [List.getElem?_set_ne n] at h2 ⊢
      exact I.x j a dd e e1 h2⟩, S.gr, S.sub, fun j e a h1 h2 h3 => ?_, S.m0, S.bs⟩
  · rcases set_at h1 with ⟨rfl, e1, _⟩ | ⟨n, e1⟩
    · rw [List.getElem?_set_self hr] at h2
      cases h2
      refine ⟨v, List.getElem?_set_self hs, ?_⟩
      cases r with
      | f => exact q
      | b => cases e1
      | t => cases e1
      | o => cases e1
    · rw [List.getElem?_set_ne n] at h2 ⊢
      exact I.f j e e1 h2
  · rcases set_at h1 with ⟨rfl, e1, _⟩ | ⟨n, e1⟩
    · rw [List.getElem?_set_self hr] at h2
      cases h2
      cases r with
      | f => cases e1
      | b => cases e1
      | t => cases e1
      | o =>
        obtain ⟨p, rfl, m, o, _⟩ := q
        exact ⟨p, List.getElem?_set_self hs, m, o⟩
    · rw [List.getElem?_set_ne n] at h2 ⊢
      exact I.o j e e1 h2
  · rcases set_at h1 with ⟨rfl, e1, _⟩ | ⟨n, e1⟩
    · cases r <;> cases e1
    · rw [List.getElem?_set_ne n]
      exact I.p j e1
  · rcases set_at h1 with ⟨rfl, e1, _⟩ | ⟨n, e1⟩
    · cases r <;> cases e1
    · rw [List.getElem?_set_ne n] at h2 ⊢
      exact I.s j e e1 h2
  · rcases set_at h1 with ⟨rfl, e1, _⟩ | ⟨n, e1⟩
    · rcases set_at h2 with ⟨rfl, e2, _⟩ | ⟨n2, e2⟩
      · rfl
      · rw [List.getElem?_set_self hs] at h5
        rw [List.getElem?_set_ne n2] at h4 h6
        cases r with
        | f => cases e1
        | b => cases e1
        | t => cases e1
        | o =>
          obtain ⟨p, rfl, m, o, _, hno⟩ := q
          cases h5
          exact absurd h6 (hno k c e2 h4)
    · rcases set_at h2 with ⟨rfl, e2, _⟩ | ⟨n2, e2⟩
      · rw [List.getElem?_set_self hs] at h6
        rw [List.getElem?_set_ne n] at h3 h5
        cases r with
        | f => cases e2
        | b => cases e2
        | t => cases e2
        | o =>
          obtain ⟨p, rfl, m, o, _, hno⟩ := q
          cases h6
          exact absurd h5 (hno j b e1 h3)
      · rw [List.getElem?_set_ne n] at h3 h5
        rw [List.getElem?_set_ne n2] at h4 h6
        exact I.ap j k a b c e1 e2 h3 h4 h5 h6
  · rcases set_at h1 with ⟨rfl, e1, _⟩ | ⟨n, e1⟩
    · rw [List.getElem?_set_self hs] at h3
      cases h3
      cases r with
      | f => cases e1
      | b => cases e1
      | t => cases e1
      | o =>
        obtain ⟨p, ep, m, o, hz, _⟩ := q
        cases ep
        exact hz
    · rw [List.getElem?_set_ne n] at h2 h3
      exact S.ow j e a e1 h2 h3
/-- a held value stays held when another slot is set -/
theorem Held.put {r r' : Rm} {w : V} {e : D} {i : Nat} (h : Held mg K r Γ pot H0 M σ H ρ v d) (h' : Held mg K r' Γ pot H0 M σ H ρ w e) (hn : r = .o → r' = .o → v ≠ w) : Held mg K r (Γ.set i r'.md) pot H0 M (σ.set i (some w)) H (ρ.set i (some e)) v d := by
  cases r with
  | f => exact h
  | b => trivial
  | t => trivial
  | o =>
    obtain ⟨p, e1, m, o, z, hno⟩ := h
    refine ⟨p, e1, m, o, z, fun j f h1 h2 h3 => ?_⟩
    rcases set_at h1 with ⟨rfl, e2, hl⟩ | ⟨n, e2⟩
    · rcases set_at h3 with ⟨_, e3, _⟩ | ⟨n, _⟩
      · cases e3
        cases r' with
        | f => cases e2
        | b => cases e2
        | t => cases e2
        | o => exact hn rfl rfl e1
      · exact n rfl
    · rw [List.getElem?_set_ne n] at h2 h3
      exact hno j f e2 h2 h3
/-- an own list becomes data -/
theorem SOk.freeze (S : SOk mg K Γ pot M0 H0 B M σ H ρ) {i : Nat} (hi : Γ[i]? = some .o) : ∃ M1, SOk mg K (Γ.set i .f) pot M0 H0 B M1 σ H ρ := by
  have I := S.env
  cases er : ρ[i]? with
  | none =>
    have hl := (List.getElem?_eq_some_iff.mp hi).1
    rw [List.getElem?_eq_none_iff, I.lr] at er
    omega
  | some od =>
    cases od with
    | none =>
      refine ⟨M, ⟨by simp [I.ls], by simp [I.lr], fun j e h1 h2 => ?_, fun j e h1 h2 => ?_, fun j h1 => ?_, fun j e h1 h2 => ?_, fun j k a b c h1 h2 h3 h4 h5 h6 => ?_, I.al, I.pm, fun j a dd e h1 h2 => by
        rcases set_at h1 with ⟨_, z, _⟩ | ⟨n, e1⟩
        · cases z
        · exact I.x j a dd e e1 h2⟩, S.gr, S.sub, fun j e a h1 h2 h3 => ?_, S.m0, S.bs⟩
      · rcases set_at h1 with ⟨rfl, _, _⟩ | ⟨n, e1⟩
        · rw [er] at h2
          cases h2
        · exact I.f j e e1 h2
      · rcases set_at h1 with ⟨_, z, _⟩ | ⟨n, e1⟩
        · cases z
        · exact I.o j e e1 h2
      · rcases set_at h1 with ⟨_, z, _⟩ | ⟨n, e1⟩
        · cases z
        · exact I.p j e1
      · rcases set_at h1 with ⟨_, z, _⟩ | ⟨n, e1⟩
        · cases z
        · exact I.s j e e1 h2
      · rcases set_at h1 with ⟨_, z, _⟩ | ⟨n, e1⟩
        · cases z
        · rcases set_at h2 with ⟨_, z, _⟩ | ⟨n2, e2⟩
          · cases z
          · exact I.ap j k a b c e1 e2 h3 h4 h5 h6
      · rcases set_at h1 with ⟨_, z, _⟩ | ⟨n, e1⟩
        · cases z
        · exact S.ow j e a e1 h2 h3
    | some d =>
      obtain ⟨p, es, m, o⟩ := I.o i d hi er
      have hz := S.ow i d p hi er es
      obtain ⟨np, oo, h1, h2⟩ := o
      have low : Same (less H M) (less H (M.filter fun a => decide (a ≠ p))) := less_sub fun a ha => (List.mem_filter.mp ha).1
      have hp : (less H (M.filter fun a => decide (a ≠ p))) p = some oo := less_some.mpr ⟨fun q => by simpa using (List.mem_filter.mp q).2, h1⟩
      have hM0 : ∀ a ∈ M0, a ≠ p → a ∈ M.filter fun a => decide (a ≠ p) := fun a ha n => List.mem_filter.mpr ⟨S.sub a ha, by simpa using n⟩
      have q0 : p ∉ M0 := fun q => S.m0 p q hz
      · refine ⟨M.filter fun a => decide (a ≠ p), ⟨by simp [I.ls], by simp [I.lr], fun j e g1 g2 => ?_, fun j e g1 g2 => ?_, fun j g1 => ?_, fun j e g1 g2 => ?_, fun j k a b c g1 g2 g3 g4 g5 g6 => ?_, fun a ha => I.al a (List.mem_filter.mp ha).1, fun a ha => List.mem_filter.mpr ⟨I.pm a ha, by simpa using fun z : a = p => np (by rw [ha, z])⟩, fun j a dd e g1 g2 => by
          rcases set_at g1 with ⟨_, z, _⟩ | ⟨n, e1⟩
          · cases z
          · exact ⟨(I.x j a dd e e1 g2).1, (I.x j a dd e e1 g2).2.mono low⟩⟩, S.gr, fun a ha => hM0 a ha fun z => q0 (by rw [← z]; exact ha), fun j e a g1 g2 g3 => ?_, S.m0, fun a o h => low a o (S.bs a o h)⟩
        · rcases set_at g1 with ⟨rfl, _, _⟩ | ⟨n, e1⟩
          · rw [er] at g2
            cases g2
            exact ⟨_, es, HoR.rp hp (h2.mono fun a o e => low a o (less_sub (fun b q => List.mem_cons_of_mem _ q) a o e))⟩
          · obtain ⟨w, w1, w2⟩ := I.f j e e1 g2
            exact ⟨w, w1, w2.mono low⟩
        · rcases set_at g1 with ⟨_, z, _⟩ | ⟨n, e1⟩
          · cases z
          · obtain ⟨a, w1, w2, w3, oj, w5, w6⟩ := I.o j e e1 g2
            refine ⟨a, w1, List.mem_filter.mpr ⟨w2, ?_⟩, w3, oj, w5, w6.mono (less_sub fun b hb => ?_)⟩
            · simpa using fun z : a = p => n (I.ap i j p _ e hi e1 er g2 es (by rw [← z]; exact w1))
            · rcases List.mem_cons.mp hb with z | hb
              · rw [z]
                exact List.mem_cons_self ..
              · exact List.mem_cons_of_mem _ (List.mem_filter.mp hb).1
        · rcases set_at g1 with ⟨_, z, _⟩ | ⟨n, e1⟩
          · cases z
          · exact I.p j e1
        · rcases set_at g1 with ⟨_, z, _⟩ | ⟨n, e1⟩
          · cases z
          · obtain ⟨a, ns, w1, w2, w3⟩ := I.s j e e1 g2
            exact ⟨a, ns, w1, w2, sqL_mono low w3⟩
        · rcases set_at g1 with ⟨_, z, _⟩ | ⟨n, e1⟩
          · cases z
          · rcases set_at g2 with ⟨_, z, _⟩ | ⟨n2, e2⟩
            · cases z
            · exact I.ap j k a b c e1 e2 g3 g4 g5 g6
        · rcases set_at g1 with ⟨_, z, _⟩ | ⟨n, e1⟩
          · cases z
          · exact S.ow j e a e1 g2 g3
end
end DL
set_option maxHeartbeats 2000000
namespace DL
open PySem PySem.Spec PyProof.Rows L2
def sNext : Fs := fun ρ π => .ok (.nx ρ, π)
def sSeq (a b : Fs) : Fs := fun ρ π => (a ρ π).bind fun x => match x.1 with
  | .nx ρ1 => b ρ1 x.2
  | .bk ρ1 => .ok (.bk ρ1, x.2)
  | .ct ρ1 => .ok (.ct ρ1, x.2)
  | .rt d => .ok (.rt d, x.2)
def sSet (i : Nat) (fe : Ed) : Fs := fun ρ π => (fe ρ π).bind fun x => .ok (.nx (ρ.set i (some x.1)), x.2)
def sPar (i j : Nat) (fa fb : Ed) : Fs := fun ρ π => (fa ρ π).bind fun x => (fb ρ x.2).bind fun y => .ok (.nx ((ρ.set i (some x.1)).set j (some y.1)), y.2)
def sPar3 (i j l : Nat) (fa fb fc : Ed) : Fs := fun ρ π => (fa ρ π).bind fun x => (fb ρ x.2).bind fun y => (fc ρ y.2).bind fun z => .ok (.nx (((ρ.set i (some x.1)).set j (some y.1)).set l (some z.1)), z.2)
def sUnp (fe : Ed) (fg : D → Rho → Option Rho) : Fs := fun ρ π => (fe ρ π).bind fun x => (ofO (fg x.1 ρ)).bind fun ρ1 => .ok (.nx ρ1, x.2)
def sExpr (fe : Ed) : Fs := fun ρ π => (fe ρ π).bind fun x => .ok (.nx ρ, x.2)
def sRet (fe : Ed) : Fs := fun ρ π => (fe ρ π).bind fun x => .ok (.rt x.1, x.2)
def sRetN : Fs := fun _ π => .ok (.rt .non, π)
def sIf (ft : Et) (a b : Fs) : Fs := fun ρ π => (ft ρ π).bind fun x => if x.1 = true then a ρ x.2 else b ρ x.2
def sBreak : Fs := fun ρ π => .ok (.bk ρ, π)
def sCont : Fs := fun ρ π => .ok (.ct ρ, π)
def sStuck : Fs := fun _ _ => .stuck
def forGo (fg : D → Rho → Option Rho) (fb : Fs) : List D → Rho → Pot → Res (Out × Pot)
  | [], ρ, π => .ok (.nx ρ, π)
  | d :: ds, ρ, π => (ofO (fg d ρ)).bind fun ρ1 => (fb ρ1 π).bind fun y => match y.1 with
    | .nx ρ2 => forGo fg fb ds ρ2 y.2
    | .ct ρ2 => forGo fg fb ds ρ2 y.2
    | .bk ρ2 => .ok (.nx ρ2, y.2)
    | .rt d => .ok (.rt d, y.2)
def sFor (fi : Ei) (fg : D → Rho → Option Rho) (fb : Fs) : Fs := fun ρ π => (fi ρ π).bind fun x => forGo fg fb x.1 ρ x.2
structure DS (X : Cx) (E : XK) (r : Rm) (Γl Γ Γ' : List Md) (st : Stmt) (ts : TS) (fs : Fs) : Prop where
  ps : PS X st ts
  sem : SemS X.mg X.K E r Γl Γ Γ' ts fs
structure DSs (X : Cx) (E : XK) (r : Rm) (Γl Γ Γ' : List Md) (sts : List Stmt) (ts : TS) (fs : Fs) : Prop where
  pss : PSs X sts ts
  sem : SemS X.mg X.K E r Γl Γ Γ' ts fs
section
variable {X : Cx} {E : XK} {r r' ra rb rc : Rm} {Γl Γ Γ1 Γ' : List Md} {pos : Pos} {k : Nat} {e a b c : Expr} {te ta tb tc : TE} {fe fa fb fc : Ed} {st : Stmt} {sts body : List Stmt} {ts us : TS} {fs gs : Fs} {tt : TT} {ft : Et}
theorem dss_nil : DSs X E r Γl Γ Γ [] tNext sNext := ⟨pss_nil, fun pot M0 H0 B M σ H ρ π D S p h => h M σ H S p⟩
theorem dss_one (h : DS X E r Γl Γ Γ' st ts fs) : DSs X E r Γl Γ Γ' [st] ts fs := ⟨pss_one h.ps, h.sem⟩
theorem dss_cons (h : DS X E r Γl Γ Γ1 st ts fs) (h' : DSs X E r Γl Γ1 Γ' sts us gs) : DSs X E r Γl Γ Γ' (st :: sts) (tSeq ts us) (sSeq fs gs) :=
  ⟨pss_cons h.ps h'.pss, fun pot M0 H0 B M σ H ρ π D S p q => by
    refine h.sem pot M0 H0 B M σ H ρ π _ S p ?_
    unfold sSeq at q
    cases ex : fs ρ π with
    | err c ns xs π' =>
      rw [ex] at q
      exact q
    | stuck =>
      rw [ex] at q
      exact q
    | ok x =>
      obtain ⟨o, π1⟩ := x
      rw [ex] at q
      cases o with
      | nx ρ1 => exact fun M1 σ1 H1 S1 p1 => h'.sem pot M0 H0 B M1 σ1 H1 ρ1 π1 D S1 p1 q
      | bk ρ1 => exact q
      | ct ρ1 => exact q
      | rt d => exact q⟩
/-- an own list is data from here on -/
theorem dss_frz (i : Nat) (h : DSs X E r Γl (Γ.set i .f) Γ' sts ts fs) (hΓ : Γ[i]? = some .o := by rfl) : DSs X E r Γl Γ Γ' sts ts fs :=
  ⟨h.pss, fun pot M0 H0 B M σ H ρ π D S p q => by
    obtain ⟨M1, S1⟩ := S.freeze hΓ
    exact h.sem pot M0 H0 B M1 σ H ρ π D S1 p q⟩
theorem ds_never : DS X E r Γl Γ Γ' st tNever sStuck := ⟨ps_never, fun pot M0 H0 B M σ H ρ π D S p h => h.elim⟩
theorem set_same {l : List Md} {i : Nat} {m : Md} (h : l[i]? = some m) : l.set i m = l := by
  apply List.ext_getElem?
  intro j
  by_cases e : i = j
  · subst e
    rw [List.getElem?_set_self (List.getElem?_eq_some_iff.mp h).1, h]
  · rw [List.getElem?_set_ne e]
/-- x = e -/
theorem sem_set {i : Nat} (hΓ : Γ[i]? = some r'.md) (he : SemE X.mg X.K E r' Γ te fe) : SemS X.mg X.K E r Γl Γ Γ (tAsg te (gName i)) (sSet i fe) := fun pot M0 H0 B M σ H ρ π D S p h => by
  refine PostS.seq (r' := r') (te := te σ H) h S (fun Q' hq => he pot M σ H ρ π S.env p Q' hq) fun d π1 v H1 _ g1 p1 q1 h1 => ?_
  obtain ⟨M1, S1, hd, _⟩ := S.hold g1 p1 q1
  have S2 := S1.put (i := i) (List.getElem?_eq_some_iff.mp hΓ).1 hd
  rw [set_same hΓ] at S2
  exact h1 M1 _ H1 S2 p1
theorem ds_set (i : Nat) {x : Str} {p : Pos} (o : XOk X E k) (he : DE X E r' Γ e te fe) (hΓ : Γ[i]? = some r'.md := by rfl) (hN : X.N[i]? = some x := by rfl) (hx : Loc X.env.scope x := by first | exact Or.inl rfl | exact Or.inr rfl)
    (hs : swapsWith e (some (.Name x p)) pos.line X.env = pure false := by rfl) (hf : X.fn x = true ∨ X.env.scope.names.lookup x = some .local := by first | exact .inl rfl | exact .inr rfl) : DS X E r Γl Γ Γ (.Assign [.Name x p] e pos) (tAsg te (gName i)) (sSet i fe) :=
  ⟨ps_set o.nd hN hx he.pe hs hf, sem_set hΓ he.sem⟩
/-- a, b = e1, e2 -/
theorem ds_par (i j : Nat) {x y : Str} {px py pt : Pos} {kt k2 : Nat} {pt2 : Pos} (o : XOk X E k) (ha : DE X E ra Γ a ta fa) (hb : DE X E rb Γ b tb fb) (hi : Γ[i]? = some ra.md := by rfl) (hj : Γ[j]? = some rb.md := by rfl) (hN : X.N[i]? = some x := by rfl) (hN2 : X.N[j]? = some y := by rfl) (hij : i ≠ j := by decide)
    (hx : X.env.scope.names.lookup x = some .local := by rfl) (hy : X.env.scope.names.lookup y = some .local := by rfl) (hw : swappedStores [.Tuple [.Name x px, .Name y py] kt pt] (.Tuple [a, b] k2 pt2) X.env = pure (some [x, y]) := by rfl)
    (hs : swapsWithSole [.Tuple [.Name x px, .Name y py] kt pt] (.Tuple [a, b] k2 pt2) pos.line X.env = pure false := by rfl) (s1 : starEach [a, b] X.env = (false, eval a X.env) :: starEach [b] X.env := by rfl) (s2 : starEach [b] X.env = (false, eval b X.env) :: starEach [] X.env := by rfl) :
    DS X E r Γl Γ Γ (.Assign [.Tuple [.Name x px, .Name y py] kt pt] (.Tuple [a, b] k2 pt2) pos) (tPar i j (tCons ta (tCons tb tNil))) (sPar i j fa fb) :=
  ⟨ps_par o.calm o.nd hN hN2 hij hx hy (pa_cons ha.pe (pa_cons hb.pe pa_nil s2) s1) hw hs, fun pot M0 H0 B M σ H ρ π D S p h => by
    refine PostS.seq (r' := ra) (te := ta σ H) h S (fun Q' hq => ha.sem pot M σ H ρ π S.env p Q' hq) fun d π1 v H1 _ g1 p1 q1 h1 => ?_
    obtain ⟨M1, S1, hd, _⟩ := S.hold g1 p1 q1
    refine PostS.seq (r' := rb) (te := tb σ H1) h1 S1 (fun Q' hq => hb.sem pot M1 σ H1 ρ π1 S1.env p1 Q' hq) fun e π2 w H2 _ g2 p2 q2 h2 => ?_
    obtain ⟨M2, S2, he, hc⟩ := S1.hold g2 p2 q2
    have hd2 := hd.carry S1.env.pm g2 hc
    have hne : rb = .o → ra = .o → w ≠ v := fun e1 e2 z => by
      subst e1
      subst e2
      obtain ⟨p', e3, m, _⟩ := hd
      obtain ⟨q', e4, hn, _⟩ := q2
      rw [e4, e3] at z
      cases z
      exact (S1.env.al _ m).nn hn
    have he2 := he.put hd2 hne (i := i)
    have S3 := S2.put (i := i) (List.getElem?_eq_some_iff.mp hi).1 hd2
    have S4 := S3.put (i := j) (by rw [List.length_set]; exact (List.getElem?_eq_some_iff.mp hj).1) he2
    rw [set_same hi, set_same hj] at S4
    exact ⟨v, w, rfl, h2 M2 _ H2 S4 p2⟩⟩
/-- a, b = e: a tuple's items -/
theorem ds_unp {tg : Expr} {is : List Nat} {g : TG} {fg : D → Rho → Option Rho} (he : DE X E .f Γ e te fe) (hg : DG X Γ tg is g fg) (h1 : swapsWithSole [tg] e pos.line X.env = pure false := by rfl) (h2 : swappedStores [tg] e X.env = pure none := by rfl)
    (h3 : (assignEach [tg] X.env).map (·.2) = [assign tg X.env] := by rfl) : DS X E r Γl Γ Γ (.Assign [tg] e pos) (tAsg te g) (sUnp fe fg) :=
  ⟨ps_asg he.pe hg.pg h1 h2 h3, fun pot M0 H0 B M σ H ρ π D S p h => by
    refine PostS.seq (r' := .f) (te := te σ H) h S (fun Q' hq => he.sem pot M σ H ρ π S.env p Q' hq) fun d π1 v H1 _ g1 p1 q1 h1 => ?_
    have S1 := S.grow g1 p1
    cases e1 : fg d ρ with
    | none =>
      rw [e1] at h1
      exact h1.elim
    | some ρ1 =>
      rw [e1] at h1
      refine hg.sem pot M σ H1 ρ v d S1.env q1 ρ1 e1 _ fun σ1 I1 s1 s2 => h1 M σ1 H1 ⟨I1, S1.gr, S1.sub, fun j e a w1 w2 w3 => ?_, S1.m0, S1.bs⟩ p1
      have nj : j ∉ is := fun z => by
        rw [hg.fs j z] at w1
        cases w1
      rw [s1 j nj] at w3
      rw [s2 j nj] at w2
      exact S.ow j e a w1 w2 w3⟩
theorem ds_expr (he : DE X E r' Γ e te fe) (hs : swapsWith e none pos.line X.env = pure false := by rfl) : DS X E r Γl Γ Γ (.Expr e pos) (tDrop te) (sExpr fe) :=
  ⟨ps_expr he.pe hs, fun pot M0 H0 B M σ H ρ π D S p h => by
    refine PostS.seq (r' := r') (te := te σ H) h S (fun Q' hq => he.sem pot M σ H ρ π S.env p Q' hq) fun d π1 v H1 _ g1 p1 q1 h1 => ?_
    exact h1 M σ H1 (S.grow g1 p1) p1⟩
theorem RpR.out {pot : Option Addr} {M0 M : List Addr} {H0 H H1 B : Hp} {σ : L2.St} {ρ : Rho} {v : V} {d : D} (S : SOk X.mg X.K Γ pot M0 H0 B M σ H ρ) (hr : r = .f ∨ r = .o) (q : RpR X.mg X.K r pot M H H1 v d) : RpR X.mg X.K r pot M0 H0 H1 v d := by
  rcases hr with rfl | rfl
  · exact Rp.mono (less_sub S.sub) q
  · obtain ⟨p, e, hn, n, oo, h1, h2⟩ := q
    refine ⟨p, e, ?_, n, oo, h1, h2.mono (less_sub fun a ha => ?_)⟩
    · cases z : H0 p with
      | none => rfl
      | some o =>
        rw [S.gr p o n z] at hn
        cases hn
    · rcases List.mem_cons.mp ha with z | ha
      · rw [z]
        exact List.mem_cons_self ..
      · exact List.mem_cons_of_mem _ (S.sub a ha)
theorem ds_ret (he : DE X E r Γ e te fe) (hr : r = .f ∨ r = .o := by first | exact .inl rfl | exact .inr rfl) : DS X E r Γl Γ Γ' (.Return (some e) pos) (tRet te) (sRet fe) :=
  ⟨ps_ret he.pe, fun pot M0 H0 B M σ H ρ π D S p h => by
    refine PostS.seq (r' := r) (te := te σ H) h S (fun Q' hq => he.sem pot M σ H ρ π S.env p Q' hq) fun d π1 v H1 _ g1 p1 q1 h1 => ?_
    exact h1 v H1 (S.gr.trans g1) p1 (q1.out S hr)⟩
/-- an own list is handed back, as a new one -/
theorem ds_reto (i : Nat) {x : Str} {p : Pos} (hN : X.N[i]? = some x := by rfl) (hv : Vis X.env.scope x := by first | exact Or.inl rfl | exact Or.inr (Or.inl rfl) | exact Or.inr (Or.inr rfl)) (hΓ : Γ[i]? = some .o := by rfl)
    (hd : (x == ("__debug__" : Str)) = false := by decide) (hcd : (x == ("__classdict__" : Str)) = false := by decide) : DS X E .o Γl Γ Γ' (.Return (some (.Name x p)) pos) (tRet (tVar i)) (sRet (eVar i)) :=
  ⟨ps_ret (pe_var hN hv hd hcd), fun pot M0 H0 B M σ H ρ π D S p h => by
    unfold sRet eVar at h
    cases er : ρ[i]? with
    | none =>
      rw [er] at h
      exact h.elim
    | some od =>
      cases od with
      | none =>
        rw [er] at h
        exact h.elim
      | some d =>
        rw [er] at h
        obtain ⟨q, e1, m, n, oo, h1, h2⟩ := S.env.o i d hΓ er
        refine ⟨_, e1, h _ H S.gr p ⟨q, rfl, S.ow i d q hΓ er e1, n, oo, h1, h2.mono (less_sub fun a ha => ?_)⟩⟩
        rcases List.mem_cons.mp ha with z | ha
        · rw [z]
          exact List.mem_cons_self ..
        · exact List.mem_cons_of_mem _ (S.sub a ha)⟩
theorem ds_if (hc : DT X E Γ c tt ft) (ha : DSs X E r Γl Γ Γ' body ts fs) (hb : DSs X E r Γl Γ Γ' sts us gs) : DS X E r Γl Γ Γ' (.If c body sts pos) (tIfS tt ts us) (sIf ft fs gs) :=
  ⟨ps_if hc.pt ha.pss hb.pss, fun pot M0 H0 B M σ H ρ π D S p h => by
    refine PostS.seqT (te := tt σ H) h S (fun Q' hq => hc.sem pot M σ H ρ π S.env p Q' hq) fun d π1 H1 _ g1 p1 h1 => ?_
    cases d with
    | true => exact ha.sem pot M0 H0 B M σ H1 ρ π1 D (S.grow g1 p1) p1 h1
    | false => exact hb.sem pot M0 H0 B M σ H1 ρ π1 D (S.grow g1 p1) p1 h1⟩
end
end DL
set_option maxHeartbeats 2000000
namespace DL
open PySem PySem.Spec PyProof.Rows L2
section
variable {mg : Str → Option Value} {K : PySem.W.Frag} {pot : Option Addr} {M M0 M1 : List Addr} {H H0 H1 H2 B : Hp} {π π1 : Pot} {Γ Γl Γ' : List Md} {σ : L2.St} {ρ : Rho} {v : V} {d : D} {r : Rm} {E : XK}
theorem less_upd {p : Addr} {o : HO} (h : p ∈ M) : Same (less H M) (less (upd H p o) M) := fun a u e => by
  obtain ⟨e1, e2⟩ := less_some.mp e
  refine less_some.mpr ⟨e1, ?_⟩
  rw [upd_ne (fun z => e1 (by rw [z]; exact h))]
  exact e2
theorem SOk.mut (S : SOk mg K Γ pot M0 H0 B M σ H ρ) {i : Nat} {p : Addr} {o' : HO} {d' : D} (hi : Γ[i]? = some .o) (er : ρ[i]? = some (some d)) (es : σ[i]? = some (some (.ref p))) (q : HoR mg K (less H M) o' d') :
    SOk mg K Γ pot M0 H0 B M σ (upd H p o') (ρ.set i (some d')) := by
  have I := S.env
  obtain ⟨p', e1, m, n, oo, h1, h2⟩ := I.o i d hi er
  have ep : p' = p := by
    rw [es] at e1
    cases e1
    rfl
  subst ep
  have hr : i < ρ.length := (List.getElem?_eq_some_iff.mp er).1
  have hz := S.ow i d p' hi er es
  refine ⟨⟨I.ls, by simp [I.lr], fun j e g1 g2 => ?_, fun j e g1 g2 => ?_, I.p, fun j e g1 g2 => ?_, fun j k a b c g1 g2 g3 g4 g5 g6 => ?_, fun a ha => ?_, I.pm, fun j a dd e g1 g2 => by
    have nij : i ≠ j := fun z => by rw [← z, hi] at g1; cases g1
    rw [List.getElem?_set_ne nij] at g2
    exact ⟨(I.x j a dd e g1 g2).1, (I.x j a dd e g1 g2).2.mono (less_upd m)⟩⟩, fun a o g1 g2 => ?_, S.sub, fun j e a g1 g2 g3 => ?_, S.m0, fun a o e => less_upd m a o (S.bs a o e)⟩
  · have nij : i ≠ j := fun z => by rw [← z, hi] at g1; cases g1
    rw [List.getElem?_set_ne nij] at g2
    obtain ⟨w, w1, w2⟩ := I.f j e g1 g2
    exact ⟨w, w1, w2.mono (less_upd m)⟩
  · rcases set_at g2 with ⟨rfl, e3, _⟩ | ⟨nij, e3⟩
    · cases e3
      exact ⟨p', es, m, n, o', upd_same, (q.mono (less_in m)).mono (less_upd (List.mem_cons_self ..))⟩
    · obtain ⟨a, w1, w2, w3, oj, w5, w6⟩ := I.o j e g1 e3
      have na : a ≠ p' := fun z => nij (I.ap i j p' d e hi g1 er e3 es (by rw [← z]; exact w1))
      exact ⟨a, w1, w2, w3, oj, by rw [upd_ne na]; exact w5, w6.mono (less_upd (List.mem_cons_of_mem _ m))⟩
  · have nij : i ≠ j := fun z => by rw [← z, hi] at g1; cases g1
    rw [List.getElem?_set_ne nij] at g2
    obtain ⟨a, ns, w1, w2, w3⟩ := I.s j e g1 g2
    exact ⟨a, ns, w1, w2, sqL_mono (less_upd m) w3⟩
  · have s3 : ∃ b', ρ[j]? = some (some b') := by
      rcases set_at g3 with ⟨z, _, _⟩ | ⟨_, z⟩
      · exact ⟨d, by rw [← z]; exact er⟩
      · exact ⟨b, z⟩
    have s4 : ∃ b', ρ[k]? = some (some b') := by
      rcases set_at g4 with ⟨z, _, _⟩ | ⟨_, z⟩
      · exact ⟨d, by rw [← z]; exact er⟩
      · exact ⟨c, z⟩
    obtain ⟨b1, s3⟩ := s3
    obtain ⟨b2, s4⟩ := s4
    exact I.ap j k a b1 b2 g1 g2 s3 s4 g5 g6
  · by_cases z : a = p'
    · rw [z]
      exact .of upd_same q.nt
    · obtain ⟨o, e, n⟩ := I.al a ha
      exact .of (by rw [upd_ne z]; exact e) n
  · have z : a ≠ p' := fun z => by
      rw [z, hz] at g2
      cases g2
    rw [upd_ne z]
    exact S.gr a o g1 g2
  · rcases set_at g2 with ⟨rfl, e3, _⟩ | ⟨nij, e3⟩
    · exact S.ow i d a hi er g3
    · exact S.ow j e a g1 e3 g3
theorem PotAt.mut {p : Addr} {o : HO} (h : PotAt pot H π) (n : pot ≠ some p) : PotAt pot (upd H p o) π := fun a e => by
  rw [upd_ne (fun z => n (by rw [e, z]))]
  exact h a e
/-- the pot turns -/
theorem SOk.potset (S : SOk mg K Γ pot M0 H0 B M σ H ρ) {p : Addr} (e : pot = some p) (a b : Int) : SOk mg K Γ pot M0 H0 B M σ (upd H p (.lst [.int a, .int b])) ρ :=
  S.grow (π := (a, b)) (fun x o n h => by
    rw [upd_ne (fun z => n (by rw [e, z]))]
    exact h) fun x h => by
    rw [e] at h
    cases h
    exact upd_same
end
def sMut (i : Nat) (fe : Ed) (f : D → List D → Option (List D)) : Fs := fun ρ π => match ρ[i]? with
  | some (some (.lst ds)) => (fe ρ π).bind fun x => (ofO (f x.1 ds)).bind fun es => .ok (.nx (ρ.set i (some (.lst es))), x.2)
  | _ => .stuck
def sMut2 (i : Nat) (fk fe : Ed) (f : D → D → List D → Option (List D)) : Fs := fun ρ π => match ρ[i]? with
  | some (some (.lst ds)) => (fk ρ π).bind fun y => (fe ρ y.2).bind fun x => (ofO (f y.1 x.1 ds)).bind fun es => .ok (.nx (ρ.set i (some (.lst es))), x.2)
  | _ => .stuck
def appD (e : D) (ds : List D) : Option (List D) := if ds.length < sizeLine then some (ds ++ [e]) else none
def extD (e : D) (ds : List D) : Option (List D) := match e with
  | .lst es => if ds.length + es.length ≤ sizeLine then some (ds ++ es) else none
  | _ => none
/-- the value, then the place -/
def setD (v k : D) (ds : List D) : Option (List D) := match k with
  | .int n => (ixN ds.length n).map fun j => ds.set j v
  | _ => none
def sApp (i : Nat) (fe : Ed) : Fs := sMut i fe appD
def sExt (i : Nat) (fe : Ed) : Fs := sMut i fe extD
def sSetIx (i : Nat) (fe fk : Ed) : Fs := sMut2 i fe fk setD
def intAt (ds : List D) (k : D) : Option (Nat × Int) := match k with
  | .int m => if 0 ≤ m ∧ m < 4611686018427387904 then (match ds[m.toNat]? with
    | some (.int x) => some (m.toNat, x)
    | _ => none) else none
  | _ => none
def sAugIx (i : Nat) (g : Int → Int → Int) (fk fe : Ed) : Fs := fun ρ π => match ρ[i]? with
  | some (some (.lst ds)) => (fk ρ π).bind fun y => (ofO (intAt ds y.1)).bind fun a => (fe ρ y.2).bind fun x => match x.1 with
    | .int b => .ok (.nx (ρ.set i (some (.lst (ds.set a.1 (.int (g a.2 b)))))), x.2)
    | _ => .stuck
  | _ => .stuck
def sAug (i : Nat) (g : Int → Int → Int) (fe : Ed) : Fs := fun ρ π => match ρ[i]? with
  | some (some (.int a)) => (fe ρ π).bind fun x => match x.1 with
    | .int b => .ok (.nx (ρ.set i (some (.int (g a b)))), x.2)
    | _ => .stuck
  | _ => .stuck
def ePot0 : Ed := fun _ π => .ok (.int π.1, π)
def ePot1 : Ed := fun _ π => .ok (.int π.2, π)
def sPot1 (fe : Ed) : Fs := fun ρ π => (fe ρ π).bind fun x => match x.1 with
  | .int n => .ok (.nx ρ, (x.2.1, n))
  | _ => .stuck
def divOk (i j : Int) : Bool := decide (0 < j) && !Builtin.divisionGoesByPylong i j
def sPotDm (j : Nat) (fe : Ed) : Fs := fun ρ π => (fe ρ π).bind fun x => match x.1 with
  | .int n => if divOk π.1 n then .ok (.nx (ρ.set j (some (.int (π.1 % n)))), (π.1 / n, x.2.2)) else .stuck
  | _ => .stuck
section
variable {X : Cx} {E : XK} {r r' ra rb rc : Rm} {Γl Γ Γ1 Γ' : List Md} {pos : Pos} {k : Nat} {e a b c : Expr} {te ta tb tc ti : TE} {fe fa fb fc fk : Ed} {st : Stmt} {sts body : List Stmt} {ts us : TS} {fs gs : Fs} {tt : TT} {ft : Et}
theorem own_at {pot : Option Addr} {M M0 : List Addr} {H H0 B : Hp} {σ : L2.St} {ρ : Rho} {i : Nat} {ds : List D} (S : SOk X.mg X.K Γ pot M0 H0 B M σ H ρ) (hΓ : Γ[i]? = some .o) (er : ρ[i]? = some (some (.lst ds))) :
    ∃ p xs, σ[i]? = some (some (.ref p)) ∧ pot ≠ some p ∧ H p = some (.lst xs) ∧ RpL X.mg X.K (less H M) xs ds := by
  obtain ⟨p, e1, m, n, oo, h1, h2⟩ := S.env.o i _ hΓ er
  cases h2 with
  | lst h2 => exact ⟨p, _, e1, n, h1, h2.mono (less_sub fun a q => List.mem_cons_of_mem _ q)⟩
/-- x.append(e), x.extend(e) -/
theorem sem_mut {i : Nat} {f : D → List D → Option (List D)} {rm : V → List V → Hp → VK → Prop} {ra : Rm} (hΓ : Γ[i]? = some .o) (he : SemE X.mg X.K E ra Γ te fe)
    (ho : ∀ (pot : Option Addr) (M : List Addr) (H : Hp) (p : Addr) (xs : List V) (y : V) (ds : List D) (d : D) (es : List D), H p = some (.lst xs) → RpL X.mg X.K (less H M) xs ds → (ra = .f → Rp X.mg X.K (less H M) y d) → Rb X.mg X.K pot M H y d → f d ds = some es →
      ∃ ys, RpL X.mg X.K (less H M) ys es ∧ ∀ Q : VK, Q .non (upd H p (.lst ys)) → rm (.ref p) [y] H Q) : SemS X.mg X.K E r Γl Γ Γ (tDrop (tBM X.K "list" rm (tVar i) (tCons te tNil))) (sMut i fe f) := fun pot M0 H0 B M σ H ρ π D' S p h => by
  unfold sMut at h
  split at h
  · rename_i ds er
    obtain ⟨c, xs, e1, n, h1, r1⟩ := own_at S hΓ er
    refine ⟨.ref c, e1, .inl ⟨rfl, xs, .inl (.inl h1)⟩, ?_⟩
    refine PostS.seq (r' := ra) (te := te σ H) h S (fun Q' hq => he pot M σ H ρ π S.env p Q' hq) fun d π1 v H1 _ g1 p1 q1 h2 => ?_
    have S1 := S.grow g1 p1
    cases ef : f d ds with
    | none =>
      rw [ef] at h2
      exact h2.elim
    | some es =>
      rw [ef] at h2
      obtain ⟨ys, r2, hQ⟩ := ho pot M H1 c xs v ds d es (g1 c _ n h1) (r1.mono (less_grow S.env.pm g1)) (fun z => by subst z; exact q1) q1.toB ef
      exact hQ _ (h2 M σ _ (S1.mut hΓ er e1 (.lst r2)) (p1.mut n))
  · exact h.elim
abbrev BmOk (X : Cx) (x : Str) (nm : Str) (e : Expr) (p apos cpos pos : Pos) : Prop :=
  attributeBase (.Name x p) nm X.env (eval (.Name x p) X.env) = eval (.Name x p) X.env ∧
  ((((backTo cpos (starEach [e] X.env)).all fun x => !x.fst) && (backToKw cpos (keywordEach [] X.env)).all fun x => x.fst.isSome) && decide (([e].length + ([] : List Expr).length + if ([] : List Expr).isEmpty = true then 0 else 1) < 30)) = true ∧
  (apos.endLine == cpos.line) = true ∧ starEach [e] X.env = (false, eval e X.env) :: starEach [] X.env ∧ ((backTo cpos (starEach [] X.env)).any fun x => x.fst) = false ∧
  swapsWith (.Call (.Attribute (.Name x p) nm apos) [e] [] cpos) none pos.line X.env = pure false
theorem ds_app (i : Nat) {x : Str} {p apos cpos : Pos} (he : DE X E .f Γ e te fe) (hΓ : Γ[i]? = some .o := by rfl) (hN : X.N[i]? = some x := by rfl) (hv : Vis X.env.scope x := by first | exact Or.inl rfl | exact Or.inr (Or.inl rfl) | exact Or.inr (Or.inr rfl))
    (hd : (x == ("__debug__" : Str)) = false := by decide) (hcd : (x == ("__classdict__" : Str)) = false := by decide) (hb : BmOk X x "append" e p apos cpos pos := by exact ⟨rfl, rfl, rfl, rfl, rfl, rfl⟩) :
    DS X E r Γl Γ Γ (.Expr (.Call (.Attribute (.Name x p) "append" apos) [e] [] cpos) pos) (tDrop (tBM X.K "list" rAppend (tVar i) (tCons te tNil))) (sApp i fe) :=
  ⟨ps_expr (pe_bm PySem.F.plainAttrs_list PySem.F.slot_list_append PySem.F.type_list_append mt_append (pe_var hN hv hd hcd) (pa_cons he.pe pa_nil hb.2.2.2.1) hb.1 hb.2.1 hb.2.2.1 hb.2.2.2.1 hb.2.2.2.2.1) hb.2.2.2.2.2,
    sem_mut (ra := .f) hΓ he.sem fun pot M H p xs y ds d es h1 r1 q1 _ ef => by
      unfold appD at ef
      split at ef
      · rename_i hl
        cases ef
        exact ⟨xs ++ [y], r1.append (.cons (q1 rfl) .nil), fun Q q => ⟨p, xs, y, rfl, rfl, h1, by rw [r1.length]; exact hl, q⟩⟩
      · cases ef⟩
theorem ds_ext (i : Nat) {x : Str} {p apos cpos : Pos} (he : DE X E r' Γ e te fe) (hΓ : Γ[i]? = some .o := by rfl) (hN : X.N[i]? = some x := by rfl) (hv : Vis X.env.scope x := by first | exact Or.inl rfl | exact Or.inr (Or.inl rfl) | exact Or.inr (Or.inr rfl))
    (hd : (x == ("__debug__" : Str)) = false := by decide) (hcd : (x == ("__classdict__" : Str)) = false := by decide) (hb : BmOk X x "extend" e p apos cpos pos := by exact ⟨rfl, rfl, rfl, rfl, rfl, rfl⟩) :
    DS X E r Γl Γ Γ (.Expr (.Call (.Attribute (.Name x p) "extend" apos) [e] [] cpos) pos) (tDrop (tBM X.K "list" rExtend (tVar i) (tCons te tNil))) (sExt i fe) :=
  ⟨ps_expr (pe_bm PySem.F.plainAttrs_list PySem.F.slot_list_extend PySem.F.type_list_extend mt_extend (pe_var hN hv hd hcd) (pa_cons he.pe pa_nil hb.2.2.2.1) hb.1 hb.2.1 hb.2.2.1 hb.2.2.2.1 hb.2.2.2.2.1) hb.2.2.2.2.2,
    sem_mut (ra := r') hΓ he.sem fun pot M H p xs y ds d es h1 r1 _ q1 ef => by
      unfold extD at ef
      split at ef
      · rename_i fs
        split at ef
        · rename_i hl
          cases ef
          obtain ⟨b, zs, rfl, hB, r2⟩ := rb_lst q1
          exact ⟨xs ++ zs, r1.append r2, fun Q q => ⟨p, b, xs, zs, rfl, rfl, h1, hB, by rw [r1.length, r2.length]; exact hl, q⟩⟩
        · cases ef
      · cases ef⟩
theorem ds_for {tg iter : Expr} {wi : TI} {fi : Ei} {is : List Nat} {g : TG} {fg : D → Rho → Option Rho} (o : XOk X E k) (hi : DI false X E Γ tg iter wi fi) (hg : DG X Γ tg is g fg) (hb : DSs X E r Γ Γ Γ body ts fs) (hs : ∀ x, foldedSetIterable iter X.env x = pure x := by intro _; rfl) :
    DS X E r Γl Γ Γ (.For tg iter body [] pos) (tFor wi g ts) (sFor fi fg fs) :=
  ⟨ps_for o.own o.calm hi.pi hg.pg hb.pss hs, fun pot M0 H0 B M σ H ρ π D' S p h => by
    refine PostS.seqI (w := false) (te := wi σ H) h S (fun Q' hq => hi.sem pot M σ H ρ π S.env p Q' hq) fun items π1 J H1 G Y _ g1 p1 W h1 => ?_
    have S1 := S.grow g1 p1
    refine for_it W.walk (fun i σ2 H2 => ∃ M2 ρ2 π2, SOk X.mg X.K Γ pot M0 H0 (less H1 M) M2 σ2 H2 ρ2 ∧ PotAt pot H2 π2 ∧ PostS X.mg X.K r Γl Γ pot M0 H0 B (forGo fg fs (items.drop i) ρ2 π2) D' E)
      ⟨M, ρ, π1, ⟨S1.env, S1.gr, S1.sub, S1.ow, S1.m0, Same.refl _⟩, p1, by rw [List.drop_zero]; exact h1⟩ (fun i σ2 H2 _ ⟨M2, ρ2, π2, S2, _, _⟩ => W.stay H2 M2 (fun z => by cases z) S2.bs) ?_ ?_
    · rintro i xv σ2 H2 H3 hlt ⟨M2, ρ2, π2, S2, p2, h2⟩ hy
      obtain ⟨sm, d, hd, rd⟩ := W.item i H2 xv H3 M2 (fun z => by cases z) S2.bs S2.env.al hlt hy
      have S3 := S2.grow (.of_same sm) (p2.same sm)
      have edr : items.drop i = d :: items.drop (i + 1) := by
        rw [List.drop_eq_getElem_cons hlt]
        congr 1
        have := List.getElem?_eq_getElem hlt
        rw [hd] at this
        exact (Option.some.inj this).symm
      rw [edr] at h2
      unfold forGo at h2
      cases e1 : fg d ρ2 with
      | none =>
        rw [e1] at h2
        exact h2.elim
      | some ρ3 =>
        rw [e1] at h2
        simp only [ofO_some, Res.bind_ok] at h2
        refine hg.sem pot M2 σ2 H3 ρ2 xv d S3.env rd ρ3 e1 _ fun σ3 I3 s1 s2 => ?_
        have S4 : SOk X.mg X.K Γ pot M0 H0 (less H1 M) M2 σ3 H3 ρ3 := ⟨I3, S3.gr, S3.sub, fun j e a w1 w2 w3 => by
          have nj : j ∉ is := fun z => by
            rw [hg.fs j z] at w1
            cases w1
          rw [s1 j nj] at w3
          rw [s2 j nj] at w2
          exact S3.ow j e a w1 w2 w3, S3.m0, S3.bs⟩
        refine hb.sem pot M0 H0 (less H1 M) M2 σ3 H3 ρ3 π2 _ S4 (p2.same sm) ?_
        cases e2 : fs ρ3 π2 with
        | err c ns xs π' =>
          rw [e2] at h2
          exact h2
        | stuck =>
          rw [e2] at h2
          exact h2
        | ok y =>
          obtain ⟨y, π3⟩ := y
          rw [e2] at h2
          simp only [Res.bind_ok] at h2
          cases y with
          | nx ρ4 => exact fun M4 σ4 H4 S5 p5 => ⟨M4, ρ4, π3, S5, p5, h2⟩
          | ct ρ4 => exact fun M4 σ4 H4 S5 p5 => ⟨M4, ρ4, π3, S5, p5, h2⟩
          | bk ρ4 => exact fun M4 σ4 H4 S5 p5 => h2 M4 σ4 H4 ⟨S5.env, S5.gr, S5.sub, S5.ow, S5.m0, fun a u e => S5.bs a u (S1.bs a u e)⟩ p5
          | rt d => exact h2
    · rintro σ2 H2 ⟨M2, ρ2, π2, S2, p2, h2⟩
      rw [List.drop_length] at h2
      exact h2 M2 σ2 H2 ⟨S2.env, S2.gr, S2.sub, S2.ow, S2.m0, fun a u e => S2.bs a u (S1.bs a u e)⟩ p2⟩
end
end DL
set_option maxHeartbeats 2000000
namespace DL
open PySem PySem.Spec PyProof.Rows L2
/-- a def's promise, where no repr is running -/
structure FnG (P : Program) (w : World) (K : PySem.W.Frag) (mg : Str → Option Value) (base : Heap) (k : Nat) (f : Addr) (fd : FuncData) (ps : List Str) (sp : Sp) : Prop where
  len : ∀ vs H Q E, sp vs H Q E → vs.length = ps.length
  run : ∀ (A : Around) (outer : List Env) (s : Shared) (H : Hp) (args : PySem.Args) (us : List Value) (vs : List V) (Q : VK) (E : XK), Room k A → A.guards = some [] →
    Env0 P w K mg base A outer s H → BindsTo s fd args (ps.zip us) → Vals vs us → sp vs H Q E →
    codeAny (model P w) A (.call (.ref f) args) (CR (L2.CX P w) outer P w H s Q E) s
theorem FnG.mono {P : Program} {w : World} {K : PySem.W.Frag} {mg : Str → Option Value} {base : Heap} {j k : Nat} {f : Addr} {fd : FuncData} {ps : List Str} {sp : Sp} (F : FnG P w K mg base j f fd ps sp) (h : j ≤ k) : FnG P w K mg base k f fd ps sp :=
  ⟨F.len, fun A outer s H args us vs Q E hr => F.run A outer s H args us vs Q E (hr.mono h)⟩
/-- by its body -/
theorem fn_ofG {P : Program} {w : World} {K : PySem.W.Frag} {mg : Str → Option Value} {base : Heap} {k : Nat} {f : Addr} {name qual : Str} {params : Arguments} {body : List Stmt} {scope : Scope} {dV kV doc pm cdv ct oc : Value} {an od : Option Addr} {osl : Array (Option Value)} {N ps : List Str} {sp : Sp}
    (lk : K.lookup f = some ⟨oc, od, .func (PySem.W.fnOf name qual params body scope dV kV doc pm an cdv ct), osl⟩) (hcd : PySem.W.codeIn K cdv qual = true) (S : FnScope N ps scope) (len : ∀ vs H Q E, sp vs H Q E → vs.length = ps.length)
    (hbody : ∀ (A : Around) (outer : List Env) (s : Shared) (H : Hp) (vs : List V) (Q : VK) (E : XK), Room k (A.deeper (envOfC qual scope s.heap.objs.size f cdv)) → A.guards = some [] → sp vs H Q E →
      ∃ t, PSs (cxOf (L2.CX P w) P w K mg base N qual scope f cdv A outer s H E) body t ∧ t { nx := fun _ H' => Q .non H', rt := Q } (start N vs) H) :
    FnG P w K mg base (k + 1) f (PySem.W.fnOf name qual params body scope dV kV doc pm an cdv ct) ps sp := by
  refine ⟨len, ?_⟩
  intro A outer s H args us vs Q E room gd env0 bind rel want
  have inK : K.In s.heap := env0.mod.kin.keeps fun b o q => (env0.bs b o q).1
  have noLim : s.heap.NoLimit := env0.mod.nolimit.keeps fun b o q => (env0.bs b o q).1
  refine codeAny_call_function room.depth (inK _ _ lk) rfl S.co S.gen rfl (PySem.W.codeRec_of inK hcd) (bind _ _ _ _ ?_)
  refine wpAny_newFunctionEnv_cells S.kind (fun q hq => ?_) fun env he s1 x => ?_
  · obtain ⟨n, v⟩ := q
    exact (S.par n (List.of_mem_zip hq).1).elim .inl fun z => .inr ⟨z, PySem.W.cellsFrom_some _ _ _ (.inl z)⟩
  · subst he
    refine ⟨noLim.keeps x.toInCall.keep, codeAny_func ?_⟩
    obtain ⟨t, ht, hq⟩ := hbody A outer s H vs Q E (room.deeper _) gd want
    have I0 := inv_start (CX := L2.CX P w) (K := K) (mg := mg) (base := base) (N := N) (qual := qual) (f := f) (cd := cdv) (E := E) S room.hd env0 (len _ _ _ _ want) rel x
    refine wpAny_mono (ht.run [] s1 (start N vs) H _ I0 hq) (fun fl s' hs => ?_) fun e s' hs => hs
    cases fl with
    | ret u =>
      obtain ⟨v, σ', H', J, rv, q⟩ := hs
      exact ⟨v, H', J.os, J.bare, J.base, J.hok, rv, q⟩
    | next =>
      obtain ⟨σ', H', J, q⟩ := hs
      exact ⟨.non, H', J.os, J.bare, J.base, J.hok, rfl, q⟩
    | brk =>
      obtain ⟨_, _, _, q⟩ := hs
      exact q.elim
    | cont =>
      obtain ⟨_, _, _, q⟩ := hs
      exact q.elim
section
variable (mg : Str → Option Value) (K : PySem.W.Frag)
/-- what a def promises that gives m of its data -/
def SpD (ks : List Ak) (r : Rm) (m : Fd) : Sp := fun vs H Q E => vs.length = ks.length ∧ ∃ pot M ds π, Args mg K pot M H ks vs ds ∧ (∀ a ∈ M, Al H a) ∧ (∀ a, pot = some a → a ∈ M) ∧ PotAt pot H π ∧ Post mg K r pot M H (m ds π) Q E
end
def startD (n : Nat) (ds : List D) : Rho := ds.map some ++ List.replicate (n - ds.length) none
def Ak.md : Ak → Md
  | .f => .f
  | .b => .u
  | .p => .p
  | .s => .s
/-- the body run as a def -/
def runD (n : Nat) (r : Rm) (fs : Fs) : Fd := fun ds π => (fs (startD n ds) π).bind fun x => match x.1 with
  | .rt d => .ok (d, x.2)
  | .nx _ => if r = .f then .ok (.non, x.2) else .stuck
  | _ => .stuck
/-- the modes at the entry -/
def modesOk (ks : List Ak) (Γ : List Md) : Bool := decide (Γ.take ks.length = ks.map Ak.md) && (Γ.drop ks.length).all fun m => m == .f || m == .o || m == .u
theorem start_at {N : List Str} {vs : List V} {i : Nat} (h : i < vs.length) : (start N vs)[i]? = some (vs[i]?) := by
  unfold L2.start
  rw [List.getElem?_append_left (by simpa using h), List.getElem?_map]
  simp [h]
theorem startD_at {n : Nat} {ds : List D} {i : Nat} {d : D} (h : (startD n ds)[i]? = some (some d)) : ds[i]? = some d := by
  unfold startD at h
  by_cases hi : i < ds.length
  · rw [List.getElem?_append_left (by simpa using hi), List.getElem?_map] at h
    simp [hi] at h
    rw [List.getElem?_eq_getElem hi, h]
  · rw [List.getElem?_append_right (by simpa using hi), List.getElem?_replicate] at h
    split at h <;> cases h
theorem Args.at {mg : Str → Option Value} {K : PySem.W.Frag} {pot : Option Addr} {M : List Addr} {H : Hp} : ∀ {ks : List Ak} {vs : List V} {ds : List D} {i : Nat} {d : D}, Args mg K pot M H ks vs ds → ds[i]? = some d → ∃ k v, ks[i]? = some k ∧ vs[i]? = some v ∧ ArgR mg K pot M H k v d
  | _, _, _, _, _, .nil, h => by simp at h
  | _, _, _, 0, _, .cons a _, h => by
    simp at h
    subst h
    exact ⟨_, _, rfl, rfl, a⟩
  | _, _, _, i + 1, _, .cons _ r, h => by
    obtain ⟨k, v, h1, h2, h3⟩ := r.at (i := i) (by simpa using h)
    exact ⟨k, v, by simpa using h1, by simpa using h2, h3⟩
theorem Args.atK {mg : Str → Option Value} {K : PySem.W.Frag} {pot : Option Addr} {M : List Addr} {H : Hp} : ∀ {ks : List Ak} {vs : List V} {ds : List D} {i : Nat} {k : Ak}, Args mg K pot M H ks vs ds → ks[i]? = some k → ∃ v d, vs[i]? = some v ∧ ds[i]? = some d ∧ ArgR mg K pot M H k v d
  | _, _, _, _, _, .nil, h => by simp at h
  | _, _, _, 0, _, .cons a _, h => by
    simp at h
    subst h
    exact ⟨_, _, rfl, rfl, a⟩
  | _, _, _, i + 1, _, .cons _ r, h => by
    obtain ⟨v, d, h1, h2, h3⟩ := r.atK (i := i) (by simpa using h)
    exact ⟨v, d, by simpa using h1, by simpa using h2, h3⟩
theorem Args.lenD {mg : Str → Option Value} {K : PySem.W.Frag} {pot : Option Addr} {M : List Addr} {H : Hp} {ks : List Ak} {vs : List V} {ds : List D} (h : Args mg K pot M H ks vs ds) : ds.length = ks.length := by
  induction h with
  | nil => rfl
  | cons _ _ ih => exact congrArg Nat.succ ih
theorem env_start {mg : Str → Option Value} {K : PySem.W.Frag} {pot : Option Addr} {M : List Addr} {H : Hp} {ks : List Ak} {Γ : List Md} {N : List Str} {vs : List V} {ds : List D} (hm : modesOk ks Γ = true) (hl : Γ.length = N.length) (hk : ks.length ≤ N.length)
    (a : Args mg K pot M H ks vs ds) (al : ∀ a ∈ M, Al H a) (pm : ∀ a, pot = some a → a ∈ M) : EnvOk mg K Γ pot M (start N vs) H (startD N.length ds) := by
  obtain ⟨m1, m2⟩ := Bool.and_eq_true_iff.mp hm
  have m1 := of_decide_eq_true m1
  have lv := a.length
  have ld := a.lenD
  have gam : ∀ (i : Nat) (k : Ak), ks[i]? = some k → Γ[i]? = some k.md := fun i k h => by
    have hi := (List.getElem?_eq_some_iff.mp h).1
    have e : (Γ.take ks.length)[i]? = Γ[i]? := List.getElem?_take_of_lt hi
    rw [← e, m1, List.getElem?_map, h]
    rfl
  have beyond : ∀ (i : Nat) (m : Md), ks.length ≤ i → Γ[i]? = some m → m = .f ∨ m = .o ∨ m = .u := fun i m h1 h2 => by
    have e : (Γ.drop ks.length)[i - ks.length]? = some m := by
      rw [List.getElem?_drop, Nat.add_sub_cancel' h1]
      exact h2
    have q := List.all_eq_true.mp m2 m (List.mem_of_getElem? e)
    simpa [or_assoc] using q
  have dat : ∀ (i : Nat) (d : D), (startD N.length ds)[i]? = some (some d) → ∃ k v, ks[i]? = some k ∧ (start N vs)[i]? = some (some v) ∧ ArgR mg K pot M H k v d := fun i d h => by
    obtain ⟨k, v, h1, h2, h3⟩ := a.at (startD_at h)
    have hi := (List.getElem?_eq_some_iff.mp h2).1
    exact ⟨k, v, h1, by rw [start_at hi, h2], h3⟩
  refine ⟨?_, ?_, fun i d h1 h2 => ?_, fun i d h1 h2 => ?_, fun i h1 => ?_, fun i d h1 h2 => ?_, fun i j x d e h1 h2 h3 h4 h5 h6 => ?_, al, pm, fun i x dd d h1 h2 => by
    obtain ⟨k, v, q1, q2, q3⟩ := dat i d h2
    have q4 := gam i k q1
    rw [h1] at q4
    cases k <;> cases q4⟩
  · unfold L2.start
    rw [List.length_append, List.length_map, List.length_replicate]
    omega
  · unfold startD
    rw [List.length_append, List.length_map, List.length_replicate]
    omega
  · obtain ⟨k, v, q1, q2, q3⟩ := dat i d h2
    have q4 := gam i k q1
    rw [h1] at q4
    cases k with
    | f => exact ⟨v, q2, q3⟩
    | _ => cases q4
  · obtain ⟨k, v, q1, q2, q3⟩ := dat i d h2
    have q4 := gam i k q1
    rw [h1] at q4
    cases k <;> cases q4
  · by_cases hi : i < ks.length
    · obtain ⟨v, d, q1, q2, q3⟩ := a.atK (List.getElem?_eq_getElem hi)
      have q4 := gam i _ (List.getElem?_eq_getElem hi)
      rw [h1] at q4
      have hi2 := (List.getElem?_eq_some_iff.mp q1).1
      generalize ks[i] = k at q3 q4
      cases k with
      | p =>
        obtain ⟨p, e1, rfl⟩ := q3
        exact ⟨p, e1, by rw [start_at hi2, q1]⟩
      | _ => cases q4
    · rcases beyond i .p (by omega) h1 with z | z | z <;> cases z
  · obtain ⟨k, v, q1, q2, q3⟩ := dat i d h2
    have q4 := gam i k q1
    rw [h1] at q4
    cases k with
    | s =>
      obtain ⟨p, ns, e1, e2, e3⟩ := q3
      exact ⟨p, ns, by rw [q2, e1], e2, e3⟩
    | _ => cases q4
  · obtain ⟨k, v, q1, q2, q3⟩ := dat i d h3
    have q4 := gam i k q1
    rw [h1] at q4
    cases k <;> cases q4
/-- a def of the text with what it gives -/
structure DFn (P : Program) (w : World) (K : PySem.W.Frag) (mg : Str → Option Value) (base : Heap) (k : Nat) (x : Str) (st : Stmt) (ps : List Str) (ks : List Ak) (r : Rm) (m : Fd) : Prop where
  ex : ∃ f fd, mg x = some (.ref f) ∧ Fun K x x st f fd ∧ FnG P w K mg base k f fd ps (SpD mg K ks r m)
section
variable {P : Program} {w : World} {K : PySem.W.Frag} {mg : Str → Option Value} {base : Heap} {k : Nat} {x : Str} {st : Stmt} {ps N : List Str} {ks : List Ak} {r : Rm}
theorem DFn.mono {j : Nat} {m : Fd} (F : DFn P w K mg base j x st ps ks r m) (h : j ≤ k) : DFn P w K mg base k x st ps ks r m := by
  obtain ⟨f, fd, h1, h2, h3⟩ := F.ex
  exact ⟨f, fd, h1, h2, h3.mono h⟩
/-- THE RULE for a def -/
theorem dfn_of {fs : Fs} (Γ Γ' : List Md) (hf : ∃ f fd, mg x = some (.ref f) ∧ Fun K x x st f fd) (S : FnScope N ps (defScope st)) (hp : ks.length = ps.length) (hl : Γ.length = N.length) (hk : ks.length ≤ N.length) (hm : modesOk ks Γ = true)
    (hr : (r = .f ∨ r = .o) ∨ r = .t)
    (hb : ∀ (f : Addr) (cdv : Value) (A : Around) (outer : List Env) (s : Shared) (H : Hp) (E : XK), XOk (cxOf (L2.CX P w) P w K mg base N x (defScope st) f cdv A outer s H E) E k →
      ∃ ts, DSs (cxOf (L2.CX P w) P w K mg base N x (defScope st) f cdv A outer s H E) E r Γ Γ Γ' (defBody st) ts fs) :
    DFn P w K mg base (k + 1) x st ps ks r (runD N.length r fs) := by
  obtain ⟨f, fd, h1, h2⟩ := hf
  refine ⟨f, fd, h1, h2, ?_⟩
  obtain ⟨oc, od, kV, doc, pm, an, cdv, ct, osl, rfl, lk, hcd⟩ := h2.ex
  refine fn_ofG lk hcd S (fun vs H Q E h => by rw [h.1, hp]) fun A outer s H vs Q E room gd want => ?_
  obtain ⟨_, pot, M, ds, π, ar, al, pm, pt, post⟩ := want
  have o : XOk (cxOf (L2.CX P w) P w K mg base N x (defScope st) f cdv A outer s H E) E k :=
    ⟨room, gd, rfl, passes_call (takes_of rfl rfl rfl rfl) fun _ _ _ _ z => z, passes_of rfl, S.nd⟩
  obtain ⟨ts, B⟩ := hb f cdv A outer s H E o
  refine ⟨ts, B.pss, ?_⟩
  have I := env_start hm hl hk ar al pm
  refine B.sem pot M H (fun _ => none) M _ H _ π _ ⟨I, .refl, fun a h => h, fun i d a h1 h2 h3 => ?_, fun a h => (al a h).nn, fun a u e => by cases e⟩ pt ?_
  · exfalso
    obtain ⟨k', v, q1, _⟩ := ar.at (startD_at h2)
    obtain ⟨m1, _⟩ := Bool.and_eq_true_iff.mp hm
    have m1 := of_decide_eq_true m1
    have hi := (List.getElem?_eq_some_iff.mp q1).1
    have e : (Γ.take ks.length)[i]? = Γ[i]? := List.getElem?_take_of_lt hi
    rw [h1, m1, List.getElem?_map, q1] at e
    cases k' <;> cases e
  · unfold runD at post
    cases ef : fs (startD N.length ds) π with
    | err c ns xs π' =>
      rw [ef] at post
      exact post
    | stuck =>
      rw [ef] at post
      exact post
    | ok y =>
      obtain ⟨y, π1⟩ := y
      rw [ef] at post
      cases y with
      | rt d => exact fun v H' g p q => post v H' g p q
      | nx ρ =>
        simp only [Res.bind_ok] at post
        split at post
        · rename_i hrf
          subst hrf
          exact fun M' σ' H' S' p' => post .non H' S'.gr p' .non
        · exact post.elim
      | bk ρ => exact post.elim
      | ct ρ => exact post.elim
end
section
variable {X : Cx} {E : XK} {Γ : List Md} {r : Rm} {e : Expr} {es : List Expr} {kws : List Keyword} {pos p kpos : Pos} {k j : Nat} {ks : List Ak} {tA tK : TA} {fA fK : Ea} {x : Str} {st : Stmt} {ps kn : List Str} {m : Fd} {nm : Option Str} {te : TE} {fe : Ed}
def tGo (mg : Str → Option Value) (K : PySem.W.Frag) (ks : List Ak) (r : Rm) (m : Fd) (E : XK) (t : TA) : TE := fun σ H Q => t σ H fun vs H1 => SpD mg K ks r m vs H1 Q E
def eGo (m : Fd) (a : Ea) : Ed := fun ρ π => (a ρ π).bind fun x => m x.1 x.2
theorem sem_go (hA : SemA X.mg X.K E ks Γ tA fA) : SemE X.mg X.K E r Γ (tGo X.mg X.K ks r m E tA) (eGo m fA) := fun pot M σ H ρ π I p Q h => by
  refine PostA.seq (ks := ks) (te := tA σ H) h p (fun Q' hq => hA pot M σ H ρ π I p Q' hq) fun ds π1 vs H1 _ g1 p1 r1 h1 => ?_
  exact ⟨r1.length, pot, M, ds, π1, r1, (I.grow g1 p1).al, I.pm, p1, h1⟩
theorem run_go {fd : FuncData} {f : Addr} {sp : Sp} {args : PySem.Args} {us ws : List Value} {vs : List V} {pins : List (Addr × Obj)} {σ : L2.St} {H : Hp} {s : Shared} {Q : VK} (F : FnG X.prog X.w X.K X.mg X.base j f fd ps sp) (o : XOk X E k) (hj : j ≤ k) (hb : BindsTo s fd ⟨us, kn.zip ws⟩ (ps.zip (us ++ ws)))
    (I : Inv X pins σ H s) (rl : Vals vs (us ++ ws)) (h : sp vs H Q E) : wpAny (model X.prog X.w) X.A (call (.ref f) us (kn.zip ws)) (EP X pins σ Q) X.xe s := by
  refine wpAny_call (codeAny_mono (F.run X.A X.stack s H _ (us ++ ws) vs Q E (o.room.mono hj) o.gd I.env0 hb rl h) fun res s' z => ?_)
  match res, z with
  | .error e, z => exact o.pass pins σ H s e s' I z
  | .ok (.ret u), z => exact I.after z
/-- f(e, ..) -/
theorem de_call (F : DFn X.prog X.w X.K X.mg X.base j x st ps ks r m) (o : XOk X E k)
    (hb : ∀ (kV doc pm : Value) (an : Option Addr) (cdv ct : Value) (us : List Value), us.length = ps.length → bindArgs (PySem.W.fnOf x x (defArgs st) (defBody st) (defScope st) .none kV doc pm an cdv ct) ⟨us, []⟩ = pure (ps.zip us))
    (hA : DA X E ks Γ (e :: es) tA fA) (hj : j ≤ k := by decide) (hg : Gl X x := by rfl) (hdb : (x == ("__debug__" : Str)) = false := by decide) (he : starEach (e :: es) X.env = (false, eval e X.env) :: starEach es X.env := by rfl) (hpl : (backTo pos (starEach es X.env)).any (·.1) = false := by rfl) :
    DE X E r Γ (.Call (.Name x p) (e :: es) [] pos) (tGo X.mg X.K ks r m E tA) (eGo m fA) :=
  ⟨⟨fun pins s σ H Q I h => by
    obtain ⟨f, fd, h1, h2, h3⟩ := F.ex
    refine wpAny_Call_Name_kw (ld_glob I hg h1 ?_ hdb)
    refine PySem.W.callWith_K (h₀ := X.base) I.ok.mod.kin h2.kp (thn (hA.pa.run pos pins s σ H _ I h) fun us s1 ⟨vs, H1, I1, rl, q⟩ => ⟨I1.kIn, ?_⟩) he hpl
    have hl : us.length = ps.length := by
      rw [← rl.length]
      exact h3.len _ _ _ _ q
    have bd : BindsTo s1 fd ⟨us, ([] : List Str).zip ([] : List Value)⟩ (ps.zip (us ++ [])) := by
      obtain ⟨oc, od, kV, doc, pm, an, cdv, ct, osl, rfl, lk, hcd⟩ := h2.ex
      rw [List.append_nil]
      exact .of_eq (hb kV doc pm an cdv ct us hl)
    exact run_go (args := ⟨us, []⟩) (kn := []) (ws := []) h3 o hj bd I1 (by rw [List.append_nil]; exact rl) q⟩, sem_go hA.sem⟩
theorem de_call0 (F : DFn X.prog X.w X.K X.mg X.base j x st [] [] r m) (o : XOk X E k)
    (hb : ∀ (kV doc pm : Value) (an : Option Addr) (cdv ct : Value), bindArgs (PySem.W.fnOf x x (defArgs st) (defBody st) (defScope st) .none kV doc pm an cdv ct) ⟨[], []⟩ = pure [])
    (hj : j ≤ k := by decide) (hg : Gl X x := by rfl) (hdb : (x == ("__debug__" : Str)) = false := by decide) :
    DE X E r Γ (.Call (.Name x p) [] [] pos) (tGo X.mg X.K [] r m E tNil) (eGo m aNil) :=
  ⟨⟨fun pins s σ H Q I h => by
    obtain ⟨f, fd, h1, h2, h3⟩ := F.ex
    refine wpAny_Call_Name_kw (ld_glob I hg h1 ?_ hdb)
    have bd : BindsTo s fd ⟨[], ([] : List Str).zip ([] : List Value)⟩ (([] : List Str).zip ([] ++ [])) := by
      obtain ⟨oc, od, kV, doc, pm, an, cdv, ct, osl, rfl, lk, hcd⟩ := h2.ex
      exact .of_eq (hb kV doc pm an cdv ct)
    exact PySem.W.callWith_K0 I.kIn h2.kp (run_go (args := ⟨[], []⟩) (us := []) (kn := []) (ws := []) h3 o hj bd I .nil h)⟩, sem_go da_nil.sem⟩
/-- the values of the keywords -/
structure DK (X : Cx) (E : XK) (ks : List Ak) (Γ : List Md) (kws : List Keyword) (tk : TA) (fk : Ea) : Prop where
  pk : PK X kws tk
  sem : SemA X.mg X.K E ks Γ tk fk
theorem dk_nil : DK X E [] Γ [] tNil aNil := ⟨pk_nil, da_nil.sem⟩
theorem dk_f (ha : DE X E .f Γ e te fe) (hK : DK X E ks Γ kws tK fK) : DK X E (.f :: ks) Γ (⟨nm, e, kpos⟩ :: kws) (tCons te tK) (aCons fe fK) := ⟨pk_cons ha.pe hK.pk, sem_cons (kk := .f) (ra := .f) (fun _ _ _ _ _ _ _ h => h) ha.sem hK.sem⟩
/-- f(k = e, ..): all by their names, in the parameters' sequence -/
theorem de_callK (F : DFn X.prog X.w X.K X.mg X.base j x st ps ks r m) (o : XOk X E k)
    (hb : ∀ (kV doc pm : Value) (an : Option Addr) (cdv ct : Value) (ws : List Value), ws.length = ps.length → bindArgs (PySem.W.fnOf x x (defArgs st) (defBody st) (defScope st) .none kV doc pm an cdv ct) ⟨[], ps.zip ws⟩ = pure (ps.zip ws))
    (hK : DK X E ks Γ kws tK fK) (hj : j ≤ k := by decide) (hg : Gl X x := by rfl) (hdb : (x == ("__debug__" : Str)) = false := by decide) (hall : (backToKw pos (keywordEach kws X.env)).all (·.1.isSome) = true := by rfl) (hks : (backToKw pos (keywordEach kws X.env)).filterMap (·.1) = ps := by rfl)
    (hpl : ((backTo pos (starEach [] X.env)).any (·.1) || (backToKw pos (keywordEach kws X.env)).any (·.1.isNone)) = false := by rfl) :
    DE X E r Γ (.Call (.Name x p) [] kws pos) (tGo X.mg X.K ks r m E tK) (eGo m fK) :=
  ⟨⟨fun pins s σ H Q I h => by
    obtain ⟨f, fd, h1, h2, h3⟩ := F.ex
    refine wpAny_Call_Name_kw (ld_glob I hg h1 ?_ hdb)
    refine PySem.W.callWith_KW0 (h₀ := X.base) I.ok.mod.kin h2.kp hall (thn (hK.pk.run pos pins s σ H _ I h) fun ws s1 ⟨vs, H1, I1, rl, q⟩ => ⟨I1.kIn, ?_⟩) hpl
    rw [hks]
    have hl : ws.length = ps.length := by
      rw [← rl.length]
      exact h3.len _ _ _ _ q
    have bd : BindsTo s1 fd ⟨[], ps.zip ws⟩ (ps.zip ([] ++ ws)) := by
      obtain ⟨oc, od, kV, doc, pm, an, cdv, ct, osl, rfl, lk, hcd⟩ := h2.ex
      exact .of_eq (hb kV doc pm an cdv ct ws hl)
    exact run_go (args := ⟨[], ps.zip ws⟩) (us := []) h3 o hj bd I1 rl q⟩, sem_go hK.sem⟩
end
end DL
set_option maxHeartbeats 2000000
namespace DL
open PySem PySem.Spec PyProof.Rows L2
def asInts : List D → Option (List Int)
  | [] => some []
  | .int i :: r => (asInts r).map (i :: ·)
  | _ :: _ => none
def asBls : List D → Option (List Bool)
  | [] => some []
  | .bl i :: r => (asBls r).map (i :: ·)
  | _ :: _ => none
@[simp] theorem asInts_iz : ∀ ns : List Int, asInts (ns.map D.int) = some ns
  | [] => rfl
  | n :: ns => by
    show (asInts (ns.map D.int)).map _ = _
    rw [asInts_iz ns]
    rfl
@[simp] theorem asBls_bl : ∀ bs : List Bool, asBls (bs.map D.bl) = some bs
  | [] => rfl
  | n :: ns => by
    show (asBls (ns.map D.bl)).map _ = _
    rw [asBls_bl ns]
    rfl
theorem asInts_eq : ∀ {ds : List D} {ns : List Int}, asInts ds = some ns → ds = ns.map D.int
  | [], ns, h => by
    cases h
    rfl
  | d :: ds, ns, h => by
    cases d with
    | int i =>
      simp only [asInts, Option.map_eq_some_iff] at h
      obtain ⟨ms, e, rfl⟩ := h
      rw [asInts_eq e]
      rfl
    | _ => cases h
theorem asBls_eq : ∀ {ds : List D} {ns : List Bool}, asBls ds = some ns → ds = ns.map D.bl
  | [], ns, h => by
    cases h
    rfl
  | d :: ds, ns, h => by
    cases d with
    | bl i =>
      simp only [asBls, Option.map_eq_some_iff] at h
      obtain ⟨ms, e, rfl⟩ := h
      rw [asBls_eq e]
      rfl
    | _ => cases h
theorem rpl_bls {mg : Str → Option Value} {K : PySem.W.Frag} {H : Hp} : ∀ {ns : List Bool} {vs : List V}, RpL mg K H vs (ns.map D.bl) → vs = ns.map V.bl
  | [], _, .nil => rfl
  | n :: ns, _, .cons h r => by
    cases h
    rw [rpl_bls r]
    rfl
/-- ints in ascending order -/
def sortI (ns : List Int) : List Int := ns.mergeSort fun a b => decide (a ≤ b)
theorem sorted_same : ∀ {xs ys : List Int}, xs.Perm ys → xs.Pairwise (· ≤ ·) → ys.Pairwise (· ≤ ·) → xs = ys
  | [], ys, p, _, _ => by
    have := p.length_eq
    cases ys with
    | nil => rfl
    | cons => simp at this
  | x :: xs, [], p, _, _ => by
    have := p.length_eq
    simp at this
  | x :: xs, y :: ys, p, h1, h2 => by
    obtain ⟨a1, b1⟩ := List.pairwise_cons.mp h1
    obtain ⟨a2, b2⟩ := List.pairwise_cons.mp h2
    have m1 : x ∈ y :: ys := p.mem_iff.mp (List.mem_cons_self ..)
    have m2 : y ∈ x :: xs := p.mem_iff.mpr (List.mem_cons_self ..)
    have e : x = y := by
      rcases List.mem_cons.mp m1 with e | m1
      · exact e
      · rcases List.mem_cons.mp m2 with e | m2
        · exact e.symm
        · exact Int.le_antisymm (a1 y m2) (a2 x m1)
    subst e
    rw [sorted_same ((List.perm_cons x).mp p) b1 b2]
theorem sortI_perm (ns : List Int) : (sortI ns).Perm ns := List.mergeSort_perm ns _
theorem sortI_sorted (ns : List Int) : (sortI ns).Pairwise (· ≤ ·) := by
  have h := List.pairwise_mergeSort (le := fun (a b : Int) => decide (a ≤ b)) (fun a b c h1 h2 => by simp at *; omega) (fun a b => by simp; omega) ns
  exact h.imp fun h => by simpa using h
def fLen : List D → Option D
  | [.lst xs] => some (.int xs.length)
  | [.tup xs] => some (.int xs.length)
  | [.str z] => if z.length ≤ sizeLine then some (.int z.length) else none
  | _ => none
def fAbs : List D → Option D
  | [.int i] => some (.int (if i < 0 then -i else i))
  | _ => none
def fMax2 : List D → Option D
  | [.int i, .int j] => some (.int (if j > i then j else i))
  | _ => none
def fMin2 : List D → Option D
  | [.int i, .int j] => some (.int (if j < i then j else i))
  | _ => none
def onInts (f : List Int → Option D) : List D → Option D
  | [.lst xs] => (asInts xs).bind f
  | _ => none
def fSum : List D → Option D := onInts fun ns => some (.int ns.sum)
def fSortI : List D → Option D := onInts fun ns => some (.lst ((sortI ns).map D.int))
def fAny : List D → Option D
  | [.lst xs] => (asBls xs).map fun bs => .bl (bs.any id)
  | _ => none
def fAll : List D → Option D
  | [.lst xs] => (asBls xs).map fun bs => .bl (bs.all id)
  | _ => none
def fInt : List D → Option D
  | [.int i] => some (.int i)
  | _ => none
def fList : List D → Option D
  | [.lst xs] => some (.lst xs)
  | [.tup xs] => some (.lst xs)
  | _ => none
def fTuple : List D → Option D
  | [.lst xs] => some (.tup xs)
  | [.tup xs] => some (.tup xs)
  | _ => none
section
variable {X : Cx} {E : XK} {k : Nat}
theorem arg1 {mg : Str → Option Value} {K : PySem.W.Frag} {pot : Option Addr} {M : List Addr} {H : Hp} {vs : List V} {ds : List D} (h : Args mg K pot M H [.b] vs ds) : ∃ v d, vs = [v] ∧ ds = [d] ∧ Rb mg K pot M H v d := args1 h
theorem arg2 {mg : Str → Option Value} {K : PySem.W.Frag} {pot : Option Addr} {M : List Addr} {H : Hp} {vs : List V} {ds : List D} (h : Args mg K pot M H [.b, .b] vs ds) : ∃ v d w e, vs = [v, w] ∧ ds = [d, e] ∧ Rb mg K pot M H v d ∧ Rb mg K pot M H w e := args2 h
def rLenA (K : PySem.W.Frag) : List V → Hp → VK → Prop := fun xs H Q => (∃ p ys, xs = [.ref p] ∧ (SqL K H p ys ∨ SqT K H p ys) ∧ Q (.int ys.length) H) ∨ ∃ z, xs = [.str z] ∧ z.length ≤ sizeLine ∧ Q (.int z.length) H
theorem c_len : CallOk X (.builtin "len") (rLenA X.K) [.b] .f fLen := ⟨call_len_seq.or call_len_str, fun pot M H vs ds z al pm ph a hz Q q => by
  obtain ⟨v, d, rfl, rfl, h⟩ := arg1 a
  unfold fLen at hz
  split at hz
  · rename_i xs e
    cases e
    cases hz
    obtain ⟨p, ys, rfl, h1, r1⟩ := rb_lst h
    exact .inl ⟨p, ys, rfl, .inl (.inl (.inl h1)), by rw [r1.length]; exact q _ H (Same.refl H) (.int _)⟩
  · rename_i xs e
    cases e
    cases hz
    obtain ⟨p, ys, rfl, h1, r1⟩ := rb_tup h
    exact .inl ⟨p, ys, rfl, .inr (sqT_mono less_le h1), by rw [r1.length]; exact q _ H (Same.refl H) (.int _)⟩
  · rename_i z' e
    cases e
    split at hz
    · rename_i hl
      cases hz
      cases rb_str h
      exact .inr ⟨_, rfl, hl, q _ H (Same.refl H) (.int _)⟩
    · cases hz
  · cases hz⟩
/-- len of the script -/
theorem c_lenS : CallOk X (.builtin "len") (rLenA X.K) [.s] .f fLen := ⟨call_len_seq.or call_len_str, fun pot M H vs ds z al pm ph a hz Q q => by
  obtain ⟨v, d, rfl, rfl, p, ns, rfl, rfl, h⟩ := args1 a
  cases hz
  exact .inl ⟨p, _, rfl, .inl (sqL_mono less_le h), by
    simp only [List.length_map] at q ⊢
    exact q _ H (Same.refl H) (.int _)⟩⟩
theorem c_abs : CallOk X (.builtin "abs") (fun xs H Q => ∃ i, xs = [.int i] ∧ Q (.int (if i < 0 then -i else i)) H) [.b] .f fAbs := ⟨call_abs, fun pot M H vs ds z al pm ph a hz Q q => by
  obtain ⟨v, d, rfl, rfl, h⟩ := arg1 a
  cases d <;> simp [fAbs] at hz
  subst hz
  exact ⟨_, by rw [rb_int h], q _ H (Same.refl H) (.int _)⟩⟩
theorem c_max2 (x : XOk X E k) : CallOk X (.builtin "max") (fun xs H Q => ∃ i j, xs = [.int i, .int j] ∧ Q (.int (if j > i then j else i)) H) [.b, .b] .f fMax2 := ⟨call_max2 x.calm, fun pot M H vs ds z al pm ph a hz Q q => by
  obtain ⟨v, d, w, e, rfl, rfl, h, h'⟩ := arg2 a
  cases d <;> cases e <;> simp [fMax2] at hz
  subst hz
  exact ⟨_, _, by rw [rb_int h, rb_int h'], q _ H (Same.refl H) (.int _)⟩⟩
theorem c_min2 (x : XOk X E k) : CallOk X (.builtin "min") (fun xs H Q => ∃ i j, xs = [.int i, .int j] ∧ Q (.int (if j < i then j else i)) H) [.b, .b] .f fMin2 := ⟨call_min2 x.calm, fun pot M H vs ds z al pm ph a hz Q q => by
  obtain ⟨v, d, w, e, rfl, rfl, h, h'⟩ := arg2 a
  cases d <;> cases e <;> simp [fMin2] at hz
  subst hz
  exact ⟨_, _, by rw [rb_int h, rb_int h'], q _ H (Same.refl H) (.int _)⟩⟩
theorem on_ints {mg : Str → Option Value} {K : PySem.W.Frag} {pot : Option Addr} {M : List Addr} {H : Hp} {vs : List V} {ds : List D} {z : D} {f : List Int → Option D} (a : Args mg K pot M H [.b] vs ds) (hz : onInts f ds = some z) :
    ∃ p ns, vs = [.ref p] ∧ H p = some (.lst (ns.map V.int)) ∧ f ns = some z := by
  obtain ⟨v, d, rfl, rfl, h⟩ := arg1 a
  unfold onInts at hz
  split at hz
  · rename_i xs e
    cases e
    simp only [Option.bind_eq_some_iff] at hz
    obtain ⟨ns, e1, e2⟩ := hz
    rw [asInts_eq e1] at h
    obtain ⟨p, ys, rfl, h1, r1⟩ := rb_lst h
    rw [r1.iz] at h1
    exact ⟨p, ns, rfl, h1, e2⟩
  · cases hz
theorem c_sortI : CallOk X (.builtin "sorted") (rSortedI X.K) [.b] .o fSortI := ⟨cr_sortedI, fun pot M H vs ds z al pm ph a hz Q q => by
  obtain ⟨p, ns, rfl, h1, e⟩ := on_ints a hz
  cases e
  refine ⟨p, ns, rfl, .inl (.inl h1), fun ns' c hp hs hn => ?_⟩
  have e : ns' = sortI ns := sorted_same (hp.trans (sortI_perm ns).symm) hs (sortI_sorted ns)
  rw [e]
  exact q _ _ (same_upd hn) (new_lst ph hn (RpL.of_ints _))⟩
theorem c_all (x : XOk X E k) : CallOk X (.builtin "all") (rAll X.K) [.b] .f fAll := ⟨cr_all x.calm, fun pot M H vs ds z al pm ph a hz Q q => by
  obtain ⟨v, d, rfl, rfl, h⟩ := arg1 a
  unfold fAll at hz
  split at hz
  · rename_i xs e
    cases e
    simp only [Option.map_eq_some_iff] at hz
    obtain ⟨ns, e1, e2⟩ := hz
    rw [asBls_eq e1] at h
    obtain ⟨p, ys, rfl, h1, r1⟩ := rb_lst h
    rw [rpl_bls r1] at h1
    subst e2
    exact ⟨p, ns, rfl, .inl (.inl h1), q _ H (Same.refl H) (.bl _)⟩
  · cases hz⟩
theorem c_int : CallOk X (.type "int") (fun xs H Q => (∃ i, xs = [.int i] ∧ Q (.int i) H) ∨ ∃ k, xs = [.bl k] ∧ Q (.int (if k then 1 else 0)) H) [.b] .f fInt := ⟨call_int1, fun pot M H vs ds z al pm ph a hz Q q => by
  obtain ⟨v, d, rfl, rfl, h⟩ := arg1 a
  cases d <;> simp [fInt] at hz
  subst hz
  exact .inl ⟨_, by rw [rb_int h], q _ H (Same.refl H) (.int _)⟩⟩
theorem c_list : CallOk X (.type "list") (fun xs H Q => ∃ p ys, xs = [.ref p] ∧ (SqL X.K H p ys ∨ SqT X.K H p ys) ∧ ∀ l, H l = none → Q (.ref l) (upd H l (.lst ys))) [.b] .o fList := ⟨call_list_of, fun pot M H vs ds z al pm ph a hz Q q => by
  obtain ⟨v, d, rfl, rfl, h⟩ := arg1 a
  cases d <;> simp [fList] at hz
  · subst hz
    obtain ⟨p, ys, rfl, h1, r1⟩ := rb_lst h
    exact ⟨p, ys, rfl, .inl (.inl (.inl h1)), fun l hn => q _ _ (same_upd hn) (new_lst ph hn r1)⟩
  · subst hz
    obtain ⟨p, ys, rfl, h1, r1⟩ := rb_tup h
    exact ⟨p, ys, rfl, .inr (sqT_mono less_le h1), fun l hn => q _ _ (same_upd hn) (new_lst ph hn r1)⟩⟩
end
end DL
set_option maxHeartbeats 2000000
namespace DL
open PySem PySem.Spec PyProof.Rows L2
theorem RpL.atI {mg : Str → Option Value} {K : PySem.W.Frag} {H : Hp} {vs : List V} {ds : List D} {i : Int} {d : D} (r : RpL mg K H vs ds) (e : L2.atI ds i = some d) : ∃ v, L2.atI vs i = some v ∧ Rp mg K H v d := by
  unfold L2.atI at e ⊢
  rw [r.length]
  simp only [Option.bind_eq_some_iff] at e ⊢
  obtain ⟨j, h1, h2⟩ := e
  obtain ⟨v, h3, h4⟩ := r.get h2
  exact ⟨v, ⟨j, h1, h3⟩, h4⟩
def opIx : D → D → Option D
  | .lst xs, .int i => L2.atI xs i
  | .tup xs, .int i => L2.atI xs i
  | .str z, .int i => if z.length ≤ sizeLine then (L2.atI z.cps.toList i).map fun c => .str ⟨#[c]⟩ else none
  | _, _ => none
section
variable {X : Cx} {E : XK} {Γ : List Md} {r ra rb rc : Rm} {e a b c : Expr} {ta tb te : TE} {fa fb fe : Ed} {pos p p2 : Pos} {k kk : Nat} {es : List Expr} {ks : List Ak} {tA : TA} {fA : Ea}
theorem sem_ix : SemOp X.mg X.K (rIx X.K) .f opIx := fun pot M H x y d e z al pm ph rx ry hz Q q => by
  unfold opIx at hz
  split at hz
  · obtain ⟨p, xs, rfl, h1, r1⟩ := rb_lst rx
    obtain ⟨v, hv, rv⟩ := r1.atI hz
    exact .inl ⟨p, xs, _, v, rfl, rb_int ry, .inl (.inl h1), hv, q _ H (Same.refl H) rv⟩
  · obtain ⟨p, xs, rfl, h1, r1⟩ := rb_tup rx
    obtain ⟨v, hv, rv⟩ := r1.atI hz
    exact .inr (.inl ⟨p, xs, _, v, rfl, rb_int ry, sqT_mono less_le h1, hv, q _ H (Same.refl H) rv⟩)
  · split at hz
    · rename_i hl
      simp only [Option.map_eq_some_iff] at hz
      obtain ⟨w, hw, rfl⟩ := hz
      exact .inr (.inr ⟨_, _, w, rb_str rx, rb_int ry, hl, hw, q _ H (Same.refl H) (.str _)⟩)
    · cases hz
  · cases hz
theorem de_ix (ha : DE X E ra Γ a ta fa) (hb : DE X E rb Γ b tb fb) (hs : PlainIx b := by intro _ _; rfl) : DE X E .f Γ (.Subscript a b pos) (tOp (rIx X.K) ta tb) (eBin opIx fa fb) :=
  ⟨pe_ix ix_seq ha.pe hb.pe hs, sem_bin sem_ix ha.sem hb.sem⟩
abbrev Eo := Rho → Pot → Res (Option Int × Pot)
def oNone : Eo := fun _ π => .ok (none, π)
def oSome (a : Ed) : Eo := fun ρ π => (a ρ π).bind fun x => match x.1 with
  | .int i => .ok (some i, x.2)
  | _ => .stuck
structure DO (X : Cx) (E : XK) (Γ : List Md) (e : Option Expr) (t : TO) (f : Eo) : Prop where
  po : PO X e t
  sem : ∀ pot M σ H ρ π, EnvOk X.mg X.K Γ pot M σ H ρ → PotAt pot H π → ∀ Q : Option Int → Hp → Prop, (match f ρ π with
    | .ok (o, π1) => ∀ H', Grow pot H H' → PotAt pot H' π1 → Q o H'
    | .err c ns xs π1 => PErr X.mg X.K pot M H c ns xs π1 E
    | .stuck => False) → t σ H Q
theorem do_none : DO X E Γ none tNoPart oNone := ⟨po_none, fun pot M σ H ρ π I p Q h => h H .refl p⟩
theorem do_some (ha : DE X E .f Γ a ta fa) : DO X E Γ (some a) (tPart ta) (oSome fa) := ⟨po_some ha.pe, fun pot M σ H ρ π I p Q h => by
  refine ha.sem pot M σ H ρ π I p _ ?_
  unfold oSome at h
  cases ea : fa ρ π with
  | ok x =>
    obtain ⟨d, π1⟩ := x
    rw [ea] at h
    cases d with
    | int i =>
      intro v H1 g1 p1 r1
      exact ⟨i, rb_int (RpR.toB (r := .f) r1), h H1 g1 p1⟩
    | _ => exact h.elim
  | err c ns xs π1 =>
    rw [ea] at h
    exact h
  | stuck =>
    rw [ea] at h
    exact h⟩
def cutD (xs : List D) (lo hi : Option Int) : List D := (xs.drop (HT.sIx xs.length 0 lo)).take (HT.sIx xs.length xs.length hi - HT.sIx xs.length 0 lo)
def fCut (d : D) (lo hi : Option Int) : Option D := match d with
  | .lst xs => some (.lst (cutD xs lo hi))
  | .tup xs => some (.tup (cutD xs lo hi))
  | _ => none
def eSl (a : Ed) (l u : Eo) : Ed := fun ρ π => (a ρ π).bind fun x => (l ρ x.2).bind fun y => (u ρ y.2).bind fun z => (ofO (fCut x.1 y.1 z.1)).bind fun w => .ok (w, z.2)
theorem RpL.cut {mg : Str → Option Value} {K : PySem.W.Frag} {H : Hp} {vs : List V} {ds : List D} (r : RpL mg K H vs ds) (lo hi : Option Int) : RpL mg K H (cutV vs lo hi) (cutD ds lo hi) := by
  unfold cutV cutD
  rw [r.length]
  exact (r.drop _).take _
theorem de_slice {lo hi : Option Expr} {tl th : TO} {fl fh : Eo} (ha : DE X E ra Γ a ta fa) (hl : DO X E Γ lo tl fl) (hu : DO X E Γ hi th fh) : DE X E .f Γ (.Subscript a (.Slice lo hi none p2) pos) (tSl (fun x l u H Q => rSlL X.K x l u H Q ∨ rSlA X.K x l u H Q) ta tl th) (eSl fa fl fh) :=
  ⟨pe_slice (sl_list.or sl_tupA) ha.pe hl.po hu.po, fun pot M σ H ρ π I p Q h => by
    refine Post.seq (r' := ra) (te := ta σ H) h p (fun Q' hq => ha.sem pot M σ H ρ π I p Q' hq) fun d π1 v H1 _ g1 p1 r1 h1 => ?_
    refine hl.sem pot M σ H1 ρ π1 (I.grow g1 p1) p1 _ ?_
    cases el : fl ρ π1 with
    | err c ns xs π2 =>
      rw [el] at h1
      exact h1
    | stuck =>
      rw [el] at h1
      exact h1
    | ok y =>
      obtain ⟨l, π2⟩ := y
      rw [el] at h1
      intro H2 g2 p2
      have h2 := Post.back g2 p1 h1
      refine hu.sem pot M σ H2 ρ π2 (I.grow (g1.trans g2) p2) p2 _ ?_
      simp only [Res.bind_ok] at h2
      cases eu : fh ρ π2 with
      | err c ns xs π3 =>
        rw [eu] at h2
        exact h2
      | stuck =>
        rw [eu] at h2
        exact h2
      | ok z =>
        obtain ⟨u, π3⟩ := z
        rw [eu] at h2
        simp only [Res.bind_ok] at h2
        intro H3 g3 p3
        have h3 := Post.back g3 p2 h2
        have g13 := g2.trans g3
        have I3 := I.grow (g1.trans g13) p3
        have rv := r1.toB.grow I.pm g13
        cases d with
        | lst xs =>
          obtain ⟨q, vs, rfl, hq, rq⟩ := rb_lst rv
          exact .inl ⟨q, vs, rfl, .inl (.inl hq), fun l hn => h3 _ _ (.new hn) (p3.new hn) (new_lstF I3.al hn (rq.cut _ _))⟩
        | tup xs =>
          obtain ⟨q, vs, rfl, hq, rq⟩ := rb_tupP rv
          refine .inr ⟨q, vs, rfl, .inl (.inl (less_le _ _ hq)), fun hw => ?_, fun hw l hn => h3 _ _ (.new hn) (p3.new hn) (new_tup I3.al hn (rq.cut _ _))⟩
          refine h3 _ H3 .refl p3 (.tup hq ?_)
          have ec : cutD xs l u = xs := by
            unfold cutD
            rw [← rq.length, hw.1, hw.2, List.drop_zero, Nat.sub_zero, rq.length, List.take_length]
          rw [ec]
          exact rq
        | _ => exact h3.elim⟩
def fRev (d : D) : Option D := match d with
  | .lst xs => some (.lst xs.reverse)
  | _ => none
theorem de_revL {j : Nat} {p1 p3 : Pos} (ha : DE X E ra Γ a ta fa) : DE X E .o Γ (.Subscript a (.Slice none none (some (.UnaryOp .USub (.Constant (.int 1) j p1) p2)) p3) pos) (tRevL X.K ta) (eUn fRev fa) :=
  ⟨pe_revL ha.pe, fun pot M σ H ρ π I p Q h => by
    refine Post.seq (r' := ra) (te := ta σ H) h p (fun Q' hq => ha.sem pot M σ H ρ π I p Q' hq) fun d π1 v H1 _ g1 p1 r1 h1 => ?_
    cases d with
    | lst xs =>
      obtain ⟨q, vs, rfl, hq, rq⟩ := rb_lst r1.toB
      exact ⟨q, vs, rfl, .inl (.inl hq), fun l hn => h1 _ _ (.new hn) (p1.new hn) (new_lst p1.has hn rq.reverse)⟩
    | _ => exact h1.elim⟩
def tyName : D → Option String
  | .non => some "NoneType"
  | .bl _ => some "bool"
  | .int _ => some "int"
  | .str _ => some "str"
  | .lst _ => some "list"
  | .tup _ => some "tuple"
  | .dic _ _ => some "dict"
  | .ins _ _ _ => none
def isTyB (a b : String) : Bool := a == b || (a == "bool" && b == "int")
def fIs (ns : List String) (d : D) : Option D := (tyName d).map fun a => .bl (ns.any fun b => isTyB a b)
/-- of which class a value is; also a dict with tuple keys that is locked -/
def TyY (K : PySem.W.Frag) (H : Hp) (x : V) (t : Value) : Prop := TyX K H x t ∨ ∃ a o kvs, x = .ref a ∧ H a = some (.frz o (.dT kvs)) ∧ t = .type "dict"
theorem kitY_of {X : Cx} {pins : List (Addr × Obj)} {σ : L2.St} {H : Hp} {s : Shared} {x : V} {u t : Value} (I : L2.Inv X pins σ H s) (rx : L2.RelV x u) (h : TyY X.K H x t) :
    ∃ P, PySem.W.KitX X.K u t P ∧ P s.heap ∧ u ≠ Value.builtin "__main__.__loader__#opaque" := by
  rcases h with h | ⟨a, o, kvs, rfl, h, rfl⟩
  · exact kit_of I rx h
  · have k := I.hok a _ h
    unfold L2.ObjOk at k
    obtain ⟨k1, k2⟩ := k
    unfold L2.ObjOk at k2
    obtain ⟨_, _, _, _, o', es, ep, k3, k4, _⟩ := k2
    obtain rfl : u = Value.ref a := rx
    exact ⟨_, PySem.W.kitx_dict, ⟨o', k3, k4.1⟩, by intro e; cases e⟩
def rIsiY (K : PySem.W.Frag) : List V → Hp → VK → Prop := fun xs H Q => ∃ x c t u b, xs = [x, c] ∧ ClsV c u ∧ TyY K H x t ∧ PySem.W.kitOne K t u = some b ∧ Q (.bl b) H
def rIsiTY (K : PySem.W.Frag) : List V → Hp → VK → Prop := fun xs H Q => ∃ x tp cs t us b, xs = [x, .ref tp] ∧ H tp = some (.tup cs) ∧ Paired ClsV cs us ∧ TyY K H x t ∧ PySem.W.kitAny K t us = some b ∧ Q (.bl b) H
theorem call_isiY {X : Cx} : CallR X (.builtin "isinstance") (rIsiY X.K) := fun pins s σ H xs us Q I rl h => by
  obtain ⟨x, c, t, u, b, rfl, hc, ht, hk, q⟩ := h
  cases rl with
  | cons r1 rl => cases rl with
    | cons r2 rl =>
      cases rl
      rw [hc.eq r2]
      obtain ⟨P, Z, p, hn⟩ := kitY_of I r1 ht
      exact PySem.W.kia_one Z I.kIn p hk hn fun tk => ⟨.bl b, H, I.tok tk, rfl, q⟩
theorem call_isiTY {X : Cx} : CallR X (.builtin "isinstance") (rIsiTY X.K) := fun pins s σ H xs us Q I rl h => by
  obtain ⟨x, tp, cs, t, ws, b, rfl, htp, hc, ht, hk, q⟩ := h
  cases rl with
  | cons r1 rl => cases rl with
    | cons r2 rl =>
      cases rl
      obtain ⟨P, Z, p, hn⟩ := kitY_of I r1 ht
      have k := I.hok tp _ htp
      unfold L2.ObjOk at k
      obtain ⟨_, its, kv, o, k1, k2, n, k3⟩ := k
      obtain rfl : _ = Value.ref tp := r2
      obtain ⟨oc, od, dt, sl⟩ := o
      dsimp only at k2 k3
      subst k2
      subst k3
      rw [ClsV.all hc kv] at k1
      exact PySem.W.kia_tup Z I.kIn p k1 hk hn fun tk => ⟨.bl b, H, I.tok tk, rfl, q⟩
theorem rb_ty {mg : Str → Option Value} {K : PySem.W.Frag} {pot : Option Addr} {M : List Addr} {H : Hp} {x : V} {d : D} {n : String} (h : Rb mg K pot M H x d) (e : tyName d = some n) : TyY K H x (.type n) := by
  have h := rb_rp h
  cases h with
  | non => cases e; exact .inl (.base .non)
  | bl b => cases e; exact .inl (.base (.bl _))
  | int i => cases e; exact .inl (.base (.int _))
  | str z => cases e; exact .inl (.base (.str _))
  | lst h1 h2 => cases e; exact .inl (.base (.lst h1))
  | tup h1 h2 => cases e; exact .inl (.base (.tup h1))
  | dicK h1 h2 =>
    cases e
    rcases h1 with h1 | ⟨o, h1⟩
    · exact .inl (.base (.dK h1))
    · exact .inl (.fDict h1)
  | dicT h1 h2 =>
    cases e
    rcases h1 with h1 | ⟨o, h1⟩
    · exact .inl (.base (.dT h1))
    · exact .inr ⟨_, _, _, rfl, h1, rfl⟩
  | ins => cases e
def tyNames : List String := ["NoneType", "bool", "int", "str", "list", "tuple", "dict"]
theorem tyName_mem {d : D} {n : String} (e : tyName d = some n) : n ∈ tyNames := by
  cases d <;> cases e <;> simp [tyNames]
def tyOkB (b : String) : Bool := tyNames.all fun a => kitB a b == some (isTyB a b)
theorem kit_name {K : PySem.W.Frag} {d : D} {n b : String} (e : tyName d = some n) (h : tyOkB b = true) : PySem.W.kitOne K (.type n) (.type b) = some (isTyB n b) := by
  have := List.all_eq_true.mp h n (tyName_mem e)
  exact kit_ty (by simpa using this)
theorem kit_names {K : PySem.W.Frag} {d : D} {n : String} (e : tyName d = some n) : ∀ {bs : List String}, bs.all tyOkB = true → PySem.W.kitAny K (.type n) (bs.map Value.type) = some (bs.any fun b => isTyB n b)
  | [], _ => kitAny_nil
  | b :: bs, h => by
    have h' : tyOkB b = true ∧ bs.all tyOkB = true := by simpa using h
    refine kitAny_cons (kit_name e h'.1) (fun e1 => ?_) fun e1 => ?_
    · rw [kit_names e h'.2]
      simp [e1]
    · simp [e1]
theorem cls_all : ∀ bs : List String, Paired ClsV (bs.map V.ty) (bs.map Value.type)
  | [] => .nil
  | b :: bs => .cons (.ty b) (cls_all bs)
end
end DL
set_option maxHeartbeats 2000000
namespace DL
open PySem PySem.Spec PyProof.Rows L2
def showD (d : D) : Option Str := match toPy d with
  | some p => if PyData.showable p && !PyData.hasDict p && decide (PyData.depth p ≤ 60) && decide (p.shown.length ≤ sizeLine) then some p.shown else none
  | none => none
def fRepr : List D → Option D
  | [d] => (showD d).map .str
  | _ => none
theorem showD_eq {d : D} {z : Str} (h : showD d = some z) : ∃ p, toPy d = some p ∧ p.showable = true ∧ p.hasDict = false ∧ p.depth ≤ 60 ∧ p.shown.length ≤ sizeLine ∧ z = p.shown := by
  unfold showD at h
  split at h
  · rename_i p e
    split at h
    · rename_i c
      simp only [Bool.and_eq_true, Bool.not_eq_true', decide_eq_true_eq] at c
      cases h
      exact ⟨p, e, c.1.1.1, c.1.1.2, c.1.2, c.2, rfl⟩
    · cases h
  · cases h
section
variable {X : Cx} {E : XK} {k : Nat}
def rRepr (K : PySem.W.Frag) : List V → Hp → VK → Prop := fun vs H Q => ∃ v p, vs = [v] ∧ Dp K H v p ∧ p.showable = true ∧ p.hasDict = false ∧ p.depth ≤ 60 ∧ p.shown.length ≤ sizeLine ∧ Q (.str p.shown) H
theorem cr_repr (x : XOk X E k) : CallR X (.builtin "repr") (rRepr X.K) := by
  intro pins s σ H xs us Q I r h
  obtain ⟨v, p, rfl, hd, h1, h2, h3, h4, q⟩ := h
  obtain ⟨u, rfl, ru⟩ := r.one
  obtain ⟨as, rd⟩ := Dp.reads I p v u hd ru
  have hu : X.A.units + (p.depth + 1) < cLine := by
    have := x.u64
    omega
  cases hd with
  | non =>
    cases (show u = Value.none from ru)
    exact PySem.P.repr_of_none ⟨.str _, H, I.tok _, ⟨_, rfl⟩, q⟩
  | bl b =>
    cases (show u = Value.bool b from ru)
    refine PySem.P.repr_of_bool ⟨.str _, H, I.tok _, ⟨_, rfl⟩, ?_⟩
    cases b <;> exact q
  | int i =>
    obtain ⟨t, e⟩ := (show ∃ t, u = Value.int i t from ru)
    subst e
    refine PySem.P.repr_of_int (by simpa [PyData.showable] using h1) ⟨.str _, H, I.tok _, ⟨_, rfl⟩, q⟩
  | str z =>
    obtain ⟨t, e⟩ := (show ∃ t, u = Value.str z t from ru)
    subst e
    exact PySem.P.repr_of_str ⟨.str _, H, I.tok _, ⟨_, rfl⟩, q⟩ h4
  | lst a b =>
    cases ru
    exact repr_of_reads' rd h1 (PyData.noDict_hsm h2) x.gd hu (fun _ _ e => e) (fun h' u tk hk => ⟨.str _, H, I.kept (t' := tk) hk, ⟨_, rfl⟩, q⟩) h4
  | tup a b =>
    cases ru
    exact repr_of_reads' rd h1 (PyData.noDict_hsm h2) x.gd hu (fun _ _ e => e) (fun h' u tk hk => ⟨.str _, H, I.kept (t' := tk) hk, ⟨_, rfl⟩, q⟩) h4
theorem c_repr (x : XOk X E k) : CallOk X (.builtin "repr") (rRepr X.K) [.b] .f fRepr := ⟨cr_repr x, fun pot M H vs ds z al pm ph a hz Q q => by
  obtain ⟨v, d, rfl, rfl, h⟩ := arg1 a
  simp only [fRepr, Option.map_eq_some_iff] at hz
  obtain ⟨w, hw, rfl⟩ := hz
  obtain ⟨p, e, h1, h2, h3, h4, rfl⟩ := showD_eq hw
  exact ⟨v, p, rfl, (rb_rp h).dp e, h1, h2, h3, h4, q _ H (Same.refl H) (.str _)⟩⟩
def fStr : List D → Option D
  | [.lst xs] => (showD (.lst xs)).map .str
  | [.tup xs] => (showD (.tup xs)).map .str
  | _ => none
end
def keyOf : D → Option Key
  | .int i => some (.inl i)
  | .str x => some (.inr x)
  | _ => none
def pairsOf : List D → Option (List (Key × D))
  | [] => some []
  | .tup [a, b] :: r => match keyOf a, pairsOf r with
    | some k, some ps => some ((k, b) :: ps)
    | _, _ => none
  | _ :: _ => none
def putD (kvs : List (Key × D)) (k : Key) (v : D) : List (Key × D) :=
  if (kvs.any fun kv => decide (kv.1 = k)) = true then kvs.map (fun kv => if kv.1 = k then (kv.1, v) else kv) else kvs ++ [(k, v)]
def mergeD (kvs more : List (Key × D)) : List (Key × D) := more.foldl (fun acc kv => putD acc kv.1 kv.2) kvs
def dicOf (ps : List (Key × D)) : D := .dic (ps.map fun p => .inl p.1) (ps.map (·.2))
def fDict : List D → Option D
  | [.lst xs] => (pairsOf xs).bind fun ps => if mergeD [] ps = [] then none else some (dicOf (mergeD [] ps))
  | _ => none
section
variable {X : Cx} {E : XK} {Γ : List Md} {r ra rb rc : Rm} {e a b c : Expr} {ta tb te : TE} {fa fb fe : Ed} {pos p p2 : Pos} {k kk : Nat} {es : List Expr} {ks : List Ak} {tA : TA} {fA : Ea}
/-- {} -/
theorem de_dict0 : DE X E .f Γ (.Dict [] [] pos) tDNewT (eC (.dic [] [])) := ⟨pe_dnewT, fun pot M σ H ρ π I p Q h q hn => h _ _ (.new hn) (p.new hn) (.dicT (kvs := []) (.inl (less_some.mpr ⟨fun m => (I.al q m).nn hn, upd_same⟩)) .nil)⟩
theorem de_dictN : DE X E .o Γ (.Dict [] [] pos) tDNewT (eC (.dic [] [])) := ⟨pe_dnewT, fun pot M σ H ρ π I p Q h q hn => h _ _ (.new hn) (p.new hn) ⟨q, rfl, hn, fun e => p.has q e hn, _, upd_same, .dicT (kvs := []) .nil⟩⟩
def eSix (i : Nat) (fb : Ed) : Ed := fun ρ π => (fb ρ π).bind fun y => match ρ[i]? with
  | some (some d) => (ofO (opIx d y.1)).bind fun z => .ok (z, y.2)
  | _ => .stuck
theorem atI_map {α β : Type} (f : α → β) (xs : List α) (i : Int) : L2.atI (xs.map f) i = (L2.atI xs i).map f := by
  unfold L2.atI
  rw [List.length_map]
  cases ixN xs.length i <;> simp
theorem de_six (i : Nat) {x : Str} {px : Pos} (hb : DE X E .f Γ b tb fb) (hN : X.N[i]? = some x := by rfl) (hv : Vis X.env.scope x := by first | exact Or.inl rfl | exact Or.inr (Or.inl rfl) | exact Or.inr (Or.inr rfl)) (hΓ : Γ[i]? = some .s := by rfl)
    (hd : (x == ("__debug__" : Str)) = false := by decide) (hcd : (x == ("__classdict__" : Str)) = false := by decide) (hs : PlainIx b := by intro _ _; rfl) :
    DE X E .f Γ (.Subscript (.Name x px) b pos) (tOp (rIx X.K) (tVar i) tb) (eBin opIx (eVar i) fb) :=
  ⟨pe_ix ix_seq (pe_var hN hv hd hcd) hb.pe hs, fun pot M σ H ρ π I p Q h => by
    unfold eBin eVar at h
    split at h
    · rename_i d er
      obtain ⟨c, ns, e1, rfl, hq⟩ := I.s i d hΓ er
      refine ⟨_, e1, ?_⟩
      simp only [Res.bind_ok] at h
      refine Post.seq (r' := .f) (te := tb σ H) h p (fun Q' hq => hb.sem pot M σ H ρ π I p Q' hq) fun d π1 v H1 _ g1 p1 r1 h1 => ?_
      cases d with
      | int j =>
        cases ez : L2.atI ns j with
        | none =>
          simp only [opIx, DL.iz, atI_map, ez, Option.map_none, ofO_none, Res.bind_stuck] at h1
          exact h1.elim
        | some n =>
          simp only [opIx, DL.iz, atI_map, ez, Option.map_some, ofO_some, Res.bind_ok] at h1
          exact .inl ⟨c, _, j, .int n, rfl, rb_int (RpR.toB (r := .f) r1), sqL_mono less_le (sqL_mono (less_grow I.pm g1) hq), by rw [atI_map, ez]; rfl, h1 _ H1 .refl p1 (.int _)⟩
      | _ => exact h1.elim
    · exact h.elim⟩
theorem de_pot0 (i : Nat) {x : Str} {px pc : Pos} {j : Nat} (hN : X.N[i]? = some x := by rfl) (hv : Vis X.env.scope x := by first | exact Or.inl rfl | exact Or.inr (Or.inl rfl) | exact Or.inr (Or.inr rfl)) (hΓ : Γ[i]? = some .p := by rfl)
    (hd : (x == ("__debug__" : Str)) = false := by decide) (hcd : (x == ("__classdict__" : Str)) = false := by decide) :
    DE X E .f Γ (.Subscript (.Name x px) (.Constant (.int 0) j pc) pos) (tOp (rIx X.K) (tVar i) (tC (.int 0))) ePot0 :=
  ⟨pe_ix ix_seq (pe_var hN hv hd hcd) pe_int (by intro _ _; rfl), fun pot M σ H ρ π I p Q h => by
    obtain ⟨c, e, e1⟩ := I.p i hΓ
    exact ⟨_, e1, .inl ⟨c, _, 0, .int π.1, rfl, rfl, .inl (.inl (p c e)), rfl, h _ H .refl p (.int _)⟩⟩⟩
theorem de_pot1 (i : Nat) {x : Str} {px pc : Pos} {j : Nat} (hN : X.N[i]? = some x := by rfl) (hv : Vis X.env.scope x := by first | exact Or.inl rfl | exact Or.inr (Or.inl rfl) | exact Or.inr (Or.inr rfl)) (hΓ : Γ[i]? = some .p := by rfl)
    (hd : (x == ("__debug__" : Str)) = false := by decide) (hcd : (x == ("__classdict__" : Str)) = false := by decide) :
    DE X E .f Γ (.Subscript (.Name x px) (.Constant (.int 1) j pc) pos) (tOp (rIx X.K) (tVar i) (tC (.int 1))) ePot1 :=
  ⟨pe_ix ix_seq (pe_var hN hv hd hcd) pe_int (by intro _ _; rfl), fun pot M σ H ρ π I p Q h => by
    obtain ⟨c, e, e1⟩ := I.p i hΓ
    exact ⟨_, e1, .inl ⟨c, _, 1, .int π.2, rfl, rfl, .inl (.inl (p c e)), rfl, h _ H .refl p (.int _)⟩⟩⟩
theorem ds_pot1 (i : Nat) {Γl : List Md} {x : Str} {px pc : Pos} {j : Nat} (he : DE X E .f Γ e te fe) (hN : X.N[i]? = some x := by rfl) (hv : Vis X.env.scope x := by first | exact Or.inl rfl | exact Or.inr (Or.inl rfl) | exact Or.inr (Or.inr rfl)) (hΓ : Γ[i]? = some .p := by rfl)
    (hd : (x == ("__debug__" : Str)) = false := by decide) (hcd : (x == ("__classdict__" : Str)) = false := by decide)
    (ha : ∀ v, assign (.Subscript (.Name x px) (.Constant (.int 1) j pc) p2) X.env v = (do let ov ← holding [v] (eval (.Name x px) X.env); let iv ← holding [v, ov] (eval (.Constant (.int 1) j pc) X.env); standAt p2; holding [v, ov, iv] (setItem ov iv v); release [v, ov, iv] []) := by intro _; rfl)
    (h1 : swapsWithSole [.Subscript (.Name x px) (.Constant (.int 1) j pc) p2] e pos.line X.env = pure false := by rfl) (h2 : swappedStores [.Subscript (.Name x px) (.Constant (.int 1) j pc) p2] e X.env = pure none := by rfl)
    (h3 : (assignEach [.Subscript (.Name x px) (.Constant (.int 1) j pc) p2] X.env).map (·.2) = [assign (.Subscript (.Name x px) (.Constant (.int 1) j pc) p2) X.env] := by rfl) :
    DS X E r Γl Γ Γ (.Assign [.Subscript (.Name x px) (.Constant (.int 1) j pc) p2] e pos) (tAsg te (gSub (tVar i) (tC (.int 1)) rSetL)) (sPot1 fe) :=
  ⟨ps_asg he.pe (pg_sub (pe_var hN hv hd hcd) pe_int set_list ha) h1 h2 h3, fun pot M0 H0 B M σ H ρ π D' S p h => by
    refine PostS.seq (r' := .f) (te := te σ H) h S (fun Q' hq => he.sem pot M σ H ρ π S.env p Q' hq) fun d π1 v H1 _ g1 p1 q1 h1 => ?_
    have S1 := S.grow g1 p1
    cases d with
    | int n =>
      cases rb_int (RpR.toB (r := .f) q1)
      obtain ⟨c, e, e1⟩ := S1.env.p i hΓ
      exact ⟨_, e1, c, _, 1, 1, rfl, rfl, p1 c e, rfl, h1 M σ _ (S1.potset e π1.1 n) fun a ea => by rw [e] at ea; cases ea; exact upd_same⟩
    | _ => exact h1.elim⟩
/-- pot[0], d = divmod(pot[0], n) -/
theorem ds_potdm (i j : Nat) {Γl : List Md} {x y : Str} {px pc py pt pd qx qc q2 qpos : Pos} {u u2 kt : Nat} (o : XOk X E k) (hm : X.mg "divmod" = none) (he : DE X E .f Γ e te fe) (hΓ : Γ[i]? = some .p := by rfl) (hΓ2 : Γ[j]? = some .f := by rfl) (hN : X.N[i]? = some x := by rfl) (hN2 : X.N[j]? = some y := by rfl) (hv : Vis X.env.scope x := by first | exact Or.inl rfl | exact Or.inr (Or.inl rfl) | exact Or.inr (Or.inr rfl))
    (hy : Loc X.env.scope y := by first | exact Or.inl rfl | exact Or.inr rfl) (hf : X.fn y = true ∨ X.env.scope.names.lookup y = some .local := by first | exact .inl rfl | exact .inr rfl)
    (hd : (x == ("__debug__" : Str)) = false := by decide) (hcd : (x == ("__classdict__" : Str)) = false := by decide) (hg : Gl X "divmod" := by rfl)
    (ha : ∀ v, assign (.Subscript (.Name x px) (.Constant (.int 0) u pc) p2) X.env v = (do let ov ← holding [v] (eval (.Name x px) X.env); let iv ← holding [v, ov] (eval (.Constant (.int 0) u pc) X.env); standAt p2; holding [v, ov, iv] (setItem ov iv v); release [v, ov, iv] []) := by intro _; rfl)
    (s1 : starEach [.Subscript (.Name x qx) (.Constant (.int 0) u2 qc) q2, e] X.env = (false, eval (.Subscript (.Name x qx) (.Constant (.int 0) u2 qc) q2) X.env) :: starEach [e] X.env := by rfl) (s2 : starEach [e] X.env = (false, eval e X.env) :: starEach [] X.env := by rfl) (hpl : (backTo qpos (starEach [e] X.env)).any (·.1) = false := by rfl)
    (m1 : (assignEach [.Subscript (.Name x px) (.Constant (.int 0) u pc) p2, .Name y py] X.env).map (·.2) = assign (.Subscript (.Name x px) (.Constant (.int 0) u pc) p2) X.env :: (assignEach [.Name y py] X.env).map (·.2) := by rfl) (m2 : (assignEach [.Name y py] X.env).map (·.2) = assign (.Name y py) X.env :: (assignEach [] X.env).map (·.2) := by rfl)
    (m3 : (assignEach [.Subscript (.Name x px) (.Constant (.int 0) u pc) p2, .Name y py] X.env).length = 2 := by rfl) (m4 : (assignEach [.Subscript (.Name x px) (.Constant (.int 0) u pc) p2, .Name y py] X.env).findIdx? (·.1) = none := by rfl)
    (h1 : swapsWithSole [.Tuple [.Subscript (.Name x px) (.Constant (.int 0) u pc) p2, .Name y py] kt pt] (.Call (.Name "divmod" pd) [.Subscript (.Name x qx) (.Constant (.int 0) u2 qc) q2, e] [] qpos) pos.line X.env = pure false := by rfl)
    (h2 : swappedStores [.Tuple [.Subscript (.Name x px) (.Constant (.int 0) u pc) p2, .Name y py] kt pt] (.Call (.Name "divmod" pd) [.Subscript (.Name x qx) (.Constant (.int 0) u2 qc) q2, e] [] qpos) X.env = pure none := by rfl)
    (h3 : (assignEach [.Tuple [.Subscript (.Name x px) (.Constant (.int 0) u pc) p2, .Name y py] kt pt] X.env).map (·.2) = [assign (.Tuple [.Subscript (.Name x px) (.Constant (.int 0) u pc) p2, .Name y py] kt pt) X.env] := by rfl) :
    DS X E r Γl Γ Γ (.Assign [.Tuple [.Subscript (.Name x px) (.Constant (.int 0) u pc) p2, .Name y py] kt pt] (.Call (.Name "divmod" pd) [.Subscript (.Name x qx) (.Constant (.int 0) u2 qc) q2, e] [] qpos) pos)
      (tAsg (tCB (fun xs H Q => ∃ i j, xs = [.int i, .int j] ∧ CDivP i j ∧ ∀ p, H p = none → Q (.ref p) (upd H p (.tup [.int (i / j), .int (i % j)]))) (tCons (tOp (rIx X.K) (tVar i) (tC (.int 0))) (tCons te tNil))) (gTup X.K 2 (gCons (gSub (tVar i) (tC (.int 0)) rSetL) (gCons (gName j) gNil)))) (sPotDm j fe) :=
  ⟨ps_asg (pe_callB call_divmodW hg hm (by decide +kernel) (pa_cons (pe_ix ix_seq (pe_var hN hv hd hcd) pe_int (by intro _ _; rfl)) (pa_cons he.pe pa_nil s2) s1) (by decide) (by decide) s1 hpl) (pg_tup o.calm (pgs_cons (pg_sub (pe_var hN hv hd hcd) pe_int set_list ha) (pgs_cons (pg_name o.nd hN2 hy hf) pgs_nil m2) m1) m3 m4) h1 h2 h3, fun pot M0 H0 B M σ H ρ π D' S p h => by
    obtain ⟨c, e, e1⟩ := S.env.p i hΓ
    refine ⟨_, e1, .inl ⟨c, _, 0, .int π.1, rfl, rfl, .inl (.inl (p c e)), rfl, ?_⟩⟩
    refine PostS.seq (r' := .f) (te := te σ H) h S (fun Q' hq => he.sem pot M σ H ρ π S.env p Q' hq) fun d π1 v H1 _ g1 p1 q1 h1 => ?_
    have S1 := S.grow g1 p1
    cases d with
    | int n =>
      cases rb_int (RpR.toB (r := .f) q1)
      simp only at h1
      split at h1
      · rename_i hdv
        unfold divOk at hdv
        simp only [Bool.and_eq_true, decide_eq_true_eq, Bool.not_eq_true'] at hdv
        refine ⟨π.1, n, rfl, hdv, fun T hT => ?_⟩
        have S2 := S1.grow (.new (o := .tup [.int (π.1 / n), .int (π.1 % n)]) hT) (p1.new hT)
        have hc : upd H1 T (.tup [.int (π.1 / n), .int (π.1 % n)]) c = some (.lst [.int π1.1, .int π1.2]) := p1.new hT c e
        refine ⟨T, _, rfl, .inl (.inl upd_same), rfl, .int (π.1 / n), [.int (π.1 % n)], rfl, .ref c, e1, c, _, 0, 0, rfl, rfl, hc, rfl, .int (π.1 % n), [], rfl, rfl, ?_⟩
        have S3 := (S2.potset e (π.1 / n) π1.2).put (r := .f) (i := j) (v := .int (π.1 % n)) (d := .int (π.1 % n)) (List.getElem?_eq_some_iff.mp hΓ2).1 (.int _)
        rw [set_same (show Γ[j]? = some Rm.f.md from hΓ2)] at S3
        exact h1 M _ _ S3 fun a ea => by
          rw [e] at ea
          cases ea
          exact upd_same
      · exact h1.elim
    | _ => exact h1.elim⟩
def eGoPot (m : Fd) (a : Ed) : Ed := fun ρ π => (a ρ π).bind fun x => match x.1 with
  | .lst [.int u, .int v] => (safe (m [.non] (u, v))).bind fun y => .ok (y.1, x.2)
  | _ => .stuck
theorem de_callPot {j : Nat} {x : Str} {st : Stmt} {ps : List Str} {m : Fd} (F : DFn X.prog X.w X.K X.mg X.base j x st ps [.p] .f m) (o : XOk X E k)
    (hb : ∀ (kV doc pm : Value) (an : Option Addr) (cdv ct : Value) (us : List Value), us.length = ps.length → bindArgs (PySem.W.fnOf x x (defArgs st) (defBody st) (defScope st) .none kV doc pm an cdv ct) ⟨us, []⟩ = pure (ps.zip us))
    (ha : DE X E .o Γ e te fe) (hj : j ≤ k := by decide) (hg : Gl X x := by rfl) (hdb : (x == ("__debug__" : Str)) = false := by decide) (he : starEach [e] X.env = (false, eval e X.env) :: starEach [] X.env := by rfl) (hpl : (backTo pos (starEach [] X.env)).any (·.1) = false := by rfl) :
    DE X E .f Γ (.Call (.Name x p) [e] [] pos) (tGo X.mg X.K [.p] .f m E (tCons te tNil)) (eGoPot m fe) :=
  ⟨⟨fun pins s σ H Q I h => by
    obtain ⟨f, fd, h1, h2, h3⟩ := F.ex
    refine wpAny_Call_Name_kw (ld_glob I hg h1 ?_ hdb)
    refine PySem.W.callWith_K (h₀ := X.base) I.ok.mod.kin h2.kp (thn ((pa_cons ha.pe pa_nil he).run pos pins s σ H _ I h) fun us s1 ⟨vs, H1, I1, rl, q⟩ => ⟨I1.kIn, ?_⟩) he hpl
    have hl : us.length = ps.length := by
      rw [← rl.length]
      exact h3.len _ _ _ _ q
    have bd : BindsTo s1 fd ⟨us, ([] : List Str).zip ([] : List Value)⟩ (ps.zip (us ++ [])) := by
      obtain ⟨oc, od, kV, doc, pm, an, cdv, ct, osl, rfl, lk, hcd⟩ := h2.ex
      rw [List.append_nil]
      exact .of_eq (hb kV doc pm an cdv ct us hl)
    exact run_go (args := ⟨us, []⟩) (kn := []) (ws := []) h3 o hj bd I1 (by rw [List.append_nil]; exact rl) q⟩, fun pot M σ H ρ π I p Q h => by
    refine ha.sem pot M σ H ρ π I p _ ?_
    unfold eGoPot at h
    cases ef : fe ρ π with
    | err c ns xs π1 =>
      rw [ef] at h
      exact h
    | stuck =>
      rw [ef] at h
      exact h
    | ok y =>
      obtain ⟨d, π1⟩ := y
      rw [ef] at h
      simp only [Res.bind_ok] at h
      split at h
      · rename_i u v
        intro w H1 g1 p1 r1
        obtain ⟨q, rfl, hq, nq, oo, hx, rx⟩ := r1
        cases rx with
        | lst rx =>
        rename_i xs
        have ex : xs = [.int u, .int v] := RpL.iz (ns := [u, v]) rx
        subst ex
        have I1 := I.grow g1 p1
        refine ⟨rfl, some q, q :: M, [.non], (u, v), .cons ⟨q, rfl, rfl⟩ .nil, fun a ha => ?_, fun a ea => ?_, fun a ea => ?_, ?_⟩
        · rcases List.mem_cons.mp ha with z | z
          · rw [z]
            exact .of hx fun _ e => by cases e
          · exact I1.al a z
        · cases ea
          exact List.mem_cons_self ..
        · cases ea
          exact hx
        · cases em : m [.non] (u, v) with
          | err c ns xs π' =>
            rw [em] at h
            exact h.elim
          | stuck =>
            rw [em] at h
            exact h.elim
          | ok z =>
            obtain ⟨z, π2⟩ := z
            rw [em] at h
            simp only [safe_ok, Res.bind_ok] at h
            intro b H2 g2 p2 r2
            have ne : ∀ a o, H a = some o → (some q : Option Addr) ≠ some a := fun a o ho e => by
              cases e
              rw [hq] at ho
              cases ho
            refine h b H2 (fun a o n ho => g2 a o (ne a o ho) (g1 a o n ho)) (fun a ea => ?_) (Rp.mono (less_sub fun a ha => List.mem_cons_of_mem _ ha) r2)
            exact g2 a _ (fun e => by cases e; exact nq ea) (p1 a ea)
      · exact h.elim⟩
end
end DL
set_option maxHeartbeats 2000000
namespace DL
open PySem PySem.Spec PyProof.Rows L2
theorem less_nil {H : Hp} : less H [] = H := funext fun a => by simp [less]
/-- the call of the law, from a promise that knows that no repr is running -/
theorem law_callG {P : Program} {w : World} {K : PySem.W.Frag} {mg mb : Str → Option Value} {k : Nat} {fa p : Addr} {fd : FuncData} {x : Str} {sp : Sp} {s0 : Shared} {us : List Value} {ns : List Int}
    (kin : K.In s0.heap) (nsm : s0.heap.Ns mainGlobals mg) (nsb : s0.heap.Ns builtinsNs mb) (bts : ∀ x : Str, x ≠ "__name__" → mb x = bootBuiltins x) (nolim : s0.heap.NoLimit) (gens : s0.gens = #[])
    (ob : s0.heap.get? p = some { cls := .type "list", data := .seq us.toArray }) (are : IntsAre us ns) (short : ns.length ≤ sizeLine) (room : Room k callerA)
    (F : ∀ base : Heap, K.In base → base.Ns mainGlobals mg → FnG P w K mg base k fa fd [x] sp) (bd : ∀ (s : Shared) (u : Value), BindsTo s fd ⟨[u], []⟩ [(x, u)])
    (goal : ∀ H : Hp, SqL K H p (ns.map V.int) → sp [.ref p] H (fun v _ => v = .bl true) fun _ _ _ => False) :
    codeAny (model P w) callerA (.call (.ref fa) ⟨[.ref p], []⟩) (fun r s' => r = .ok (.ret (.bool true)) ∧ PySem.OldK s0.heap s'.heap ∧ s'.os = s0.os ∧ AllBare s'.gens) s0 := by
  have rel := vals_ints are
  have llen := are.length
  have main : ∀ H : Hp, Only H → SqL K H p (ns.map V.int) → HOk P w H s0.heap → (∀ c, H c ≠ none → c = p) → (H p ≠ none → K.lookup p = none) →
      codeAny (model P w) callerA (.call (.ref fa) ⟨[.ref p], []⟩) (fun r s' => r = .ok (.ret (.bool true)) ∧ PySem.OldK s0.heap s'.heap ∧ s'.os = s0.os ∧ AllBare s'.gens) s0 := by
    intro H only seq okH at_p free_p
    have nop : ∀ {c : Addr}, c ≠ p → H c = none := fun {c} n => Classical.byContradiction fun z => n (at_p c z)
    have vis : ∀ {c : Addr} {o : Obj}, s0.heap.get? c = some o → H c = none → (hidT s0.heap H).get? c = some o := fun a b => hidT_get a b
    have dicts : ∀ {c : Addr} {o : Obj} {es : Array DictEntry} {ep : Nat}, s0.heap.get? c = some o → o.data = .dict es ep → H c = none := fun {c o es ep} e d => nop fun z => by
      rw [z, ob] at e
      cases e
      cases (show Data.seq us.toArray _ = Data.dict es ep from d)
    have names : ∀ {c : Addr} {m : Str → Option Value}, s0.heap.Ns c m → (hidT s0.heap H).Ns c m := fun {c m} h => by
      obtain ⟨o, es, ep, e, d, r⟩ := h
      exact ⟨o, es, ep, vis e (dicts e d), d, r⟩
    have kbase : K.In (hidT s0.heap H) := fun c o e => by
      refine vis (kin c o e) (Classical.byContradiction fun z => ?_)
      have ec := at_p c z
      rw [ec] at z e
      rw [free_p z] at e
      cases e
    have mo : Mod K mg (hidT s0.heap H) := ⟨kbase, names nsm, ⟨mb, names nsb, bts⟩, by obtain ⟨mc, h1, h2⟩ := nolim; exact ⟨mc, names h1, h2⟩⟩
    have env : Env0 P w K mg (hidT s0.heap H) callerA [] s0 H := ⟨rfl, mo, (fun c o e => of_hidT e), Nat.le_of_eq (hidT_size _ _), trivial, (fun c hc => by cases hc), okH, .of_eq gens⟩
    have run := (F _ kbase (names nsm)).run callerA [] s0 H ⟨[.ref p], []⟩ [.ref p] [.ref p] _ _ room rfl env (bd s0 (.ref p)) (.cons rfl .nil) (goal H seq)
    refine codeAny_mono run fun r s' h => ?_
    match r, h with
    | .error e, h =>
      obtain ⟨_, _, _, _, _, _, _, _, _, _, _, _, no⟩ := h
      exact no.elim
    | .ok .next, h => exact h.elim
    | .ok .brk, h => exact h.elim
    | .ok .cont, h => exact h.elim
    | .ok (.ret u), h =>
      obtain ⟨v, H', os, bare, un, okH', rv, q⟩ := h
      cases (show v = .bl true from q)
      cases (show u = Value.bool true from rv)
      refine ⟨rfl, OldK.of_keep fun c o e => ?_, os, bare⟩
      cases hc : H c with
      | none => exact un.keep c o e hc (by intro z; cases z) (by simp)
      | some u =>
        rcases only c with z | ⟨o', ys, z⟩
        · rw [hc] at z
          cases z
        · have w1 := (okH c _ z).1
          have w2 := (okH' c _ (un.frzs c o' _ z)).1
          rw [e] at w1
          cases w1
          exact w2
  by_cases hk : K.lookup p = none
  · have hat : ∀ c, c = p ∨ (fun c => if c = p then some (HO.frz { cls := .type "list", data := .seq us.toArray } (.lst (ns.map V.int))) else none : Hp) c = none := fun c => by
      by_cases z : c = p
      · exact .inl z
      · exact .inr (if_neg z)
    refine main (fun c => if c = p then some (.frz { cls := .type "list", data := .seq us.toArray } (.lst (ns.map V.int))) else none) (fun c => ?_) (.inl (.inr ⟨{ cls := .type "list", data := .seq us.toArray }, if_pos rfl⟩)) (fun c u z => ?_) (fun c z => (hat c).resolve_right z) fun _ => hk
    · rcases hat c with z | z
      · exact .inr ⟨_, _, if_pos z⟩
      · exact .inl z
    · rcases hat c with q | q
      · subst q
        have z' := (if_pos rfl).symm.trans z
        cases z'
        exact ⟨ob, by rw [List.length_map]; exact short, us, _, rel, ob⟩
      · rw [q] at z
        cases z
  · obtain ⟨o, ho⟩ := Option.ne_none_iff_exists'.mp hk
    have e := kin p o ho
    rw [ob] at e
    cases e
    have em : ∀ c, (fun _ => none : Hp) c = none := fun _ => rfl
    exact main (fun _ => none) (fun c => .inl rfl) (.inr ⟨_, us.toArray, _, ho, rfl, rfl, rfl, by rw [List.size_toArray, llen]; exact short, by simpa using rel⟩) (fun c u z => by rw [em c] at z; cases z) (fun c z => absurd (em c) z) fun z => absurd (em p) z
/-- THE END: what the head leaves, from what law gives of its data -/
theorem walk_D {l : PySem.W.OpenLaw} {n k : Nat} {q : Program} {loose : List Str} {XP : (Str → Option Value) → Heap → Prop} {YP : World → Heap → Prop} {d : DefRec} {K : Params → PySem.W.Frag} {x : Str} {m : Fd}
    (most : l.most = some n) (small : n ≤ sizeLine) (nodf : d.params.defaults = []) (room : Room k callerA) (hY : ∀ (w : World) (h : Heap), YP w h → (K w.params).In h)
    (good : ∀ ns : List Int, ns.length ≤ n → ∃ π, m [.lst (DL.iz ns)] (0, 0) = .ok (.bl true, π))
    (F : ∀ (w : World) (mg : Str → Option Value) (fa : Addr) (h : Heap), (K w.params).In h → h.Ns mainGlobals mg → mg d.name = some (.ref fa) →
      ∃ fd : FuncData, (∀ (s : Shared) (u : Value), BindsTo s fd ⟨[u], []⟩ [(x, u)]) ∧ ∀ base : Heap, (K w.params).In base → base.Ns mainGlobals mg → FnG l.prog w (K w.params) mg base k fa fd [x] (SpD mg (K w.params) [.s] .f m)) :
    PySem.W.WalkO q loose XP YP l.row.toRowW d [] (fun f vs => PySem.call f vs) := by
  refine Att.attach_call most nodf fun w s₀ s1 mg mb fa o pm cd doc a vs ns G Y ho hd hcd hmg hobj hints hlen hg => ?_
  have KX := hY w _ Y
  obtain ⟨fd, hb, hF⟩ := F w mg fa _ KX G.T.g hmg
  refine law_callG KX G.T.g G.T.b G.T.builtins G.T.nolimit hg hobj hints (Nat.le_trans hlen small) room hF hb fun H hS => ?_
  obtain ⟨π, hm⟩ := good ns hlen
  refine ⟨rfl, none, [], [.lst (DL.iz ns)], (0, 0), .cons ⟨a, ns, rfl, rfl, by rw [less_nil]; exact hS⟩ .nil, (fun a h => by cases h), (fun a e => by cases e), (fun a e => by cases e), ?_⟩
  rw [hm]
  exact fun v H' g p r => by
    cases r
    rfl
end DL
set_option maxHeartbeats 2000000
namespace DL
open PySem PySem.Spec PyProof.Rows L2
section
variable {X : Cx} {E : XK} {r r' ra rb rc : Rm} {Γl Γ Γ1 Γ' : List Md} {pos : Pos} {k : Nat} {e a b c : Expr} {te ta tb tc : TE} {fe fa fb fc : Ed} {st : Stmt} {sts body : List Stmt} {ts us : TS} {fs gs : Fs} {tt : TT} {ft : Et}
/-- a slot is let go -/
theorem SOk.drop {mg : Str → Option Value} {K : PySem.W.Frag} {pot : Option Addr} {M M0 : List Addr} {H H0 B : Hp} {σ : L2.St} {ρ : Rho} (S : SOk mg K Γ pot M0 H0 B M σ H ρ) (i : Nat) : SOk mg K (Γ.set i .u) pot M0 H0 B M σ H ρ := by
  have I := S.env
  have old : ∀ (j : Nat) (m : Md), m ≠ .u → (Γ.set i .u)[j]? = some m → Γ[j]? = some m := fun j m hm h => by
    rcases set_at h with ⟨_, z, _⟩ | ⟨_, z⟩
    · exact absurd z hm
    · exact z
  exact ⟨⟨by simp [I.ls], by simp [I.lr], (fun j d h1 h2 => I.f j d (old j _ (by simp) h1) h2), (fun j d h1 h2 => I.o j d (old j _ (by simp) h1) h2), (fun j h1 => I.p j (old j _ (by simp) h1)), (fun j d h1 h2 => I.s j d (old j _ (by simp) h1) h2),
    (fun j l a d e h1 h2 h3 h4 h5 h6 => I.ap j l a d e (old j _ (by simp) h1) (old l _ (by simp) h2) h3 h4 h5 h6), I.al, I.pm, fun j a dd d h1 h2 => I.x j a dd d (old j _ (by simp) h1) h2⟩, S.gr, S.sub, (fun j d a h1 h2 h3 => S.ow j d a (old j _ (by simp) h1) h2 h3), S.m0, S.bs⟩
/-- ints of any size, or a list so many times -/
def opMulA : D → D → Option D
  | .int i, .int j => if small i || small j || decide (i.natAbs.log2 + j.natAbs.log2 < 1000000) then some (.int (i * j)) else none
  | _, _ => none
def rMulA : R2 := fun x y H Q => rI CMul (fun i j => .int (i * j)) x y H Q ∨ rI CMulW (fun i j => .int (i * j)) x y H Q
theorem o_mulA : OpOk X (binaryOp .Mult) rMulA .f opMulA := ⟨op_mul.or op_mulW, fun pot M H x y d e z al pm ph rx ry hz Q q => by
  cases d <;> cases e <;> simp only [opMulA] at hz <;> try cases hz
  rename_i i j
  split at hz
  · rename_i hc
    cases hz
    rcases Bool.or_eq_true_iff.mp hc with h | h
    · refine .inl ⟨i, j, rb_int rx, rb_int ry, ?_, q _ H (Same.refl H) (.int _)⟩
      simp only [small, Bool.or_eq_true, decide_eq_true_eq] at h
      unfold CMul
      omega
    · exact .inr ⟨i, j, rb_int rx, rb_int ry, (decide_eq_true_iff.mp h : _ < _), q _ H (Same.refl H) (.int _)⟩
  · cases hz⟩
/-- a comprehension's names, decided -/
def blkB (N : List Str) (sc scope : Scope) (own : List (Str × Nat)) : Bool :=
  (match scope.kind with | .function => true | _ => false) && scope.names.all (fun y => scope.names.lookup y.1 == some y.2) && own.all (fun p => N[p.2]? == some p.1) &&
  scope.names.all (fun y => !(y.2 == .free) || (sc.names.lookup y.1 == some .cell || sc.names.lookup y.1 == some .free)) && scope.names.all (fun y => !(y.2 == .local || y.2 == .cell) || (own.any (fun p => p.1 == y.1) || !N.contains y.1))
theorem blk_of {N : List Str} {sc scope : Scope} {own : List (Str × Nat)} (h : blkB N sc scope own = true) : BlkOk N sc scope own := by
  unfold blkB at h
  simp only [Bool.and_eq_true, List.all_eq_true] at h
  obtain ⟨⟨⟨⟨h1, h2⟩, h3⟩, h4⟩, h5⟩ := h
  refine ⟨?_, fun y hy => ?_, fun p hp => ?_, fun y hy e => ?_, fun y hy e => ?_⟩
  · split at h1
    · assumption
    · cases h1
  · simpa using h2 y hy
  · simpa using h3 p hp
  · have := h4 y hy
    rw [e] at this
    simpa using this
  · have := h5 y hy
    rcases e with e | e <;> rw [e] at this <;> simp at this <;> (rcases this with ⟨n, q⟩ | q) <;> simp_all
    all_goals exact .inl ⟨_, q⟩
/-- the law's own promise, for the end -/
theorem law_end {P : Program} {w : World} {K : PySem.W.Frag} {mg : Str → Option Value} {fa : Addr} {x : Str} {st : Stmt} {ps : List Str} {ks : List Ak} {r : Rm} {m : Fd} {k : Nat} {T : Prop} (hfa : mg x = some (.ref fa)) (t : T) (hf : T → ∃ f fd, mg x = some (.ref f) ∧ Fun K x x st f fd)
    (F : T → ∀ base : Heap, DFn P w K mg base k x st ps ks r m) {y : Str} (hp : ps = [y])
    (hb : ∀ (kV doc pm : Value) (an : Option Addr) (cdv ct : Value) (s : Shared) (u : Value), BindsTo s (PySem.W.fnOf x x (defArgs st) (defBody st) (defScope st) .none kV doc pm an cdv ct) ⟨[u], []⟩ [(y, u)]) :
    ∃ fd : FuncData, (∀ (s : Shared) (u : Value), BindsTo s fd ⟨[u], []⟩ [(y, u)]) ∧ ∀ base : Heap, K.In base → base.Ns mainGlobals mg → FnG P w K mg base k fa fd [y] (SpD mg K ks r m) := by
  obtain ⟨f, fd, h1, h2⟩ := hf t
  rw [hfa] at h1
  cases h1
  refine ⟨fd, fun s u => ?_, fun base _ _ => ?_⟩
  · obtain ⟨oc, od, kV, doc, pm, an, cdv, ct, osl, rfl, lk, hcd⟩ := h2.ex
    exact hb kV doc pm an cdv ct s u
  · obtain ⟨f', fd', g1, g2, g3⟩ := (F t base).ex
    rw [hfa] at g1
    cases g1
    obtain ⟨oc, od, kV, doc, pm, an, cdv, ct, osl, rfl, lk, hcd⟩ := h2.ex
    obtain ⟨oc', od', kV', doc', pm', an', cdv', ct', osl', rfl, lk', hcd'⟩ := g2.ex
    rw [lk] at lk'
    cases lk'
    rw [← hp]
    exact g3
end
end DL
set_option maxHeartbeats 2000000
namespace DL
open PySem PySem.Spec PyProof.Rows L2
end DL
set_option maxHeartbeats 2000000
namespace DL
open PySem PySem.Spec PyProof.Rows L2
def zipD : List D → List D → List D
  | d :: ds, e :: es => .tup [d, e] :: zipD ds es
  | _, _ => []
def iZipD (a : Ea) : Ei := fun ρ π => (a ρ π).bind fun x => match x.1 with
  | [d, e] => (ofO (seqOf d)).bind fun z => (ofO (seqOf e)).bind fun y => .ok (zipD z y, x.2)
  | _ => .stuck
end DL
set_option maxHeartbeats 2000000
namespace DL
open PySem PySem.Spec PyProof.Rows L2
def fldD (c f : Str) : D → Option D
  | .ins c' ns xs => if c' = c then (ns.zip xs).lookup f else none
  | _ => none
/-- a class of the text whose instances have these attributes -/
def ClsF (K : PySem.W.Frag) (mg : Str → Option Value) (c : Str) (fs : List Str) : Prop := ∃ C, mg c = some (.ref C) ∧ Cls K C ∧ ∀ f ∈ fs, NoAttr K C f
section
variable {mg : Str → Option Value} {K : PySem.W.Frag} {pot : Option Addr} {M : List Addr} {H H' : Hp} {v x : V} {d : D}
theorem rb_ins {c : Str} {ns : List Str} {ds : List D} (h : Rb mg K pot M H x (.ins c ns ds)) : ∃ a C dx fs, x = .ref a ∧ mg c = some (.ref C) ∧ H a = some (.ins C dx fs) ∧ ns = fs.map (·.1) ∧ RpL mg K (less H M) (fs.map (·.2)) ds := by
  rcases h with h | ⟨p, e1, _, o, h1, h2⟩
  · cases h with
    | ins m h1 h2 => exact ⟨_, _, _, _, rfl, m, less_le _ _ h1, rfl, h2⟩
  · cases h2 with
    | ins m h2 => exact ⟨p, _, _, _, e1, m, h1, rfl, h2.mono (less_sub fun a q => List.mem_cons_of_mem _ q)⟩
theorem look_r {f : Str} {z : D} : ∀ {fs : List (Str × V)} {ds : List D}, RpL mg K H (fs.map (·.2)) ds → ((fs.map (·.1)).zip ds).lookup f = some z → ∃ v, fs.lookup f = some v ∧ Rp mg K H v z
  | [], _, _, e => by simp at e
  | p :: fs, _, .cons h r, e => by
    obtain ⟨g, v⟩ := p
    simp only [List.map_cons, List.zip_cons_cons, List.lookup_cons] at e ⊢
    split at e
    · rename_i hg
      cases e
      exact ⟨v, rfl, h⟩
    · exact look_r r e
end
section
variable {X : Cx} {E : XK} {Γ Γ1 Γ' : List Md} {r ra rb rc : Rm} {e a b : Expr} {ta tb te : TE} {fa fb fe : Ed} {pos p p2 apos : Pos} {k kk : Nat} {es : List Expr} {ks : List Ak} {tA : TA} {fA : Ea}
/-- e.f -/
theorem de_fld (c : Str) (fs : List Str) {f : Str} (h : ClsF X.K X.mg c fs) (ha : DE X E r Γ a ta fa) (hf : f ∈ fs := by decide) (hb : attributeBase a f X.env (eval a X.env) = eval a X.env := by rfl) : DE X E .f Γ (.Attribute a f pos) (tFld X.K ta f) (eUn (fldD c f) fa) :=
  ⟨pe_fld ha.pe hb, fun pot M σ H ρ π I p Q q => by
    refine Post.seq (r' := r) (te := ta σ H) q p (fun Q' hq => ha.sem pot M σ H ρ π I p Q' hq) fun d π1 v H1 _ g1 p1 r1 h1 => ?_
    cases hz : fldD c f d with
    | none =>
      simp only [hz, ofO_none, Res.bind_stuck] at h1
      exact h1.elim
    | some z =>
      simp only [hz, ofO_some, Res.bind_ok] at h1
      cases d with
      | ins c' ns xs =>
        simp only [fldD] at hz
        split at hz
        · rename_i hc
          subst hc
          obtain ⟨y, C, dx, gs, rfl, m, hy, rfl, rr⟩ := rb_ins r1.toB
          obtain ⟨C', m', cl, no⟩ := h
          rw [m] at m'
          cases m'
          obtain ⟨u, e1, e2⟩ := look_r rr hz
          exact ⟨y, C, dx, gs, u, rfl, hy, cl, no f hf, e1, h1 _ H1 .refl p1 e2⟩
        · cases hz
      | _ => cases hz⟩
def putN (f : Str) (z : D) : List Str → List D → List Str × List D
  | g :: ns, x :: xs => if g = f then (g :: ns, z :: xs) else (g :: (putN f z ns xs).1, x :: (putN f z ns xs).2)
  | _, _ => ([f], [z])
theorem putN_r {mg : Str → Option Value} {K : PySem.W.Frag} {H : Hp} {f : Str} {v : V} {z : D} (h : Rp mg K H v z) : ∀ {fs : List (Str × V)} {ds : List D}, RpL mg K H (fs.map (·.2)) ds → (putF f v fs).map (·.1) = (putN f z (fs.map (·.1)) ds).1 ∧ RpL mg K H ((putF f v fs).map (·.2)) (putN f z (fs.map (·.1)) ds).2
  | [], _, .nil => ⟨rfl, .cons h .nil⟩
  | (g, x) :: fs, _, .cons h1 r => by
    obtain ⟨i1, i2⟩ := putN_r h r
    rw [show putF f v ((g, x) :: fs) = (if g = f then (g, v) :: fs else (g, x) :: putF f v fs) from rfl]
    simp only [List.map_cons, putN]
    by_cases e : g = f
    · rw [if_pos e, if_pos e]
      exact ⟨rfl, .cons h r⟩
    · rw [if_neg e, if_neg e]
      exact ⟨by rw [List.map_cons, i1], .cons h1 i2⟩
abbrev Fi := D → Rho → Pot → Res ((D × Rho) × Pot)
def SemIn (mg : Str → Option Value) (K : PySem.W.Frag) (E : XK) (Γ : List Md) (ts : TS) (fi : Fi) : Prop :=
  ∀ pot M0 H0 B M σ H ρ π x d D, SOk mg K Γ pot M0 H0 B M σ H ρ → σ[0]? = some (some (.ref x)) → Held mg K .o Γ pot H0 M σ H ρ (.ref x) d → PotAt pot H π →
    (match fi d ρ π with
      | .ok ((d', ρ'), π') => ∀ M' σ' H', SOk mg K Γ pot M0 H0 B M' σ' H' ρ' → σ'[0]? = some (some (.ref x)) → Held mg K .o Γ pot H0 M' σ' H' ρ' (.ref x) d' → PotAt pot H' π' → D.nx σ' H'
      | .err c ns xs π' => PErr mg K pot M0 H0 c ns xs π' E
      | .stuck => False) → ts D σ H
structure DIn (X : Cx) (E : XK) (Γ : List Md) (sts : List Stmt) (ts : TS) (fi : Fi) : Prop where
  pss : PSs X sts ts
  sem : SemIn X.mg X.K E Γ ts fi
def iNil : Fi := fun d ρ π => .ok ((d, ρ), π)
def iSet (j : Nat) (fe : Ed) (g : Fi) : Fi := fun d ρ π => (fe ρ π).bind fun x => g d (ρ.set j (some x.1)) x.2
def iFld (f : Str) (fe : Ed) (g : Fi) : Fi := fun d ρ π => (fe ρ π).bind fun x => match d with
  | .ins c ns xs => if ns.length < 1000 then g (.ins c (putN f x.1 ns xs).1 (putN f x.1 ns xs).2) ρ x.2 else .stuck
  | _ => .stuck
theorem din_nil : DIn X E Γ [] tNext iNil := ⟨pss_nil, fun pot M0 H0 B M σ H ρ π x d D S s0 hd p h => h M σ H S s0 hd p⟩
theorem din_set (j : Nat) {y : Str} {sts : List Stmt} {us : TS} {g : Fi} (o : XOk X E k) (he : DE X E .f Γ e te fe) (hn : DIn X E Γ sts us g) (h0 : j ≠ 0 := by decide) (hΓ : Γ[j]? = some .f := by rfl) (hN : X.N[j]? = some y := by rfl) (hx : Loc X.env.scope y := by first | exact Or.inl rfl | exact Or.inr rfl)
    (hs : swapsWith e (some (.Name y p)) pos.line X.env = pure false := by rfl) (hf : X.fn y = true ∨ X.env.scope.names.lookup y = some .local := by first | exact .inl rfl | exact .inr rfl) : DIn X E Γ (.Assign [.Name y p] e pos :: sts) (tSeq (tAsg te (gName j)) us) (iSet j fe g) :=
  ⟨pss_cons (ps_set o.nd hN hx he.pe hs hf) hn.pss, fun pot M0 H0 B M σ H ρ π x d D S s0 hd pp q => by
    unfold iSet at q
    refine he.sem pot M σ H ρ π S.env pp _ ?_
    cases ef : fe ρ π with
    | err c ns xs π' =>
      rw [ef] at q
      exact PErr.out q S
    | stuck =>
      rw [ef] at q
      exact q
    | ok z =>
      obtain ⟨z, π1⟩ := z
      rw [ef] at q
      simp only [Res.bind_ok] at q
      intro v H1 g1 p1 r1
      obtain ⟨M1, S1, hv, hc⟩ := S.hold (r := .f) g1 p1 r1
      have hd1 := hd.carry S.env.pm g1 hc
      have S2 := S1.put (r := .f) (i := j) (List.getElem?_eq_some_iff.mp hΓ).1 hv
      have hd2 := hd1.put hv (i := j) (fun _ z => by cases z)
      rw [show Γ.set j Rm.f.md = Γ from set_same hΓ] at S2 hd2
      exact hn.sem pot M0 H0 B M1 _ H1 _ π1 x d D S2 (by rw [List.getElem?_set_ne h0]; exact s0) hd2 p1 q⟩
/-- a held thing changes -/
theorem SOk.mutx {mg : Str → Option Value} {K : PySem.W.Frag} {pot : Option Addr} {M M0 : List Addr} {H H0 B : Hp} {σ : L2.St} {ρ : Rho} {x : Addr} {d d' : D} {o' : HO} (S : SOk mg K Γ pot M0 H0 B M σ H ρ) (hd : Held mg K .o Γ pot H0 M σ H ρ (.ref x) d) (q : HoR mg K (less H M) o' d') :
    SOk mg K Γ pot M0 H0 B M σ (upd H x o') ρ ∧ Held mg K .o Γ pot H0 M σ (upd H x o') ρ (.ref x) d' := by
  obtain ⟨x', ex, m, ⟨n, oo, h1, h2⟩, hz, no⟩ := hd
  cases ex
  have I := S.env
  have own' : Own mg K pot M (upd H x o') x d' := ⟨n, o', upd_same, (q.mono (less_in m)).mono (less_upd (List.mem_cons_self ..))⟩
  refine ⟨⟨⟨I.ls, I.lr, fun j e g1 g2 => ?_, fun j e g1 g2 => ?_, I.p, fun j e g1 g2 => ?_, I.ap, fun a ha => ?_, I.pm, fun j a dd e g1 g2 => ⟨(I.x j a dd e g1 g2).1, (I.x j a dd e g1 g2).2.mono (less_upd m)⟩⟩, fun a o g1 g2 => ?_, S.sub, S.ow, S.m0, fun a o e => less_upd m a o (S.bs a o e)⟩, x, rfl, m, own', hz, no⟩
  · obtain ⟨w, w1, w2⟩ := I.f j e g1 g2
    exact ⟨w, w1, w2.mono (less_upd m)⟩
  · obtain ⟨a, w1, w2, w3, oj, w5, w6⟩ := I.o j e g1 g2
    have na : a ≠ x := fun z => no j e g1 g2 (by rw [← z]; exact w1)
    exact ⟨a, w1, w2, w3, oj, by rw [upd_ne na]; exact w5, w6.mono (less_upd (List.mem_cons_of_mem _ m))⟩
  · obtain ⟨a, ns, w1, w2, w3⟩ := I.s j e g1 g2
    exact ⟨a, ns, w1, w2, sqL_mono (less_upd m) w3⟩
  · by_cases z : a = x
    · rw [z]
      exact .of upd_same q.nt
    · obtain ⟨o, e, n⟩ := I.al a ha
      exact .of (by rw [upd_ne z]; exact e) n
  · have z : a ≠ x := fun z => by
      rw [z, hz] at g2
      cases g2
    rw [upd_ne z]
    exact S.gr a o g1 g2
theorem din_fld (c : Str) (fs : List Str) {f y : Str} {sts : List Stmt} {us : TS} {g : Fi} (hC : ClsF X.K X.mg c fs) (he : DE X E .f Γ e te fe) (hn : DIn X E Γ sts us g) (hf : f ∈ fs := by decide) (hN : X.N[0]? = some y := by rfl) (hv : Vis X.env.scope y := by first | exact Or.inl rfl | exact Or.inr (Or.inl rfl) | exact Or.inr (Or.inr rfl))
    (hd : (y == ("__debug__" : Str)) = false := by decide) (hcd : (y == ("__classdict__" : Str)) = false := by decide) (hs : swapsWith e (some (.Attribute (.Name y p) f p2)) pos.line X.env = pure false := by rfl) :
    DIn X E Γ (.Assign [.Attribute (.Name y p) f p2] e pos :: sts) (tSeq (sFld X.K (tVar 0) te f) us) (iFld f fe fun d ρ π => match d with | .ins c' _ _ => if c' = c then g d ρ π else .stuck | _ => .stuck) :=
  ⟨pss_cons (ps_fld (pe_var hN hv hd hcd) he.pe hs) hn.pss, fun pot M0 H0 B M σ H ρ π x d D S s0 hh pp q => by
    unfold iFld at q
    refine he.sem pot M σ H ρ π S.env pp _ ?_
    cases ef : fe ρ π with
    | err c ns xs π' =>
      rw [ef] at q
      exact PErr.out q S
    | stuck =>
      rw [ef] at q
      exact q
    | ok z =>
      obtain ⟨z, π1⟩ := z
      rw [ef] at q
      simp only [Res.bind_ok] at q
      intro v H1 g1 p1 r1
      have S1 := S.grow g1 p1
      have h1 := hh.carry S.env.pm g1 (.inl rfl)
      cases d with
      | ins c' ns xs =>
        by_cases hlen : ns.length < 1000
        · by_cases hcc : c' = c
          · subst hcc
            simp only [hlen, if_true] at q
            obtain ⟨x', ex, m, ⟨n, oo, k1, k2⟩, hz, no⟩ := id h1
            cases ex
            cases k2 with
            | @ins C dx fs' c ds mC rr =>
              obtain ⟨C', mC', cl, nos⟩ := hC
              rw [mC] at mC'
              cases mC'
              have rr' := rr.mono (less_sub (N := M) fun a q => List.mem_cons_of_mem _ q)
              obtain ⟨i1, i2⟩ := putN_r (f := f) (v := v) (z := z) r1 rr'
              obtain ⟨S2, h2⟩ := S1.mutx h1 (o' := .ins C dx (putF f v fs')) (d' := .ins c' (putN f z (fs'.map (·.1)) xs).1 (putN f z (fs'.map (·.1)) xs).2) (by
                rw [← i1]
                exact .ins mC i2)
              have p2 : PotAt pot (upd H1 x (.ins C dx (putF f v fs'))) π1 := p1.mut n
              exact ⟨_, s0, x, C, dx, fs', rfl, k1, cl, nos f hf, by simpa using hlen, hn.sem pot M0 H0 B M σ _ ρ π1 x _ D S2 s0 h2 p2 q⟩
          · simp only [hlen, if_true, hcc, if_false] at q
        · simp only [hlen, if_false] at q
      | _ => exact q.elim⟩
end
end DL
set_option maxHeartbeats 2000000
namespace DL
open PySem PySem.Spec PyProof.Rows L2
def but (H : Hp) (x : Addr) : Hp := fun a => if a = x then none else H a
theorem but_ne {H : Hp} {x a : Addr} (h : a ≠ x) : but H x a = H a := by
  unfold but
  rw [if_neg h]
theorem but_self {H : Hp} {x : Addr} : but H x x = none := by
  unfold but
  rw [if_pos rfl]
theorem but_some {H : Hp} {x a : Addr} {o : HO} (h : but H x a = some o) : a ≠ x ∧ H a = some o := by
  by_cases e : a = x
  · rw [e, but_self] at h
    cases h
  · rw [but_ne e] at h
    exact ⟨e, h⟩
section
variable (mg : Str → Option Value) (K : PySem.W.Frag)
/-- what a class's __init__ promises -/
def SpI (c : Str) (ks : List Ak) (m : Fd) : Sp := fun vs H Q E => vs.length = ks.length + 1 ∧ ∃ x C dx ws pot M ds π, vs = .ref x :: ws ∧ mg c = some (.ref C) ∧ H x = some (.ins C dx []) ∧ x ∉ M ∧ pot ≠ some x ∧
  Args mg K pot M (but H x) ks ws ds ∧ (∀ a ∈ M, Al (but H x) a) ∧ (∀ a, pot = some a → a ∈ M) ∧ PotAt pot (but H x) π ∧
  (match m ds π with
    | .ok (d, π1) => ∀ H', Grow pot (but H x) H' → PotAt pot H' π1 → Own mg K pot M H' x d → Q .non H'
    | .err c ns xs π1 => PErr mg K pot M (but H x) c ns xs π1 E
    | .stuck => False)
end
/-- a class with what its making gives -/
structure DMk (P : Program) (w : World) (K : PySem.W.Frag) (mg : Str → Option Value) (base : Heap) (k : Nat) (c qual : Str) (st : Stmt) (ps : List Str) (ks : List Ak) (m : Fd) : Prop where
  ex : ∃ C fI fd, mg c = some (.ref C) ∧ Mk K C fI ∧ Fun K "__init__" qual st fI fd ∧ FnG P w K mg base k fI fd ps (SpI mg K c ks m)
def runI (n : Nat) (c : Str) (fi : Fi) : Fd := fun ds π => (fi (.ins c [] []) (startD n (.non :: ds)) π).bind fun x => .ok (x.1.1, x.2)
section
variable {P : Program} {w : World} {K : PySem.W.Frag} {mg : Str → Option Value} {base : Heap} {k : Nat}
theorem Args.of_rpl {pot : Option Addr} {M : List Addr} {H : Hp} : ∀ {ks : List Ak} {vs : List V} {ds : List D}, RpL mg K (less H M) vs ds → vs.length = ks.length → (∀ k ∈ ks, k = Ak.f) → Args mg K pot M H ks vs ds
  | [], _, _, .nil, _, _ => .nil
  | k :: ks, _, _, .cons h r, hl, hk => by
    have e : k = .f := hk k (List.mem_cons_self ..)
    subst e
    exact .cons h (Args.of_rpl r (by simpa using hl) fun k h => hk k (List.mem_cons_of_mem _ h))
theorem dmk_of {c qual : Str} {st : Stmt} {ps N : List Str} {ks : List Ak} {fi : Fi} (Γ : List Md) (hf : ∃ C fI fd, mg c = some (.ref C) ∧ Mk K C fI ∧ Fun K "__init__" qual st fI fd) (S : FnScope N ps (defScope st)) (hp : ps.length = ks.length + 1) (hl : Γ.length = N.length) (hk : ks.length + 1 ≤ N.length)
    (hm : modesOk (.b :: ks) Γ = true) (hks : ∀ k ∈ ks, k = Ak.f) (hno : ∀ m ∈ Γ, m ≠ Md.o)
    (hb : ∀ (f : Addr) (cdv : Value) (A : Around) (outer : List Env) (s : Shared) (H : Hp) (E : XK), XOk (cxOf (L2.CX P w) P w K mg base N qual (defScope st) f cdv A outer s H E) E k →
      ∃ ts, DIn (cxOf (L2.CX P w) P w K mg base N qual (defScope st) f cdv A outer s H E) E Γ (defBody st) ts fi) :
    DMk P w K mg base (k + 1) c qual st ps ks (runI N.length c fi) := by
  obtain ⟨C0, fI, fd, h0, hM, h2⟩ := hf
  refine ⟨C0, fI, fd, h0, hM, h2, ?_⟩
  obtain ⟨oc, od, kV, doc, pm, an, cdv, ct, osl, rfl, lk, hcd⟩ := h2.ex
  refine fn_ofG lk hcd S (fun vs H Q E h => by rw [h.1, hp]) fun A outer s H vs Q E room gd want => ?_
  obtain ⟨_, x, C, dx, ws, pot, M, ds, π, rfl, mC, hx, nx, npx, ar, al, pmm, pt, post⟩ := want
  have o : XOk (cxOf (L2.CX P w) P w K mg base N qual (defScope st) fI cdv A outer s H E) E k :=
    ⟨room, gd, rfl, passes_call (takes_of rfl rfl rfl rfl) fun _ _ _ _ z => z, passes_of rfl, S.nd⟩
  obtain ⟨ts, B⟩ := hb fI cdv A outer s H E o
  refine ⟨ts, B.pss, ?_⟩
  have own0 : Own mg K pot (x :: M) H x (.ins c [] []) := ⟨npx, _, hx, .ins (fs := []) mC .nil⟩
  have sm : Same (less (but H x) M) (less H (x :: M)) := fun a u e => by
    obtain ⟨e1, e2⟩ := less_some.mp e
    obtain ⟨e3, e4⟩ := but_some e2
    refine less_some.mpr ⟨fun m => ?_, e4⟩
    rcases List.mem_cons.mp m with z | m
    · exact e3 z
    · exact e1 m
  have ar2 : Args mg K pot (x :: M) H (.b :: ks) (.ref x :: ws) (.non :: ds) ∨ True := .inr trivial
  have rl := (ar.rpl hks).mono sm
  have I0 : EnvOk mg K Γ pot (x :: M) (L2.start N (.ref x :: ws)) H (startD N.length (.non :: ds)) := by
    have a1 : Args mg K pot (x :: M) H ks ws ds := .of_rpl rl ar.length hks
    have a2 : Args mg K pot (x :: M) H (.b :: ks) (.ref x :: ws) (.ins c [] [] :: ds) := .cons (.inr ⟨x, rfl, own0⟩) a1
    have I := env_start hm hl hk a2 (fun a ha => by
      rcases List.mem_cons.mp ha with z | ha
      · rw [z]
        exact .of hx fun _ e => by cases e
      · obtain ⟨o, e, n⟩ := al a ha
        exact .of (but_some e).2 n) (fun a e => List.mem_cons_of_mem _ (pmm a e))
    have g0 : Γ[0]? = some .u := by
      obtain ⟨m1, _⟩ := Bool.and_eq_true_iff.mp hm
      have m1 := of_decide_eq_true m1
      have e : (Γ.take (Ak.b :: ks).length)[0]? = Γ[0]? := List.getElem?_take_of_lt (by simp)
      rw [← e, m1]
      rfl
    have oth : ∀ (j : Nat) (m : Md), m ≠ .u → Γ[j]? = some m → j ≠ 0 := fun j m hm h z => by
      rw [z, g0] at h
      cases h
      exact hm rfl
    have at_ : ∀ j, j ≠ 0 → (startD N.length (.non :: ds))[j]? = (startD N.length (.ins c [] [] :: ds))[j]? := fun j hj => by
      unfold startD
      cases j with
      | zero => exact absurd rfl hj
      | succ j => simp
    refine ⟨I.ls, by rw [← I.lr]; simp [startD], fun j d h1 h2 => I.f j d h1 (by rw [← at_ j (oth j _ (by simp) h1)]; exact h2), fun j d h1 h2 => absurd rfl (hno _ (List.mem_of_getElem? h1)), I.p, fun j d h1 h2 => I.s j d h1 (by rw [← at_ j (oth j _ (by simp) h1)]; exact h2), fun i j a d e h1 => absurd rfl (hno _ (List.mem_of_getElem? h1)), I.al, I.pm, fun j a dd d h1 h2 => I.x j a dd d h1 (by rw [← at_ j (oth j _ (by simp) h1)]; exact h2)⟩
  have S0 : SOk mg K Γ pot M (but H x) (fun _ => none) (x :: M) (L2.start N (.ref x :: ws)) H (startD N.length (.non :: ds)) :=
    ⟨I0, fun a u _ e => (but_some e).2, fun a h => List.mem_cons_of_mem _ h, fun i d a h1 => absurd rfl (hno _ (List.mem_of_getElem? h1)), fun a h => (al a h).nn, fun a u e => by cases e⟩
  have hd : Held mg K .o Γ pot (but H x) (x :: M) (L2.start N (.ref x :: ws)) H (startD N.length (.non :: ds)) (.ref x) (.ins c [] []) :=
    ⟨x, rfl, List.mem_cons_self .., own0, but_self, fun i e h1 => absurd rfl (hno _ (List.mem_of_getElem? h1))⟩
  have pt2 : PotAt pot H π := fun a e => (but_some (pt a e)).2
  refine B.sem pot M (but H x) (fun _ => none) (x :: M) _ H _ π x _ _ S0 (by rw [start_at (by simp)]; rfl) hd pt2 ?_
  unfold runI at post
  cases ef : fi (.ins c [] []) (startD N.length (.non :: ds)) π with
  | err c ns xs π' =>
    rw [ef] at post
    exact post
  | stuck =>
    rw [ef] at post
    exact post
  | ok y =>
    obtain ⟨⟨d', ρ'⟩, π1⟩ := y
    rw [ef] at post
    intro M' σ' H' S' s0 h' p'
    obtain ⟨x', ex, _, ⟨n, oo, k1, k2⟩, _, _⟩ := h'
    cases ex
    refine post H' S'.gr p' ⟨n, oo, k1, k2.mono (less_sub fun a ha => ?_)⟩
    rcases List.mem_cons.mp ha with z | ha
    · rw [z]
      exact List.mem_cons_self ..
    · exact List.mem_cons_of_mem _ (S'.sub a ha)
theorem DMk.mono {j : Nat} {c qual : Str} {st : Stmt} {ps : List Str} {ks : List Ak} {m : Fd} (F : DMk P w K mg base j c qual st ps ks m) (h : j ≤ k) : DMk P w K mg base k c qual st ps ks m := by
  obtain ⟨C, f, fd, h0, h1, h2, h3⟩ := F.ex
  exact ⟨C, f, fd, h0, h1, h2, h3.mono h⟩
end
section
variable {X : Cx} {E : XK} {Γ : List Md} {pos p : Pos} {k j : Nat} {ks : List Ak} {tA : TA} {fA : Ea} {e : Expr} {es : List Expr}
theorem run_makeG {pins : List (Addr × Obj)} {σ : L2.St} {H : Hp} {s : Shared} {Q : VK} {us : List Value} {vs : List V} {C f : Addr} {fd : FuncData} {ps : List Str} {sp : Sp} (M : Mk X.K C f) (F : FnG X.prog X.w X.K X.mg X.base j f fd ps sp) (o : XOk X E k) (hj : j + 1 ≤ k)
    (hb : ∀ (s : Shared) (us : List Value), us.length = ps.length → BindsTo s fd ⟨us, []⟩ (ps.zip us)) (I : Inv X pins σ H s) (r : Vals vs us)
    (h : ∀ x dx, H x = none → H dx = none → dx ≠ x → sp (.ref x :: vs) (upd (upd H dx (.own x)) x (.ins C dx [])) (fun v H2 => v = .non ∧ Q (.ref x) H2) E) :
    wpAny (model X.prog X.w) X.A (call (.ref C) us) (EP X pins σ Q) X.xe s := by
  have want := h (s.heap.objs.size + 1) s.heap.objs.size (I.hok.fresh (Nat.le_succ _)) (I.hok.fresh (Nat.le_refl _)) (Nat.ne_of_lt (Nat.lt_succ_self _))
  have J := Inv.made (C := C) I
  have rel : Vals (V.ref (s.heap.objs.size + 1) :: vs) (Value.ref (s.heap.objs.size + 1) :: us) := .cons rfl r
  have len : (Value.ref (s.heap.objs.size + 1) :: us).length = ps.length := by
    rw [← F.len _ _ _ _ want]
    exact rel.length.symm
  have room := (o.room.mono hj).make C us []
  have run := F.run (X.A.under (.builtin "type.__call__" ⟨.ref C :: us, []⟩)) X.stack _ _ ⟨Value.ref (s.heap.objs.size + 1) :: us, []⟩ (Value.ref (s.heap.objs.size + 1) :: us) _ _ E room (by first | exact o.gd | (show (X.A.under _).guards = some []; simp [Around.under, o.gd])) (J.env0.make C us []) (hb _ _ len) rel want
  refine wpAny_call (make_map (f := f) I.kIn M.makes M.init (beq_iff_eq.mp M.fn) (codeAny_mono run fun r s' z => ?_))
  match r, z with
  | .error er, z => exact o.pass pins σ _ _ er s' J z
  | .ok .next, z => exact z.elim
  | .ok .brk, z => exact z.elim
  | .ok .cont, z => exact z.elim
  | .ok (.ret u), z =>
    obtain ⟨v, H', I3, rv, ev, q3⟩ := J.after z
    subst ev
    exact ⟨rv, V.ref (s.heap.objs.size + 1), H', I3, rfl, q3⟩
def tMkD (mg : Str → Option Value) (K : PySem.W.Frag) (c : Str) (ks : List Ak) (m : Fd) (E : XK) (t : TA) : TE := fun σ H Q => t σ H fun vs H1 => ∀ C, mg c = some (.ref C) → ∀ x dx, H1 x = none → H1 dx = none → dx ≠ x →
  SpI mg K c ks m (.ref x :: vs) (upd (upd H1 dx (.own x)) x (.ins C dx [])) (fun v H2 => v = .non ∧ Q (.ref x) H2) E
theorem sem_mk {c : Str} {m : Fd} (hA : SemA X.mg X.K E ks Γ tA fA) : SemE X.mg X.K E .o Γ (tMkD X.mg X.K c ks m E tA) (eGo m fA) := fun pot M σ H ρ π I p Q h => by
  refine PostA.seq (ks := ks) (te := tA σ H) h p (fun Q' hq => hA pot M σ H ρ π I p Q' hq) fun ds π1 vs H1 _ g1 p1 r1 h1 => ?_
  intro C mC x dx hx hdx hne
  have I1 := I.grow g1 p1
  have hb : but (upd (upd H1 dx (.own x)) x (.ins C dx [])) x = upd H1 dx (.own x) := funext fun a => by
    by_cases z : a = x
    · rw [z, but_self, upd_ne (Ne.symm hne)]
      exact hx.symm
    · rw [but_ne z, upd_ne z]
  have gr : Grow pot H1 (upd H1 dx (.own x)) := .new hdx
  refine ⟨by simp [r1.length], x, C, dx, vs, pot, M, ds, π1, rfl, mC, upd_same, fun m => (I1.al x m).nn hx, fun e => p1.has x e hx, ?_⟩
  rw [hb]
  refine ⟨r1.grow I.pm gr, fun a ha => ?_, I.pm, p1.new hdx, ?_⟩
  · by_cases z : a = dx
    · rw [z]
      exact .of upd_same fun _ e => by cases e
    · obtain ⟨o, e, n⟩ := I1.al a ha
      exact .of (by rw [upd_ne z]; exact e) n
  · cases em : m ds π1 with
    | ok y =>
      obtain ⟨d, π2⟩ := y
      rw [em] at h1
      exact fun H' g' p' own => ⟨rfl, h1 (.ref x) H' (gr.trans g') p' ⟨x, rfl, hx, own⟩⟩
    | err c ns xs π' =>
      rw [em] at h1
      exact PErr.back h1 gr
    | stuck =>
      rw [em] at h1
      exact h1
/-- C(e, ..) -/
theorem de_new {c qual : Str} {st : Stmt} {ps : List Str} {m : Fd} (F : DMk X.prog X.w X.K X.mg X.base j c qual st ps ks m) (o : XOk X E k)
    (hb : ∀ (kV doc pm : Value) (an : Option Addr) (cdv ct : Value) (us : List Value), us.length = ps.length → bindArgs (PySem.W.fnOf "__init__" qual (defArgs st) (defBody st) (defScope st) .none kV doc pm an cdv ct) ⟨us, []⟩ = pure (ps.zip us))
    (hA : DA X E ks Γ (e :: es) tA fA) (hj : j + 1 ≤ k := by decide) (hg : Gl X c := by rfl) (hdb : (c == ("__debug__" : Str)) = false := by decide) (he : starEach (e :: es) X.env = (false, eval e X.env) :: starEach es X.env := by rfl) (hpl : (backTo pos (starEach es X.env)).any (·.1) = false := by rfl) :
    DE X E .o Γ (.Call (.Name c p) (e :: es) [] pos) (tMkD X.mg X.K c ks m E tA) (eGo m fA) :=
  ⟨⟨fun pins s σ H Q I h => by
    obtain ⟨C, f, fd, h0, hM, h2, h3⟩ := F.ex
    refine wpAny_Call_Name_kw (ld_glob I hg h0 ?_ hdb)
    refine PySem.W.callWith_K (h₀ := X.base) I.ok.mod.kin hM.kp (thn (hA.pa.run pos pins s σ H _ I h) fun us s1 ⟨vs, H1, I1, rl, q⟩ => ⟨I1.kIn, ?_⟩) he hpl
    refine run_makeG hM h3 o hj (fun s us hl => ?_) I1 rl (q C h0)
    obtain ⟨oc, od, kV, doc, pm, an, cdv, ct, osl, rfl, lk, hcd⟩ := h2.ex
    exact .of_eq (hb kV doc pm an cdv ct us hl)⟩, sem_mk hA.sem⟩
end
end DL
set_option maxHeartbeats 2000000
namespace DL
open PySem PySem.Spec PyProof.Rows L2
section
variable {P : Program} {w : World} {K : PySem.W.Frag} {mg : Str → Option Value} {base : Heap} {k : Nat} {x qual : Str} {st : Stmt} {ps N : List Str} {ks : List Ak} {r : Rm}
/-- a def by its body, wherever it stands -/
theorem fnD_of {fs : Fs} {f : Addr} {fd : FuncData} (Γ Γ' : List Md) (h2 : Fun K x qual st f fd) (S : FnScope N ps (defScope st)) (hp : ks.length = ps.length) (hl : Γ.length = N.length) (hk : ks.length ≤ N.length) (hm : modesOk ks Γ = true)
    (hb : ∀ (f : Addr) (cdv : Value) (A : Around) (outer : List Env) (s : Shared) (H : Hp) (E : XK), XOk (cxOf (L2.CX P w) P w K mg base N qual (defScope st) f cdv A outer s H E) E k →
      ∃ ts, DSs (cxOf (L2.CX P w) P w K mg base N qual (defScope st) f cdv A outer s H E) E r Γ Γ Γ' (defBody st) ts fs) :
    FnG P w K mg base (k + 1) f fd ps (SpD mg K ks r (runD N.length r fs)) := by
  obtain ⟨oc, od, kV, doc, pm, an, cdv, ct, osl, rfl, lk, hcd⟩ := h2.ex
  refine fn_ofG lk hcd S (fun vs H Q E h => by rw [h.1, hp]) fun A outer s H vs Q E room gd want => ?_
  obtain ⟨_, pot, M, ds, π, ar, al, pm, pt, post⟩ := want
  have o : XOk (cxOf (L2.CX P w) P w K mg base N qual (defScope st) f cdv A outer s H E) E k :=
    ⟨room, gd, rfl, passes_call (takes_of rfl rfl rfl rfl) fun _ _ _ _ z => z, passes_of rfl, S.nd⟩
  obtain ⟨ts, B⟩ := hb f cdv A outer s H E o
  refine ⟨ts, B.pss, ?_⟩
  have I := env_start hm hl hk ar al pm
  refine B.sem pot M H (fun _ => none) M _ H _ π _ ⟨I, .refl, fun a h => h, fun i d a h1 h2 h3 => ?_, fun a h => (al a h).nn, fun a u e => by cases e⟩ pt ?_
  · exfalso
    obtain ⟨k', v, q1, _⟩ := ar.at (startD_at h2)
    obtain ⟨m1, _⟩ := Bool.and_eq_true_iff.mp hm
    have m1 := of_decide_eq_true m1
    have hi := (List.getElem?_eq_some_iff.mp q1).1
    have e : (Γ.take ks.length)[i]? = Γ[i]? := List.getElem?_take_of_lt hi
    rw [h1, m1, List.getElem?_map, q1] at e
    cases k' <;> cases e
  · unfold runD at post
    cases ef : fs (startD N.length ds) π with
    | err c ns xs π' =>
      rw [ef] at post
      exact post
    | stuck =>
      rw [ef] at post
      exact post
    | ok y =>
      obtain ⟨y, π1⟩ := y
      rw [ef] at post
      cases y with
      | rt d => exact fun v H' g p q => post v H' g p q
      | nx ρ =>
        simp only [Res.bind_ok] at post
        split at post
        · rename_i hrf
          subst hrf
          exact fun M' σ' H' S' p' => post .non H' S'.gr p' .non
        · exact post.elim
      | bk ρ => exact post.elim
      | ct ρ => exact post.elim
/-- a method of a class with what it gives -/
structure DMe (P : Program) (w : World) (K : PySem.W.Frag) (mg : Str → Option Value) (base : Heap) (k : Nat) (c x qual : Str) (st : Stmt) (ps : List Str) (ks : List Ak) (r : Rm) (m : Fd) : Prop where
  ex : ∃ C f fd, mg c = some (.ref C) ∧ Cls K C ∧ Meth K C x f ∧ Fun K x qual st f fd ∧ FnG P w K mg base k f fd ps (SpD mg K (.f :: ks) r m)
theorem DMe.mono {j : Nat} {c : Str} {m : Fd} (F : DMe P w K mg base j c x qual st ps ks r m) (h : j ≤ k) : DMe P w K mg base k c x qual st ps ks r m := by
  obtain ⟨C, f, fd, h0, h1, h2, h3, h4⟩ := F.ex
  exact ⟨C, f, fd, h0, h1, h2, h3, h4.mono h⟩
theorem dme_of {c : Str} {fs : Fs} (Γ Γ' : List Md) (hf : ∃ C f fd, mg c = some (.ref C) ∧ Cls K C ∧ Meth K C x f ∧ Fun K x qual st f fd) (S : FnScope N ps (defScope st)) (hp : (Ak.f :: ks).length = ps.length) (hl : Γ.length = N.length) (hk : (Ak.f :: ks).length ≤ N.length) (hm : modesOk (.f :: ks) Γ = true)
    (hb : ∀ (f : Addr) (cdv : Value) (A : Around) (outer : List Env) (s : Shared) (H : Hp) (E : XK), XOk (cxOf (L2.CX P w) P w K mg base N qual (defScope st) f cdv A outer s H E) E k →
      ∃ ts, DSs (cxOf (L2.CX P w) P w K mg base N qual (defScope st) f cdv A outer s H E) E r Γ Γ Γ' (defBody st) ts fs) :
    DMe P w K mg base (k + 1) c x qual st ps ks r (runD N.length r fs) := by
  obtain ⟨C, f, fd, h0, h1, h2, h3⟩ := hf
  exact ⟨C, f, fd, h0, h1, h2, h3, fnD_of Γ Γ' h3 S hp hl hk hm hb⟩
end
def hasN (m : Str) (c : Str) : D → Bool
  | .ins c' ns _ => decide (c' = c) && !ns.contains m
  | _ => false
def eMeth (c x : Str) (m : Fd) (a : Ed) (b : Ea) : Ed := fun ρ π => (a ρ π).bind fun y => if hasN x c y.1 = true then (b ρ y.2).bind fun z => m (y.1 :: z.1) z.2 else .stuck
theorem look_none {f : Str} : ∀ {fs : List (Str × V)}, f ∉ fs.map (·.1) → fs.lookup f = none
  | [], _ => rfl
  | (g, v) :: r, h => by
    simp only [List.map_cons, List.mem_cons, not_or] at h
    rw [List.lookup_cons, beq_eq_false_iff_ne.mpr h.1]
    exact look_none h.2
section
variable {X : Cx} {E : XK} {Γ : List Md} {r ra : Rm} {pos p apos : Pos} {k j : Nat} {ks : List Ak} {tA : TA} {fA : Ea} {a e : Expr} {ta : TE} {fa : Ed} {es : List Expr} {c x qual : Str} {st : Stmt} {ps : List Str} {m : Fd}
def tMe (mg : Str → Option Value) (K : PySem.W.Frag) (c x : Str) (ks : List Ak) (r : Rm) (m : Fd) (E : XK) (ta : TE) (t : TA) : TE := fun σ H Q => ta σ H fun y H1 => ∃ b C dx fs, y = .ref b ∧ mg c = some (.ref C) ∧ H1 b = some (.ins C dx fs) ∧ fs.lookup x = none ∧ t σ H1 fun vs H2 => SpD mg K (.f :: ks) r m (y :: vs) H2 Q E
theorem sem_me (ha : SemE X.mg X.K E .f Γ ta fa) (hA : SemA X.mg X.K E ks Γ tA fA) : SemE X.mg X.K E r Γ (tMe X.mg X.K c x ks r m E ta tA) (eMeth c x m fa fA) := fun pot M σ H ρ π I p Q h => by
  refine Post.seq (r' := .f) (te := ta σ H) h p (fun Q' hq => ha pot M σ H ρ π I p Q' hq) fun d π1 v H1 _ g1 p1 r1 h1 => ?_
  simp only at h1
  split at h1
  · rename_i hn
    cases d with
    | ins c' ns xs =>
      simp only [hasN, Bool.and_eq_true, decide_eq_true_eq, Bool.not_eq_true'] at hn
      obtain ⟨rfl, hn⟩ := hn
      obtain ⟨b, C, dx, fs, rfl, mC, hb, rfl, rr⟩ := rb_ins (.inl r1 : Rb X.mg X.K pot M H1 v (.ins c' ns xs))
      refine ⟨b, C, dx, fs, rfl, mC, hb, look_none (by simpa using hn), ?_⟩
      have I1 := I.grow g1 p1
      refine PostA.seq (ks := ks) (te := tA σ H1) h1 p1 (fun Q' hq => hA pot M σ H1 ρ π1 I1 p1 Q' hq) fun ds π2 vs H2 _ g2 p2 r2 h2 => ?_
      exact ⟨by simp [r2.length], pot, M, _ :: ds, π2, .cons (show Rp X.mg X.K (less H2 M) (.ref b) _ from Rp.mono (less_grow I.pm g2) r1) r2, (I1.grow g2 p2).al, I.pm, p2, h2⟩
    | _ => cases hn
  · exact h1.elim
theorem de_meth {pl : Sem Bool} (F : DMe X.prog X.w X.K X.mg X.base j c x qual st ps ks r m) (o : XOk X E k)
    (hb : ∀ (kV doc pm : Value) (an : Option Addr) (cdv ct : Value) (us : List Value), us.length = ps.length → bindArgs (PySem.W.fnOf x qual (defArgs st) (defBody st) (defScope st) .none kV doc pm an cdv ct) ⟨us, []⟩ = pure (ps.zip us))
    (ha : DE X E .f Γ a ta fa) (hA : DA X E ks Γ (e :: es) tA fA) (hj : j ≤ k := by decide) (hst : starEach (e :: es) X.env = (false, eval e X.env) :: starEach es X.env := by rfl) (hpl : (backTo pos (starEach es X.env)).any (·.1) = false := by rfl)
    (ht : eval (.Call (.Attribute a x apos) (e :: es) [] pos) X.env = (do
      let ov ← eval a X.env
      standAt apos.atName
      let (f, first) ← holding [ov] (getMethod ov x pl)
      callWith pos f first (backTo pos (starEach (e :: es) X.env)) (backToKw pos (keywordEach [] X.env))) := by rfl) :
    DE X E r Γ (.Call (.Attribute a x apos) (e :: es) [] pos) (tMe X.mg X.K c x ks r m E ta tA) (eMeth c x m fa fA) :=
  ⟨⟨fun pins s σ H Q I h => by
    obtain ⟨C, f, fd, h0, h1, h2, h3, h4⟩ := F.ex
    refine PySem.W.methodCall_KW (pl := pl) (thn (ha.pe.run pins s σ H _ I h) fun u s1 ⟨y, H1, I1, ry, b, C', dx, fs, ey, mC, eb, l, q⟩ => ?_) ht
    subst ey
    rw [h0] at mC
    cases mC
    obtain rfl : u = Value.ref b := ry
    refine getmeth_ok I1 eb h1 h2 l ?_
    refine PySem.W.callWith_K (first := [.ref b]) (h₀ := X.base) I.ok.mod.kin h2.kp (thn (hA.pa.run pos pins s1 σ H1 _ I1 q) fun us s2 ⟨vs, H2, I2, rv, q2⟩ => ⟨I2.kIn, ?_⟩) hst hpl
    have hl : (Value.ref b :: us).length = ps.length := by
      have e := h4.len _ _ _ _ q2
      rw [← e, List.length_cons, List.length_cons, rv.length]
    have bd : BindsTo s2 fd ⟨Value.ref b :: us, ([] : List Str).zip ([] : List Value)⟩ (ps.zip ((Value.ref b :: us) ++ [])) := by
      obtain ⟨oc, od, kV, doc, pm, an, cdv, ct, osl, rfl, lk, hcd⟩ := h3.ex
      rw [List.append_nil]
      exact .of_eq (hb kV doc pm an cdv ct _ hl)
    exact run_go (args := ⟨Value.ref b :: us, []⟩) (kn := []) (ws := []) h4 o hj bd I2 (by rw [List.append_nil]; exact .cons rfl rv) q2⟩, sem_me ha.sem hA.sem⟩
theorem de_meth0 {pl : Sem Bool} (F : DMe X.prog X.w X.K X.mg X.base j c x qual st ps [] r m) (o : XOk X E k)
    (hb : ∀ (kV doc pm : Value) (an : Option Addr) (cdv ct : Value) (us : List Value), us.length = ps.length → bindArgs (PySem.W.fnOf x qual (defArgs st) (defBody st) (defScope st) .none kV doc pm an cdv ct) ⟨us, []⟩ = pure (ps.zip us))
    (ha : DE X E .f Γ a ta fa) (hj : j ≤ k := by decide)
    (ht : eval (.Call (.Attribute a x apos) [] [] pos) X.env = (do
      let ov ← eval a X.env
      standAt apos.atName
      let (f, first) ← holding [ov] (getMethod ov x pl)
      callWith pos f first (backTo pos (starEach [] X.env)) (backToKw pos (keywordEach [] X.env))) := by rfl) :
    DE X E r Γ (.Call (.Attribute a x apos) [] [] pos) (tMe X.mg X.K c x [] r m E ta tNil) (eMeth c x m fa aNil) :=
  ⟨⟨fun pins s σ H Q I h => by
    obtain ⟨C, f, fd, h0, h1, h2, h3, h4⟩ := F.ex
    refine PySem.W.methodCall_KW (pl := pl) (thn (ha.pe.run pins s σ H _ I h) fun u s1 ⟨y, H1, I1, ry, b, C', dx, fs, ey, mC, eb, l, q⟩ => ?_) ht
    subst ey
    rw [h0] at mC
    cases mC
    obtain rfl : u = Value.ref b := ry
    refine getmeth_ok I1 eb h1 h2 l ?_
    have q2 : SpD X.mg X.K [.f] r m [.ref b] H1 Q E := q
    have hl : [Value.ref b].length = ps.length := by
      have e := h4.len _ _ _ _ q2
      rw [← e]
      rfl
    have bd : BindsTo s1 fd ⟨[Value.ref b], ([] : List Str).zip ([] : List Value)⟩ (ps.zip ([Value.ref b] ++ [])) := by
      obtain ⟨oc, od, kV, doc, pm, an, cdv, ct, osl, rfl, lk, hcd⟩ := h3.ex
      exact .of_eq (hb kV doc pm an cdv ct _ hl)
    exact PySem.W.callWith_K0 (first := [.ref b]) I1.kIn h2.kp (run_go (args := ⟨[Value.ref b], []⟩) (vs := [V.ref b]) (us := [Value.ref b]) (kn := []) (ws := []) h4 o hj bd I1 (.cons rfl .nil) q2)⟩, sem_me ha.sem da_nil.sem⟩
end
end DL
set_option maxHeartbeats 2000000
namespace DL
open PySem PySem.Spec PyProof.Rows L2
end DL
set_option maxHeartbeats 2000000
namespace DL
open PySem PySem.Spec PyProof.Rows L2 C8
/-- what the text says of a class that isinstance asks for: no builtin is below it, and of the classes cs only it -/
structure ClsI (K : PySem.W.Frag) (mg : Str → Option Value) (c : Str) (cs : List Str) : Prop where
  ex : ∃ C, mg c = some (.ref C) ∧ (∀ n ∈ tyNames, PySem.W.kitOne K (.type n) (.ref C) = some false) ∧
    ∀ c' ∈ cs, ∃ C', mg c' = some (.ref C') ∧ InsC K C' ∧ PySem.W.kitOne K (.ref C') (.ref C) = some (c' == c)
def fIsC (c : Str) (cs : List Str) : D → Option D
  | .ins c' _ _ => if c' ∈ cs then some (.bl (c' == c)) else none
  | _ => some (.bl false)
theorem fIsC_ty {c : Str} {cs : List Str} {d : D} {n : String} (h : tyName d = some n) : fIsC c cs d = some (.bl false) := by
  cases d <;> first | rfl | cases h
def tIsC (mg : Str → Option Value) (K : PySem.W.Frag) (c : Str) (ta : TE) : TE := fun σ H Q => ∃ C, mg c = some (.ref C) ∧ tCB (rIsiY K) (tCons ta (tCons (tC (.ref C)) tNil)) σ H Q
section
variable {X : Cx} {E : XK} {Γ : List Md} {ra : Rm} {a : Expr} {ta : TE} {fa : Ed} {pos p px : Pos}
theorem de_isC {c : Str} (cs : List Str) (hC : ClsI X.K X.mg c cs) (hm : X.mg "isinstance" = none) (ha : DE X E ra Γ a ta fa) (hg : Gl X "isinstance" := by rfl) (hgT : Gl X c := by rfl)
    (hdb : (c == ("__debug__" : Str)) = false := by decide) (hs : starEach [a, .Name c px] X.env = (false, eval a X.env) :: starEach [.Name c px] X.env := by rfl) (hs2 : starEach [.Name c px] X.env = (false, eval (.Name c px) X.env) :: starEach [] X.env := by rfl)
    (hpl : (backTo pos (starEach [.Name c px] X.env)).any (·.1) = false := by rfl) :
    DE X E .f Γ (.Call (.Name "isinstance" p) [a, .Name c px] [] pos) (tIsC X.mg X.K c ta) (eUn (fIsC c cs) fa) :=
  ⟨⟨fun pins s σ H Q I h => by
    obtain ⟨C, hc, h⟩ := h
    exact (pe_callB call_isiY hg hm (by decide +kernel) (pa_cons ha.pe (pa_cons (pe_gc (v := .ref C) hgT ⟨_, hc, (rfl : RelV (.ref C) (Value.ref C))⟩ hdb) pa_nil hs2) hs) (by decide) (by decide) hs hpl).run pins s σ H Q I h⟩,
  fun pot M σ H ρ π I p Q h => by
    obtain ⟨C, hc, hn, ho⟩ := hC.ex
    refine (show _ from ⟨C, hc, ?_⟩ : tIsC X.mg X.K c ta σ H Q)
    refine Post.seq (r' := ra) (te := ta σ H) h p (fun Q' hq => ha.sem pot M σ H ρ π I p Q' hq) fun d π1 v H1 _ g1 p1 r1 h1 => ?_
    cases et : tyName d with
    | some n =>
      rw [fIsC_ty et, ofO_some, Res.bind_ok] at h1
      exact ⟨v, .ref C, .type n, .ref C, false, rfl, .own C, rb_ty r1.toB et, hn n (tyName_mem et), h1 _ H1 .refl p1 (.bl _)⟩
    | none =>
      cases d with
      | ins c' ns xs =>
        simp only [fIsC] at h1
        split at h1
        · rename_i hin
          rw [ofO_some, Res.bind_ok] at h1
          obtain ⟨y, C1, dx, gs, rfl, m, hy, rfl, rr⟩ := rb_ins r1.toB
          obtain ⟨C', m', ic, k1⟩ := ho c' hin
          rw [m] at m'
          cases m'
          exact ⟨.ref y, .ref C, .ref C1, .ref C, _, rfl, .own C, .inl (.base (.ins hy ic.cl ic.ha ic.hn ic.htk ic.hm)), k1, h1 _ H1 .refl p1 (.bl _)⟩
        · rw [ofO_none, Res.bind_stuck] at h1
          exact h1.elim
      | _ => cases et⟩
end
end DL
set_option maxHeartbeats 2000000
namespace DL
open PySem PySem.Spec PyProof.Rows L2 C8
def iCk (c : Str) (g : Fi) : Fi := fun d ρ π => match d with
  | .ins c' _ _ => if c' = c then g d ρ π else .stuck
  | _ => .stuck
section
variable {X : Cx} {E : XK} {Γ : List Md} {e : Expr} {te : TE} {fe : Ed} {pos p p2 : Pos}
theorem din_fldC (c : Str) (fs : List Str) {f y : Str} {sts : List Stmt} {us : TS} {g : Fi} (hC : ClsF X.K X.mg c fs) (he : DE X E .f Γ e te fe) (hn : DIn X E Γ sts us g) (hf : f ∈ fs := by decide) (hN : X.N[0]? = some y := by rfl) (hv : Vis X.env.scope y := by first | exact Or.inl rfl | exact Or.inr (Or.inl rfl) | exact Or.inr (Or.inr rfl))
    (hd : (y == ("__debug__" : Str)) = false := by decide) (hcd : (y == ("__classdict__" : Str)) = false := by decide) (hs : swapsWith e (some (.Attribute (.Name y p) f p2)) pos.line X.env = pure false := by rfl) :
    DIn X E Γ (.Assign [.Attribute (.Name y p) f p2] e pos :: sts) (tSeq (sFld X.K (tVar 0) te f) us) (iFld f fe (iCk c g)) := din_fld c fs hC he hn hf hN hv hd hcd hs
end
theorem fa_cons {α : Type} {p : α → Prop} {a : α} {l : List α} (h : p a) (t : ∀ x ∈ l, p x) : ∀ x ∈ a :: l, p x := List.forall_mem_cons.mpr ⟨h, t⟩
theorem fa_nil {α : Type} {p : α → Prop} : ∀ x ∈ ([] : List α), p x := fun _ h => nomatch h
end DL
set_option maxHeartbeats 2000000
namespace DL
open PySem PySem.Spec PyProof.Rows L2 C8
open Sem (wp)
end DL
set_option maxHeartbeats 2000000
namespace DL
open PySem PySem.Spec PyProof.Rows L2
mutual
/-- no list in it -/
def noL : D → Bool
  | .lst _ => false
  | .tup ds => noLs ds
  | .dic _ ds => noLs ds
  | .ins _ _ ds => noLs ds
  | _ => true
def noLs : List D → Bool
  | [] => true
  | d :: ds => noL d && noLs ds
end
section
variable {mg : Str → Option Value} {K : PySem.W.Frag} {pot : Option Addr} {M M' : List Addr} {H : Hp}
def Lent (M M' : List Addr) (H : Hp) : Prop := ∀ a, a ∉ M' → a ∈ M → ∃ xs, H a = some (.lst xs)
theorem Lent.at (l : Lent M M' H) {a : Addr} {o : HO} (h : less H M' a = some o) (ho : ∀ xs, o ≠ .lst xs) : less H M a = some o := by
  obtain ⟨h1, h2⟩ := less_some.mp h
  refine less_some.mpr ⟨fun h3 => ?_, h2⟩
  obtain ⟨xs, e⟩ := l a h1 h3
  rw [h2] at e
  exact ho xs (Option.some.inj e)
theorem Lent.rd (l : Lent M M' H) {a : Addr} {o : HO} (h : Rd (less H M') a o) (ho : ∀ xs, o ≠ .lst xs) : Rd (less H M) a o := by
  rcases h with h | ⟨ob, h⟩
  · exact .inl (l.at h ho)
  · exact .inr ⟨ob, l.at h fun xs e => by cases e⟩
mutual
theorem Lent.rp (l : Lent M M' H) : ∀ {v : V} {d : D}, Rp mg K (less H M') v d → noL d = true → Rp mg K (less H M) v d
  | _, _, .non, _ => .non
  | _, _, .bl b, _ => .bl b
  | _, _, .int i, _ => .int i
  | _, _, .str x, _ => .str x
  | _, _, .lst h1 h2, e => by cases e
  | _, _, .tup h1 h2, e => by
    rw [noL] at e
    exact .tup (l.at h1 fun xs q => by cases q) (Lent.rpl l h2 e)
  | _, _, .dicK h1 h2, e => by
    rw [noL] at e
    exact .dicK (l.rd h1 fun xs q => by cases q) (Lent.rpl l h2 e)
  | _, _, .dicT h1 h2, e => by
    rw [noL] at e
    exact .dicT (l.rd h1 fun xs q => by cases q) (Lent.rpl l h2 e)
  | _, _, .ins m h1 h2, e => by
    rw [noL] at e
    exact .ins m (l.at h1 fun xs q => by cases q) (Lent.rpl l h2 e)
theorem Lent.rpl (l : Lent M M' H) : ∀ {vs : List V} {ds : List D}, RpL mg K (less H M') vs ds → noLs ds = true → RpL mg K (less H M) vs ds
  | _, _, .nil, _ => .nil
  | _, _, .cons h t, e => by
    rw [noLs, Bool.and_eq_true] at e
    exact .cons (Lent.rp l h e.1) (Lent.rpl l t e.2)
end
theorem Lent.cons (l : Lent M M' H) (p : Addr) : Lent (p :: M) (p :: M') H := fun a h1 h2 => by
  rw [List.mem_cons, not_or] at h1
  rcases List.mem_cons.mp h2 with h2 | h2
  · exact absurd h2 h1.1
  · exact l a h1.2 h2
/-- what an own thing holds has no list -/
def noI : D → Bool
  | .lst ds => noLs ds
  | .dic _ ds => noLs ds
  | .ins _ _ ds => noLs ds
  | _ => false
end
def noR (r : Rm) (d : D) : Bool := match r with
  | .o => noI d
  | .t => false
  | _ => noL d
def chk (r : Rm) : Res (D × Pot) → Res (D × Pot)
  | .ok x => if noR r x.1 = true then .ok x else .stuck
  | .err c ns xs π => if noLs xs = true then .err c ns xs π else .stuck
  | .stuck => .stuck
def lentOk : List Ak → List D → Bool
  | .b :: ks, .lst _ :: ds => lentOk ks ds
  | .b :: _, _ => false
  | _ :: ks, _ :: ds => lentOk ks ds
  | _, _ => true
def eGoL (r : Rm) (ks : List Ak) (m : Fd) (a : Ea) : Ed := fun ρ π => (a ρ π).bind fun x => if lentOk ks x.1 = true then chk r (m x.1 x.2) else .stuck
section
variable {mg : Str → Option Value} {K : PySem.W.Frag} {pot : Option Addr} {M M' : List Addr} {H : Hp} {Q : VK} {E : XK} {r : Rm}
theorem Lent.grow {H' : Hp} (l : Lent M M' H) (pm : ∀ a, pot = some a → a ∈ M') (g : Grow pot H H') : Lent M M' H' := fun a h1 h2 => by
  obtain ⟨xs, e⟩ := l a h1 h2
  exact ⟨xs, g a _ (fun q => h1 (pm a q)) e⟩
end
end DL
set_option maxHeartbeats 2000000
namespace DL
open PySem PySem.Spec PyProof.Rows L2
def rp {α : Type} (π : Pot) : Res (α × Pot) → Res (α × Pot)
  | .ok a => .ok (a.1, π)
  | .err c ns xs _ => .err c ns xs π
  | .stuck => .stuck
def PA {α : Type} (m : Pot → Res (α × Pot)) : Prop := ∀ π π', m π' = rp π' (m π)
def PX {α : Type} (m : Rho → Pot → Res (α × Pot)) : Prop := ∀ ρ, PA (m ρ)
def PF (m : Fd) : Prop := ∀ ds, PA (m ds)
def PI (m : Fi) : Prop := ∀ d ρ, PA (m d ρ)
section
variable {α β : Type}
theorem pa_ok (a : α) : PA fun π => .ok (a, π) := fun _ _ => rfl
theorem pa_st : PA fun _ => (Res.stuck : Res (α × Pot)) := fun _ _ => rfl
theorem pa_bind {m : Pot → Res (α × Pot)} {k : α × Pot → Res (β × Pot)} (h : PA m) (hk : ∀ a, PA fun π => k (a, π)) : PA fun π => (m π).bind k := fun π π' => by
  show (m π').bind k = rp π' ((m π).bind k)
  rw [h π π']
  cases m π with
  | ok a => exact hk a.1 a.2 π'
  | err c ns xs q => rfl
  | stuck => rfl
theorem pa_ofO {γ : Type} {o : Option γ} {k : γ → Pot → Res (β × Pot)} (hk : ∀ a, PA (k a)) : PA fun π => (ofO o).bind fun a => k a π := by
  cases o with
  | none => exact pa_st
  | some a => exact hk a
theorem pa_ofO1 {γ : Type} {o : Option γ} {f : γ → β} : PA fun π => (ofO o).bind fun a => (.ok (f a, π) : Res (β × Pot)) := pa_ofO fun a => pa_ok _
theorem pa_if {c : Prop} {i : Pot → Decidable c} {m n : Pot → Res (α × Pot)} (h : PA m) (h2 : PA n) : PA fun π => @ite _ c (i π) (m π) (n π) := by
  by_cases q : c
  · simp only [if_pos q]
    exact h
  · simp only [if_neg q]
    exact h2
theorem pa_safe {m : Pot → Res (α × Pot)} (h : PA m) : PA fun π => safe (m π) := fun π π' => by
  show safe (m π') = rp π' (safe (m π))
  rw [h π π']
  cases m π <;> rfl
end
section
variable {a b c : Ed} {t t2 : Et} {x : Ea} {fi : Ei} {l u : Eo} {s s2 : Fs} {m : Fd} {g g' : D → D → Option D} {fg : D → Rho → Option Rho}
theorem pu_var {i : Nat} : PX (eVar i) := fun ρ => by
  unfold eVar
  split
  · exact pa_ok _
  · exact pa_st
theorem pu_c {d : D} : PX (eC d) := fun ρ => pa_ok _
theorem pu_bin (ha : PX a) (hb : PX b) : PX (eBin g a b) := by
  intro ρ
  unfold eBin
  repeat' first
    | exact pa_ok _
    | exact pa_st
    | exact pa_ofO1
    | refine pa_bind (ha _) fun x => ?_
    | exact ha _
    | refine pa_bind (pa_chk (ha _)) fun x => ?_
    | refine pa_bind (hb _) fun x => ?_
    | exact hb _
    | refine pa_bind (pa_chk (hb _)) fun x => ?_
    | (apply pa_if)
    | (apply pa_ofO; intro k)
    | (dsimp only)
    | split
theorem pu_un {g : D → Option D} (ha : PX a) : PX (eUn g a) := by
  intro ρ
  unfold eUn
  repeat' first
    | exact pa_ok _
    | exact pa_st
    | exact pa_ofO1
    | refine pa_bind (ha _) fun x => ?_
    | exact ha _
    | refine pa_bind (pa_chk (ha _)) fun x => ?_
    | (apply pa_if)
    | (apply pa_ofO; intro k)
    | (dsimp only)
    | split
theorem pu_anil : PX aNil := by
  intro ρ
  unfold aNil
  repeat' first
    | exact pa_ok _
    | exact pa_st
    | exact pa_ofO1
    | (apply pa_if)
    | (apply pa_ofO; intro k)
    | (dsimp only)
    | split
theorem pu_acons (ha : PX a) (hx : PX x) : PX (aCons a x) := by
  intro ρ
  unfold aCons
  repeat' first
    | exact pa_ok _
    | exact pa_st
    | exact pa_ofO1
    | refine pa_bind (ha _) fun x => ?_
    | exact ha _
    | refine pa_bind (pa_chk (ha _)) fun x => ?_
    | refine pa_bind (hx _) fun x => ?_
    | exact hx _
    | refine pa_bind (pa_chk (hx _)) fun x => ?_
    | (apply pa_if)
    | (apply pa_ofO; intro k)
    | (dsimp only)
    | split
theorem pu_tup (hx : PX x) : PX (eTup x) := by
  intro ρ
  unfold eTup
  repeat' first
    | exact pa_ok _
    | exact pa_st
    | exact pa_ofO1
    | refine pa_bind (hx _) fun x => ?_
    | exact hx _
    | refine pa_bind (pa_chk (hx _)) fun x => ?_
    | (apply pa_if)
    | (apply pa_ofO; intro k)
    | (dsimp only)
    | split
theorem pu_lst (hx : PX x) : PX (eLst x) := by
  intro ρ
  unfold eLst
  repeat' first
    | exact pa_ok _
    | exact pa_st
    | exact pa_ofO1
    | refine pa_bind (hx _) fun x => ?_
    | exact hx _
    | refine pa_bind (pa_chk (hx _)) fun x => ?_
    | (apply pa_if)
    | (apply pa_ofO; intro k)
    | (dsimp only)
    | split
theorem pu_app {g : List D → Option D} (hx : PX x) : PX (eApp g x) := by
  intro ρ
  unfold eApp
  repeat' first
    | exact pa_ok _
    | exact pa_st
    | exact pa_ofO1
    | refine pa_bind (hx _) fun x => ?_
    | exact hx _
    | refine pa_bind (pa_chk (hx _)) fun x => ?_
    | (apply pa_if)
    | (apply pa_ofO; intro k)
    | (dsimp only)
    | split
theorem pu_true : PX tTrue := by
  intro ρ
  unfold tTrue
  repeat' first
    | exact pa_ok _
    | exact pa_st
    | exact pa_ofO1
    | (apply pa_if)
    | (apply pa_ofO; intro k)
    | (dsimp only)
    | split
theorem pu_irng (hx : PX x) : PX (iRng x) := by
  intro ρ
  unfold iRng
  repeat' first
    | exact pa_ok _
    | exact pa_st
    | exact pa_ofO1
    | refine pa_bind (hx _) fun x => ?_
    | exact hx _
    | refine pa_bind (pa_chk (hx _)) fun x => ?_
    | (apply pa_if)
    | (apply pa_ofO; intro k)
    | (dsimp only)
    | split
theorem pa_lcgo (ht : PX t) (ha : PX a) (ρ : Rho) : ∀ ds, PA fun π => lcGo fg t a ρ ds π
  | [] => pa_ok _
  | d :: ds => by
    unfold lcGo
    apply pa_ofO
    intro ρ1
    refine pa_bind (pa_safe (ht ρ1)) fun b => ?_
    dsimp only
    apply pa_if
    · refine pa_bind (pa_safe (ha ρ1)) fun x => ?_
      dsimp only
      refine pa_bind (pa_lcgo ht ha ρ ds) fun r => ?_
      exact pa_ok (x :: r)
    · exact pa_lcgo ht ha ρ ds
theorem pu_lc {vs : List Nat} (hi : PX fi) (ht : PX t) (ha : PX a) : PX (eLC fi fg t a vs) := by
  intro ρ
  unfold eLC
  repeat' first
    | refine pa_bind (pa_lcgo ht ha _ _) fun x => ?_
    | exact pa_ok _
    | exact pa_st
    | exact pa_ofO1
    | refine pa_bind (hi _) fun x => ?_
    | exact hi _
    | refine pa_bind (pa_chk (hi _)) fun x => ?_
    | refine pa_bind (ht _) fun x => ?_
    | exact ht _
    | refine pa_bind (pa_chk (ht _)) fun x => ?_
    | refine pa_bind (ha _) fun x => ?_
    | exact ha _
    | refine pa_bind (pa_chk (ha _)) fun x => ?_
    | (apply pa_if)
    | (apply pa_ofO; intro k)
    | (dsimp only)
    | split
theorem pa_chk {r : Rm} {m : Pot → Res (D × Pot)} (h : PA m) : PA fun π => chk r (m π) := fun π π' => by
  show chk r (m π') = rp π' (chk r (m π))
  rw [h π π']
  cases m π with
  | ok a =>
    show (if noR r a.1 = true then _ else _) = rp π' (if noR r a.1 = true then _ else _)
    split <;> rfl
  | err c ns xs q =>
    show (if noLs xs = true then _ else _) = rp π' (if noLs xs = true then _ else _)
    split <;> rfl
  | stuck => rfl
theorem pu_ret (ha : PX a) : PX (sRet a) := by
  intro ρ
  unfold sRet
  repeat' first
    | exact pa_ok _
    | exact pa_st
    | exact pa_ofO1
    | refine pa_bind (ha _) fun x => ?_
    | exact ha _
    | refine pa_bind (pa_chk (ha _)) fun x => ?_
    | (apply pa_if)
    | (apply pa_ofO; intro k)
    | (dsimp only)
    | split
theorem pu_set {i : Nat} (ha : PX a) : PX (sSet i a) := by
  intro ρ
  unfold sSet
  repeat' first
    | exact pa_ok _
    | exact pa_st
    | exact pa_ofO1
    | refine pa_bind (ha _) fun x => ?_
    | exact ha _
    | refine pa_bind (pa_chk (ha _)) fun x => ?_
    | (apply pa_if)
    | (apply pa_ofO; intro k)
    | (dsimp only)
    | split
theorem pu_seq (hs : PX s) (hs2 : PX s2) : PX (sSeq s s2) := by
  intro ρ
  unfold sSeq
  repeat' first
    | exact pa_ok _
    | exact pa_st
    | exact pa_ofO1
    | refine pa_bind (hs _) fun x => ?_
    | exact hs _
    | refine pa_bind (pa_chk (hs _)) fun x => ?_
    | refine pa_bind (hs2 _) fun x => ?_
    | exact hs2 _
    | refine pa_bind (pa_chk (hs2 _)) fun x => ?_
    | (apply pa_if)
    | (apply pa_ofO; intro k)
    | (dsimp only)
    | split
theorem pa_forgo (hs : PX s) : ∀ ds ρ, PA fun π => forGo fg s ds ρ π
  | [], ρ => pa_ok _
  | d :: ds, ρ => pa_ofO fun ρ1 => pa_bind (hs ρ1) fun y => by
    cases y with
    | nx ρ2 => exact pa_forgo hs ds ρ2
    | ct ρ2 => exact pa_forgo hs ds ρ2
    | bk ρ2 => exact pa_ok _
    | rt d => exact pa_ok _
theorem pu_for (hi : PX fi) (hs : PX s) : PX (sFor fi fg s) := by
  intro ρ
  unfold sFor
  repeat' first
    | exact pa_forgo hs _ _
    | exact pa_ok _
    | exact pa_st
    | exact pa_ofO1
    | refine pa_bind (hi _) fun x => ?_
    | exact hi _
    | refine pa_bind (pa_chk (hi _)) fun x => ?_
    | refine pa_bind (hs _) fun x => ?_
    | exact hs _
    | refine pa_bind (pa_chk (hs _)) fun x => ?_
    | (apply pa_if)
    | (apply pa_ofO; intro k)
    | (dsimp only)
    | split
theorem pu_mut {i : Nat} {f : D → List D → Option (List D)} (ha : PX a) : PX (sMut i a f) := by
  intro ρ
  unfold sMut
  repeat' first
    | exact pa_ok _
    | exact pa_st
    | exact pa_ofO1
    | refine pa_bind (ha _) fun x => ?_
    | exact ha _
    | refine pa_bind (pa_chk (ha _)) fun x => ?_
    | (apply pa_if)
    | (apply pa_ofO; intro k)
    | (dsimp only)
    | split
theorem pu_ext {i : Nat} (ha : PX a) : PX (sExt i a) := pu_mut ha
theorem pu_runD {n : Nat} {r : Rm} (hs : PX s) : PF (runD n r s) := by
  intro ds
  unfold runD
  repeat' first
    | exact pa_ok _
    | exact pa_st
    | exact pa_ofO1
    | refine pa_bind (hs _) fun x => ?_
    | exact hs _
    | refine pa_bind (pa_chk (hs _)) fun x => ?_
    | (apply pa_if)
    | (apply pa_ofO; intro k)
    | (dsimp only)
    | split
end
/-- what a pure meaning gives at some pot it gives at each one -/
theorem PF.ok {m : Fd} (h : PF m) {ds : List D} {π0 π1 : Pot} {d : D} (e : m ds π0 = .ok (d, π1)) (π : Pot) : m ds π = .ok (d, π) := by
  rw [h ds π0 π, e]
  rfl
def isT : Res (D × Pot) → Bool
  | .ok (.bl b, _) => b
  | _ => false
theorem isT_ok {r : Res (D × Pot)} (h : isT r = true) : ∃ π, r = .ok (.bl true, π) := by
  unfold isT at h
  split at h
  · subst h
    exact ⟨_, rfl⟩
  · cases h
theorem PF.t {m : Fd} (h : PF m) {ds : List D} {π0 : Pot} (e : isT (m ds π0) = true) (π : Pot) : m ds π = .ok (.bl true, π) := by
  obtain ⟨π1, e1⟩ := isT_ok e
  exact h.ok e1 π
end DL
set_option maxHeartbeats 2000000
namespace DL
open PySem PySem.Spec PyProof.Rows L2
mutual
def beqD : D → D → Bool
  | .non, .non => true
  | .bl a, .bl b => a == b
  | .int a, .int b => decide (a = b)
  | .str a, .str b => decide (a = b)
  | .lst xs, .lst ys => beqL xs ys
  | .tup xs, .tup ys => beqL xs ys
  | .dic ks xs, .dic ls ys => decide (ks = ls) && beqL xs ys
  | .ins c ns xs, .ins d ms ys => decide (c = d) && decide (ns = ms) && beqL xs ys
  | _, _ => false
def beqL : List D → List D → Bool
  | [], [] => true
  | x :: xs, y :: ys => beqD x y && beqL xs ys
  | _, _ => false
end
mutual
theorem beqD_eq : ∀ {a b : D}, beqD a b = true → a = b
  | .non, b, h => by
    cases b <;> simp [beqD] at h
    rfl
  | .bl a, b, h => by
    cases b <;> simp [beqD] at h
    rw [h]
  | .int a, b, h => by
    cases b <;> simp [beqD] at h
    rw [h]
  | .str a, b, h => by
    cases b <;> simp [beqD] at h
    rw [h]
  | .lst xs, b, h => by
    cases b <;> simp [beqD] at h
    rw [beqL_eq h]
  | .tup xs, b, h => by
    cases b <;> simp [beqD] at h
    rw [beqL_eq h]
  | .dic ks xs, b, h => by
    cases b <;> simp [beqD] at h
    rw [h.1, beqL_eq h.2]
  | .ins c ns xs, b, h => by
    cases b <;> simp [beqD] at h
    rw [h.1.1, h.1.2, beqL_eq h.2]
theorem beqL_eq : ∀ {xs ys : List D}, beqL xs ys = true → xs = ys
  | [], ys, h => by
    cases ys <;> simp [beqL] at h
    rfl
  | x :: xs, ys, h => by
    cases ys <;> simp [beqL] at h
    rw [beqD_eq h.1, beqL_eq h.2]
end
def isR (r : Res (D × Pot)) (d : D) : Bool := match r with
  | .ok (e, _) => beqD e d
  | _ => false
theorem isR_ok {r : Res (D × Pot)} {d : D} (h : isR r d = true) : ∃ π, r = .ok (d, π) := by
  unfold isR at h
  split at h
  · rw [← beqD_eq h]
    exact ⟨_, rfl⟩
  · cases h
theorem PF.r {m : Fd} (h : PF m) {ds : List D} {π0 : Pot} {d : D} (e : isR (m ds π0) d = true) (π : Pot) : m ds π = .ok (d, π) := by
  obtain ⟨π1, e1⟩ := isR_ok e
  exact h.ok e1 π
/-- a piece that ends with a value -/
def isO (r : Res (Out × Pot)) (d : D) : Bool := match r with
  | .ok (.rt e, _) => beqD e d
  | _ => false
theorem PX.o {m : Fs} (h : PX m) {ρ : Rho} {π0 : Pot} {d : D} (e : isO (m ρ π0) d = true) (π : Pot) : m ρ π = .ok (.rt d, π) := by
  rw [h ρ π0 π]
  unfold isO at e
  split at e
  · rename_i q
    rw [q, beqD_eq e]
    rfl
  · cases e
theorem PX.r {m : Ed} (h : PX m) {ρ : Rho} {π0 : Pot} {d : D} (e : isR (m ρ π0) d = true) (π : Pot) : m ρ π = .ok (d, π) := by
  obtain ⟨π1, e1⟩ := isR_ok e
  rw [h ρ π0 π, e1]
  rfl
theorem kit_ty {K : PySem.W.Frag} {C : Addr} {T : String} {b : Bool} (i : PySem.W.isClsIn K C = true) (t : PySem.W.typeIn K (.ref C) = some (.type "type")) (s : PySem.W.subIn K (.type T) (.ref C) = some b) : PySem.W.kitOne K (.type T) (.ref C) = some b := by
  unfold PySem.W.kitOne
  rw [if_neg (by intro h; cases h)]
  unfold PySem.W.kitCls
  unfold PySem.W.isClsIn at i
  simp only [i, t, Bool.true_and, beq_self_eq_true, if_true]
  exact s
theorem kit_self {K : PySem.W.Frag} {C : Addr} : PySem.W.kitOne K (.ref C) (.ref C) = some true := by
  unfold PySem.W.kitOne
  rw [if_pos (by simp)]
theorem kit_ref {K : PySem.W.Frag} {C D : Addr} {b : Bool} (n : (D == C) = false) (i : PySem.W.isClsIn K C = true) (t : PySem.W.typeIn K (.ref C) = some (.type "type")) (s : PySem.W.subIn K (.ref D) (.ref C) = some b) : PySem.W.kitOne K (.ref D) (.ref C) = some b := by
  unfold PySem.W.kitOne
  rw [if_neg (by
    intro h
    have h : (Value.ref D) = .ref C := by simpa using h
    cases h
    simp at n)]
  unfold PySem.W.kitCls
  unfold PySem.W.isClsIn at i
  simp only [i, t, Bool.true_and, beq_self_eq_true, if_true]
  exact s
end DL
set_option maxHeartbeats 2000000
namespace DL
open PySem PySem.Spec PyProof.Rows L2
section
variable {mg : Str → Option Value} {K : PySem.W.Frag} {pot : Option Addr} {M M0 M1 : List Addr} {H H0 H1 H2 B : Hp} {π π1 : Pot} {Γ Γl Γ' : List Md} {σ : L2.St} {ρ : Rho} {v : V} {d : D} {r : Rm} {E : XK}
/-- a slot is no longer looked at -/
theorem SOk.forget (S : SOk mg K Γ pot M0 H0 B M σ H ρ) (i : Nat) : SOk mg K (Γ.set i .u) pot M0 H0 B M σ H ρ := by
  have I := S.env
  have key : ∀ {j : Nat} {m : Md}, m ≠ .u → (Γ.set i .u)[j]? = some m → Γ[j]? = some m := fun {j m} n h => by
    rcases set_at h with ⟨_, e, _⟩ | ⟨_, e⟩
    · exact absurd e n
    · exact e
  exact ⟨⟨by simp [I.ls], by simp [I.lr], fun j e h => I.f j e (key (by decide) h), fun j e h => I.o j e (key (by decide) h), fun j h => I.p j (key (by decide) h), fun j e h => I.s j e (key (by decide) h), fun j k a b c h1 h2 => I.ap j k a b c (key (by decide) h1) (key (by decide) h2), I.al, I.pm, fun j a dd d h => I.x j a dd d (key (by simp) h)⟩,
    S.gr, S.sub, fun j e a h => S.ow j e a (key (by decide) h), S.m0, S.bs⟩
end
section
variable {X : Cx} {E : XK} {r r' ra rb rc : Rm} {Γl Γ Γ1 Γ' : List Md} {pos : Pos} {k : Nat} {e a b c : Expr} {te ta tb tc ti : TE} {fe fa fb fc fk : Ed} {st : Stmt} {sts body : List Stmt} {ts us : TS} {fs gs : Fs} {tt : TT} {ft : Et}
theorem SOk.swap {mg : Str → Option Value} {K : PySem.W.Frag} {pot : Option Addr} {M M0 : List Addr} {H H0 B : Hp} {Γ : List Md} {σ : L2.St} {ρ : Rho} {d : D} {i j : Nat} {q : Addr} (S : SOk mg K (Γ.set j .u) pot M0 H0 B M σ H ρ) (hij : i ≠ j) (hi : Γ[i]? = some .o) (hj : Γ[j]? = some .o) (er : ρ[i]? = some (some d)) (ej : ρ[j]? = some (some d)) (e1 : σ[i]? = some (some (.ref q))) (e2 : σ[j]? = some (some (.ref q))) :
    SOk mg K (Γ.set i .u) pot M0 H0 B M σ H ρ := by
  have hi' : (Γ.set j .u)[i]? = some .o := by rw [List.getElem?_set_ne hij.symm]; exact hi
  obtain ⟨q', e3, m, ow⟩ := S.env.o i d hi' er
  rw [e1] at e3
  cases e3
  have S1 := S.forget i
  have hd1 : Held mg K .o ((Γ.set j .u).set i .u) pot H0 M σ H ρ (.ref q) d := ⟨q, rfl, m, ow, S.ow i d q hi' er e1, fun l e g1 g2 g3 => by
    rcases set_at g1 with ⟨_, z, _⟩ | ⟨n, g1⟩
    · cases z
    · exact n (S.env.ap i l q d e hi' g1 er g2 e1 g3)⟩
  have hjl : j < ((Γ.set j .u).set i .u).length := by
    simp only [List.length_set]
    exact (List.getElem?_eq_some_iff.mp hj).1
  have S2 := S1.put (r := .o) (i := j) hjl hd1
  have eΓ : (((Γ.set j .u).set i .u).set j Rm.o.md) = Γ.set i .u := by
    rw [List.set_comm _ _ hij.symm, List.set_set, List.set_comm _ _ hij]
    congr 1
    exact set_same hj
  have eσ : σ.set j (some (.ref q)) = σ := by
    apply List.ext_getElem?
    intro l
    by_cases e : j = l
    · subst e
      rw [List.getElem?_set_self (List.getElem?_eq_some_iff.mp e2).1, e2]
    · rw [List.getElem?_set_ne e]
  have eρ : ρ.set j (some d) = ρ := by
    apply List.ext_getElem?
    intro l
    by_cases e : j = l
    · subst e
      rw [List.getElem?_set_self (List.getElem?_eq_some_iff.mp ej).1, ej]
    · rw [List.getElem?_set_ne e]
  rw [eΓ, eσ, eρ] at S2
  exact S2
end
section
variable {X : Cx} {E : XK} {Γ : List Md} {pos : Pos} {k j : Nat} {a dx : Addr} {C p g : Addr} {fs : List (Str × V)} {f : Str} {fd : FuncData} {ps : List Str} {sp : Sp} {e : Expr} {ta : TE} {fa : Ed} {c x qual : Str} {st : Stmt} {r : Rm} {m : Fd}
theorem getpropG_ok {pins : List (Addr × Obj)} {σ : L2.St} {H : Hp} {s : Shared} {Q : VK} {b : Bool} {E' : Value → Shared → Prop} (I : Inv X pins σ H s) (ea : H a = some (.ins C dx fs)) (c : Cls X.K C) (hp : PropOf X.K C f p g)
    (F : FnG X.prog X.w X.K X.mg X.base j g fd ps sp) (hr : Room (j + 1) X.A) (gd : X.A.guards = some []) (hb : ∀ s, BindsTo s fd ⟨[.ref a], []⟩ (ps.zip [.ref a])) (h : sp [.ref a] H Q (fun _ _ _ => False)) :
    wpAny (model X.prog X.w) X.A (getAttr (.ref a) f b) (EP X pins σ Q) E' s := by
  obtain ⟨mA, O, _, _, _, _⟩ := ins_get I.hok ea
  obtain ⟨od, J, _⟩ := O.look
  obtain ⟨rest, hrec⟩ := hp.rec_
  have I1 := I.tok (s.toks + 1)
  have hc : (PySem.W.clsIn X.K C).isSome = true := by
    obtain ⟨cd, hc, _⟩ := PySem.W.any_some c.hd
    rw [hc]
    rfl
  refine PySem.W.get_bind I.kIn J (PySem.W.plainGet_of (c.get f)).1 (PySem.W.findObj_data hc hp.at_ hp.get hp.tak) (PySem.W.plainGet_of (c.get f)).2 (wpAny_call (PySem.W.prop_get (s := { s with toks := s.toks + 1 }) I.kIn hrec ?_))
  refine codeAny_mono (F.run X.A.in1 X.stack { s with toks := s.toks + 1 } H ⟨[.ref a], []⟩ [.ref a] [.ref a] Q _ hr.in1 gd I1.env0.in1 (hb _) (.cons rfl .nil) h) fun r s' hq => ?_
  cases r with
  | error er =>
    obtain ⟨_, _, _, _, _, _, _, _, _, _, _, _, z⟩ := hq
    exact False.elim z
  | ok fl =>
    cases fl with
    | ret u =>
      obtain ⟨v, H', I3, rv, q3⟩ := I1.after hq
      show wpAny _ _ (handedOut u) _ _ _
      rw [PySem.W.handedOut_of (handed_of rv)]
      exact wpAny_pure ⟨v, H', I3, rv, q3⟩
    | next => exact False.elim hq
    | brk => exact False.elim hq
    | cont => exact False.elim hq
/-- a property of a class with what it gives -/
structure DPr (P : Program) (w : World) (K : PySem.W.Frag) (mg : Str → Option Value) (base : Heap) (k : Nat) (c x qual : Str) (st : Stmt) (ps : List Str) (r : Rm) (m : Fd) : Prop where
  ex : ∃ C p f fd, mg c = some (.ref C) ∧ Cls K C ∧ PropOf K C x p f ∧ Fun K x qual st f fd ∧ FnG P w K mg base k f fd ps (SpD mg K [.f] r m)
theorem dpr_of {P : Program} {w : World} {K : PySem.W.Frag} {mg : Str → Option Value} {base : Heap} {N : List Str} {fs : Fs} (Γ Γ' : List Md) (hf : ∃ C p f fd, mg c = some (.ref C) ∧ Cls K C ∧ PropOf K C x p f ∧ Fun K x qual st f fd) (S : FnScope N ps (defScope st)) (hp : [Ak.f].length = ps.length) (hl : Γ.length = N.length) (hk : [Ak.f].length ≤ N.length) (hm : modesOk [.f] Γ = true)
    (hb : ∀ (f : Addr) (cdv : Value) (A : Around) (outer : List Env) (s : Shared) (H : Hp) (E : XK), XOk (cxOf (L2.CX P w) P w K mg base N qual (defScope st) f cdv A outer s H E) E k →
      ∃ ts, DSs (cxOf (L2.CX P w) P w K mg base N qual (defScope st) f cdv A outer s H E) E r Γ Γ Γ' (defBody st) ts fs) :
    DPr P w K mg base (k + 1) c x qual st ps r (runD N.length r fs) := by
  obtain ⟨C, p, f, fd, h0, h1, h2, h3⟩ := hf
  exact ⟨C, p, f, fd, h0, h1, h2, h3, fnD_of Γ Γ' h3 S hp hl hk hm hb⟩
def isCls (c : Str) : D → Bool
  | .ins c' _ _ => decide (c' = c)
  | _ => false
def ePrp (c : Str) (m : Fd) (a : Ed) : Ed := fun ρ π => (a ρ π).bind fun y => if isCls c y.1 = true then safe (m [y.1] y.2) else .stuck
def tPrp (mg : Str → Option Value) (K : PySem.W.Frag) (c : Str) (r : Rm) (m : Fd) (ta : TE) : TE := fun σ H Q => ta σ H fun y H1 => ∃ b C dx fs, y = .ref b ∧ mg c = some (.ref C) ∧ H1 b = some (.ins C dx fs) ∧ SpD mg K [.f] r m [.ref b] H1 Q (fun _ _ _ => False)
theorem de_prop (F : DPr X.prog X.w X.K X.mg X.base j c x qual st ps r m) (o : XOk X E k)
    (hb : ∀ (kV doc pm : Value) (an : Option Addr) (cdv ct : Value) (us : List Value), us.length = ps.length → bindArgs (PySem.W.fnOf x qual (defArgs st) (defBody st) (defScope st) .none kV doc pm an cdv ct) ⟨us, []⟩ = pure (ps.zip us))
    {a' : Expr} (ha : DE X E .f Γ a' ta fa) (hj : j + 1 ≤ k := by decide) (hl : ps.length = 1 := by decide) (hab : attributeBase a' x X.env (eval a' X.env) = eval a' X.env := by rfl) : DE X E r Γ (.Attribute a' x pos) (tPrp X.mg X.K c r m ta) (ePrp c m fa) :=
  ⟨⟨fun pins s σ H Q I h => by
    obtain ⟨C, p, f, fd, h0, h1, h2, h3, h4⟩ := F.ex
    refine attr_of hab (thn (ha.pe.run pins s σ H _ I h) fun u s1 ⟨y, H1, I1, ry, b, C', dx, fs, ey, mC, eb, q⟩ => ?_)
    subst ey
    rw [h0] at mC
    cases mC
    obtain rfl : u = Value.ref b := ry
    refine getpropG_ok I1 eb h1 h2 h4 (o.room.mono hj) o.gd (fun s => ?_) q
    obtain ⟨oc, od, kV, doc, pm, an, cdv, ct, osl, rfl, lk, hcd⟩ := h3.ex
    exact .of_eq (hb kV doc pm an cdv ct [.ref b] (by rw [hl]; rfl))⟩, fun pot M σ H ρ π I p Q h => by
    refine Post.seq (r' := .f) (te := ta σ H) h p (fun Q' hq => ha.sem pot M σ H ρ π I p Q' hq) fun d π1 v H1 _ g1 p1 r1 h1 => ?_
    simp only at h1
    split at h1
    · rename_i hn
      cases d with
      | ins c' ns xs =>
        simp only [isCls, decide_eq_true_eq] at hn
        subst hn
        obtain ⟨b, C, dx, fs, rfl, mC, hb, rfl, rr⟩ := rb_ins (.inl r1 : Rb X.mg X.K pot M H1 v (.ins c' ns xs))
        refine ⟨b, C, dx, fs, rfl, mC, hb, rfl, pot, M, [_], π1, .cons (show Rp X.mg X.K (less H1 M) (.ref b) _ from r1) .nil, (I.grow g1 p1).al, I.pm, p1, ?_⟩
        cases em : m [.ins c' (fs.map (·.1)) xs] π1 with
        | ok z =>
          rw [em] at h1
          exact h1
        | err c ns xs π' =>
          rw [em] at h1
          exact h1.elim
        | stuck =>
          rw [em] at h1
          exact h1.elim
      | _ => cases hn
    · exact h1.elim⟩
end
end DL
set_option maxHeartbeats 2000000
namespace DL
open PySem PySem.Spec PyProof.Rows L2
/-- a default's worth: None or a number -/
def dv1 : D → V
  | .int i => .int i
  | _ => .non
def dOk : D → Bool
  | .int _ => true
  | .non => true
  | _ => false
/-- a def with defaults, as it stands behind the top -/
structure FunDd (K : PySem.W.Frag) (x : Str) (st : Stmt) (dd : List D) (f : Addr) (fd : FuncData) : Prop where
  ex : ∃ (oc : Value) (od : Option Addr) (T : Addr) (kV doc pm : Value) (an : Option Addr) (cdv ct : Value) (osl : Array (Option Value)) (its : List Value),
    fd = PySem.W.fnOf x x (defArgs st) (defBody st) (defScope st) (.ref T) kV doc pm an cdv ct ∧ K.lookup f = some ⟨oc, od, .func fd, osl⟩ ∧ PySem.W.codeIn K cdv x = true ∧ ∃ (o : Obj) (n : Nat), K.lookup T = some o ∧ o.data = .seq its.toArray n ∧ Vals (dd.map dv1) its
  kp : PySem.W.keepIn K (.ref f) = true
theorem fund_mk {K : PySem.W.Frag} {x : Str} {st : Stmt} {dd : List D} {f T : Addr} {oc : Value} {od : Option Addr} {kV doc pm : Value} {an : Option Addr} {cdv ct : Value} {osl : Array (Option Value)} {its : List Value} {ot : Value} {odt : Option Addr} {n : Nat} {slt : Array (Option Value)}
    (l : K.lookup f = some ⟨oc, od, .func (PySem.W.fnOf x x (defArgs st) (defBody st) (defScope st) (.ref T) kV doc pm an cdv ct), osl⟩) (c : PySem.W.codeIn K cdv x = true) (k : PySem.W.keepIn K (.ref f) = true)
    (t : K.lookup T = some ⟨ot, odt, .seq its.toArray n, slt⟩) (v : Vals (dd.map dv1) its) : FunDd K x st dd f (PySem.W.fnOf x x (defArgs st) (defBody st) (defScope st) (.ref T) kV doc pm an cdv ct) :=
  ⟨⟨oc, od, T, kV, doc, pm, an, cdv, ct, osl, its, rfl, l, c, _, n, t, rfl, v⟩, k⟩
structure DFnD (P : Program) (w : World) (K : PySem.W.Frag) (mg : Str → Option Value) (base : Heap) (k : Nat) (x : Str) (st : Stmt) (ps : List Str) (ks : List Ak) (r : Rm) (dd : List D) (m : Fd) : Prop where
  ex : ∃ f fd, mg x = some (.ref f) ∧ FunDd K x st dd f fd ∧ FnG P w K mg base k f fd ps (SpD mg K ks r m)
section
variable {P : Program} {w : World} {K : PySem.W.Frag} {mg : Str → Option Value} {base : Heap} {k : Nat} {x : Str} {st : Stmt} {ps N : List Str} {ks : List Ak} {r : Rm}
theorem dfn_ofD {fs : Fs} {dd : List D} (Γ Γ' : List Md) (hf : ∃ f fd, mg x = some (.ref f) ∧ FunDd K x st dd f fd) (S : FnScope N ps (defScope st)) (hp : ks.length = ps.length) (hl : Γ.length = N.length) (hk : ks.length ≤ N.length) (hm : modesOk ks Γ = true)
    (hr : (r = .f ∨ r = .o) ∨ r = .t)
    (hb : ∀ (f : Addr) (cdv : Value) (A : Around) (outer : List Env) (s : Shared) (H : Hp) (E : XK), XOk (cxOf (L2.CX P w) P w K mg base N x (defScope st) f cdv A outer s H E) E k →
      ∃ ts, DSs (cxOf (L2.CX P w) P w K mg base N x (defScope st) f cdv A outer s H E) E r Γ Γ Γ' (defBody st) ts fs) :
    DFnD P w K mg base (k + 1) x st ps ks r dd (runD N.length r fs) := by
  obtain ⟨f, fd, h1, h2⟩ := hf
  refine ⟨f, fd, h1, h2, ?_⟩
  obtain ⟨oc, od, T, kV, doc, pm, an, cdv, ct, osl, its, rfl, lk, hcd, _⟩ := h2.ex
  refine fn_ofG lk hcd S (fun vs H Q E h => by rw [h.1, hp]) fun A outer s H vs Q E room gd want => ?_
  obtain ⟨_, pot, M, ds, π, ar, al, pm, pt, post⟩ := want
  have o : XOk (cxOf (L2.CX P w) P w K mg base N x (defScope st) f cdv A outer s H E) E k :=
    ⟨room, gd, rfl, passes_call (takes_of rfl rfl rfl rfl) fun _ _ _ _ z => z, passes_of rfl, S.nd⟩
  obtain ⟨ts, B⟩ := hb f cdv A outer s H E o
  refine ⟨ts, B.pss, ?_⟩
  have I := env_start hm hl hk ar al pm
  refine B.sem pot M H (fun _ => none) M _ H _ π _ ⟨I, .refl, fun a h => h, fun i d a h1 h2 h3 => ?_, fun a h => (al a h).nn, fun a u e => by cases e⟩ pt ?_
  · exfalso
    obtain ⟨k', v, q1, _⟩ := ar.at (startD_at h2)
    obtain ⟨m1, _⟩ := Bool.and_eq_true_iff.mp hm
    have m1 := of_decide_eq_true m1
    have hi := (List.getElem?_eq_some_iff.mp q1).1
    have e : (Γ.take ks.length)[i]? = Γ[i]? := List.getElem?_take_of_lt hi
    rw [h1, m1, List.getElem?_map, q1] at e
    cases k' <;> cases e
  · unfold runD at post
    cases ef : fs (startD N.length ds) π with
    | err c ns xs π' =>
      rw [ef] at post
      exact post
    | stuck =>
      rw [ef] at post
      exact post
    | ok y =>
      obtain ⟨y, π1⟩ := y
      rw [ef] at post
      cases y with
      | rt d => exact fun v H' g p q => post v H' g p q
      | nx ρ =>
        simp only [Res.bind_ok] at post
        split at post
        · rename_i hrf
          subst hrf
          exact fun M' σ' H' S' p' => post .non H' S'.gr p' .non
        · exact post.elim
      | bk ρ => exact post.elim
      | ct ρ => exact post.elim
end
section
variable {X : Cx} {E : XK} {Γ : List Md} {r : Rm} {e : Expr} {es : List Expr} {pos p : Pos} {k j : Nat} {ks ks' : List Ak} {tA : TA} {fA : Ea} {x : Str} {st : Stmt} {ps : List Str} {m : Fd} {dd : List D}
def tGoD (mg : Str → Option Value) (K : PySem.W.Frag) (dd : List D) (ks : List Ak) (r : Rm) (m : Fd) (E : XK) (t : TA) : TE := fun σ H Q => t σ H fun vs H1 => SpD mg K ks r m (vs ++ dd.map dv1) H1 Q E
def eGoD (dd : List D) (m : Fd) (a : Ea) : Ed := fun ρ π => (a ρ π).bind fun x => m (x.1 ++ dd) x.2
theorem args_dd {mg : Str → Option Value} {K : PySem.W.Frag} {pot : Option Addr} {M : List Addr} {H : Hp} : ∀ {dd : List D}, dd.all dOk = true → Args mg K pot M H (dd.map fun _ => Ak.f) (dd.map dv1) dd
  | [], _ => .nil
  | d :: dd, h => by
    simp only [List.all_cons, Bool.and_eq_true] at h
    refine .cons ?_ (args_dd h.2)
    cases d <;> simp [dOk] at h
    · exact Rp.non
    · exact Rp.int _
theorem args_app {mg : Str → Option Value} {K : PySem.W.Frag} {pot : Option Addr} {M : List Addr} {H : Hp} : ∀ {ks ks' : List Ak} {vs vs' : List V} {ds ds' : List D}, Args mg K pot M H ks vs ds → Args mg K pot M H ks' vs' ds' → Args mg K pot M H (ks ++ ks') (vs ++ vs') (ds ++ ds')
  | _, _, _, _, _, _, .nil, b => b
  | _, _, _, _, _, _, .cons a as, b => .cons a (args_app as b)
theorem sem_goD (hd : dd.all dOk = true) (hA : SemA X.mg X.K E ks Γ tA fA) : SemE X.mg X.K E r Γ (tGoD X.mg X.K dd (ks ++ dd.map fun _ => Ak.f) r m E tA) (eGoD dd m fA) := fun pot M σ H ρ π I p Q h => by
  refine PostA.seq (ks := ks) (te := tA σ H) h p (fun Q' hq => hA pot M σ H ρ π I p Q' hq) fun ds π1 vs H1 _ g1 p1 r1 h1 => ?_
  have a := args_app r1 (args_dd (mg := X.mg) (K := X.K) (pot := pot) (M := M) (H := H1) hd)
  exact ⟨a.length, pot, M, _, π1, a, (I.grow g1 p1).al, I.pm, p1, h1⟩
/-- f(e, ..): the last ones by their defaults -/
theorem de_callD (n j' : Nat) (F : DFnD X.prog X.w X.K X.mg X.base j x st ps (ks ++ (dd.drop j').map fun _ => Ak.f) r dd m) (o : XOk X E k)
    (hb : ∀ (T : Addr) (kV doc pm : Value) (an : Option Addr) (cdv ct : Value) (us its : List Value), us.length = n → its.length = dd.length →
      ∃ k, bindArgs (PySem.W.fnOf x x (defArgs st) (defBody st) (defScope st) (.ref T) kV doc pm an cdv ct) ⟨us, []⟩ = seqItems? (.ref T) >>= k ∧ k (some its.toArray) = pure (ps.zip (us ++ its.drop j')))
    (hA : DA X E ks Γ (e :: es) tA fA) (hd : (dd.drop j').all dOk = true := by rfl) (hn : n + (dd.drop j').length = ps.length := by rfl) (hj : j ≤ k := by decide) (hg : Gl X x := by rfl) (hdb : (x == ("__debug__" : Str)) = false := by decide) (he : starEach (e :: es) X.env = (false, eval e X.env) :: starEach es X.env := by rfl) (hpl : (backTo pos (starEach es X.env)).any (·.1) = false := by rfl) :
    DE X E r Γ (.Call (.Name x p) (e :: es) [] pos) (tGoD X.mg X.K (dd.drop j') (ks ++ (dd.drop j').map fun _ => Ak.f) r m E tA) (eGoD (dd.drop j') m fA) :=
  ⟨⟨fun pins s σ H Q I h => by
    obtain ⟨f, fd, h1, h2, h3⟩ := F.ex
    refine wpAny_Call_Name_kw (ld_glob I hg h1 ?_ hdb)
    refine PySem.W.callWith_K (h₀ := X.base) I.ok.mod.kin h2.kp (thn (hA.pa.run pos pins s σ H _ I h) fun us s1 ⟨vs, H1, I1, rl, q⟩ => ⟨I1.kIn, ?_⟩) he hpl
    have hl := h3.len _ _ _ _ q
    rw [List.length_append, List.length_map, rl.length] at hl
    have hl' : us.length = n := by omega
    obtain ⟨oc, od, T, kV, doc, pm, an, cdv, ct, osl, its, rfl, lk, hcd, ob, nn, lT, oT, rT⟩ := h2.ex
    have l1 : its.length = dd.length := by rw [← rT.length, List.length_map]
    have bd : BindsTo s1 (PySem.W.fnOf x x (defArgs st) (defBody st) (defScope st) (.ref T) kV doc pm an cdv ct) ⟨us, []⟩ (ps.zip (us ++ its.drop j')) := by
      obtain ⟨kk, e1, e2⟩ := hb T kV doc pm an cdv ct us its hl' l1
      refine BindsTo.of_looks fun M => ?_
      rw [e1]
      exact looks_items I1.kIn lT oT (.of_pure e2)
    have rl' : Vals (vs ++ (dd.drop j').map dv1) (us ++ its.drop j') := by
      rw [List.map_drop]; exact rl.append (rT.drop j')
    refine wpAny_call (codeAny_mono (h3.run X.A X.stack s1 H1 _ (us ++ its.drop j') _ Q E (o.room.mono hj) o.gd I1.env0 bd rl' q) fun res s' z => ?_)
    match res, z with
    | .error e, z => exact o.pass pins σ H1 s1 e s' I1 z
    | .ok (.ret u), z => exact I1.after z⟩, sem_goD hd hA.sem⟩
variable {hm : Fd}
end
end DL
set_option maxHeartbeats 2000000
namespace DL
open PySem PySem.Spec PyProof.Rows L2
def gL (n : Nat) (b : List D → Rho → Option Rho) : D → Rho → Option Rho := fun d ρ => match d with
  | .lst ds => if ds.length = n then b ds ρ else none
  | _ => none
section
variable {X : Cx} {E : XK} {Γ : List Md} {pos : Pos} {k : Nat}
theorem dg_lst {es : List Expr} {is : List Nat} {gs : TGs} {fgs : List D → Rho → Option Rho} {kk : Nat} (hc : X.calm = true) (b : DGs X Γ es is gs fgs)
    (hn : (assignEach es X.env).length = es.length := by rfl) (hst : (assignEach es X.env).findIdx? (·.1) = none := by rfl) : DG X Γ (.Tuple es kk pos) is (gLst X.K es.length gs) (gL es.length fgs) :=
  ⟨pg_lst hc b.pgs hn hst, b.fs, fun pot M σ H ρ v d I r ρ' h Q q => by
    cases d with
    | lst ds =>
      unfold gL at h
      simp only at h
      split at h
      · rename_i hl
        cases r with
        | lst h1 h2 =>
          exact ⟨_, _, rfl, .inl (.inl (less_le _ _ h1)), by rw [h2.length]; exact hl, b.sem pot M σ H ρ _ ds I h2 ρ' h Q q⟩
      · cases h
    | _ => cases h⟩
@[simp] theorem gL_ap (n : Nat) (b : List D → Rho → Option Rho) (ds : List D) (ρ : Rho) : gL n b (.lst ds) ρ = if ds.length = n then b ds ρ else none := rfl
end
end DL
set_option maxHeartbeats 2000000
namespace DL
open PySem PySem.Spec PyProof.Rows L2
section
variable {X : Cx} {E : XK} {k : Nat}
theorem rb_bl' {mg : Str → Option Value} {K : PySem.W.Frag} {pot : Option Addr} {M : List Addr} {H : Hp} {v : V} {b : Bool} (h : Rb mg K pot M H v (.bl b)) : v = .bl b := by
  rcases h with h | ⟨p, e, _, o, h1, h2⟩
  · cases h; rfl
  · cases h2
end
end DL
set_option maxHeartbeats 2000000
namespace DL
open PySem PySem.Spec PyProof.Rows L2 C8
theorem kit_own {K : PySem.W.Frag} {C : Addr} {T : String} {b : Bool} (m : PySem.W.kitMeta T = true) (s : PySem.W.subIn K (.ref C) (.type T) = some b) : PySem.W.kitOne K (.ref C) (.type T) = some b := by
  unfold PySem.W.kitOne
  rw [if_neg (by intro h; cases h)]
  unfold PySem.W.kitCls
  simp only [m, if_true]
  exact s
/-- own classes that are below none of these builtins -/
structure ClsT (K : PySem.W.Frag) (mg : Str → Option Value) (cs : List Str) : Prop where
  ex : ∀ c' ∈ cs, ∃ C', mg c' = some (.ref C') ∧ InsC K C' ∧ ∀ n ∈ tyNames, PySem.W.kitOne K (.ref C') (.type n) = some false
def fIsA (cs : List Str) (ns : List String) (d : D) : Option D := match d with
  | .ins c' _ _ => if c' ∈ cs then some (.bl false) else none
  | _ => fIs ns d
theorem fIsA_ty {cs : List Str} {ns : List String} {d : D} {n : String} (h : tyName d = some n) : fIsA cs ns d = fIs ns d := by
  cases d <;> first | rfl | cases h
theorem kitAny_false {K : PySem.W.Frag} {C : Addr} (h : ∀ n ∈ tyNames, PySem.W.kitOne K (.ref C) (.type n) = some false) : ∀ {bs : List String}, (∀ b ∈ bs, b ∈ tyNames) → PySem.W.kitAny K (.ref C) (bs.map Value.type) = some false
  | [], _ => kitAny_nil
  | b :: bs, hb => kitAny_cons (h b (hb b (by simp))) (fun _ => kitAny_false h fun x hx => hb x (by simp [hx])) fun e => by cases e
section
variable {X : Cx} {E : XK} {Γ : List Md} {ra : Rm} {a : Expr} {ta : TE} {fa : Ed} {pos p : Pos}
theorem de_isiA {x : Str} {T : String} {px : Pos} (cs : List Str) (hC : ClsT X.K X.mg cs) (hm : X.mg "isinstance" = none) (hmT : X.mg x = none) (ha : DE X E ra Γ a ta fa) (hg : Gl X "isinstance" := by rfl) (hgT : Gl X x := by rfl) (hvT : bootBuiltins x = some (.type T) := by decide +kernel) (hT : tyOkB T = true := by decide +kernel) (hTn : T ∈ tyNames := by decide +kernel)
    (hn : x ≠ "__name__" := by decide) (hdb : (x == ("__debug__" : Str)) = false := by decide) (hs : starEach [a, .Name x px] X.env = (false, eval a X.env) :: starEach [.Name x px] X.env := by rfl) (hs2 : starEach [.Name x px] X.env = (false, eval (.Name x px) X.env) :: starEach [] X.env := by rfl)
    (hpl : (backTo pos (starEach [.Name x px] X.env)).any (·.1) = false := by rfl) :
    DE X E .f Γ (.Call (.Name "isinstance" p) [a, .Name x px] [] pos) (tCB (rIsiY X.K) (tCons ta (tCons (tC (.ty T)) tNil))) (eUn (fIsA cs [T]) fa) :=
  ⟨pe_callB call_isiY hg hm (by decide +kernel) (pa_cons ha.pe (pa_cons (pe_bltn hgT hmT hvT rfl hn hdb) pa_nil hs2) hs) (by decide) (by decide) hs hpl, fun pot M σ H ρ π I p Q h => by
    refine Post.seq (r' := ra) (te := ta σ H) h p (fun Q' hq => ha.sem pot M σ H ρ π I p Q' hq) fun d π1 v H1 _ g1 p1 r1 h1 => ?_
    cases et : tyName d with
    | none =>
      cases d with
      | ins c' ns xs =>
        simp only [fIsA] at h1
        split at h1
        · rename_i hin
          rw [ofO_some, Res.bind_ok] at h1
          obtain ⟨y, C1, dx, gs, rfl, m, hy, rfl, rr⟩ := rb_ins r1.toB
          obtain ⟨C', m', ic, k1⟩ := hC.ex c' hin
          rw [m] at m'
          cases m'
          exact ⟨.ref y, .ty T, .ref C1, .type T, _, rfl, .ty T, .inl (.base (.ins hy ic.cl ic.ha ic.hn ic.htk ic.hm)), k1 T hTn, h1 _ H1 .refl p1 (.bl _)⟩
        · rw [ofO_none, Res.bind_stuck] at h1
          exact h1.elim
      | _ => cases et
    | some n =>
      rw [fIsA_ty et] at h1
      simp only [fIs, et, Option.map_some, ofO_some, Res.bind_ok] at h1
      refine ⟨v, .ty T, .type n, .type T, isTyB n T, rfl, .ty T, rb_ty r1.toB et, kit_name et hT, ?_⟩
      have e1 : ([T].any fun b => isTyB n b) = isTyB n T := by simp
      rw [e1] at h1
      exact h1 _ H1 .refl p1 (.bl _)⟩
theorem de_isi2A {x y : Str} {T U : String} {px py pt : Pos} {j : Nat} (cs : List Str) (hC : ClsT X.K X.mg cs) (hm : X.mg "isinstance" = none) (hmT : X.mg x = none) (hmU : X.mg y = none) (ha : DE X E ra Γ a ta fa) (hg : Gl X "isinstance" := by rfl) (hgT : Gl X x := by rfl) (hgU : Gl X y := by rfl) (hvT : bootBuiltins x = some (.type T) := by decide +kernel) (hvU : bootBuiltins y = some (.type U) := by decide +kernel) (hT : [T, U].all tyOkB = true := by decide +kernel) (hTn : ∀ b ∈ [T, U], b ∈ tyNames := by decide +kernel)
    (hn : x ≠ "__name__" := by decide) (hdb : (x == ("__debug__" : Str)) = false := by decide) (hnU : y ≠ "__name__" := by decide) (hdbU : (y == ("__debug__" : Str)) = false := by decide)
    (hs : starEach [a, .Tuple [.Name x px, .Name y py] j pt] X.env = (false, eval a X.env) :: starEach [.Tuple [.Name x px, .Name y py] j pt] X.env := by rfl) (hs2 : starEach [.Tuple [.Name x px, .Name y py] j pt] X.env = (false, eval (.Tuple [.Name x px, .Name y py] j pt) X.env) :: starEach [] X.env := by rfl)
    (hs3 : starEach [.Name x px, .Name y py] X.env = (false, eval (.Name x px) X.env) :: starEach [.Name y py] X.env := by rfl) (hs4 : starEach [.Name y py] X.env = (false, eval (.Name y py) X.env) :: starEach [] X.env := by rfl)
    (hpl : (backTo pos (starEach [.Tuple [.Name x px, .Name y py] j pt] X.env)).any (·.1) = false := by rfl) :
    DE X E .f Γ (.Call (.Name "isinstance" p) [a, .Tuple [.Name x px, .Name y py] j pt] [] pos) (tCB (rIsiTY X.K) (tCons ta (tCons (tTup (tCons (tC (.ty T)) (tCons (tC (.ty U)) tNil))) tNil))) (eUn (fIsA cs [T, U]) fa) :=
  ⟨pe_callB call_isiTY hg hm (by decide +kernel) (pa_cons ha.pe (pa_cons (pe_tup (pa_cons (pe_bltn hgT hmT hvT rfl hn hdb) (pa_cons (pe_bltn hgU hmU hvU rfl hnU hdbU) pa_nil hs4) hs3)) pa_nil hs2) hs) (by decide) (by decide) hs hpl, fun pot M σ H ρ π I p Q h => by
    refine Post.seq (r' := ra) (te := ta σ H) h p (fun Q' hq => ha.sem pot M σ H ρ π I p Q' hq) fun d π1 v H1 _ g1 p1 r1 h1 => ?_
    cases et : tyName d with
    | none =>
      cases d with
      | ins c' ns xs =>
        simp only [fIsA] at h1
        split at h1
        · rename_i hin
          rw [ofO_some, Res.bind_ok] at h1
          refine ⟨by show 2 ≤ sizeLine; rw [sizeLine_eq]; omega, fun l hn => ?_⟩
          obtain ⟨y, C1, dx, gs, rfl, m, hy, rfl, rr⟩ := rb_ins r1.toB
          obtain ⟨C', m', ic, k1⟩ := hC.ex c' hin
          rw [m] at m'
          cases m'
          have hy' : upd H1 l (.tup ([T, U].map V.ty)) y = some (.ins C1 dx gs) := by
            rw [upd_ne (ne_of_none hy hn)]
            exact hy
          exact ⟨.ref y, l, [T, U].map V.ty, .ref C1, [T, U].map Value.type, _, rfl, upd_same, cls_all _, .inl (.base (.ins hy' ic.cl ic.ha ic.hn ic.htk ic.hm)), kitAny_false k1 hTn, h1 _ _ (.new hn) (p1.new hn) (.bl _)⟩
        · rw [ofO_none, Res.bind_stuck] at h1
          exact h1.elim
      | _ => cases et
    | some n =>
      rw [fIsA_ty et] at h1
      simp only [fIs, et, Option.map_some, ofO_some, Res.bind_ok] at h1
      refine ⟨by show 2 ≤ sizeLine; rw [sizeLine_eq]; omega, fun l hn => ?_⟩
      refine ⟨v, l, [T, U].map V.ty, .type n, [T, U].map Value.type, _, rfl, upd_same, cls_all _, ?_, kit_names et hT, h1 _ _ (.new hn) (p1.new hn) (.bl _)⟩
      exact rb_ty (r1.toB.grow I.pm (.new hn)) et⟩
end
@[simp] theorem fIsA_non (cs : List Str) (ns : List String) : fIsA cs ns .non = some (.bl (ns.any fun b => isTyB "NoneType" b)) := rfl
@[simp] theorem fIsA_bl (cs : List Str) (ns : List String) (i : Bool) : fIsA cs ns (.bl i) = some (.bl (ns.any fun b => isTyB "bool" b)) := rfl
@[simp] theorem fIsA_int (cs : List Str) (ns : List String) (i : Int) : fIsA cs ns (.int i) = some (.bl (ns.any fun b => isTyB "int" b)) := rfl
@[simp] theorem fIsA_str (cs : List Str) (ns : List String) (i : Str) : fIsA cs ns (.str i) = some (.bl (ns.any fun b => isTyB "str" b)) := rfl
@[simp] theorem fIsA_lst (cs : List Str) (ns : List String) (i : List D) : fIsA cs ns (.lst i) = some (.bl (ns.any fun b => isTyB "list" b)) := rfl
@[simp] theorem fIsA_tup (cs : List Str) (ns : List String) (i : List D) : fIsA cs ns (.tup i) = some (.bl (ns.any fun b => isTyB "tuple" b)) := rfl
@[simp] theorem fIsA_dic (cs : List Str) (ns : List String) (a : List DKey) (i : List D) : fIsA cs ns (.dic a i) = some (.bl (ns.any fun b => isTyB "dict" b)) := rfl
@[simp] theorem fIsA_ins (cs : List Str) (ns : List String) (c : Str) (a : List Str) (i : List D) : fIsA cs ns (.ins c a i) = if c ∈ cs then some (.bl false) else none := rfl
end DL
set_option maxHeartbeats 2000000
namespace DL
open PySem PySem.Spec PyProof.Rows L2
def fStrA : List D → Option D
  | [.int i] => if i.natAbs.log2 < 1920 then some (.str (Str.ofString (toString i))) else none
  | ds => fStr ds
@[simp] theorem fStrA_lst (xs : List D) : fStrA [.lst xs] = fStr [.lst xs] := rfl
@[simp] theorem fStrA_tup (xs : List D) : fStrA [.tup xs] = fStr [.tup xs] := rfl
end DL
set_option maxHeartbeats 2000000
namespace DL
open PySem PySem.Spec PyProof.Rows L2
end DL
set_option maxHeartbeats 2000000
namespace DL
open PySem PySem.Spec PyProof.Rows L2
def atomD : D → Bool
  | .non | .bl _ | .int _ | .str _ => true
  | _ => false
def eAtom (fe : Ed) : Ed := fun ρ π => match fe ρ π with
  | .ok x => if atomD x.1 = true then .ok x else .stuck
  | _ => .stuck
@[simp] theorem eAtom_ap (fe : Ed) (ρ : Rho) (π : Pot) : eAtom fe ρ π = match fe ρ π with
  | .ok x => if atomD x.1 = true then .ok x else .stuck
  | _ => .stuck := rfl
@[simp] theorem atomD_bl (b : Bool) : atomD (.bl b) = true := rfl
@[simp] theorem atomD_int (b : Int) : atomD (.int b) = true := rfl
@[simp] theorem atomD_str (b : Str) : atomD (.str b) = true := rfl
@[simp] theorem atomD_non : atomD .non = true := rfl
end DL
set_option maxHeartbeats 2000000
namespace DL
open PySem PySem.Spec PyProof.Rows L2
section
variable {mg : Str → Option Value} {K : PySem.W.Frag} {pot : Option Addr} {M : List Addr} {H H1 H' : Hp} {v : V} {d : D} {Γ : List Md} {σ : L2.St} {ρ : Rho} {π : Pot} {E : XK}
def canI (mg : Str → Option Value) (K : PySem.W.Frag) (w : Bool) (E : XK) (Γ : List Md) (fi : Ei) : TI := fun σ H R => ∃ pot M ρ π, EnvOk mg K Γ pot M σ H ρ ∧ PotAt pot H π ∧ PostI mg K w pot M H (fi ρ π) R E
theorem DI.can {w : Bool} {X : Cx} {tg iter : Expr} {wi : TI} {fi : Ei} (h : DI w X E Γ tg iter wi fi) : DI w X E Γ tg iter (canI X.mg X.K w E Γ fi) fi :=
  ⟨⟨fun pins s σ H R I q => by
    obtain ⟨pot, M, ρ, π, h1, h2, h3⟩ := q
    exact h.pi.run pins s σ H R I (h.sem pot M σ H ρ π h1 h2 R h3)⟩, fun pot M σ H ρ π I p Q q => ⟨pot, M, ρ, π, I, p, q⟩⟩
end
end DL
set_option maxHeartbeats 2000000
namespace DL
open PySem PySem.Spec PyProof.Rows L2
section
variable {prog : Program} {w : World} {A : Around} {E : Value → Shared → Prop} {s : Shared} {K : PySem.W.Frag} {x C L f : Addr} {h₀ : Heap} {m : Str → Option Value} {ox : Obj} {od : Option Obj} {name : Str} {b tb : Value}
theorem ifBound_KB {M : Model} {id : String} {args : List Value} {Q : Option Value → Shared → Prop} (X : K.In s.heap) (I : PySem.W.InstAt s.heap x ox C od) (hs : PySem.W.findIn K (.ref C) name = some (some (.builtin id))) (S : ∀ self, bindSpecial (.builtin id) self = pure (.builtin id, [self]))
    (h : wpAny M A (call (.builtin id) (.ref x :: args)) (fun v => Q (some v)) E s) : wpAny M A (callSpecialIfBound? (.ref x) name args) Q E s := by
  simp only [callSpecialIfBound?, bindSpecialIfBound?]
  refine wpAny_holding (wpAny_bind (wpAny_bind (wpAny_bind (I.type.here ((PySem.W.looks_findIn X hs).here ?_)))))
  simp only [S]
  refine wpAny_bind (wpAny_askSetting (wpAny_ite ?_))
  have fin : wpAny M A (call (.builtin id) ([.ref x] ++ args) >>= fun v => pure (some v)) Q E s := wpAny_bind (wpAny_mono h (fun v s' h' => wpAny_pure h') fun _ _ h' => h')
  split
  · exact wpAny_bind (wpAny_pure (wpAny_pure (by exact fin)))
  · exact wpAny_tryCatch (wpAny_bind (wpAny_pure (wpAny_pure (by exact fin))))
theorem check_slot_K {M : Model} {id owner n : String} {rest : List Value} {Q : Unit → Shared → Prop} (hk : builtinKind id = some .slot) (hs : splitId id = some (owner, n))
    (ha : argsOk id ⟨.ref x :: rest, []⟩) (X : K.In s.heap) (I : PySem.W.InstAt s.heap x ox C od) (hsub : PySem.W.subIn K (.ref C) (.type owner) = some true) (hq : Q () s) :
    wpAny M A (checkBuiltinCall id ⟨.ref x :: rest, []⟩) Q E s := by
  simp only [checkBuiltinCall, hk, hs]
  refine wpAny_bind ?_
  unfold isInstance
  refine wpAny_bind (I.type.here ?_)
  refine (PySem.W.looks_subIn X hsub).here ?_
  simp only [Bool.not_true, Bool.false_eq_true, if_false]
  refine wpAny_bind (wpAny_pure ?_)
  cases hsig : Manifest.signature? id with
  | none => exact wpAny_pure hq
  | some sig =>
    simp only [argsOk, hsig] at ha
    have h2 : Bind.checkArgs id sig ⟨.ref x :: rest, []⟩ = pure () := ha
    show wpAny M A (Bind.checkArgs id sig ⟨.ref x :: rest, []⟩) Q E _
    rw [h2]; exact wpAny_pure hq
theorem objNe_K (X : K.In s.heap) (I : PySem.W.InstAt s.heap x ox C od) (he : PySem.W.findIn K (.ref C) "__eq__" = some (some (.ref f))) (hf : PySem.W.isFn K (.ref f) = true) (hu : A.units < cLine) {Q : Fin → Shared → Prop}
    (hcall : wpAny (model prog w) A (call (.ref f) [.ref x, b]) (fun v s' => ∃ t, v = .bool t ∧ Q (.done (.ret (.bool (!t)))) s') E s) :
    wpAny (model prog w) A (Builtin.«object.__ne__» ⟨[.ref x, b], []⟩) Q E s := by
  unfold Builtin.«object.__ne__»
  repeat (first
    | with_reducible refine wpAny_cRoomFor hu ?_
    | (refine wpAny_bind (m := callSpecialIfBound? (.ref x) (Str.ofString "__eq__") [b])
        (PySem.W.ifBound_K X I he hf (wpAny_mono hcall (fun r s' hr => by
          obtain ⟨b, rfl, hq⟩ := hr
          repeat (first | exact hq | exact wpAny_pure hq | exact wpAny_truthy_bool hq | (refine wpAny_bind (m := truthy (.bool _)) (wpAny_truthy_bool ?_)) | wp_step)) fun _ _ e => e)))
    | wp_step)
theorem tryNe_K (X : K.In s.heap) (I : PySem.W.InstAt s.heap x ox C od) (he : PySem.W.findIn K (.ref C) "__eq__" = some (some (.ref f))) (hf : PySem.W.isFn K (.ref f) = true)
    (hs : PySem.W.findIn K (.ref C) "__ne__" = some (some (.builtin "object.__ne__"))) (hsub : PySem.W.subIn K (.ref C) (.type "object") = some true) (hu : A.units + 1 < cLine) {Q : Option Value → Shared → Prop}
    (hcall : wpAny (model prog w) A.in1 (call (.ref f) [.ref x, b]) (fun v s' => ∃ t, v = .bool t ∧ Q (some (.bool (!t))) s') E s) :
    wpAny (model prog w) A (tryCompare (.ref x) "__ne__" b) Q E s := by
  unfold tryCompare
  refine wpAny_bind (ifBound_KB X I hs PySem.F.cmp_object.ne.bind (wpAny_call (codeAny_call_builtin PySem.F.cmp_object.ne.plain PySem.F.cmpEntry_ne
    (check_slot_K PySem.F.cmpKind_ne PySem.F.cmpSplit_ne (PySem.F.cmpArgs_ne _ _) X I hsub
      (objNe_K (A := A.in1) X I he hf hu (wpAny_mono hcall (fun v s' hv => ?_) fun _ _ e => e))))))
  obtain ⟨t, rfl, hq⟩ := hv
  first | exact ⟨t, rfl, wpAny_pure hq⟩ | exact ⟨t, rfl, wpAny_pure (wpAny_pure hq)⟩ | exact ⟨t, rfl, hq⟩
theorem ne_K {Q : Value → Shared → Prop} (hu : A.units + 1 < cLine) (F : Fr h₀ L s.heap m) (X₀ : K.In h₀) (I : PySem.W.InstAt s.heap x ox C od) (hb : PySem.W.Looks (model prog w) s.heap (typeOf b) tb) (hn : PySem.W.notFirst K C tb = true)
    (he : PySem.W.findIn K (.ref C) "__eq__" = some (some (.ref f))) (hf : PySem.W.isFn K (.ref f) = true)
    (hs : PySem.W.findIn K (.ref C) "__ne__" = some (some (.builtin "object.__ne__"))) (hsub : PySem.W.subIn K (.ref C) (.type "object") = some true)
    (h : wpAny (model prog w) A.in1 (call (.ref f) [.ref x, b]) (fun v s' => ∃ t, v = .bool t ∧ Q (.bool (!t)) s') E s) : wpAny (model prog w) A (richCompare .NotEq (.ref x) b) Q E s := by
  have X := X₀.keeps F.keep
  have one : wpAny (model prog w) A (tryCompare (.ref x) (cmpInfo .NotEq).2.1 b) (fun r s' => ∃ v, r = some v ∧ Q v s') E s :=
    tryNe_K X I he hf hs hsub hu (wpAny_mono h (fun v s' ⟨t, e, q⟩ => ⟨t, e, _, rfl, q⟩) fun _ _ e => e)
  unfold richCompare
  simp only [oneThing_ref]
  refine wpAny_holding (wpAny_bind (wpAny_cRoomFor (Nat.lt_of_succ_lt hu) ?_))
  refine wpAny_bind (I.type.here (wpAny_bind (hb.here ?_)))
  split
  · rename_i q
    have e : PySem.W.subIn K tb (.ref C) = some false := by
      rcases Bool.or_eq_true_iff.mp hn with e | e
      · rw [beq_iff_eq.mp e] at q; simp at q
      · exact beq_iff_eq.mp e
    refine wpAny_bind ((PySem.W.looks_subIn X e).here ?_)
    simp only [Bool.false_eq_true, if_false]
    refine wpAny_bind (wpAny_mono one (fun r s' z => ?_) fun _ _ e => e)
    obtain ⟨v, rfl, hq⟩ := z
    exact wpAny_pure hq
  · refine wpAny_bind (wpAny_pure ?_)
    simp only [Bool.false_eq_true, if_false]
    refine wpAny_bind (wpAny_mono one (fun r s' z => ?_) fun _ _ e => e)
    obtain ⟨v, rfl, hq⟩ := z
    exact wpAny_pure hq
end
/-- an own object of a class -/
def isInO (c : Str) : D → Bool
  | .ins c' _ _ => decide (c' = c)
  | _ => false
def cmpO (neg : Bool) (g : D → D → Option D) : List (Str × Fd) → D → D → Pot → Res (D × Pot)
  | [], d, e, π => (ofO (g d e)).bind fun z => .ok (z, π)
  | (c, m) :: cs, d, e, π => if (isInO c d && isInO c e) = true then (m [d, e] π).bind fun z => match z.1 with
    | .bl t => .ok (.bl (if neg then !t else t), z.2)
    | _ => .stuck else cmpO neg g cs d e π
def eCmpO (neg : Bool) (g : D → D → Option D) (cs : List (Str × Fd)) (a b : Ed) : Ed := fun ρ π => (a ρ π).bind fun x => (b ρ x.2).bind fun y => cmpO neg g cs x.1 y.1 y.2
def rOwn (mg : Str → Option Value) (K : PySem.W.Frag) (E : XK) (neg : Bool) (c : Str) (m : Fd) : R2 := fun x y H Q =>
  ∃ C a b da db fa fb, x = .ref a ∧ y = .ref b ∧ mg c = some (.ref C) ∧ H a = some (.ins C da fa) ∧ H b = some (.ins C db fb) ∧ SpD mg K [.f, .f] .f m [x, y] H (fun v H' => ∃ t, v = .bl t ∧ Q (.bl (if neg then !t else t)) H') E
/-- what a class with an own __eq__ alone has -/
structure EqC (K : PySem.W.Frag) (mg : Str → Option Value) (c : Str) : Prop where
  ex : ∃ C, mg c = some (.ref C) ∧ PySem.W.findIn K (.ref C) "__ne__" = some (some (.builtin "object.__ne__")) ∧ PySem.W.subIn K (.ref C) (.type "object") = some true
def cmpN (neg : Bool) : CmpOp := if neg then .NotEq else .Eq
section
variable {X : Cx} {E : XK} {Γ : List Md} {pos : Pos} {k j : Nat} {a b : Expr} {ta tb : TE} {fa fb : Ed} {c qual : Str} {st : Stmt} {ps : List Str} {m : Fd}
theorem op_own {neg : Bool} (F : DMe X.prog X.w X.K X.mg X.base j c "__eq__" qual st ps [.f] .f m) (q : EqC X.K X.mg c) (o : XOk X E k)
    (hb : ∀ (kV doc pm : Value) (an : Option Addr) (cdv ct : Value) (us : List Value), us.length = ps.length → bindArgs (PySem.W.fnOf "__eq__" qual (defArgs st) (defBody st) (defScope st) .none kV doc pm an cdv ct) ⟨us, []⟩ = pure (ps.zip us))
    (hj : j + 1 ≤ k := by decide) : OpR X (compareOp (cmpN neg)) (rOwn X.mg X.K E neg c m) := by
  intro pins s σ H x y v u Q I rx ry hq
  obtain ⟨C, a, b, da, db, fa, fb, rfl, rfl, mC, ha, hb', hsp⟩ := hq
  obtain ⟨C', f, fd, h0, h1, h2, h3, h4⟩ := F.ex
  obtain ⟨C'', e0, hne, hsub⟩ := q.ex
  rw [mC] at h0 e0
  cases h0
  cases e0
  cases rx
  cases ry
  obtain ⟨mA, J, _⟩ := ins_get I.hok ha
  obtain ⟨mB, J', _⟩ := ins_get I.hok hb'
  obtain ⟨od, J, _⟩ := J.look
  obtain ⟨od', J', _⟩ := J'.look
  obtain ⟨mm, hF⟩ := I.fr
  have hn : PySem.W.notFirst X.K C (.ref C) = true := by simp [PySem.W.notFirst]
  have hl : [Value.ref a, Value.ref b].length = ps.length := by
    have e := h4.len _ _ _ _ hsp
    simpa using e
  have bd : BindsTo s fd ⟨[.ref a, .ref b], ([] : List Str).zip ([] : List Value)⟩ (ps.zip ([.ref a, .ref b] ++ [])) := by
    obtain ⟨oc, od, kV, doc, pm, an, cdv, ct, osl, rfl, lk, hcd⟩ := h3.ex
    rw [List.append_nil]
    exact .of_eq (hb kV doc pm an cdv ct _ hl)
  have r2 : Vals [V.ref a, V.ref b] ([Value.ref a, Value.ref b] ++ []) := .cons rfl (.cons rfl .nil)
  cases neg with
  | false =>
    show wpAny _ X.A (richCompare .Eq (.ref a) (.ref b)) _ _ _
    refine PySem.W.cmp_K (op := .Eq) (tb := .ref C) o.u0 hF I.ok.mod.kin J J'.type hn h2.at_ h2.fn ?_
    refine wpAny_mono (run_go (args := ⟨[.ref a, .ref b], []⟩) (kn := []) (ws := []) h4 o (Nat.le_of_succ_le hj) bd I r2 hsp) (fun w s' z => ?_) fun _ _ z => z
    obtain ⟨z, H', I', rz, t, rfl, ez⟩ := z
    cases rz
    exact ⟨.bl t, H', I', rfl, ez⟩
  | true =>
    show wpAny _ X.A (richCompare .NotEq (.ref a) (.ref b)) _ _ _
    refine ne_K (tb := .ref C) o.u1 hF I.ok.mod.kin J J'.type hn h2.at_ h2.fn hne hsub ?_
    have e0 : Env0 X.prog X.w X.K X.mg X.base X.A.in1 X.stack s H := by
      have e := I.env0
      exact ⟨e.frames, e.mod, e.bs, e.bsz, e.funs, e.frf, e.hok, e.bare⟩
    refine wpAny_call (codeAny_mono (h4.run X.A.in1 X.stack s H _ _ _ _ E ((o.room.mono hj).in1) o.gd e0 bd r2 hsp) fun res s' z => ?_)
    match res, z with
    | .error e, z => exact o.pass pins σ H s e s' I z
    | .ok (.ret w), z =>
      obtain ⟨z, H', I', rz, t, rfl, ez⟩ := I.after z
      cases rz
      exact ⟨t, rfl, .bl (!t), H', I', rfl, ez⟩
end
@[simp] theorem eCmpO_ap (neg : Bool) (g : D → D → Option D) (cs : List (Str × Fd)) (a b : Ed) (ρ : Rho) (π : Pot) : eCmpO neg g cs a b ρ π = (a ρ π).bind fun x => (b ρ x.2).bind fun y => cmpO neg g cs x.1 y.1 y.2 := rfl
end DL
set_option maxHeartbeats 2000000
namespace DL
open PySem PySem.Spec PyProof.Rows L2
def tupZ (ns : List Int) : D := .tup (ns.map D.int)
def asTs : List D → Option (List (List Int))
  | [] => some []
  | .tup xs :: r => (asInts xs).bind fun ns => (asTs r).map (ns :: ·)
  | _ => none
theorem asTs_eq : ∀ {ds : List D} {L : List (List Int)}, asTs ds = some L → ds = L.map tupZ
  | [], L, h => by cases h; rfl
  | d :: r, L, h => by
    cases d with
    | tup xs =>
      simp only [asTs, Option.bind_eq_some_iff, Option.map_eq_some_iff] at h
      obtain ⟨ns, h1, L', h2, rfl⟩ := h
      rw [List.map_cons, ← asTs_eq h2, tupZ, ← asInts_eq h1]
    | _ => cases h
def insT (x : List Int) : List (List Int) → List (List Int)
  | [] => [x]
  | y :: r => if TS.code 1024 x ≤ TS.code 1024 y then x :: y :: r else y :: insT x r
def sortT : List (List Int) → List (List Int)
  | [] => []
  | x :: r => insT x (sortT r)
theorem insT_perm (x : List Int) : ∀ L, (insT x L).Perm (x :: L)
  | [] => .refl _
  | y :: r => by
    unfold insT
    split
    · exact .refl _
    · exact ((insT_perm x r).cons y).trans (.swap x y r)
theorem sortT_perm : ∀ L, (sortT L).Perm L
  | [] => .refl _
  | x :: r => (insT_perm x _).trans ((sortT_perm r).cons x)
def leT (x y : List Int) : Prop := TS.code 1024 x ≤ TS.code 1024 y
theorem insT_sorted (x : List Int) : ∀ L, L.Pairwise leT → (insT x L).Pairwise leT
  | [], _ => List.pairwise_singleton ..
  | y :: r, h => by
    rw [List.pairwise_cons] at h
    unfold insT
    split
    · rename_i q
      rw [List.pairwise_cons, List.pairwise_cons]
      refine ⟨fun z hz => ?_, h⟩
      rcases List.mem_cons.mp hz with rfl | hz
      · exact q
      · exact Int.le_trans q (h.1 z hz)
    · rename_i q
      rw [List.pairwise_cons]
      refine ⟨fun z hz => ?_, insT_sorted x r h.2⟩
      rcases List.mem_cons.mp ((insT_perm x r).mem_iff.mp hz) with rfl | hz
      · exact Int.le_of_lt (Int.not_le.mp q)
      · exact h.1 z hz
theorem sortT_sorted : ∀ L, (sortT L).Pairwise leT
  | [] => .nil
  | x :: r => insT_sorted x _ (sortT_sorted r)
theorem code_inj {B : Int} : ∀ {ns ms : List Int}, ns.length = ms.length → TS.Bd B ns → TS.Bd B ms → TS.code B ns = TS.code B ms → ns = ms
  | [], [], _, _, _, _ => rfl
  | x :: ns, y :: ms, hl, h1, h2, h => by
    have hl' : ns.length = ms.length := by simpa using hl
    have e : x = y := by
      apply Classical.byContradiction
      intro hn
      rcases Int.lt_or_gt_of_ne hn with q | q
      · have := TS.code_lt hl' h1.tail h2.tail q; omega
      · have := TS.code_lt hl'.symm h2.tail h1.tail q; omega
    subst e
    have : TS.code B ns = TS.code B ms := by
      have h' : x * B ^ ns.length + TS.code B ns = x * B ^ ms.length + TS.code B ms := h
      rw [hl'] at h'
      omega
    rw [code_inj hl' h1.tail h2.tail this]
def fitT (d : Nat) (ns : List Int) : Bool := decide (ns.length = d) && ns.all fun n => decide (0 ≤ n) && decide (n < 1024)
theorem fitT_bd {d : Nat} {ns : List Int} (h : fitT d ns = true) : ns.length = d ∧ TS.Bd 1024 ns := by
  unfold fitT at h
  simp only [Bool.and_eq_true, decide_eq_true_eq, List.all_eq_true] at h
  exact ⟨h.1, fun m hm => h.2 m hm⟩
theorem sorted_T {d : Nat} : ∀ {L Z : List (List Int)}, L.Perm Z → L.Pairwise leT → Z.Pairwise leT → (∀ x ∈ Z, fitT d x = true) → L = Z
  | [], Z, hp, _, _, _ => (List.nil_perm.mp hp).symm
  | x :: L, [], hp, _, _, _ => absurd hp (by simp)
  | x :: L, z :: Z, hp, h1, h2, hb => by
    rw [List.pairwise_cons] at h1 h2
    have hx : x ∈ z :: Z := hp.mem_iff.mp (List.mem_cons_self ..)
    have hz : z ∈ x :: L := hp.mem_iff.mpr (List.mem_cons_self ..)
    have a : leT z x := by
      rcases List.mem_cons.mp hx with rfl | m
      · exact Int.le_refl _
      · exact h2.1 x m
    have b : leT x z := by
      rcases List.mem_cons.mp hz with rfl | m
      · exact Int.le_refl _
      · exact h1.1 z m
    obtain ⟨l1, d1⟩ := fitT_bd (hb x hx)
    obtain ⟨l2, d2⟩ := fitT_bd (hb z (List.mem_cons_self ..))
    have e : x = z := code_inj (l1.trans l2.symm) d1 d2 (Int.le_antisymm b a)
    subst e
    rw [sorted_T (List.Perm.cons_inv hp) h1.2 h2.2 fun y hy => hb y (List.mem_cons_of_mem _ hy)]
def fSortA : List D → Option D
  | [.lst xs] => match asInts xs with
    | some ns => some (.lst ((sortI ns).map D.int))
    | none => match asTs xs with
      | some L => if L.length < 64 then (if L.all (fitT 2) = true then some (.lst ((sortT L).map tupZ)) else if L.all (fitT 3) = true then some (.lst ((sortT L).map tupZ)) else none) else none
      | none => none
  | [.tup xs] => (asInts xs).map fun ns => .lst ((sortI ns).map D.int)
  | _ => none
section
open SrtO
/-- sorted of a tuple -/
theorem sorted_tup {prog : Program} {w : World} {A : Around} {E : Value → Shared → Prop} {s : Shared} {l : Addr} {vs : List Value} {ltv : Value → Value → Bool} {Q : Value → Shared → Prop} (O : Swo ltv) (tup : IsTup s.heap l vs.toArray) (few : vs.length ≤ sizeLine)
    (cmp : 2 ≤ vs.length → ∀ (hp : Heap) (a : Addr), SortableO prog w A.in1.in1 { s with heap := hp } a vs ltv)
    (fin : ∀ (out : List Value) (h1 h2 : Heap) (ep : Nat), Srtd ltv out → Stb ltv out vs → (∀ b o, s.heap.get? b = some o → h1.get? b = some o) → (∀ b o, h1.get? b = some o → h2.get? b = some o) → h2.get? h1.objs.size = some (seqObj "list" out.toArray ep) → Q (.ref h1.objs.size) { s with heap := h2 }) :
    wpAny (model prog w) A (call (.builtin "sorted") [.ref l]) Q E s := by
  obtain ⟨ob, at1, cl1, num, dt1⟩ := tup
  refine Calls.call_function_entry kind_sorted plain_sorted entry_sorted (args_sorted1 (.ref l)) ?_
  unfold Builtin.«sorted»
  refine wpAny_bind (wpAny_pure (wpAny_bind (wpAny_collect_seq l (.inr rfl) at1 cl1 dt1 (fun h1 old => ?_) (by simpa using few))))
  have laid : (h1.push (seqObj "list" vs.toArray 0)).get? h1.objs.size = some (seqObj "list" vs.toArray 0) := Heap.get?_push_size _ rfl
  refine wpAny_bind (wpAny_newList ?_ (by simpa using few))
  refine wpAny_bind (wpAny_holding (wpAny_call_entry slot_list_sort ⟨_, laid, rfl⟩ entry_list_sort (list_sort_ord O (n := 0) laid few (fun two => cmp two _ _) fun out srt stb => ⟨_, rfl, ?_⟩) (args_list_sort (.ref h1.objs.size))))
  obtain ⟨ep, there⟩ := PyProof.Rows.sortedHeap_at (out := out.toArray) laid
  refine wpAny_pure ⟨_, rfl, fin out h1 _ ep srt stb old (fun b o e => ?_) there⟩
  have lt := Heap.lt_size e
  rw [PyProof.Rows.sortedHeap_old (fun z => absurd lt (by rw [z]; exact Nat.lt_irrefl _)) (by rw [Heap.size_push]; exact Nat.lt_succ_of_lt lt)]
  exact Heap.get?_push_of_some _ e
def rSortedTp (K : PySem.W.Frag) : List V → Hp → VK → Prop := fun vs H Q => ∃ (a : Addr) (ns : List Int), vs = [V.ref a] ∧ SqT K H a (ns.map V.int) ∧
  ∀ (ns' : List Int) (p : Addr), ns'.Perm ns → ns'.Pairwise (· ≤ ·) → H p = none → Q (.ref p) (upd H p (.lst (ns'.map V.int)))
theorem cr_sortedTp {X : Cx} : CallR X (.builtin "sorted") (rSortedTp X.K) := by
  intro pins s σ H vs us Q I r h
  obtain ⟨a, ns, rfl, hs, q⟩ := h
  obtain ⟨its, rv, hl, hz⟩ := I.tuple hs
  rw [Vals.ref1 r]
  have hi := rv.ints
  refine sorted_tup SrtO.swo_int hl (by rw [← rv.length]; exact hz) (fun h2 h₁ a' => SrtO.ints_sortable hi h2) fun out hp1 hp2 ep h1 h2 old1 old2 at2 => ?_
  obtain ⟨k1, k2, k3⟩ := SrtO.ints_out hi h1 h2
  have hlen : ((out.map SrtO.iv).map V.int).length ≤ sizeLine := by
    rw [List.length_map, k2.length_eq]
    rw [List.length_map] at hz
    exact hz
  have I1 : L2.Inv X pins σ H { s with heap := hp1, toks := s.toks } := I.kept old1
  exact ⟨.ref hp1.objs.size, upd H hp1.objs.size (.lst ((out.map SrtO.iv).map V.int)), I1.laid (t' := s.toks) old2 (Nat.le_refl _) ⟨hlen, out, ep, vals_of_ints k1, at2⟩, rfl, q _ _ k2 k3 I1.fresh⟩
end
section
variable {X : Cx} {mg : Str → Option Value} {K : PySem.W.Frag} {H : Hp} {M : List Addr} {pot : Option Addr}
theorem rpL_perm {H : Hp} {xs ys : List V} (p : ys.Perm xs) : ∀ {ds : List D}, RpL mg K H xs ds → ∃ es, es.Perm ds ∧ RpL mg K H ys es := by
  induction p with
  | nil => intro ds r; exact ⟨ds, .refl _, r⟩
  | cons x _ ih =>
    intro ds r
    cases r with
    | cons a t =>
      obtain ⟨es, h1, h2⟩ := ih t
      exact ⟨_, h1.cons _, .cons a h2⟩
  | swap x y l =>
    intro ds r
    cases r with
    | cons a t => cases t with
      | cons b t => exact ⟨_, .swap _ _ _, .cons b (.cons a t)⟩
  | trans _ _ ih1 ih2 =>
    intro ds r
    obtain ⟨es, h1, h2⟩ := ih2 r
    obtain ⟨fs, h3, h4⟩ := ih1 h2
    exact ⟨fs, h3.trans h1, h4⟩
/-- data that are tuples of ints, as the heap has them -/
theorem rp_tupZ {v : V} {ns : List Int} (r : Rp mg K H v (tupZ ns)) : TupI K H v ns := by
  obtain ⟨p, xs, rfl, h1, h2⟩ := rb_tup (pot := none) (M := []) (H := H) (.inl (r.mono fun a o h => less_some.mpr ⟨by simp, h⟩))
  exact ⟨p, rfl, sqT_mono (H := less H []) less_le (by rw [← h2.iz]; exact h1)⟩
theorem sq_le {a : Addr} {xs : List V} (h : SqT K (less H M) a xs) : SqT K H a xs := sqT_mono less_le h
theorem tupI_le {v : V} {ns : List Int} (h : TupI K (less H M) v ns) : TupI K H v ns := by
  obtain ⟨t, e, h⟩ := h
  exact ⟨t, e, sq_le h⟩
theorem pair_codes : ∀ {ys : List V} {L : List (List Int)}, RpL mg K (less H M) ys (L.map tupZ) → ys.Pairwise (fun x y => ∀ n m, TupI K H x n → TupI K H y m → TS.code 1024 n ≤ TS.code 1024 m) → L.Pairwise leT
  | [], [], _, _ => .nil
  | y :: ys, n :: L, r, h => by
    cases r with
    | cons a t =>
      rw [List.pairwise_cons] at h ⊢
      refine ⟨fun m hm => ?_, pair_codes t h.2⟩
      obtain ⟨i, hi⟩ := List.getElem?_of_mem hm
      obtain ⟨w, e1, e2⟩ := t.get (i := i) (d := tupZ m) (by rw [List.getElem?_map, hi]; rfl)
      exact h.1 w (List.mem_of_getElem? e1) n m (tupI_le (rp_tupZ a)) (tupI_le (rp_tupZ e2))
theorem perm_unmap {es : List D} {L : List (List Int)} (h : es.Perm (L.map tupZ)) : ∃ L' : List (List Int), es = L'.map tupZ ∧ L'.Perm L := by
  have hinj : ∀ es : List D, (∀ e ∈ es, ∃ n, e = tupZ n) → ∃ L' : List (List Int), es = L'.map tupZ := fun es => by
    induction es with
    | nil => intro _; exact ⟨[], rfl⟩
    | cons e es ih =>
      intro he
      obtain ⟨n, rfl⟩ := he e (List.mem_cons_self ..)
      obtain ⟨L', rfl⟩ := ih fun x hx => he x (List.mem_cons_of_mem _ hx)
      exact ⟨n :: L', rfl⟩
  obtain ⟨L', rfl⟩ := hinj es fun e he => by
    obtain ⟨n, _, rfl⟩ := List.mem_map.mp (h.mem_iff.mp he)
    exact ⟨n, rfl⟩
  refine ⟨L', rfl, ?_⟩
  have hi : Function.Injective tupZ := fun a b e => by
    have e' : a.map D.int = b.map D.int := by simpa [tupZ] using e
    exact (List.map_inj_right (fun x y h => by cases h; rfl)).mp e'
  have back : ∀ l : List (List Int), (l.map tupZ).map (fun d => ((match d with | .tup xs => (asInts xs).getD [] | _ => []) : List Int)) = l := fun l => by
    rw [List.map_map]
    conv => rhs; rw [← List.map_id l]
    apply List.map_congr_left
    intro ns _
    have : asInts (ns.map D.int) = some ns := by
      induction ns with
      | nil => rfl
      | cons x ns ih => simp [asInts, ih]
    simp [tupZ, this]
  have := h.map (fun d => ((match d with | .tup xs => (asInts xs).getD [] | _ => []) : List Int))
  rwa [back, back] at this
theorem sortU_ok {d : Nat} {v : V} {L : List (List Int)} (hL : L.length < 64) (hf : L.all (fitT d) = true) (ph : ∀ a, pot = some a → H a ≠ none) (h : Rb mg K pot M H v (.lst (L.map tupZ))) {Q : VK}
    (q : ∀ w H', Same H H' → RpR mg K .o pot M H H' w (.lst ((sortT L).map tupZ)) → Q w H') : rSortU K d 1024 [v] H Q := by
  obtain ⟨p, xs, rfl, h1, r1⟩ := rb_lst h
  have hf' : ∀ x ∈ L, fitT d x = true := List.all_eq_true.mp hf
  refine ⟨p, xs, rfl, .inl (.inl h1), by rw [r1.length, List.length_map]; exact hL, fun x hx => ?_, fun ys c hp hs hn => ?_⟩
  · obtain ⟨i, hi⟩ := List.getElem?_of_mem hx
    obtain ⟨e, e1, e2⟩ := r1.getV hi
    rw [List.getElem?_map, Option.map_eq_some_iff] at e1
    obtain ⟨ns, e3, rfl⟩ := e1
    obtain ⟨l1, l2⟩ := fitT_bd (hf' ns (List.mem_of_getElem? e3))
    exact ⟨ns, tupI_le (rp_tupZ e2), l1, l2⟩
  · obtain ⟨es, p1, r2⟩ := rpL_perm hp r1
    obtain ⟨L', rfl, p2⟩ := perm_unmap p1
    have e : L' = sortT L := sorted_T (d := d) (p2.trans (sortT_perm L).symm) (pair_codes r2 hs) (sortT_sorted L) fun x hx => hf' x ((sortT_perm L).mem_iff.mp hx)
    subst e
    exact q _ _ (same_upd hn) (new_lst ph hn r2)
theorem c_sortA : CallOk X (.builtin "sorted") (fun vs H Q => rSortedI X.K vs H Q ∨ rSortU X.K 2 1024 vs H Q ∨ rSortU X.K 3 1024 vs H Q ∨ rSortedTp X.K vs H Q) [.b] .o fSortA := ⟨cr_sortedI.or ((cr_sortT (by decide)).or ((cr_sortT (by decide)).or cr_sortedTp)), fun pot M H vs ds z al pm ph a hz Q q => by
  obtain ⟨v, d, rfl, rfl, h⟩ := arg1 a
  unfold fSortA at hz
  split at hz
  · rename_i xs e
    cases e
    split at hz
    · rename_i ns en
      cases hz
      have hz' : fSortI [.lst xs] = some (.lst ((sortI ns).map D.int)) := by simp [fSortI, onInts, en]
      exact .inl (c_sortI.2 pot M H _ _ _ al pm ph (.cons h .nil) hz' Q q)
    · split at hz
      · rename_i L eL
        rw [asTs_eq eL] at h
        split at hz
        · rename_i hl
          split at hz
          · rename_i h2
            cases hz
            exact .inr (.inl (sortU_ok hl h2 ph h q))
          · split at hz
            · rename_i h3
              cases hz
              exact .inr (.inr (.inl (sortU_ok hl h3 ph h q)))
            · cases hz
        · cases hz
      · cases hz
  · rename_i xs e
    cases e
    cases en : asInts xs with
    | none => rw [en] at hz; cases hz
    | some ns =>
      rw [en] at hz
      cases hz
      have hx := asInts_eq en
      subst hx
      obtain ⟨ad, ys, rfl, hq, r1⟩ := rb_tup h
      have hy := r1.iz
      subst hy
      have e : DL.iz ns = ns.map D.int := rfl
      exact .inr (.inr (.inr ⟨ad, ns, rfl, sqT_mono less_le hq, fun ns' p hp hs hn => by
        have : ns' = sortI ns := sorted_same (hp.trans (sortI_perm ns).symm) hs (sortI_sorted ns)
        subst this
        exact q _ _ (same_upd hn) (new_lst ph hn (RpL.of_ints _))⟩))
  · cases hz⟩
end
@[simp] theorem fSortA_izT (ns : List Int) : fSortA [.tup (ns.map D.int)] = some (.lst ((sortI ns).map D.int)) := by
  simp [fSortA, asInts_iz]
@[simp] theorem fSortA_iz (ns : List Int) : fSortA [.lst (ns.map D.int)] = some (.lst ((sortI ns).map D.int)) := by
  simp [fSortA, asInts_iz]
end DL
set_option maxHeartbeats 4000000
namespace DL
open PySem PySem.Spec PyProof.Rows L2
def dgetI : List DKey → List D → Int → Option D
  | .inl (.inl j) :: ks, x :: xs, i => if j = i then some x else dgetI ks xs i
  | _ :: ks, _ :: xs, i => dgetI ks xs i
  | _, _, _ => none
def opInK : D → D → Option D
  | .int i, .dic (.inl k :: ks) xs => some (.bl (dgetI (.inl k :: ks) xs i).isSome)
  | _, _ => none
def opNotInK : D → D → Option D
  | .int i, .dic (.inl k :: ks) xs => some (.bl (!(dgetI (.inl k :: ks) xs i).isSome))
  | _, _ => none
def keyV : DKey → D
  | .inl (.inl i) => .int i
  | .inl (.inr x) => .str x
  | .inr _ => .non
def rIxG : R2 := fun x y H Q => ∃ a v, x = .ref a ∧ DGet H a y (some v) ∧ Q v H
section
variable {X : Cx} {E : XK} {Γ : List Md} {r ra rb rc : Rm} {e a b c : Expr} {ta tb te : TE} {fa fb fe : Ed} {pos p p2 : Pos} {k kk : Nat} {es : List Expr} {ks : List Ak} {tA : TA} {fA : Ea}
theorem ix_dg (hu : X.A.units + 1 < cLine) : IxR X rIxG := by
  intro value slice pins s σ H x y v u Q I rx ry h hs
  obtain ⟨p, z, rfl, g, q⟩ := h
  obtain rfl : v = Value.ref p := rx
  exact tail_any (dict_typeIs I g) slot_dict_getitem.lookup (d_getItem hu I g ry fun w' s3 I3 rw' => ⟨z, H, I3, rw', q⟩) hs
end
/-- what may be locked -/
inductive Lkb : HO → Prop
  | k (kvs : List (Key × V)) : Lkb (.dK kvs)
  | t (kvs : List (List Key × V)) : Lkb (.dT kvs)
/-- two heaps that differ in locks alone -/
def Sim (H H' : Hp) : Prop := ∀ a, H a = H' a ∨ ∃ od u, Lkb u ∧ ((H a = some u ∧ H' a = some (.frz od u)) ∨ (H' a = some u ∧ H a = some (.frz od u)))
section
variable {mg : Str → Option Value} {K : PySem.W.Frag} {H H' : Hp}
theorem Sim.less (s : Sim H H') (M : List Addr) : Sim (less H M) (less H' M) := fun a => by
  unfold DL.less
  by_cases h : a ∈ M
  · rw [if_pos h, if_pos h]; exact .inl rfl
  · rw [if_neg h, if_neg h]; exact s a
theorem Sim.same (s : Sim H H') {a : Addr} {o : HO} (h : H a = some o) (n1 : ¬ Lkb o) (n2 : ∀ od u, Lkb u → o ≠ .frz od u) : H' a = some o := by
  rcases s a with e | ⟨od, u, hu, ⟨e, _⟩ | ⟨_, e⟩⟩
  · rw [← e]; exact h
  · rw [h] at e; cases e; exact (n1 hu).elim
  · rw [h] at e; cases e; exact (n2 _ _ hu rfl).elim
theorem Sim.rdD (s : Sim H H') {a : Addr} {u : HO} (hu : Lkb u) (h : Rd H a u) : Rd H' a u := by
  rcases h with h | ⟨o, h⟩
  · rcases s a with e | ⟨od, u', hu', ⟨e, e'⟩ | ⟨_, e⟩⟩
    · exact .inl (by rw [← e]; exact h)
    · rw [h] at e; cases e; exact .inr ⟨od, e'⟩
    · rw [h] at e; cases e; cases hu
  · rcases s a with e | ⟨od, u', hu', ⟨e, e'⟩ | ⟨e', e⟩⟩
    · exact .inr ⟨o, by rw [← e]; exact h⟩
    · rw [h] at e; cases e; cases hu'
    · rw [h] at e; cases e; exact .inl e'
theorem Sim.rd (s : Sim H H') {a : Addr} {u : HO} (h : Rd H a u) (n1 : ¬ Lkb u) (n2 : ∀ od u', Lkb u' → u ≠ .frz od u') : Rd H' a u := by
  rcases h with h | ⟨o, h⟩
  · exact .inl (s.same h n1 n2)
  · refine .inr ⟨o, s.same h (fun e => by cases e) fun od u' hu' e => ?_⟩
    cases e
    exact n1 hu'
theorem Sim.sqL (s : Sim H H') {a : Addr} {xs : List V} (h : SqL K H a xs) : SqL K H' a xs :=
  h.imp (fun h => s.rd h (fun e => by cases e) fun _ _ _ e => by cases e) id
mutual
theorem Rp.sim (s : Sim H H') : ∀ {v : V} {d : D}, Rp mg K H v d → Rp mg K H' v d
  | _, _, .non => .non
  | _, _, .bl b => .bl b
  | _, _, .int i => .int i
  | _, _, .str x => .str x
  | _, _, .lst h r => .lst (s.same h (fun e => by cases e) fun _ _ _ e => by cases e) (RpL.sim s r)
  | _, _, .tup h r => .tup (s.same h (fun e => by cases e) fun _ _ _ e => by cases e) (RpL.sim s r)
  | _, _, .dicK h r => .dicK (s.rdD (.k _) h) (RpL.sim s r)
  | _, _, .dicT h r => .dicT (s.rdD (.t _) h) (RpL.sim s r)
  | _, _, .ins m h r => .ins m (s.same h (fun e => by cases e) fun _ _ _ e => by cases e) (RpL.sim s r)
theorem RpL.sim (s : Sim H H') : ∀ {vs : List V} {ds : List D}, RpL mg K H vs ds → RpL mg K H' vs ds
  | _, _, .nil => .nil
  | _, _, .cons h r => .cons (Rp.sim s h) (RpL.sim s r)
end
theorem HoR.sim {o : HO} {d : D} (s : Sim H H') (h : HoR mg K H o d) : HoR mg K H' o d := by
  cases h with
  | lst r => exact .lst (r.sim s)
  | dicK r => exact .dicK (r.sim s)
  | dicT r => exact .dicT (r.sim s)
  | ins m r => exact .ins m (r.sim s)
end
section
variable {mg : Str → Option Value} {K : PySem.W.Frag} {pot : Option Addr} {M : List Addr} {Γ : List Md} {σ : L2.St} {ρ : Rho} {π : Pot}
theorem sim_lock {H : Hp} {d : Addr} {u : HO} (hu : Lkb u) (h : H d = some u) (od : Obj) : Sim H (upd H d (.frz od u)) := fun a => by
  by_cases e : a = d
  · subst e; exact .inr ⟨od, u, hu, .inl ⟨h, upd_same⟩⟩
  · rw [upd_ne e]; exact .inl rfl
theorem sim_unlock {H : Hp} {d : Addr} {od : Obj} {u : HO} (hu : Lkb u) (h : H d = some (.frz od u)) : Sim H (upd H d u) := fun a => by
  by_cases e : a = d
  · subst e; exact .inr ⟨od, u, hu, .inr ⟨upd_same, h⟩⟩
  · rw [upd_ne e]; exact .inl rfl
theorem EnvOk.sim {H H' : Hp} (s : Sim H H') (hn : ∀ a, H' a = none → H a = none) (hM : ∀ a ∈ M, H' a = H a) (I : EnvOk mg K Γ pot M σ H ρ) : EnvOk mg K Γ pot M σ H' ρ where
  ls := I.ls
  lr := I.lr
  f := fun i d h1 h2 => by
    obtain ⟨v, e, r⟩ := I.f i d h1 h2
    exact ⟨v, e, r.sim (s.less M)⟩
  o := fun i d h1 h2 => by
    obtain ⟨p, e, m, n, o, e2, r⟩ := I.o i d h1 h2
    exact ⟨p, e, m, n, o, by rw [hM p m]; exact e2, r.sim (s.less _)⟩
  p := I.p
  s := fun i d h1 h2 => by
    obtain ⟨p, ns, e1, e2, e3⟩ := I.s i d h1 h2
    exact ⟨p, ns, e1, e2, (s.less M).sqL e3⟩
  ap := I.ap
  al := fun a h => by
    obtain ⟨o, e, n⟩ := I.al a h
    exact .of (by rw [hM a h]; exact e) n
  pm := I.pm
  x := fun i a dd d h1 h2 => by
    obtain ⟨e, fs, xs, c, x1, x2, x3⟩ := I.x i a dd d h1 h2
    refine ⟨e, fs, xs, c, ?_, x2, x3.sim (s.less M)⟩
    rcases (s.less M) dd with q | ⟨od, u, hu, ⟨q1, q2⟩ | ⟨q1, q2⟩⟩
    · rw [← q]; exact x1
    · rw [x1] at q1
      cases q1
      cases hu
    · rw [x1] at q2
      cases q2
end
end DL
set_option maxHeartbeats 4000000
namespace DL
open PySem PySem.Spec PyProof.Rows L2
end DL
set_option maxHeartbeats 4000000
namespace DL
open PySem PySem.Spec PyProof.Rows L2
def tLook (ft : Et) : Et := fun ρ π => match ft ρ π with
  | .ok x => .ok x
  | _ => .stuck
@[simp] theorem tLook_ap (ft : Et) (ρ : Rho) (π : Pot) : tLook ft ρ π = match ft ρ π with
  | .ok x => .ok x
  | _ => .stuck := rfl
end DL
set_option maxHeartbeats 4000000
namespace DL
open PySem PySem.Spec PyProof.Rows L2
end DL
set_option maxHeartbeats 4000000
namespace DL
open PySem PySem.Spec PyProof.Rows L2
def kD : Key → D
  | .inl i => .int i
  | .inr x => .str x
def tkeyL : List D → Option (List Key)
  | [] => some []
  | .int i :: r => (tkeyL r).map (.inl i :: ·)
  | .str x :: r => (tkeyL r).map (.inr x :: ·)
  | _ => none
/-- a tuple as a key -/
def tkey : D → Option (List Key)
  | .tup xs => tkeyL xs
  | _ => none
def isTd : List DKey → Bool
  | .inl _ :: _ => false
  | _ => true
def dgetT : List DKey → List D → List Key → Option D
  | j :: ks, x :: xs, k => if j = .inr k then some x else dgetT ks xs k
  | _, _, _ => none
def replT (k : List Key) (v : D) : List DKey → List D → List D
  | j :: ks, x :: xs => (if j = .inr k then v else x) :: replT k v ks xs
  | _, _ => []
def putT (ks : List DKey) (xs : List D) (k : List Key) (v : D) : List DKey × List D :=
  if ks.any (fun j => decide (j = .inr k)) = true then (ks, replT k v ks xs) else (ks ++ [.inr k], xs ++ [v])
def opIxT : D → D → Option D
  | .dic ks xs, d => if isTd ks = true then (tkey d).bind (dgetT ks xs) else none
  | _, _ => none
def gGet2 : D → D → D → Option D
  | .dic ks xs, d, z => if isTd ks = true then (tkey d).map fun k => (dgetT ks xs k).getD z else none
  | _, _, _ => none
section
variable {mg : Str → Option Value} {K : PySem.W.Frag} {pot : Option Addr} {M : List Addr} {H H' : Hp} {x v : V} {d : D}
theorem tkeyL_at : ∀ {vs : List V} {xs : List D} {k : List Key}, RpL mg K H vs xs → tkeyL xs = some k → vs = k.map kV
  | _, _, k, .nil, e => by cases e; rfl
  | _, _, k, .cons (d := d) h r, e => by
    cases h with
    | int i =>
      simp only [tkeyL, Option.map_eq_some_iff] at e
      obtain ⟨k', e1, rfl⟩ := e
      rw [tkeyL_at r e1]; rfl
    | str y =>
      simp only [tkeyL, Option.map_eq_some_iff] at e
      obtain ⟨k', e1, rfl⟩ := e
      rw [tkeyL_at r e1]; rfl
    | _ => cases e
theorem tkey_at {k : List Key} (h : Rb mg K pot M H v d) (e : tkey d = some k) : ∃ b, v = .ref b ∧ H b = some (.tup (k.map kV)) := by
  cases d with
  | tup xs =>
    obtain ⟨b, vs, rfl, h1, h2⟩ := rb_tupP h
    rw [← tkeyL_at h2 e]
    exact ⟨b, rfl, less_le _ _ h1⟩
  | _ => cases e
theorem rb_dicT {ks : List DKey} {ds : List D} (hk : isTd ks = true) (h : Rb mg K pot M H x (.dic ks ds)) : ∃ p kvs, x = .ref p ∧ Rd H p (.dT kvs) ∧ ks = (kvs.map fun q => (.inr q.1 : DKey)) ∧ RpL mg K (less H M) (kvs.map (·.2)) ds := by
  rcases h with h | ⟨p, e1, _, o, h1, h2⟩
  · cases h with
    | dicK h1 h2 => cases hk
    | dicT h1 h2 => exact ⟨_, _, rfl, rd_mono less_le h1, rfl, h2⟩
  · cases h2 with
    | dicK h2 => cases hk
    | dicT h2 => exact ⟨p, _, e1, .inl h1, rfl, h2.mono (less_sub fun a q => List.mem_cons_of_mem _ q)⟩
theorem dgetT_val {k : List Key} : ∀ {kvs : List (List Key × V)} {ds : List D}, RpL mg K H (kvs.map (·.2)) ds →
    (∀ e, dgetT (kvs.map fun q => (.inr q.1 : DKey)) ds k = some e → ∃ v, valV kvs k = some v ∧ Rp mg K H v e) ∧ (valV kvs k).isSome = (dgetT (kvs.map fun q => (.inr q.1 : DKey)) ds k).isSome
  | [], _, .nil => ⟨fun e h => (by cases h), rfl⟩
  | (j, v) :: kvs, d :: ds, .cons r rs => by
    obtain ⟨h1, h2⟩ := dgetT_val (k := k) (kvs := kvs) (ds := ds) rs
    have e1 : valV ((j, v) :: kvs) k = if j = k then some v else valV kvs k := by
      unfold valV
      rw [List.find?_cons]
      by_cases h : j = k
      · simp [h]
      · simp [h]
    have e2 : dgetT (((j, v) :: kvs).map fun q => (.inr q.1 : DKey)) (d :: ds) k = if j = k then some d else dgetT (kvs.map fun q => (.inr q.1 : DKey)) ds k := by
      show (if (Sum.inr j : DKey) = .inr k then some d else _) = _
      by_cases h : j = k
      · rw [if_pos (by rw [h]), if_pos h]
      · rw [if_neg (fun e => h (Sum.inr.inj e)), if_neg h]
    rw [e1, e2]
    by_cases h : j = k
    · rw [if_pos h, if_pos h]
      exact ⟨fun e q => (by cases q; exact ⟨v, rfl, r⟩), rfl⟩
    · rw [if_neg h, if_neg h]
      exact ⟨h1, h2⟩
theorem any_key {k : List Key} : ∀ {kvs : List (List Key × V)}, ((kvs.map fun q => (.inr q.1 : DKey)).any fun j => decide (j = .inr k)) = kvs.any fun kv => decide (kv.1 = k)
  | [] => rfl
  | (j, v) :: kvs => by
    simp only [List.map_cons, List.any_cons]
    rw [any_key]
    congr 1
    by_cases h : j = k
    · simp [h]
    · simp [h]
theorem repl_at {k : List Key} {w : V} {e : D} (q : Rp mg K H w e) : ∀ {kvs : List (List Key × V)} {ds : List D}, RpL mg K H (kvs.map (·.2)) ds →
    RpL mg K H ((kvs.map fun kv => if kv.1 = k then (kv.1, w) else kv).map (·.2)) (replT k e (kvs.map fun q => (.inr q.1 : DKey)) ds)
  | [], _, .nil => .nil
  | (j, v) :: kvs, d :: ds, .cons r rs => by
    have ih := repl_at q (k := k) rs
    simp only [List.map_cons, replT]
    by_cases h : j = k
    · rw [if_pos h, if_pos (by rw [h])]
      exact .cons q ih
    · rw [if_neg h, if_neg (fun e => h (Sum.inr.inj e))]
      exact .cons r ih
theorem put_at {k : List Key} {w : V} {e : D} (q : Rp mg K H w e) {kvs : List (List Key × V)} {ds : List D} (r : RpL mg K H (kvs.map (·.2)) ds) :
    (putT (kvs.map fun q => (.inr q.1 : DKey)) ds k e).1 = ((putK kvs k w).map fun q => (.inr q.1 : DKey)) ∧ RpL mg K H ((putK kvs k w).map (·.2)) (putT (kvs.map fun q => (.inr q.1 : DKey)) ds k e).2 := by
  unfold putT putK
  rw [any_key]
  by_cases h : (kvs.any fun kv => decide (kv.1 = k)) = true
  · rw [if_pos h, if_pos h]
    refine ⟨?_, repl_at q r⟩
    rw [List.map_map]
    refine List.map_congr_left fun x _ => ?_
    show _ = (Sum.inr (if x.1 = k then (x.1, w) else x).1 : DKey)
    split <;> rfl
  · rw [if_neg h, if_neg h]
    refine ⟨by rw [List.map_append]; rfl, ?_⟩
    rw [List.map_append]
    exact r.append (.cons q .nil)
end
section
variable {X : Cx} {E : XK} {Γ Γl : List Md} {r r' ra rb rc : Rm} {e a b c : Expr} {ta tb tc te ti tv : TE} {fa fb fc fe fk fv : Ed} {pos p p2 : Pos} {k kk : Nat}
theorem sem_ixT : SemOp X.mg X.K rIxG .f opIxT := fun pot M H x y d e z al pm ph rx ry hz Q q => by
  cases d with
  | dic ks xs =>
    simp only [opIxT] at hz
    split at hz
    · rename_i hk
      rw [Option.bind_eq_some_iff] at hz
      obtain ⟨kk, e1, e2⟩ := hz
      obtain ⟨p, kvs, rfl, h1, rfl, r1⟩ := rb_dicT hk rx
      obtain ⟨b, rfl, hb⟩ := tkey_at ry e1
      obtain ⟨v, hv, rv⟩ := (dgetT_val r1).1 _ e2
      exact ⟨p, v, rfl, .inr ⟨kvs, kk, b, h1, rfl, hb, hv.symm⟩, q _ H (Same.refl H) rv⟩
    · cases hz
  | _ => cases hz
/-- d[k], k a tuple -/
theorem de_ixDT (x : XOk X E k) (ha : DE X E ra Γ a ta fa) (hb : DE X E rb Γ b tb fb) (hs : PlainIx b := by intro _ _; rfl) : DE X E .f Γ (.Subscript a b pos) (tOp rIxG ta tb) (eBin opIxT fa fb) :=
  ⟨pe_ix (ix_dg x.u1) ha.pe hb.pe hs, sem_bin sem_ixT ha.sem hb.sem⟩
def isDT : D → Bool
  | .dic ks _ => isTd ks
  | _ => false
def eGet2 (fa fb fc : Ed) : Ed := fun ρ π => (fa ρ π).bind fun x => if isDT x.1 = false then .stuck else (fb ρ x.2).bind fun y => (fc ρ y.2).bind fun z => (ofO (gGet2 x.1 y.1 z.1)).bind fun w => .ok (w, z.2)
/-- d.get(k, z), k a tuple -/
theorem de_get2 {apos : Pos} (x : XOk X E k) (ha : DE X E ra Γ a ta fa) (hb : DE X E .f Γ b tb fb) (hc : DE X E .f Γ c tc fc) (hm : M2 X a "get" apos b c pos := by exact ⟨rfl, rfl, rfl, rfl⟩) :
    DE X E .f Γ (.Call (.Attribute a "get" apos) [b, c] [] pos) (tDGet2 ta tb tc) (eGet2 fa fb fc) :=
  ⟨pe_dget2 x.u1 ha.pe hb.pe hc.pe hm, fun pot M σ H ρ π I p Q h => by
    unfold eGet2 at h
    refine Post.seq (r' := ra) (te := ta σ H) h p (fun Q' hq => ha.sem pot M σ H ρ π I p Q' hq) fun d π1 v H1 _ g1 p1 r1 h1 => ?_
    have I1 := I.grow g1 p1
    cases d with
    | dic ks xs =>
      by_cases hk : isTd ks = true
      · have hk' : ¬ isDT (.dic ks xs) = false := by simp [isDT, hk]
        dsimp only at h1
        rw [if_neg hk'] at h1
        obtain ⟨a0, kvs, rfl, hd, ek, rl⟩ := rb_dicT hk r1.toB
        refine ⟨a0, rfl, .inr ⟨kvs, hd⟩, ?_⟩
        refine Post.seq (r' := .f) (te := tb σ H1) h1 p1 (fun Q' hq => hb.sem pot M σ H1 ρ π1 I1 p1 Q' hq) fun e π2 w H2 _ g2 p2 r2 h2 => ?_
        have I2 := I1.grow g2 p2
        refine Post.seq (r' := .f) (te := tc σ H2) h2 p2 (fun Q' hq => hc.sem pot M σ H2 ρ π2 I2 p2 Q' hq) fun z π3 u H3 _ g3 p3 r3 h3 => ?_
        have I3 := I2.grow g3 p3
        have g23 := g2.trans g3
        cases hz : gGet2 (.dic ks xs) e z with
        | none =>
          rw [hz] at h3
          exact h3.elim
        | some w' =>
          rw [hz] at h3
          simp only [gGet2, hk, if_true, Option.map_eq_some_iff] at hz
          obtain ⟨kk, e1, rfl⟩ := hz
          obtain ⟨p4, kvs', e4, hd', ek', rl'⟩ := rb_dicT hk (r1.toB.grow I1.pm g23)
          cases e4
          obtain ⟨b', rfl, hb'⟩ := tkey_at ((show Rb X.mg X.K pot M H2 w e from .inl r2).grow I1.pm g3) e1
          refine ⟨_, .inr ⟨kvs', kk, b', hd', rfl, hb', rfl⟩, h3 _ H3 .refl p3 ?_⟩
          have hv := dgetT_val (k := kk) rl'
          rw [← ek'] at hv
          cases hg : dgetT ks xs kk with
          | none =>
            rw [hg] at hv
            have : valV kvs' kk = none := by
              cases q : valV kvs' kk with
              | none => rfl
              | some _ => rw [q] at hv; cases hv.2
            rw [this]
            exact r3
          | some d' =>
            obtain ⟨v', q, rv⟩ := hv.1 _ hg
            rw [q]
            exact rv
      · have hk' : isDT (.dic ks xs) = false := by simpa [isDT] using hk
        dsimp only at h1
        rw [if_pos hk'] at h1
        exact h1.elim
    | _ => exact h1.elim⟩
theorem own_atT {pot : Option Addr} {M M0 : List Addr} {H H0 B : Hp} {σ : L2.St} {ρ : Rho} {i : Nat} {ks : List DKey} {ds : List D} (hk : isTd ks = true) (S : SOk X.mg X.K Γ pot M0 H0 B M σ H ρ) (hΓ : Γ[i]? = some .o) (er : ρ[i]? = some (some (.dic ks ds))) :
    ∃ p kvs, σ[i]? = some (some (.ref p)) ∧ pot ≠ some p ∧ H p = some (.dT kvs) ∧ ks = (kvs.map fun q => (.inr q.1 : DKey)) ∧ RpL X.mg X.K (less H M) (kvs.map (·.2)) ds := by
  obtain ⟨p, e1, m, n, oo, h1, h2⟩ := S.env.o i _ hΓ er
  cases h2 with
  | dicK h2 => cases hk
  | dicT h2 => exact ⟨p, _, e1, n, h1, rfl, h2.mono (less_sub fun a q => List.mem_cons_of_mem _ q)⟩
/-- d[k] = v: the value, then the key -/
def sPutT (i : Nat) (fk fv : Ed) : Fs := fun ρ π => match ρ[i]? with
  | some (some (.dic ks xs)) => if isTd ks = true ∧ xs.length < sizeLine then (fv ρ π).bind fun v => (fk ρ v.2).bind fun y => (ofO (tkey y.1)).bind fun k => .ok (.nx (ρ.set i (some (.dic (putT ks xs k v.1).1 (putT ks xs k v.1).2))), y.2) else .stuck
  | _ => .stuck
theorem ds_putT (i : Nat) {x : Str} {kx : Expr} {k0 : Nat} (x0 : XOk X E k0) (he : DE X E .f Γ e te fv) (hk : DE X E .f Γ kx ti fk) (hΓ : Γ[i]? = some .o := by rfl) (hN : X.N[i]? = some x := by rfl) (hv : Vis X.env.scope x := by first | exact Or.inl rfl | exact Or.inr (Or.inl rfl) | exact Or.inr (Or.inr rfl))
    (hd : (x == ("__debug__" : Str)) = false := by decide) (hcd : (x == ("__classdict__" : Str)) = false := by decide)
    (hsw : swapsWith e (some (.Subscript (.Name x p) kx p2)) pos.line X.env = pure false := by rfl) :
    DS X E r Γl Γ Γ (.Assign [.Subscript (.Name x p) kx p2] e pos) (sDPut (tVar i) ti te) (sPutT i fk fv) :=
  ⟨ps_dput x0.u1 (pe_var hN hv hd hcd) hk.pe he.pe hsw, fun pot M0 H0 B M σ H ρ π D' S p h => by
    unfold sPutT at h
    split at h
    · rename_i ks xs er
      split at h
      · rename_i hc
        obtain ⟨hk', hlen⟩ := hc
        obtain ⟨c, kvs, e1, n, hcc, ek, r1⟩ := own_atT hk' S hΓ er
        refine PostS.seq (r' := .f) (te := te σ H) h S (fun Q' hq => he.sem pot M σ H ρ π S.env p Q' hq) fun d π1 v H1 _ g1 p1 q1 h1 => ?_
        have S1 := S.grow g1 p1
        refine ⟨.ref c, e1, ?_⟩
        refine PostS.seq (r' := .f) (te := ti σ H1) h1 S1 (fun Q' hq => hk.sem pot M σ H1 ρ π1 S1.env p1 Q' hq) fun kd π2 kv H2 _ g2 p2 q2 h2 => ?_
        have S2 := S1.grow g2 p2
        have g12 := g1.trans g2
        cases ef : tkey kd with
        | none =>
          rw [ef] at h2
          exact h2.elim
        | some kk =>
          rw [ef] at h2
          obtain ⟨b, rfl, hb⟩ := tkey_at (.inl q2 : Rb X.mg X.K pot M H2 kv kd) ef
          have r2 := r1.mono (less_grow S.env.pm g12)
          have q3 := q1.mono (less_grow S1.env.pm g2)
          obtain ⟨u1, u2⟩ := put_at (k := kk) q3 r2
          rw [← ek] at u1 u2
          have hl : kvs.length < sizeLine := by
            have := r1.length
            rw [List.length_map] at this
            omega
          refine ⟨c, _, rfl, .inr ⟨kvs, kk, b, g12 c _ n hcc, rfl, hb, hl, rfl⟩, h2 M σ _ ?_ (p2.mut n)⟩
          rw [u1]
          exact S2.mut hΓ er e1 (.dicT u2)
      · exact h.elim
    · exact h.elim⟩
end
end DL
set_option maxHeartbeats 4000000
namespace DL
open PySem PySem.Spec PyProof.Rows L2
def keyTD : DKey → D
  | .inl (.inl i) => .int i
  | .inl (.inr x) => .str x
  | .inr k => .tup (k.map kD)
/-- what is walked: the keys of a dict in a slot -/
def iKyT (i : Nat) : Ei := fun ρ π => match ρ[i]? with
  | some (some (.dic ks _)) => if isTd ks = true then .ok (ks.map keyTD, π) else .stuck
  | _ => .stuck
/-- an error is not told -/
def noErr (fs : Fs) : Fs := fun ρ π => match fs ρ π with
  | .err _ _ _ _ => .stuck
  | x => x
theorem noErr_ne {fs : Fs} {ρ : Rho} {π : Pot} : ∀ c ns xs π', noErr fs ρ π ≠ .err c ns xs π' := fun c ns xs π' e => by
  unfold noErr at e
  split at e
  · cases e
  · rename_i h
    exact h c ns xs π' e
section
variable {mg : Str → Option Value} {K : PySem.W.Frag} {pot : Option Addr} {M M0 : List Addr} {H H0 B : Hp} {π : Pot} {Γ Γl Γ' : List Md} {σ : L2.St} {ρ : Rho} {r : Rm} {E : XK}
theorem rpl_key {H : Hp} : ∀ k : List Key, RpL mg K H (k.map kV) (k.map kD)
  | [] => .nil
  | .inl i :: r => .cons (.int i) (rpl_key r)
  | .inr x :: r => .cons (.str x) (rpl_key r)
theorem walk_kt {d : Addr} {od : Obj} {kvs : List (List Key × V)} (w : Bool) (hd : H d = some (.frz od (.dT kvs))) (hm : d ∉ M) :
    WalkD mg K w pot M H (Itkt d od kvs) ((kvs.map fun p => (.inr p.1 : DKey)).map fun (q : DKey) => keyTD q) (fun H => H d = some (.frz od (.dT kvs))) (fun i H x H' => H' = H ∧ ∃ (k : List Key) (v : V) (q : Addr), kvs[i]? = some (k, v) ∧ x = .ref q ∧ H q = some (.tup (k.map kV))) where
  walk := by
    rw [List.length_map, List.length_map]
    exact walk_keysT
  stay := fun H' M' g sm => (less_some.mp (sm d _ (less_some.mpr ⟨hm, hd⟩))).2
  item := fun i H1 x H2 M' g sm al hi y => by
    obtain ⟨rfl, k, v, q, e, rfl, hq⟩ := y
    refine ⟨Same.refl _, .tup (k.map kD), ?_, ?_⟩
    · rw [List.getElem?_map, List.getElem?_map, e]; rfl
    · refine .tup (less_some.mpr ⟨fun m => ?_, hq⟩) (rpl_key k)
      obtain ⟨o, h1, h2⟩ := al q m
      rw [hq] at h1
      cases h1
      exact h2 _ rfl
theorem RpR.sim {M : List Addr} {H1 H1' H2 H2' : Hp} {v : V} {e : D} (s : Sim H2 H2') (hn : ∀ a, H1 a = none → H1' a = none) (hk : ∀ a, H1 a = none → H2' a = H2 a) (h : RpR mg K r pot M H1 H2 v e) (hb : r ≠ .b) : RpR mg K r pot M H1' H2' v e := by
  cases r with
  | f => exact Rp.sim (s.less _) h
  | b => exact absurd rfl hb
  | o =>
    obtain ⟨p, rfl, h1, h2, o, h3, h4⟩ := h
    exact ⟨p, rfl, hn p h1, h2, o, by rw [hk p h1]; exact h3, h4.sim (s.less _)⟩
  | t =>
    obtain ⟨q, ps, ds, rfl, rfl, h3, h4, h5, h6, h7, h8, h9⟩ := h
    refine ⟨q, ps, ds, rfl, rfl, by rw [hk q h4]; exact h3, hn q h4, h5, h6, h7, h8, fun i p e a b => ?_⟩
    obtain ⟨a1, a2, a3, o, a4, a5⟩ := h9 i p e a b
    exact ⟨a1, hn p a2, a3, o, by rw [hk p a2]; exact a4, a5.sim (s.less _)⟩
/-- a dict is locked while a statement runs -/
theorem lock_at {ts : TS} {D : Ends} {u : HO} {d : Addr} {x : Res (Out × Pot)} (hr : r ≠ .b) (hu : Lkb u) (hd : H d = some u) (hm : d ∉ M) (S : SOk mg K Γ pot M0 H0 B M σ H ρ) (p : PotAt pot H π) (hne : ∀ c ns xs π', x ≠ .err c ns xs π')
    (hmu : Mut (some u)) (h : PostS mg K r Γl Γ' pot M0 H0 B x D E)
    (k : ∀ od D' H' H0' B', SOk mg K Γ pot M0 H0' B' M σ H' ρ → H' d = some (.frz od u) → PotAt pot H' π → PostS mg K r Γl Γ' pot M0 H0' B' x D' E → ts D' σ H') : tLock ts D σ H := by
  have hp : pot ≠ some d := fun q => hm (S.env.pm d q)
  refine ⟨d, u, hd, hmu, fun od => ?_⟩
  have sm := sim_lock hu hd od
  have IH : EnvOk mg K Γ pot M σ (upd H d (.frz od u)) ρ := S.env.sim sm (fun a e => by
    by_cases q : a = d
    · subst q; rw [upd_same] at e; cases e
    · rw [upd_ne q] at e; exact e) fun a ha => upd_ne fun q => hm (by rw [← q]; exact ha)
  have PH : PotAt pot (upd H d (.frz od u)) π := fun a e => by
    rw [upd_ne fun q => hp (by rw [← q]; exact e)]
    exact p a e
  have g0 : Grow pot (upd H0 d (.frz od u)) (upd H d (.frz od u)) := fun a o n e => by
    by_cases z : a = d
    · subst z; rw [upd_same] at e ⊢; exact e
    · rw [upd_ne z] at e ⊢; exact S.gr a o n e
  have hn : ∀ a, (upd H0 d (.frz od u)) a = none → H0 a = none := fun a e => by
    by_cases z : a = d
    · subst z; rw [upd_same] at e; cases e
    · rw [upd_ne z] at e; exact e
  -- what holds at the end holds without the lock
  have back : ∀ {Γ' : List Md} {M' : List Addr} {σ' : L2.St} {H' : Hp} {ρ' : Rho} {π' : Pot}, SOk mg K Γ' pot M0 (upd H0 d (.frz od u)) (less (upd H d (.frz od u)) M) M' σ' H' ρ' → PotAt pot H' π' →
      H' d = some (.frz od u) ∧ SOk mg K Γ' pot M0 H0 B M' σ' (upd H' d u) ρ' ∧ PotAt pot (upd H' d u) π' := fun {Γ' M' σ' H' ρ' π'} S' p' => by
    obtain ⟨m', h'⟩ := less_some.mp (S'.bs d _ (less_some.mpr ⟨hm, upd_same⟩))
    refine ⟨h', ⟨S'.env.sim (sim_unlock hu h') (fun a e => ?_) (fun a ha => upd_ne fun q => m' (by rw [← q]; exact ha)), fun a o n e => ?_, S'.sub, fun i e a h1 h2 h3 => hn a (S'.ow i e a h1 h2 h3), S.m0, fun a o e => ?_⟩, fun a e => ?_⟩
    · by_cases q : a = d
      · subst q; rw [upd_same] at e; cases e
      · rw [upd_ne q] at e; exact e
    · by_cases z : a = d
      · subst z
        have := S.gr a o n e
        rw [hd] at this
        cases this
        exact upd_same
      · rw [upd_ne z]
        exact S'.gr a o n (by rw [upd_ne z]; exact e)
    · obtain ⟨e1, e2⟩ := less_some.mp (S.bs a o e)
      by_cases z : a = d
      · subst z
        rw [hd] at e2
        cases e2
        exact less_some.mpr ⟨m', upd_same⟩
      · obtain ⟨e3, e4⟩ := less_some.mp (S'.bs a o (less_some.mpr ⟨e1, by rw [upd_ne z]; exact e2⟩))
        exact less_some.mpr ⟨e3, by rw [upd_ne z]; exact e4⟩
    · rw [upd_ne fun z => hp (by rw [← z]; exact e)]
      exact p' a e
  refine k od _ _ (upd H0 d (.frz od u)) (less (upd H d (.frz od u)) M) ⟨IH, g0, S.sub, fun i e a h1 h2 h3 => ?_, fun a ha => ?_, Same.refl _⟩ upd_same PH ?_
  · obtain ⟨b, q1, q2, -⟩ := S.env.o i e h1 h2
    rw [h3] at q1
    cases q1
    rw [upd_ne fun q => hm (by rw [← q]; exact q2)]
    exact S.ow i e a h1 h2 h3
  · exact fun e => S.m0 a ha (hn a e)
  · cases x with
    | stuck => exact h.elim
    | err c ns xs π' => exact absurd rfl (hne c ns xs π')
    | ok y =>
      obtain ⟨y, π'⟩ := y
      cases y with
      | nx ρ' =>
        intro M' σ' H' S' p'
        obtain ⟨a, b, c⟩ := back S' p'
        exact ⟨a, h M' σ' _ b c⟩
      | bk ρ' =>
        intro M' σ' H' S' p'
        obtain ⟨a, b, c⟩ := back S' p'
        exact ⟨a, h M' σ' _ b c⟩
      | ct ρ' =>
        intro M' σ' H' S' p'
        obtain ⟨a, b, c⟩ := back S' p'
        exact ⟨a, h M' σ' _ b c⟩
      | rt e =>
        intro v H' g' p' q'
        have h' : H' d = some (.frz od u) := g' d _ hp upd_same
        refine ⟨h', h v _ (fun a o n e => ?_) (fun a e => ?_) (q'.sim (sim_unlock hu h') hn (fun a e => upd_ne fun z => ?_) hr)⟩
        · by_cases z : a = d
          · subst z
            have := S.gr a o n e
            rw [hd] at this
            cases this
            exact upd_same
          · rw [upd_ne z]
            exact g' a o n (by rw [upd_ne z]; exact e)
        · rw [upd_ne fun z => hp (by rw [← z]; exact e)]
          exact p' a e
        · subst z
          rw [upd_same] at e
          cases e
end
section
variable {X : Cx} {E : XK} {Γ Γl : List Md} {r : Rm} {pos : Pos} {k : Nat}
theorem sem_forAt {pot : Option Addr} {M M0 : List Addr} {H H0 B : Hp} {π : Pot} {σ : L2.St} {ρ : Rho} {D' : Ends} {wi : TI} {fi : Ei} {is : List Nat} {g : TG} {fg : D → Rho → Option Rho} {ts : TS} {fs : Fs} (hi : ∀ R, PostI X.mg X.K false pot M H (fi ρ π) R E → wi σ H R) (hg : SemG X.mg X.K Γ is g fg) (hgs : ∀ i ∈ is, Γ[i]? = some .f) (hb : SemS X.mg X.K E r Γ Γ Γ ts fs)
    (S : SOk X.mg X.K Γ pot M0 H0 B M σ H ρ) (p : PotAt pot H π) (h : PostS X.mg X.K r Γl Γ pot M0 H0 B (sFor fi fg fs ρ π) D' E) : tFor wi g ts D' σ H := by
  refine PostS.seqI (w := false) (te := wi σ H) h S (fun Q' hq => hi Q' hq) fun items π1 J H1 G Y _ g1 p1 W h1 => ?_
  have S1 := S.grow g1 p1
  refine for_it W.walk (fun i σ2 H2 => ∃ M2 ρ2 π2, SOk X.mg X.K Γ pot M0 H0 (less H1 M) M2 σ2 H2 ρ2 ∧ PotAt pot H2 π2 ∧ PostS X.mg X.K r Γl Γ pot M0 H0 B (forGo fg fs (items.drop i) ρ2 π2) D' E)
    ⟨M, ρ, π1, ⟨S1.env, S1.gr, S1.sub, S1.ow, S1.m0, Same.refl _⟩, p1, by rw [List.drop_zero]; exact h1⟩ (fun i σ2 H2 _ ⟨M2, ρ2, π2, S2, _, _⟩ => W.stay H2 M2 (fun z => by cases z) S2.bs) ?_ ?_
  · rintro i xv σ2 H2 H3 hlt ⟨M2, ρ2, π2, S2, p2, h2⟩ hy
    obtain ⟨sm, d, hd, rd⟩ := W.item i H2 xv H3 M2 (fun z => by cases z) S2.bs S2.env.al hlt hy
    have S3 := S2.grow (.of_same sm) (p2.same sm)
    have edr : items.drop i = d :: items.drop (i + 1) := by
      rw [List.drop_eq_getElem_cons hlt]
      congr 1
      have := List.getElem?_eq_getElem hlt
      rw [hd] at this
      exact (Option.some.inj this).symm
    rw [edr] at h2
    unfold forGo at h2
    cases e1 : fg d ρ2 with
    | none =>
      rw [e1] at h2
      exact h2.elim
    | some ρ3 =>
      rw [e1] at h2
      simp only [ofO_some, Res.bind_ok] at h2
      refine hg pot M2 σ2 H3 ρ2 xv d S3.env rd ρ3 e1 _ fun σ3 I3 s1 s2 => ?_
      have S4 : SOk X.mg X.K Γ pot M0 H0 (less H1 M) M2 σ3 H3 ρ3 := ⟨I3, S3.gr, S3.sub, fun j e a w1 w2 w3 => by
        have nj : j ∉ is := fun z => by
          rw [hgs j z] at w1
          cases w1
        rw [s1 j nj] at w3
        rw [s2 j nj] at w2
        exact S3.ow j e a w1 w2 w3, S3.m0, S3.bs⟩
      refine hb pot M0 H0 (less H1 M) M2 σ3 H3 ρ3 π2 _ S4 (p2.same sm) ?_
      cases e2 : fs ρ3 π2 with
      | err c ns xs π' =>
        rw [e2] at h2
        exact h2
      | stuck =>
        rw [e2] at h2
        exact h2
      | ok y =>
        obtain ⟨y, π3⟩ := y
        rw [e2] at h2
        simp only [Res.bind_ok] at h2
        cases y with
        | nx ρ4 => exact fun M4 σ4 H4 S5 p5 => ⟨M4, ρ4, π3, S5, p5, h2⟩
        | ct ρ4 => exact fun M4 σ4 H4 S5 p5 => ⟨M4, ρ4, π3, S5, p5, h2⟩
        | bk ρ4 => exact fun M4 σ4 H4 S5 p5 => h2 M4 σ4 H4 ⟨S5.env, S5.gr, S5.sub, S5.ow, S5.m0, fun a u e => S5.bs a u (S1.bs a u e)⟩ p5
        | rt d => exact h2
  · rintro σ2 H2 ⟨M2, ρ2, π2, S2, p2, h2⟩
    rw [List.drop_length] at h2
    exact h2 M2 σ2 H2 ⟨S2.env, S2.gr, S2.sub, S2.ow, S2.m0, fun a u e => S2.bs a u (S1.bs a u e)⟩ p2
def tLkS (t : TS) : TS := fun D σ H => tLock t D σ H ∨ t D σ H
theorem ps_lkS {st : Stmt} {t : TS} (h : PS X st t) : PS X st (tLkS t) :=
  ⟨fun pins s σ H D I q => q.elim (fun q => (ps_lock h).run pins s σ H D I q) fun q => h.run pins s σ H D I q⟩
theorem iKyT_of {i : Nat} {ρ : Rho} {π : Pot} {ks : List DKey} {xs : List D} (h : ρ[i]? = some (some (.dic ks xs))) (hk : isTd ks = true) : iKyT i ρ π = .ok (ks.map keyTD, π) := by
  unfold iKyT
  rw [h]
  simp only [hk, if_true]
theorem iKyT_at {i : Nat} {ρ : Rho} {π : Pot} (h : iKyT i ρ π ≠ .stuck) : ∃ ks xs, ρ[i]? = some (some (.dic ks xs)) ∧ isTd ks = true := by
  unfold iKyT at h
  split at h
  · rename_i ks xs e
    split at h
    · rename_i hk
      exact ⟨ks, xs, e, hk⟩
    · exact absurd rfl h
  · exact absurd rfl h
theorem key_post {pot : Option Addr} {M : List Addr} {H : Hp} {ρ : Rho} {π : Pot} {σ : L2.St} {i : Nat} {d : Addr} {od : Obj} {kvs : List (List Key × V)} {ds : List D} (w : Bool) (hσ : σ[i]? = some (some (.ref d))) (hρ : ρ[i]? = some (some (.dic (kvs.map fun p => .inr p.1) ds))) (hk : isTd (kvs.map fun p => (.inr p.1 : DKey)) = true)
    (hd : H d = some (.frz od (.dT kvs))) (hm : d ∉ M) (p : PotAt pot H π) (R) (q : PostI X.mg X.K w pot M H (iKyT i ρ π) R E) : iKeys (tVar i) σ H R := by
  rw [iKyT_of hρ hk] at q
  exact ⟨_, hσ, d, od, rfl, .inr ⟨kvs, hd, q _ _ _ _ .refl p (walk_kt w hd hm)⟩⟩
/-- for k in d -/
theorem ds_forK (i : Nat) {x : Str} {np : Pos} {tg : Expr} {body : List Stmt} {is : List Nat} {g : TG} {fg : D → Rho → Option Rho} {ts : TS} {fs : Fs} (hr : r ≠ .b) (o : XOk X E k) (hx : DE X E .f Γ (.Name x np) (tVar i) (eVar i)) (hg : DG X Γ tg is g fg) (hb : DSs X E r Γ Γ Γ body ts fs) (hΓi : Γ[i]? = some .f := by rfl) (hs : ∀ y, foldedSetIterable (.Name x np) X.env y = pure y := by intro _; rfl) :
    DS X E r Γl Γ Γ (.For tg (.Name x np) body [] pos) (tLkS (tFor (iKeys (tVar i)) g ts)) (noErr (sFor (iKyT i) fg fs)) :=
  ⟨ps_lkS (ps_for o.own o.calm (pi_keys hx.pe) hg.pg hb.pss hs), fun pot M0 H0 B M σ H ρ π D' S p h => by
    have hst : iKyT i ρ π ≠ .stuck := fun e => by
      unfold noErr sFor at h
      rw [e] at h
      exact h
    obtain ⟨ks, xs, hρ, hk⟩ := iKyT_at hst
    obtain ⟨v, hσ, rv⟩ := S.env.f i _ hΓi hρ
    cases rv with
    | dicK h1 h2 => cases hk
    | @dicT d kvs _ h1 h2 =>
      have un : ∀ {Γ' : List Md} {D2 : Ends} {pot M0 H0 B}, PostS X.mg X.K r Γl Γ' pot M0 H0 B (noErr (sFor (iKyT i) fg fs) ρ π) D2 E → PostS X.mg X.K r Γl Γ' pot M0 H0 B (sFor (iKyT i) fg fs ρ π) D2 E := fun q => by
        unfold noErr at q
        split at q
        · exact q.elim
        · exact q
      rcases h1 with h1 | ⟨od, h1⟩
      · obtain ⟨hm, h1⟩ := less_some.mp h1
        exact .inl (lock_at hr (.t _) h1 hm S p noErr_ne trivial h fun od D' H' H0' B' S' h' p' q => sem_forAt (fun R q => key_post false hσ hρ hk h' hm p' R q) hg.sem hg.fs hb.sem S' p' (un q))
      · obtain ⟨hm, h1⟩ := less_some.mp h1
        exact .inr (sem_forAt (fun R q => key_post false hσ hρ hk h1 hm p R q) hg.sem hg.fs hb.sem S p (un h))⟩
end
end DL
set_option maxHeartbeats 4000000
namespace DL
open PySem PySem.Spec PyProof.Rows L2
section
variable {prog : Program} {w : World} {KK : Type} [DecidableEq KK] {knd : HeapKind prog w KK} {A : Around} {E : Value → Shared → Prop} {s : Shared}
theorem dictOfH_push {h : Heap} {a : Addr} {xs : List (List KK × Addr × Value)} {kn : KeyKind prog w KK} (o : Obj) (x : h.DictOfH (tupleKind kn) a xs) : (h.push o).DictOfH (tupleKind kn) a xs := by
  obtain ⟨ob, es, ep, h1, h2, h3, h4, h5, h6⟩ := x
  refine ⟨ob, es, ep, Heap.get?_push_of_some _ h1, h2, h3, h4, fun y hy => ?_, h6⟩
  obtain ⟨ob', its, n, q1, q2, q3, q4⟩ := h5 y hy
  exact ⟨ob', its, n, Heap.get?_push_of_some _ q1, q2, q3, q4⟩
theorem storedAllH_app (more : List (KK × Addr × Value)) : ∀ acc : List (KK × Addr × Value), ((acc ++ more).map (·.1)).Nodup → storedAllH acc more = acc ++ more := by
  induction more with
  | nil => intro acc _; simp [storedAllH]
  | cons x r ih =>
    intro acc hn
    have e : storedH acc x.1 x.2.1 x.2.2 = acc ++ [x] := by
      refine storedH_new (atKey_none_of_get fun j p hj => ?_) _ _
      rw [List.map_append, List.map_cons] at hn
      have := (List.nodup_append.mp hn).2.2 x.1 (List.mem_map.mpr ⟨_, List.mem_of_getElem? hj, rfl⟩) x.1 (List.mem_cons_self ..)
      exact this rfl
    show storedAllH (storedH acc x.1 x.2.1 x.2.2) r = _
    rw [e, ih _ (by simpa using hn)]
    simp
/-- dict(d) -/
theorem call_dictT {kn : KeyKind prog w KK} {o : Addr} {more : List (List KK × Addr × Value)} {Q : Value → Shared → Prop} (hu : A.units + 3 < cLine) (hoS : (o == sysModules) = false) (ho : s.heap.DictOfH (tupleKind kn) o more) (hsz : more.length ≤ sizeLine)
    (hh : (more.map fun x => (tupleKind kn).hash x.1).Nodup)
    (h : ∀ h', h'.DictOfH (tupleKind kn) s.heap.objs.size more → (∀ b ob, s.heap.get? b = some ob → h'.get? b = some ob) → Q (.ref s.heap.objs.size) { s with heap := h' }) :
    wpAny (model prog w) A (call (.type "dict") [.ref o]) Q E s := by
  have born := Heap.DictOfH.new (knd := tupleKind kn) s.heap
  have src := dictOfH_push { cls := .type "dict", data := .dict #[] } ho
  have low : s.heap.objs.size ≠ o := fun z => by
    obtain ⟨_, _, _, g, _⟩ := ho
    have lt := Heap.lt_size g
    rw [z] at lt
    exact Nat.lt_irrefl o lt
  refine callType_codes F.kt_called_dict (F.kt_typeCall_dict_1 (.ref o)) F.entry_dict_init (kt_code_dict_new (Q₁ := fun v t => v = .ref s.heap.objs.size ∧ t = { s with heap := s.heap.push { cls := .type "dict", data := .dict #[] } }) (.ref o) ⟨rfl, rfl⟩) fun v t made => ?_
  obtain ⟨rfl, rfl⟩ := made
  refine ⟨born.typeIs, F.args_dict_init_2 (.ref s.heap.objs.size) (.ref o), ?_⟩
  unfold Builtin.«dict.__init__» Builtin.Dict.selfAndRest
  refine wpAny_bind (wpAny_bind (wpAny_notOrdered_dict born.typeIs (wpAny_pure ?_)))
  refine updateFrom_dictH (knd := tupleKind kn) (A := A.in1) (R := _) .none ?_ low hoS born src (.inr ⟨fun x hx => ?_, hh⟩) (by simpa using hsz) fun h' hd _ same => ?_
  · show A.units + 1 + 1 < cLine
    omega
  · obtain ⟨_, _, _, _, _, _, _, keys, _⟩ := src
    obtain ⟨ob', _, _, q1, q2, -⟩ := keys x hx
    exact ⟨ob', q1, q2⟩
  · obtain ⟨_, _, _, _, _, _, _, _, hnd⟩ := ho
    rw [storedAllH_app more [] (by simpa using hnd), List.nil_append] at hd
    refine ⟨rfl, h h' hd fun b ob there => ?_⟩
    have lt := Heap.lt_size there
    rw [same.2 b (Nat.ne_of_lt lt)]
    exact Heap.get?_push_of_some _ there
end
/-- the hash of a key of ints -/
def hashI (k : List Key) : Int := reduceHash (Builtin.Tuple.tupleHashOf (k.map fun x => match x with | .inl i => hashInt i | .inr _ => 0))
def kInts : DKey → Bool
  | .inr k => k.all fun x => x.isLeft
  | _ => false
def hashD : DKey → Int
  | .inr k => hashI k
  | _ => 0
/-- the keys are of ints, and no two have one hash -/
def apartH (ks : List DKey) : Bool := ks.all kInts && decide ((ks.map hashD).Nodup)
def fDictC : List D → Option D
  | [.dic ks xs] => if isTd ks = true ∧ apartH ks = true then some (.dic ks xs) else none
  | _ => none
theorem call_dictC {X : Cx} {E : XK} {k : Nat} (x0 : XOk X E k) : CallR X (.type "dict") (fun xs H Q => ∃ a kvs, xs = [V.ref a] ∧ Rd H a (.dT kvs) ∧ apartH (kvs.map fun p => .inr p.1) = true ∧ ∀ q, H q = none → Q (.ref q) (upd H q (.dT kvs))) := fun pins s σ H xs us Q I rl h => by
  obtain ⟨a, kvs, rfl, hd, hh, q⟩ := h
  cases rl with
  | cons r1 rl =>
    cases rl
    obtain rfl : _ = Value.ref a := r1
    obtain ⟨h1, h2, ys, h3, h4⟩ := dt_rd I.hok hd
    have hl := h3.length
    have hk : ys.map (·.1) = kvs.map (·.1) := by
      clear h4 hl hh hd q h1
      induction h3 with
      | nil => rfl
      | cons a _ ih => rw [List.map_cons, List.map_cons, ih, a.1]
    obtain ⟨hh1, hh2⟩ := Bool.and_eq_true_iff.mp hh
    have hh2 := of_decide_eq_true hh2
    have hash : ∀ k : List Key, kInts (.inr k) = true → (tupleKind (mixKind X.prog X.w)).hash k = hashI k := fun k hk => by
      show reduceHash (Builtin.Tuple.tupleHashOf (k.map (keyH X.w))) = _
      unfold hashI
      congr 2
      refine List.map_congr_left fun x hx => ?_
      have := List.all_eq_true.mp hk x hx
      cases x with
      | inl i => rfl
      | inr y => cases this
    refine call_dictT ?_ h2 h4 (by omega) ?_ fun h' hd' hk' => ⟨.ref s.heap.objs.size, _, I.laid (a := s.heap.objs.size) (o := .dT kvs) hk' (Nat.le_refl _) ?_, rfl, q _ I.fresh⟩
    · have := x0.room.un
      omega
    · rw [show (ys.map fun x => (tupleKind (mixKind X.prog X.w)).hash x.1) = (ys.map (·.1)).map (tupleKind (mixKind X.prog X.w)).hash by rw [List.map_map]; rfl, hk, List.map_map]
      rw [List.map_map] at hh2
      refine (List.map_congr_left fun p hp => ?_) ▸ hh2
      exact (hash p.1 (List.all_eq_true.mp hh1 _ (List.mem_map.mpr ⟨p, hp, rfl⟩))).symm
    · unfold L2.ObjOk
      obtain ⟨ob, es, ep, e1, e2, e3, e4, e5, e6⟩ := hd'
      refine ⟨h1, ?_, ys, h3.keeps fun b zs hb => ?_, ob, es, ep, e1, e2, e3, e4, e6⟩
      · have := I.big
        exact beq_eq_false_iff_ne.mpr fun e => absurd this (by rw [e]; exact Nat.lt_irrefl _)
      · rw [upd_ne fun z => by rw [z, I.fresh] at hb; cases hb]
        exact hb
section
variable {X : Cx} {E : XK} {k : Nat}
theorem c_dictC (x0 : XOk X E k) : CallOk X (.type "dict") (fun xs H Q => ∃ a kvs, xs = [V.ref a] ∧ Rd H a (.dT kvs) ∧ apartH (kvs.map fun p => .inr p.1) = true ∧ ∀ q, H q = none → Q (.ref q) (upd H q (.dT kvs))) [.b] .o fDictC := ⟨call_dictC x0, fun pot M H vs ds z al pm ph a hz Q q => by
  obtain ⟨v, d, rfl, rfl, h⟩ := arg1 a
  cases d with
  | dic ks xs =>
    simp only [fDictC] at hz
    split at hz
    · rename_i hc
      cases hz
      obtain ⟨p, kvs, rfl, h1, rfl, r1⟩ := rb_dicT hc.1 h
      exact ⟨p, kvs, rfl, h1, hc.2, fun l hn => q _ _ (same_upd hn) ⟨l, rfl, hn, fun e => ph l e hn, _, upd_same, .dicT (r1.mono (less_new hn))⟩⟩
    · cases hz
  | _ => simp [fDictC] at hz⟩
end
end DL
set_option maxHeartbeats 4000000
namespace DL
open PySem PySem.Spec PyProof.Rows L2
/-- a tuple-key entry is put into the dict at D -/
def putAt (D : Addr) (kx vx : V) (H : Hp) (next : Hp → Prop) : Prop :=
  ∃ ws key b, kx = .ref b ∧ H b = some (.tup (key.map kV)) ∧ H D = some (.dT ws) ∧ ws.length < sizeLine ∧ next (upd H D (.dT (putK ws key vx)))
/-- one turn of the comprehension -/
def dcTurn (g : TG) (tt : TT) (tk tv : TE) (vs : List Nat) (D : Addr) (σ : L2.St) (x : V) (H : Hp) (next : Hp → Prop) : Prop :=
  g x (L2.wipe σ vs) H fun σa Ha => L2.wipe σa vs = L2.wipe σ vs ∧
    tt σa Ha fun b Hb => (b = false → next Hb) ∧ (b = true → tk σa Hb fun kx Hc => tv σa Hc fun vx Hd => putAt D kx vx Hd next)
def tDcT (wi : TI) (g : TG) (tt : TT) (tk tv : TE) (vs : List Nat) : TE := fun σ H Q => wi σ H fun J Ha => ∀ D, Ha D = none →
  ∃ W : Nat → Nat → Hp → Prop, (∃ m, W 0 m (upd Ha D (.dT []))) ∧ ∀ i m Hb, W i m Hb →
    (J.stop i Hb ∧ Q (.ref D) Hb) ∨ (J.go i Hb ∧ ∃ next : Hp → Prop, (∀ Hn, next Hn → ∃ k, k < m ∧ W (i + 1) k Hn) ∧ ∀ x Hc, J.yld i Hb x Hc → dcTurn g tt tk tv vs D σ x Hc next)
theorem weak_wipe {X : Cx} {pins : List (Addr × Obj)} {σ : L2.St} {H : Hp} {s : Shared} (vs : List Nat) (I : L2.Inv X pins σ H s) : L2.Inv X pins (L2.wipe σ vs) H s :=
  I.weak (wipe_length σ vs) fun i v e => (wipe_some e).1
theorem pinsAt_mem {h : Heap} {fp : List Addr} {b : Addr} {o : Obj} (hb : b ∈ fp) (e : h.get? b = some o) : (b, o) ∈ pinsAt fp h := by
  unfold pinsAt
  refine List.mem_filterMap.mpr ⟨b, hb, ?_⟩
  rw [e]; rfl
theorem dictSetT {X : Cx} {pins : List (Addr × Obj)} {σ : L2.St} {H : Hp} {s : Shared} {E : Value → Shared → Prop} {D : Addr} {ws : List (List Key × V)} {key : List Key} {b : Addr} {v : V} {u r : Value} {Q : Unit → Shared → Prop} (hu : X.A.units < cLine)
    (I : L2.Inv X pins σ H s) (hD : H D = some (.dT ws)) (hl : ws.length < sizeLine) (hb : H b = some (.tup (key.map kV))) (ru : RelV (.ref b) u) (rv : RelV v r)
    (h : ∀ s', L2.Inv X pins σ (upd H D (.dT (putK ws key v))) s' → Q () s') : wpAny (model X.prog X.w) X.A (dictSet D u r) Q E s := by
  obtain rfl : u = .ref b := ru
  obtain ⟨h1, h2, ys, h3, h4⟩ := L2.dt_of I.hok hD
  have hy := h3.length
  refine wpAny_dictSet_heap (knd := tupleKind (mixKind X.prog X.w)) (hsz := by omega) hu (key_of I.hok hb) h4 fun h' hd hs => h _ (d_write I (by rw [hD]; trivial) hs ?_ ?_)
  · obtain ⟨o, es, ep, e1, -⟩ := hd
    exact ⟨o, e1⟩
  · obtain ⟨o, es, ep, e1, e2, e3, e4, e5, e6⟩ := hd
    unfold L2.ObjOk
    have hne : ∀ c zs, H c = some (.tup zs) → (upd H D (.dT (putK ws key v))) c = some (.tup zs) := fun c zs hc => by
      rw [upd_ne fun z => by rw [z, hD] at hc; cases hc]
      exact hc
    refine ⟨?_, h2, _, ((h3.put key hb rv).keeps hne), o, es, ep, e1, e2, e3, e4, e6⟩
    have := length_putK ws key v
    omega
/-- after a turn the block stands as ahead of it -/
theorem pe_dcT {X : Cx} {kx vx tg iter : Expr} {ifs : List Expr} {scope : Scope} {own : List (Str × Nat)} {pos : Pos} {wi : TI} {g : TG} {tt : TT} {tk tv : TE} (hc : X.calm = true) (hN : X.N.Nodup) (hu : X.A.units < cLine) (hp : L2.PI X tg iter wi) (ok : BlkOk X.N X.env.scope scope own)
    (hg : ∀ (s : Shared) (H : Hp) (C : Addr) (cl : List (Str × Addr)) (fp : List Addr), PG (X.blk s H scope (compEnvC scope cl C X.env) fp) tg g)
    (ht : ∀ (s : Shared) (H : Hp) (C : Addr) (cl : List (Str × Addr)) (fp : List Addr), PTs (X.blk s H scope (compEnvC scope cl C X.env) fp) ifs tt)
    (hk : ∀ (s : Shared) (H : Hp) (C : Addr) (cl : List (Str × Addr)) (fp : List Addr), PE (X.blk s H scope (compEnvC scope cl C X.env) fp) kx tk)
    (he : ∀ (s : Shared) (H : Hp) (C : Addr) (cl : List (Str × Addr)) (fp : List Addr), PE (X.blk s H scope (compEnvC scope cl C X.env) fp) vx tv)
    (hs : ∀ x, foldedSetIterable iter X.env x = pure x := by intro _; rfl) :
    PE X (.DictComp kx vx [⟨tg, iter, ifs, 0⟩] scope pos) (tDcT wi g tt tk tv (own.map (·.2))) := ⟨fun pins s σ H Q I q => by
  rw [arm_eval_DictComp]
  refine wpAny_comprehension_free (use := none) rfl hs (closure_ok fun y hy hf => ?_) ok.kind (fun y hy hl => by rw [ok.uniq y hy, hl])
    (wpAny_mono (hp.run pins s σ H _ I q) (fun v s1 h1 => wpAny_mono h1 (fun itv s2 h2 => ?_) fun _ _ e => e) fun _ _ e => e)
  · rcases ok.free y hy hf with e | e
    · exact I.ok.has y.1 (.inl e)
    · exact I.ok.has y.1 (.inr e)
  obtain ⟨it, fp, tn, J, H2, rfl, I2, T, t0, fok, hW⟩ := h2
  have lt2 : ∀ b ∈ fp, b < s2.heap.objs.size := fun b hb => by
    obtain ⟨o, e, -⟩ := T.obj 0 _ t0 b hb
    exact Heap.lt_size e
  obtain ⟨W, ⟨m0, w0⟩, step⟩ := hW _ I2.fresh
  refine wpAny_newObj_type ?_
  generalize eD : s2.heap.objs.size = D at *
  have I3 : L2.Inv X pins σ (upd H2 D (.dT [])) { s2 with heap := s2.heap.push { cls := .type "dict", data := .dict #[] } } := by
    have := I2.laid (a := s2.heap.objs.size) (o := .dT []) (h' := s2.heap.push { cls := .type "dict", data := .dict #[] }) (t' := s2.toks) (fun b u e => Heap.get?_push_of_some _ e) (Nat.le_refl _) (dt_empty _ I2.big)
    rw [eD] at this
    exact this
  refine newEnv_comp ?_
  have fok3 : ∀ b ∈ fp, FpOk X pins (upd H2 D (.dT [])) b := fun b hb => by
    obtain ⟨a1, a2⟩ := fok b hb
    exact ⟨by rw [upd_ne fun z => absurd (lt2 b hb) (by rw [z]; exact Nat.lt_irrefl _)]; exact a1, a2⟩
  have I4 := block_start (fp := fp) I3 ok hN fun b hb => ⟨fok3 b hb, by
    show b < (s2.heap.push _).objs.size
    rw [Heap.size_push, eD]
    exact Nat.lt_succ_of_lt (lt2 b hb)⟩
  have t4 : tn 0 (pushCells ((s2.heap.push { cls := .type "dict", data := .dict #[] }).push { cls := .type "dict", data := .dict #[] }) scope.names) := T.keep 0 _ _ t0 fun b hb o e => pushCells_keeps _ _ _ _ (Heap.get?_push_of_some _ (Heap.get?_push_of_some _ e))
  have loop : codeAny (model X.prog X.w) X.A (.compLoop (.DictComp kx vx [⟨tg, iter, ifs, 0⟩] scope pos) 0 (.ref it) (.ref D) (compEnvC scope (cellsFrom ((s2.heap.push { cls := .type "dict", data := .dict #[] }).objs.size + 1) scope.names (cloFrom X.env.cells scope.names [])) (s2.heap.push { cls := .type "dict", data := .dict #[] }).objs.size X.env))
      (compPost (model X.prog X.w) X.A X.xe none (EP X pins σ Q) (.ref D) (s2.heap.push { cls := .type "dict", data := .dict #[] }).objs.size) { s2 with heap := pushCells ((s2.heap.push { cls := .type "dict", data := .dict #[] }).push { cls := .type "dict", data := .dict #[] }) scope.names } := by
    have gX := hg { s2 with heap := s2.heap.push { cls := .type "dict", data := .dict #[] } } (upd H2 D (.dT [])) (s2.heap.push { cls := .type "dict", data := .dict #[] }).objs.size (cellsFrom ((s2.heap.push { cls := .type "dict", data := .dict #[] }).objs.size + 1) scope.names (cloFrom X.env.cells scope.names [])) fp
    have tX := ht { s2 with heap := s2.heap.push { cls := .type "dict", data := .dict #[] } } (upd H2 D (.dT [])) (s2.heap.push { cls := .type "dict", data := .dict #[] }).objs.size (cellsFrom ((s2.heap.push { cls := .type "dict", data := .dict #[] }).objs.size + 1) scope.names (cloFrom X.env.cells scope.names [])) fp
    have kX := hk { s2 with heap := s2.heap.push { cls := .type "dict", data := .dict #[] } } (upd H2 D (.dT [])) (s2.heap.push { cls := .type "dict", data := .dict #[] }).objs.size (cellsFrom ((s2.heap.push { cls := .type "dict", data := .dict #[] }).objs.size + 1) scope.names (cloFrom X.env.cells scope.names [])) fp
    have vX := he { s2 with heap := s2.heap.push { cls := .type "dict", data := .dict #[] } } (upd H2 D (.dT [])) (s2.heap.push { cls := .type "dict", data := .dict #[] }).objs.size (cellsFrom ((s2.heap.push { cls := .type "dict", data := .dict #[] }).objs.size + 1) scope.names (cloFrom X.env.cells scope.names [])) fp
    have fpok : ∀ {H' : Hp}, (∀ b ∈ fp, H' b = none) → ∀ b ∈ fp, FpOk _ [] H' b := fun {H'} nn b hb => ⟨nn b hb, (I4.ok.exf b hb).1, I4.ok.exfs b hb, .inl hb, (I4.ok.exf b hb).2, fun p hp => by cases hp⟩
    refine compLoop_anyD (fun n s' => ∃ i H', W i n H' ∧ L2.Inv _ [] (L2.wipe σ (own.map (·.2))) H' s' ∧ tn i s'.heap ∧ ∀ b ∈ fp, H' b = none) ?_ m0 ⟨0, _, w0, I4, t4, fun b hb => (fok3 b hb).1⟩
    rintro n s' ⟨i, H', w, I', t', nn⟩
    rcases step i n H' w with ⟨stop, hQ⟩ | ⟨go, next, hn, turn⟩
    · refine thnF (T.done (X.blk _ _ scope (compEnvC scope _ _ X.env) fp) rfl rfl rfl hc i [] s' _ H' _ I' (fpok nn) t' stop) ?_
      rintro r s1 ⟨rfl, I1⟩
      obtain ⟨m, hm, -⟩ := I1.loc
      refine ⟨m, hm, fun h' hs' => ⟨.ref D, H', ?_, rfl, hQ⟩⟩
      have I5 : L2.Inv X pins σ H' s1 := I3.call' I1.os I1.base I1.hok I1.bare fun b hb => ⟨(fok3 b hb).2.2.2.1, (fok3 b hb).2.1, (fok3 b hb).2.2.2.2⟩
      obtain ⟨a1, a2, a3, a4, a5, a6⟩ := I3.fpOk (b := (s2.heap.push { cls := .type "dict", data := .dict #[] }).objs.size) (Nat.le_refl _) I1.free
      exact I5.turned (fun b o ne e => by rw [hs'.2 b ne]; exact e) a1 a2 a4 a5 a6
    · refine thnF (T.item (X.blk _ _ scope (compEnvC scope _ _ X.env) fp) rfl rfl rfl hc i [] s' _ H' _ I' (fpok nn) t' go) ?_
      rintro r s1 ⟨u, rfl, h1⟩
      refine thnF h1 ?_
      rintro _ sb ⟨x, Hc, Ib, rx, yl, t2, nn2⟩
      have Ip := Ib.pinned (fpok nn2) (T.obj (i + 1) _ t2)
      have fin : ∀ {σa : L2.St} {Hn : Hp} {sn : Shared}, L2.wipe σa (own.map (·.2)) = L2.wipe σ (own.map (·.2)) → L2.Inv (X.blk { s2 with heap := s2.heap.push { cls := .type "dict", data := .dict #[] } } (upd H2 D (.dT [])) scope (compEnvC scope (cellsFrom ((s2.heap.push { cls := .type "dict", data := .dict #[] }).objs.size + 1) scope.names (cloFrom X.env.cells scope.names [])) (s2.heap.push { cls := .type "dict", data := .dict #[] }).objs.size X.env) fp) ([] ++ pinsAt fp sb.heap) σa Hn sn → next Hn → ∃ m, m < n ∧ ∃ i H', W i m H' ∧ L2.Inv (X.blk { s2 with heap := s2.heap.push { cls := .type "dict", data := .dict #[] } } (upd H2 D (.dT [])) scope (compEnvC scope (cellsFrom ((s2.heap.push { cls := .type "dict", data := .dict #[] }).objs.size + 1) scope.names (cloFrom X.env.cells scope.names [])) (s2.heap.push { cls := .type "dict", data := .dict #[] }).objs.size X.env) fp) [] (L2.wipe σ (own.map (·.2))) H' sn ∧ tn i sn.heap ∧ ∀ b ∈ fp, H' b = none := fun {σa Hn sn} ew In hx => by
        obtain ⟨k, hk, wk⟩ := hn Hn hx
        refine ⟨k, hk, i + 1, Hn, wk, ?_, T.keep (i + 1) _ _ t2 fun b hb o e => ?_, fun b hb => ?_⟩
        · rw [← ew]
          exact weak_wipe _ (In.pins_of fun p hp => by cases hp)
        · exact (In.pin (b, o) (List.mem_append_right _ (pinsAt_mem hb e))).1
        · obtain ⟨o, e, -⟩ := T.obj (i + 1) _ t2 b hb
          exact (In.pin (b, o) (List.mem_append_right _ (pinsAt_mem hb e))).2.1
      refine thnF (gX.run _ sb _ Hc x u _ Ip rx (turn x Hc yl)) ?_
      rintro _ s3 ⟨σa, Ha, Ia, ea, ta⟩
      refine thnF (tX.run _ s3 σa Ha _ Ia ta) ?_
      rintro bb s4 ⟨Hb, Ibb, nb, yb⟩
      cases bb with
      | false => exact fin ea Ibb (nb rfl)
      | true =>
        simp only [if_true]
        refine thnF (kX.run _ s4 σa Hb _ Ibb (yb rfl)) ?_
        rintro kv s5 ⟨ky, He, Ic, rk, hv⟩
        refine thnF (vX.run _ s5 σa He _ Ic hv) ?_
        rintro vv s6 ⟨vy, Hd, Id, rv, ws, key, b, rfl, e1, e2, e3, e4⟩
        exact dictSetT (X := X.blk _ _ scope (compEnvC scope _ _ X.env) fp) hu Id e2 e3 e1 rk rv fun s7 I7 => fin ea I7 e4
  exact codeAny_compStart_dict loop (T.self _ 0 _ _ _ t4 loop)⟩
end DL
set_option maxHeartbeats 4000000
namespace DL
open PySem PySem.Spec PyProof.Rows L2
def dcGo (fg : D → Rho → Option Rho) (ft : Et) (fk fv : Ed) (ρ : Rho) : List D → List DKey → List D → Pot → Res ((List DKey × List D) × Pot)
  | [], ks, xs, π => .ok ((ks, xs), π)
  | d :: ds, ks, xs, π => (ofO (fg d ρ)).bind fun ρ1 => (safe (ft ρ1 π)).bind fun b => if b.1 = true then (safe (fk ρ1 b.2)).bind fun x => (safe (fv ρ1 x.2)).bind fun y => (ofO (tkey x.1)).bind fun k => dcGo fg ft fk fv ρ ds (putT ks xs k y.1).1 (putT ks xs k y.1).2 y.2 else dcGo fg ft fk fv ρ ds ks xs b.2
def eDC (fi : Ei) (fg : D → Rho → Option Rho) (ft : Et) (fk fv : Ed) (vs : List Nat) : Ed := fun ρ π => (fi ρ π).bind fun x => if x.1.length < sizeLine then (dcGo fg ft fk fv (wipeD ρ vs) x.1 [] [] x.2).bind fun r => .ok (.dic r.1.1 r.1.2, r.2) else .stuck
section
variable {X : Cx} {E : XK} {Γ : List Md} {pos : Pos} {k : Nat}
theorem dcGo_ne {fg : D → Rho → Option Rho} {ft : Et} {fk fv : Ed} {ρ : Rho} {c : Str} {ns : List Str} {xs0 : List D} {π' : Pot} : ∀ (ds : List D) (ks : List DKey) (xs : List D) (π : Pot), dcGo fg ft fk fv ρ ds ks xs π ≠ .err c ns xs0 π'
  | [], ks, xs, π => by simp [dcGo]
  | d :: ds, ks, xs, π => fun h => by
    unfold dcGo at h
    cases e1 : fg d ρ with
    | none => rw [e1] at h; cases h
    | some ρ1 =>
      rw [e1] at h
      simp only [ofO_some, Res.bind_ok] at h
      cases e2 : safe (ft ρ1 π) with
      | stuck => rw [e2] at h; cases h
      | err c ns xs p => exact safe_ne e2
      | ok b =>
        rw [e2] at h
        simp only [Res.bind_ok] at h
        split at h
        · cases e3 : safe (fk ρ1 b.2) with
          | stuck => rw [e3] at h; cases h
          | err c ns xs p => exact safe_ne e3
          | ok x =>
            rw [e3] at h
            simp only [Res.bind_ok] at h
            cases e4 : safe (fv ρ1 x.2) with
            | stuck => rw [e4] at h; cases h
            | err c ns xs p => exact safe_ne e4
            | ok y =>
              rw [e4] at h
              simp only [Res.bind_ok] at h
              cases e5 : tkey x.1 with
              | none => rw [e5] at h; cases h
              | some kk =>
                rw [e5] at h
                simp only [ofO_some, Res.bind_ok] at h
                exact dcGo_ne ds _ _ _ h
        · exact dcGo_ne ds _ _ _ h
theorem dc_it {J : It} {n : Nat} {G : Hp → Prop} {Y : Nat → Hp → V → Hp → Prop} (w : Walk J n G Y) {g : TG} {tt : TT} {tk tv : TE} {vs : List Nat} {σ : L2.St} {H1 : Hp} {D : Addr} {Qd : Hp → Prop} (Pv : Nat → Hp → Prop) (h0 : Pv 0 (upd H1 D (.dT []))) (hG : ∀ i H, i ≤ n → Pv i H → G H)
    (hs : ∀ i x H H', i < n → Pv i H → Y i H x H' → dcTurn g tt tk tv vs D σ x H' (Pv (i + 1))) (hd : ∀ H, Pv n H → Qd H) :
    ∃ W : Nat → Nat → Hp → Prop, (∃ m, W 0 m (upd H1 D (.dT []))) ∧ ∀ i m H, W i m H →
      (J.stop i H ∧ Qd H) ∨ (J.go i H ∧ ∃ next : Hp → Prop, (∀ H', next H' → ∃ m', m' < m ∧ W (i + 1) m' H') ∧ ∀ x H', J.yld i H x H' → dcTurn g tt tk tv vs D σ x H' next) := by
  refine ⟨fun i m H => m = n - i ∧ i ≤ n ∧ Pv i H, ⟨n, by simp, Nat.zero_le _, h0⟩, ?_⟩
  rintro i m H ⟨rfl, hi, p⟩
  have q := hG i H hi p
  by_cases hlt : i < n
  · exact .inr ⟨w.goes i H hlt q, Pv (i + 1), fun H' p' => ⟨n - (i + 1), by omega, rfl, hlt, p'⟩, fun x H' y => hs i x H H' hlt p (w.yields i H x H' hlt q y)⟩
  · have e : i = n := by omega
    subst e
    exact .inl ⟨w.stops H q, hd H p⟩
theorem sem_dcAt {w : Bool} {wi : TI} {fi : Ei} {is vs : List Nat} {g : TG} {fg : D → Rho → Option Rho} {tt : TT} {ft : Et} {tk tv : TE} {fk fv : Ed} {pot : Option Addr} {M : List Addr} {σ : L2.St} {H : Hp} {ρ : Rho} {π : Pot} (hi : ∀ R, PostI X.mg X.K w pot M H (fi ρ π) R E → wi σ H R) (hg : SemG X.mg X.K Γ is g fg) (hv : ∀ i ∈ is, i ∈ vs) (hΓ : ∀ i ∈ vs, Γ[i]? = some .f)
    (ht : SemT X.mg X.K E0 Γ tt ft) (hk : SemE X.mg X.K E0 .f Γ tk fk) (he : SemE X.mg X.K E0 .f Γ tv fv) (I : EnvOk X.mg X.K Γ pot M σ H ρ) (p : PotAt pot H π) (Q : VK) (h : Post X.mg X.K .o pot M H (eDC fi fg ft fk fv vs ρ π) Q E) : tDcT wi g tt tk tv vs σ H Q := by
  refine hi _ ?_
  unfold eDC at h
  cases ei : fi ρ π with
  | err c ns xs π' =>
    rw [ei] at h
    exact h
  | stuck =>
    rw [ei] at h
    exact h
  | ok x =>
    obtain ⟨items, π0⟩ := x
    rw [ei] at h
    simp only [Res.bind_ok] at h
    intro J H1 G Y g1 p1 W D hD
    by_cases hz : items.length < sizeLine
    · rw [if_pos hz] at h
      have I1 := I.grow g1 p1
      cases et : dcGo fg ft fk fv (wipeD ρ vs) items [] [] π0 with
      | err c ns xs π' => exact absurd et (dcGo_ne items [] [] π0)
      | stuck =>
        rw [et] at h
        exact h.elim
      | ok r =>
        obtain ⟨⟨ks9, xs9⟩, π9⟩ := r
        rw [et] at h
        simp only [Res.bind_ok] at h
        have nD : pot ≠ some D := fun e => p1.has D e hD
        have gD : ∀ {H2 : Hp} {o : HO}, Grow pot H1 H2 → Grow pot H1 (upd H2 D o) := fun gr a o n e => by
          rw [upd_ne (ne_of_none e hD)]
          exact gr a o n e
        have pD : ∀ {H2 : Hp} {o : HO} {π : Pot}, PotAt pot H2 π → PotAt pot (upd H2 D o) π := fun q a e => by
          rw [upd_ne (fun z => nD (by rw [e, z]))]
          exact q a e
        have lD : ∀ {H2 : Hp} {o : HO}, Same (less H2 (D :: M)) (less (upd H2 D o) (D :: M)) := fun a o e => by
          obtain ⟨e1, e2⟩ := less_some.mp e
          refine less_some.mpr ⟨e1, ?_⟩
          rw [upd_ne (fun z => e1 (by rw [z]; exact List.mem_cons_self ..))]
          exact e2
        have sD : ∀ {H2 : Hp}, Grow pot H1 H2 → Same (less H1 M) (less H2 (D :: M)) := fun gr a o e => by
          obtain ⟨e1, e2⟩ := less_some.mp e
          refine less_some.mpr ⟨fun m => ?_, gr a o (fun z => e1 (I.pm a z)) e2⟩
          rcases List.mem_cons.mp m with z | m
          · exact ne_of_none e2 hD z
          · exact e1 m
        refine dc_it W.walk (fun i H2 => ∃ π2 kvs dsa, Grow pot H1 H2 ∧ PotAt pot H2 π2 ∧ H2 D = some (.dT kvs) ∧ RpL X.mg X.K (less H2 (D :: M)) (kvs.map (·.2)) dsa ∧ kvs.length ≤ i ∧
            dcGo fg ft fk fv (wipeD ρ vs) (items.drop i) (kvs.map fun q => (.inr q.1 : DKey)) dsa π2 = .ok ((ks9, xs9), π9))
          ⟨π0, [], [], gD .refl, pD p1, upd_same, .nil, Nat.le_refl _, by rw [List.drop_zero]; exact et⟩ (fun i H2 _ ⟨_, _, _, gr, _⟩ => W.stay H2 (D :: M) (fun _ => gr) (sD gr)) ?_ ?_
        · rintro i xv H2 H3 hlt ⟨π2, kvs, dsa, gr, pr, hDv, rr, hle, hgo⟩ hy
          have I2 := I1.under hD gr pr (.of hDv fun _ e => by cases e)
          obtain ⟨sm, d, hd, rd⟩ := W.item i H2 xv H3 (D :: M) (fun _ => gr) (sD gr) I2.al hlt hy
          have gr3 : Grow pot H1 H3 := gr.trans (.of_same sm)
          have pr3 := pr.same sm
          have hDv3 := sm _ _ hDv
          have I3 := (I1.under hD gr3 pr3 (.of hDv3 fun _ e => by cases e)).wipe hΓ
          have rr3 := rr.mono (less_grow I2.pm (.of_same sm))
          have edr : items.drop i = d :: items.drop (i + 1) := by
            rw [List.drop_eq_getElem_cons hlt]
            congr 1
            have := List.getElem?_eq_getElem hlt
            rw [hd] at this
            exact (Option.some.inj this).symm
          rw [edr] at hgo
          unfold dcGo at hgo
          cases e1 : fg d (wipeD ρ vs) with
          | none => rw [e1] at hgo; cases hgo
          | some ρ1 =>
            rw [e1] at hgo
            simp only [ofO_some, Res.bind_ok] at hgo
            refine hg pot (D :: M) _ H3 _ xv d I3 rd ρ1 e1 _ fun σ2 I4 so _ => ⟨wipe_of (by rw [I4.ls, I1.ls]) hv so, ?_⟩
            refine ht pot (D :: M) σ2 H3 ρ1 π2 I4 pr3 _ ?_
            cases e2 : ft ρ1 π2 with
            | err c ns xs p => rw [e2] at hgo; cases hgo
            | stuck => rw [e2] at hgo; cases hgo
            | ok b =>
              obtain ⟨b, π3⟩ := b
              rw [e2] at hgo
              simp only [safe_ok, Res.bind_ok] at hgo
              intro H4 g4 p4
              have gr4 := gr3.trans g4
              have hDv4 := g4 D _ nD hDv3
              have rr4 := rr3.mono (less_grow I4.pm g4)
              refine ⟨fun eb => ?_, fun eb => ?_⟩
              · subst eb
                rw [if_neg Bool.false_ne_true] at hgo
                exact ⟨π3, kvs, dsa, gr4, p4, hDv4, rr4, Nat.le_succ_of_le hle, hgo⟩
              · subst eb
                rw [if_pos rfl] at hgo
                have I5 := I4.grow g4 p4
                refine hk pot (D :: M) σ2 H4 ρ1 π3 I5 p4 _ ?_
                cases e3 : fk ρ1 π3 with
                | err c ns xs p => rw [e3] at hgo; cases hgo
                | stuck => rw [e3] at hgo; cases hgo
                | ok y =>
                  obtain ⟨y, π4⟩ := y
                  rw [e3] at hgo
                  simp only [safe_ok, Res.bind_ok] at hgo
                  intro yv H5 g5 p5 ry
                  have I6 := I5.grow g5 p5
                  refine he pot (D :: M) σ2 H5 ρ1 π4 I6 p5 _ ?_
                  cases e4 : fv ρ1 π4 with
                  | err c ns xs p => rw [e4] at hgo; cases hgo
                  | stuck => rw [e4] at hgo; cases hgo
                  | ok z =>
                    obtain ⟨z, π5⟩ := z
                    rw [e4] at hgo
                    simp only [safe_ok, Res.bind_ok] at hgo
                    intro zv H6 g6 p6 rz
                    cases e5 : tkey y with
                    | none => rw [e5] at hgo; cases hgo
                    | some kk =>
                      rw [e5] at hgo
                      simp only [ofO_some, Res.bind_ok] at hgo
                      have ry6 : Rp X.mg X.K (less H6 (D :: M)) yv y := Rp.mono (less_grow I6.pm g6) ry
                      obtain ⟨bb, rfl, hb⟩ := tkey_at (.inl ry6 : Rb X.mg X.K pot (D :: M) H6 yv y) e5
                      have gr6 := (gr4.trans g5).trans g6
                      have hDv6 := g6 D _ nD (g5 D _ nD hDv4)
                      have rr6 := (rr4.mono (less_grow I5.pm g5)).mono (less_grow I6.pm g6)
                      obtain ⟨u1, u2⟩ := put_at (k := kk) rz rr6
                      rw [u1] at hgo
                      refine ⟨kvs, kk, bb, rfl, hb, hDv6, by omega, π5, _, _, gD gr6, pD p6, upd_same, u2.mono lD, ?_, hgo⟩
                      have := length_putK kvs kk zv
                      omega
        · rintro H2 ⟨π2, kvs, dsa, gr, pr, hDv, rr, hle, hgo⟩
          rw [List.drop_length] at hgo
          simp only [dcGo, Res.ok.injEq, Prod.mk.injEq] at hgo
          obtain ⟨⟨rfl, rfl⟩, rfl⟩ := hgo
          refine h (.ref D) H2 (g1.trans gr) pr ⟨D, rfl, ?_, nD, _, hDv, .dicT rr⟩
          cases e : H D with
          | none => rfl
          | some o =>
            rw [g1 D o nD e] at hD
            cases hD
    · rw [if_neg hz] at h
      exact h.elim
/-- {key: value for .. in .. if ..} -/
theorem de_dc {w : Bool} {kx vx tg iter : Expr} {ifs : List Expr} {scope : Scope} {own : List (Str × Nat)} {wi : TI} {fi : Ei} {is : List Nat} {fg : D → Rho → Option Rho} {ft : Et} {fk fv : Ed} (x : XOk X E k) (hi : DI w X E Γ tg iter wi fi) (ok : BlkOk X.N X.env.scope scope own)
    (hg : ∀ (s : Shared) (H : Hp) (C : Addr) (cl : List (Str × Addr)) (fp : List Addr), ∃ g, DG (X.blk s H scope (compEnvC scope cl C X.env) fp) Γ tg is g fg)
    (ht : ∀ (s : Shared) (H : Hp) (C : Addr) (cl : List (Str × Addr)) (fp : List Addr), ∃ tt, DTs (X.blk s H scope (compEnvC scope cl C X.env) fp) E0 Γ ifs tt ft)
    (hk : ∀ (s : Shared) (H : Hp) (C : Addr) (cl : List (Str × Addr)) (fp : List Addr), ∃ te, DE (X.blk s H scope (compEnvC scope cl C X.env) fp) E0 .f Γ kx te fk)
    (he : ∀ (s : Shared) (H : Hp) (C : Addr) (cl : List (Str × Addr)) (fp : List Addr), ∃ te, DE (X.blk s H scope (compEnvC scope cl C X.env) fp) E0 .f Γ vx te fv)
    (hv : ∀ i ∈ is, i ∈ own.map (·.2) := by decide) (hΓ : ∀ i ∈ own.map (·.2), Γ[i]? = some .f := by decide) (hs : ∀ x, foldedSetIterable iter X.env x = pure x := by intro _; rfl) :
    DE X E .o Γ (.DictComp kx vx [⟨tg, iter, ifs, 0⟩] scope pos) (tDcT wi (canG X.mg X.K Γ is fg) (canT X.mg X.K E0 Γ ft) (canE X.mg X.K E0 .f Γ fk) (canE X.mg X.K E0 .f Γ fv) (own.map (·.2))) (eDC fi fg ft fk fv (own.map (·.2))) := by
  have hg' : ∀ (s : Shared) (H : Hp) (C : Addr) (cl : List (Str × Addr)) (fp : List Addr), DG (X.blk s H scope (compEnvC scope cl C X.env) fp) Γ tg is (canG X.mg X.K Γ is fg) fg := fun s H C cl fp => by
    obtain ⟨g, h⟩ := hg s H C cl fp
    exact h.can
  have ht' : ∀ (s : Shared) (H : Hp) (C : Addr) (cl : List (Str × Addr)) (fp : List Addr), DTs (X.blk s H scope (compEnvC scope cl C X.env) fp) E0 Γ ifs (canT X.mg X.K E0 Γ ft) ft := fun s H C cl fp => by
    obtain ⟨g, h⟩ := ht s H C cl fp
    exact h.can
  have hk' : ∀ (s : Shared) (H : Hp) (C : Addr) (cl : List (Str × Addr)) (fp : List Addr), DE (X.blk s H scope (compEnvC scope cl C X.env) fp) E0 .f Γ kx (canE X.mg X.K E0 .f Γ fk) fk := fun s H C cl fp => by
    obtain ⟨g, h⟩ := hk s H C cl fp
    exact h.can
  have he' : ∀ (s : Shared) (H : Hp) (C : Addr) (cl : List (Str × Addr)) (fp : List Addr), DE (X.blk s H scope (compEnvC scope cl C X.env) fp) E0 .f Γ vx (canE X.mg X.K E0 .f Γ fv) fv := fun s H C cl fp => by
    obtain ⟨g, h⟩ := he s H C cl fp
    exact h.can
  exact ⟨pe_dcT x.calm x.nd x.u0 hi.pi ok (fun s H C cl fp => (hg' s H C cl fp).pg) (fun s H C cl fp => (ht' s H C cl fp).pts) (fun s H C cl fp => (hk' s H C cl fp).pe) (fun s H C cl fp => (he' s H C cl fp).pe) hs,
    fun pot M σ H ρ π I p Q h => sem_dcAt (fun R q => hi.sem pot M σ H ρ π I p R q) (hg' X.s_0 X.H_0 0 [] []).sem hv hΓ (ht' X.s_0 X.H_0 0 [] []).sem (hk' X.s_0 X.H_0 0 [] []).sem (he' X.s_0 X.H_0 0 [] []).sem I p Q h⟩
end
end DL
set_option maxHeartbeats 4000000
namespace DL
open PySem PySem.Spec PyProof.Rows L2
section
variable {prog : Program} {w : World} {A : Around} {E : Value → Shared → Prop} {s : Shared}
theorem swo_rank (r : Value → Int) : SrtO.Swo fun v u => decide (r v < r u) where
  asym := fun x y h => by
    simp only [decide_eq_true_eq, decide_eq_false_iff_not] at *
    omega
  tr := fun x y z h1 h2 => by
    simp only [decide_eq_false_iff_not] at *
    omega
theorem tups_sortable {a : Addr} {vs : List Value} {d : Nat} {B : Int} (h2 : 2 ≤ vs.length) (hd : 1 ≤ d) (ok : TS.TupsOk s.heap d B vs) (r : Value → Int) (hr : ∀ v, v ∈ vs → ∀ ns, TS.TupInts s.heap v ns → r v = TS.code B ns)
    (ha : ∀ o, s.heap.get? a = some o → o.cls ≠ .type "tuple") : SrtO.SortableO prog w A s a vs fun v u => decide (r v < r u) := fun h' hk => by
  have keep : ∀ (b : Addr) (o : Obj), s.heap.get? b = some o → o.cls = .type "tuple" → h'.get? b = some o := fun b o e c => hk b o (fun z => ha o (by rw [← z]; exact e) c) e
  have ok' := ok.keeps keep
  obtain ⟨fs, f1, f2, f3⟩ := TS.firsts_of hd vs ok'
  refine ⟨tuples' (Value.type "int" != Value.type "tuple"), fun Q E q => PySem.W.kat_kind (s := { s with heap := h' }) (T := .type "int") f1 (by omega) (fun v hv => ?_) (by rfl) q, fun p q hp hq => ?_⟩
  · obtain ⟨n, t, rfl⟩ := f3 v hv
    exact PySem.W.Looks.of_pure rfl
  · obtain ⟨ns, t1, l1, b1⟩ := ok p.1 hp
    obtain ⟨ms, t2, l2, b2⟩ := ok q.1 hq
    have e1 := hr _ hp ns t1
    have e2 := hr _ hq ms t2
    obtain ⟨x, xs, ex, ⟨ox, gx, cx, nx, dx⟩, ix⟩ := t1.keeps keep
    obtain ⟨y, ys, ey, ⟨oy, gy, cy, ny, dy⟩, iy⟩ := t2.keeps keep
    have hs : xs.size = ys.size := by
      have := ix.length
      have := iy.length
      simp only [Array.length_toList] at *
      omega
    show wpAny _ _ (keyLt' _ p.1 q.1) (fun r' s' => s' = { s with heap := h' } ∧ r' = decide (r p.1 < r q.1)) _ _
    rw [e1, e2, ex, ey]
    refine PySem.W.kat_lt gx dx gy dy ?_
    rw [show decide (xs.size < ys.size) = false by simp; omega]
    exact TS.lex_ints 0 ix iy (by omega) b1 b2 ⟨rfl, rfl⟩
theorem args_sortedR (a : Value) : argsOk "sorted" ⟨[a], [("reverse", .bool true)]⟩ := by unfold argsOk; kernel_rfl
theorem args_sortR (a : Value) : argsOk "list.sort" ⟨[a], [("reverse", .bool true)]⟩ := by unfold argsOk; kernel_rfl
/-- sorted(d, reverse=True) -/
theorem sorted_dictR {l : Addr} {es : Array DictEntry} {ep d : Nat} {B : Int} {Q : Value → Shared → Prop} (hh : A.handled = none) (hS : (l == sysModules) = false) (hraw : s.heap.DictRaw l es ep) (hz : es.size ≤ sizeLine) (hd : 1 ≤ d)
    (ok : TS.TupsOk s.heap d B (es.toList.map (·.key))) (r : Value → Int) (hr : ∀ v, v ∈ es.toList.map (·.key) → ∀ ns, TS.TupInts s.heap v ns → r v = TS.code B ns)
    (h : ∀ (out : List Value) (h1 h' : Heap) (tk ep' : Nat), out.Perm (es.toList.map (·.key)) → out.Pairwise (fun u v => r v ≤ r u) → (∀ b o, s.heap.get? b = some o → h1.get? b = some o) → (∀ b o, h1.get? b = some o → h'.get? b = some o) →
      h'.get? h1.objs.size = some (seqObj "list" out.toArray ep') → Q (.ref h1.objs.size) { s with heap := h', toks := tk }) :
    wpAny (model prog w) A (call (.builtin "sorted") [.ref l] [("reverse", .bool true)]) Q E s := by
  refine PyProof.Rows.call_function_entry_kw kind_sorted plain_sorted entry_sorted (args_sortedR _) ?_
  unfold Builtin.«sorted»
  refine wpAny_bind (m := checkCount "sorted" 1 1 _) (wpAny_pure ?_)
  refine wpAny_bind (PySem.W.kdu_collect (KdlSrc.rawDict hS) hh hraw hz fun h1 tk acc hk hi => ?_)
  have hacc : acc.toList = es.toList.map (·.key) := by
    obtain ⟨i1, i2⟩ := hi
    apply List.ext_getElem?
    intro j
    by_cases hj : j < acc.size
    · obtain ⟨hj2, e⟩ := i2 j acc[j] (by simp [hj])
      rw [List.getElem?_map]
      simp only [Array.getElem?_toList]
      rw [Array.getElem?_eq_getElem hj, Array.getElem?_eq_getElem hj2, e]
      rfl
    · rw [List.getElem?_eq_none (by simpa using hj), List.getElem?_eq_none (by simp; omega)]
  rw [hacc]
  generalize hvs : es.toList.map (·.key) = vs at *
  have hlen : vs.length = es.size := by rw [← hvs]; simp
  refine wpAny_bind (wpAny_newList ?_ (by omega))
  have hoL : (h1.push (seqObj "list" vs.toArray 0)).get? h1.objs.size = some (seqObj "list" vs.toArray 0) := Heap.get?_push_size _ rfl
  have up : ∀ b o, s.heap.get? b = some o → (h1.push (seqObj "list" vs.toArray 0)).get? b = some o := fun b o e => Heap.get?_push_of_some _ (hk b o e)
  refine wpAny_bind (wpAny_holding (PyProof.Rows.wpAny_call_entry_kw slot_list_sort ⟨_, hoL, rfl⟩ entry_list_sort (SrtR.list_sort_ordR (swo_rank r) hoL (by omega) (fun h2 => tups_sortable h2 hd (ok.keeps fun b o e _ => up b o e) r (fun v hv ns t => ?_) fun o e => by rw [hoL] at e; cases e; simp [seqObj]) fun out hs hb => ⟨_, rfl, ?_⟩) (args_sortR _)))
  · obtain ⟨ms, t2, -, -⟩ := ok v hv
    have e1 := (t2.keeps (h' := h1.push (seqObj "list" vs.toArray 0)) fun b o e _ => up b o e).ints
    have e2 := t.ints
    have e3 : ms = ns := e1.symm.trans e2
    exact hr v hv ns (e3 ▸ t2)
  · obtain ⟨e, he⟩ := sortedHeap_at (out := out.reverse.toArray) hoL
    refine wpAny_pure ⟨_, rfl, ?_⟩
    have eo : (if true = true then out.toArray.reverse else out.toArray) = out.reverse.toArray := by simp
    rw [eo]
    refine h out.reverse h1 _ tk e ?_ ?_ hk (fun b o eb => ?_) he
    · exact (List.reverse_perm out).trans (hb.perm.trans (by simp))
    · rw [List.pairwise_reverse]
      exact hs.imp fun {x y} hxy => by simpa using hxy
    · rw [sortedHeap_old (fun z => absurd (Heap.lt_size eb) (by rw [z]; exact Nat.lt_irrefl _)) (Nat.lt_of_lt_of_le (Heap.lt_size eb) (by rw [Heap.size_push]; exact Nat.le_succ _))]
      exact Heap.get?_push_of_some _ eb
end
/-- the ints of a key -/
def intsK (k : List Key) : List Int := k.map fun x => match x with | .inl i => i | .inr _ => 0
theorem intsK_kV {k : List Key} (h : kInts (.inr k) = true) : k.map kV = (intsK k).map V.int := by
  unfold intsK
  rw [List.map_map]
  refine List.map_congr_left fun x hx => ?_
  have := List.all_eq_true.mp h x hx
  cases x with
  | inl i => rfl
  | inr y => cases this
theorem perm_map_ex {α β : Type} (f : α → β) : ∀ {out l : List β}, out.Perm l → ∀ ys : List α, l = ys.map f → ∃ zs : List α, zs.Perm ys ∧ out = zs.map f := by
  intro out l p
  induction p with
  | nil =>
    intro ys e
    exact ⟨[], by rw [List.map_eq_nil_iff.mp e.symm], rfl⟩
  | cons x _ ih =>
    intro ys e
    cases ys with
    | nil => cases e
    | cons y ys =>
      rw [List.map_cons, List.cons.injEq] at e
      obtain ⟨zs, h1, h2⟩ := ih ys e.2
      exact ⟨y :: zs, h1.cons y, by rw [List.map_cons, h2, e.1]⟩
  | swap x y l =>
    intro ys e
    match ys, e with
    | a :: b :: ys, e =>
      rw [List.map_cons, List.map_cons, List.cons.injEq, List.cons.injEq] at e
      exact ⟨b :: a :: ys, .swap _ _ _, by rw [List.map_cons, List.map_cons, e.1, e.2.1, e.2.2]⟩
    | [], e => cases e
    | [a], e => cases e
  | trans _ _ ih1 ih2 =>
    intro ys e
    obtain ⟨zs, h1, h2⟩ := ih2 ys e
    obtain ⟨ws, h3, h4⟩ := ih1 zs h2
    exact ⟨ws, h3.trans h1, h4⟩
/-- the keys can be sorted -/
def fitK (d : Nat) (k : List Key) : Bool := kInts (.inr k) && fitT d (intsK k)
def rSortD (d : Nat) : List V → List V → Hp → VK → Prop := fun xs zs H Q => ∃ (a : Addr) (kvs : List (List Key × V)), xs = [V.ref a] ∧ zs = [V.bl true] ∧ Rd H a (.dT kvs) ∧ kvs.all (fun p => fitK d p.1) = true ∧
  ∀ (bs : List (Addr × List Key)) (p : Addr), (bs.map (·.2)).Perm (kvs.map (·.1)) → (bs.map fun y => intsK y.2).Pairwise (fun x y => leT y x) → (∀ y ∈ bs, H y.1 = some (.tup (y.2.map kV))) → H p = none → Q (.ref p) (upd H p (.lst (bs.map fun y => V.ref y.1)))
theorem cr_sortD {X : Cx} {d : Nat} (hc : X.A.handled = none) (hd : 1 ≤ d) : CallRK X (.builtin "sorted") ["reverse"] (rSortD d) := fun pins s σ H xs zs us ws Q I rl rz h => by
  obtain ⟨a, kvs, rfl, rfl, hr, hf, q⟩ := h
  cases rl with
  | cons r1 rl =>
    cases rl
    cases rz with
    | cons r2 rz =>
      cases rz
      obtain rfl : _ = Value.ref a := r1
      obtain rfl : _ = Value.bool true := r2
      obtain ⟨h1, h2, ys, h3, h4⟩ := dt_rd I.hok hr
      have hl := h3.length
      have hk : ys.map (·.1) = kvs.map (·.1) := by
        clear h4 hl hr hf q h1
        induction h3 with
        | nil => rfl
        | cons a _ ih => rw [List.map_cons, List.map_cons, ih, a.1]
      have hat : ∀ y ∈ ys, H y.2.1 = some (.tup (y.1.map kV)) := by
        clear h4 hl hr hf q h1 hk
        induction h3 with
        | nil => intro y hy; cases hy
        | cons a _ ih =>
          intro y hy
          rcases List.mem_cons.mp hy with rfl | hy
          · rw [← a.1]
            exact a.2.1
          · exact ih y hy
      have hfy : ∀ y ∈ ys, fitK d y.1 = true := fun y hy => by
        have : y.1 ∈ kvs.map (·.1) := by rw [← hk]; exact List.mem_map.mpr ⟨y, hy, rfl⟩
        obtain ⟨p, hp, e⟩ := List.mem_map.mp this
        rw [← e]
        exact List.all_eq_true.mp hf p hp
      have tI : ∀ y ∈ ys, TS.TupInts s.heap (.ref y.2.1) (intsK y.1) := fun y hy => by
        obtain ⟨f1, f2⟩ := Bool.and_eq_true_iff.mp (hfy y hy)
        refine tupI_raw I (.inl (.inl ?_))
        rw [← intsK_kV f1]
        exact hat y hy
      obtain ⟨es, ep, hraw, hs, hes⟩ := h4.raw
      have hkeys : es.toList.map (·.key) = ys.map fun y => Value.ref y.2.1 := by
        apply List.ext_getElem?
        intro j
        rw [List.getElem?_map, List.getElem?_map]
        by_cases hj : j < es.size
        · obtain ⟨y, e1, e2, -⟩ := hes j hj
          simp only [Array.getElem?_toList]
          rw [Array.getElem?_eq_getElem hj, e1]
          exact congrArg some e2
        · rw [List.getElem?_eq_none (by simpa using hj), List.getElem?_eq_none (by omega)]
          rfl
      have keyIn : ∀ v, v ∈ es.toList.map (·.key) → ∃ y ∈ ys, v = .ref y.2.1 := fun v hv => by
        rw [hkeys] at hv
        obtain ⟨y, hy, e⟩ := List.mem_map.mp hv
        exact ⟨y, hy, e.symm⟩
      refine sorted_dictR hc h2 hraw (by omega) hd (B := 1024) (fun v hv => ?_) (fun v => TS.code 1024 (TS.intsOf s.heap v)) (fun v hv ns t => by rw [t.ints]) fun out hp1 hp' tk ep' hpm hpw k1 k2 hq => ?_
      · obtain ⟨y, hy, rfl⟩ := keyIn v hv
        obtain ⟨f1, f2⟩ := Bool.and_eq_true_iff.mp (hfy y hy)
        obtain ⟨b1, b2⟩ := fitT_bd f2
        exact ⟨intsK y.1, tI y hy, b1, b2⟩
      · obtain ⟨zs, z1, z2⟩ := perm_map_ex (fun y : List Key × Addr × Value => Value.ref y.2.1) hpm ys hkeys
        have I1 : L2.Inv X pins σ H { s with heap := hp1, toks := s.toks } := I.kept k1
        have mz : ∀ y ∈ zs, y ∈ ys := fun y hy => z1.mem_iff.mp hy
        refine ⟨.ref hp1.objs.size, _, I1.laid (a := hp1.objs.size) (o := .lst ((zs.map fun y => (y.2.1, y.1)).map fun y => V.ref y.1)) k2 (Nat.le_refl _) ?_, rfl, q (zs.map fun y => (y.2.1, y.1)) _ ?_ ?_ ?_ I1.fresh⟩
        · unfold L2.ObjOk
          refine ⟨?_, out, ep', ?_, hq⟩
          · rw [List.length_map, List.length_map, z1.length_eq]
            omega
          · rw [z2]
            clear z2 z1 hpm hpw hq q mz
            induction zs with
            | nil => exact .nil
            | cons z zs ih => exact .cons rfl ih
        · rw [List.map_map, ← hk]
          exact z1.map _
        · rw [List.map_map]
          rw [z2, List.pairwise_map] at hpw
          rw [List.pairwise_map]
          refine hpw.imp_of_mem fun {x y} hx hy hxy => ?_
          rw [(tI y (mz y hy)).ints, (tI x (mz x hx)).ints] at hxy
          exact hxy
        · intro y hy
          obtain ⟨z, hz, rfl⟩ := List.mem_map.mp hy
          exact hat z (mz z hz)
end DL
set_option maxHeartbeats 4000000
namespace DL
open PySem PySem.Spec PyProof.Rows L2
def keyZ : DKey → List Int
  | .inr k => intsK k
  | _ => []
def fitD (d : Nat) : DKey → Bool
  | .inr k => fitK d k
  | _ => false
/-- the keys, falling -/
def fSortD (d : Nat) : D → Option D
  | .dic ks _ => if isTd ks = true ∧ ks.all (fitD d) = true then some (.lst ((sortT (ks.map keyZ)).reverse.map tupZ)) else none
  | _ => none
def eSortD (d : Nat) (fa : Ed) : Ed := fun ρ π => (fa ρ π).bind fun x => (ofO (fSortD d x.1)).bind fun y => .ok (y, x.2)
section
variable {X : Cx} {E : XK} {Γ : List Md} {ra : Rm} {k : Nat} {a : Expr} {ta : TE} {fa : Ed} {mg : Str → Option Value} {K : PySem.W.Frag} {pot : Option Addr} {M : List Addr} {H : Hp}
theorem rp_key {b : Addr} {key : List Key} {d : Nat} (al : ∀ a ∈ M, Al H a) (hb : H b = some (.tup (key.map kV))) (hf : fitK d key = true) : Rp mg K (less H M) (.ref b) (tupZ (intsK key)) := by
  obtain ⟨f1, -⟩ := Bool.and_eq_true_iff.mp hf
  refine .tup (vs := key.map kV) (less_some.mpr ⟨fun m => ?_, hb⟩) ?_
  · obtain ⟨o, h1, h2⟩ := al b m
    rw [hb] at h1
    cases h1
    exact h2 _ rfl
  · rw [intsK_kV f1]
    exact RpL.of_ints _
theorem rpl_keys {d : Nat} (al : ∀ a ∈ M, Al H a) : ∀ {bs : List (Addr × List Key)}, (∀ y ∈ bs, H y.1 = some (.tup (y.2.map kV))) → (∀ y ∈ bs, fitK d y.2 = true) → RpL mg K (less H M) (bs.map fun y => V.ref y.1) ((bs.map fun y => intsK y.2).map tupZ)
  | [], _, _ => .nil
  | y :: bs, h1, h2 => .cons (rp_key al (h1 y (List.mem_cons_self ..)) (h2 y (List.mem_cons_self ..))) (rpl_keys al (fun z hz => h1 z (List.mem_cons_of_mem _ hz)) fun z hz => h2 z (List.mem_cons_of_mem _ hz))
theorem sortD_ok {d : Nat} {v : V} {x z : D} (hz : fSortD d x = some z) (al : ∀ a ∈ M, Al H a) (ph : ∀ a, pot = some a → H a ≠ none) (h : Rb mg K pot M H v x) {Q : VK}
    (q : ∀ w H', Same H H' → RpR mg K .o pot M H H' w z → Q w H') : rSortD d [v] [V.bl true] H Q := by
  cases x with
  | dic ks xs =>
    simp only [fSortD] at hz
    split at hz
    · rename_i hc
      cases hz
      obtain ⟨p, kvs, rfl, h1, rfl, r1⟩ := rb_dicT hc.1 h
      have hall : ∀ q ∈ kvs, fitK d q.1 = true := fun q hq => List.all_eq_true.mp hc.2 _ (List.mem_map.mpr ⟨q, hq, rfl⟩)
      refine ⟨p, kvs, rfl, rfl, h1, List.all_eq_true.mpr hall, fun bs l hp hs hb hn => ?_⟩
      have hfb : ∀ y ∈ bs, fitK d y.2 = true := fun y hy => by
        obtain ⟨q, hq, e⟩ := List.mem_map.mp (hp.mem_iff.mp (List.mem_map.mpr ⟨y, hy, rfl⟩))
        rw [← e]
        exact hall q hq
      have ek : ((kvs.map fun q => (.inr q.1 : DKey)).map keyZ) = (kvs.map (·.1)).map intsK := by
        rw [List.map_map, List.map_map]
        rfl
      have eq : (bs.map fun y => intsK y.2) = (sortT ((kvs.map fun q => (.inr q.1 : DKey)).map keyZ)).reverse := by
        rw [ek, ← List.reverse_inj (xs := (bs.map fun y => intsK y.2)), List.reverse_reverse]
        refine sorted_T (d := d) ?_ (List.pairwise_reverse.mpr hs) (sortT_sorted _) fun x hx => ?_
        · refine (List.reverse_perm _).trans (List.Perm.trans ?_ (sortT_perm _).symm)
          have := hp.map intsK
          rw [List.map_map] at this
          exact this
        · have hx := (sortT_perm _).mem_iff.mp hx
          obtain ⟨k', hk', e⟩ := List.mem_map.mp hx
          obtain ⟨q, hq, rfl⟩ := List.mem_map.mp hk'
          rw [← e]
          exact (Bool.and_eq_true_iff.mp (hall q hq)).2
      have r := rpl_keys (mg := mg) (K := K) al hb hfb
      rw [eq] at r
      exact q _ _ (same_upd hn) (new_lst ph hn r)
    · cases hz
  | _ => simp [fSortD] at hz
/-- sorted(a, reverse=True) of a dict -/
theorem de_sortD (d : Nat) {x : Str} {p cp kp pos : Pos} {j : Nat} (x0 : XOk X E k) (ha : DE X E ra Γ a ta fa) (hm : X.mg x = none) (hd : 1 ≤ d := by decide) (hg : Gl X x := by rfl) (hv : bootBuiltins x = some (.builtin "sorted") := by decide +kernel) (hn : x ≠ "__name__" := by decide) (hdb : (x == ("__debug__" : Str)) = false := by decide)
    (h3 : backTo pos (starEach [a] X.env) = (false, eval a X.env) :: backTo pos (starEach [] X.env) := by rfl) (h4 : ((backTo pos (starEach [a] X.env)).any fun x => x.1) = false := by rfl)
    (h5 : ((backToKw pos (keywordEach [⟨some "reverse", .Constant (.bool true) j cp, kp⟩] X.env)).all fun x => x.1.isSome) = true := by rfl) (h6 : ((backToKw pos (keywordEach [⟨some "reverse", .Constant (.bool true) j cp, kp⟩] X.env)).any fun x => x.1.isNone) = false := by rfl)
    (h7 : (backToKw pos (keywordEach [⟨some "reverse", .Constant (.bool true) j cp, kp⟩] X.env)).filterMap (fun x => x.1) = [("reverse" : Str)] := by rfl) (hs : starEach [a] X.env = (false, eval a X.env) :: starEach [] X.env := by rfl) :
    DE X E .o Γ (.Call (.Name x p) [a] [⟨some "reverse", .Constant (.bool true) j cp, kp⟩] pos) (tCKw (rSortD d) (tCons ta tNil) (tCons (tC (.bl true)) tNil)) (eSortD d fa) :=
  ⟨pe_callBK (cr_sortD x0.room.hd hd) hg hm hv (pa_cons ha.pe pa_nil hs) (pk_cons pe_bl pk_nil) hn hdb h3 h4 h5 h6 h7, fun pot M σ H ρ π I p Q h => by
    unfold eSortD at h
    refine Post.seq (r' := ra) (te := ta σ H) h p (fun Q' hq => ha.sem pot M σ H ρ π I p Q' hq) fun d1 π1 v H1 _ g1 p1 r1 h1 => ?_
    cases ez : fSortD d d1 with
    | none =>
      simp only [ez, ofO_none, Res.bind_stuck] at h1
      exact h1.elim
    | some z =>
      simp only [ez, ofO_some, Res.bind_ok] at h1
      exact sortD_ok ez (I.grow g1 p1).al p1.has r1.toB fun w H' s q => h1 w H' (.of_same s) (p1.same s) (q)⟩
end
end DL
set_option maxHeartbeats 4000000
namespace DL
open PySem PySem.Spec PyProof.Rows L2
/-- one entry, written out -/
def tDisp1 (tk tv : TE) : TE := fun σ H Q => ∀ p, H p = none → tk σ (upd H p (.dT [])) fun kx Ha => tv σ Ha fun vx Hb => ∃ key b, kx = .ref b ∧ Hb b = some (.tup (key.map kV)) ∧ Hb p = some (.dT []) ∧ Q (.ref p) (upd Hb p (.dT [(key, vx)]))
theorem pe_disp1T {X : Cx} {kx vx : Expr} {tk tv : TE} {pos : Pos} (hu : X.A.units < cLine) (hk : PE X kx tk) (hv : PE X vx tv) : PE X (.Dict [some kx] [vx] pos) (tDisp1 tk tv) := ⟨fun pins s σ H Q I q => by
  have q := q s.heap.objs.size I.fresh
  have I1 : L2.Inv X pins σ (upd H s.heap.objs.size (.dT [])) { s with heap := s.heap.push { cls := .type "dict", data := .dict #[] } } :=
    I.laid (t' := s.toks) (fun b u e => Heap.get?_push_of_some _ e) (Nat.le_refl _) (dt_empty _ I.big)
  rw [arm_eval_Dict]
  refine wpAny_bind (wpAny_standAt ?_)
  show wpAny _ _ (dictDisplay ([(eval kx X.env, do let x ← eval vx X.env; standAt pos; pure x)].map fun p => (some p.1, p.2))) _ _ _
  rw [dictDisplay_pairs _ (by simp) (by simp)]
  refine wpAny_bind (wpAny_subDictH (knd := tupleKind (mixKind X.prog X.w)) hu (by simp) ?_)
  show wpAny _ _ (do
    let kv ← eval kx X.env
    let vv ← holding [kv] (do let x ← eval vx X.env; standAt pos; pure x)
    let r ← holding [kv, vv] (pure [])
    pure ((kv, vv) :: r)) _ _ _
  refine wpAny_bind (wpAny_mono (hk.run pins _ σ _ _ I1 q) (fun kv s1 h1 => ?_) fun _ _ h => h)
  obtain ⟨ky, Ha, Ia, rk, q1⟩ := h1
  refine wpAny_bind (wpAny_holding (wpAny_bind (wpAny_mono (hv.run pins s1 σ Ha _ Ia q1) (fun vv s2 h2 => ?_) fun _ _ h => h)))
  obtain ⟨vy, Hb, Ib, rv, key, b, rfl, e1, e2, q2⟩ := h2
  refine wpAny_bind (wpAny_standAt ?_)
  refine wpAny_pure ?_
  refine wpAny_bind (wpAny_holding ?_)
  refine wpAny_pure ?_
  refine wpAny_pure ?_
  obtain rfl : kv = .ref b := rk
  obtain ⟨h1, h2, ys, h3, h4⟩ := L2.dt_of Ib.hok e2
  cases h3
  refine ⟨[(key, b, vv)], ⟨rfl, rfl, key_of Ib.hok e1, trivial⟩, h4, fun h' tk hd hs => ?_⟩
  rw [storedAllH_app [(key, b, vv)] [] (by simp), List.nil_append] at hd
  obtain ⟨o, es, ep, d1, d2, d3, d4, d5, d6⟩ := hd
  refine wpAny_pure ⟨.ref s.heap.objs.size, _, d_write (ob := .dT [(key, vy)]) Ib (by rw [e2]; trivial) hs ⟨o, d1⟩ ?_, rfl, q2⟩
  unfold L2.ObjOk
  refine ⟨by rw [sizeLine_eq]; simp, h2, [(key, b, vv)], .cons ⟨rfl, ?_, rv⟩ .nil, o, es, ep, d1, d2, d3, d4, d6⟩
  show upd Hb s.heap.objs.size (.dT [(key, vy)]) b = _
  rw [upd_ne fun z => by rw [z, e2] at e1; cases e1]
  exact e1⟩
def eDisp1 (fk fv : Ed) : Ed := fun ρ π => (fk ρ π).bind fun x => (fv ρ x.2).bind fun y => (ofO (tkey x.1)).bind fun k => .ok (.dic [.inr k] [y.1], y.2)
section
variable {X : Cx} {E : XK} {Γ : List Md} {k : Nat} {kx vx : Expr} {tk tv : TE} {fk fv : Ed} {pos : Pos}
/-- {key: value}, a new dict -/
theorem de_disp1 (x0 : XOk X E k) (hk : DE X E .f Γ kx tk fk) (hv : DE X E .f Γ vx tv fv) : DE X E .o Γ (.Dict [some kx] [vx] pos) (tDisp1 tk tv) (eDisp1 fk fv) :=
  ⟨pe_disp1T x0.u0 hk.pe hv.pe, fun pot M σ H ρ π I p Q h q hq => by
    unfold eDisp1 at h
    have np : pot ≠ some q := fun e => p.has q e hq
    have g0 : Grow pot H (upd H q (.dT [])) := .new hq
    have p0 : PotAt pot (upd H q (.dT [])) π := p.new hq
    have I0 : EnvOk X.mg X.K Γ pot (q :: M) σ (upd H q (.dT [])) ρ := I.under hq g0 p0 (.of upd_same fun _ e => by cases e)
    have er : ∀ {c ns xs π'}, PErr X.mg X.K pot M H c ns xs π' E → ∀ {H2 : Hp}, Grow pot H H2 → PErr X.mg X.K pot (q :: M) H2 c ns xs π' E := fun {c ns xs π'} z {H2} g cv dd H3 g3 p3 e => by
      refine z cv dd H3 (g.trans g3) p3 ?_
      obtain ⟨C, e1, e2, e3⟩ := e
      refine ⟨C, e1, e2, e3.imp id ?_⟩
      rintro ⟨a, fs, f1, f2, f3, f4, f5⟩
      exact ⟨a, fs, f1, f2, fun m => f3 (List.mem_cons_of_mem _ m), f4, f5.mono (less_sub fun b m => List.mem_cons_of_mem _ m)⟩
    refine hk.sem pot (q :: M) σ _ ρ π I0 p0 _ ?_
    cases e1 : fk ρ π with
    | stuck => rw [e1] at h; exact h.elim
    | err c ns xs π' => rw [e1] at h; exact er h g0
    | ok x =>
      obtain ⟨x, π1⟩ := x
      rw [e1] at h
      simp only [Res.bind_ok] at h
      intro kv H1 g1 p1 r1
      have I1 := I0.grow g1 p1
      refine hv.sem pot (q :: M) σ H1 ρ π1 I1 p1 _ ?_
      cases e2 : fv ρ π1 with
      | stuck => rw [e2] at h; exact h.elim
      | err c ns xs π' => rw [e2] at h; exact er h (g0.trans g1)
      | ok y =>
        obtain ⟨y, π2⟩ := y
        rw [e2] at h
        simp only [Res.bind_ok] at h
        intro vv H2 g2 p2 r2
        cases e3 : tkey x with
        | none =>
          rw [e3] at h
          exact h.elim
        | some kk =>
          rw [e3] at h
          simp only [ofO_some, Res.bind_ok] at h
          have r1' : Rp X.mg X.K (less H2 (q :: M)) kv x := Rp.mono (less_grow I1.pm g2) r1
          obtain ⟨b, rfl, hb⟩ := tkey_at (.inl r1' : Rb X.mg X.K pot (q :: M) H2 kv x) e3
          have hD : H2 q = some (.dT []) := g2 q _ np (g1 q _ np upd_same)
          have gr : Grow pot H (upd H2 q (.dT [(kk, vv)])) := fun a o n e => by
            rw [upd_ne (ne_of_none e hq)]
            exact (g0.trans (g1.trans g2)) a o n e
          refine ⟨kk, b, rfl, hb, hD, h (.ref q) _ gr (fun a e => ?_) ⟨q, rfl, hq, np, _, upd_same, .dicT (kvs := [(kk, vv)]) (.cons ?_ .nil)⟩⟩
          · rw [upd_ne fun z => np (by rw [e, z])]
            exact p2 a e
          · refine Rp.mono (fun a o e => ?_) r2
            obtain ⟨a1, a2⟩ := less_some.mp e
            refine less_some.mpr ⟨a1, ?_⟩
            rw [upd_ne fun z => a1 (by rw [z]; exact List.mem_cons_self ..)]
            exact a2⟩
end
end DL
set_option maxHeartbeats 4000000
namespace DL
open PySem PySem.Spec PyProof.Rows L2
theorem bin_same {prog : Program} {w : World} {A : Around} {E : Value → Shared → Prop} {s : Shared} {K : PySem.W.Frag} {x y C f : Addr} {ox oy : Obj} {od oe : Option Obj} {op : Operator} {Q : Value → Shared → Prop} (X : K.In s.heap) (I : PySem.W.InstAt s.heap x ox C od) (J : PySem.W.InstAt s.heap y oy C oe) (hc : PySem.W.selfFirst K C = true)
    (hs : PySem.W.findIn K (.ref C) (PySem.dunder op.info.2) = some (some (.ref f))) (hf : PySem.W.isFn K (.ref f) = true) (h : wpAny (model prog w) A (call (.ref f) [.ref x, .ref y]) (PySem.W.CmpBack Q) E s) :
    wpAny (model prog w) A (binaryOp op (.ref x) (.ref y)) Q E s := by
  obtain ⟨cd, rest, hcd, hm⟩ := PySem.W.ksp_first hc
  have one := PySem.W.ksp_try X I hs hf h
  have L1 : PySem.W.Looks (model prog w) s.heap (typeOf (.ref x)) (.ref C) := I.type
  have L2 : PySem.W.Looks (model prog w) s.heap (typeOf (.ref y)) (.ref C) := J.type
  have L3 : PySem.W.Looks (model prog w) s.heap (fillsNumberSlot (.ref C) op.info.2) true := PySem.W.fills_K X hcd hm hs
  rcases hi : op.info with ⟨sym, nm⟩
  rw [hi] at hs L3 one
  dsimp only at hs L3 one
  simp only [binaryOp, hi]
  refine wpAny_holding (wpAny_bind ?_)
  unfold binaryOp1
  refine wpAny_bind (L1.here (wpAny_bind (L2.here (wpAny_bind (L3.here ?_)))))
  simp only [beq_self_eq_true, if_true]
  refine wpAny_bind (wpAny_pure ?_)
  simp only [Bool.and_false, Bool.false_eq_true, if_false, Bool.false_and]
  refine wpAny_bind (wpAny_pure ?_)
  simp only [Bool.false_eq_true, if_false]
  refine wpAny_bind (wpAny_mono one (fun r s' hr => ?_) fun _ _ e => e)
  obtain ⟨v, rfl, hq⟩ := hr
  exact wpAny_pure (wpAny_pure hq)
/-- what an operator of a class wants of it -/
structure SelfF (K : PySem.W.Frag) (mg : Str → Option Value) (c : Str) : Prop where
  ex : ∃ C, mg c = some (.ref C) ∧ PySem.W.selfFirst K C = true
def rOwnB (mg : Str → Option Value) (K : PySem.W.Frag) (E : XK) (r : Rm) (c : Str) (m : Fd) : R2 := fun x y H Q =>
  ∃ C a b da db fa fb, x = .ref a ∧ y = .ref b ∧ mg c = some (.ref C) ∧ H a = some (.ins C da fa) ∧ H b = some (.ins C db fb) ∧ SpD mg K [.f, .f] r m [x, y] H Q E
/-- two things of the class c, by its def -/
def eBinO (c : Str) (m : Fd) (a b : Ed) : Ed := fun ρ π => (a ρ π).bind fun x => (b ρ x.2).bind fun y => if (isInO c x.1 && isInO c y.1) = true then m [x.1, y.1] y.2 else .stuck
section
variable {X : Cx} {E : XK} {Γ : List Md} {pos : Pos} {k j : Nat} {a b : Expr} {ta tb : TE} {fa fb : Ed} {c nm qual : Str} {st : Stmt} {ps : List Str} {m : Fd} {r : Rm}
theorem op_ownB {op : Operator} (F : DMe X.prog X.w X.K X.mg X.base j c nm qual st ps [.f] r m) (q : SelfF X.K X.mg c) (o : XOk X E k)
    (hb : ∀ (kV doc pm : Value) (an : Option Addr) (cdv ct : Value) (us : List Value), us.length = ps.length → bindArgs (PySem.W.fnOf nm qual (defArgs st) (defBody st) (defScope st) .none kV doc pm an cdv ct) ⟨us, []⟩ = pure (ps.zip us))
    (hop : PySem.dunder op.info.2 = nm := by rfl) (hj : j + 1 ≤ k := by decide) : OpR X (binaryOp op) (rOwnB X.mg X.K E r c m) := by
  intro pins s σ H x y v u Q I rx ry hq
  obtain ⟨C, a, b, da, db, fa, fb, rfl, rfl, mC, ha, hb', hsp⟩ := hq
  obtain ⟨C', f, fd, h0, h1, h2, h3, h4⟩ := F.ex
  obtain ⟨C'', e0, hsf⟩ := q.ex
  rw [mC] at h0 e0
  cases h0
  cases e0
  cases rx
  cases ry
  obtain ⟨mA, J, _⟩ := ins_get I.hok ha
  obtain ⟨mB, J', _⟩ := ins_get I.hok hb'
  obtain ⟨od, J, _⟩ := J.look
  obtain ⟨od', J', _⟩ := J'.look
  obtain ⟨mm, hF⟩ := I.fr
  have hl : [Value.ref a, Value.ref b].length = ps.length := by
    have e := h4.len _ _ _ _ hsp
    simpa using e
  have bd : BindsTo s fd ⟨[.ref a, .ref b], ([] : List Str).zip ([] : List Value)⟩ (ps.zip ([.ref a, .ref b] ++ [])) := by
    obtain ⟨oc, od, kV, doc, pm, an, cdv, ct, osl, rfl, lk, hcd⟩ := h3.ex
    rw [List.append_nil]
    exact .of_eq (hb kV doc pm an cdv ct _ hl)
  have r2 : Vals [V.ref a, V.ref b] ([Value.ref a, Value.ref b] ++ []) := .cons rfl (.cons rfl .nil)
  refine bin_same (I.ok.mod.kin.keeps hF.keep) J J' hsf (by rw [hop]; exact h2.at_) h2.fn ?_
  refine wpAny_mono (run_go (args := ⟨[.ref a, .ref b], []⟩) (kn := []) (ws := []) h4 o (Nat.le_of_succ_le hj) bd I r2 hsp) (fun w s' z => ?_) fun _ _ z => z
  obtain ⟨z, H', I', rz, ez⟩ := z
  cases w with
  | notImplemented =>
    exfalso
    cases z with
    | non => cases rz
    | bl _ => cases rz
    | ref _ => cases rz
    | ty _ => cases rz
    | int _ => obtain ⟨_, e⟩ := rz; cases e
    | str _ => obtain ⟨_, e⟩ := rz; cases e
    | byt _ => obtain ⟨_, e⟩ := rz; cases e
    | flt _ => obtain ⟨_, e⟩ := rz; cases e
  | _ => exact ⟨z, H', I', rz, ez⟩
theorem sem_binO {c : Str} {m : Fd} {r : Rm} (ha : SemE X.mg X.K E .f Γ ta fa) (hb : SemE X.mg X.K E .f Γ tb fb) : SemE X.mg X.K E r Γ (tOp (rOwnB X.mg X.K E r c m) ta tb) (eBinO c m fa fb) := by
  intro pot M σ H ρ π I p Q h
  refine Post.seq (r' := .f) (te := ta σ H) h p (fun Q' hq => ha pot M σ H ρ π I p Q' hq) fun d π1 v H1 _ g1 p1 r1 h1 => ?_
  refine Post.seq (r' := .f) (te := tb σ H1) h1 p1 (fun Q' hq => hb pot M σ H1 ρ π1 (I.grow g1 p1) p1 Q' hq) fun e π2 w H2 _ g2 p2 r2' h2 => ?_
  have I2 := (I.grow g1 p1).grow g2 p2
  have r1' : Rp X.mg X.K (less H2 M) v d := Rp.mono (less_grow I.pm g2) r1
  have r2 : Rp X.mg X.K (less H2 M) w e := r2'
  dsimp only at h2
  by_cases hc : (isInO c d && isInO c e) = true
  · rw [if_pos hc] at h2
    obtain ⟨hd, he⟩ := Bool.and_eq_true_iff.mp hc
    cases d with
    | ins c1 n1 x1 =>
      cases e with
      | ins c2 n2 x2 =>
        simp only [isInO, decide_eq_true_eq] at hd he
        subst hd
        subst he
        obtain ⟨a, C, da, fa, rfl, mC, hA, _, _⟩ := rb_ins (.inl r1' : Rb X.mg X.K pot M H2 v _)
        obtain ⟨b, C', db, fb, rfl, mC', hB, _, _⟩ := rb_ins (.inl r2 : Rb X.mg X.K pot M H2 w _)
        rw [mC] at mC'
        cases mC'
        exact ⟨C, a, b, da, db, fa, fb, rfl, rfl, mC, hA, hB, rfl, pot, M, _, π2, .cons r1' (.cons r2 .nil), I2.al, I.pm, p2, h2⟩
      | _ => cases he
    | _ => cases hd
  · rw [if_neg hc] at h2
    exact h2.elim
/-- a + b, a * b .. of own things of one class -/
theorem de_binO {op : Operator} (F : DMe X.prog X.w X.K X.mg X.base j c nm qual st ps [.f] r m) (q : SelfF X.K X.mg c) (o : XOk X E k)
    (hb : ∀ (kV doc pm : Value) (an : Option Addr) (cdv ct : Value) (us : List Value), us.length = ps.length → bindArgs (PySem.W.fnOf nm qual (defArgs st) (defBody st) (defScope st) .none kV doc pm an cdv ct) ⟨us, []⟩ = pure (ps.zip us))
    (ha : DE X E .f Γ a ta fa) (hb2 : DE X E .f Γ b tb fb) (hop : PySem.dunder op.info.2 = nm := by rfl) (hj : j + 1 ≤ k := by decide) : DE X E r Γ (.BinOp a op b pos) (tOp (rOwnB X.mg X.K E r c m) ta tb) (eBinO c m fa fb) :=
  ⟨pe_op (op_ownB F q o hb hop hj) ha.pe hb2.pe, sem_binO ha.sem hb2.sem⟩
def rOwnU (mg : Str → Option Value) (K : PySem.W.Frag) (E : XK) (r : Rm) (c : Str) (m : Fd) : V → Hp → VK → Prop := fun x H Q =>
  ∃ C a da fa, x = .ref a ∧ mg c = some (.ref C) ∧ H a = some (.ins C da fa) ∧ SpD mg K [.f] r m [x] H Q E
def eNegO (c : Str) (m : Fd) (a : Ed) : Ed := fun ρ π => (a ρ π).bind fun x => if isInO c x.1 = true then m [x.1] x.2 else .stuck
theorem op_negO (F : DMe X.prog X.w X.K X.mg X.base j c "__neg__" qual st ps [] r m) (o : XOk X E k)
    (hb : ∀ (kV doc pm : Value) (an : Option Addr) (cdv ct : Value) (us : List Value), us.length = ps.length → bindArgs (PySem.W.fnOf "__neg__" qual (defArgs st) (defBody st) (defScope st) .none kV doc pm an cdv ct) ⟨us, []⟩ = pure (ps.zip us))
    (hj : j + 1 ≤ k := by decide) : UnR X (unaryOp .USub) (rOwnU X.mg X.K E r c m) := by
  intro pins s σ H x u Q I rx hq
  obtain ⟨C, a, da, fa, rfl, mC, ha, hsp⟩ := hq
  obtain ⟨C', f, fd, h0, h1, h2, h3, h4⟩ := F.ex
  rw [mC] at h0
  cases h0
  cases rx
  obtain ⟨mA, J, _⟩ := ins_get I.hok ha
  obtain ⟨od, J, _⟩ := J.look
  obtain ⟨mm, hF⟩ := I.fr
  have hl : [Value.ref a].length = ps.length := by
    have e := h4.len _ _ _ _ hsp
    simpa using e
  have bd : BindsTo s fd ⟨[.ref a], ([] : List Str).zip ([] : List Value)⟩ (ps.zip ([.ref a] ++ [])) := by
    obtain ⟨oc, od, kV, doc, pm, an, cdv, ct, osl, rfl, lk, hcd⟩ := h3.ex
    rw [List.append_nil]
    exact .of_eq (hb kV doc pm an cdv ct _ hl)
  have r2 : Vals [V.ref a] ([Value.ref a] ++ []) := .cons rfl .nil
  refine PySem.W.ksp_neg hF I.ok.mod.kin J h2.at_ h2.fn ?_
  exact run_go (args := ⟨[.ref a], []⟩) (kn := []) (ws := []) h4 o (Nat.le_of_succ_le hj) bd I r2 hsp
/-- - a of an own thing -/
theorem de_negO (F : DMe X.prog X.w X.K X.mg X.base j c "__neg__" qual st ps [] r m) (o : XOk X E k)
    (hb : ∀ (kV doc pm : Value) (an : Option Addr) (cdv ct : Value) (us : List Value), us.length = ps.length → bindArgs (PySem.W.fnOf "__neg__" qual (defArgs st) (defBody st) (defScope st) .none kV doc pm an cdv ct) ⟨us, []⟩ = pure (ps.zip us))
    (ha : DE X E .f Γ a ta fa) (hj : j + 1 ≤ k := by decide) : DE X E r Γ (.UnaryOp .USub a pos) (tUn (rOwnU X.mg X.K E r c m) ta) (eNegO c m fa) :=
  ⟨pe_un (op_negO F o hb hj) ha.pe, fun pot M σ H ρ π I p Q h => by
    refine Post.seq (r' := .f) (te := ta σ H) h p (fun Q' hq => ha.sem pot M σ H ρ π I p Q' hq) fun d π1 v H1 _ g1 p1 r1 h1 => ?_
    have I1 := I.grow g1 p1
    have r1' : Rp X.mg X.K (less H1 M) v d := r1
    dsimp only at h1
    by_cases hc : isInO c d = true
    · rw [if_pos hc] at h1
      cases d with
      | ins c1 n1 x1 =>
        simp only [isInO, decide_eq_true_eq] at hc
        subst hc
        obtain ⟨a, C, da, fa, rfl, mC, hA, _, _⟩ := rb_ins (.inl r1' : Rb X.mg X.K pot M H1 v _)
        exact ⟨C, a, da, fa, rfl, mC, hA, rfl, pot, M, _, π1, .cons r1' .nil, I1.al, I1.pm, p1, h1⟩
      | _ => cases hc
    · rw [if_neg hc] at h1
      exact h1.elim⟩
end
end DL
set_option maxHeartbeats 4000000
namespace DL
open PySem PySem.Spec PyProof.Rows L2
section
variable {prog : Program} {w : World} {A : Around} {E : Value → Shared → Prop} {s : Shared}
/-- sorted(d) -/
theorem sorted_dictA {l : Addr} {es : Array DictEntry} {ep d : Nat} {B : Int} {Q : Value → Shared → Prop} (hh : A.handled = none) (hS : (l == sysModules) = false) (hraw : s.heap.DictRaw l es ep) (hz : es.size ≤ sizeLine) (hd : 1 ≤ d)
    (ok : TS.TupsOk s.heap d B (es.toList.map (·.key))) (r : Value → Int) (hr : ∀ v, v ∈ es.toList.map (·.key) → ∀ ns, TS.TupInts s.heap v ns → r v = TS.code B ns)
    (h : ∀ (out : List Value) (h1 h' : Heap) (tk ep' : Nat), out.Perm (es.toList.map (·.key)) → out.Pairwise (fun u v => r u ≤ r v) → (∀ b o, s.heap.get? b = some o → h1.get? b = some o) → (∀ b o, h1.get? b = some o → h'.get? b = some o) →
      h'.get? h1.objs.size = some (seqObj "list" out.toArray ep') → Q (.ref h1.objs.size) { s with heap := h', toks := tk }) :
    wpAny (model prog w) A (call (.builtin "sorted") [.ref l]) Q E s := by
  refine Calls.call_function_entry kind_sorted plain_sorted entry_sorted (args_sorted1 _) ?_
  unfold Builtin.«sorted»
  refine wpAny_bind (m := checkCount "sorted" 1 1 _) (wpAny_pure ?_)
  refine wpAny_bind (PySem.W.kdu_collect (KdlSrc.rawDict hS) hh hraw hz fun h1 tk acc hk hi => ?_)
  have hacc : acc.toList = es.toList.map (·.key) := by
    obtain ⟨i1, i2⟩ := hi
    apply List.ext_getElem?
    intro j
    by_cases hj : j < acc.size
    · obtain ⟨hj2, e⟩ := i2 j acc[j] (by simp [hj])
      rw [List.getElem?_map]
      simp only [Array.getElem?_toList]
      rw [Array.getElem?_eq_getElem hj, Array.getElem?_eq_getElem hj2, e]
      rfl
    · rw [List.getElem?_eq_none (by simpa using hj), List.getElem?_eq_none (by simp; omega)]
  rw [hacc]
  generalize hvs : es.toList.map (·.key) = vs at *
  have hlen : vs.length = es.size := by rw [← hvs]; simp
  refine wpAny_bind (wpAny_newList ?_ (by omega))
  have hoL : (h1.push (seqObj "list" vs.toArray 0)).get? h1.objs.size = some (seqObj "list" vs.toArray 0) := Heap.get?_push_size _ rfl
  have up : ∀ b o, s.heap.get? b = some o → (h1.push (seqObj "list" vs.toArray 0)).get? b = some o := fun b o e => Heap.get?_push_of_some _ (hk b o e)
  refine wpAny_bind (wpAny_holding (wpAny_call_entry slot_list_sort ⟨_, hoL, rfl⟩ entry_list_sort (SrtO.list_sort_ord (swo_rank r) hoL (by omega) (fun h2 => tups_sortable h2 hd (ok.keeps fun b o e _ => up b o e) r (fun v hv ns t => ?_) fun o e => by rw [hoL] at e; cases e; simp [seqObj]) fun out hs hb => ⟨_, rfl, ?_⟩) (args_list_sort _)))
  · obtain ⟨ms, t2, -, -⟩ := ok v hv
    have e1 := (t2.keeps (h' := h1.push (seqObj "list" vs.toArray 0)) fun b o e _ => up b o e).ints
    have e2 := t.ints
    have e3 : ms = ns := e1.symm.trans e2
    exact hr v hv ns (e3 ▸ t2)
  · obtain ⟨e, he⟩ := sortedHeap_at (out := out.toArray) hoL
    refine wpAny_pure ⟨_, rfl, ?_⟩
    refine h out h1 _ tk e hb.perm ?_ hk (fun b o eb => ?_) he
    · exact hs.imp fun {x y} hxy => by simpa using hxy
    · rw [sortedHeap_old (fun z => absurd (Heap.lt_size eb) (by rw [z]; exact Nat.lt_irrefl _)) (Nat.lt_of_lt_of_le (Heap.lt_size eb) (by rw [Heap.size_push]; exact Nat.le_succ _))]
      exact Heap.get?_push_of_some _ eb
end
def rSortDA (d : Nat) : List V → Hp → VK → Prop := fun xs H Q => ∃ (a : Addr) (kvs : List (List Key × V)), xs = [V.ref a] ∧ Rd H a (.dT kvs) ∧ kvs.all (fun p => fitK d p.1) = true ∧
  ∀ (bs : List (Addr × List Key)) (p : Addr), (bs.map (·.2)).Perm (kvs.map (·.1)) → (bs.map fun y => intsK y.2).Pairwise leT → (∀ y ∈ bs, H y.1 = some (.tup (y.2.map kV))) → H p = none → Q (.ref p) (upd H p (.lst (bs.map fun y => V.ref y.1)))
theorem cr_sortDA {X : Cx} {d : Nat} (hc : X.A.handled = none) (hd : 1 ≤ d) : CallR X (.builtin "sorted") (rSortDA d) := fun pins s σ H xs us Q I rl h => by
  obtain ⟨a, kvs, rfl, hr, hf, q⟩ := h
  cases rl with
  | cons r1 rl =>
      cases rl
      obtain rfl : _ = Value.ref a := r1
      obtain ⟨h1, h2, ys, h3, h4⟩ := dt_rd I.hok hr
      have hl := h3.length
      have hk : ys.map (·.1) = kvs.map (·.1) := by
        clear h4 hl hr hf q h1
        induction h3 with
        | nil => rfl
        | cons a _ ih => rw [List.map_cons, List.map_cons, ih, a.1]
      have hat : ∀ y ∈ ys, H y.2.1 = some (.tup (y.1.map kV)) := by
        clear h4 hl hr hf q h1 hk
        induction h3 with
        | nil => intro y hy; cases hy
        | cons a _ ih =>
          intro y hy
          rcases List.mem_cons.mp hy with rfl | hy
          · rw [← a.1]
            exact a.2.1
          · exact ih y hy
      have hfy : ∀ y ∈ ys, fitK d y.1 = true := fun y hy => by
        have : y.1 ∈ kvs.map (·.1) := by rw [← hk]; exact List.mem_map.mpr ⟨y, hy, rfl⟩
        obtain ⟨p, hp, e⟩ := List.mem_map.mp this
        rw [← e]
        exact List.all_eq_true.mp hf p hp
      have tI : ∀ y ∈ ys, TS.TupInts s.heap (.ref y.2.1) (intsK y.1) := fun y hy => by
        obtain ⟨f1, f2⟩ := Bool.and_eq_true_iff.mp (hfy y hy)
        refine tupI_raw I (.inl (.inl ?_))
        rw [← intsK_kV f1]
        exact hat y hy
      obtain ⟨es, ep, hraw, hs, hes⟩ := h4.raw
      have hkeys : es.toList.map (·.key) = ys.map fun y => Value.ref y.2.1 := by
        apply List.ext_getElem?
        intro j
        rw [List.getElem?_map, List.getElem?_map]
        by_cases hj : j < es.size
        · obtain ⟨y, e1, e2, -⟩ := hes j hj
          simp only [Array.getElem?_toList]
          rw [Array.getElem?_eq_getElem hj, e1]
          exact congrArg some e2
        · rw [List.getElem?_eq_none (by simpa using hj), List.getElem?_eq_none (by omega)]
          rfl
      have keyIn : ∀ v, v ∈ es.toList.map (·.key) → ∃ y ∈ ys, v = .ref y.2.1 := fun v hv => by
        rw [hkeys] at hv
        obtain ⟨y, hy, e⟩ := List.mem_map.mp hv
        exact ⟨y, hy, e.symm⟩
      refine sorted_dictA hc h2 hraw (by omega) hd (B := 1024) (fun v hv => ?_) (fun v => TS.code 1024 (TS.intsOf s.heap v)) (fun v hv ns t => by rw [t.ints]) fun out hp1 hp' tk ep' hpm hpw k1 k2 hq => ?_
      · obtain ⟨y, hy, rfl⟩ := keyIn v hv
        obtain ⟨f1, f2⟩ := Bool.and_eq_true_iff.mp (hfy y hy)
        obtain ⟨b1, b2⟩ := fitT_bd f2
        exact ⟨intsK y.1, tI y hy, b1, b2⟩
      · obtain ⟨zs, z1, z2⟩ := perm_map_ex (fun y : List Key × Addr × Value => Value.ref y.2.1) hpm ys hkeys
        have I1 : L2.Inv X pins σ H { s with heap := hp1, toks := s.toks } := I.kept k1
        have mz : ∀ y ∈ zs, y ∈ ys := fun y hy => z1.mem_iff.mp hy
        refine ⟨.ref hp1.objs.size, _, I1.laid (a := hp1.objs.size) (o := .lst ((zs.map fun y => (y.2.1, y.1)).map fun y => V.ref y.1)) k2 (Nat.le_refl _) ?_, rfl, q (zs.map fun y => (y.2.1, y.1)) _ ?_ ?_ ?_ I1.fresh⟩
        · unfold L2.ObjOk
          refine ⟨?_, out, ep', ?_, hq⟩
          · rw [List.length_map, List.length_map, z1.length_eq]
            omega
          · rw [z2]
            clear z2 z1 hpm hpw hq q mz
            induction zs with
            | nil => exact .nil
            | cons z zs ih => exact .cons rfl ih
        · rw [List.map_map, ← hk]
          exact z1.map _
        · rw [List.map_map]
          rw [z2, List.pairwise_map] at hpw
          rw [List.pairwise_map]
          refine hpw.imp_of_mem fun {x y} hx hy hxy => ?_
          rw [(tI x (mz x hx)).ints, (tI y (mz y hy)).ints] at hxy
          exact hxy
        · intro y hy
          obtain ⟨z, hz, rfl⟩ := List.mem_map.mp hy
          exact hat z (mz z hz)
def fSortDA (d : Nat) : D → Option D
  | .dic ks _ => if isTd ks = true ∧ ks.all (fitD d) = true then some (.lst ((sortT (ks.map keyZ)).map tupZ)) else none
  | _ => none
def fSortL (d : Nat) : List D → Option D
  | [x] => fSortDA d x
  | _ => none
section
variable {X : Cx} {E : XK} {Γ : List Md} {ra : Rm} {k : Nat} {mg : Str → Option Value} {K : PySem.W.Frag} {pot : Option Addr} {M : List Addr} {H : Hp}
theorem sortDA_ok {d : Nat} {v : V} {x z : D} (hz : fSortDA d x = some z) (al : ∀ a ∈ M, Al H a) (ph : ∀ a, pot = some a → H a ≠ none) (h : Rb mg K pot M H v x) {Q : VK}
    (q : ∀ w H', Same H H' → RpR mg K .o pot M H H' w z → Q w H') : rSortDA d [v] H Q := by
  cases x with
  | dic ks xs =>
    simp only [fSortDA] at hz
    split at hz
    · rename_i hc
      cases hz
      obtain ⟨p, kvs, rfl, h1, rfl, r1⟩ := rb_dicT hc.1 h
      have hall : ∀ q ∈ kvs, fitK d q.1 = true := fun q hq => List.all_eq_true.mp hc.2 _ (List.mem_map.mpr ⟨q, hq, rfl⟩)
      refine ⟨p, kvs, rfl, h1, List.all_eq_true.mpr hall, fun bs l hp hs hb hn => ?_⟩
      have hfb : ∀ y ∈ bs, fitK d y.2 = true := fun y hy => by
        obtain ⟨q, hq, e⟩ := List.mem_map.mp (hp.mem_iff.mp (List.mem_map.mpr ⟨y, hy, rfl⟩))
        rw [← e]
        exact hall q hq
      have ek : ((kvs.map fun q => (.inr q.1 : DKey)).map keyZ) = (kvs.map (·.1)).map intsK := by
        rw [List.map_map, List.map_map]
        rfl
      have eq : (bs.map fun y => intsK y.2) = sortT ((kvs.map fun q => (.inr q.1 : DKey)).map keyZ) := by
        rw [ek]
        refine sorted_T (d := d) ?_ hs (sortT_sorted _) fun x hx => ?_
        · refine List.Perm.trans ?_ (sortT_perm _).symm
          have := hp.map intsK
          rw [List.map_map] at this
          exact this
        · have hx := (sortT_perm _).mem_iff.mp hx
          obtain ⟨k', hk', e⟩ := List.mem_map.mp hx
          obtain ⟨q, hq, rfl⟩ := List.mem_map.mp hk'
          rw [← e]
          exact (Bool.and_eq_true_iff.mp (hall q hq)).2
      have r := rpl_keys (mg := mg) (K := K) al hb hfb
      rw [eq] at r
      exact q _ _ (same_upd hn) (new_lst ph hn r)
    · cases hz
  | _ => simp [fSortDA] at hz
theorem c_sortDA (d : Nat) (x0 : XOk X E k) (hd : 1 ≤ d := by decide) : CallOk X (.builtin "sorted") (rSortDA d) [.b] .o (fSortL d) := ⟨cr_sortDA x0.room.hd hd, fun pot M H vs ds z al pm ph a hz Q q => by
  obtain ⟨v, x, rfl, rfl, h⟩ := arg1 a
  exact sortDA_ok hz al ph h q⟩
end
end DL
set_option maxHeartbeats 4000000
namespace DL
open PySem PySem.Spec PyProof.Rows L2
/-- a pair: where it lies, the key, where the key lies, the value -/
abbrev Pr := Addr × List Key × Addr × V
def mergeT : List (List Key × V) → List Pr → List (List Key × V)
  | acc, [] => acc
  | acc, t :: r => mergeT (putK acc t.2.1 t.2.2.2) r
def rPairsT (K : PySem.W.Frag) : List V → Hp → VK → Prop := fun xs H Q => ∃ (a : Addr) (ts : List Pr), xs = [V.ref a] ∧ SqL K H a (ts.map fun t => V.ref t.1) ∧
  (∀ t ∈ ts, SqT K H t.1 [V.ref t.2.2.1, t.2.2.2] ∧ H t.2.2.1 = some (.tup (t.2.1.map kV))) ∧ ∀ q, H q = none → Q (.ref q) (upd H q (.dT (mergeT [] ts)))
theorem kt_merge {H : Hp} : ∀ {ts : List Pr} {us : List Value}, Paired (fun (t : Pr) u => RelV t.2.2.2 u) ts us → (∀ t ∈ ts, H t.2.2.1 = some (.tup (t.2.1.map kV))) → ∀ {acc : List (List Key × V)} {ys : List (List Key × Addr × Value)}, KT H acc ys → KT H (mergeT acc ts) (storedAllH ys ((ts.zip us).map fun p => (p.1.2.1, p.1.2.2.1, p.2)))
  | _, _, .nil, _, _, _, h => h
  | t :: ts, u :: us, .cons a r, hk, acc, ys, h => by
    show KT H (mergeT (putK acc t.2.1 t.2.2.2) ts) (storedAllH (storedH ys t.2.1 t.2.2.1 u) _)
    exact kt_merge r (fun z hz => hk z (List.mem_cons_of_mem _ hz)) (h.put t.2.1 (hk t (List.mem_cons_self ..)) a)
theorem mergeT_len : ∀ (ts : List Pr) (acc : List (List Key × V)), (mergeT acc ts).length ≤ acc.length + ts.length
  | [], acc => by simp [mergeT]
  | t :: ts, acc => by
    have h1 := mergeT_len ts (putK acc t.2.1 t.2.2.2)
    have h2 := length_putK acc t.2.1 t.2.2.2
    show (mergeT (putK acc t.2.1 t.2.2.2) ts).length ≤ _
    simp only [List.length_cons]
    omega
theorem paired_at {α β : Type} {F : α → β → Prop} : ∀ {l : List α} {m : List β} {i : Nat} {x : α} {y : β}, Paired F l m → l[i]? = some x → m[i]? = some y → F x y
  | _, _, 0, _, _, .cons a _, h1, h2 => by cases h1; cases h2; exact a
  | _, _, i + 1, _, _, .cons _ r, h1, h2 => paired_at (i := i) r h1 h2
theorem paired_imp {α β : Type} {F G : α → β → Prop} (h : ∀ x y, F x y → G x y) : ∀ {l : List α} {m : List β}, Paired F l m → Paired G l m
  | _, _, .nil => .nil
  | _, _, .cons a r => .cons (h _ _ a) (paired_imp h r)
theorem call_dictPT {X : Cx} {E : XK} {k : Nat} (x0 : XOk X E k) : CallR X (.type "dict") (rPairsT X.K) := fun pins s σ H xs us Q I rl h => by
  obtain ⟨a, ts, rfl, hl, ht, q⟩ := h
  cases rl with
  | cons r1 rl =>
    cases rl
    obtain rfl : _ = Value.ref a := r1
    obtain ⟨its, rv, pl, hz⟩ := I.list hl
    have val : ∀ t ∈ ts, ∃ u, RelV t.2.2.2 u ∧ s.heap.IsTuple t.1 #[.ref t.2.2.1, u] := fun t hm => by
      obtain ⟨js, r2, tp, _⟩ := I.tuple (ht t hm).1
      cases r2 with
      | cons e1 r2 => cases r2 with
        | cons e2 r2 =>
          cases r2
          obtain rfl : _ = Value.ref t.2.2.1 := e1
          exact ⟨_, e2, tp⟩
    have all : ∃ us : List Value, Paired (fun (t : Pr) u => RelV t.2.2.2 u ∧ s.heap.IsTuple t.1 #[.ref t.2.2.1, u]) ts us := by
      clear q hl ht rv hz
      induction ts with
      | nil => exact ⟨[], .nil⟩
      | cons t ts ih =>
        obtain ⟨us, hu⟩ := ih fun z hz => val z (List.mem_cons_of_mem _ hz)
        obtain ⟨u, e⟩ := val t (List.mem_cons_self ..)
        exact ⟨u :: us, .cons e hu⟩
    obtain ⟨ws, hws⟩ := all
    have hlen : ws.length = ts.length := hws.length.symm
    have hzz : (ts.zip ws).length = ts.length := by rw [List.length_zip, hlen]; simp
    have atz : ∀ (i : Nat) (key : Value) (v : Value), ((ts.zip ws).map fun p => (Value.ref p.1.2.2.1, p.2))[i]? = some (key, v) → ∃ t u, ts[i]? = some t ∧ ws[i]? = some u ∧ key = .ref t.2.2.1 ∧ v = u := fun i key v e => by
      rw [List.getElem?_map] at e
      obtain ⟨p, e1, e2⟩ := Option.map_eq_some_iff.mp e
      rw [List.getElem?_zip_eq_some] at e1
      cases e2
      exact ⟨p.1, p.2, e1.1, e1.2, rfl, rfl⟩
    refine call_dict_pairsH (knd := tupleKind (mixKind X.prog X.w)) (ps := (ts.zip ws).map fun p => (p.1.2.1, p.1.2.2.1, p.2)) (PairArg.list a its.toArray (fun i => (ts[i]?.map (·.1)).getD 0) ((ts.zip ws).map fun p => (Value.ref p.1.2.2.1, p.2))) x0.room.hd ?_ ⟨?_, ?_, fun j key v e => ?_⟩ ⟨?_, fun i key v e => ?_⟩ (fun h' hk x hx => ?_) ?_ fun h' tk hd hk => ?_
    · have := x0.room.un
      show X.A.units + 1 + 1 < cLine
      omega
    · exact pl
    · have := rv.length
      simp only [List.length_map, List.size_toArray, hzz] at *
      omega
    · obtain ⟨t, u, e1, e2, rfl, rfl⟩ := atz j key v e
      obtain ⟨z, z1, z2⟩ := rv.get (i := j) (x := V.ref t.1) (by rw [List.getElem?_map, e1]; rfl)
      obtain rfl : z = .ref t.1 := z2
      have eT : (ts[j]?.map (·.1)).getD 0 = t.1 := by rw [e1]; rfl
      show its.toArray[j]? = some (Value.ref ((ts[j]?.map (·.1)).getD 0)) ∧ PairAt s.heap ((ts[j]?.map (·.1)).getD 0) _ _
      rw [eT]
      exact ⟨by simpa using z1, .inl (paired_at hws e1 e2).2⟩
    · simp
    · have e : ((ts.zip ws).map fun p => (Value.ref p.1.2.2.1, p.2))[i]? = some (key, v) := e
      rw [List.getElem?_map] at e
      obtain ⟨p, e1, e2⟩ := Option.map_eq_some_iff.mp e
      cases e2
      exact ⟨p.1.2.1, p.1.2.2.1, by rw [List.getElem?_map, e1]; rfl, rfl⟩
    · obtain ⟨p, hp, rfl⟩ := List.mem_map.mp hx
      have hm : p.1 ∈ ts := (List.of_mem_zip (show (p.1, p.2) ∈ ts.zip ws from hp)).1
      obtain ⟨o, its2, n, w1, w2, w3, w4⟩ := key_of (P := X.prog) (w := X.w) I.hok (ht p.1 hm).2
      exact ⟨o, its2, n, hk _ _ (fun z => absurd (Heap.lt_size w1) (by rw [z]; exact Nat.lt_irrefl _)) (by simp) w1, w2, w3, w4⟩
    · rw [List.length_map, hzz]
      rw [List.length_map] at hz
      exact hz
    · have keep : ∀ b o, s.heap.get? b = some o → h'.get? b = some o := fun b o e => hk b o (by simp) e
      refine ⟨.ref s.heap.objs.size, _, I.laid (a := s.heap.objs.size) (o := .dT (mergeT [] ts)) keep (Nat.le_refl _) ?_, rfl, q _ I.fresh⟩
      obtain ⟨o, es, ep, d1, d2, d3, d4, d5, d6⟩ := hd
      unfold L2.ObjOk
      have kt := kt_merge (H := H) (paired_imp (fun t u e => e.1) hws) (fun t hm => (ht t hm).2) (acc := []) (ys := []) .nil
      refine ⟨?_, ?_, _, kt.keeps fun b zs hb => ?_, o, es, ep, d1, d2, d3, d4, d6⟩
      · have := mergeT_len ts []
        rw [List.length_map] at hz
        simp at this
        omega
      · have := I.big
        exact beq_eq_false_iff_ne.mpr fun e => absurd this (by rw [e]; exact Nat.lt_irrefl _)
      · rw [upd_ne fun z => by rw [z, I.fresh] at hb; cases hb]
        exact hb
/-- pairs of a key and a value -/
def asPr : List D → Option (List (List Key × D))
  | [] => some []
  | .tup [kd, v] :: r => (tkey kd).bind fun k => (asPr r).map ((k, v) :: ·)
  | _ => none
def mergeQ : List DKey → List D → List (List Key × D) → List DKey × List D
  | ks, xs, [] => (ks, xs)
  | ks, xs, q :: r => mergeQ (putT ks xs q.1 q.2).1 (putT ks xs q.1 q.2).2 r
def fDictP : List D → Option D
  | [.lst ds] => (asPr ds).map fun qs => .dic (mergeQ [] [] qs).1 (mergeQ [] [] qs).2
  | _ => none
section
variable {X : Cx} {E : XK} {k : Nat} {mg : Str → Option Value} {K : PySem.W.Frag} {pot : Option Addr} {M : List Addr} {H : Hp}
theorem prs_of : ∀ {xs : List V} {ds : List D} {qs : List (List Key × D)}, RpL mg K (less H M) xs ds → asPr ds = some qs → ∃ ts : List Pr, xs = ts.map (fun t => V.ref t.1) ∧ (∀ t ∈ ts, H t.1 = some (.tup [V.ref t.2.2.1, t.2.2.2]) ∧ H t.2.2.1 = some (.tup (t.2.1.map kV))) ∧
    ts.map (·.2.1) = qs.map (·.1) ∧ RpL mg K (less H M) (ts.map (·.2.2.2)) (qs.map (·.2))
  | _, _, qs, .nil, e => by
    cases e
    exact ⟨[], rfl, (fun t h => absurd h (List.not_mem_nil)), rfl, .nil⟩
  | _, _, qs, .cons (d := d) (ds := ds) h r, e => by
    unfold asPr at e
    split at e
    · rename_i e'
      cases e'
    · rename_i kd v r' e'
      cases e'
      obtain ⟨kk, e1, e2⟩ := Option.bind_eq_some_iff.mp e
      obtain ⟨qs', e3, rfl⟩ := Option.map_eq_some_iff.mp e2
      obtain ⟨ts, t1, t2, t3, t4⟩ := prs_of r e3
      cases h with
      | @tup a vs _ h1 h2 =>
        cases h2 with
        | cons a1 h2 => cases h2 with
          | cons a2 h2 =>
            cases h2
            obtain ⟨b, rfl, hb⟩ := tkey_at (pot := none) (M := M) (.inl a1 : Rb mg K none M H _ kd) e1
            exact ⟨(a, kk, b, _) :: ts, by rw [t1]; rfl, fun t ht => by
              rcases List.mem_cons.mp ht with rfl | ht
              · exact ⟨less_le _ _ h1, hb⟩
              · exact t2 t ht, by simp [t3], .cons a2 t4⟩
    · cases e
theorem merge_at : ∀ {ts : List Pr} {qs : List (List Key × D)} {acc : List (List Key × V)} {ds : List D}, ts.map (·.2.1) = qs.map (·.1) → RpL mg K (less H M) (ts.map (·.2.2.2)) (qs.map (·.2)) → RpL mg K (less H M) (acc.map (·.2)) ds →
    (mergeQ (acc.map fun q => (.inr q.1 : DKey)) ds qs).1 = ((mergeT acc ts).map fun q => (.inr q.1 : DKey)) ∧ RpL mg K (less H M) ((mergeT acc ts).map (·.2)) (mergeQ (acc.map fun q => (.inr q.1 : DKey)) ds qs).2
  | [], [], acc, ds, _, _, r => ⟨rfl, r⟩
  | t :: ts, q :: qs, acc, ds, e, v, r => by
    simp only [List.map_cons, List.cons.injEq] at e
    rw [List.map_cons, List.map_cons] at v
    cases v with
    | cons a v =>
      obtain ⟨u1, u2⟩ := put_at (k := q.1) a r
      have := merge_at (acc := putK acc q.1 t.2.2.2) e.2 v u2
      unfold mergeQ mergeT
      rw [u1, e.1]
      exact this
  | [], _ :: _, _, _, e, _, _ => by simp at e
  | _ :: _, [], _, _, e, _, _ => by simp at e
/-- dict(a list of pairs) -/
theorem c_dictP (x0 : XOk X E k) : CallOk X (.type "dict") (rPairsT X.K) [.b] .o fDictP := ⟨call_dictPT x0, fun pot M H vs ds z al pm ph a hz Q q => by
  obtain ⟨v, d, rfl, rfl, h⟩ := arg1 a
  cases d with
  | lst ds =>
    simp only [fDictP, Option.map_eq_some_iff] at hz
    obtain ⟨qs, e, rfl⟩ := hz
    obtain ⟨p, xs, rfl, h1, r1⟩ := rb_lst h
    obtain ⟨ts, rfl, t2, t3, t4⟩ := prs_of r1 e
    obtain ⟨u1, u2⟩ := merge_at (acc := []) (ds := []) t3 t4 .nil
    refine ⟨p, ts, rfl, .inl (.inl h1), fun t ht => ⟨.inl (.inl (t2 t ht).1), (t2 t ht).2⟩, fun l hn => q _ _ (same_upd hn) ⟨l, rfl, hn, fun e => ph l e hn, _, upd_same, ?_⟩⟩
    have e1 : (mergeQ [] [] qs).1 = ((mergeT [] ts).map fun q => (.inr q.1 : DKey)) := u1
    rw [e1]
    exact .dicT (u2.mono (less_new hn))
  | _ => simp [fDictP] at hz⟩
end
end DL
set_option maxHeartbeats 2000000
namespace DL
open PySem PySem.Spec PyProof.Rows L2
def GrowM (q : Addr) (pot : Option Addr) (H H' : Hp) : Prop := ∀ a o, pot ≠ some a → a ≠ q → H a = some o → H' a = some o
theorem GrowM.refl {q : Addr} {pot : Option Addr} {H : Hp} : GrowM q pot H H := fun _ _ _ _ h => h
theorem GrowM.of {q : Addr} {pot : Option Addr} {H H' : Hp} (g : Grow pot H H') : GrowM q pot H H' := fun a o n _ h => g a o n h
theorem GrowM.trans {q : Addr} {pot : Option Addr} {H H1 H2 : Hp} (g : GrowM q pot H H1) (h : GrowM q pot H1 H2) : GrowM q pot H H2 := fun a o n m e => h a o n m (g a o n m e)
end DL
namespace DL
open PySem PySem.Spec PyProof.Rows L2
end DL
set_option maxHeartbeats 4000000
namespace DL
open PySem PySem.Spec PyProof.Rows L2
def eFmtI (a : Ed) : Ed := fun ρ π => (a ρ π).bind fun x => match x.1 with
  | .int i => if i.natAbs.log2 < 1920 then .ok (.str (toString i), x.2) else .stuck
  | _ => .stuck
def joinD : List Ed → Str → Ed
  | [], acc => fun _ π => .ok (.str acc, π)
  | f :: fs, acc => fun ρ π => (f ρ π).bind fun x => match x.1 with
    | .str y => if (acc ++ y).length ≤ sizeLine then joinD fs (acc ++ y) ρ x.2 else .stuck
    | _ => .stuck
section
variable {X : Cx} {E : XK} {Γ : List Md} {pos p : Pos} {k j : Nat} {e : Expr} {te : TE} {fe : Ed}
theorem de_fmtI (he : DE X E .f Γ e te fe) : DE X E .f Γ (.FormattedValue e (-1) none pos) (tFmt te) (eFmtI fe) :=
  ⟨pe_fmt he.pe, fun pot M σ H ρ π I p Q h => by
    refine Post.seq (r' := .f) (te := te σ H) h p (fun Q' hq => he.sem pot M σ H ρ π I p Q' hq) fun d π1 v H1 _ g1 p1 r1 h1 => ?_
    dsimp only at h1
    cases d with
    | int i =>
      simp only at h1
      split at h1
      · rename_i hi
        cases rb_int (.inl r1 : Rb X.mg X.K pot M H1 v (.int i))
        exact .inr ⟨i, rfl, hi, h1 _ H1 .refl p1 (.str _)⟩
      · exact h1.elim
    | _ => exact h1.elim⟩
inductive DJ (X : Cx) (E : XK) (Γ : List Md) : List Expr → List TE → List Ed → Prop where
  | nil : DJ X E Γ [] [] []
  | cons {e : Expr} {t : TE} {f : Ed} {es : List Expr} {ts : List TE} {fs : List Ed} (h : DE X E .f Γ e t f) (r : DJ X E Γ es ts fs) : DJ X E Γ (e :: es) (t :: ts) (f :: fs)
theorem DJ.pj {es : List Expr} {ts : List TE} {fs : List Ed} (h : DJ X E Γ es ts fs) : PJ X es ts := by
  induction h with
  | nil => exact .nil
  | cons h _ ih => exact .cons h.pe ih
theorem DJ.sem {es : List Expr} {ts : List TE} {fs : List Ed} (h : DJ X E Γ es ts fs) : ∀ (acc : Str) pot M σ H ρ π, EnvOk X.mg X.K Γ pot M σ H ρ → PotAt pot H π → ∀ Q : Str → Hp → Prop, Post X.mg X.K .f pot M H (joinD fs acc ρ π) (fun v H' => ∀ y, v = .str y → Q y H') E → tJs ts acc σ H Q := by
  induction h with
  | nil => exact fun acc pot M σ H ρ π I p Q h => h (.str acc) H .refl p (.str _) acc rfl
  | @cons e t f es ts fs he r ih =>
    intro acc pot M σ H ρ π I p Q h
    refine Post.seq (r' := .f) (te := t σ H) h p (fun Q' hq => he.sem pot M σ H ρ π I p Q' hq) fun d π1 v H1 _ g1 p1 r1 h1 => ?_
    dsimp only at h1
    cases d with
    | str y =>
      simp only at h1
      split at h1
      · rename_i hl
        cases (show Rp X.mg X.K (less H1 M) v (.str y) from r1)
        exact ⟨y, rfl, hl, ih (acc ++ y) pot M σ H1 ρ π1 (I.grow g1 p1) p1 Q h1⟩
      · exact h1.elim
    | _ => exact h1.elim
theorem de_join {v1 v2 : Expr} {rest : List Expr} {ts : List TE} {fs : List Ed} (h : DJ X E Γ (v1 :: v2 :: rest) ts fs) : DE X E .f Γ (.JoinedStr (v1 :: v2 :: rest) pos) (fun σ H Q => tJs ts Str.empty σ H fun out H1 => Q (.str out) H1) (joinD fs Str.empty) :=
  ⟨pe_joined h.pj, fun pot M σ H ρ π I p Q q => h.sem Str.empty pot M σ H ρ π I p _ (by
    cases ex : joinD fs Str.empty ρ π with
    | ok x =>
      obtain ⟨d, π1⟩ := x
      rw [ex] at q
      exact fun v H' g p' r y e => by
        subst e
        exact q _ H' g p' r
    | err c ns xs π' =>
      rw [ex] at q
      exact q
    | stuck =>
      rw [ex] at q
      exact q)⟩
def rReprO (mg : Str → Option Value) (K : PySem.W.Frag) (E : XK) (c : Str) (m : Fd) : List V → Hp → VK → Prop := fun vs H Q =>
  ∃ C a da fa, vs = [.ref a] ∧ mg c = some (.ref C) ∧ H a = some (.ins C da fa) ∧ SpD mg K [.f] .f m [.ref a] H (fun v H' => ∃ y, v = .str y ∧ Q (.str y) H') E
variable {c qual x : Str} {st : Stmt} {ps : List Str} {m : Fd}
theorem cr_reprO (F : DMe X.prog X.w X.K X.mg X.base j c "__repr__" qual st ps [] .f m) (o : XOk X E k)
    (hb : ∀ (kV doc pm : Value) (an : Option Addr) (cdv ct : Value) (us : List Value), us.length = ps.length → bindArgs (PySem.W.fnOf "__repr__" qual (defArgs st) (defBody st) (defScope st) .none kV doc pm an cdv ct) ⟨us, []⟩ = pure (ps.zip us))
    (hj : j + 1 ≤ k := by decide) : CallR X (.builtin "repr") (rReprO X.mg X.K E c m) := by
  intro pins s σ H xs us Q I rx hq
  obtain ⟨C, a, da, fa, rfl, mC, ha, hsp⟩ := hq
  obtain ⟨u, rfl, ru⟩ := rx.one
  obtain ⟨C', f, fd, h0, h1, h2, h3, h4⟩ := F.ex
  rw [mC] at h0
  cases h0
  cases ru
  obtain ⟨mA, J, _⟩ := ins_get I.hok ha
  obtain ⟨od, J, _⟩ := J.look
  obtain ⟨mm, hF⟩ := I.fr
  have hl : [Value.ref a].length = ps.length := by
    have e := h4.len _ _ _ _ hsp
    simpa using e
  have bd : BindsTo s fd ⟨[.ref a], []⟩ (ps.zip [.ref a]) := by
    obtain ⟨oc, od, kV, doc, pm, an, cdv, ct, osl, rfl, lk, hcd⟩ := h3.ex
    exact .of_eq (hb kV doc pm an cdv ct _ hl)
  refine PySem.W.repr_K (by show X.A.units + 1 < cLine; exact o.u1) hF I.ok.mod.kin J h2.at_ h2.fn ?_
  refine wpAny_call (codeAny_mono (h4.run X.A.in1 X.stack s H ⟨[.ref a], []⟩ [.ref a] [.ref a] _ E (o.room.mono hj).in1 o.gd I.env0.in1 bd (.cons rfl .nil) hsp) fun res s' z => ?_)
  match res, z with
  | .error e, z => exact o.pass pins σ H s e s' I z
  | .ok (.ret u), z =>
    obtain ⟨v, H', I', rv, y, rfl, q⟩ := I.after z
    obtain ⟨t, e⟩ := rv
    subst e
    exact ⟨.str y, H', I', ⟨t, rfl⟩, q⟩
end
end DL
set_option maxHeartbeats 4000000
namespace DL
open PySem PySem.Spec PyProof.Rows L2
theorem sum_tup {prog : Program} {w : World} {A : Around} {E : Value → Shared → Prop} {s : Shared} {l : Addr} {its : List Value} {ns : List Int} {Q : Value → Shared → Prop} (hh : A.handled = none) (ht : s.heap.IsTuple l its.toArray) (hi : IntsAre its ns)
    (h : ∀ h' tk t', (∀ b o, s.heap.get? b = some o → h'.get? b = some o) → Q (.int ns.sum t') { s with heap := h', toks := tk }) : wpAny (model prog w) A (call (.builtin "sum") [.ref l]) Q E s := by
  obtain ⟨xs, ex⟩ := hi.allInts.items
  have hn : numsOf (intItems xs).toList = ns := by rw [← ex]; exact hi.numsOf
  rw [nums_intItems] at hn
  rw [ex] at ht
  have hlt : l < s.heap.objs.size := by
    obtain ⟨_, e, _⟩ := id ht
    exact Heap.lt_size e
  refine call_sum_walkG (wpAny_pyIter_tuple ht ?_)
  refine ⟨s.heap.objs.size, [s.heap.objs.size, l], [s.heap.objs.size], _, _, _, numAt xs, rfl, Walks.tuple (A := A.in1) hh s.heap.objs.size l (Nat.ne_of_lt hlt) (intItems xs), ⟨⟨_, Heap.get?_push_size _ rfl, rfl, rfl⟩, ht.push _⟩, fun b hb => ?_, fun _ _ => intItems_at, fun h' tk t' hk => ?_⟩
  · have hsz : (s.heap.push { cls := .type "tuple_iterator", data := .fields #[.ref l, .int 0 0] }).objs.size = s.heap.objs.size + 1 := Heap.size_push ..
    rcases List.mem_cons.mp hb with e | hb
    · rw [e]
      exact hsz ▸ Nat.lt_succ_self _
    · rw [List.mem_singleton.mp hb]
      exact hsz ▸ Nat.lt_succ_of_lt hlt
  · have q := h h' tk t' fun b o e => hk b o (fun hm => by
      rw [List.mem_singleton.mp hm] at e
      exact absurd (Heap.lt_size e) (Nat.lt_irrefl _)) (Heap.get?_push_of_some _ e)
    rw [preSum_eq, List.take_of_length_le (by simp [intItems]), hn]
    exact q
def fSumT : List D → Option D
  | [.tup xs] => (asInts xs).map fun ns => .int ns.sum
  | _ => none
def rSumT (K : PySem.W.Frag) : List V → Hp → VK → Prop := fun vs H Q => ∃ (a : Addr) (ns : List Int), vs = [V.ref a] ∧ SqT K H a (ns.map V.int) ∧ Q (.int ns.sum) H
section
variable {X : Cx} {E : XK} {k : Nat}
theorem cr_sumT (hc : X.A.handled = none) : CallR X (.builtin "sum") (rSumT X.K) := fun pins s σ H vs us Q I r h => by
  obtain ⟨a, ns, rfl, hs, q⟩ := h
  obtain ⟨its, rv, hl, _⟩ := I.tuple hs
  rw [Vals.ref1 r]
  exact sum_tup hc hl rv.ints fun h' tk t' hk => ⟨.int _, H, I.kept hk, ⟨_, rfl⟩, q⟩
theorem c_sumT (x : XOk X E k) : CallOk X (.builtin "sum") (rSumT X.K) [.b] .f fSumT := ⟨fun pins s σ H vs us Q I r h => cr_sumT (I.ok.hd x.calm) pins s σ H vs us Q I r h, fun pot M H vs ds z al pm ph a hz Q q => by
  obtain ⟨v, d, rfl, rfl, h⟩ := arg1 a
  unfold fSumT at hz
  split at hz
  · rename_i xs e
    cases e
    simp only [Option.map_eq_some_iff] at hz
    obtain ⟨ns, e1, rfl⟩ := hz
    rw [asInts_eq e1] at h
    obtain ⟨p, ys, rfl, h1, r1⟩ := rb_tupP h
    rw [r1.iz] at h1
    exact ⟨p, ns, rfl, .inl (.inl (less_some.mp h1).2), q _ H (Same.refl H) (.int _)⟩
  · cases hz⟩
end
end DL
set_option maxHeartbeats 4000000
namespace DL
open PySem PySem.Spec PyProof.Rows L2
end DL
set_option maxHeartbeats 4000000
namespace DL
open PySem PySem.Spec PyProof.Rows L2
theorem KT.at_ {H : Hp} {kvs : List (List Key × V)} {xs : List (List Key × Addr × Value)} (r : KT H kvs xs) : kvs.length = xs.length ∧ ∀ i (h1 : i < kvs.length) (h2 : i < xs.length), kvs[i].1 = xs[i].1 ∧ RelV kvs[i].2 xs[i].2.2 := by
  induction r with
  | nil => exact ⟨rfl, fun i h1 => absurd h1 (Nat.not_lt_zero i)⟩
  | cons h _ ih =>
    refine ⟨by simp [ih.1], fun i h1 h2 => ?_⟩
    cases i with
    | zero => exact ⟨h.1, h.2.2⟩
    | succ i => exact ih.2 i (Nat.lt_of_succ_lt_succ h1) (Nat.lt_of_succ_lt_succ h2)
end DL
set_option maxHeartbeats 4000000
namespace DL
open PySem PySem.Spec PyProof.Rows L2
section
variable {X : Cx} {E : XK} {Γ : List Md} {pos : Pos} {k j : Nat} {a b : Expr} {ta tb : TE} {fa fb : Ed} {c qual : Str} {st : Stmt} {ps : List Str} {m : Fd}
def neTO (c : Str) (m : Fd) (d e : D) (π : Pot) : Res (D × Pot) := match d, e with
  | .tup [.int i, x], .tup [.int j, y] => if i = j ∧ isInO c x = true ∧ isInO c y = true then (match m [x, y] π with
    | .ok (.bl true, π') => if π' = π then .ok (.bl false, π) else .stuck
    | _ => .stuck) else .stuck
  | _, _ => .stuck
def eNeTO (c : Str) (m : Fd) (a b : Ed) : Ed := fun ρ π => (a ρ π).bind fun x => (b ρ x.2).bind fun y => neTO c m x.1 y.1 y.2
end
@[simp] theorem eNeTO_ap (c : Str) (m : Fd) (a b : Ed) (ρ : Rho) (π : Pot) : eNeTO c m a b ρ π = (a ρ π).bind fun x => (b ρ x.2).bind fun y => neTO c m x.1 y.1 y.2 := rfl
end DL
set_option maxHeartbeats 4000000
namespace DL
open PySem PySem.Spec PyProof.Rows L2
def keyPy : Key → PyData
  | .inl i => .int i
  | .inr x => .str x
def flatPy : D → Option PyData
  | .int i => some (.int i)
  | .bl b => some (.bool b)
  | .str x => some (.str x)
  | .non => some .none
  | _ => none
def flatV : V → Option PyData
  | .int i => some (.int i)
  | .bl b => some (.bool b)
  | .str x => some (.str x)
  | .non => some .none
  | _ => none
def pairsPy : List DKey → List D → Option (List (PyData × PyData))
  | [], [] => some []
  | .inr k :: ks, x :: xs => (flatPy x).bind fun p => (pairsPy ks xs).map ((.tuple (k.map keyPy), p) :: ·)
  | _, _ => none
def pairsV : List (List Key × V) → Option (List (PyData × PyData))
  | [] => some []
  | (k, v) :: r => (flatV v).bind fun p => (pairsV r).map ((.tuple (k.map keyPy), p) :: ·)
def showKv (kvs : List (PyData × PyData)) : Option Str :=
  if PyData.showable (.dict kvs) && decide (PyData.depth (.dict kvs) ≤ 60) && decide ((PyData.shown (.dict kvs)).length ≤ sizeLine) then some (PyData.shown (.dict kvs)) else none
def showT : D → Option Str
  | .dic ks xs => if isTd ks = true then (pairsPy ks xs).bind showKv else none
  | _ => none
def fReprA : List D → Option D
  | [.dic ks xs] => (showT (.dic ks xs)).map .str
  | ds => fRepr ds
section
variable {mg : Str → Option Value} {K : PySem.W.Frag} {H : Hp} {h : Heap}
theorem flat_of {v : V} {d : D} {p : PyData} (r : Rp mg K H v d) (e : flatPy d = some p) : flatV v = some p := by
  cases r <;> first | exact e | cases e
theorem pairs_of : ∀ {kvs : List (List Key × V)} {ds : List D} {ps : List (PyData × PyData)}, RpL mg K H (kvs.map (·.2)) ds → pairsPy (kvs.map fun q => (.inr q.1 : DKey)) ds = some ps → pairsV kvs = some ps
  | [], _, ps, .nil, e => e
  | (k, v) :: kvs, d :: ds, ps, .cons r rs, e => by
    simp only [List.map_cons, pairsPy, Option.bind_eq_some_iff, Option.map_eq_some_iff] at e
    obtain ⟨p, e1, qs, e2, rfl⟩ := e
    simp only [pairsV, flat_of r e1, pairs_of rs e2, Option.bind_some, Option.map_some]
theorem reads_flat {v : V} {u : Value} {p : PyData} (r : RelV v u) (e : flatV v = some p) : Reads h u p [] := by
  cases v with
  | non =>
    cases e
    cases r
    exact .none
  | bl b =>
    cases e
    cases r
    exact .bool b
  | int i =>
    cases e
    obtain ⟨t, rfl⟩ := r
    exact .int i t
  | str x =>
    cases e
    obtain ⟨t, rfl⟩ := r
    exact .str x t
  | _ => cases e
theorem reads_keys : ∀ {k : List Key} {us : List Value}, Vals (k.map kV) us → ReadsAll h us (k.map keyPy) []
  | [], _, .nil => .nil
  | .inl i :: k, _ :: _, .cons r rs => by
    obtain ⟨t, rfl⟩ := (show ∃ t, _ = Value.int i t from r)
    exact ReadsAll.cons (as := []) (.int i t) (reads_keys rs)
  | .inr x :: k, _ :: _, .cons r rs => by
    obtain ⟨t, rfl⟩ := (show ∃ t, _ = Value.str x t from r)
    exact ReadsAll.cons (as := []) (.str x t) (reads_keys rs)
theorem reads_pairs {P : Program} {w : World} (ok : HOk P w H h) : ∀ {kvs : List (List Key × V)} {xs : List (List Key × Addr × Value)} {ps : List (PyData × PyData)}, KT H kvs xs → pairsV kvs = some ps →
    ReadsAll h (xs.map fun x => Value.ref x.2.1) (ps.map (·.1)) [] ∧ ReadsAll h (xs.map (·.2.2)) (ps.map (·.2)) []
  | [], [], ps, .nil, e => by
    cases e
    exact ⟨.nil, .nil⟩
  | (k, v) :: kvs, x :: xs, ps, .cons r rs, e => by
    simp only [pairsV, Option.bind_eq_some_iff, Option.map_eq_some_iff] at e
    obtain ⟨p, e1, qs, e2, rfl⟩ := e
    obtain ⟨a, b⟩ := reads_pairs ok rs e2
    obtain ⟨_, its, rv, ⟨o, ho, hc, n, hd⟩⟩ := (show L2.ObjOk P w H h x.2.1 (.tup (k.map kV)) from ok _ _ r.2.1)
    exact ⟨ReadsAll.cons (as := []) (.tuple ho hc hd (reads_keys rv)) a, ReadsAll.cons (as := []) (reads_flat r.2.2 e1) b⟩
end
section
variable {X : Cx} {E : XK} {Γ : List Md} {pos p : Pos} {k j : Nat} {e : Expr} {te : TE} {fe : Ed}
theorem reads_dic {pins : List (Addr × Obj)} {σ : L2.St} {H : Hp} {s : Shared} (I : Inv X pins σ H s) {a : Addr} {kvs : List (List Key × V)} {ps : List (PyData × PyData)} (hd : Rd H a (.dT kvs)) (hp : pairsV kvs = some ps) : Reads s.heap (.ref a) (.dict ps) [a] ∧ a ≠ sysModules := by
  obtain ⟨h1, h2, xs, h3, o, es, ep, h4, h5, h6, h7, -, -⟩ := dt_rd I.hok hd
  obtain ⟨r1, r2⟩ := reads_pairs I.hok h3 hp
  refine ⟨Reads.dict (as := []) (bs := []) h4 h5.1 h6 ?_ ?_, by simpa using h2⟩
  · rw [h7, List.map_map]
    exact r1
  · rw [h7, List.map_map]
    exact r2
def rReprT : List V → Hp → VK → Prop := fun vs H Q => ∃ a kvs ps z, vs = [V.ref a] ∧ Rd H a (.dT kvs) ∧ pairsV kvs = some ps ∧ showKv ps = some z ∧ Q (.str z) H
theorem showKv_eq {ps : List (PyData × PyData)} {z : Str} (h : showKv ps = some z) : PyData.showable (.dict ps) = true ∧ PyData.depth (.dict ps) ≤ 60 ∧ (PyData.shown (.dict ps)).length ≤ sizeLine ∧ z = PyData.shown (.dict ps) := by
  unfold showKv at h
  split at h
  · rename_i c
    simp only [Bool.and_eq_true, decide_eq_true_eq] at c
    cases h
    exact ⟨c.1.1, c.1.2, c.2, rfl⟩
  · cases h
theorem cr_reprT (x : XOk X E k) : CallR X (.builtin "repr") rReprT := by
  intro pins s σ H xs us Q I r h
  obtain ⟨a, kvs, ps, z, rfl, hd, hp, hz, q⟩ := h
  obtain ⟨u, rfl, ru⟩ := r.one
  cases ru
  obtain ⟨h1, h2, h3, rfl⟩ := showKv_eq hz
  obtain ⟨rd, ne⟩ := reads_dic I hd hp
  refine repr_of_reads' rd h1 (fun _ m => ne (List.mem_singleton.mp m).symm) x.gd ?_ (fun _ _ e => e) (fun h' u tk hk => ⟨.str _, H, I.kept (t' := tk) hk, ⟨_, rfl⟩, q⟩) h3
  have := x.u65
  omega
theorem c_reprA (x : XOk X E k) : CallOk X (.builtin "repr") (fun xs H Q => rRepr X.K xs H Q ∨ rReprT xs H Q) [.b] .f fReprA := ⟨(cr_repr x).or (cr_reprT x), fun pot M H vs ds z al pm ph a hz Q q => by
  by_cases hd : ∃ ks xs, ds = [.dic ks xs]
  · obtain ⟨ks, xs, rfl⟩ := hd
    obtain ⟨v, d, rfl, e, h⟩ := arg1 a
    cases e
    simp only [fReprA, showT, Option.map_eq_some_iff] at hz
    obtain ⟨w, hw, rfl⟩ := hz
    split at hw
    · rename_i hc
      obtain ⟨ps, e1, e2⟩ := Option.bind_eq_some_iff.mp hw
      obtain ⟨p, kvs, rfl, h1, rfl, r1⟩ := rb_dicT hc h
      exact .inr ⟨p, kvs, ps, w, rfl, h1, pairs_of r1 e1, e2, q _ H (Same.refl H) (.str _)⟩
    · cases hw
  · refine .inl ((c_repr x).2 pot M H vs ds z al pm ph a (by
      unfold fReprA at hz
      split at hz
      · rename_i ks xs
        exact (hd ⟨ks, xs, rfl⟩).elim
      · exact hz) Q q)⟩
/-- {x!r} of a dict -/
def eFmtRT (a : Ed) : Ed := fun ρ π => (a ρ π).bind fun x => (ofO (match x.1 with
  | .dic _ _ => (showT x.1).map D.str
  | _ => none)).bind fun z => .ok (z, x.2)
def tFmtT (te : TE) : TE := fun σ H Q => te σ H fun v H1 => ∃ a kvs ps z, v = .ref a ∧ Rd H1 a (.dT kvs) ∧ pairsV kvs = some ps ∧ showKv ps = some z ∧ Q (.str z) H1
theorem pe_fmtT (o : XOk X E k) (ex : PE X e te) : PE X (.FormattedValue e 114 none pos) (tFmtT te) := ⟨fun pins s σ H Q I h => by
  refine wpAny_FormattedValue_repr (thn (ex.run pins s σ H _ I h) fun v s1 shown => ?_)
  obtain ⟨x, H1, I1, r1, a, kvs, ps, z, rfl, hd, hp, hz, q⟩ := shown
  cases r1
  obtain ⟨h1, h2, h3, rfl⟩ := showKv_eq hz
  obtain ⟨rd, ne⟩ := reads_dic I1 hd hp
  have hu : X.A.units + PyData.depth (.dict ps) < cLine := by
    have := o.u64
    omega
  refine pyReprObj_of_reads rd h1 (fun _ m => ne (List.mem_singleton.mp m).symm) o.gd hu (fun _ _ e => e) (fun h' u tk hk => ?_) h3
  exact wpAny_formatField_str ⟨.str _, H1, I1.kept (t' := tk) hk, ⟨_, rfl⟩, q⟩ ⟨.str _, H1, (I1.kept (t' := tk) hk).tok _, ⟨_, rfl⟩, q⟩ h3⟩
theorem de_fmtRT (o : XOk X E k) (he : DE X E .b Γ e te fe) : DE X E .f Γ (.FormattedValue e 114 none pos) (tFmtT te) (eFmtRT fe) :=
  ⟨pe_fmtT o he.pe, fun pot M σ H ρ π I p Q h => by
    refine Post.seq (r' := .b) (te := te σ H) h p (fun Q' hq => he.sem pot M σ H ρ π I p Q' hq) fun d π1 v H1 _ g1 p1 r1 h1 => ?_
    dsimp only at h1
    cases d with
    | dic ks xs =>
      simp only at h1
      cases hw : showT (.dic ks xs) with
      | none =>
        rw [hw] at h1
        exact h1.elim
      | some w =>
        rw [hw] at h1
        simp only [Option.map_some, ofO_some, Res.bind_ok] at h1
        simp only [showT] at hw
        split at hw
        · rename_i hc
          obtain ⟨ps, e1, e2⟩ := Option.bind_eq_some_iff.mp hw
          obtain ⟨a, kvs, rfl, h2, rfl, r2⟩ := rb_dicT hc r1
          exact ⟨a, kvs, ps, w, rfl, h2, pairs_of r2 e1, e2, h1 _ H1 .refl p1 (.str _)⟩
        · cases hw
    | _ => exact h1.elim⟩
variable {c qual x : Str} {st : Stmt} {ps : List Str} {m : Fd}
end
end DL
set_option maxHeartbeats 4000000
namespace DL
open PySem PySem.Spec PyProof.Rows L2
end DL
set_option maxHeartbeats 2000000
namespace DL
open PySem PySem.Spec PyProof.Rows L2
section
open PySem.SeqAt
theorem firstLt_lex : ∀ (ns ms : List Int), firstLt (fun j => ns.getD j 0 == ms.getD j 0) (fun j => decide (ns.getD j 0 < ms.getD j 0)) (decide (ns.length < ms.length)) (List.range (min ns.length ms.length)) = HT.lexLt ns ms
  | [], [] => rfl
  | [], m :: ms => by simp [firstLt, HT.lexLt_nil_cons]
  | n :: ns, [] => by simp [firstLt, HT.lexLt_cons_nil]
  | n :: ns, m :: ms => by
    have ih := firstLt_lex ns ms
    have e : min (n :: ns).length (m :: ms).length = min ns.length ms.length + 1 := by simp [Nat.succ_min_succ]
    rw [e, List.range_succ_eq_map, HT.lexLt_cons]
    by_cases q : n = m
    · rw [if_pos q, firstLt_yes (by simp [q]), PySem.W.firstLt_map]
      simpa using ih
    · rw [if_neg q, firstLt_no (by simpa using q)]
      simp
/-- an int list of the heap -/
def IsLi (h : Heap) (v : Value) (ns : List Int) : Prop := ∃ (a : Addr) (its : Array Value), v = .ref a ∧ h.IsList a its ∧ IntsAre its.toList ns
section
variable {prog : Program} {w : World} {A : Around} {E : Value → Shared → Prop} {s : Shared}
theorem li_at {its : Array Value} {ns : List Int} (i : IntsAre its.toList ns) {j : Nat} (h : j < its.size) : ∃ t, its[j] = .int (ns.getD j 0) t :=
  PyProof.Rows.IntsAre.int_at i _ _ (by simp [h])
theorem lt_li {v u : Value} {ns ms : List Int} {Q : Bool → Shared → Prop} (hu : A.units < cLine) (hv : IsLi s.heap v ns) (hw : IsLi s.heap u ms) (h : Q (HT.lexLt ns ms) s) : wpAny (model prog w) A (keyLt' oneType' v u) Q E s := by
  obtain ⟨a, its, rfl, ha, ia⟩ := hv
  obtain ⟨b, its2, rfl, hb, ib⟩ := hw
  have e1 : its.size = ns.length := by rw [← Array.length_toList]; exact ia.length
  have e2 : its2.size = ms.length := by rw [← Array.length_toList]; exact ib.length
  rw [keyLt'_oneType, PyProof.Rows.oneLt'_eq]
  simp only [if_true]
  refine wpAny_bind (wpAny_cRoomFor hu ?_)
  obtain ⟨o, ho, hc, hd⟩ := id ha
  refine wpAny_bind (wpAny_callSpecialIfBound?_slot (T := "list") ⟨_, ho, hc⟩ F.slot_list_lt (call_list_lt (e := fun j => ns.getD j 0 == ms.getD j 0) (r := fun j => decide (ns.getD j 0 < ms.getD j 0)) ha hb (fun j j1 j2 => ?_) (fun j j1 j2 hj => ?_) ?_))
  · obtain ⟨t, et⟩ := li_at ia j1
    obtain ⟨t', et'⟩ := li_at ib j2
    rw [et, et']
    exact SeqAt.EqAt.int_int _ _ _ _
  · obtain ⟨t, et⟩ := li_at ia j1
    obtain ⟨t', et'⟩ := li_at ib j2
    rw [et, et']
    exact fun _ _ _ _ q => PyProof.Rows.lt_int q
  · rw [e1, e2, firstLt_lex]
    exact wpAny_truthy_bool h
theorem li_type {h : Heap} {M : Model} {v : Value} {ns : List Int} (x : IsLi h v ns) : PySem.W.Looks M h (typeOf v) (.type "list") := by
  obtain ⟨a, its, rfl, ⟨⟨cls, dd, data, sl⟩, ho, hc, _⟩, _⟩ := x
  simp only at hc
  subst hc
  exact (PySem.W.Looks.ld ho).andThen .now
theorem li_keeps {h h' : Heap} {v : Value} {ns : List Int} (x : IsLi h v ns) (k : ∀ b o, v = .ref b → h.get? b = some o → h'.get? b = some o) : IsLi h' v ns := by
  obtain ⟨a, its, rfl, ⟨o, ho, r⟩, i⟩ := x
  exact ⟨a, its, rfl, ⟨o, k _ _ rfl ho, r⟩, i⟩
theorem li_sortable {a : Addr} {vs : List Value} {k : Value → List Int} (h2 : 2 ≤ vs.length) (hu : A.units < cLine) (hv : ∀ v ∈ vs, IsLi s.heap v (k v)) (ha : ∀ v ∈ vs, v ≠ .ref a) :
    SrtO.SortableO prog w A s a vs fun v u => HT.lexLt (k v) (k u) := by
  intro h' keep
  have hv' : ∀ v ∈ vs, IsLi h' v (k v) := fun v hm => li_keeps (hv v hm) fun b o e g => keep b o (fun z => ha v hm (by rw [e, z])) g
  refine ⟨oneType', fun Q E hq => ?_, fun p q hp hq => ?_⟩
  · exact PySem.W.kas_kind (s := { s with heap := h' }) (T := .type "list") h2 (fun v hm => li_type (hv' v hm)) (by decide) (by decide) hq
  · exact lt_li (Q := fun r s' => s' = { s with heap := h' } ∧ r = HT.lexLt (k p.1) (k q.1)) (E := fun _ _ => False) hu (hv' p.1 hp) (hv' q.1 hq) ⟨rfl, rfl⟩
end
end
/-- the ints that a list of H holds -/
def lsI (H : Hp) : V → List Int
  | .ref t => match H t with
    | some (.lst xs) => xs.map fun v => match v with | .int i => i | _ => 0
    | _ => []
  | _ => []
theorem lsI_ref {H : Hp} {t : Addr} {ns : List Int} (h : H t = some (.lst (ns.map V.int))) : lsI H (.ref t) = ns := by
  simp only [lsI, h, List.map_map]
  exact (List.map_congr_left fun _ _ => rfl).trans (List.map_id ns)
/-- sorted(xs), xs a list of lists of ints -/
def rSortLL : List V → Hp → VK → Prop := fun vs H Q => ∃ (a : Addr) (xs : List V), vs = [V.ref a] ∧ H a = some (.lst xs) ∧ (∀ x ∈ xs, ∃ t ns, x = .ref t ∧ H t = some (.lst (List.map V.int ns))) ∧
  ∀ (ys : List V) (p : Addr), ys.Perm xs → ys.Pairwise (fun x y => HT.lexLt (lsI H y) (lsI H x) = false) → H p = none → Q (.ref p) (upd H p (.lst ys))
theorem cr_sortLL {X : Cx} (hu : X.A.units + 65 < cLine) : CallR X (.builtin "sorted") rSortLL := by
  intro pins s σ H vs us Q I r h
  obtain ⟨a, xs, rfl, hs, hx, q⟩ := h
  obtain ⟨hz, its, n, rv, hob⟩ := I.hok a _ hs
  rw [Vals.ref1 r]
  obtain ⟨e1, e2⟩ := bkV_refs rv fun x m => by
    obtain ⟨t, ns, e, _⟩ := hx x m
    exact ⟨t, e⟩
  have hl : s.heap.IsList a its.toArray := ⟨_, hob, rfl, n, rfl⟩
  have hk : ∀ u ∈ its, IsLi s.heap u (lsI H (bkV u)) := fun u hm => by
    obtain ⟨t, rfl⟩ := e2 u hm
    have hm' : V.ref t ∈ xs := by
      rw [e1]
      exact List.mem_map.mpr ⟨_, hm, rfl⟩
    obtain ⟨t', ns, e, ht⟩ := hx _ hm'
    cases e
    obtain ⟨_, its2, n2, r2, ho2⟩ := I.hok t _ ht
    rw [show bkV (.ref t) = V.ref t from rfl, lsI_ref ht]
    exact ⟨t, its2.toArray, rfl, ⟨_, ho2, rfl, n2, rfl⟩, by simpa using r2.ints⟩
  refine SrtO.sorted_ord (NtL.swo_lexL fun u => lsI H (bkV u)) hl (by rw [← rv.length]; exact hz) (fun h2 h₁ a' ha' kk => ?_) fun out h1 h2 => ?_
  · refine li_sortable (s := { s with heap := h₁ }) h2 (by show X.A.units + 1 + 1 < cLine; omega) (fun v hv => li_keeps (hk v hv) fun b o _ g => (kk b o g).2) fun v hv e => ?_
    obtain ⟨t, its2, e', ⟨o, ho, _⟩, _⟩ := hk v hv
    rw [e] at e'
    cases e'
    exact (kk _ o ho).1 rfl
  · obtain ⟨ep, he'⟩ := PyProof.Rows.sortedAll_at s.heap its out.toArray
    have h3 : ∀ u ∈ out, ∃ a, u = Value.ref a := fun u hu => e2 u (h2.perm.mem_iff.mp hu)
    have hp : (out.map bkV).Perm xs := by
      rw [e1]
      exact h2.perm.map bkV
    have hlen : (out.map bkV).length ≤ sizeLine := by
      rw [hp.length_eq]
      exact hz
    exact ⟨.ref _, upd H (s.heap.objs.size + 1) (.lst (out.map bkV)), I.laid (t' := s.toks) (fun _ _ => PyProof.Rows.sortedAll_old) (Nat.le_succ _) ⟨hlen, out, ep, bkV_vals h3, he'⟩, rfl, q _ _ hp (List.pairwise_map.mpr (h1.imp fun {x y} z => z)) (I.hok.fresh (Nat.le_succ _))⟩
def lstZ (ns : List Int) : D := .lst (ns.map D.int)
def asLs : List D → Option (List (List Int))
  | [] => some []
  | .lst xs :: r => (asInts xs).bind fun ns => (asLs r).map (ns :: ·)
  | _ => none
theorem asLs_eq : ∀ {ds : List D} {L : List (List Int)}, asLs ds = some L → ds = L.map lstZ
  | [], L, h => by cases h; rfl
  | d :: r, L, h => by
    cases d with
    | lst xs =>
      simp only [asLs, Option.bind_eq_some_iff, Option.map_eq_some_iff] at h
      obtain ⟨ns, h1, L', h2, rfl⟩ := h
      rw [List.map_cons, ← asLs_eq h2, lstZ, ← asInts_eq h1]
    | _ => cases h
@[simp] theorem asLs_lstZ : ∀ L : List (List Int), asLs (L.map lstZ) = some L
  | [] => rfl
  | ns :: L => by
    show asLs (.lst (ns.map D.int) :: L.map lstZ) = _
    simp [asLs, asLs_lstZ L]
def insL (x : List Int) : List (List Int) → List (List Int)
  | [] => [x]
  | y :: r => if HT.lexLt y x = true then y :: insL x r else x :: y :: r
def sortL : List (List Int) → List (List Int)
  | [] => []
  | x :: r => insL x (sortL r)
theorem insL_perm (x : List Int) : ∀ L, (insL x L).Perm (x :: L)
  | [] => .refl _
  | y :: r => by
    unfold insL
    split
    · exact ((insL_perm x r).cons y).trans (.swap x y r)
    · exact .refl _
theorem sortL_perm : ∀ L, (sortL L).Perm L
  | [] => .refl _
  | x :: r => (insL_perm x _).trans ((sortL_perm r).cons x)
def leL (x y : List Int) : Prop := HT.lexLt y x = false
theorem leL_trans {x y z : List Int} (h1 : leL x y) (h2 : leL y z) : leL x z := NtL.lex_tr _ _ _ h1 h2
theorem insL_sorted (x : List Int) : ∀ L, L.Pairwise leL → (insL x L).Pairwise leL
  | [], _ => List.pairwise_singleton ..
  | y :: r, h => by
    rw [List.pairwise_cons] at h
    unfold insL
    split
    · rename_i q
      rw [List.pairwise_cons]
      refine ⟨fun z hz => ?_, insL_sorted x r h.2⟩
      rcases List.mem_cons.mp ((insL_perm x r).mem_iff.mp hz) with rfl | hz
      · exact NtL.lex_asym _ _ q
      · exact h.1 z hz
    · rename_i q
      have q' : leL x y := by
        show HT.lexLt y x = false
        simpa using q
      rw [List.pairwise_cons, List.pairwise_cons]
      refine ⟨fun z hz => ?_, h⟩
      rcases List.mem_cons.mp hz with rfl | hz
      · exact q'
      · exact leL_trans q' (h.1 z hz)
theorem sortL_sorted : ∀ L, (sortL L).Pairwise leL
  | [] => .nil
  | x :: r => insL_sorted x _ (sortL_sorted r)
theorem leL_anti : ∀ {x y : List Int}, leL x y → leL y x → x = y
  | [], [], _, _ => rfl
  | [], y :: ys, h, h' => by unfold leL at h'; rw [HT.lexLt_nil_cons] at h'; cases h'
  | x :: xs, [], h, h' => by unfold leL at h; rw [HT.lexLt_nil_cons] at h; cases h
  | x :: xs, y :: ys, h, h' => by
    unfold leL at h h'
    rw [HT.lexLt_cons] at h h'
    by_cases e : x = y
    · subst e
      rw [if_pos rfl] at h h'
      rw [leL_anti h h']
    · rw [if_neg (Ne.symm e)] at h
      rw [if_neg e] at h'
      have a := of_decide_eq_false h
      have b := of_decide_eq_false h'
      exact absurd (by omega) e
theorem lex_irr (x : List Int) : HT.lexLt x x = false := (NtL.swo_lexL id).refl x
theorem sorted_L : ∀ {L Z : List (List Int)}, L.Perm Z → L.Pairwise leL → Z.Pairwise leL → L = Z
  | [], Z, hp, _, _ => (List.nil_perm.mp hp).symm
  | x :: L, [], hp, _, _ => absurd hp (by simp)
  | x :: L, z :: Z, hp, h1, h2 => by
    rw [List.pairwise_cons] at h1 h2
    have hx : x ∈ z :: Z := hp.mem_iff.mp (List.mem_cons_self ..)
    have hz : z ∈ x :: L := hp.mem_iff.mpr (List.mem_cons_self ..)
    have a : leL z x := by
      rcases List.mem_cons.mp hx with rfl | m
      · exact lex_irr _
      · exact h2.1 x m
    have b : leL x z := by
      rcases List.mem_cons.mp hz with rfl | m
      · exact lex_irr _
      · exact h1.1 z m
    have e : x = z := leL_anti b a
    subst e
    rw [sorted_L (List.Perm.cons_inv hp) h1.2 h2.2]
def fSortB (ds : List D) : Option D := match ds with
  | [.lst xs] => match asInts xs with
    | some ns => some (.lst ((sortI ns).map D.int))
    | none => match asLs xs with
      | some L => some (.lst ((sortL L).map lstZ))
      | none => fSortA [.lst xs]
  | _ => fSortA ds
@[simp] theorem fSortB_iz (ns : List Int) : fSortB [.lst (ns.map D.int)] = some (.lst ((sortI ns).map D.int)) := by
  simp [fSortB, asInts_iz]
@[simp] theorem fSortB_tup (xs : List D) : fSortB [.tup xs] = fSortA [.tup xs] := rfl
section
variable {X : Cx} {E : XK} {k : Nat} {mg : Str → Option Value} {K : PySem.W.Frag} {H : Hp} {M : List Addr} {pot : Option Addr}
theorem rp_lstZ {v : V} {ns : List Int} (r : Rp mg K (less H M) v (lstZ ns)) : ∃ t, v = .ref t ∧ H t = some (.lst (ns.map V.int)) := by
  obtain ⟨p, xs, rfl, h1, h2⟩ := rb_lst (pot := none) (.inl r)
  exact ⟨p, rfl, by rw [h1, h2.iz]⟩
theorem perm_unmapL {es : List D} {L : List (List Int)} (h : es.Perm (L.map lstZ)) : ∃ L' : List (List Int), es = L'.map lstZ ∧ L'.Perm L := by
  have hinj : ∀ es : List D, (∀ e ∈ es, ∃ n, e = lstZ n) → ∃ L' : List (List Int), es = L'.map lstZ := fun es => by
    induction es with
    | nil => intro _; exact ⟨[], rfl⟩
    | cons e es ih =>
      intro he
      obtain ⟨n, rfl⟩ := he e (List.mem_cons_self ..)
      obtain ⟨L', rfl⟩ := ih fun x hx => he x (List.mem_cons_of_mem _ hx)
      exact ⟨n :: L', rfl⟩
  obtain ⟨L', rfl⟩ := hinj es fun e he => by
    obtain ⟨n, _, rfl⟩ := List.mem_map.mp (h.mem_iff.mp he)
    exact ⟨n, rfl⟩
  refine ⟨L', rfl, ?_⟩
  have back : ∀ l : List (List Int), (l.map lstZ).map (fun d => ((match d with | .lst xs => (asInts xs).getD [] | _ => []) : List Int)) = l := fun l => by
    rw [List.map_map]
    conv => rhs; rw [← List.map_id l]
    apply List.map_congr_left
    intro ns _
    simp [lstZ]
  have := h.map (fun d => ((match d with | .lst xs => (asInts xs).getD [] | _ => []) : List Int))
  rwa [back, back] at this
theorem pair_lex : ∀ {ys : List V} {L : List (List Int)}, RpL mg K (less H M) ys (L.map lstZ) → ys.Pairwise (fun x y => HT.lexLt (lsI H y) (lsI H x) = false) → L.Pairwise leL
  | [], [], _, _ => .nil
  | y :: ys, n :: L, r, h => by
    cases r with
    | cons a t =>
      rw [List.pairwise_cons] at h ⊢
      refine ⟨fun m hm => ?_, pair_lex t h.2⟩
      obtain ⟨i, hi⟩ := List.getElem?_of_mem hm
      obtain ⟨w, e1, e2⟩ := t.get (i := i) (d := lstZ m) (by rw [List.getElem?_map, hi]; rfl)
      have := h.1 w (List.mem_of_getElem? e1)
      obtain ⟨p, rfl, hp⟩ := rp_lstZ a
      obtain ⟨q, rfl, hq⟩ := rp_lstZ e2
      rw [lsI_ref hp, lsI_ref hq] at this
      exact this
theorem c_sortB (x0 : XOk X E k) : CallOk X (.builtin "sorted") (fun vs H Q => (rSortedI X.K vs H Q ∨ rSortU X.K 2 1024 vs H Q ∨ rSortU X.K 3 1024 vs H Q ∨ rSortedTp X.K vs H Q) ∨ rSortLL vs H Q) [.b] .o fSortB := ⟨c_sortA.1.or (cr_sortLL x0.u65), fun pot M H vs ds z al pm ph a hz Q q => by
  obtain ⟨v, d, rfl, rfl, h⟩ := arg1 a
  cases d with
  | lst xs =>
    have other : fSortA [.lst xs] = some z → _ := fun hz' => Or.inl (b := rSortLL [v] H Q) (c_sortA.2 pot M H _ _ _ al pm ph (.cons h .nil) hz' Q q)
    unfold fSortB at hz
    simp only at hz
    cases en : asInts xs with
    | some ns =>
      rw [en] at hz
      refine other ?_
      simp only [fSortA, en]
      exact hz
    | none =>
      rw [en] at hz
      cases eL : asLs xs with
      | none =>
        rw [eL] at hz
        exact other hz
      | some L =>
        rw [eL] at hz
        cases hz
        rw [asLs_eq eL] at h
        obtain ⟨p, us, rfl, h1, r1⟩ := rb_lst h
        refine .inr ⟨p, us, rfl, h1, fun x hx => ?_, fun ys c hp hs hn => ?_⟩
        · obtain ⟨i, hi⟩ := List.getElem?_of_mem hx
          obtain ⟨e, e1, e2⟩ := r1.getV hi
          rw [List.getElem?_map, Option.map_eq_some_iff] at e1
          obtain ⟨ns, e3, rfl⟩ := e1
          obtain ⟨t, e4, e5⟩ := rp_lstZ e2
          exact ⟨t, ns, e4, e5⟩
        · obtain ⟨es, p1, r2⟩ := rpL_perm hp r1
          obtain ⟨L', rfl, p2⟩ := perm_unmapL p1
          have e : L' = sortL L := sorted_L (p2.trans (sortL_perm L).symm) (pair_lex r2 hs) (sortL_sorted L)
          subst e
          exact q _ _ (same_upd hn) (new_lst ph hn r2)
  | tup xs => exact .inl (c_sortA.2 pot M H _ _ _ al pm ph (.cons h .nil) hz Q q)
  | _ => simp [fSortB, fSortA] at hz⟩
end
end DL
set_option maxHeartbeats 4000000
namespace DL
open PySem PySem.Spec PyProof.Rows L2
end DL
set_option maxHeartbeats 4000000
namespace DL
open PySem PySem.Spec PyProof.Rows L2
def rSetL (K : PySem.W.Frag) (w : World) : List V → Hp → VK → Prop := fun vs H Q => ∃ (l : Addr) (ns : List Int), vs = [V.ref l] ∧ SqL K H l (ns.map V.int) ∧ ns.length + 1 < scanBound ∧
  ∀ a n, H a = none → n ≤ ns.length → Q (.ref a) (upd H a (SetO w a (fun j => decide (j ∈ ns)) n))
end DL
set_option maxHeartbeats 4000000
namespace DL
open PySem PySem.Spec PyProof.Rows L2
end DL
set_option maxHeartbeats 4000000
namespace DL
open PySem PySem.Spec PyProof.Rows L2
end DL
set_option maxHeartbeats 4000000
namespace DL
open PySem PySem.Spec PyProof.Rows L2
end DL
set_option maxHeartbeats 4000000
namespace DL
open PySem PySem.Spec PySem.W PyProof.Rows L2
end DL
set_option maxHeartbeats 4000000
namespace DL
open PySem PySem.Spec PyProof.Rows L2
def opNotInKE : D → D → Option D
  | .int _, .dic [] _ => some (.bl true)
  | d, e => opNotInK d e
def opInKE : D → D → Option D
  | .int _, .dic [] _ => some (.bl false)
  | d, e => opInK d e
@[simp] theorem opNotInKE_nil (i : Int) (xs : List D) : opNotInKE (.int i) (.dic [] xs) = some (.bl true) := rfl
@[simp] theorem opNotInKE_cons (d : D) (k : DKey) (ks : List DKey) (xs : List D) : opNotInKE d (.dic (k :: ks) xs) = opNotInK d (.dic (k :: ks) xs) := by
  unfold opNotInKE
  split
  · next h => cases h
  · rfl
@[simp] theorem opInKE_nil (i : Int) (xs : List D) : opInKE (.int i) (.dic [] xs) = some (.bl false) := rfl
@[simp] theorem opInKE_cons (d : D) (k : DKey) (ks : List DKey) (xs : List D) : opInKE d (.dic (k :: ks) xs) = opInK d (.dic (k :: ks) xs) := by
  unfold opInKE
  split
  · next h => cases h
  · rfl
end DL
set_option maxHeartbeats 4000000
namespace DL
open PySem PySem.Spec PyProof.Rows L2
end DL
set_option maxHeartbeats 4000000
namespace DL
open PySem PySem.Spec PyProof.Rows L2
mutual
/-- no list in it -/
def lfree : D → Bool
  | .lst _ => false
  | .tup xs => lfreeL xs
  | .dic _ xs => lfreeL xs
  | .ins _ _ xs => lfreeL xs
  | _ => true
def lfreeL : List D → Bool
  | [] => true
  | x :: xs => lfree x && lfreeL xs
end
def lfreeO : D → Bool
  | .lst xs => lfreeL xs
  | d => lfree d
def maskGo (i : Nat) (C O : List Nat) : Nat → Rho → Rho
  | _, [] => []
  | j, v :: ρ => (if j = i then none else if j ∈ C then (match v with
    | some d => if (if j ∈ O then lfreeO d else lfree d) = true then some d else none
    | none => none) else v) :: maskGo i C O (j + 1) ρ
def maskC (i : Nat) (C O : List Nat) (ρ : Rho) : Rho := maskGo i C O 0 ρ
section
variable {mg : Str → Option Value} {K : PySem.W.Frag} {H H' : Hp}
abbrev OffL (H H' : Hp) : Prop := ∀ a o, H a = some o → (∀ xs, o ≠ .lst xs) → H' a = some o
theorem rd_off {a : Addr} {u : HO} (e : OffL H H') (n : ∀ xs, u ≠ .lst xs) (h : Rd H a u) : Rd H' a u := by
  rcases h with h | ⟨o, h⟩
  · exact .inl (e _ _ h n)
  · exact .inr ⟨o, e _ _ h fun xs z => by cases z⟩
mutual
theorem Rp.off (e : OffL H H') : ∀ {v : V} {d : D}, Rp mg K H v d → lfree d = true → Rp mg K H' v d
  | _, _, .non, _ => .non
  | _, _, .bl b, _ => .bl b
  | _, _, .int i, _ => .int i
  | _, _, .str x, _ => .str x
  | _, _, .lst _ _, n => by simp [lfree] at n
  | _, _, .tup h r, n => .tup (e _ _ h fun xs z => by cases z) (RpL.off e r (by simpa [lfree] using n))
  | _, _, .dicK h r, n => .dicK (rd_off e (fun xs z => by cases z) h) (RpL.off e r (by simpa [lfree] using n))
  | _, _, .dicT h r, n => .dicT (rd_off e (fun xs z => by cases z) h) (RpL.off e r (by simpa [lfree] using n))
  | _, _, .ins m h r, n => .ins m (e _ _ h fun xs z => by cases z) (RpL.off e r (by simpa [lfree] using n))
theorem RpL.off (e : OffL H H') : ∀ {vs : List V} {ds : List D}, RpL mg K H vs ds → lfreeL ds = true → RpL mg K H' vs ds
  | _, _, .nil, _ => .nil
  | _, _, .cons h r, n => by
    simp only [lfreeL, Bool.and_eq_true] at n
    exact .cons (Rp.off e h n.1) (RpL.off e r n.2)
end
theorem HoR.off {o : HO} {d : D} (e : OffL H H') (h : HoR mg K H o d) (n : lfreeO d = true) : HoR mg K H' o d := by
  cases h with
  | lst r => exact .lst (r.off e (by simpa [lfreeO] using n))
  | dicK r => exact .dicK (r.off e (by simpa [lfreeO, lfree] using n))
  | dicT r => exact .dicT (r.off e (by simpa [lfreeO, lfree] using n))
  | ins m r => exact .ins m (r.off e (by simpa [lfreeO, lfree] using n))
end
theorem lf_o {d : D} {p : Prop} [Decidable p] (h : (if p then lfreeO d else lfree d) = true) : lfreeO d = true := by
  split at h
  · exact h
  · cases d <;> simp_all [lfree, lfreeO]
theorem maskGo_at {i : Nat} {C O : List Nat} : ∀ {ρ : Rho} {k j : Nat} {d : D}, (maskGo i C O k ρ)[j]? = some (some d) → ρ[j]? = some (some d) ∧ k + j ≠ i ∧ (k + j ∈ C → (if k + j ∈ O then lfreeO d else lfree d) = true)
  | [], k, j, d, h => by simp [maskGo] at h
  | v :: ρ, k, 0, d, h => by
    simp only [maskGo, List.getElem?_cons_zero, Option.some.injEq] at h
    rw [Nat.add_zero]
    by_cases h1 : k = i
    · rw [if_pos h1] at h; cases h
    · rw [if_neg h1] at h
      by_cases h2 : k ∈ C
      · rw [if_pos h2] at h
        cases v with
        | none => cases h
        | some e =>
          simp only at h
          by_cases h3 : (if k ∈ O then lfreeO e else lfree e) = true
          · rw [if_pos h3] at h
            cases h
            exact ⟨rfl, h1, fun _ => h3⟩
          · rw [if_neg h3] at h; cases h
      · rw [if_neg h2] at h
        subst h
        exact ⟨rfl, h1, fun z => absurd z h2⟩
  | v :: ρ, k, j + 1, d, h => by
    have h' : (maskGo i C O (k + 1) ρ)[j]? = some (some d) := by simpa [maskGo] using h
    obtain ⟨a, b, c⟩ := maskGo_at h'
    have e : k + 1 + j = k + (j + 1) := by omega
    rw [e] at b c
    exact ⟨by simpa using a, b, c⟩
theorem maskGo_len {i : Nat} {C O : List Nat} : ∀ {ρ : Rho} {k : Nat}, (maskGo i C O k ρ).length = ρ.length
  | [], _ => rfl
  | v :: ρ, k => by simp [maskGo, maskGo_len]
section
variable (mg : Str → Option Value) (K : PySem.W.Frag)
structure Bk (Γ : List Md) (i : Nat) (A : List Nat) (pot : Option Addr) (Ms : List Addr) (Hs : Hp) (σs : L2.St) (ρs : Rho) (M : List Addr) (σ : L2.St) (H : Hp) (ρ : Rho) : Prop where
  sv : Same (less Hs Ms) (less H M)
  gr : Grow pot Hs H
  kp : ∀ j, j ≠ i → j ∉ A → σ[j]? = σs[j]? ∧ ρ[j]? = ρs[j]?
  nw : ∀ j ∈ A, Γ[j]? = some .o → ∀ d a, ρ[j]? = some (some d) → σ[j]? = some (some (.ref a)) → Hs a = none
  xv : ∃ v d N, σ[i]? = some (some v) ∧ ρ[i]? = some (some d) ∧ (∀ a ∈ M, a ∈ N) ∧ (∀ a ∈ N, Al H a) ∧ (∀ a xs, Hs a = some (.lst xs) → a ∈ N) ∧ Rp mg K (less H N) v d
end
/-- which slots are looked at before they are kept -/
def cOk (Γ : List Md) (i : Nat) (A C O : List Nat) : Bool :=
  A.all (fun j => decide (j ∈ C)) && (List.range Γ.length).all (fun j => match Γ[j]? with
    | some .o => true
    | some .f => !decide (j ∈ O)
    | some .u => true
    | _ => !decide (j ∈ C))
section
variable {mg : Str → Option Value} {K : PySem.W.Frag} {pot : Option Addr} {M M0 Ms : List Addr} {H H0 H1 Hs B : Hp} {π π1 : Pot} {Γ Γl Γ' : List Md} {σ σs : L2.St} {ρ ρs : Rho} {E : XK} {i : Nat} {A C O : List Nat}
theorem cOk_a (h : cOk Γ i A C O = true) {j : Nat} (q : j ∈ A) : j ∈ C := by
  have := List.all_eq_true.mp (Bool.and_eq_true_iff.mp h).1 j q
  simpa using this
theorem cOk_g (h : cOk Γ i A C O = true) {j : Nat} {m : Md} (q : Γ[j]? = some m) : (j ∈ C → m = .f ∨ m = .o ∨ m = .u) ∧ (m = .f → j ∉ O) := by
  have hl := (List.getElem?_eq_some_iff.mp q).1
  have := List.all_eq_true.mp (Bool.and_eq_true_iff.mp h).2 j (List.mem_range.mpr hl)
  rw [q] at this
  cases m <;> simp_all
/-- behind the changes -/
theorem Bk.done (hc : cOk Γ i A C O = true) (Ss : SOk mg K Γ pot M0 H0 B Ms σs Hs ρs) (S : SOk mg K Γ pot M0 H0 B M σ H ρ) (b : Bk mg K Γ i A pot Ms Hs σs ρs M σ H ρ) {H3 : Hp}
    (h3 : ∀ a o, H a = some o → (a ∈ M ∨ (∀ xs, o ≠ .lst xs) ∨ Hs a ≠ none) → H3 a = some o) : SOk mg K Γ pot M0 H0 B M σ H3 (maskC i C O ρ) := by
  have I := S.env
  have dom : Same (less Hs Ms) (less H3 M) := fun a o h => by
    obtain ⟨e1, e2⟩ := less_some.mp (b.sv a o h)
    exact less_some.mpr ⟨e1, h3 a o e2 (.inr (.inr (by rw [(less_some.mp h).2]; simp)))⟩
  have off : OffL (less H M) (less H3 M) := fun a o h n => by
    obtain ⟨e1, e2⟩ := less_some.mp h
    exact less_some.mpr ⟨e1, h3 a o e2 (.inr (.inl n))⟩
  have at_ : ∀ {j : Nat} {d : D}, (maskC i C O ρ)[j]? = some (some d) → ρ[j]? = some (some d) ∧ j ≠ i ∧ (j ∈ C → (if j ∈ O then lfreeO d else lfree d) = true) := fun {j d} q => by
    have := maskGo_at q
    simpa using this
  have was : ∀ {j : Nat} {d : D}, (maskC i C O ρ)[j]? = some (some d) → j ∉ C → ρs[j]? = some (some d) ∧ σ[j]? = σs[j]? := fun {j d} q n => by
    obtain ⟨q1, q2, _⟩ := at_ q
    obtain ⟨e1, e2⟩ := b.kp j q2 fun z => n (cOk_a hc z)
    exact ⟨by rw [← e2]; exact q1, e1⟩
  refine ⟨⟨I.ls, by unfold maskC; rw [maskGo_len]; exact I.lr, fun j d g1 g2 => ?_, fun j d g1 g2 => ?_, I.p, fun j d g1 g2 => ?_, fun j k a x y g1 g2 g3 g4 g5 g6 => I.ap j k a x y g1 g2 (at_ g3).1 (at_ g4).1 g5 g6, fun a ha => ?_, I.pm, fun j a dd d g1 g2 => ?_⟩, fun a o n g => ?_, S.sub, fun j d a g1 g2 g3 => S.ow j d a g1 (at_ g2).1 g3, S.m0, fun a o e => dom a o (Ss.bs a o e)⟩
  · by_cases hC : j ∈ C
    · obtain ⟨q1, _, q3⟩ := at_ g2
      obtain ⟨v, e1, r1⟩ := I.f j d g1 q1
      refine ⟨v, e1, ?_⟩
      have n := q3 hC
      rw [if_neg ((cOk_g hc g1).2 rfl)] at n
      exact r1.off off n
    · obtain ⟨q1, q2⟩ := was g2 hC
      obtain ⟨v, e1, r1⟩ := Ss.env.f j d g1 q1
      exact ⟨v, by rw [q2]; exact e1, r1.mono dom⟩
  · obtain ⟨q1, _, q3⟩ := at_ g2
    obtain ⟨p, e1, m, n, oo, w1, w2⟩ := I.o j d g1 q1
    by_cases hC : j ∈ C
    · refine ⟨p, e1, m, n, oo, h3 p _ w1 (.inl m), w2.off (fun a o h nl => ?_) (lf_o (q3 hC))⟩
      obtain ⟨z1, z2⟩ := less_some.mp h
      exact less_some.mpr ⟨z1, h3 a o z2 (.inr (.inl nl))⟩
    · obtain ⟨q4, q5⟩ := was g2 hC
      obtain ⟨p', e1', m', n', oo', w1', w2'⟩ := Ss.env.o j d g1 q4
      rw [← q5, e1] at e1'
      cases e1'
      refine ⟨p, e1, m, n, oo', h3 p _ (b.gr p _ n w1') (.inl m), w2'.mono fun a o h => ?_⟩
      obtain ⟨z1, z2⟩ := less_some.mp h
      obtain ⟨z3, z4⟩ := less_some.mp (dom a o (less_some.mpr ⟨fun z => z1 (List.mem_cons_of_mem _ z), z2⟩))
      refine less_some.mpr ⟨fun z => ?_, z4⟩
      rcases List.mem_cons.mp z with z | z
      · exact z1 (by rw [z]; exact List.mem_cons_self ..)
      · exact z3 z
  · have hC : j ∉ C := fun z => by
      rcases (cOk_g hc g1).1 z with z | z | z <;> cases z
    obtain ⟨q1, q2⟩ := was g2 hC
    obtain ⟨p, ns, e1, e2, e3⟩ := Ss.env.s j d g1 q1
    exact ⟨p, ns, by rw [q2]; exact e1, e2, sqL_mono dom e3⟩
  · obtain ⟨o, e, n⟩ := I.al a ha
    exact .of (h3 a o e (.inl ha)) n
  · have hC : j ∉ C := fun z => by
      rcases (cOk_g hc g1).1 z with z | z | z <;> cases z
    obtain ⟨q1, q2⟩ := was g2 hC
    obtain ⟨e1, e2⟩ := Ss.env.x j a dd d g1 q1
    exact ⟨by rw [q2]; exact e1, e2.mono dom⟩
  · exact h3 a o (b.gr a o n (Ss.gr a o n g)) (.inr (.inr (by rw [Ss.gr a o n g]; simp)))
theorem Bk.grow (b : Bk mg K Γ i A pot Ms Hs σs ρs M σ H ρ) (S : SOk mg K Γ pot M0 H0 B M σ H ρ) (g : Grow pot H H1) (p : PotAt pot H1 π) : Bk mg K Γ i A pot Ms Hs σs ρs M σ H1 ρ := by
  obtain ⟨v, d, N, e1, e2, e3, e4, e5, e6⟩ := b.xv
  exact ⟨fun a o h => less_grow S.env.pm g a o (b.sv a o h), b.gr.trans g, b.kp, b.nw, v, d, N, e1, e2, e3, alive e4 p g, e5, e6.mono (less_grow (fun a h => e3 a (S.env.pm a h)) g)⟩
end
end DL
set_option maxHeartbeats 4000000
namespace DL
open PySem PySem.Spec PyProof.Rows L2
section
variable {mg : Str → Option Value} {K : PySem.W.Frag} {pot : Option Addr} {M M0 Ms : List Addr} {H H0 H1 Hs B : Hp} {π π1 : Pot} {Γ Γl Γ' : List Md} {σ σ' σs : L2.St} {ρ ρs : Rho} {E : XK} {i l : Nat} {A C O : List Nat}
theorem none_at {j : Nat} {d : D} (h : (ρ.set l none)[j]? = some (some d)) : j ≠ l ∧ ρ[j]? = some (some d) := by
  rcases set_at h with ⟨_, z, _⟩ | ⟨n, z⟩
  · cases z
  · exact ⟨fun q => n q.symm, z⟩
theorem Bk.forget (b : Bk mg K Γ i A pot Ms Hs σs ρs M σ H ρ) (hl : l ∈ A) (hi : l ≠ i) (hs : ∀ j, j ≠ l → σ'[j]? = σ[j]?) : Bk mg K Γ i A pot Ms Hs σs ρs M σ' H (ρ.set l none) := by
  obtain ⟨v, d, N, e1, e2, e3⟩ := b.xv
  refine ⟨b.sv, b.gr, fun j n1 n2 => ?_, fun j hj ho d' a' g1 g2 => ?_, v, d, N, by rw [hs i fun z => hi z.symm]; exact e1, by rw [List.getElem?_set_ne hi]; exact e2, e3⟩
  · have nl : j ≠ l := fun z => n2 (z ▸ hl)
    rw [hs j nl, List.getElem?_set_ne (fun z => nl z.symm)]
    exact b.kp j n1 n2
  obtain ⟨n, q⟩ := none_at g1
  rw [hs j n] at g2
  exact b.nw j hj ho d' a' q g2
end
end DL
set_option maxHeartbeats 2000000
namespace DL
open PySem PySem.Spec PyProof.Rows L2
/-- no list that is held by a walk -/
def NotF (H : Hp) (b : Addr) : Prop := ∀ o xs, H b ≠ some (.frz o (.lst xs))
/-- each repr that runs is of a held list -/
def GdF (g : List Code) (H : Hp) : Prop := ∀ id v rest kw, Code.builtin id ⟨v :: rest, kw⟩ ∈ g → ∃ b o xs, v = .ref b ∧ H b = some (.frz o (.lst xs))
theorem GdF.nil (H : Hp) : GdF [] H := fun _ _ _ _ h => nomatch h
theorem GdF.clear {g : List Code} {H : Hp} {b : Addr} (h : GdF g H) (n : NotF H b) : Clear g b := fun id v rest kw hm e => by
  obtain ⟨c, o, xs, e1, e2⟩ := h id v rest kw hm
  rw [e1] at e
  cases e
  exact n o xs e2
theorem GdF.mono {g : List Code} {H H' : Hp} (h : GdF g H) (k : ∀ b o u, H b = some (.frz o u) → H' b = some (.frz o u)) : GdF g H' := fun id v rest kw hm => by
  obtain ⟨c, o, xs, e1, e2⟩ := h id v rest kw hm
  exact ⟨c, o, xs, e1, k _ _ _ e2⟩
section
variable {X : Cx} {pins : List (Addr × Obj)} {σ : L2.St} {H : Hp} {s : Shared}
mutual
theorem rpK (I : Inv X pins σ H s) : ∀ {v : V} {d : D} {u : Value} {p : PyData}, Rp X.mg X.K H v d → RelV v u → toPy d = some p → p.showable = true → p.shown.length ≤ sizeLine →
    (∃ as, Reads s.heap u p as) ∧ ∃ bs, ReadAtMost s.heap p.depth bs ∧ (∀ b ∈ bs, NotF H b) ∧ ReprK X.prog X.w bs s.heap p.depth u p.shown
  | _, _, _, _, .non, r, e, _, _ => by
    cases e; cases r
    exact ⟨⟨_, .none⟩, [], (fun _ h => nomatch h), (fun _ h => nomatch h), by simp only [PyData.shown]; exact .of_is ReprIs.none _ _ _⟩
  | _, _, _, _, .bl b, r, e, _, _ => by
    cases e; cases r
    exact ⟨⟨_, .bool b⟩, [], (fun _ h => nomatch h), (fun _ h => nomatch h), by simp only [PyData.shown]; exact .of_is (ReprIs.bool b) _ _ _⟩
  | _, _, _, _, .int i, r, e, hs, _ => by
    cases e
    obtain ⟨t, rfl⟩ := r
    exact ⟨⟨_, .int i t⟩, [], (fun _ h => nomatch h), (fun _ h => nomatch h), by simp only [PyData.shown]; exact .of_is (ReprIs.int t (by simpa [PyData.showable] using hs)) _ _ _⟩
  | _, _, _, _, .str x, r, e, _, hz => by
    cases e
    obtain ⟨t, rfl⟩ := r
    exact ⟨⟨_, .str x t⟩, [], (fun _ h => nomatch h), (fun _ h => nomatch h), by simp only [PyData.shown]; exact .of_is (ReprIs.str x t (by simpa only [PyData.shown] using hz)) _ _ _⟩
  | _, .lst ds, _, _, .lst (a := a) h q, r, e, hs, hz => by
    simp only [toPy, Option.map_eq_some_iff] at e
    obtain ⟨ps, e1, rfl⟩ := e
    cases r
    obtain ⟨_, its, n, rv, h1⟩ := (show ObjOk X.prog X.w H s.heap a (.lst _) from I.hok a _ h)
    have hz' : (listText (PyData.shownAll ps)).length ≤ sizeLine := by simpa only [PyData.shown] using hz
    obtain ⟨⟨as, h4⟩, bs, hb, hn, hk⟩ := rpKL I q rv e1 (by simpa [PyData.showable] using hs) (fun t ht => Nat.le_trans (listText_mem_le ht) hz')
    have rd : Reads s.heap (.ref a) (.list ps) _ := .list h1 rfl rfl h4
    have hna : a ∉ bs := not_mem_of_deeper rd (by simp only [PyData.depth]; omega) hb
    refine ⟨⟨_, rd⟩, a :: bs, ReadAtMost.cons rd (by simp only [PyData.depth]; omega) hb, fun b hb => ?_, ?_⟩
    · rcases List.mem_cons.mp hb with rfl | hb
      · intro o xs z
        rw [h] at z
        cases z
      · exact hn b hb
    · simp only [PyData.depth, PyData.shown]
      cases its with
      | nil =>
        have h4' : ReadsAll s.heap [] ps _ := h4
        cases h4'
        simp only [PyData.shownAll, listText_nil]
        exact ReprK.listEmpty h1 rfl rfl
      | cons x l => exact ReprK.list h1 rfl rfl hna (by simpa using hk.length_eq) (fun i y e => hk.item i y (by simpa using e))
  | _, .tup ds, _, _, .tup (a := a) h q, r, e, hs, hz => by
    simp only [toPy, Option.map_eq_some_iff] at e
    obtain ⟨ps, e1, rfl⟩ := e
    cases r
    obtain ⟨_, its, rv, o, h1, h2, n, h3⟩ := (show ObjOk X.prog X.w H s.heap a (.tup _) from I.hok a _ h)
    have hz' : (tupleText (PyData.shownAll ps)).length ≤ sizeLine := by simpa only [PyData.shown] using hz
    obtain ⟨⟨as, h4⟩, bs, hb, hn, hk⟩ := rpKL I q rv e1 (by simpa [PyData.showable] using hs) (fun t ht => Nat.le_trans (tupleText_mem_le ht) hz')
    have rd : Reads s.heap (.ref a) (.tuple ps) _ := .tuple h1 h2 h3 h4
    have hna : a ∉ bs := not_mem_of_deeper rd (by simp only [PyData.depth]; omega) hb
    refine ⟨⟨_, rd⟩, a :: bs, ReadAtMost.cons rd (by simp only [PyData.depth]; omega) hb, fun b hb => ?_, ?_⟩
    · rcases List.mem_cons.mp hb with rfl | hb
      · intro o xs z
        rw [h] at z
        cases z
      · exact hn b hb
    · simp only [PyData.depth, PyData.shown]
      exact ReprK.tuple h1 h2 h3 hna hk
  | _, _, _, _, .dicK _ _, _, e, _, _ => by simp [toPy] at e
  | _, _, _, _, .dicT _ _, _, e, _, _ => by simp [toPy] at e
  | _, _, _, _, .ins _ _ _, _, e, _, _ => by simp [toPy] at e
theorem rpKL (I : Inv X pins σ H s) : ∀ {vs : List V} {ds : List D} {us : List Value} {ps : List PyData}, RpL X.mg X.K H vs ds → Vals vs us → toPyL ds = some ps → PyData.showableAll ps = true → (∀ t ∈ PyData.shownAll ps, t.length ≤ sizeLine) →
    (∃ as, ReadsAll s.heap us ps as) ∧ ∃ bs, ReadAtMost s.heap (PyData.depthAll ps) bs ∧ (∀ b ∈ bs, NotF H b) ∧ ReprAllK X.prog X.w bs s.heap (PyData.depthAll ps) us (PyData.shownAll ps)
  | _, _, _, _, .nil, r, e, _, _ => by
    simp only [toPyL, Option.some.injEq] at e
    subst e
    cases r
    exact ⟨⟨_, .nil⟩, [], (fun _ h => nomatch h), (fun _ h => nomatch h), by simp only [PyData.shownAll]; exact .nil⟩
  | _, d :: ds, _, _, .cons h q, r, e, hs, hz => by
    simp only [toPyL] at e
    split at e
    · rename_i p qs e1 e2
      cases e
      cases r with
      | cons r1 r2 =>
        have hs' : p.showable = true ∧ PyData.showableAll qs = true := by simpa [PyData.showableAll] using hs
        obtain ⟨⟨a1, d1⟩, b1, hb1, n1, k1⟩ := rpK I h r1 e1 hs'.1 (hz _ (by simp only [PyData.shownAll]; exact List.mem_cons_self ..))
        obtain ⟨⟨a2, d2⟩, b2, hb2, n2, k2⟩ := rpKL I q r2 e2 hs'.2 (fun t ht => hz t (by simp only [PyData.shownAll]; exact List.mem_cons_of_mem _ ht))
        refine ⟨⟨_, .cons d1 d2⟩, b1 ++ b2, ?_, ?_, ?_⟩
        · intro b hm
          simp only [PyData.depthAll]
          rcases List.mem_append.mp hm with hm | hm
          · obtain ⟨d', as', r', hd'⟩ := hb1 b hm
            exact ⟨d', as', r', Nat.le_trans hd' (Nat.le_max_left _ _)⟩
          · obtain ⟨d', as', r', hd'⟩ := hb2 b hm
            exact ⟨d', as', r', Nat.le_trans hd' (Nat.le_max_right _ _)⟩
        · intro b hm
          rcases List.mem_append.mp hm with hm | hm
          · exact n1 b hm
          · exact n2 b hm
        · simp only [PyData.depthAll, PyData.shownAll]
          exact .cons ((k1.more fun b hb => List.mem_append_left _ hb).level_le (Nat.le_max_left _ _)) (k2.more_le (fun b hb => List.mem_append_right _ hb) (Nat.le_max_right _ _))
    · cases e
end
end
end DL
set_option maxHeartbeats 2000000
namespace DL
open PySem PySem.Spec PyProof.Rows L2
section
variable {mg : Str → Option Value} {K : PySem.W.Frag} {H : Hp}
def kyD : Key → D
  | .inl i => .int i
  | .inr x => .str x
def vlD : V → D
  | .int i => .int i
  | .bl b => .bl b
  | .str x => .str x
  | _ => .non
theorem rpl_k : ∀ k : List Key, RpL mg K H (k.map kV) (k.map kyD)
  | [] => .nil
  | .inl i :: k => .cons (.int i) (rpl_k k)
  | .inr x :: k => .cons (.str x) (rpl_k k)
theorem toPy_k : ∀ k : List Key, toPyL (k.map kyD) = some (k.map keyPy)
  | [] => rfl
  | .inl i :: k => by
    show (match toPy (.int i), toPyL (k.map kyD) with | some p, some ps => some (p :: ps) | _, _ => none) = _
    rw [toPy_k k]; rfl
  | .inr x :: k => by
    show (match toPy (.str x), toPyL (k.map kyD) with | some p, some ps => some (p :: ps) | _, _ => none) = _
    rw [toPy_k k]; rfl
theorem rp_vD {v : V} {p : PyData} (e : flatV v = some p) : Rp mg K H v (vlD v) ∧ toPy (vlD v) = some p := by
  cases v with
  | non => cases e; exact ⟨.non, rfl⟩
  | bl b => cases e; exact ⟨.bl b, rfl⟩
  | int i => cases e; exact ⟨.int i, rfl⟩
  | str x => cases e; exact ⟨.str x, rfl⟩
  | _ => cases e
theorem pairs_rp : ∀ {kvs : List (List Key × V)} {xs : List (List Key × Addr × Value)} {ps : List (PyData × PyData)}, KT H kvs xs → pairsV kvs = some ps →
    RpL mg K H (xs.map fun x => V.ref x.2.1) (kvs.map fun q => D.tup (q.1.map kyD)) ∧ toPyL (kvs.map fun q => D.tup (q.1.map kyD)) = some (ps.map (·.1)) ∧
    RpL mg K H (kvs.map (·.2)) (kvs.map fun q => vlD q.2) ∧ toPyL (kvs.map fun q => vlD q.2) = some (ps.map (·.2)) ∧
    Vals (xs.map fun x => V.ref x.2.1) (xs.map fun x => Value.ref x.2.1) ∧ Vals (kvs.map (·.2)) (xs.map (·.2.2))
  | [], [], ps, .nil, e => by
    cases e
    exact ⟨.nil, rfl, .nil, rfl, .nil, .nil⟩
  | (k, v) :: kvs, x :: xs, ps, .cons r rs, e => by
    simp only [pairsV, Option.bind_eq_some_iff, Option.map_eq_some_iff] at e
    obtain ⟨p, e1, qs, e2, rfl⟩ := e
    obtain ⟨a1, a2, a3, a4, a5, a6⟩ := pairs_rp rs e2
    obtain ⟨v1, v2⟩ := rp_vD (mg := mg) (K := K) (H := H) e1
    refine ⟨.cons (.tup r.2.1 (rpl_k k)) a1, ?_, .cons v1 a3, ?_, .cons rfl a5, .cons r.2.2 a6⟩
    · show (match toPy (.tup (k.map kyD)), toPyL (kvs.map fun q => D.tup (q.1.map kyD)) with | some p, some ps => some (p :: ps) | _, _ => none) = _
      have : toPy (.tup (k.map kyD)) = some (.tuple (k.map keyPy)) := by
        show (toPyL (k.map kyD)).map _ = _
        rw [toPy_k]; rfl
      rw [this, a2]; rfl
    · show (match toPy (vlD v), toPyL (kvs.map fun q => vlD q.2) with | some p, some ps => some (p :: ps) | _, _ => none) = _
      rw [v2, a4]; rfl
end
section
variable {X : Cx} {pins : List (Addr × Obj)} {σ : L2.St} {H : Hp} {s : Shared} {A : Around} {g : List Code} {E : Value → Shared → Prop} {Q : Value → Shared → Prop}
/-- repr of a dict with tuple keys -/
theorem reprObj_dic (I : Inv X pins σ H s) {a : Addr} {kvs : List (List Key × V)} {ps : List (PyData × PyData)} (hd : Rd H a (.dT kvs)) (hp : pairsV kvs = some ps) (hs : PyData.showable (.dict ps) = true) (hz : (PyData.shown (.dict ps)).length ≤ sizeLine)
    (hg : A.guards = some g) (gd : GdF g H) (hu : A.units + PyData.depth (.dict ps) < cLine)
    (hQ : ∀ h' u tk, (∀ b o, s.heap.get? b = some o → h'.get? b = some o) → Q (.str (PyData.shown (.dict ps)) u) { s with heap := h', toks := tk }) : wpAny (model X.prog X.w) A (pyReprObj (.ref a)) Q E s := by
  obtain ⟨h1, h2, xs, h3, o, es, ep, h4, h5, h6, h7, -, -⟩ := dt_rd I.hok hd
  obtain ⟨a1, a2, a3, a4, a5, a6⟩ := pairs_rp (mg := X.mg) (K := X.K) h3 hp
  have hz' : (dictText (PyData.shownKv ps)).length ≤ sizeLine := by simpa only [PyData.shown] using hz
  obtain ⟨hs1, hs2⟩ := PyData.showableKv_split ps (by simpa [PyData.showable] using hs)
  obtain ⟨⟨_, r1⟩, b1, hb1, n1, k1⟩ := rpKL I a1 a5 a2 hs1 (fun t ht => let ⟨p, hp, hl⟩ := PyData.shownKv_key_le ps t ht; Nat.le_trans hl (Nat.le_trans (dictText_mem_le hp) hz'))
  obtain ⟨⟨_, r2⟩, b2, hb2, n2, k2⟩ := rpKL I a3 a6 a4 hs2 (fun t ht => let ⟨p, hp, hl⟩ := PyData.shownKv_val_le ps t ht; Nat.le_trans hl (Nat.le_trans (dictText_mem_le hp) hz'))
  have e1 : es.toList.map (·.key) = xs.map fun x => Value.ref x.2.1 := by rw [h7, List.map_map]; rfl
  have e2 : es.toList.map (·.val) = xs.map (·.2.2) := by rw [h7, List.map_map]; rfl
  rw [← e1] at r1 k1
  rw [← e2] at r2 k2
  have hb : ReadAtMost s.heap (PyData.depthKv ps) (b1 ++ b2) := (hb1.mono (PyData.depthAll_keys_le ps)).append (hb2.mono (PyData.depthAll_vals_le ps))
  have hna : a ∉ b1 ++ b2 := not_mem_of_deeper (.dict h4 h5.1 h6 r1 r2) (by simp only [PyData.depth]; omega) hb
  have hna2 : NotF H a := fun o' ys z => by
    rcases hd with h | ⟨o', h⟩ <;> (rw [h] at z; cases z)
  have hcl : ∀ b ∈ a :: (b1 ++ b2), Clear g b := fun b hb => by
    rcases List.mem_cons.mp hb with rfl | hb
    · exact gd.clear hna2
    · rcases List.mem_append.mp hb with hb | hb
      · exact gd.clear (n1 b hb)
      · exact gd.clear (n2 b hb)
  simp only [PyData.depth] at hu
  simp only [PyData.shown, PyData.shownKv_eq] at hQ
  refine wpAny_pyReprObj_slot (by omega) ⟨_, h4, h5.1⟩ F.slot_dict_repr ?_
  exact call_dict_reprK h4 h5.1 h6 h2 hna (ReprEntriesK.of_two es.toList _ _
      (k1.more_le (fun b hb => List.mem_append_left _ hb) (PyData.depthAll_keys_le ps)) (k2.more_le (fun b hb => List.mem_append_right _ hb) (PyData.depthAll_vals_le ps))) hg hcl hu (fun _ _ e => e) (fun h' u tk hk => ⟨_, _, rfl, hQ h' u tk hk⟩) (by rw [← PyData.shownKv_eq]; exact hz')
end
end DL
set_option maxHeartbeats 2000000
namespace DL
open PySem PySem.Spec PyProof.Rows L2
/-- XOk, while reprs of held lists may run -/
structure XOkG (X : Cx) (E : XK) (k : Nat) : Prop where
  room : Room k X.A
  gd : ∃ g, X.A.guards = some g ∧ GdF g X.H_0
  calm : X.calm = true
  pass : Passes (L2.CX X.prog X.w) X E
  own : PassesOwn (model X.prog X.w) X.A X.env X.xe
  nd : X.N.Nodup
theorem XOkG.u64 {X : Cx} {E : XK} {k : Nat} (x : XOkG X E k) : X.A.units + 64 < cLine := x.room.units
theorem XOkG.gdOf {X : Cx} {E : XK} {k : Nat} (x : XOkG X E k) {pins : List (Addr × Obj)} {σ : L2.St} {H : Hp} {s : Shared} (I : Inv X pins σ H s) : ∃ g, X.A.guards = some g ∧ GdF g H := by
  obtain ⟨g, h1, h2⟩ := x.gd
  exact ⟨g, h1, h2.mono fun b o u e => I.base.frzs b o u e⟩
/-- a promise that holds while reprs of held lists run -/
structure FnGG (P : Program) (w : World) (K : PySem.W.Frag) (mg : Str → Option Value) (base : Heap) (k : Nat) (f : Addr) (fd : FuncData) (ps : List Str) (sp : Sp) : Prop where
  len : ∀ vs H Q E, sp vs H Q E → vs.length = ps.length
  run : ∀ (A : Around) (outer : List Env) (s : Shared) (H : Hp) (args : PySem.Args) (us : List Value) (vs : List V) (Q : VK) (E : XK) (g : List Code), Room k A → A.guards = some g → GdF g H →
    Env0 P w K mg base A outer s H → BindsTo s fd args (ps.zip us) → Vals vs us → sp vs H Q E →
    codeAny (model P w) A (.call (.ref f) args) (CR (L2.CX P w) outer P w H s Q E) s
theorem FnGG.mono {P : Program} {w : World} {K : PySem.W.Frag} {mg : Str → Option Value} {base : Heap} {j k : Nat} {f : Addr} {fd : FuncData} {ps : List Str} {sp : Sp} (F : FnGG P w K mg base j f fd ps sp) (h : j ≤ k) : FnGG P w K mg base k f fd ps sp :=
  ⟨F.len, fun A outer s H args us vs Q E g hr => F.run A outer s H args us vs Q E g (hr.mono h)⟩
theorem fn_ofGG {P : Program} {w : World} {K : PySem.W.Frag} {mg : Str → Option Value} {base : Heap} {k : Nat} {f : Addr} {name qual : Str} {params : Arguments} {body : List Stmt} {scope : Scope} {dV kV doc pm cdv ct oc : Value} {an od : Option Addr} {osl : Array (Option Value)} {N ps : List Str} {sp : Sp}
    (lk : K.lookup f = some ⟨oc, od, .func (PySem.W.fnOf name qual params body scope dV kV doc pm an cdv ct), osl⟩) (hcd : PySem.W.codeIn K cdv qual = true) (S : FnScope N ps scope) (len : ∀ vs H Q E, sp vs H Q E → vs.length = ps.length)
    (hbody : ∀ (A : Around) (outer : List Env) (s : Shared) (H : Hp) (vs : List V) (Q : VK) (E : XK) (g : List Code), Room k (A.deeper (envOfC qual scope s.heap.objs.size f cdv)) → A.guards = some g → GdF g H → sp vs H Q E →
      ∃ t, PSs (cxOf (L2.CX P w) P w K mg base N qual scope f cdv A outer s H E) body t ∧ t { nx := fun _ H' => Q .non H', rt := Q } (start N vs) H) :
    FnGG P w K mg base (k + 1) f (PySem.W.fnOf name qual params body scope dV kV doc pm an cdv ct) ps sp := by
  refine ⟨len, ?_⟩
  intro A outer s H args us vs Q E g room gd gf env0 bind rel want
  have inK : K.In s.heap := env0.mod.kin.keeps fun b o q => (env0.bs b o q).1
  have noLim : s.heap.NoLimit := env0.mod.nolimit.keeps fun b o q => (env0.bs b o q).1
  refine codeAny_call_function room.depth (inK _ _ lk) rfl S.co S.gen rfl (PySem.W.codeRec_of inK hcd) (bind _ _ _ _ ?_)
  refine wpAny_newFunctionEnv_cells S.kind (fun q hq => ?_) fun env he s1 x => ?_
  · obtain ⟨n, v⟩ := q
    exact (S.par n (List.of_mem_zip hq).1).elim .inl fun z => .inr ⟨z, PySem.W.cellsFrom_some _ _ _ (.inl z)⟩
  · subst he
    refine ⟨noLim.keeps x.toInCall.keep, codeAny_func ?_⟩
    obtain ⟨t, ht, hq⟩ := hbody A outer s H vs Q E g (room.deeper _) gd gf want
    have I0 := inv_start (CX := L2.CX P w) (K := K) (mg := mg) (base := base) (N := N) (qual := qual) (f := f) (cd := cdv) (E := E) S room.hd env0 (len _ _ _ _ want) rel x
    refine wpAny_mono (ht.run [] s1 (start N vs) H _ I0 hq) (fun fl s' hs => ?_) fun e s' hs => hs
    cases fl with
    | ret u =>
      obtain ⟨v, σ', H', J, rv, q⟩ := hs
      exact ⟨v, H', J.os, J.bare, J.base, J.hok, rv, q⟩
    | next =>
      obtain ⟨σ', H', J, q⟩ := hs
      exact ⟨.non, H', J.os, J.bare, J.base, J.hok, rfl, q⟩
    | brk =>
      obtain ⟨_, _, _, q⟩ := hs
      exact q.elim
    | cont =>
      obtain ⟨_, _, _, q⟩ := hs
      exact q.elim
section
variable {P : Program} {w : World} {K : PySem.W.Frag} {mg : Str → Option Value} {base : Heap} {k : Nat} {x qual : Str} {st : Stmt} {N ps : List Str} {ks : List Ak} {r : Rm}
theorem fnD_ofG {fs : Fs} {f : Addr} {fd : FuncData} (Γ Γ' : List Md) (h2 : Fun K x qual st f fd) (S : FnScope N ps (defScope st)) (hp : ks.length = ps.length) (hl : Γ.length = N.length) (hk : ks.length ≤ N.length) (hm : modesOk ks Γ = true)
    (hb : ∀ (f : Addr) (cdv : Value) (A : Around) (outer : List Env) (s : Shared) (H : Hp) (E : XK), XOkG (cxOf (L2.CX P w) P w K mg base N qual (defScope st) f cdv A outer s H E) E k →
      ∃ ts, DSs (cxOf (L2.CX P w) P w K mg base N qual (defScope st) f cdv A outer s H E) E r Γ Γ Γ' (defBody st) ts fs) :
    FnGG P w K mg base (k + 1) f fd ps (SpD mg K ks r (runD N.length r fs)) := by
  obtain ⟨oc, od, kV, doc, pm, an, cdv, ct, osl, rfl, lk, hcd⟩ := h2.ex
  refine fn_ofGG lk hcd S (fun vs H Q E h => by rw [h.1, hp]) fun A outer s H vs Q E g room gd gf want => ?_
  obtain ⟨_, pot, M, ds, π, ar, al, pm, pt, post⟩ := want
  have o : XOkG (cxOf (L2.CX P w) P w K mg base N qual (defScope st) f cdv A outer s H E) E k :=
    ⟨room, ⟨g, gd, gf⟩, rfl, passes_call (takes_of rfl rfl rfl rfl) fun _ _ _ _ z => z, passes_of rfl, S.nd⟩
  obtain ⟨ts, B⟩ := hb f cdv A outer s H E o
  refine ⟨ts, B.pss, ?_⟩
  have I := env_start hm hl hk ar al pm
  refine B.sem pot M H (fun _ => none) M _ H _ π _ ⟨I, .refl, fun a h => h, fun i d a h1 h2 h3 => ?_, fun a h => (al a h).nn, fun a u e => by cases e⟩ pt ?_
  · exfalso
    obtain ⟨k', v, q1, _⟩ := ar.at (startD_at h2)
    obtain ⟨m1, _⟩ := Bool.and_eq_true_iff.mp hm
    have m1 := of_decide_eq_true m1
    have hi := (List.getElem?_eq_some_iff.mp q1).1
    have e : (Γ.take ks.length)[i]? = Γ[i]? := List.getElem?_take_of_lt hi
    rw [h1, m1, List.getElem?_map, q1] at e
    cases k' <;> cases e
  · unfold runD at post
    cases ef : fs (startD N.length ds) π with
    | err c ns xs π' =>
      rw [ef] at post
      exact post
    | stuck =>
      rw [ef] at post
      exact post
    | ok y =>
      obtain ⟨y, π1⟩ := y
      rw [ef] at post
      cases y with
      | rt d => exact fun v H' g p q => post v H' g p q
      | nx ρ =>
        simp only [Res.bind_ok] at post
        split at post
        · rename_i hrf
          subst hrf
          exact fun M' σ' H' S' p' => post .non H' S'.gr p' .non
        · exact post.elim
      | bk ρ => exact post.elim
      | ct ρ => exact post.elim
/-- a method of a class whose promise holds while reprs of held lists run -/
structure DMG (P : Program) (w : World) (K : PySem.W.Frag) (mg : Str → Option Value) (base : Heap) (k : Nat) (c x qual : Str) (st : Stmt) (ps : List Str) (ks : List Ak) (r : Rm) (m : Fd) : Prop where
  ex : ∃ C f fd, mg c = some (.ref C) ∧ Cls K C ∧ Meth K C x f ∧ Fun K x qual st f fd ∧ FnGG P w K mg base k f fd ps (SpD mg K (.f :: ks) r m)
theorem DMG.mono {j : Nat} {c : Str} {m : Fd} (F : DMG P w K mg base j c x qual st ps ks r m) (h : j ≤ k) : DMG P w K mg base k c x qual st ps ks r m := by
  obtain ⟨C, f, fd, h0, h1, h2, h3, h4⟩ := F.ex
  exact ⟨C, f, fd, h0, h1, h2, h3, h4.mono h⟩
theorem dmg_of {c : Str} {fs : Fs} (Γ Γ' : List Md) (hf : ∃ C f fd, mg c = some (.ref C) ∧ Cls K C ∧ Meth K C x f ∧ Fun K x qual st f fd) (S : FnScope N ps (defScope st)) (hp : (Ak.f :: ks).length = ps.length) (hl : Γ.length = N.length) (hk : (Ak.f :: ks).length ≤ N.length) (hm : modesOk (.f :: ks) Γ = true)
    (hb : ∀ (f : Addr) (cdv : Value) (A : Around) (outer : List Env) (s : Shared) (H : Hp) (E : XK), XOkG (cxOf (L2.CX P w) P w K mg base N qual (defScope st) f cdv A outer s H E) E k →
      ∃ ts, DSs (cxOf (L2.CX P w) P w K mg base N qual (defScope st) f cdv A outer s H E) E r Γ Γ Γ' (defBody st) ts fs) :
    DMG P w K mg base (k + 1) c x qual st ps ks r (runD N.length r fs) := by
  obtain ⟨C, f, fd, h0, h1, h2, h3⟩ := hf
  exact ⟨C, f, fd, h0, h1, h2, h3, fnD_ofG Γ Γ' h3 S hp hl hk hm hb⟩
end
section
variable {X : Cx} {E : XK} {Γ : List Md} {pos p : Pos} {k j : Nat} {e : Expr} {te : TE} {fe : Ed}
theorem pe_fmtTG (o : XOkG X E k) (ex : PE X e te) : PE X (.FormattedValue e 114 none pos) (tFmtT te) := ⟨fun pins s σ H Q I h => by
  refine wpAny_FormattedValue_repr (thn (ex.run pins s σ H _ I h) fun v s1 shown => ?_)
  obtain ⟨x, H1, I1, r1, a, kvs, ps, z, rfl, hd, hp, hz, q⟩ := shown
  cases r1
  obtain ⟨h1, h2, h3, rfl⟩ := showKv_eq hz
  obtain ⟨g, hg, gd⟩ := o.gdOf I1
  have hu : X.A.units + PyData.depth (.dict ps) < cLine := by
    have := o.u64
    omega
  refine reprObj_dic I1 hd hp h1 h3 hg gd hu fun h' u tk hk => ?_
  exact wpAny_formatField_str ⟨.str _, H1, I1.kept (t' := tk) hk, ⟨_, rfl⟩, q⟩ ⟨.str _, H1, (I1.kept (t' := tk) hk).tok _, ⟨_, rfl⟩, q⟩ h3⟩
theorem de_fmtRTG (o : XOkG X E k) (he : DE X E .b Γ e te fe) : DE X E .f Γ (.FormattedValue e 114 none pos) (tFmtT te) (eFmtRT fe) :=
  ⟨pe_fmtTG o he.pe, fun pot M σ H ρ π I p Q h => by
    refine Post.seq (r' := .b) (te := te σ H) h p (fun Q' hq => he.sem pot M σ H ρ π I p Q' hq) fun d π1 v H1 _ g1 p1 r1 h1 => ?_
    dsimp only at h1
    cases d with
    | dic ks xs =>
      simp only at h1
      cases hw : showT (.dic ks xs) with
      | none =>
        rw [hw] at h1
        exact h1.elim
      | some w =>
        rw [hw] at h1
        simp only [Option.map_some, ofO_some, Res.bind_ok] at h1
        simp only [showT] at hw
        split at hw
        · rename_i hc
          obtain ⟨ps, e1, e2⟩ := Option.bind_eq_some_iff.mp hw
          obtain ⟨a, kvs, rfl, h2, rfl, r2⟩ := rb_dicT hc r1
          exact ⟨a, kvs, ps, w, rfl, h2, pairs_of r2 e1, e2, h1 _ H1 .refl p1 (.str _)⟩
        · cases hw
    | _ => exact h1.elim⟩
end
end DL
set_option maxHeartbeats 2000000
namespace DL
open PySem PySem.Spec PyProof.Rows L2 Builtin Builtin.List
section
variable {prog : Program} {w : World} {A : Around} {R : Result → Shared → Prop}
/-- J i: i elements are shown, their texts stand at P; K i: the i-th one is shown, not yet laid there -/
theorem loopJ {a P : Addr} {items : Array Value} {ts : List Str} {base : Nat} (hlen : ts.length = items.size) (J K : Nat → Shared → Prop)
    (hJ : ∀ i s, J i s → (∃ oa na, s.heap.get? a = some oa ∧ oa.data = .seq items na) ∧ ∃ c done, s.heap.get? P = some { cls := .type "list", dict := none, data := .seq (strValues done).toArray c, slots := #[] } ∧ done.map (·.1) = ts.take i)
    (hK : ∀ i s t, ts[i]? = some t → K i s → ∃ c done, s.heap.get? P = some { cls := .type "list", dict := none, data := .seq (strValues done).toArray c, slots := #[] } ∧ done.map (·.1) = ts.take i ∧ ∀ f : Array Value → Array Value, f (strValues done).toArray = (strValues (done ++ [(t, s.toks)])).toArray →
      J (i + 1) { s with heap := s.heap.update P (Obj.mapSeq f), toks := s.toks + 1 })
    (hT : ∀ i x t, items[i]? = some x → ts[i]? = some t → ∀ (s : Shared) (b : Nat) (rest : List Value) (E : Value → Shared → Prop) (Q : Str → Shared → Prop), b + t.length ≤ sizeLine → J i s → (∀ s', K i s' → Q t s') →
      wpAny (model prog w) (A.under (.builtin "list.__repr__.loop" ⟨.ref a :: rest, []⟩)) (pyReprUnder b x) Q E s)
    (hsz : base + (listText ts).length ≤ sizeLine) (hR : ∀ s, J items.size s → R (.ok (.ret (.str (listText ts) s.toks))) { s with toks := s.toks + 1 }) :
    ∀ (k i : Nat) (s : Shared), items.size - i = k → i ≤ items.size → J i s →
    codeAny (model prog w) A (.builtin "list.__repr__.loop" ⟨[.ref a, rawInt i, .ref P, rawInt ((base + piled (ts.take i) : Nat) : Int)], []⟩) R s := by
  have hX : (listText ts).length = (textFrom 0 "[" ts).length + 1 := by
    show (textFrom 0 "[" ts ++ "]").length = _
    rw [strLen_append]; rfl
  have hL := textFrom_len ts 0 "["
  have hsz1 : items.size ≤ sizeLine := by
    have h1 := hL.1
    rw [if_neg (Nat.lt_irrefl 0)] at h1
    omega
  have hsz2 : ∀ t ∈ ts, t.length ≤ sizeLine := fun t ht => by
    have h2 := hL.2.1 t ht
    omega
  have hsz3 : (listText ts).length ≤ sizeLine := by omega
  have hp3 := piled_le_listText ts
  intro k
  induction k with
  | zero =>
    intro i s hk hi hj
    have hin : i = items.size := by omega
    obtain ⟨⟨oa, na, ha, hda⟩, c, done, hP, hdone⟩ := hJ i s hj
    refine codeAny_builtin F.entry_list_repr_loop ?_
    show wpAny _ _ («list.__repr__.loop» ⟨[.ref a, .int i 0, .ref P, .int ((base + piled (ts.take i) : Nat) : Int) 0], []⟩) _ _ s
    rw [repr_loop_tree]
    refine wpAny_bind (wpAny_listItems ha hda ?_)
    have hnone : items[(i : Int).toNat]? = none := by simp [hin]
    simp only [hnone]
    unfold reprEnd
    refine wpAny_bind (wpAny_listItems hP rfl ?_)
    have hacc : (strValues done).toArray.toList = strValues done := by simp
    rw [hacc, repr_fold]
    refine wpAny_bind (wpAny_pure ?_)
    have hall : done.map (·.1) = ts := by rw [hdone, hin, ← hlen, List.take_length]
    rw [hall]
    refine wpAny_bind (wpAny_mkStr (wpAny_pure ?_) hsz3)
    exact hR s (hin ▸ hj)
  | succ k ih =>
    intro i s hk hi hj
    have hlt : i < items.size := by omega
    obtain ⟨t, ht⟩ : ∃ t, ts[i]? = some t := ⟨ts[i]'(by omega), List.getElem?_eq_getElem (by omega)⟩
    have hx : items[i]? = some items[i] := by simp [hlt]
    obtain ⟨⟨oa, na, ha, hda⟩, -⟩ := hJ i s hj
    have hp1 := piled_take_succ ht
    have hp2 := piled_take_le ts (i + 1)
    refine codeAny_builtin F.entry_list_repr_loop ?_
    show wpAny _ _ («list.__repr__.loop» ⟨[.ref a, .int i 0, .ref P, .int ((base + piled (ts.take i) : Nat) : Int) 0], []⟩) _ _ s
    rw [repr_loop_tree]
    refine wpAny_bind (wpAny_listItems ha hda ?_)
    have hsome : items[(i : Int).toNat]? = some items[i] := by simp [hlt]
    simp only [hsome]
    rw [Int.toNat_natCast]
    refine wpAny_bind (wpAny_holding (hT i _ t hx ht s (base + piled (ts.take i) + 1) _ _ _ (by omega) hj fun s' hk' => ?_))
    obtain ⟨c', done, hP', hdone, hk2⟩ := hK i s' t ht hk'
    refine wpAny_bind (wpAny_mkStr ?_ (hsz2 t (List.mem_of_getElem? ht)))
    refine wpAny_bind ?_
    show wpAny _ _ (updateSeq P _) _ _ _
    have hasz : (strValues done).toArray.size ≤ sizeLine := by
      have e2 : (strValues done).length = done.length := by simp [strValues]
      have e3 : done.length = (ts.take i).length := by rw [← hdone, List.length_map]
      have e4 : (ts.take i).length ≤ i := by rw [List.length_take]; omega
      rw [List.size_toArray]; omega
    refine wpAny_updateSeq hP' rfl (wpAny_pure ⟨F.quiet_list_repr_loop _, ?_⟩) hasz
    have e1 : ((i : Int) + 1) = ((i + 1 : Nat) : Int) := by omega
    have e2 : base + piled (ts.take i) + (t.length + 2) = base + piled (ts.take (i + 1)) := by omega
    rw [e1, e2]
    exact ih (i + 1) _ (by omega) hlt (hk2 _ (by simp [strValues]))
end
end DL
set_option maxHeartbeats 2000000
namespace DL
open PySem PySem.Spec PyProof.Rows L2 PySem.W
section
variable {prog : Program} {w : World} {A : Around} {E : Value → Shared → Prop} {s : Shared} {K : PySem.W.Frag} {C x f : Addr} {ox : Obj} {od : Option Obj}
theorem boundBy_K {last : Value → List Value → Sem Value} {name : Str} {Q : Option Value → Shared → Prop} (X : K.In s.heap) (I : PySem.W.InstAt s.heap x ox C od) (hs : findIn K (.ref C) name = some (some (.ref f))) (hf : isFn K (.ref f) = true)
    (h : wpAny (model prog w) A (last (.ref f) [.ref x]) (fun v => Q (some v)) E s) : wpAny (model prog w) A (callSpecialIfBoundBy? last (.ref x) name) Q E s := by
  simp only [callSpecialIfBoundBy?, bindSpecialIfBound?]
  refine wpAny_holding (wpAny_bind (wpAny_bind (wpAny_bind (I.type.here ((looks_findIn X hs).here ?_)))))
  refine wpAny_bind (wpAny_askSetting (wpAny_ite ?_))
  have fin : wpAny (model prog w) A (last (.ref f) [.ref x] >>= fun v => pure (some v)) Q E s := wpAny_bind (wpAny_mono h (fun v s' h' => wpAny_pure h') fun _ _ h' => h')
  split
  · exact wpAny_bind ((bind_fn X _ (beq_iff_eq.mp hf)).here (wpAny_pure (by exact fin)))
  · exact wpAny_tryCatch (wpAny_bind ((bind_fn X _ (beq_iff_eq.mp hf)).here (wpAny_pure (by exact fin))))
theorem under_K {b : Nat} {Q : Str → Shared → Prop} (hb : b ≤ sizeLine) (hu : A.units < cLine) (X : K.In s.heap) (I : PySem.W.InstAt s.heap x ox C od) (hs : findIn K (.ref C) "__repr__" = some (some (.ref f))) (hf : isFn K (.ref f) = true)
    (h : wpAny (model prog w) A (call (.ref f) [.ref x]) (fun v s' => ∃ z u, v = .str z u ∧ Q z s') E s) : wpAny (model prog w) A (pyReprUnder b (.ref x)) Q E s := by
  refine wpAny_pyReprUnder_ref hb ?_
  unfold pyReprObjUnder pyReprObjBy
  refine wpAny_bind (wpAny_cRoomFor hu ?_)
  refine wpAny_bind (wpAny_bind (I.type.here ((looks_findIn X hs).here ?_)))
  show wpAny _ _ (if (some (Value.ref f)).isNone = true then _ else _) _ _ _
  rw [if_neg (by simp)]
  refine wpAny_bind (boundBy_K (name := "__repr__") X I hs hf ?_)
  have hr : reprUnder? (.ref f) = none := rfl
  simp only [hr]
  show wpAny _ _ (call (.ref f) ([.ref x] ++ [])) _ _ _
  refine wpAny_mono h (fun v s' hv => ?_) fun _ _ y => y
  obtain ⟨z, u, rfl, q⟩ := hv
  exact wpAny_bind (wpAny_isInstance (T := "str") (b := true) rfl isSubtype_str_str (wpAny_pure ⟨z, u, rfl, q⟩))
end
end DL
set_option maxHeartbeats 2000000
namespace DL
open PySem PySem.Spec PyProof.Rows L2 PySem.W
section
variable {P : Program} {w : World} {K : PySem.W.Frag} {mg : Str → Option Value} {base : Heap}
abbrev loopC (a : Addr) (rest : List Value) : Code := .builtin "list.__repr__.loop" ⟨.ref a :: rest, []⟩
theorem loop_depth {A : Around} {a : Addr} {rest : List Value} : (A.under (loopC a rest)).depth = A.depth + 1 := by
  first | rfl | simp [Around.under, Code.weight, Code.isCreation, Code.isGuard, Code.isCaller, Code.frames, Code.isFrame, guardIds]
theorem loop_handled {A : Around} {a : Addr} {rest : List Value} : (A.under (loopC a rest)).handled = A.handled := by
  first | rfl | simp [Around.under]
theorem Room.loop {k : Nat} {A : Around} (r : Room (k + 1) A) (a : Addr) (rest : List Value) : Room k (A.under (loopC a rest)) :=
  ⟨loop_handled.trans r.hd, by have := r.dp; rw [loop_depth]; omega, by have := r.un; rw [units_under_list_loop]; omega⟩
theorem Env0.loop {A : Around} {outer : List Env} {s : Shared} {H : Hp} (e : Env0 P w K mg base A outer s H) (a : Addr) (rest : List Value) : Env0 P w K mg base (A.under (loopC a rest)) outer s H :=
  ⟨by first | exact e.frames | (simpa [Around.under, Code.envs, Code.isFrame, pushEnvs] using e.frames), e.mod, e.bs, e.bsz, e.funs, e.frf, e.hok, e.bare⟩
theorem loop_guards {A : Around} {g : List Code} (hg : A.guards = some g) (a : Addr) (rest : List Value) : (A.under (loopC a rest)).guards = some (loopC a rest :: g) :=
  guards_under_guard (isGuard_list_loop _) hg
theorem GdF.loop {g : List Code} {H : Hp} {a : Addr} {o : Obj} {xs : List V} (gd : GdF g H) (h : H a = some (.frz o (.lst xs))) (rest : List Value) : GdF (loopC a rest :: g) H := fun id v r kw hm => by
  rcases List.mem_cons.mp hm with e | hm
  · cases e
    exact ⟨a, o, xs, rfl, h⟩
  · exact gd id v r kw hm
end
section
variable {X : Cx} {pins : List (Addr × Obj)} {σ : L2.St} {H : Hp} {s : Shared} {k j : Nat} {E : Value → Shared → Prop} {c qual : Str} {st : Stmt} {ps : List Str} {m : Fd} {A : Around} {g : List Code}
/-- an own thing shown by its __repr__, around whatever runs -/
theorem el_own (F : DMG X.prog X.w X.K X.mg X.base j c "__repr__" qual st ps [] .f m) (I : Inv X pins σ H s)
    (hb : ∀ (kV doc pm : Value) (an : Option Addr) (cdv ct : Value) (us : List Value), us.length = ps.length → bindArgs (PySem.W.fnOf "__repr__" qual (defArgs st) (defBody st) (defScope st) .none kV doc pm an cdv ct) ⟨us, []⟩ = pure (ps.zip us))
    {C a da : Addr} {fa : List (Str × V)} (mC : X.mg c = some (.ref C)) (ha : H a = some (.ins C da fa)) (room : Room j A) (hg : A.guards = some g) (gd : GdF g H) (env : Env0 X.prog X.w X.K X.mg X.base A X.stack s H)
    {QQ : Str → Hp → Prop} (hsp : SpD X.mg X.K [.f] .f m [.ref a] H (fun v H' => ∃ y, v = .str y ∧ QQ y H') fun _ _ _ => False) {b : Nat} (hbs : b ≤ sizeLine) (hu : A.units < cLine) {Q : Str → Shared → Prop}
    (hQ : ∀ y s' H', Inv X pins σ H' s' → QQ y H' → Q y s') : wpAny (model X.prog X.w) A (pyReprUnder b (.ref a)) Q E s := by
  obtain ⟨C', f, fd, h0, h1, h2, h3, h4⟩ := F.ex
  rw [mC] at h0
  cases h0
  obtain ⟨mA, J, _⟩ := ins_get I.hok ha
  obtain ⟨od, J, _⟩ := J.look
  have hl : [Value.ref a].length = ps.length := by
    have e := h4.len _ _ _ _ hsp
    simpa using e
  have bd : BindsTo s fd ⟨[.ref a], []⟩ (ps.zip [.ref a]) := by
    obtain ⟨oc, od, kV, doc, pm, an, cdv, ct, osl, rfl, lk, hcd⟩ := h3.ex
    exact .of_eq (hb kV doc pm an cdv ct _ hl)
  have inK : X.K.In s.heap := env.mod.kin.keeps fun b o q => (env.bs b o q).1
  refine under_K hbs hu inK J h2.at_ h2.fn ?_
  refine wpAny_call (codeAny_mono (h4.run A X.stack s H ⟨[.ref a], []⟩ [.ref a] [.ref a] _ _ g room hg gd env bd (.cons rfl .nil) hsp) fun res s' z => ?_)
  match res, z with
  | .error e, z =>
    obtain ⟨_, _, _, _, _, _, _, _, _, _, _, _, no⟩ := z
    exact no.elim
  | .ok (.ret u), z =>
    obtain ⟨v, H', I', rv, y, rfl, q⟩ := I.after z
    obtain ⟨t, e⟩ := rv
    subst e
    exact ⟨y, t, rfl, hQ y s' H' I' q⟩
end
end DL
set_option maxHeartbeats 2000000
namespace DL
open PySem PySem.Spec PyProof.Rows L2 PySem.W Builtin Builtin.List
def txs (ts : List Str) : List V := ts.map V.str
/-- v is shown as t, from H on; what is so behind it -/
def ElR (X : Cx) (n : Nat) (v : V) (t : Str) (H : Hp) (S : Hp → Prop) : Prop := ∀ (pins : List (Addr × Obj)) (σ : L2.St) (s : Shared) (u : Value) (A : Around) (g : List Code) (E : Value → Shared → Prop) (b : Nat) (Q : Str → Shared → Prop),
  Inv X pins σ H s → RelV v u → Room n A → A.guards = some g → GdF g H → Env0 X.prog X.w X.K X.mg X.base A X.stack s H → b + t.length ≤ sizeLine → (∀ s' H', Inv X pins σ H' s' → S H' → Q t s') → wpAny (model X.prog X.w) A (pyReprUnder b u) Q E s
def ChainR (X : Cx) (n : Nat) (a P : Addr) (od : Obj) (vs0 : List V) : List V → List Str → List Str → Hp → (Hp → Prop) → Prop
  | [], [], _, H, S => S H
  | v :: vs, t :: ts, acc, H, S => ElR X n v t H fun H1 => H1 a = some (.frz od (.lst vs0)) ∧ H1 P = some (.lst (txs acc)) ∧ ChainR X n a P od vs0 vs ts (acc ++ [t]) (upd H1 P (.lst (txs (acc ++ [t])))) S
  | _, _, _, _, _ => False
theorem vals_txs : ∀ {ts : List Str} {us : List Value}, Vals (txs ts) us → ∃ done : List (Str × Tok), us = strValues done ∧ done.map (·.1) = ts
  | [], _, .nil => ⟨[], rfl, rfl⟩
  | t :: ts, _ :: _, .cons r rs => by
    obtain ⟨k, rfl⟩ := (show ∃ k, _ = Value.str t k from r)
    obtain ⟨done, rfl, e⟩ := vals_txs rs
    exact ⟨(t, k) :: done, rfl, by simp [e]⟩
theorem txs_vals (done : List (Str × Tok)) : Vals (txs (done.map (·.1))) (strValues done) := by
  induction done with
  | nil => exact .nil
  | cons d done ih => exact .cons ⟨d.2, rfl⟩ ih
section
variable {X : Cx} {pins : List (Addr × Obj)} {σ : L2.St} {H : Hp} {s : Shared} {n : Nat}
theorem list_loop {a P : Addr} {od : Obj} {vs : List V} {ts : List Str} {A : Around} {g : List Code} {R : Result → Shared → Prop} {S : Hp → Prop} {its : List Value} {na : Nat} (hlen : ts.length = vs.length) (hv : Vals vs its) (hod : od.data = .seq its.toArray na)
    (room : Room (n + 1) A) (hg : A.guards = some g)
    (gd0 : ∀ pins σ H s, Inv X pins σ H s → GdF g H) (env0 : ∀ pins σ H s, Inv X pins σ H s → Env0 X.prog X.w X.K X.mg X.base A X.stack s H) (hsz : (listText ts).length ≤ sizeLine)
    (I : Inv X pins σ H s) (ha : H a = some (.frz od (.lst vs))) (hP : H P = some (.lst (txs []))) (ch : ChainR X n a P od vs vs ts [] H S)
    (hR : ∀ s' H', Inv X pins σ H' s' → H' a = some (.frz od (.lst vs)) → S H' → R (.ok (.ret (.str (listText ts) s'.toks))) { s' with toks := s'.toks + 1 }) :
    codeAny (model X.prog X.w) A (.builtin "list.__repr__.loop" ⟨[.ref a, rawInt 0, .ref P, rawInt ((0 + piled (ts.take 0) : Nat) : Int)], []⟩) R s := by
  have hvl := hv.length
  have hts : ts.length ≤ sizeLine := by
    have hX : (listText ts).length = (textFrom 0 "[" ts).length + 1 := by
      show (textFrom 0 "[" ts ++ "]").length = _
      rw [strLen_append]; rfl
    have h1 := (textFrom_len ts 0 "[").1
    rw [if_neg (Nat.lt_irrefl 0)] at h1
    omega
  let J : Nat → Shared → Prop := fun i s => ∃ H, Inv X pins σ H s ∧ H a = some (.frz od (.lst vs)) ∧ H P = some (.lst (txs (ts.take i))) ∧ ChainR X n a P od vs (vs.drop i) (ts.drop i) (ts.take i) H S
  let K : Nat → Shared → Prop := fun i s => ∃ H1, Inv X pins σ H1 s ∧ H1 a = some (.frz od (.lst vs)) ∧ H1 P = some (.lst (txs (ts.take i))) ∧ ChainR X n a P od vs (vs.drop (i + 1)) (ts.drop (i + 1)) (ts.take (i + 1)) (upd H1 P (.lst (txs (ts.take (i + 1))))) S
  have atP : ∀ {H : Hp} {s : Shared} {i : Nat}, Inv X pins σ H s → H P = some (.lst (txs (ts.take i))) → ∃ c done, s.heap.get? P = some { cls := .type "list", dict := none, data := .seq (strValues done).toArray c, slots := #[] } ∧ done.map (·.1) = ts.take i := fun {H s i} I h => by
    obtain ⟨_, its', c, rv, _, e⟩ := I.lstM h
    obtain ⟨done, rfl, hd⟩ := vals_txs rv
    exact ⟨c, done, e, hd⟩
  refine loopJ (items := its.toArray) (ts := ts) (base := 0) (by simp [hlen, hvl]) J K (fun i s h => ?_) (fun i s t ht h => ?_) (fun i x t hx ht s b rest E Q hb h hQ => ?_) (by omega) (fun s h => ?_) _ 0 s rfl (Nat.zero_le _) ⟨H, I, ha, hP, ch⟩
  · obtain ⟨H, I, h1, h2, _⟩ := h
    obtain ⟨e, _⟩ := (show ObjOk X.prog X.w H s.heap a (.frz od (.lst vs)) from I.hok a _ h1)
    exact ⟨⟨od, na, e, hod⟩, atP I h2⟩
  · obtain ⟨H1, I, h1, h2, h3⟩ := h
    obtain ⟨c, done, e, hd⟩ := atP I h2
    refine ⟨c, done, e, hd, fun f hf => ?_⟩
    have hne : a ≠ P := fun z => by rw [z, h2] at h1; cases h1
    have htk : ts.take (i + 1) = ts.take i ++ [t] := by simp [List.take_add_one, ht]
    have hv2 : Vals (txs (ts.take (i + 1))) (strValues (done ++ [(t, s.toks)])) := by
      have := txs_vals (done ++ [(t, s.toks)])
      rw [List.map_append, hd] at this
      rw [htk]
      exact this
    refine ⟨upd H1 P (.lst (txs (ts.take (i + 1)))), I.lset h2 e hf hv2 (by simp only [txs, List.length_map, List.length_take]; omega), by rw [upd_ne hne]; exact h1, upd_same, h3⟩
  · obtain ⟨H, I, h1, h2, h3⟩ := h
    have hi : i < ts.length := by
      have := (List.getElem?_eq_some_iff.mp ht).1
      exact this
    have hiv : i < vs.length := by omega
    rw [List.drop_eq_getElem_cons hiv, List.drop_eq_getElem_cons hi] at h3
    have htt : ts[i] = t := by rw [List.getElem?_eq_getElem hi] at ht; exact Option.some.inj ht
    rw [htt] at h3
    obtain ⟨u, hu1, hu2⟩ := hv.get (i := i) (x := vs[i]) (by simp [hiv])
    have hxu : x = u := by
      have : its.toArray[i]? = its[i]? := by simp
      rw [this, hu1] at hx
      exact (Option.some.inj hx).symm
    subst hxu
    refine h3 pins σ s x (A.under (loopC a rest)) (loopC a rest :: g) E b Q I hu2 (Room.loop room a rest) (loop_guards hg a rest) ((gd0 pins σ H s I).loop h1 rest) (Env0.loop (env0 pins σ H s I) a rest) hb fun s' H' I' hS => hQ s' ?_
    obtain ⟨q1, q2, q3⟩ := hS
    have htk : ts.take (i + 1) = ts.take i ++ [t] := by simp [List.take_add_one, ht]
    exact ⟨H', I', q1, q2, by rw [htk]; exact q3⟩
  · obtain ⟨H, I, h1, h2, h3⟩ := h
    have e1 : vs.drop its.toArray.size = [] := List.drop_eq_nil_of_le (by simp; omega)
    have e2 : ts.drop its.toArray.size = [] := List.drop_eq_nil_of_le (by simp; omega)
    rw [e1, e2] at h3
    exact hR s H I h1 h3
end
end DL
set_option maxHeartbeats 2000000
namespace DL
open PySem PySem.Spec PyProof.Rows L2 PySem.W Builtin Builtin.List
def rReprLs (X : Cx) (n : Nat) : List V → Hp → VK → Prop := fun xs H Q => ∃ a vs ts, xs = [V.ref a] ∧ H a = some (.lst vs) ∧ vs ≠ [] ∧ ts.length = vs.length ∧ (listText ts).length ≤ sizeLine ∧
  ∀ od P, H P = none → ChainR X n a P od vs vs ts [] (upd (upd H a (.frz od (.lst vs))) P (.lst [])) fun H' => Q (.str (listText ts)) (upd H' a (.lst vs))
section
variable {X : Cx} {E : XK} {k n : Nat}
theorem cr_reprLs (o : XOk X E k) (hn : n + 2 ≤ k) : CallR X (.builtin "repr") (rReprLs X n) := by
  intro pins s σ H xs us Q I r h
  obtain ⟨a, vs, ts, rfl, ha, hne0, hlen, hsz, hch⟩ := h
  obtain ⟨u, rfl, ru⟩ := r.one
  cases ru
  have nofr := I.nofrz ha trivial
  obtain ⟨od, I1⟩ := I.lock ha trivial
  have ha1 : upd H a (.frz od (.lst vs)) a = some (.frz od (.lst vs)) := upd_same
  obtain ⟨e1, _, its, na, hv, e2⟩ := (show ObjOk X.prog X.w (upd H a (.frz od (.lst vs))) s.heap a (.frz od (.lst vs)) from I1.hok a _ ha1)
  obtain ⟨i0, il, rfl⟩ : ∃ x l, its = x :: l := by
    cases its with
    | nil => cases hv; exact absurd rfl hne0
    | cons x l => exact ⟨x, l, rfl⟩
  have hod : od = { cls := .type "list", data := .seq (i0 :: il).toArray na } := by rw [e1] at e2; exact Option.some.inj e2
  have hda : od.data = .seq (i0 :: il).toArray na := by rw [hod]
  have hcl : od.cls = .type "list" := by rw [hod]
  have hu := o.u64
  have room : Room (n + 2) X.A := o.room.mono hn
  refine call_repr_slot (by omega) ⟨od, e1, hcl⟩ F.slot_list_repr.toG ?_
  refine wpAny_call (codeAny_call_builtin F.slot_list_repr.plain F.entry_list_repr (F.slot_list_repr.check _ _ _ _ _ _ _ _ ⟨od, e1, hcl⟩ (F.args_list_repr_1 _) ?_))
  refine wpAny_list_repr_head (A := X.A.in1.in1) o.gd (fun v rest kw hm => nomatch hm) e1 hda ?_
  refine wpAny_bind (m := newList []) (wpAny_newObj_type ?_)
  refine wpAny_pure ⟨F.quiet_list_repr_loop _, ?_⟩
  have nP : H s.heap.objs.size = none := I.hok.fresh (Nat.le_refl _)
  have I2 := I1.laid (h' := s.heap.push { cls := .type "list", data := .seq #[] }) (a := s.heap.objs.size) (o := .lst (txs [])) (t' := s.toks) (fun _ _ q => Heap.get?_push_of_some _ q) (Nat.le_refl _)
    ⟨Nat.zero_le _, [], _, .nil, Heap.get?_push_size _ rfl⟩
  have hne : a ≠ s.heap.objs.size := Nat.ne_of_lt (Heap.lt_size e1)
  exact list_loop (n := n) hlen hv hda room.in1 o.gd (fun _ _ _ _ _ => GdF.nil _) (fun pins σ H s I => I.env0.in1) hsz I2 (by rw [upd_ne hne]; exact ha1) upd_same (hch od _ nP) fun s' H' I' h1 hS =>
    ⟨_, _, rfl, .str (listText ts), upd H' a (.lst vs), (I'.unlock h1 nofr).tok _, ⟨_, rfl⟩, hS⟩
end
end DL
set_option maxHeartbeats 2000000
namespace DL
open PySem PySem.Spec PyProof.Rows L2 PySem.W
section
variable {X : Cx} {H : Hp} {n j : Nat} {S : Hp → Prop} {c qual : Str} {st : Stmt} {ps : List Str} {m : Fd}
theorem elR_own (F : DMG X.prog X.w X.K X.mg X.base j c "__repr__" qual st ps [] .f m)
    (hb : ∀ (kV doc pm : Value) (an : Option Addr) (cdv ct : Value) (us : List Value), us.length = ps.length → bindArgs (PySem.W.fnOf "__repr__" qual (defArgs st) (defBody st) (defScope st) .none kV doc pm an cdv ct) ⟨us, []⟩ = pure (ps.zip us))
    {C a da : Addr} {fa : List (Str × V)} {t : Str} (mC : X.mg c = some (.ref C)) (ha : H a = some (.ins C da fa)) (hj : j ≤ n)
    (hsp : SpD X.mg X.K [.f] .f m [.ref a] H (fun v H' => ∃ y, v = .str y ∧ (y = t ∧ S H')) fun _ _ _ => False) : ElR X n (.ref a) t H S := fun pins σ s u A g E b Q I ru room hg gd env hbs hQ => by
  cases ru
  exact el_own F I hb mC ha (room.mono hj) hg gd env (QQ := fun y H' => y = t ∧ S H') hsp (by omega) (by have := room.un; omega) fun y s' H' I' q => by
    obtain ⟨rfl, q⟩ := q
    exact hQ s' H' I' q
end
end DL
set_option maxHeartbeats 2000000
namespace DL
open PySem PySem.Spec PyProof.Rows L2 PySem.W
mutual
def toPyX : D → Option PyData
  | .non => some .none
  | .bl b => some (.bool b)
  | .int i => some (.int i)
  | .str x => some (.str x)
  | .lst xs => (toPyXL xs).map .list
  | .tup xs => (toPyXL xs).map .tuple
  | .dic ks xs => if isTd ks = true then (pairsPy ks xs).map .dict else none
  | .ins _ _ _ => none
def toPyXL : List D → Option (List PyData)
  | [] => some []
  | x :: xs => match toPyX x, toPyXL xs with
    | some p, some ps => some (p :: ps)
    | _, _ => none
end
def showX (d : D) : Option Str := match toPyX d with
  | some p => if PyData.showable p && decide (PyData.depth p ≤ 60) && decide (p.shown.length ≤ sizeLine) then some p.shown else none
  | none => none
theorem showX_eq {d : D} {z : Str} (h : showX d = some z) : ∃ p, toPyX d = some p ∧ p.showable = true ∧ p.depth ≤ 60 ∧ p.shown.length ≤ sizeLine ∧ z = p.shown := by
  unfold showX at h
  split at h
  · rename_i p e
    split at h
    · rename_i c
      simp only [Bool.and_eq_true, decide_eq_true_eq] at c
      cases h
      exact ⟨p, e, c.1.1, c.1.2, c.2, rfl⟩
    · cases h
  · cases h
section
variable {X : Cx} {pins : List (Addr × Obj)} {σ : L2.St} {H : Hp} {s : Shared}
theorem dicK_ (I : Inv X pins σ H s) {a : Addr} {kvs : List (List Key × V)} {ps : List (PyData × PyData)} (hd : Rd H a (.dT kvs)) (hp : pairsV kvs = some ps) (hs : PyData.showable (.dict ps) = true) (hz : (PyData.shown (.dict ps)).length ≤ sizeLine) :
    ∃ (o : Obj) (es : Array DictEntry) (n : Nat) (as : List Addr), s.heap.get? a = some o ∧ o.cls = .type "dict" ∧ o.data = .dict es n ∧ (a == sysModules) = false ∧ Reads s.heap (.ref a) (.dict ps) as ∧
    ∃ bs, a ∉ bs ∧ NotF H a ∧ (∀ b ∈ bs, NotF H b) ∧ ReadAtMost s.heap (PyData.depthKv ps) bs ∧ ReprEntriesK X.prog X.w bs s.heap (PyData.depthKv ps) es.toList (PyData.shownKv ps) := by
  obtain ⟨h1, h2, xs, h3, o, es, ep, h4, h5, h6, h7, -, -⟩ := dt_rd I.hok hd
  obtain ⟨a1, a2, a3, a4, a5, a6⟩ := pairs_rp (mg := X.mg) (K := X.K) h3 hp
  have hz' : (dictText (PyData.shownKv ps)).length ≤ sizeLine := by simpa only [PyData.shown] using hz
  obtain ⟨hs1, hs2⟩ := PyData.showableKv_split ps (by simpa [PyData.showable] using hs)
  obtain ⟨⟨_, r1⟩, b1, hb1, n1, k1⟩ := rpKL I a1 a5 a2 hs1 (fun t ht => let ⟨p, hp, hl⟩ := PyData.shownKv_key_le ps t ht; Nat.le_trans hl (Nat.le_trans (dictText_mem_le hp) hz'))
  obtain ⟨⟨_, r2⟩, b2, hb2, n2, k2⟩ := rpKL I a3 a6 a4 hs2 (fun t ht => let ⟨p, hp, hl⟩ := PyData.shownKv_val_le ps t ht; Nat.le_trans hl (Nat.le_trans (dictText_mem_le hp) hz'))
  have e1 : es.toList.map (·.key) = xs.map fun x => Value.ref x.2.1 := by rw [h7, List.map_map]; rfl
  have e2 : es.toList.map (·.val) = xs.map (·.2.2) := by rw [h7, List.map_map]; rfl
  rw [← e1] at r1 k1
  rw [← e2] at r2 k2
  have hb : ReadAtMost s.heap (PyData.depthKv ps) (b1 ++ b2) := (hb1.mono (PyData.depthAll_keys_le ps)).append (hb2.mono (PyData.depthAll_vals_le ps))
  have hna : a ∉ b1 ++ b2 := not_mem_of_deeper (.dict h4 h5.1 h6 r1 r2) (by simp only [PyData.depth]; omega) hb
  have hna2 : NotF H a := fun o' ys z => by
    rcases hd with h | ⟨o', h⟩ <;> (rw [h] at z; cases z)
  refine ⟨o, es, ep, _, h4, h5.1, h6, h2, .dict h4 h5.1 h6 r1 r2, b1 ++ b2, hna, hna2, fun b hb => ?_, hb, ?_⟩
  · rcases List.mem_append.mp hb with hb | hb
    · exact n1 b hb
    · exact n2 b hb
  · rw [PyData.shownKv_eq]
    exact ReprEntriesK.of_two es.toList _ _ (k1.more_le (fun b hb => List.mem_append_left _ hb) (PyData.depthAll_keys_le ps)) (k2.more_le (fun b hb => List.mem_append_right _ hb) (PyData.depthAll_vals_le ps))
mutual
theorem rpX (I : Inv X pins σ H s) : ∀ {v : V} {d : D} {u : Value} {p : PyData}, Rp X.mg X.K H v d → RelV v u → toPyX d = some p → p.showable = true → p.shown.length ≤ sizeLine →
    (∃ as, Reads s.heap u p as) ∧ ∃ bs, ReadAtMost s.heap p.depth bs ∧ (∀ b ∈ bs, NotF H b) ∧ ReprK X.prog X.w bs s.heap p.depth u p.shown
  | _, _, _, _, .non, r, e, _, _ => by
    cases e; cases r
    exact ⟨⟨_, .none⟩, [], (fun _ h => nomatch h), (fun _ h => nomatch h), by simp only [PyData.shown]; exact .of_is ReprIs.none _ _ _⟩
  | _, _, _, _, .bl b, r, e, _, _ => by
    cases e; cases r
    exact ⟨⟨_, .bool b⟩, [], (fun _ h => nomatch h), (fun _ h => nomatch h), by simp only [PyData.shown]; exact .of_is (ReprIs.bool b) _ _ _⟩
  | _, _, _, _, .int i, r, e, hs, _ => by
    cases e
    obtain ⟨t, rfl⟩ := r
    exact ⟨⟨_, .int i t⟩, [], (fun _ h => nomatch h), (fun _ h => nomatch h), by simp only [PyData.shown]; exact .of_is (ReprIs.int t (by simpa [PyData.showable] using hs)) _ _ _⟩
  | _, _, _, _, .str x, r, e, _, hz => by
    cases e
    obtain ⟨t, rfl⟩ := r
    exact ⟨⟨_, .str x t⟩, [], (fun _ h => nomatch h), (fun _ h => nomatch h), by simp only [PyData.shown]; exact .of_is (ReprIs.str x t (by simpa only [PyData.shown] using hz)) _ _ _⟩
  | _, .lst ds, _, _, .lst (a := a) h q, r, e, hs, hz => by
    simp only [toPyX, Option.map_eq_some_iff] at e
    obtain ⟨ps, e1, rfl⟩ := e
    cases r
    obtain ⟨_, its, n, rv, h1⟩ := (show ObjOk X.prog X.w H s.heap a (.lst _) from I.hok a _ h)
    have hz' : (listText (PyData.shownAll ps)).length ≤ sizeLine := by simpa only [PyData.shown] using hz
    obtain ⟨⟨as, h4⟩, bs, hb, hn, hk⟩ := rpXL I q rv e1 (by simpa [PyData.showable] using hs) (fun t ht => Nat.le_trans (listText_mem_le ht) hz')
    have rd : Reads s.heap (.ref a) (.list ps) _ := .list h1 rfl rfl h4
    have hna : a ∉ bs := not_mem_of_deeper rd (by simp only [PyData.depth]; omega) hb
    refine ⟨⟨_, rd⟩, a :: bs, ReadAtMost.cons rd (by simp only [PyData.depth]; omega) hb, fun b hb => ?_, ?_⟩
    · rcases List.mem_cons.mp hb with rfl | hb
      · intro o xs z
        rw [h] at z
        cases z
      · exact hn b hb
    · simp only [PyData.depth, PyData.shown]
      cases its with
      | nil =>
        have h4' : ReadsAll s.heap [] ps _ := h4
        cases h4'
        simp only [PyData.shownAll, listText_nil]
        exact ReprK.listEmpty h1 rfl rfl
      | cons x l => exact ReprK.list h1 rfl rfl hna (by simpa using hk.length_eq) (fun i y e => hk.item i y (by simpa using e))
  | _, .tup ds, _, _, .tup (a := a) h q, r, e, hs, hz => by
    simp only [toPyX, Option.map_eq_some_iff] at e
    obtain ⟨ps, e1, rfl⟩ := e
    cases r
    obtain ⟨_, its, rv, o, h1, h2, n, h3⟩ := (show ObjOk X.prog X.w H s.heap a (.tup _) from I.hok a _ h)
    have hz' : (tupleText (PyData.shownAll ps)).length ≤ sizeLine := by simpa only [PyData.shown] using hz
    obtain ⟨⟨as, h4⟩, bs, hb, hn, hk⟩ := rpXL I q rv e1 (by simpa [PyData.showable] using hs) (fun t ht => Nat.le_trans (tupleText_mem_le ht) hz')
    have rd : Reads s.heap (.ref a) (.tuple ps) _ := .tuple h1 h2 h3 h4
    have hna : a ∉ bs := not_mem_of_deeper rd (by simp only [PyData.depth]; omega) hb
    refine ⟨⟨_, rd⟩, a :: bs, ReadAtMost.cons rd (by simp only [PyData.depth]; omega) hb, fun b hb => ?_, ?_⟩
    · rcases List.mem_cons.mp hb with rfl | hb
      · intro o xs z
        rw [h] at z
        cases z
      · exact hn b hb
    · simp only [PyData.depth, PyData.shown]
      exact ReprK.tuple h1 h2 h3 hna hk
  | _, _, _, _, .dicK _ _, _, e, _, _ => by simp [toPyX, isTd] at e
  | _, _, _, _, .dicT (kvs := kvs) h q, r, e, hs, hz => by
    simp only [toPyX] at e
    split at e
    · simp only [Option.map_eq_some_iff] at e
      obtain ⟨ps, e1, rfl⟩ := e
      cases r
      obtain ⟨o, es, n, as, h1, h2, h3, h4, h5, bs, h6, h7, h8, h9, h10⟩ := dicK_ I h (pairs_of q e1) hs hz
      refine ⟨⟨_, h5⟩, _ :: bs, ReadAtMost.cons h5 (by simp only [PyData.depth]; omega) h9, fun b hb => ?_, ?_⟩
      · rcases List.mem_cons.mp hb with rfl | hb
        · exact h7
        · exact h8 b hb
      · simp only [PyData.depth, PyData.shown]
        exact ReprK.dict h1 h2 h3 h4 h6 h10
    · cases e
  | _, _, _, _, .ins _ _ _, _, e, _, _ => by simp [toPyX] at e
theorem rpXL (I : Inv X pins σ H s) : ∀ {vs : List V} {ds : List D} {us : List Value} {ps : List PyData}, RpL X.mg X.K H vs ds → Vals vs us → toPyXL ds = some ps → PyData.showableAll ps = true → (∀ t ∈ PyData.shownAll ps, t.length ≤ sizeLine) →
    (∃ as, ReadsAll s.heap us ps as) ∧ ∃ bs, ReadAtMost s.heap (PyData.depthAll ps) bs ∧ (∀ b ∈ bs, NotF H b) ∧ ReprAllK X.prog X.w bs s.heap (PyData.depthAll ps) us (PyData.shownAll ps)
  | _, _, _, _, .nil, r, e, _, _ => by
    simp only [toPyXL, Option.some.injEq] at e
    subst e
    cases r
    exact ⟨⟨_, .nil⟩, [], (fun _ h => nomatch h), (fun _ h => nomatch h), by simp only [PyData.shownAll]; exact .nil⟩
  | _, d :: ds, _, _, .cons h q, r, e, hs, hz => by
    simp only [toPyXL] at e
    split at e
    · rename_i p qs e1 e2
      cases e
      cases r with
      | cons r1 r2 =>
        have hs' : p.showable = true ∧ PyData.showableAll qs = true := by simpa [PyData.showableAll] using hs
        obtain ⟨⟨a1, d1⟩, b1, hb1, n1, k1⟩ := rpX I h r1 e1 hs'.1 (hz _ (by simp only [PyData.shownAll]; exact List.mem_cons_self ..))
        obtain ⟨⟨a2, d2⟩, b2, hb2, n2, k2⟩ := rpXL I q r2 e2 hs'.2 (fun t ht => hz t (by simp only [PyData.shownAll]; exact List.mem_cons_of_mem _ ht))
        refine ⟨⟨_, .cons d1 d2⟩, b1 ++ b2, ?_, ?_, ?_⟩
        · intro b hm
          simp only [PyData.depthAll]
          rcases List.mem_append.mp hm with hm | hm
          · obtain ⟨d', as', r', hd'⟩ := hb1 b hm
            exact ⟨d', as', r', Nat.le_trans hd' (Nat.le_max_left _ _)⟩
          · obtain ⟨d', as', r', hd'⟩ := hb2 b hm
            exact ⟨d', as', r', Nat.le_trans hd' (Nat.le_max_right _ _)⟩
        · intro b hm
          rcases List.mem_append.mp hm with hm | hm
          · exact n1 b hm
          · exact n2 b hm
        · simp only [PyData.depthAll, PyData.shownAll]
          exact .cons ((k1.more fun b hb => List.mem_append_left _ hb).level_le (Nat.le_max_left _ _)) (k2.more_le (fun b hb => List.mem_append_right _ hb) (Nat.le_max_right _ _))
    · cases e
end
/-- such data as an element -/
theorem elR_x {n : Nat} {v : V} {d : D} {p : PyData} {S : Hp → Prop} (rp : Rp X.mg X.K H v d) (hp : toPyX d = some p) (hs : p.showable = true) (hd : p.depth ≤ 60) (hz : p.shown.length ≤ sizeLine) (hS : S H) : ElR X n v p.shown H S := fun pins σ s u A g E b Q I ru room hg gd env hb hQ => by
  obtain ⟨-, bs, -, hn, hk⟩ := rpX I rp ru hp hs hz
  exact hk b hb A g E s Q hg (fun b hb => gd.clear (hn b hb)) (by have := room.un; omega) (fun _ _ e => e) fun h' tk k => hQ _ H (I.kept (t' := tk) k) hS
/-- repr(x), x a list, a tuple or a dict of such data -/
def rReprXd (mg : Str → Option Value) (K : PySem.W.Frag) : List V → Hp → VK → Prop := fun vs H Q => ∃ a d p, vs = [V.ref a] ∧ Rp mg K H (.ref a) d ∧ toPyX d = some p ∧ p.showable = true ∧ p.depth ≤ 60 ∧ p.shown.length ≤ sizeLine ∧ Q (.str p.shown) H
theorem cr_reprXd {E : XK} {k : Nat} (x : XOk X E k) : CallR X (.builtin "repr") (rReprXd X.mg X.K) := by
  intro pins s σ H xs us Q I r h
  obtain ⟨a, d, p, rfl, rp, hp, hs, hd, hz, q⟩ := h
  obtain ⟨u, rfl, ru⟩ := r.one
  have hu := x.u64
  cases ru
  have gd : GdF [] H := GdF.nil H
  cases rp with
  | lst h q0 =>
    rename_i vs ds
    simp only [toPyX, Option.map_eq_some_iff] at hp
    obtain ⟨ps, e1, rfl⟩ := hp
    obtain ⟨_, its, n, rv, h1⟩ := (show ObjOk X.prog X.w H s.heap a (.lst _) from I.hok a _ h)
    have hz' : (listText (PyData.shownAll ps)).length ≤ sizeLine := by simpa only [PyData.shown] using hz
    obtain ⟨⟨as, h4⟩, bs, hb, hn, hk⟩ := rpXL I q0 rv e1 (by simpa [PyData.showable] using hs) (fun t ht => Nat.le_trans (listText_mem_le ht) hz')
    have hna : a ∉ bs := not_mem_of_deeper (.list h1 rfl rfl h4) (by simp only [PyData.depth]; omega) hb
    have hcl : ∀ b ∈ a :: bs, Clear [] b := fun b hb _ _ _ _ hm => nomatch hm
    simp only [PyData.depth] at hd
    simp only [PyData.shown] at q
    refine call_repr_slot (by omega) ⟨_, h1, rfl⟩ F.slot_list_repr.toG ?_
    cases its with
    | nil =>
      have h4' : ReadsAll s.heap [] ps _ := h4
      cases h4'
      simp only [PyData.shownAll, listText_nil] at q
      exact call_list_repr_empty ⟨_, h1, rfl⟩ h1 rfl ⟨_, _, rfl, .str _, H, I.tok _, ⟨_, rfl⟩, q⟩
    | cons x0 l => exact call_list_reprK h1 rfl rfl hna (by simpa using hk.length_eq) (fun i y e => hk.item i y (by simpa using e)) x.gd hcl (by show X.A.units + 1 + _ < cLine; omega) (fun _ _ e => e) (fun h' u tk hk => ⟨_, _, rfl, .str _, H, I.kept (t' := tk) hk, ⟨_, rfl⟩, q⟩) hz'
  | tup h q0 =>
    rename_i vs ds
    simp only [toPyX, Option.map_eq_some_iff] at hp
    obtain ⟨ps, e1, rfl⟩ := hp
    obtain ⟨_, its, rv, o, h1, h2, n, h3⟩ := (show ObjOk X.prog X.w H s.heap a (.tup _) from I.hok a _ h)
    have hz' : (tupleText (PyData.shownAll ps)).length ≤ sizeLine := by simpa only [PyData.shown] using hz
    obtain ⟨⟨as, h4⟩, bs, hb, hn, hk⟩ := rpXL I q0 rv e1 (by simpa [PyData.showable] using hs) (fun t ht => Nat.le_trans (tupleText_mem_le ht) hz')
    have hna : a ∉ bs := not_mem_of_deeper (.tuple h1 h2 h3 h4) (by simp only [PyData.depth]; omega) hb
    have hcl : ∀ b ∈ a :: bs, Clear [] b := fun b hb _ _ _ _ hm => nomatch hm
    simp only [PyData.depth] at hd
    simp only [PyData.shown] at q
    refine call_repr_slot (by omega) ⟨_, h1, h2⟩ F.slot_tuple_repr ?_
    exact call_tuple_reprK h1 h2 h3 hna hk x.gd hcl (by show X.A.units + 1 + _ < cLine; omega) (fun _ _ e => e) (fun h' u tk hk => ⟨_, _, rfl, .str _, H, I.kept (t' := tk) hk, ⟨_, rfl⟩, q⟩) hz'
  | dicK _ _ => simp [toPyX, isTd] at hp
  | dicT h q0 =>
    rename_i kvs ds
    simp only [toPyX] at hp
    split at hp
    · simp only [Option.map_eq_some_iff] at hp
      obtain ⟨ps, e1, rfl⟩ := hp
      obtain ⟨o, es, n, as, h1, h2, h3, h4, h5, bs, h6, h7, h8, h9, h10⟩ := dicK_ I h (pairs_of q0 e1) hs hz
      have hcl : ∀ b ∈ a :: bs, Clear [] b := fun b hb _ _ _ _ hm => nomatch hm
      have hz' : (dictText (PyData.shownKv ps)).length ≤ sizeLine := by simpa only [PyData.shown] using hz
      simp only [PyData.depth] at hd
      simp only [PyData.shown] at q
      refine call_repr_slot (by omega) ⟨_, h1, h2⟩ F.slot_dict_repr ?_
      exact call_dict_reprK h1 h2 h3 h4 h6 h10 x.gd hcl (by show X.A.units + 1 + _ < cLine; omega) (fun _ _ e => e) (fun h' u tk hk => ⟨_, _, rfl, .str _, H, I.kept (t' := tk) hk, ⟨_, rfl⟩, q⟩) hz'
    · cases hp
  | ins _ _ _ => simp [toPyX] at hp
end
end DL
set_option maxHeartbeats 2000000
namespace DL
open PySem PySem.Spec PyProof.Rows L2 PySem.W
mutual
def szD : D → Nat
  | .lst xs => 1 + szL xs
  | .tup xs => 1 + szL xs
  | .dic _ xs => 1 + szL xs
  | .ins _ _ xs => 1 + szL xs
  | _ => 0
def szL : List D → Nat
  | [] => 0
  | x :: xs => 1 + szD x + szL xs
end
section
variable {mg : Str → Option Value} {K : PySem.W.Frag} {H : Hp} {a : Addr}
mutual
theorem sz_one : ∀ {v : V} {d e : D}, Rp mg K H v d → Rp mg K H v e → szD d = szD e
  | _, _, _, .non, h => by cases h; rfl
  | _, _, _, .bl b, h => by cases h; rfl
  | _, _, _, .int i, h => by cases h; rfl
  | _, _, _, .str x, h => by cases h; rfl
  | _, _, _, .lst h1 r, h => by
    cases h with
    | lst h2 r2 =>
      rw [h1] at h2; cases h2
      simp only [szD, sz_all r r2]
    | tup h2 r2 => rw [(show H _ = some _ from h2)] at h1; cases h1
    | dicK h2 r2 => rcases h2 with h2 | ⟨o, h2⟩ <;> (rw [h2] at h1; cases h1)
    | dicT h2 r2 => rcases h2 with h2 | ⟨o, h2⟩ <;> (rw [h2] at h1; cases h1)
    | ins m h2 r2 => rw [h2] at h1; cases h1
  | _, _, _, .tup h1 r, h => by
    have h1 : H _ = some _ := h1
    cases h with
    | lst h2 r2 => rw [h2] at h1; cases h1
    | tup h2 r2 =>
      rw [(show H _ = some _ from h2)] at h1; cases h1
      simp only [szD, sz_all r r2]
    | dicK h2 r2 => rcases h2 with h2 | ⟨o, h2⟩ <;> (rw [h2] at h1; cases h1)
    | dicT h2 r2 => rcases h2 with h2 | ⟨o, h2⟩ <;> (rw [h2] at h1; cases h1)
    | ins m h2 r2 => rw [h2] at h1; cases h1
  | _, _, _, .dicK h1 r, h => by
    cases h with
    | lst h2 r2 => rcases h1 with h1 | ⟨o, h1⟩ <;> (rw [h2] at h1; cases h1)
    | tup h2 r2 =>
      have h2 : H _ = some _ := h2
      rcases h1 with h1 | ⟨o, h1⟩ <;> (rw [h2] at h1; cases h1)
    | dicK h2 r2 =>
      rcases h1 with h1 | ⟨o, h1⟩ <;> rcases h2 with h2 | ⟨o2, h2⟩ <;> (rw [h2] at h1; cases h1 <;> simp only [szD, sz_all r r2])
    | dicT h2 r2 =>
      rcases h1 with h1 | ⟨o, h1⟩ <;> rcases h2 with h2 | ⟨o2, h2⟩ <;> (rw [h2] at h1; cases h1)
    | ins m h2 r2 => rcases h1 with h1 | ⟨o, h1⟩ <;> (rw [h2] at h1; cases h1)
  | _, _, _, .dicT h1 r, h => by
    cases h with
    | lst h2 r2 => rcases h1 with h1 | ⟨o, h1⟩ <;> (rw [h2] at h1; cases h1)
    | tup h2 r2 =>
      have h2 : H _ = some _ := h2
      rcases h1 with h1 | ⟨o, h1⟩ <;> (rw [h2] at h1; cases h1)
    | dicK h2 r2 =>
      rcases h1 with h1 | ⟨o, h1⟩ <;> rcases h2 with h2 | ⟨o2, h2⟩ <;> (rw [h2] at h1; cases h1)
    | dicT h2 r2 =>
      rcases h1 with h1 | ⟨o, h1⟩ <;> rcases h2 with h2 | ⟨o2, h2⟩ <;> (rw [h2] at h1; cases h1 <;> simp only [szD, sz_all r r2])
    | ins m h2 r2 => rcases h1 with h1 | ⟨o, h1⟩ <;> (rw [h2] at h1; cases h1)
  | _, _, _, .ins m1 h1 r, h => by
    cases h with
    | lst h2 r2 => rw [h2] at h1; cases h1
    | tup h2 r2 =>
      have h2 : H _ = some _ := h2
      rw [h2] at h1; cases h1
    | dicK h2 r2 => rcases h2 with h2 | ⟨o, h2⟩ <;> (rw [h2] at h1; cases h1)
    | dicT h2 r2 => rcases h2 with h2 | ⟨o, h2⟩ <;> (rw [h2] at h1; cases h1)
    | ins m h2 r2 =>
      rw [h2] at h1; cases h1
      simp only [szD, sz_all r r2]
theorem sz_all : ∀ {vs : List V} {ds es : List D}, RpL mg K H vs ds → RpL mg K H vs es → szL ds = szL es
  | _, _, _, .nil, h => by cases h; rfl
  | _, _, _, .cons h r, h' => by
    cases h' with
    | cons h2 r2 => simp only [szL, sz_one h h2, sz_all r r2]
end
mutual
/-- what is less than the list at a doesn't lean on it -/
theorem rp_off {vs : List V} {ds : List D} (ha : H a = some (.lst vs)) (hr : RpL mg K H vs ds) : ∀ {v : V} {d : D}, Rp mg K H v d → szD d ≤ szL ds → Rp mg K (less H [a]) v d
  | _, _, .non, _ => .non
  | _, _, .bl b, _ => .bl b
  | _, _, .int i, _ => .int i
  | _, _, .str x, _ => .str x
  | _, _, .lst (a := b) h1 r, h => by
    simp only [szD] at h
    have hne : b ≠ a := fun z => by
      subst z
      rw [ha] at h1; cases h1
      rw [sz_all hr r] at h
      omega
    exact .lst (less_some.mpr ⟨by simpa using hne, h1⟩) (rpl_off ha hr r (by omega))
  | _, _, .tup (a := b) h1 r, h => by
    have h1 : H _ = some _ := h1
    simp only [szD] at h
    have hne : b ≠ a := fun z => by subst z; rw [ha] at h1; cases h1
    exact .tup (less_some.mpr ⟨by simpa using hne, h1⟩) (rpl_off ha hr r (by omega))
  | _, _, .dicK (a := b) h1 r, h => by
    simp only [szD] at h
    have hne : b ≠ a := fun z => by subst z; rcases h1 with h1 | ⟨o, h1⟩ <;> (rw [ha] at h1; cases h1)
    refine .dicK ?_ (rpl_off ha hr r (by omega))
    rcases h1 with h1 | ⟨o, h1⟩
    · exact .inl (less_some.mpr ⟨by simpa using hne, h1⟩)
    · exact .inr ⟨o, less_some.mpr ⟨by simpa using hne, h1⟩⟩
  | _, _, .dicT (a := b) h1 r, h => by
    simp only [szD] at h
    have hne : b ≠ a := fun z => by subst z; rcases h1 with h1 | ⟨o, h1⟩ <;> (rw [ha] at h1; cases h1)
    refine .dicT ?_ (rpl_off ha hr r (by omega))
    rcases h1 with h1 | ⟨o, h1⟩
    · exact .inl (less_some.mpr ⟨by simpa using hne, h1⟩)
    · exact .inr ⟨o, less_some.mpr ⟨by simpa using hne, h1⟩⟩
  | _, _, .ins (a := b) m h1 r, h => by
    simp only [szD] at h
    have hne : b ≠ a := fun z => by subst z; rw [ha] at h1; cases h1
    exact .ins m (less_some.mpr ⟨by simpa using hne, h1⟩) (rpl_off ha hr r (by omega))
theorem rpl_off {vs : List V} {ds : List D} (ha : H a = some (.lst vs)) (hr : RpL mg K H vs ds) : ∀ {ws : List V} {es : List D}, RpL mg K H ws es → szL es ≤ szL ds → RpL mg K (less H [a]) ws es
  | _, _, .nil, _ => .nil
  | _, _, .cons h r, q => by
    simp only [szL] at q
    exact .cons (rp_off ha hr h (by omega)) (rpl_off ha hr r (by omega))
end
/-- a list, its items shown without it -/
theorem rb_lst2 {pot : Option Addr} {M : List Addr} {x : V} {ds : List D} (pm : ∀ a, pot = some a → a ∈ M) (h : Rb mg K pot M H x (.lst ds)) : ∃ p xs, x = .ref p ∧ H p = some (.lst xs) ∧ pot ≠ some p ∧ RpL mg K (less H (p :: M)) xs ds := by
  rcases h with h | ⟨p, e1, hp, o, h1, h2⟩
  · cases h with
    | lst h1 h2 =>
      obtain ⟨h3, h4⟩ := less_some.mp h1
      refine ⟨_, _, rfl, h4, fun z => h3 (pm _ z), (rpl_off h1 h2 h2 (Nat.le_refl _)).mono fun b o e => ?_⟩
      obtain ⟨e1, e2⟩ := less_some.mp e
      obtain ⟨e3, e4⟩ := less_some.mp e2
      exact less_some.mpr ⟨by simp only [List.mem_cons, not_or]; exact ⟨by simpa using e1, e3⟩, e4⟩
  · cases h2 with
    | lst h2 => exact ⟨p, _, e1, h1, hp, h2⟩
end
abbrev RepT := List (Str × Fd)
def meOf : RepT → D → Option Fd
  | [], _ => none
  | (c, m) :: r, d => if isInO c d = true then some m else meOf r d
/-- a thing shown within a list -/
def reprEl (t : RepT) (d : D) (π : Pot) : Res (Str × Pot) := match meOf t d with
  | some m => match m [d] π with
    | .ok (.str y, π') => .ok (y, π')
    | _ => .stuck
  | none => match showX d with
    | some z => .ok (z, π)
    | none => .stuck
def reprAll (t : RepT) : List D → Pot → Res (List Str × Pot)
  | [], π => .ok ([], π)
  | d :: ds, π => (reprEl t d π).bind fun x => (reprAll t ds x.2).bind fun y => .ok (x.1 :: y.1, y.2)
def rprA (t : RepT) (d : D) (π : Pot) : Res (D × Pot) := match meOf t d with
  | some m => match m [d] π with
    | .ok (.str y, π') => .ok (.str y, π')
    | _ => .stuck
  | none => match fReprA [d] with
    | some z => .ok (z, π)
    | none => match d with
      | .lst (d :: ds) => (reprAll t (d :: ds) π).bind fun y => if (listText y.1).length ≤ sizeLine then .ok (.str (listText y.1), y.2) else .stuck
      | .tup ds => match showX (.tup ds) with
        | some z => .ok (.str z, π)
        | none => .stuck
      | _ => .stuck
def eReprA (t : RepT) (a : Ed) : Ed := fun ρ π => (a ρ π).bind fun x => rprA t x.1 x.2
structure ElM (X : Cx) (E : XK) (n k : Nat) (c : Str) (m : Fd) : Prop where
  ex : ∃ j qual st ps, (∃ qual' st' ps' j', DMe X.prog X.w X.K X.mg X.base j' c "__repr__" qual' st' ps' [] .f m ∧ j' + 1 ≤ k ∧
      (∀ (kV doc pm : Value) (an : Option Addr) (cdv ct : Value) (us : List Value), us.length = ps'.length → bindArgs (PySem.W.fnOf "__repr__" qual' (defArgs st') (defBody st') (defScope st') .none kV doc pm an cdv ct) ⟨us, []⟩ = pure (ps'.zip us))) ∧
    j ≤ n ∧ DMG X.prog X.w X.K X.mg X.base j c "__repr__" qual st ps [] .f m ∧
    (∀ (kV doc pm : Value) (an : Option Addr) (cdv ct : Value) (us : List Value), us.length = ps.length → bindArgs (PySem.W.fnOf "__repr__" qual (defArgs st) (defBody st) (defScope st) .none kV doc pm an cdv ct) ⟨us, []⟩ = pure (ps.zip us))
inductive ElT (X : Cx) (E : XK) (n k : Nat) : RepT → Prop
  | nil : ElT X E n k []
  | cons {c : Str} {m : Fd} {t : RepT} : ElM X E n k c m → ElT X E n k t → ElT X E n k ((c, m) :: t)
theorem ElT.get {X : Cx} {E : XK} {n k : Nat} : ∀ {t : RepT} {d : D} {m : Fd}, ElT X E n k t → meOf t d = some m → ∃ c, isInO c d = true ∧ ElM X E n k c m
  | _, _, _, .nil, e => by cases e
  | (c, m') :: t, d, m, .cons h r, e => by
    simp only [meOf] at e
    split at e
    · rename_i hc
      cases e
      exact ⟨c, hc, h⟩
    · exact r.get e
section
variable {X : Cx} {E : XK} {n k : Nat} {t : RepT} {H : Hp} {pot : Option Addr} {M : List Addr}
theorem chain_sem (T : ElT X E n k t) {a P : Addr} {od : Obj} {vs0 : List V} (hpa : pot ≠ some a) (hpP : pot ≠ some P) (pm : ∀ a, pot = some a → a ∈ M) {S : Hp → Prop} :
    ∀ (ds : List D) (vs : List V) (acc : List Str) (H : Hp) (π : Pot) (ts : List Str) (π' : Pot), RpL X.mg X.K (less H (P :: a :: M)) vs ds → reprAll t ds π = .ok (ts, π') → H a = some (.frz od (.lst vs0)) → H P = some (.lst (txs acc)) →
      PotAt pot H π → (∀ b ∈ M, Al H b) → (∀ H', (∀ b o, pot ≠ some b → b ≠ P → H b = some o → H' b = some o) → PotAt pot H' π' → S H') → ChainR X n a P od vs0 vs ts acc H S
  | [], _, acc, H, π, ts, π', r, e, ha, hP, p, al, hS => by
    cases r
    simp only [reprAll, Res.ok.injEq, Prod.mk.injEq] at e
    obtain ⟨rfl, rfl⟩ := e
    exact hS H (fun _ _ _ _ e => e) p
  | d :: ds, _, acc, H, π, ts, π', .cons (v := v) (vs := vs) r rs, e, ha, hP, p, al, hS => by
    simp only [reprAll] at e
    cases e1 : reprEl t d π with
    | stuck => rw [e1] at e; cases e
    | err c ns xs q => rw [e1] at e; cases e
    | ok x =>
      obtain ⟨x, π1⟩ := x
      rw [e1] at e
      simp only [Res.bind_ok] at e
      cases e2 : reprAll t ds π1 with
      | stuck => rw [e2] at e; cases e
      | err c ns xs q => rw [e2] at e; cases e
      | ok y =>
        obtain ⟨y, π2⟩ := y
        rw [e2] at e
        simp only [Res.bind_ok, Res.ok.injEq, Prod.mk.injEq] at e
        obtain ⟨rfl, rfl⟩ := e
        -- what is behind this element
        have tail : ∀ H1, (∀ b o, pot ≠ some b → H b = some o → H1 b = some o) → PotAt pot H1 π1 → H1 a = some (.frz od (.lst vs0)) ∧ H1 P = some (.lst (txs acc)) ∧ ChainR X n a P od vs0 vs y (acc ++ [x]) (upd H1 P (.lst (txs (acc ++ [x])))) S := fun H1 g p1 => by
          have hne : a ≠ P := fun z => by rw [z, hP] at ha; cases ha
          refine ⟨g _ _ hpa ha, g _ _ hpP hP, chain_sem T hpa hpP pm ds vs _ _ π1 y _ (rs.mono fun b o q => ?_) e2 (by rw [upd_ne hne]; exact g _ _ hpa ha) upd_same (fun b q => ?_) (fun b hb => ?_) fun H' g' p' => hS H' (fun b o n1 n2 q => g' b o n1 n2 (by rw [upd_ne n2]; exact g b o n1 q)) p'⟩
          · obtain ⟨q1, q2⟩ := less_some.mp q
            have q3 : b ≠ P := fun z => q1 (by simp [z])
            refine less_some.mpr ⟨q1, by rw [upd_ne q3]; exact g b o (fun z => q1 (List.mem_cons_of_mem _ (List.mem_cons_of_mem _ (pm b z)))) q2⟩
          · rw [upd_ne fun z => hpP (by rw [← z]; exact q)]
            exact p1 b q
          · by_cases z : b = P
            · subst z
              exact .of upd_same fun xs q => by cases q
            · obtain ⟨o, q1, q2⟩ := al b hb
              by_cases hq : pot = some b
              · exact .of (by rw [upd_ne z]; exact p1 b hq) fun xs q => by cases q
              · exact .of (by rw [upd_ne z]; exact g b o hq q1) q2
        simp only [reprEl] at e1
        cases em : meOf t d with
        | some m =>
          rw [em] at e1
          obtain ⟨c, hc, hM⟩ := T.get em
          obtain ⟨j, qual, st, ps, -, hj, F, hb⟩ := hM.ex
          cases d with
          | ins c1 n1 x1 =>
            simp only [isInO, decide_eq_true_eq] at hc
            subst hc
            obtain ⟨a', C, da, fa, rfl, mC, hA, _, _⟩ := rb_ins (.inl r : Rb X.mg X.K pot (P :: a :: M) H v _)
            refine elR_own F hb mC hA hj ⟨rfl, pot, P :: a :: M, [.ins c1 n1 x1], π, .cons r .nil, fun b hb => ?_, fun b q => List.mem_cons_of_mem _ (List.mem_cons_of_mem _ (pm b q)), p, ?_⟩
            · rcases List.mem_cons.mp hb with rfl | hb
              · exact .of hP fun xs q => by cases q
              · rcases List.mem_cons.mp hb with rfl | hb
                · exact .of ha fun xs q => by cases q
                · exact al b hb
            · simp only at e1
              cases em2 : m [.ins c1 n1 x1] π with
              | stuck => rw [em2] at e1; cases e1
              | err c ns xs q => rw [em2] at e1; cases e1
              | ok z =>
                obtain ⟨z, π3⟩ := z
                rw [em2] at e1
                cases z with
                | str z =>
                  simp only [Res.ok.injEq, Prod.mk.injEq] at e1
                  obtain ⟨rfl, rfl⟩ := e1
                  intro v H1 g p1 rr
                  cases (show Rp X.mg X.K (less H1 (P :: a :: M)) v (.str z) from rr)
                  exact ⟨z, rfl, rfl, tail H1 (fun b o n q => g b o n q) p1⟩
                | _ => cases e1
          | _ => cases hc
        | none =>
          rw [em] at e1
          simp only at e1
          cases hw : showX d with
          | none => rw [hw] at e1; cases e1
          | some w =>
            rw [hw] at e1
            simp only [Res.ok.injEq, Prod.mk.injEq] at e1
            obtain ⟨rfl, rfl⟩ := e1
            obtain ⟨pd, g0, g1, g2, g3, rfl⟩ := showX_eq hw
            exact elR_x (r.mono less_le) g0 g1 g2 g3 (tail H (fun _ _ _ q => q) p)
variable {Γ : List Md} {e : Expr} {te : TE} {fe : Ed} {pos p : Pos}
def rReprAny (X : Cx) (E : XK) (n : Nat) : RepT → List V → Hp → VK → Prop
  | [] => fun xs H Q => rReprLs X n xs H Q ∨ rReprXd X.mg X.K xs H Q ∨ (rRepr X.K xs H Q ∨ rReprT xs H Q)
  | (c, m) :: t => fun xs H Q => rReprO X.mg X.K E c m xs H Q ∨ rReprAny X E n t xs H Q
theorem cr_reprAny (o : XOk X E k) (hn : n + 2 ≤ k) : ∀ {t : RepT}, ElT X E n k t → CallR X (.builtin "repr") (rReprAny X E n t)
  | [], _ => (cr_reprLs o hn).or ((cr_reprXd o).or (c_reprA o).1)
  | (c, m) :: t, .cons h r => by
    obtain ⟨_, _, _, _, ⟨qual, st, ps, j, F, hj, hb⟩, _⟩ := h.ex
    exact (cr_reprO F o hb hj).or (cr_reprAny o hn r)
theorem rReprAny.own {xs : List V} {Q : VK} : ∀ {t : RepT} {d : D} {m : Fd}, meOf t d = some m → (∀ c, isInO c d = true → rReprO X.mg X.K E c m xs H Q) → rReprAny X E n t xs H Q
  | [], _, _, e, _ => by cases e
  | (c, m') :: t, d, m, e, h => by
    simp only [meOf] at e
    split at e
    · rename_i hc
      cases e
      exact .inl (h c hc)
    · exact .inr (rReprAny.own e h)
theorem rReprAny.rest {xs : List V} {Q : VK} (h : rReprLs X n xs H Q ∨ rReprXd X.mg X.K xs H Q ∨ (rRepr X.K xs H Q ∨ rReprT xs H Q)) : ∀ t : RepT, rReprAny X E n t xs H Q
  | [] => h
  | (c, m') :: t => .inr (rReprAny.rest h t)
/-- repr(e) -/
theorem de_reprAny (T : ElT X E n k t) (o : XOk X E k) (hm : X.mg "repr" = none) (he : DE X E .b Γ e te fe) (hn : n + 2 ≤ k := by decide) (hg : Gl X "repr" := by rfl) (hst : starEach [e] X.env = (false, eval e X.env) :: starEach [] X.env := by rfl) (hpl : (backTo pos (starEach [] X.env)).any (·.1) = false := by rfl) :
    DE X E .f Γ (.Call (.Name "repr" p) [e] [] pos) (tCB (rReprAny X E n t) (tCons te tNil)) (eReprA t fe) :=
  ⟨pe_callB (cr_reprAny o hn T) hg hm (by decide +kernel) (pa_cons he.pe pa_nil hst) (by decide) (by decide) hst hpl, fun pot M σ H ρ π I p Q h => by
    refine Post.seq (r' := .b) (te := te σ H) h p (fun Q' hq => he.sem pot M σ H ρ π I p Q' hq) fun d π1 v H1 _ g1 p1 r1 h1 => ?_
    have I1 := I.grow g1 p1
    have r1' : Rb X.mg X.K pot M H1 v d := r1
    dsimp only [rprA] at h1
    cases em : meOf t d with
    | some m =>
      rw [em] at h1
      simp only at h1
      refine rReprAny.own em fun c hc => ?_
      cases d with
      | ins c1 n1 x1 =>
        simp only [isInO, decide_eq_true_eq] at hc
        subst hc
        obtain ⟨a, C, da, fa, M', rfl, mC, hA, hM, hpm, rr1⟩ : ∃ a C da fa M', v = .ref a ∧ X.mg c1 = some (.ref C) ∧ H1 a = some (.ins C da fa) ∧ (∀ b ∈ M', b ∈ M) ∧ (∀ b, pot = some b → b ∈ M') ∧ Rp X.mg X.K (less H1 M') v (.ins c1 n1 x1) := by
          rcases r1' with r1' | ⟨q, rfl, hq, oo, hq1, hq2⟩
          · obtain ⟨a, C, da, fa, rfl, mC, hA, _, _⟩ := rb_ins (.inl r1' : Rb X.mg X.K pot M H1 v _)
            exact ⟨a, C, da, fa, M, rfl, mC, hA, fun _ h => h, I1.pm, r1'⟩
          · cases hq2 with
            | ins mC hr =>
              rename_i C fs dx
              refine ⟨q, _, _, _, M.filter (· ≠ q), rfl, mC, hq1, fun b hb => (List.mem_filter.mp hb).1, fun b hb => List.mem_filter.mpr ⟨I1.pm b hb, by simpa using fun z => hq (by rw [hb, z])⟩, .ins mC (less_some.mpr ⟨by simp, hq1⟩) (hr.mono fun b o z => ?_)⟩
              obtain ⟨z1, z2⟩ := less_some.mp z
              exact less_some.mpr ⟨fun w => z1 (List.mem_cons_of_mem _ (List.mem_filter.mp w).1), z2⟩
        refine ⟨C, a, da, fa, rfl, mC, hA, rfl, pot, M', _, π1, .cons rr1 .nil, fun b hb => I1.al b (hM b hb), hpm, p1, ?_⟩
        cases em : m [.ins c1 n1 x1] π1 with
        | err c ns xs π' =>
          rw [em] at h1
          exact h1.elim
        | stuck =>
          rw [em] at h1
          exact h1.elim
        | ok y =>
          obtain ⟨d', π2⟩ := y
          rw [em] at h1
          cases d' with
          | str z =>
            intro v H' g p' rr
            cases (show Rp X.mg X.K (less H' M') v (.str z) from rr)
            exact ⟨z, rfl, h1 _ H' g p' (.str _)⟩
          | _ => exact h1.elim
      | _ => cases hc
    | none =>
      rw [em] at h1
      simp only at h1
      refine rReprAny.rest ?_ t
      cases hz : fReprA [d] with
      | some z =>
        rw [hz] at h1
        exact .inr (.inr ((c_reprA o).2 pot M H1 [v] [d] z I1.al I1.pm p1.has (.cons r1' .nil) hz Q fun w H' s q => h1 w H' (.of_same s) (p1.same s) q))
      | none =>
        rw [hz] at h1
        simp only at h1
        cases d with
        | tup ds =>
          simp only at h1
          cases hw : showX (.tup ds) with
          | none => rw [hw] at h1; exact h1.elim
          | some w =>
            rw [hw] at h1
            obtain ⟨pd, g0, g1, g2, g3, rfl⟩ := showX_eq hw
            obtain ⟨a, _, rfl, _⟩ := rb_tup r1'
            exact .inr (.inl ⟨a, _, pd, rfl, rb_rp r1', g0, g1, g2, g3, h1 _ H1 .refl p1 (.str _)⟩)
        | lst ds =>
          cases ds with
          | nil => exact h1.elim
          | cons d ds =>
            simp only at h1
            cases e2 : reprAll t (d :: ds) π1 with
            | stuck => rw [e2] at h1; exact h1.elim
            | err c ns xs q =>
              exfalso
              have : ∀ (ds : List D) (π : Pot) c ns xs q, reprAll t ds π ≠ .err c ns xs q := by
                intro ds
                induction ds with
                | nil => intro π c ns xs q z; cases z
                | cons d ds ih =>
                  intro π c ns xs q z
                  simp only [reprAll] at z
                  cases e1 : reprEl t d π with
                  | stuck => rw [e1] at z; cases z
                  | err c ns xs q =>
                    simp only [reprEl] at e1
                    split at e1
                    · split at e1 <;> cases e1
                    · split at e1 <;> cases e1
                  | ok x =>
                    rw [e1] at z
                    simp only [Res.bind_ok] at z
                    cases e3 : reprAll t ds x.2 with
                    | stuck => rw [e3] at z; cases z
                    | err c ns xs q => exact ih _ _ _ _ _ e3
                    | ok y => rw [e3] at z; cases z
              exact this _ _ _ _ _ _ e2
            | ok y =>
              obtain ⟨y, π2⟩ := y
              rw [e2] at h1
              simp only [Res.bind_ok] at h1
              split at h1
              · rename_i hl
                obtain ⟨a, vs, rfl, ha, hpa, rl⟩ := rb_lst2 I1.pm r1'
                have hlen : y.length = vs.length := by
                  have q1 := rl.length
                  have q2 : ∀ (ds : List D) (π : Pot) (y : List Str) (π' : Pot), reprAll t ds π = .ok (y, π') → y.length = ds.length := by
                    intro ds
                    induction ds with
                    | nil => intro π y π' z; simp only [reprAll, Res.ok.injEq, Prod.mk.injEq] at z; rw [← z.1]; rfl
                    | cons d ds ih =>
                      intro π y π' z
                      simp only [reprAll] at z
                      cases e1 : reprEl t d π with
                      | stuck => rw [e1] at z; cases z
                      | err c ns xs q => rw [e1] at z; cases z
                      | ok x =>
                        rw [e1] at z
                        simp only [Res.bind_ok] at z
                        cases e3 : reprAll t ds x.2 with
                        | stuck => rw [e3] at z; cases z
                        | err c ns xs q => rw [e3] at z; cases z
                        | ok y2 =>
                          obtain ⟨y2, π3⟩ := y2
                          rw [e3] at z
                          simp only [Res.bind_ok, Res.ok.injEq, Prod.mk.injEq] at z
                          rw [← z.1, List.length_cons, List.length_cons, ih _ _ _ e3]
                  rw [q2 _ _ _ _ e2, ← q1]
                refine .inl ⟨a, vs, y, rfl, ha, fun z => ?_, hlen, hl, fun od P hP => ?_⟩
                · subst z; cases rl
                · have hne : a ≠ P := fun z => by rw [z, hP] at ha; cases ha
                  have hpP : pot ≠ some P := fun z => by have := p1 P z; rw [hP] at this; cases this
                  refine chain_sem T hpa hpP I1.pm _ vs [] _ π1 y π2 (rl.mono fun b o q => ?_) e2 (by rw [upd_ne hne]; exact upd_same) upd_same (fun b q => ?_) (fun b hb => ?_) fun H' g p' => ?_
                  · obtain ⟨q1, q2⟩ := less_some.mp q
                    have n1 : b ≠ a := fun z => q1 (by simp [z])
                    have n2 : b ≠ P := fun z => by rw [z, hP] at q2; cases q2
                    refine less_some.mpr ⟨fun z => ?_, by rw [upd_ne n2, upd_ne n1]; exact q2⟩
                    rcases List.mem_cons.mp z with z | z
                    · exact n2 z
                    · exact q1 z
                  · have n1 : b ≠ a := fun z => hpa (by rw [← z]; exact q)
                    have n2 : b ≠ P := fun z => hpP (by rw [← z]; exact q)
                    rw [upd_ne n2, upd_ne n1]
                    exact p1 b q
                  · have n2 : b ≠ P := fun z => by
                      obtain ⟨o, q1, _⟩ := I1.al b hb
                      rw [z, hP] at q1; cases q1
                    by_cases n1 : b = a
                    · subst n1
                      exact .of (by rw [upd_ne n2]; exact upd_same) fun xs q => by cases q
                    · obtain ⟨o, q1, q2⟩ := I1.al b hb
                      exact .of (by rw [upd_ne n2, upd_ne n1]; exact q1) q2
                  · refine h1 _ _ (fun b o n q => ?_) (fun b q => ?_) (.str _)
                    · by_cases n1 : b = a
                      · subst n1
                        rw [ha] at q; cases q
                        exact upd_same
                      · have n2 : b ≠ P := fun z => by rw [z, hP] at q; cases q
                        rw [upd_ne n1]
                        exact g b o n n2 (by rw [upd_ne n2, upd_ne n1]; exact q)
                    · rw [upd_ne fun z => hpa (by rw [← z]; exact q)]
                      exact p' b q
              · exact h1.elim
        | _ => exact h1.elim⟩
end
end DL
set_option maxHeartbeats 2000000
namespace DL
open PySem PySem.Spec PyProof.Rows L2
def gS (n : Nat) (b : List D → Rho → Option Rho) : D → Rho → Option Rho := fun d ρ => match d with
  | .lst ds => if ds.length = n then b ds ρ else none
  | .tup ds => if ds.length = n then b ds ρ else none
  | _ => none
section
variable {X : Cx} {E : XK} {Γ : List Md} {pos : Pos} {k : Nat}
@[simp] theorem gS_lst (n : Nat) (b : List D → Rho → Option Rho) (ds : List D) (ρ : Rho) : gS n b (.lst ds) ρ = if ds.length = n then b ds ρ else none := rfl
@[simp] theorem gS_tup (n : Nat) (b : List D → Rho → Option Rho) (ds : List D) (ρ : Rho) : gS n b (.tup ds) ρ = if ds.length = n then b ds ρ else none := rfl
end
end DL
set_option maxHeartbeats 2000000
namespace DL
open PySem PySem.Spec PyProof.Rows L2
section
variable {α β : Type} {a b c fk fv : Ed} {t : Et} {fi : Ei} {s : Fs} {m : Fd} {fg : D → Rho → Option Rho}
theorem pu_fmtI (ha : PX a) : PX (eFmtI a) := fun ρ => by
  unfold eFmtI
  refine pa_bind (ha _) fun x => ?_
  dsimp only
  split
  · apply pa_if
    · exact pa_ok _
    · exact pa_st
  · exact pa_st
theorem pu_fmtRT (ha : PX a) : PX (eFmtRT a) := fun ρ => by
  unfold eFmtRT
  refine pa_bind (ha _) fun x => ?_
  dsimp only
  exact pa_ofO1
inductive PXs : List Ed → Prop
  | nil : PXs []
  | cons {a : Ed} {r : List Ed} : PX a → PXs r → PXs (a :: r)
theorem pu_join : ∀ {fs : List Ed} {acc : Str}, PXs fs → PX (joinD fs acc)
  | [], acc, _ => fun ρ => pa_ok _
  | f :: fs, acc, .cons h r => fun ρ => by
    unfold joinD
    refine pa_bind (h _) fun x => ?_
    dsimp only
    split
    · apply pa_if
      · exact pu_join r ρ
      · exact pa_st
    · exact pa_st
inductive PMs : List (Str × Fd) → Prop
  | nil : PMs []
  | cons {c : Str} {m : Fd} {r : List (Str × Fd)} : PF m → PMs r → PMs ((c, m) :: r)
theorem meOf_pf : ∀ {t : RepT} {d : D} {m : Fd}, PMs t → meOf t d = some m → PF m
  | [], _, _, _, e => by cases e
  | (c, m') :: t, d, m, .cons h r, e => by
    simp only [meOf] at e
    split at e
    · cases e
      exact h
    · exact meOf_pf r e
theorem pa_reprEl {t : RepT} (h : PMs t) (d : D) : PA (reprEl t d) := fun π π' => by
  unfold reprEl
  split
  · rename_i m e
    have := meOf_pf h e [d] π π'
    rw [this]
    cases m [d] π with
    | ok x =>
      obtain ⟨x, q⟩ := x
      cases x <;> rfl
    | err c ns xs q => rfl
    | stuck => rfl
  · split <;> rfl
theorem pa_reprAll {t : RepT} (h : PMs t) : ∀ ds : List D, PA (reprAll t ds)
  | [] => pa_ok _
  | d :: ds => by
    show PA fun π => (reprEl t d π).bind fun x => (reprAll t ds x.2).bind fun y => .ok (x.1 :: y.1, y.2)
    refine pa_bind (pa_reprEl h d) fun x => ?_
    dsimp only
    refine pa_bind (pa_reprAll h ds) fun y => ?_
    dsimp only
    exact pa_ok _
theorem pa_rprA {t : RepT} (h : PMs t) (d : D) : PA (rprA t d) := by
  unfold rprA
  split
  · rename_i m e
    intro π π'
    have := meOf_pf h e [d] π π'
    dsimp only
    rw [this]
    cases m [d] π with
    | ok x =>
      obtain ⟨x, q⟩ := x
      cases x <;> rfl
    | err c ns xs q => rfl
    | stuck => rfl
  · split
    · exact pa_ok _
    · split
      · refine pa_bind (pa_reprAll h _) fun y => ?_
        dsimp only
        apply pa_if
        · exact pa_ok _
        · exact pa_st
      · split
        · exact pa_ok _
        · exact pa_st
      · exact pa_st
end
end DL
set_option maxHeartbeats 2000000
namespace DL
open PySem PySem.Spec PyProof.Rows L2
def rOwnY (mg : Str → Option Value) (K : PySem.W.Frag) (E : XK) (neg : Bool) (c : Str) (m : Fd) : R2 := fun x y H Q =>
  ∃ C a da fa n, x = .ref a ∧ mg c = some (.ref C) ∧ H a = some (.ins C da fa) ∧ TyY K H y (.type n) ∧ PySem.W.kitOne K (.type n) (.ref C) = some false ∧ SpD mg K [.f, .f] .f m [x, y] H (fun v H' => ∃ t, v = .bl t ∧ Q (.bl (if neg then !t else t)) H') E
theorem notFirst_ty {K : PySem.W.Frag} {C : Addr} {n : String} (h : PySem.W.kitOne K (.type n) (.ref C) = some false) : PySem.W.notFirst K C (.type n) = true := by
  unfold PySem.W.kitOne at h
  split at h
  · cases h
  · unfold PySem.W.kitCls at h
    dsimp only at h
    split at h
    · unfold PySem.W.notFirst
      rw [h]
      simp
    · cases h
section
variable {X : Cx} {E : XK} {Γ : List Md} {pos : Pos} {k j : Nat} {a b : Expr} {ta tb : TE} {fa fb : Ed} {c qual : Str} {st : Stmt} {ps : List Str} {m : Fd}
theorem op_ownY {neg : Bool} (F : DMe X.prog X.w X.K X.mg X.base j c "__eq__" qual st ps [.f] .f m) (q : EqC X.K X.mg c) (o : XOk X E k)
    (hb : ∀ (kV doc pm : Value) (an : Option Addr) (cdv ct : Value) (us : List Value), us.length = ps.length → bindArgs (PySem.W.fnOf "__eq__" qual (defArgs st) (defBody st) (defScope st) .none kV doc pm an cdv ct) ⟨us, []⟩ = pure (ps.zip us))
    (hj : j + 1 ≤ k := by decide) : OpR X (compareOp (cmpN neg)) (rOwnY X.mg X.K E neg c m) := by
  intro pins s σ H x y v u Q I rx ry hq
  obtain ⟨C, a, da, fa, n, rfl, mC, ha, ty, kt, hsp⟩ := hq
  obtain ⟨C', f, fd, h0, h1, h2, h3, h4⟩ := F.ex
  obtain ⟨C'', e0, hne, hsub⟩ := q.ex
  rw [mC] at h0 e0
  cases h0
  cases e0
  cases rx
  obtain ⟨mA, J, _⟩ := ins_get I.hok ha
  obtain ⟨od, J, _⟩ := J.look
  obtain ⟨mm, hF⟩ := I.fr
  obtain ⟨P, Z, p, _⟩ := kitY_of I ry ty
  have lk := Z.ty (model X.prog X.w) _ I.kIn p
  have hn := notFirst_ty kt
  have hl : [Value.ref a, u].length = ps.length := by
    have e := h4.len _ _ _ _ hsp
    simpa using e
  have bd : BindsTo s fd ⟨[.ref a, u], ([] : List Str).zip ([] : List Value)⟩ (ps.zip ([.ref a, u] ++ [])) := by
    obtain ⟨oc, od, kV, doc, pm, an, cdv, ct, osl, rfl, lk, hcd⟩ := h3.ex
    rw [List.append_nil]
    exact .of_eq (hb kV doc pm an cdv ct _ hl)
  have r2 : Vals [V.ref a, y] ([Value.ref a, u] ++ []) := .cons rfl (.cons ry .nil)
  cases neg with
  | false =>
    show wpAny _ X.A (richCompare .Eq (.ref a) u) _ _ _
    refine PySem.W.cmp_K (op := .Eq) (tb := .type n) o.u0 hF I.ok.mod.kin J lk hn h2.at_ h2.fn ?_
    refine wpAny_mono (run_go (args := ⟨[.ref a, u], []⟩) (kn := []) (ws := []) h4 o (Nat.le_of_succ_le hj) bd I r2 hsp) (fun w s' z => ?_) fun _ _ z => z
    obtain ⟨z, H', I', rz, t, rfl, ez⟩ := z
    cases rz
    exact ⟨.bl t, H', I', rfl, ez⟩
  | true =>
    show wpAny _ X.A (richCompare .NotEq (.ref a) u) _ _ _
    refine ne_K (tb := .type n) o.u1 hF I.ok.mod.kin J lk hn h2.at_ h2.fn hne hsub ?_
    have e0 : Env0 X.prog X.w X.K X.mg X.base X.A.in1 X.stack s H := by
      have e := I.env0
      exact ⟨e.frames, e.mod, e.bs, e.bsz, e.funs, e.frf, e.hok, e.bare⟩
    refine wpAny_call (codeAny_mono (h4.run X.A.in1 X.stack s H _ _ _ _ E ((o.room.mono hj).in1) o.gd e0 bd r2 hsp) fun res s' z => ?_)
    match res, z with
    | .error e, z => exact o.pass pins σ H s e s' I z
    | .ok (.ret w), z =>
      obtain ⟨z, H', I', rz, t, rfl, ez⟩ := I.after z
      cases rz
      exact ⟨t, rfl, .bl (!t), H', I', rfl, ez⟩
end
def cmpY (neg : Bool) (g : D → D → Option D) : List (Str × Fd) → D → D → Pot → Res (D × Pot)
  | [], d, e, π => (ofO (g d e)).bind fun z => .ok (z, π)
  | (c, m) :: cs, d, e, π => if (isInO c d && (isInO c e || (tyName e).isSome)) = true then (m [d, e] π).bind fun z => match z.1 with
    | .bl t => .ok (.bl (if neg then !t else t), z.2)
    | _ => .stuck else cmpY neg g cs d e π
def eCmpY (neg : Bool) (g : D → D → Option D) (cs : List (Str × Fd)) (a b : Ed) : Ed := fun ρ π => (a ρ π).bind fun x => (b ρ x.2).bind fun y => cmpY neg g cs x.1 y.1 y.2
def rOwnsY (mg : Str → Option Value) (K : PySem.W.Frag) (E : XK) (neg : Bool) (r0 : R2) : List (Str × Fd) → R2
  | [] => r0
  | (c, m) :: cs => fun x y H Q => (rOwn mg K E neg c m x y H Q ∨ rOwnY mg K E neg c m x y H Q) ∨ rOwnsY mg K E neg r0 cs x y H Q
section
variable {X : Cx} {E : XK} {Γ : List Md} {pos : Pos} {k j : Nat} {a b : Expr} {ta tb : TE} {fa fb : Ed} {c qual : Str} {st : Stmt} {ps : List Str} {m : Fd}
inductive OwnsY (X : Cx) (E : XK) (neg : Bool) : List (Str × Fd) → Prop where
  | nil : OwnsY X E neg []
  | cons {c : Str} {m : Fd} {cs : List (Str × Fd)} {cl : List Str} : OpR X (compareOp (cmpN neg)) (rOwn X.mg X.K E neg c m) → OpR X (compareOp (cmpN neg)) (rOwnY X.mg X.K E neg c m) → ClsI X.K X.mg c cl → OwnsY X E neg cs → OwnsY X E neg ((c, m) :: cs)
theorem op_ownsY {neg : Bool} {r0 : R2} (h0 : OpR X (compareOp (cmpN neg)) r0) : ∀ {cs : List (Str × Fd)}, OwnsY X E neg cs → OpR X (compareOp (cmpN neg)) (rOwnsY X.mg X.K E neg r0 cs)
  | _, .nil => h0
  | _, .cons h h' _ t => (h.or h').or (op_ownsY h0 t)
theorem sem_cmpY {neg : Bool} {r0 : R2} {g : D → D → Option D} (hg : SemOp X.mg X.K r0 .f g) {cs : List (Str × Fd)} (hs : OwnsY X E neg cs) (ha : SemE X.mg X.K E .f Γ ta fa) (hb : SemE X.mg X.K E .f Γ tb fb) :
    SemE X.mg X.K E .f Γ (tOp (rOwnsY X.mg X.K E neg r0 cs) ta tb) (eCmpY neg g cs fa fb) := by
  intro pot M σ H ρ π I p Q h
  refine Post.seq (r' := .f) (te := ta σ H) h p (fun Q' hq => ha pot M σ H ρ π I p Q' hq) fun d π1 v H1 _ g1 p1 r1 h1 => ?_
  refine Post.seq (r' := .f) (te := tb σ H1) h1 p1 (fun Q' hq => hb pot M σ H1 ρ π1 (I.grow g1 p1) p1 Q' hq) fun e π2 w H2 _ g2 p2 r2' h2 => ?_
  have I1 := I.grow g1 p1
  have I2 := I1.grow g2 p2
  have r1' : Rp X.mg X.K (less H2 M) v d := Rp.mono (less_grow I.pm g2) r1
  have r2 : Rp X.mg X.K (less H2 M) w e := r2'
  dsimp only at h2
  clear h h1
  induction hs with
  | nil =>
    unfold cmpY at h2
    cases hz : g d e with
    | none => rw [hz] at h2; exact h2.elim
    | some z =>
      rw [hz] at h2
      simp only [ofO_some, Res.bind_ok] at h2
      exact hg pot M H2 v w d e z I2.al I.pm (fun a e => p2.has a e) (.inl r1') (.inl r2) hz Q fun x H' sm rr => h2 x H' (.of_same sm) (p2.same sm) rr
  | @cons c m cs cl _ _ hC _ ih =>
    unfold cmpY at h2
    by_cases hc : (isInO c d && (isInO c e || (tyName e).isSome)) = true
    · rw [if_pos hc] at h2
      refine .inl ?_
      obtain ⟨hd, he⟩ := Bool.and_eq_true_iff.mp hc
      have fin : SpD X.mg X.K [.f, .f] .f m [v, w] H2 (fun v H' => ∃ t, v = .bl t ∧ Q (.bl (if neg then !t else t)) H') E := by
        refine ⟨rfl, pot, M, _, π2, .cons r1' (.cons r2 .nil), I2.al, I.pm, p2, ?_⟩
        cases hz : m [d, e] π2 with
        | err c ns xs π' => rw [hz] at h2; exact h2
        | stuck => rw [hz] at h2; exact h2.elim
        | ok z =>
          obtain ⟨z, π3⟩ := z
          rw [hz] at h2
          simp only [Res.bind_ok] at h2
          intro x H' gr pp rr
          cases z with
          | bl t =>
            have ex : x = .bl t := rb_bl' (pot := pot) (M := M) (.inl rr)
            subst ex
            exact ⟨t, rfl, h2 (.bl (if neg then !t else t)) H' gr pp (.bl _)⟩
          | _ => exact h2.elim
      cases d with
      | ins c1 n1 x1 =>
        simp only [isInO, decide_eq_true_eq] at hd
        subst hd
        obtain ⟨a, C, da, fa, rfl, mC, hA, _, _⟩ := rb_ins (.inl r1' : Rb X.mg X.K pot M H2 v _)
        cases et : tyName e with
        | some n =>
          obtain ⟨C', mC', hk, _⟩ := hC.ex
          rw [mC] at mC'
          cases mC'
          exact .inr ⟨C, a, da, fa, n, rfl, mC, hA, rb_ty (.inl r2 : Rb X.mg X.K pot M H2 w _) et, hk n (tyName_mem et), fin⟩
        | none =>
          rw [et] at he
          cases e with
          | ins c2 n2 x2 =>
            simp only [isInO, Option.isSome_none, Bool.or_false, decide_eq_true_eq] at he
            subst he
            obtain ⟨b, C', db, fb, rfl, mC', hB, _, _⟩ := rb_ins (.inl r2 : Rb X.mg X.K pot M H2 w _)
            rw [mC] at mC'
            cases mC'
            exact .inl ⟨C, a, b, da, db, fa, fb, rfl, rfl, mC, hA, hB, fin⟩
          | _ => cases et
      | _ => cases hd
    · rw [if_neg hc] at h2
      exact .inr (ih h2)
theorem de_cmpY {neg : Bool} {r0 : R2} {g : D → D → Option D} (cs : List (Str × Fd)) (o : OpR X (compareOp (cmpN neg)) r0 ∧ SemOp X.mg X.K r0 .f g) (hs : OwnsY X E neg cs) (ha : DE X E .f Γ a ta fa) (hb : DE X E .f Γ b tb fb) (hm : behindInMarks (cmpN neg) b = false := by rfl) :
    DE X E .f Γ (.Compare a [cmpN neg] [b] pos) (tOp (rOwnsY X.mg X.K E neg r0 cs) ta tb) (eCmpY neg g cs fa fb) :=
  ⟨pe_cmpR (op_ownsY o.1 hs) ha.pe hb.pe hm, sem_cmpY o.2 hs ha.sem hb.sem⟩
theorem de_eqY {r0 : R2} {g : D → D → Option D} (cs : List (Str × Fd)) (o : OpR X (compareOp .Eq) r0 ∧ SemOp X.mg X.K r0 .f g) (hs : OwnsY X E false cs) (ha : DE X E .f Γ a ta fa) (hb : DE X E .f Γ b tb fb) (hm : behindInMarks .Eq b = false := by rfl) :
    DE X E .f Γ (.Compare a [.Eq] [b] pos) (tOp (rOwnsY X.mg X.K E false r0 cs) ta tb) (eCmpY false g cs fa fb) := de_cmpY (neg := false) cs o hs ha hb hm
theorem de_neY {r0 : R2} {g : D → D → Option D} (cs : List (Str × Fd)) (o : OpR X (compareOp .NotEq) r0 ∧ SemOp X.mg X.K r0 .f g) (hs : OwnsY X E true cs) (ha : DE X E .f Γ a ta fa) (hb : DE X E .f Γ b tb fb) (hm : behindInMarks .NotEq b = false := by rfl) :
    DE X E .f Γ (.Compare a [.NotEq] [b] pos) (tOp (rOwnsY X.mg X.K E true r0 cs) ta tb) (eCmpY true g cs fa fb) := de_cmpY (neg := true) cs o hs ha hb hm
end
@[simp] theorem eCmpY_ap (neg : Bool) (g : D → D → Option D) (cs : List (Str × Fd)) (a b : Ed) (ρ : Rho) (π : Pot) : eCmpY neg g cs a b ρ π = (a ρ π).bind fun x => (b ρ x.2).bind fun y => cmpY neg g cs x.1 y.1 y.2 := rfl
theorem cmpY_in {neg : Bool} {g : D → D → Option D} {c : Str} {m : Fd} {cs : List (Str × Fd)} {d e : D} {π π' : Pot} {t : Bool} (hd : isInO c d = true) (he : (isInO c e || (tyName e).isSome) = true) (h : m [d, e] π = .ok (.bl t, π')) : cmpY neg g ((c, m) :: cs) d e π = .ok (.bl (if neg then !t else t), π') := by
  unfold cmpY
  rw [hd, he, h]
  rfl
end DL
set_option maxHeartbeats 4000000
namespace DL
open PySem PySem.Spec PyProof.Rows L2
section
variable {prog : Program} {w : World} {A : Around} {E : Value → Shared → Prop} {s : Shared} {K : Type} [DecidableEq K] {knd : HeapKind prog w K}
inductive HitsT {K : Type} (prog : Program) (w : World) (A : Around) (s : Shared) (ys : List (K × Addr × Value)) : List (K × Addr × Value) → Bool → Prop
  | nil : HitsT prog w A s ys [] true
  | miss {k : K} {q : Addr × Value} {r : List (K × Addr × Value)} : (∀ (j : Nat) (p : Addr × Value), ys[j]? ≠ some (k, p)) → HitsT prog w A s ys ((k, q) :: r) false
  | hit {k : K} {q p : Addr × Value} {r : List (K × Addr × Value)} {e b : Bool} {j : Nat} : ys[j]? = some (k, p) → SeqAt.EqP prog w A s q.2 p.2 e → HitsT prog w A s ys r b → HitsT prog w A s ys ((k, q) :: r) (e && b)
theorem HitsT.inv {ys : List (K × Addr × Value)} {k : K} {q : Addr × Value} {r : List (K × Addr × Value)} {b : Bool} (h : HitsT prog w A s ys ((k, q) :: r) b) :
    ((∀ (j : Nat) (p : Addr × Value), ys[j]? ≠ some (k, p)) ∧ b = false) ∨ ∃ (p : Addr × Value) (e b' : Bool) (j : Nat), ys[j]? = some (k, p) ∧ SeqAt.EqP prog w A s q.2 p.2 e ∧ HitsT prog w A s ys r b' ∧ b = (e && b') := by
  cases h with
  | miss hn => exact .inl ⟨hn, rfl⟩
  | hit hy he hr => exact .inr ⟨_, _, _, _, hy, he, hr, rfl⟩
theorem samePairsG {nm : String} {a b : Addr} {xs ys : List (K × Addr × Value)} {r : Bool} {Q : Bool → Shared → Prop} (ha : (a == sysModules) = false) (hb : (b == sysModules) = false) (hu : knd.room A)
    (da : s.heap.DictOfH knd a xs) (db : s.heap.DictOfH knd b ys) (hits : HitsT prog w A s ys xs r) (h : Q (xs.length == ys.length && r) s) :
    wpAny (model prog w) A (Builtin.Dict.samePairs nm a b) Q E s := by
  obtain ⟨oa, es, ep, hoa, _, hda, hea, hka, hna⟩ := da
  obtain ⟨ob, es', ep', hob, _, hdb, heb, hkb, hnb⟩ := db
  have hla : xs.length = es.size := (size_of_entries hea).symm
  have hlb : ys.length = es'.size := (size_of_entries heb).symm
  rw [hla, hlb] at h
  unfold Builtin.Dict.samePairs Builtin.Dict.showsAll
  rw [if_neg (show ¬ (a == sysModules) = true by rw [ha]; exact Bool.false_ne_true), if_neg (show ¬ (b == sysModules) = true by rw [hb]; exact Bool.false_ne_true)]
  refine wpAny_bind (wpAny_pure (wpAny_bind (wpAny_pure ?_)))
  refine wpAny_bind (wpAny_dictEntries hoa hda ?_)
  dsimp only
  refine wpAny_bind (wpAny_dictEntries hob hdb ?_)
  by_cases hsz : es.size = es'.size
  case neg =>
    rw [if_pos (by simpa using hsz)]
    have hbf : (es.size == es'.size) = false := by simpa using hsz
    rw [hbf, Bool.false_and] at h
    exact wpAny_bind (wpAny_rule (wpAny_pure h))
  case pos =>
    have h' : Q r s := by simpa [hsz] using h
    rw [if_neg (by rw [hsz]; simp)]
    refine wpAny_bind (wpAny_dictEpoch hoa hda ?_)
    refine wpAny_bind ?_
    rw [Std.Legacy.Range.forIn_eq_forIn_range']
    simp only [Std.Legacy.Range.size, Nat.sub_zero, Nat.add_sub_cancel, Nat.div_one]
    refine wpAny_forIn_list _
      (fun rest q s' => s' = s ∧ q = (none, ()) ∧ ∃ i, rest = List.range' i (es.size - i) ∧ i ≤ es.size ∧ HitsT prog w A s ys (xs.drop i) r)
      _ ?_ ?_ _ _ ⟨rfl, rfl, 0, by simp, Nat.zero_le _, by simpa using hits⟩
    · rintro x rest q s' ⟨rfl, rfl, i, hr, hi, hpre⟩
      have hlt : i < es.size := by
        rcases Nat.lt_or_ge i es.size with h | h
        · exact h
        · rw [Nat.sub_eq_zero_of_le h] at hr; simp at hr
      obtain ⟨rfl, hrest⟩ : x = i ∧ rest = List.range' (i + 1) (es.size - (i + 1)) := by
        have e : es.size - i = (es.size - (i + 1)) + 1 := by omega
        rw [e, List.range'_succ] at hr
        injection hr with h1 h2
        exact ⟨h1, h2⟩
      refine wpAny_bind (wpAny_dictEntries hoa hda ?_)
      have hx : x < xs.length := by rw [hla]; exact hlt
      have ea : es[x]? = some (entryOfKey knd xs[x]) := by rw [entry_at hea x, List.getElem?_eq_getElem hx]; rfl
      rw [ea]
      have hdrop : xs.drop x = (xs[x].1, xs[x].2) :: xs.drop (x + 1) := List.drop_eq_getElem_cons hx
      rw [hdrop] at hpre
      show wpAny _ _ (holding [Value.ref xs[x].2.1, xs[x].2.2] _ >>= _) _ _ _
      have key := hka xs[x] (List.getElem_mem hx)
      refine wpAny_bind (wpAny_holding (wpAny_bind (wpAny_dictFind_heap (k := xs[x].1) hu key hob hdb heb hkb hnb (fun hn => ?_) (fun j p hj => ?_))))
      · rcases hpre.inv with ⟨_, er⟩ | ⟨p, _, _, j, hy, _⟩
        · rw [er] at h'
          refine wpAny_pure ?_
          show wpAny _ _ (if (!false) = true then _ else _) _ _ _
          rw [if_pos (by decide)]
          exact wpAny_pure (wpAny_pure h')
        · exact absurd hy (hn j p)
      · rcases hpre.inv with ⟨hn, _⟩ | ⟨p', e, b', j', hy, he, hrr, er⟩
        · exact absurd hj (hn j p)
        · have ej := idxH_unique hnb hy hj
          subst ej
          have ep : p' = p := by
            rw [hy] at hj
            simp only [Option.some.injEq, Prod.mk.injEq, true_and] at hj
            exact hj
          subst ep
          refine wpAny_bind (wpAny_dictEntries hob hdb ?_)
          have eb : es'[j']? = some (entryOfKey knd (xs[x].1, p')) := by rw [entry_at heb j', hy]; rfl
          rw [eb]
          refine wpAny_holding (he _ _ ?_)
          cases e with
          | false =>
            rw [er, Bool.false_and] at h'
            show wpAny _ _ (if (!false) = true then _ else _) _ _ _
            rw [if_pos (by decide)]
            exact wpAny_pure (wpAny_pure h')
          | true =>
            rw [Bool.true_and] at er
            rw [← er] at hrr
            show wpAny _ _ (if (!true) = true then _ else _) _ _ _
            rw [if_neg (by decide)]
            refine wpAny_bind (wpAny_dictEpoch hoa hda ?_)
            rw [if_neg (by simp)]
            exact wpAny_pure ⟨rfl, rfl, x + 1, hrest, hlt, hrr⟩
    · rintro q s' ⟨rfl, rfl, i, hr, hi, hpre⟩
      have hin : i = es.size := by
        rcases Nat.lt_or_ge i es.size with h | h
        · have e : es.size - i = (es.size - (i + 1)) + 1 := by omega
          rw [e, List.range'_succ] at hr; exact nomatch hr
        · exact Nat.le_antisymm hi h
      refine wpAny_pure ?_
      rw [hin, ← hla, List.drop_length] at hpre
      cases hpre
      exact h'
theorem rcG_dicts {a b : Addr} {xs ys : List (K × Addr × Value)} {r : Bool} (ha : (a == sysModules) = false) (hb : (b == sysModules) = false) (hk : knd.room A.in1)
    (da : s.heap.DictOfH knd a xs) (db : s.heap.DictOfH knd b ys) (hu : A.units < cLine) (hits : HitsT prog w A.in1 s ys xs r) (Q : Value → Shared → Prop) (h : Q (.bool (xs.length == ys.length && r)) s) :
    wpAny (model prog w) A (richCompare .Eq (.ref a) (.ref b)) Q E s := by
  refine wpAny_richCompare_same_room (op := .Eq) da.typeIs db.typeIs PySem.F.slot_dict_eq (wpAny_call_entry PySem.F.slot_dict_eq da.typeIs PySem.F.entry_dict_eq ?_ (PySem.F.args_dict_eq_2 _ _)) hu
  show wpAny _ _ (Builtin.Dict.dictSlotArgs "__eq__" ⟨[.ref a, .ref b], []⟩ >>= _) _ _ s
  refine wpAny_bind ?_
  unfold Builtin.Dict.dictSlotArgs
  refine wpAny_bind (wpAny_notOrdered_dict da.typeIs ?_)
  show wpAny _ _ (pure (Value.ref a, Value.ref b)) _ _ s
  refine wpAny_pure ?_
  refine wpAny_bind (wpAny_isInstance (T := "dict") db.typeIs PySem.F.sub_dict_dict ?_)
  simp only [Bool.not_true, Bool.false_eq_true, if_false]
  refine wpAny_bind (wpAny_pure (wpAny_bind (wpAny_pure ?_)))
  refine wpAny_bind (samePairsG ha hb hk da db hits ?_)
  refine wpAny_pure ⟨_, rfl, ?_, ?_⟩
  · exact fun x => nomatch x
  · simpa using h
end
/-- pairs of one dict found in another -/
def eqKV (ys : List (List Key × Int)) : List (List Key × Int) → Bool
  | [] => true
  | (k, n) :: r => match ys.find? (fun y => decide (y.1 = k)) with
    | some y => decide (n = y.2) && eqKV ys r
    | none => false
def unT : List DKey → List (List Key)
  | [] => []
  | .inr k :: r => k :: unT r
  | _ :: r => unT r
theorem unT_map (l : List (List Key)) : unT (l.map fun k => (.inr k : DKey)) = l := by
  induction l with
  | nil => rfl
  | cons a l ih => simp only [List.map_cons, unT, ih]
def opEqTG : D → D → Option D
  | .dic ks vs, .dic ks' vs' => (asInts vs).bind fun ns => (asInts vs').bind fun ns' => if isTd ks = true ∧ isTd ks' = true then some (.bl (ks.length == ks'.length && eqKV ((unT ks').zip ns') ((unT ks).zip ns))) else none
  | _, _ => none
def rDicTG : R2 := fun x y H Q => ∃ (a b : Addr) (kvs kvs' : List (List Key × Int)), x = .ref a ∧ y = .ref b ∧ Rd H a (.dT (kvs.map fun q => (q.1, .int q.2))) ∧ Rd H b (.dT (kvs'.map fun q => (q.1, .int q.2))) ∧ Q (.bl (kvs.length == kvs'.length && eqKV kvs' kvs)) H
section
variable {X : Cx} {E : XK} {k : Nat}
theorem KT.get {H : Hp} {kvs : List (List Key × V)} {xs : List (List Key × Addr × Value)} (r : KT H kvs xs) {j : Nat} {k : List Key} {v : V} (h : kvs[j]? = some (k, v)) : ∃ p, xs[j]? = some (k, p) ∧ RelV v p.2 := by
  obtain ⟨hl, g⟩ := KT.at_ r
  obtain ⟨h1, e⟩ := List.getElem?_eq_some_iff.mp h
  have h2 : j < xs.length := by rw [← hl]; exact h1
  obtain ⟨g1, g2⟩ := g j h1 h2
  rw [e] at g1 g2
  exact ⟨xs[j].2, by rw [List.getElem?_eq_getElem h2]; exact congrArg some (Prod.ext g1.symm rfl), g2⟩
theorem hits_of {prog : Program} {w : World} {A : Around} {s : Shared} {H : Hp} {kvs' : List (List Key × Int)} {ys : List (List Key × Addr × Value)} (rb : KT H (kvs'.map fun q => (q.1, V.int q.2)) ys) :
    ∀ {kvs : List (List Key × Int)} {xs : List (List Key × Addr × Value)}, KT H (kvs.map fun q => (q.1, V.int q.2)) xs → HitsT prog w A s ys xs (eqKV kvs' kvs)
  | [], xs, r => by
    cases r
    exact .nil
  | (k, n) :: kvs, xs, r => by
    cases r with
    | @cons _ _ _ xs' hh rr =>
      rename_i x
      obtain ⟨x1, x2⟩ := x
      have e1 : k = x1 := hh.1
      have e2 : RelV (.int n) x2.2 := hh.2.2
      subst e1
      have ih := hits_of (prog := prog) (w := w) (A := A) (s := s) rb rr
      unfold eqKV
      cases hf : kvs'.find? (fun y => decide (y.1 = k)) with
      | none =>
        refine .miss fun j p hj => ?_
        obtain ⟨hl, g⟩ := KT.at_ rb
        obtain ⟨h1, e⟩ := List.getElem?_eq_some_iff.mp hj
        have h2 : j < (kvs'.map fun q => (q.1, V.int q.2)).length := by rw [hl]; exact h1
        obtain ⟨g1, _⟩ := g j h2 h1
        rw [e] at g1
        have h3 : j < kvs'.length := by simpa using h2
        have := List.find?_eq_none.mp hf kvs'[j] (List.getElem_mem h3)
        simp at g1
        simp [g1] at this
      | some y =>
        have hm := List.mem_of_find?_eq_some hf
        have hk := List.find?_some hf
        rw [decide_eq_true_eq] at hk
        obtain ⟨j, hj, e⟩ := List.mem_iff_getElem.mp hm
        obtain ⟨p, hp, rv⟩ := KT.get rb (j := j) (k := k) (v := .int y.2) (by rw [List.getElem?_map, List.getElem?_eq_getElem hj, e, ← hk]; rfl)
        obtain ⟨t, e3⟩ := (show ∃ t, x2.2 = Value.int n t from e2)
        obtain ⟨t', e4⟩ := (show ∃ t, p.2 = Value.int y.2 t from rv)
        refine .hit hp ?_ ih
        rw [e3, e4]
        exact ((SeqAt.EqAt.int_int n t y.2 t').cast (by first | rfl | (by_cases h : n = y.2 <;> simp [h]))).eqP
theorem op_dicTG (hu : X.A.units + 1 < cLine) : OpR X (compareOp .Eq) rDicTG := by
  intro pins s σ H x y v u Q I rx ry h
  obtain ⟨a, b, kvs, kvs', rfl, rfl, h1, h2, q⟩ := h
  cases rx
  cases ry
  obtain ⟨_, sa, xs, ra, da⟩ := dt_rd I.hok h1
  obtain ⟨_, sb, ys, rb, db⟩ := dt_rd I.hok h2
  have la := (KT.at_ ra).1
  have lb := (KT.at_ rb).1
  rw [List.length_map] at la lb
  rw [la, lb] at q
  show wpAny _ X.A (richCompare .Eq (.ref a) (.ref b)) _ _ _
  exact rcG_dicts sa sb (show X.A.in1.units < cLine from hu) da db (Nat.lt_of_succ_lt hu) (hits_of rb ra) _ ⟨.bl _, H, I, rfl, q⟩
theorem zip_back : ∀ {kvs : List (List Key × V)} {ns : List Int}, kvs.map (·.2) = ns.map V.int → kvs = ((kvs.map (·.1)).zip ns).map fun q => (q.1, V.int q.2)
  | [], [], _ => rfl
  | [], _ :: _, h => by simp at h
  | _ :: _, [], h => by simp at h
  | (k, v) :: kvs, n :: ns, h => by
    simp only [List.map_cons, List.cons.injEq] at h
    simp only [List.map_cons, List.zip_cons_cons, ← zip_back h.2]
    rw [show v = V.int n from h.1]
theorem o_eqTG (x0 : XOk X E k) : OpOk X (compareOp .Eq) rDicTG .f opEqTG := ⟨op_dicTG x0.u1, fun pot M H x y d e z al pm ph rx ry hz Q q => by
  cases d with
  | dic ks vs =>
    cases e with
    | dic ks' vs' =>
      simp only [opEqTG, Option.bind_eq_some_iff] at hz
      obtain ⟨ns, e1, ns', e2, hz⟩ := hz
      split at hz
      · rename_i hc
        obtain ⟨hk, hk'⟩ := hc
        cases hz
        obtain ⟨p, kvs, rfl, h1, k1, r1⟩ := rb_dicT hk rx
        obtain ⟨p', kvs', rfl, h2, k2, r2⟩ := rb_dicT hk' ry
        rw [asInts_eq e1] at r1
        rw [asInts_eq e2] at r2
        have v1 := zip_back (RpL.iz r1)
        have v2 := zip_back (RpL.iz r2)
        have u1 : unT ks = kvs.map (·.1) := by
          have : ks = (kvs.map (·.1)).map fun k => (.inr k : DKey) := by rw [k1, List.map_map]; rfl
          rw [this, unT_map]
        have u2 : unT ks' = kvs'.map (·.1) := by
          have : ks' = (kvs'.map (·.1)).map fun k => (.inr k : DKey) := by rw [k2, List.map_map]; rfl
          rw [this, unT_map]
        have l1 : ((unT ks).zip ns).length = ks.length := by
          have a := congrArg List.length v1
          rw [List.length_map, ← u1] at a
          rw [← a, k1, List.length_map]
        have l2 : ((unT ks').zip ns').length = ks'.length := by
          have a := congrArg List.length v2
          rw [List.length_map, ← u2] at a
          rw [← a, k2, List.length_map]
        rw [← u1] at v1
        rw [← u2] at v2
        rw [v1] at h1
        rw [v2] at h2
        refine ⟨p, p', _, _, rfl, rfl, h1, h2, ?_⟩
        rw [l1, l2]
        exact q _ H (Same.refl H) (.bl _)
      · cases hz
    | _ => cases hz
  | _ => cases hz⟩
end
end DL
set_option maxHeartbeats 4000000
namespace LW
open PySem PySem.Spec PyProof.Rows L2 DL
def topS (i : Nat) : Stmt := PySem.Challenge.pw_pointrows_k19_any_value_as_triple_or_for.main.body.getD i (.Pass ⟨0, 0, 0, 0⟩)
abbrev s_i_Told : Stmt := inClass (topS 24) 0
def f_i_Told : Fi := (iFld "told_degree" (eVar 1) (iCk "Told" (iFld "told_terms" (eVar 2) (iCk "Told" iNil))))
def m_i_Told : Fd := runI 3 "Told" f_i_Told
abbrev s_p_is_integer : Stmt := topS 12
def f_p_is_integer : Fs := (sRet (eAnd (eUn (fIsA ["Told", "Form"] ["int"]) (eVar 0)) (eNot (eUn (fIsA ["Told", "Form"] ["bool"]) (eVar 0)))))
def m_p_is_integer : Fd := runD 1 .f f_p_is_integer
abbrev s_p_is_count : Stmt := topS 13
def f_p_is_count : Fs := (sRet (eAnd (eGo m_p_is_integer (aCons (eVar 0) aNil)) (eBin (cmpI fun i j => decide (j ≤ i)) (eVar 0) (eC (.int 0)))))
def m_p_is_count : Fd := runD 1 .f f_p_is_count
abbrev s_p_want_degree : Stmt := topS 16
def f_p_want_degree : Fs := (sIf (tOrD (tNotD (tOf (eGo m_p_is_count (aCons (eVar 0) aNil)))) (tOrD (tBl (eBin (cmpI fun i j => decide (i < j)) (eVar 0) (eVar 2))) (tBl (eBin (cmpI fun i j => decide (j < i)) (eVar 0) (eVar 1)))))
    sStuck sNext)
def m_p_want_degree : Fd := runD 3 .f f_p_want_degree
abbrev s_p_is_triple : Stmt := topS 20
def f_p_is_triple_e1 : Ed := (eGo m_p_is_count (aCons (eVar 1) aNil))
theorem f_p_is_triple_e1_ap (ρ : Rho) (π : Pot) : f_p_is_triple_e1 ρ π = (eGo m_p_is_count (aCons (eVar 1) aNil)) ρ π := rfl
def f_p_is_triple : Fs := (sRet (eAnd (eUn (fIsA ["Told", "Form"] ["tuple"]) (eVar 0)) (eAnd (eBin opEq (eApp fLen (aCons (eVar 0) aNil)) (eC (.int 3))) (eApp fAll (aCons (eLC (iVal (eVar 0)) (gN 1) tTrue f_p_is_triple_e1 [1])
    aNil)))))
def m_p_is_triple : Fd := runD 2 .f f_p_is_triple
abbrev s_p_are_terms : Stmt := topS 25
def f_p_are_terms_b1 : Fs := (sSeq (sIf (tOrD (tNotD (tOf (eGo m_p_is_triple (aCons (eVar 2) aNil)))) (tBl (eBin opNe (eApp fSumT (aCons (eVar 2) aNil)) (eVar 0)))) (sRet (eC (.bl false))) sNext) (sIf (tOrD (tNotD (tOf (eGo
    m_p_is_integer (aCons (eBin opIxT (eVar 1) (eVar 2)) aNil)))) (tBl (eBin opEq (eBin opIxT (eVar 1) (eVar 2)) (eC (.int 0))))) (sRet (eC (.bl false))) sNext))
theorem f_p_are_terms_b1_ap (ρ : Rho) (π : Pot) : f_p_are_terms_b1 ρ π = (sSeq (sIf (tOrD (tNotD (tOf (eGo m_p_is_triple (aCons (eVar 2) aNil)))) (tBl (eBin opNe (eApp fSumT (aCons (eVar 2) aNil)) (eVar 0)))) (sRet (eC (.bl false))) sNext) (sIf (tOrD (tNotD (tOf (eGo
    m_p_is_integer (aCons (eBin opIxT (eVar 1) (eVar 2)) aNil)))) (tBl (eBin opEq (eBin opIxT (eVar 1) (eVar 2)) (eC (.int 0))))) (sRet (eC (.bl false))) sNext)) ρ π := rfl
def f_p_are_terms : Fs := (sSeq (sIf (tNotD (tOf (eUn (fIsA ["Told", "Form"] ["dict"]) (eVar 1)))) (sRet (eC (.bl false))) sNext) (sSeq (noErr (sFor (iKyT 1) (gN 2) f_p_are_terms_b1)) (sRet (eC (.bl true)))))
def m_p_are_terms : Fd := runD 3 .f f_p_are_terms
abbrev s_p_falling : Stmt := topS 21
def f_p_falling_t1 : Et := (tBl (eBin opNe (eBin opIxT (eVar 0) (eVar 1)) (eC (.int 0))))
theorem f_p_falling_t1_ap (ρ : Rho) (π : Pot) : f_p_falling_t1 ρ π = (tBl (eBin opNe (eBin opIxT (eVar 0) (eVar 1)) (eC (.int 0)))) ρ π := rfl
def f_p_falling_e1 : Ed := (eVar 1)
theorem f_p_falling_e1_ap (ρ : Rho) (π : Pot) : f_p_falling_e1 ρ π = (eVar 1) ρ π := rfl
def f_p_falling_e2 : Ed := (eBin opIxT (eVar 0) (eVar 1))
theorem f_p_falling_e2_ap (ρ : Rho) (π : Pot) : f_p_falling_e2 ρ π = (eBin opIxT (eVar 0) (eVar 1)) ρ π := rfl
def f_p_falling : Fs := (sRet (eDC (iVal (eSortD 3 (eVar 0))) (gN 1) f_p_falling_t1 f_p_falling_e1 f_p_falling_e2 [1]))
def m_p_falling : Fd := runD 2 .o f_p_falling
abbrev s_p_told_form : Stmt := topS 26
def f_p_told_form : Fs := (sSeq (sIf (tOf (eUn (fIsC "Told" ["Told", "Form"]) (eVar 0))) (sRet (eVar 0)) sNext) (sSeq (sExpr (eGoD (List.drop 0 [.int 0]) m_p_want_degree (aCons (eVar 0) (aCons (eC (.int 12)) aNil)))) (sSeq (sIf
    (tNotD (tOf (eGo m_p_are_terms (aCons (eVar 0) (aCons (eVar 1) aNil))))) sStuck sNext) (sRet (eGo m_i_Told (aCons (eVar 0) (aCons (eGo m_p_falling (aCons (eVar 1) aNil)) aNil)))))))
def m_p_told_form : Fd := runD 2 .f f_p_told_form
abbrev s_i_Form : Stmt := inClass (topS 27) 0
def f_i_Form : Fi := (iSet 3 (eGo m_p_told_form (aCons (eVar 1) (aCons (eVar 2) aNil))) (iFld "own_degree" (eUn (fldD "Told" "told_degree") (eVar 3)) (iCk "Form" (iFld "own_terms" (eUn (fldD "Told" "told_terms") (eVar 3))
    (iCk "Form" iNil)))))
def m_i_Form : Fd := runI 4 "Form" f_i_Form
abbrev s_l_draw : Stmt := topS 34
def f_l_draw : Fs := (sSeq (sIf (tBl (eBin (cmpI fun i j => decide (j < i)) ePot0 (eC (.int 0)))) (sSeq (sPotDm 2 (eVar 1)) (sRet (eVar 2))) sNext) (sSeq (sPot1 (eBin opMod (eApp fInt (aCons (eBin opAdd (eBin opMulA ePot1
    (eC (.int 48271))) (eC (.int 18131))) aNil)) (eC (.int 2147483587)))) (sRet (eBin opMod (eApp fInt (aCons (eBin opFdivW (eBin opMod (eApp fInt (aCons (eBin opMulA ePot1 ePot1) aNil)) (eC (.int
    2147483549))) (eC (.int 13))) aNil)) (eVar 1)))))
def m_l_draw : Fd := runD 3 .f f_l_draw
abbrev s_l_triples : Stmt := topS 36
def f_l_triples_e1 : Ed := (eTup (aCons (eVar 2) (aCons (eVar 3) (aCons (eBin opSub (eBin opSub (eVar 0) (eVar 2)) (eVar 3)) aNil))))
theorem pu_f_l_triples_e1 : PX f_l_triples_e1 := (pu_tup (pu_acons pu_var (pu_acons pu_var (pu_acons (pu_bin (pu_bin pu_var pu_var) pu_var) pu_anil))))
def f_l_triples_b1 : Fs := (sExt 1 (eLC (iRng (aCons (eBin opAdd (eBin opSub (eVar 0) (eVar 2)) (eC (.int 1))) aNil)) (gN 3) tTrue f_l_triples_e1 [3]))
theorem pu_f_l_triples_b1 : PX f_l_triples_b1 := (pu_ext (pu_lc (pu_irng (pu_acons (pu_bin (pu_bin pu_var pu_var) pu_c) pu_anil)) pu_true pu_f_l_triples_e1))
def f_l_triples : Fs := (sSeq (sSet 1 (eLst aNil)) (sSeq (sFor (iRng (aCons (eBin opAdd (eVar 0) (eC (.int 1))) aNil)) (gN 2) f_l_triples_b1) (sRet (eUn fRev (eApp fSortB (aCons (eVar 1) aNil))))))
def m_l_triples : Fd := runD 4 .o f_l_triples
theorem pu_f_l_triples : PX f_l_triples := (pu_seq (pu_set (pu_lst pu_anil)) (pu_seq (pu_for (pu_irng (pu_acons (pu_bin pu_var pu_c) pu_anil)) pu_f_l_triples_b1) (pu_ret (pu_un (pu_app (pu_acons pu_var pu_anil))))))
theorem pu_m_l_triples : PF m_l_triples := pu_runD pu_f_l_triples
abbrev s_l_clean : Stmt := topS 37
def f_l_clean_t1 : Et := (tBl (eBin opNe (eBin opIxT (eVar 0) (eVar 1)) (eC (.int 0))))
theorem f_l_clean_t1_ap (ρ : Rho) (π : Pot) : f_l_clean_t1 ρ π = (tBl (eBin opNe (eBin opIxT (eVar 0) (eVar 1)) (eC (.int 0)))) ρ π := rfl
def f_l_clean_e1 : Ed := (eTup (aCons (eVar 1) (aCons (eBin opIxT (eVar 0) (eVar 1)) aNil)))
theorem f_l_clean_e1_ap (ρ : Rho) (π : Pot) : f_l_clean_e1 ρ π = (eTup (aCons (eVar 1) (aCons (eBin opIxT (eVar 0) (eVar 1)) aNil))) ρ π := rfl
def f_l_clean : Fs := (sRet (eApp fDictP (aCons (eLC (iVal (eUn fRev (eApp (fSortL 3) (aCons (eVar 0) aNil)))) (gN 1) f_l_clean_t1 f_l_clean_e1 [1]) aNil)))
def m_l_clean : Fd := runD 2 .o f_l_clean
abbrev s_l_pick : Stmt := topS 35
def f_l_pick : Fs := (sRet (eBin opIx (eVar 1) (eGo m_l_draw (aCons (eC .non) (aCons (eApp fLen (aCons (eVar 1) aNil)) aNil)))))
def m_l_pick : Fd := runD 2 .f f_l_pick
abbrev s_l_terms : Stmt := topS 38
def f_l_terms_b1 : Fs := (sPutT 2 (eVar 3) (eBin opMulA (eBin opSub (eGo m_l_draw (aCons (eC .non) (aCons (eC (.int 19)) aNil))) (eC (.int 9))) (eGo m_l_pick (aCons (eC .non) (aCons (eLst (aCons (eC (.int 0)) (aCons (eC (.int
    1)) (aCons (eC (.int 1)) aNil)))) aNil)))))
def f_l_terms : Fs := (sSeq (sSet 2 (eC (.dic [] []))) (sSeq (sFor (iVal (eGo m_l_triples (aCons (eVar 1) aNil))) (gN 3) f_l_terms_b1) (sRet (eGo m_l_clean (aCons (eVar 2) aNil)))))
def m_l_terms : Fd := runD 4 .o f_l_terms
abbrev s_c_Form_terms : Stmt := inClass (topS 27) 3
def f_c_Form_terms : Fs := (sRet (eApp fDictC (aCons (eUn (fldD "Form" "own_terms") (eVar 0)) aNil)))
def m_c_Form_terms : Fd := runD 1 .o f_c_Form_terms
abbrev s_l_values : Stmt := topS 41
def f_l_values_b1 : Fs := (sApp 5 (eBin opAdd (eBin opAdd (eSl (eVar 3) oNone (oSome (eVar 4))) (eTup (aCons (eVar 6) aNil))) (eSl (eVar 3) (oSome (eBin opAdd (eVar 4) (eC (.int 1)))) oNone)))
theorem f_l_values_b1_ap (ρ : Rho) (π : Pot) : f_l_values_b1 ρ π = (sApp 5 (eBin opAdd (eBin opAdd (eSl (eVar 3) oNone (oSome (eVar 4))) (eTup (aCons (eVar 6) aNil))) (eSl (eVar 3) (oSome (eBin opAdd (eVar 4) (eC (.int 1)))) oNone))) ρ π := rfl
def f_l_values : Fs := (sSeq (sPar 2 3 (eBin opMulA (eGo m_l_draw (aCons (eC .non) (aCons (eC (.int 1000)) aNil))) (eBin opPow (eC (.int 10)) (eC (.int 27)))) (eGo m_l_pick (aCons (eC .non) (aCons (eGo m_l_triples (aCons
    (eGo m_l_draw (aCons (eC .non) (aCons (eC (.int 5)) aNil))) aNil)) aNil)))) (sSeq (sSet 4 (eGo m_l_draw (aCons (eC .non) (aCons (eC (.int 3)) aNil)))) (sSeq (sSet 5 (eLst (aCons (eC .non) (aCons (eC
    (.int 0)) (aCons (eC (.int 1)) (aCons (eUn opNeg (eC (.int 1))) (aCons (eC (.bl true)) (aCons (eC (.bl false)) (aCons (eC (.str "")) (aCons (eC (.str "1")) (aCons (eC (.str "xyz")) (aCons (eLst aNil)
    (aCons (eTup aNil) (aCons (eC (.dic [] [])) (aCons (eVar 2) (aCons (eBin opSub (eC (.int 0)) (eVar 2)) (aCons (eVar 1) (aCons (eMeth "Form" "terms" m_c_Form_terms (eVar 1) aNil) (aCons (eVar 3)
    (aCons (eApp fList (aCons (eVar 3) aNil)) aNil)))))))))))))))))))) (sSeq (sFor (iVal (eLst (aCons (eC (.bl true)) (aCons (eC (.bl false)) (aCons (eUn opNeg (eC (.int 1))) (aCons (eC .non) (aCons (eC
    (.str "0")) (aCons (eTup (aCons (eC (.int 1)) aNil)) (aCons (eBin opAdd (eBin opIx (eVar 3) (eVar 4)) (eC (.int 1))) (aCons (eBin opPow (eC (.int 10)) (eC (.int 20))) aNil)))))))))) (gN 6)
    f_l_values_b1) (sRet (eBin opAdd (eVar 5) (eLst (aCons (eSl (eVar 3) oNone (oSome (eC (.int 2)))) (aCons (eBin opAdd (eVar 3) (eTup (aCons (eC (.int 0)) aNil))) (aCons (eLst (aCons (eVar 3) aNil))
    (aCons (eTup (aCons (eVar 3) aNil)) (aCons (eDisp1 (eVar 3) (eC (.int 1))) (aCons (eLst (aCons (eC .non) aNil)) (aCons (eTup (aCons (eTup aNil) aNil)) (aCons (eTup (aCons (eTup (aCons (eC (.int 0))
    (aCons (eC (.int 0)) (aCons (eC (.int 0)) aNil)))) aNil)) (aCons (eTup (aCons (eC (.int 0)) (aCons (eC (.int 0)) (aCons (eC (.int 0)) aNil)))) (aCons (eLst (aCons (eC (.int 0)) (aCons (eC (.int 0))
    (aCons (eC (.int 0)) aNil)))) aNil)))))))))))))))))
def m_l_values : Fd := runD 7 .f f_l_values
abbrev s_p_form_by : Stmt := topS 28
def f_p_form_by : Fs := (sRet (eGo m_i_Form (aCons (eGo m_i_Told (aCons (eVar 0) (aCons (eGo m_p_falling (aCons (eVar 1) aNil)) aNil))) (aCons (eC .non) aNil))))
def m_p_form_by : Fd := runD 2 .o f_p_form_by
abbrev s_p_letter_forms : Stmt := topS 31
def f_p_letter_forms_e1 : Ed := (eGo m_p_form_by (aCons (eC (.int 1)) (aCons (eDisp1 (eVar 0) (eC (.int 1))) aNil)))
theorem f_p_letter_forms_e1_ap (ρ : Rho) (π : Pot) : f_p_letter_forms_e1 ρ π = (eGo m_p_form_by (aCons (eC (.int 1)) (aCons (eDisp1 (eVar 0) (eC (.int 1))) aNil))) ρ π := rfl
def f_p_letter_forms : Fs := (sRet (eLC (iVal (eTup (aCons (eTup (aCons (eC (.int 1)) (aCons (eC (.int 0)) (aCons (eC (.int 0)) aNil)))) (aCons (eTup (aCons (eC (.int 0)) (aCons (eC (.int 1)) (aCons (eC (.int 0)) aNil)))) (aCons
    (eTup (aCons (eC (.int 0)) (aCons (eC (.int 0)) (aCons (eC (.int 1)) aNil)))) aNil))))) (gN 0) tTrue f_p_letter_forms_e1 [0]))
def m_p_letter_forms : Fd := runD 1 .o f_p_letter_forms
abbrev s_p_want_number : Stmt := topS 15
def f_p_want_number : Fs := (sIf (tNotD (tOf (eGo m_p_is_integer (aCons (eVar 0) aNil)))) sStuck sNext)
def m_p_want_number : Fd := runD 1 .f f_p_want_number
abbrev s_p_plus_terms : Stmt := topS 22
def f_p_plus_terms_b1 : Fs := (sPutT 3 (eVar 4) (eBin opAdd (eGet2 (eVar 3) (eVar 4) (eC (.int 0))) (eBin opMulA (eVar 2) (eBin opIxT (eVar 1) (eVar 4)))))
def f_p_plus_terms : Fs := (sSeq (sSet 3 (eApp fDictC (aCons (eVar 0) aNil))) (sSeq (noErr (sFor (iKyT 1) (gN 4) f_p_plus_terms_b1)) (sRet (eVar 3))))
def m_p_plus_terms : Fd := runD 5 .o f_p_plus_terms
abbrev s_c_Form_times : Stmt := inClass (topS 27) 10
def f_c_Form_times : Fs := (sSeq (sExpr (eGo m_p_want_number (aCons (eVar 1) aNil))) (sRet (eGo m_p_form_by (aCons (eUn (fldD "Form" "own_degree") (eVar 0)) (aCons (eGo m_p_plus_terms (aCons (eC (.dic [] [])) (aCons (eUn (fldD
    "Form" "own_terms") (eVar 0)) (aCons (eVar 1) aNil)))) aNil)))))
def m_c_Form_times : Fd := runD 2 .o f_c_Form_times
abbrev s_c_Form___neg__ : Stmt := inClass (topS 27) 6
def f_c_Form___neg__ : Fs := (sRet (eGo m_p_form_by (aCons (eUn (fldD "Form" "own_degree") (eVar 0)) (aCons (eGo m_p_plus_terms (aCons (eC (.dic [] [])) (aCons (eUn (fldD "Form" "own_terms") (eVar 0)) (aCons (eUn opNeg (eC (.int
    1))) aNil)))) aNil))))
def m_c_Form___neg__ : Fd := runD 1 .o f_c_Form___neg__
abbrev s_p_want_form : Stmt := topS 29
def f_p_want_form : Fs := (sIf (tNotD (tOf (eUn (fIsC "Form" ["Told", "Form"]) (eVar 0)))) sStuck sNext)
def m_p_want_form : Fd := runD 1 .f f_p_want_form
abbrev s_p_want_like : Stmt := topS 30
def f_p_want_like : Fs := (sSeq (sExpr (eGo m_p_want_form (aCons (eVar 1) aNil))) (sIf (tBl (eBin opNe (eUn (fldD "Form" "own_degree") (eVar 0)) (eUn (fldD "Form" "own_degree") (eVar 1)))) sStuck sNext))
def m_p_want_like : Fd := runD 2 .f f_p_want_like
abbrev s_c_Form___add__ : Stmt := inClass (topS 27) 4
def f_c_Form___add__ : Fs := (sSeq (sExpr (eGo m_p_want_like (aCons (eVar 0) (aCons (eVar 1) aNil)))) (sRet (eGo m_p_form_by (aCons (eUn (fldD "Form" "own_degree") (eVar 0)) (aCons (eGo m_p_plus_terms (aCons (eUn (fldD "Form"
    "own_terms") (eVar 0)) (aCons (eUn (fldD "Form" "own_terms") (eVar 1)) (aCons (eC (.int 1)) aNil)))) aNil)))))
def m_c_Form___add__ : Fd := runD 2 .o f_c_Form___add__
abbrev s_p_want_at_most : Stmt := topS 17
def f_p_want_at_most : Fs := (sIf (tBl (eBin (cmpI fun i j => decide (j < i)) (eVar 2) (eVar 1))) sStuck sNext)
def m_p_want_at_most : Fd := runD 3 .f f_p_want_at_most
abbrev s_p_times_terms : Stmt := topS 23
def f_p_times_terms_b1 : Fs := (sSeq (sSet 5 (eTup (aCons (eBin opAdd (eBin opIx (eVar 3) (eC (.int 0))) (eBin opIx (eVar 4) (eC (.int 0)))) (aCons (eBin opAdd (eBin opIx (eVar 3) (eC (.int 1))) (eBin opIx (eVar 4) (eC (.int 1))))
    (aCons (eBin opAdd (eBin opIx (eVar 3) (eC (.int 2))) (eBin opIx (eVar 4) (eC (.int 2)))) aNil))))) (sPutT 2 (eVar 5) (eBin opAdd (eGet2 (eVar 2) (eVar 5) (eC (.int 0))) (eBin opMulA (eBin opIxT
    (eVar 0) (eVar 3)) (eBin opIxT (eVar 1) (eVar 4))))))
def f_p_times_terms_b2 : Fs := (noErr (sFor (iKyT 1) (gN 4) f_p_times_terms_b1))
def f_p_times_terms : Fs := (sSeq (sSet 2 (eC (.dic [] []))) (sSeq (noErr (sFor (iKyT 0) (gN 3) f_p_times_terms_b2)) (sRet (eVar 2))))
def m_p_times_terms : Fd := runD 6 .o f_p_times_terms
abbrev s_c_Form___mul__ : Stmt := inClass (topS 27) 7
def f_c_Form___mul__ : Fs := (sSeq (sExpr (eGo m_p_want_form (aCons (eVar 1) aNil))) (sSeq (sExpr (eGo m_p_want_at_most (aCons (eC (.str "degree")) (aCons (eC (.int 12)) (aCons (eBin opAdd (eUn (fldD "Form" "own_degree") (eVar 0))
    (eUn (fldD "Form" "own_degree") (eVar 1))) aNil))))) (sRet (eGo m_p_form_by (aCons (eBin opAdd (eUn (fldD "Form" "own_degree") (eVar 0)) (eUn (fldD "Form" "own_degree") (eVar 1))) (aCons (eGo
    m_p_times_terms (aCons (eUn (fldD "Form" "own_terms") (eVar 0)) (aCons (eUn (fldD "Form" "own_terms") (eVar 1)) aNil))) aNil))))))
def m_c_Form___mul__ : Fd := runD 2 .o f_c_Form___mul__
abbrev s_c_Form___eq__ : Stmt := inClass (topS 27) 8
def f_c_Form___eq__ : Fs := (sSeq (sIf (tNotD (tOf (eUn (fIsC "Form" ["Told", "Form"]) (eVar 1)))) (sRet (eC (.bl false))) sNext) (sRet (eAnd (eBin opEq (eUn (fldD "Form" "own_degree") (eVar 0)) (eUn (fldD "Form" "own_degree")
    (eVar 1))) (eBin opEqTG (eUn (fldD "Form" "own_terms") (eVar 0)) (eUn (fldD "Form" "own_terms") (eVar 1))))))
def m_c_Form___eq__ : Fd := runD 2 .f f_c_Form___eq__
abbrev s_c_Form___repr__ : Stmt := inClass (topS 27) 9
def f_c_Form___repr__ : Fs := (sRet (joinD [(eC (.str "Form(")), (eFmtI (eUn (fldD "Form" "own_degree") (eVar 0))), (eC (.str ", ")), (eFmtRT (eUn (fldD "Form" "own_terms") (eVar 0))), (eC (.str ")"))] Str.empty))
def m_c_Form___repr__ : Fd := runD 1 .f f_c_Form___repr__
theorem pu_f_c_Form___repr__ : PX f_c_Form___repr__ := (pu_ret (pu_join (.cons pu_c (.cons (pu_fmtI (pu_un pu_var)) (.cons pu_c (.cons (pu_fmtRT (pu_un pu_var)) (.cons pu_c .nil)))))))
theorem pu_m_c_Form___repr__ : PF m_c_Form___repr__ := pu_runD pu_f_c_Form___repr__
abbrev s_l_is_whole : Stmt := topS 39
def f_l_is_whole : Fs := (sRet (eAnd (eUn (fIsA ["Told", "Form"] ["int"]) (eVar 0)) (eNot (eUn (fIsA ["Told", "Form"] ["bool"]) (eVar 0)))))
def m_l_is_whole : Fd := runD 1 .f f_l_is_whole
abbrev s_l_is_three : Stmt := topS 40
def f_l_is_three_e1 : Ed := (eAnd (eGo m_l_is_whole (aCons (eVar 1) aNil)) (eBin (cmpI fun i j => decide (j ≤ i)) (eVar 1) (eC (.int 0))))
theorem f_l_is_three_e1_ap (ρ : Rho) (π : Pot) : f_l_is_three_e1 ρ π = (eAnd (eGo m_l_is_whole (aCons (eVar 1) aNil)) (eBin (cmpI fun i j => decide (j ≤ i)) (eVar 1) (eC (.int 0)))) ρ π := rfl
def f_l_is_three : Fs := (sSeq (sIf (tOrD (tNotD (tOf (eUn (fIsA ["Told", "Form"] ["tuple"]) (eVar 0)))) (tBl (eBin opNe (eApp fLen (aCons (eVar 0) aNil)) (eC (.int 3))))) (sRet (eC (.bl false))) sNext) (sRet (eApp fAll (aCons
    (eLC (iVal (eVar 0)) (gN 1) tTrue f_l_is_three_e1 [1]) aNil))))
def m_l_is_three : Fd := runD 2 .f f_l_is_three
abbrev s_c_Form_degree : Stmt := inClass (topS 27) 1
def f_c_Form_degree : Fs := (sRet (eUn (fldD "Form" "own_degree") (eVar 0)))
def m_c_Form_degree : Fd := runD 1 .f f_c_Form_degree
abbrev s_p_is_list : Stmt := topS 14
def f_p_is_list : Fs := (sRet (eUn (fIsA ["Told", "Form"] ["list", "tuple"]) (eVar 0)))
def m_p_is_list : Fd := runD 1 .f f_p_is_list
abbrev s_l_right : Stmt := topS 42
def f_l_right_b1 : Fs := (sSeq (sPar 10 11 (eReprA [("Form", m_c_Form___repr__)] (eVar 4)) (eGo m_l_is_whole (aCons (eVar 4) aNil))) (sSeq (sSet 12 (eLst (aCons (eVar 11) (aCons (eAnd (eVar 11) (eBin (cmpI fun i j => decide (j
    ≤ i)) (eVar 4) (eC (.int 0)))) (aCons (eUn (fIsA ["Told", "Form"] ["list", "tuple"]) (eVar 4)) (aCons (eGo m_l_is_three (aCons (eVar 4) aNil)) aNil)))))) (sSeq (sIf (tBl (eBin opNe (eReprA [("Form",
    m_c_Form___repr__)] (eLst (aCons (eGo m_p_is_integer (aCons (eVar 4) aNil)) (aCons (eGo m_p_is_count (aCons (eVar 4) aNil)) (aCons (eGo m_p_is_list (aCons (eVar 4) aNil)) (aCons (eGo m_p_is_triple
    (aCons (eVar 4) aNil)) aNil)))))) (eReprA [("Form", m_c_Form___repr__)] (eVar 12)))) (sRet (eC (.bl false))) sNext) (sSeq (sIf (tBl (eBin opNe (eReprA [("Form", m_c_Form___repr__)] (eLst (aCons (eGo
    m_p_is_integer (aCons (eVar 4) aNil)) (aCons (eGo m_p_is_count (aCons (eVar 4) aNil)) (aCons (eGo m_p_is_list (aCons (eVar 4) aNil)) (aCons (eGo m_p_is_triple (aCons (eVar 4) aNil)) aNil))))))
    (eReprA [("Form", m_c_Form___repr__)] (eVar 12)))) (sRet (eC (.bl false))) sNext) (sSeq (sSet 13 (eAnd (eUn (fIsC "Form" ["Told", "Form"]) (eVar 4)) (eAnd (eBin opEq (ePrp "Form" m_c_Form_degree
    (eVar 4)) (eVar 1)) (eBin opEqTG (eMeth "Form" "terms" m_c_Form_terms (eVar 4) aNil) (eVar 2))))) (sIf (tOrD (tBl (eBin opNe (eCmpY false opEq [("Form", m_c_Form___eq__)] (eVar 3) (eVar 4)) (eVar
    13))) (tOrD (tBl (eBin opEq (eCmpY true opNe [("Form", m_c_Form___eq__)] (eVar 3) (eVar 4)) (eVar 13))) (tBl (eBin opNe (eReprA [("Form", m_c_Form___repr__)] (eVar 4)) (eVar 10))))) (sRet (eC (.bl
    false))) sNext))))))
theorem f_l_right_b1_ap (ρ : Rho) (π : Pot) : f_l_right_b1 ρ π = (sSeq (sPar 10 11 (eReprA [("Form", m_c_Form___repr__)] (eVar 4)) (eGo m_l_is_whole (aCons (eVar 4) aNil))) (sSeq (sSet 12 (eLst (aCons (eVar 11) (aCons (eAnd (eVar 11) (eBin (cmpI fun i j => decide (j
    ≤ i)) (eVar 4) (eC (.int 0)))) (aCons (eUn (fIsA ["Told", "Form"] ["list", "tuple"]) (eVar 4)) (aCons (eGo m_l_is_three (aCons (eVar 4) aNil)) aNil)))))) (sSeq (sIf (tBl (eBin opNe (eReprA [("Form",
    m_c_Form___repr__)] (eLst (aCons (eGo m_p_is_integer (aCons (eVar 4) aNil)) (aCons (eGo m_p_is_count (aCons (eVar 4) aNil)) (aCons (eGo m_p_is_list (aCons (eVar 4) aNil)) (aCons (eGo m_p_is_triple
    (aCons (eVar 4) aNil)) aNil)))))) (eReprA [("Form", m_c_Form___repr__)] (eVar 12)))) (sRet (eC (.bl false))) sNext) (sSeq (sIf (tBl (eBin opNe (eReprA [("Form", m_c_Form___repr__)] (eLst (aCons (eGo
    m_p_is_integer (aCons (eVar 4) aNil)) (aCons (eGo m_p_is_count (aCons (eVar 4) aNil)) (aCons (eGo m_p_is_list (aCons (eVar 4) aNil)) (aCons (eGo m_p_is_triple (aCons (eVar 4) aNil)) aNil))))))
    (eReprA [("Form", m_c_Form___repr__)] (eVar 12)))) (sRet (eC (.bl false))) sNext) (sSeq (sSet 13 (eAnd (eUn (fIsC "Form" ["Told", "Form"]) (eVar 4)) (eAnd (eBin opEq (ePrp "Form" m_c_Form_degree
    (eVar 4)) (eVar 1)) (eBin opEqTG (eMeth "Form" "terms" m_c_Form_terms (eVar 4) aNil) (eVar 2))))) (sIf (tOrD (tBl (eBin opNe (eCmpY false opEq [("Form", m_c_Form___eq__)] (eVar 3) (eVar 4)) (eVar
    13))) (tOrD (tBl (eBin opEq (eCmpY true opNe [("Form", m_c_Form___eq__)] (eVar 3) (eVar 4)) (eVar 13))) (tBl (eBin opNe (eReprA [("Form", m_c_Form___repr__)] (eVar 4)) (eVar 10))))) (sRet (eC (.bl
    false))) sNext)))))) ρ π := rfl
def f_l_right_e1 : Ed := (eCmpY false opEq [("Form", m_c_Form___eq__)] (eVar 3) (eVar 14))
theorem f_l_right_e1_ap (ρ : Rho) (π : Pot) : f_l_right_e1 ρ π = (eCmpY false opEq [("Form", m_c_Form___eq__)] (eVar 3) (eVar 14)) ρ π := rfl
def f_l_right : Fs := (sSeq (sSet 1 (eGo m_l_draw (aCons (eC .non) (aCons (eC (.int 5)) aNil)))) (sSeq (sSet 2 (eGo m_l_terms (aCons (eC .non) (aCons (eVar 1) aNil)))) (sSeq (sSet 3 (eGo m_i_Form (aCons (eVar 1) (aCons
    (eVar 2) aNil)))) (sSeq (sFor (iVal (eGo m_l_values (aCons (eC .non) (aCons (eVar 3) aNil)))) (gN 4) f_l_right_b1) (sSeq (sUnp (eGo m_p_letter_forms aNil) (gL 3 (gsCons (gN 5) (gsCons (gN 6) (gsCons
    (gN 7) gsNil))))) (sSeq (sSet 8 (eLst (aCons (eMeth "Form" "times" m_c_Form_times (eVar 3) (aCons (eC (.int 2)) aNil)) (aCons (eNegO "Form" m_c_Form___neg__ (eVar 3)) (aCons (eBinO "Form"
    m_c_Form___add__ (eVar 3) (eVar 3)) (aCons (eBinO "Form" m_c_Form___mul__ (eVar 3) (eVar 5)) (aCons (eGo m_i_Form (aCons (eBin opAdd (eVar 1) (eC (.int 1))) (aCons (eC (.dic [] [])) aNil))) (aCons
    (eGo m_i_Form (aCons (eVar 1) (aCons (eVar 2) aNil))) aNil)))))))) (sSeq (sSet 9 (eLst (aCons (eBin opEqTG (eVar 2) (eC (.dic [] []))) (aCons (eBin opEqTG (eVar 2) (eC (.dic [] []))) (aCons (eBin
    opEqTG (eVar 2) (eC (.dic [] []))) (aCons (eC (.bl false)) (aCons (eC (.bl false)) (aCons (eC (.bl true)) aNil)))))))) (sRet (eAnd (eBin opEq (eLC (iVal (eVar 8)) (gN 14) tTrue f_l_right_e1 [14])
    (eVar 9)) (eAnd (eCmpY true opNe [("Form", m_c_Form___eq__)] (eVar 5) (eVar 6)) (eAnd (eCmpY true opNe [("Form", m_c_Form___eq__)] (eVar 6) (eVar 7)) (eCmpY false opEq [("Form", m_c_Form___eq__)]
    (eVar 5) (eBin opIx (eGo m_p_letter_forms aNil) (eC (.int 0)))))))))))))))
def m_l_right : Fd := runD 15 .f f_l_right
abbrev s_l_pot : Stmt := topS 33
def f_l_pot : Fs := (sSeq (sSet 2 (eBin opAdd (eBin opMulA (eC (.int 571)) (eVar 1)) (eC (.int 307)))) (sSeq (sIf (tBl (eBin (cmpI fun i j => decide (i < j)) (eVar 1) (eApp fLen (aCons (eVar 0) aNil)))) (sSet 2 (eApp fAbs
    (aCons (eBin opIx (eVar 0) (eVar 1)) aNil))) sNext) (sRet (eLst (aCons (eApp fMax2 (aCons (eC (.int 0)) (aCons (eBin opSub (eVar 2) (eBin opPow (eC (.int 10)) (eC (.int 18)))) aNil))) (aCons (eBin
    opAdd (eBin opMod (eApp fInt (aCons (eBin opAdd (eBin opMulA (eBin opMod (eApp fInt (aCons (eVar 2) aNil)) (eC (.int 2147483549))) (eBin opAdd (eBin opMulA (eC (.int 2)) (eVar 1)) (eC (.int 241))))
    (eC (.int 971))) aNil)) (eC (.int 2147483543))) (eC (.int 1))) aNil))))))
def m_l_pot : Fd := runD 3 .o f_l_pot
abbrev s_law_ : Stmt := topS 43
def f_law__e1 : Ed := (eGoPot m_l_right (eGo m_l_pot (aCons (eVar 0) (aCons (eVar 1) aNil))))
theorem f_law__e1_ap (ρ : Rho) (π : Pot) : f_law__e1 ρ π = (eGoPot m_l_right (eGo m_l_pot (aCons (eVar 0) (aCons (eVar 1) aNil)))) ρ π := rfl
def f_law_ : Fs := (sRet (eApp fAll (aCons (eLC (iRng (aCons (eApp fMax2 (aCons (eC (.int 1)) (aCons (eApp fMin2 (aCons (eC (.int 3)) (aCons (eApp fLen (aCons (eVar 0) aNil)) aNil))) aNil))) aNil)) (gN 1) tTrue f_law__e1
    [1]) aNil)))
def m_law_ : Fd := runD 2 .f f_law_
structure Top (K : PySem.W.Frag) (mg : Str → Option Value) : Prop where
  cl_Told : ClsF K mg "Told" ["told_degree", "told_terms"]
  cl_Form : ClsF K mg "Form" ["own_degree", "own_terms"]
  ci_Form : ClsI K mg "Form" ["Told", "Form"]
  ci_Told : ClsI K mg "Told" ["Told", "Form"]
  sf_Form : SelfF K mg "Form"
  eq_Form : EqC K mg "Form"
  cT : ClsT K mg ["Told", "Form"]
  f_i_Told : ∃ C f fd, mg "Told" = some (.ref C) ∧ Mk K C f ∧ Fun K "__init__" "Told.__init__" s_i_Told f fd
  f_p_is_integer : ∃ f fd, mg "is_integer" = some (.ref f) ∧ Fun K "is_integer" "is_integer" s_p_is_integer f fd
  f_p_is_count : ∃ f fd, mg "is_count" = some (.ref f) ∧ Fun K "is_count" "is_count" s_p_is_count f fd
  f_p_want_degree : ∃ f fd, mg "want_degree" = some (.ref f) ∧ FunDd K "want_degree" s_p_want_degree [.int 0] f fd
  f_p_is_triple : ∃ f fd, mg "is_triple" = some (.ref f) ∧ Fun K "is_triple" "is_triple" s_p_is_triple f fd
  f_p_are_terms : ∃ f fd, mg "are_terms" = some (.ref f) ∧ Fun K "are_terms" "are_terms" s_p_are_terms f fd
  f_p_falling : ∃ f fd, mg "falling" = some (.ref f) ∧ Fun K "falling" "falling" s_p_falling f fd
  f_p_told_form : ∃ f fd, mg "told_form" = some (.ref f) ∧ Fun K "told_form" "told_form" s_p_told_form f fd
  f_i_Form : ∃ C f fd, mg "Form" = some (.ref C) ∧ Mk K C f ∧ Fun K "__init__" "Form.__init__" s_i_Form f fd
  f_l_draw : ∃ f fd, mg "_law_draw" = some (.ref f) ∧ Fun K "_law_draw" "_law_draw" s_l_draw f fd
  f_l_triples : ∃ f fd, mg "_law_triples" = some (.ref f) ∧ Fun K "_law_triples" "_law_triples" s_l_triples f fd
  f_l_clean : ∃ f fd, mg "_law_clean" = some (.ref f) ∧ Fun K "_law_clean" "_law_clean" s_l_clean f fd
  f_l_pick : ∃ f fd, mg "_law_pick" = some (.ref f) ∧ Fun K "_law_pick" "_law_pick" s_l_pick f fd
  f_l_terms : ∃ f fd, mg "_law_terms" = some (.ref f) ∧ Fun K "_law_terms" "_law_terms" s_l_terms f fd
  f_c_Form_terms : ∃ C f fd, mg "Form" = some (.ref C) ∧ Cls K C ∧ Meth K C "terms" f ∧ Fun K "terms" "Form.terms" s_c_Form_terms f fd
  f_l_values : ∃ f fd, mg "_law_values" = some (.ref f) ∧ Fun K "_law_values" "_law_values" s_l_values f fd
  f_p_form_by : ∃ f fd, mg "form_by" = some (.ref f) ∧ Fun K "form_by" "form_by" s_p_form_by f fd
  f_p_letter_forms : ∃ f fd, mg "letter_forms" = some (.ref f) ∧ Fun K "letter_forms" "letter_forms" s_p_letter_forms f fd
  f_p_want_number : ∃ f fd, mg "want_number" = some (.ref f) ∧ Fun K "want_number" "want_number" s_p_want_number f fd
  f_p_plus_terms : ∃ f fd, mg "plus_terms" = some (.ref f) ∧ Fun K "plus_terms" "plus_terms" s_p_plus_terms f fd
  f_c_Form_times : ∃ C f fd, mg "Form" = some (.ref C) ∧ Cls K C ∧ Meth K C "times" f ∧ Fun K "times" "Form.times" s_c_Form_times f fd
  f_c_Form___neg__ : ∃ C f fd, mg "Form" = some (.ref C) ∧ Cls K C ∧ Meth K C "__neg__" f ∧ Fun K "__neg__" "Form.__neg__" s_c_Form___neg__ f fd
  f_p_want_form : ∃ f fd, mg "want_form" = some (.ref f) ∧ Fun K "want_form" "want_form" s_p_want_form f fd
  f_p_want_like : ∃ f fd, mg "want_like" = some (.ref f) ∧ Fun K "want_like" "want_like" s_p_want_like f fd
  f_c_Form___add__ : ∃ C f fd, mg "Form" = some (.ref C) ∧ Cls K C ∧ Meth K C "__add__" f ∧ Fun K "__add__" "Form.__add__" s_c_Form___add__ f fd
  f_p_want_at_most : ∃ f fd, mg "want_at_most" = some (.ref f) ∧ Fun K "want_at_most" "want_at_most" s_p_want_at_most f fd
  f_p_times_terms : ∃ f fd, mg "times_terms" = some (.ref f) ∧ Fun K "times_terms" "times_terms" s_p_times_terms f fd
  f_c_Form___mul__ : ∃ C f fd, mg "Form" = some (.ref C) ∧ Cls K C ∧ Meth K C "__mul__" f ∧ Fun K "__mul__" "Form.__mul__" s_c_Form___mul__ f fd
  f_c_Form___eq__ : ∃ C f fd, mg "Form" = some (.ref C) ∧ Cls K C ∧ Meth K C "__eq__" f ∧ Fun K "__eq__" "Form.__eq__" s_c_Form___eq__ f fd
  f_c_Form___repr__ : ∃ C f fd, mg "Form" = some (.ref C) ∧ Cls K C ∧ Meth K C "__repr__" f ∧ Fun K "__repr__" "Form.__repr__" s_c_Form___repr__ f fd
  f_l_is_whole : ∃ f fd, mg "_law_is_whole" = some (.ref f) ∧ Fun K "_law_is_whole" "_law_is_whole" s_l_is_whole f fd
  f_l_is_three : ∃ f fd, mg "_law_is_three" = some (.ref f) ∧ Fun K "_law_is_three" "_law_is_three" s_l_is_three f fd
  f_c_Form_degree : ∃ C p f fd, mg "Form" = some (.ref C) ∧ Cls K C ∧ PropOf K C "degree" p f ∧ Fun K "degree" "Form.degree" s_c_Form_degree f fd
  f_p_is_list : ∃ f fd, mg "is_list" = some (.ref f) ∧ Fun K "is_list" "is_list" s_p_is_list f fd
  f_l_right : ∃ f fd, mg "_law_right" = some (.ref f) ∧ Fun K "_law_right" "_law_right" s_l_right f fd
  f_l_pot : ∃ f fd, mg "_law_pot" = some (.ref f) ∧ Fun K "_law_pot" "_law_pot" s_l_pot f fd
  f_law_ : ∃ f fd, mg "law" = some (.ref f) ∧ Fun K "law" "law" s_law_ f fd
  b_abs : mg "abs" = none
  b_all : mg "all" = none
  b_bool : mg "bool" = none
  b_dict : mg "dict" = none
  b_divmod : mg "divmod" = none
  b_int : mg "int" = none
  b_isinstance : mg "isinstance" = none
  b_len : mg "len" = none
  b_list : mg "list" = none
  b_max : mg "max" = none
  b_min : mg "min" = none
  b_range : mg "range" = none
  b_repr : mg "repr" = none
  b_sorted : mg "sorted" = none
  b_sum : mg "sum" = none
  b_tuple : mg "tuple" = none
  c_MOST_DEGREE : ∃ u, mg "MOST_DEGREE" = some u ∧ RelV (.int 12) u
theorem top_mk {K : PySem.W.Frag} {h : Heap} {mg : Str → Option Value} (X : K.In h) (G : h.Ns mainGlobals mg)
    (oN : PySem.W.specialIn K (.builtin "object.__class__") "__get__" = some (some (.builtin "getset_descriptor.__get__"))) (oT : PySem.W.takesIn K (.builtin "object.__class__") = some true)
    {C_Told : Addr} (aC_Told : PySem.W.nsIn K mainGlobals "Told" = some (some (.ref C_Told)))
    (pg_Told : PySem.W.plainGet K C_Told Str.empty = true) (hd_Told : PySem.W.hasDictIn K C_Told = true) (po_Told : PySem.W.plainOver K C_Told = true) (sa_Told : PySem.W.findIn K (.ref C_Told) "__setattr__" = some (some (.builtin "object.__setattr__")))
    (mk_Told : PySem.W.makesIn K C_Told = true) (kc_Told : PySem.W.keepIn K (.ref C_Told) = true)
    (ha_Told : PySem.W.findIn K (.ref C_Told) "__class__" = some (some (.builtin "object.__class__"))) (hm_Told : PySem.W.mroIn K C_Told (.type "object") = some true)
    {C_Form : Addr} (aC_Form : PySem.W.nsIn K mainGlobals "Form" = some (some (.ref C_Form)))
    (pg_Form : PySem.W.plainGet K C_Form Str.empty = true) (hd_Form : PySem.W.hasDictIn K C_Form = true) (po_Form : PySem.W.plainOver K C_Form = true) (sa_Form : PySem.W.findIn K (.ref C_Form) "__setattr__" = some (some (.builtin "object.__setattr__")))
    (mk_Form : PySem.W.makesIn K C_Form = true) (kc_Form : PySem.W.keepIn K (.ref C_Form) = true)
    (ha_Form : PySem.W.findIn K (.ref C_Form) "__class__" = some (some (.builtin "object.__class__"))) (hm_Form : PySem.W.mroIn K C_Form (.type "object") = some true)
    (nf_Told_told_degree : PySem.W.findIn K (.ref C_Told) "told_degree" = some none)
    (nf_Told_told_terms : PySem.W.findIn K (.ref C_Told) "told_terms" = some none)
    (nf_Form_own_degree : PySem.W.findIn K (.ref C_Form) "own_degree" = some none)
    (nf_Form_own_terms : PySem.W.findIn K (.ref C_Form) "own_terms" = some none)
    (ic_Form : PySem.W.isClsIn K C_Form = true) (ty_Form : PySem.W.typeIn K (.ref C_Form) = some (.type "type"))
    (kt_Form_NoneType : PySem.W.subIn K (.type "NoneType") (.ref C_Form) = some false)
    (kt_Form_bool : PySem.W.subIn K (.type "bool") (.ref C_Form) = some false)
    (kt_Form_int : PySem.W.subIn K (.type "int") (.ref C_Form) = some false)
    (kt_Form_str : PySem.W.subIn K (.type "str") (.ref C_Form) = some false)
    (kt_Form_list : PySem.W.subIn K (.type "list") (.ref C_Form) = some false)
    (kt_Form_tuple : PySem.W.subIn K (.type "tuple") (.ref C_Form) = some false)
    (kt_Form_dict : PySem.W.subIn K (.type "dict") (.ref C_Form) = some false)
    (ne_Form_Told : (C_Told == C_Form) = false) (ks_Form_Told : PySem.W.subIn K (.ref C_Told) (.ref C_Form) = some false)
    (ic_Told : PySem.W.isClsIn K C_Told = true) (ty_Told : PySem.W.typeIn K (.ref C_Told) = some (.type "type"))
    (kt_Told_NoneType : PySem.W.subIn K (.type "NoneType") (.ref C_Told) = some false)
    (kt_Told_bool : PySem.W.subIn K (.type "bool") (.ref C_Told) = some false)
    (kt_Told_int : PySem.W.subIn K (.type "int") (.ref C_Told) = some false)
    (kt_Told_str : PySem.W.subIn K (.type "str") (.ref C_Told) = some false)
    (kt_Told_list : PySem.W.subIn K (.type "list") (.ref C_Told) = some false)
    (kt_Told_tuple : PySem.W.subIn K (.type "tuple") (.ref C_Told) = some false)
    (kt_Told_dict : PySem.W.subIn K (.type "dict") (.ref C_Told) = some false)
    (ne_Told_Form : (C_Form == C_Told) = false) (ks_Told_Form : PySem.W.subIn K (.ref C_Form) (.ref C_Told) = some false)
    (sv_Form : PySem.W.selfFirst K C_Form = true)
    (en_Form : PySem.W.findIn K (.ref C_Form) "__ne__" = some (some (.builtin "object.__ne__"))) (eo_Form : PySem.W.subIn K (.ref C_Form) (.type "object") = some true)
    (st_Told_NoneType : PySem.W.subIn K (.ref C_Told) (.type "NoneType") = some false)
    (st_Told_bool : PySem.W.subIn K (.ref C_Told) (.type "bool") = some false)
    (st_Told_int : PySem.W.subIn K (.ref C_Told) (.type "int") = some false)
    (st_Told_str : PySem.W.subIn K (.ref C_Told) (.type "str") = some false)
    (st_Told_list : PySem.W.subIn K (.ref C_Told) (.type "list") = some false)
    (st_Told_tuple : PySem.W.subIn K (.ref C_Told) (.type "tuple") = some false)
    (st_Told_dict : PySem.W.subIn K (.ref C_Told) (.type "dict") = some false)
    (st_Form_NoneType : PySem.W.subIn K (.ref C_Form) (.type "NoneType") = some false)
    (st_Form_bool : PySem.W.subIn K (.ref C_Form) (.type "bool") = some false)
    (st_Form_int : PySem.W.subIn K (.ref C_Form) (.type "int") = some false)
    (st_Form_str : PySem.W.subIn K (.ref C_Form) (.type "str") = some false)
    (st_Form_list : PySem.W.subIn K (.ref C_Form) (.type "list") = some false)
    (st_Form_tuple : PySem.W.subIn K (.ref C_Form) (.type "tuple") = some false)
    (st_Form_dict : PySem.W.subIn K (.ref C_Form) (.type "dict") = some false)
    {f0 : Addr} {od0 an0 : Option Addr} {sl0 : Array (Option Value)} {oc0 kV0 dc0 pm0 cd0 ct0 : Value}
    (a0 : PySem.W.findIn K (.ref C_Told) "__init__" = some (some (.ref f0))) (i0 : PySem.W.isFn K (.ref f0) = true)
    (l0 : K.lookup f0 = some ⟨oc0, od0, .func (PySem.W.fnOf "__init__" "Told.__init__" (defArgs s_i_Told) (defBody s_i_Told) (defScope s_i_Told) .none kV0 dc0 pm0 an0 cd0 ct0), sl0⟩) (c0 : PySem.W.codeIn K cd0 "Told.__init__" = true) (k0 : PySem.W.keepIn K (.ref f0) = true)
    {f1 : Addr} {od1 an1 : Option Addr} {sl1 : Array (Option Value)} {oc1 kV1 dc1 pm1 cd1 ct1 : Value}
    (a1 : PySem.W.nsIn K mainGlobals "is_integer" = some (some (.ref f1)))
    (l1 : K.lookup f1 = some ⟨oc1, od1, .func (PySem.W.fnOf "is_integer" "is_integer" (defArgs s_p_is_integer) (defBody s_p_is_integer) (defScope s_p_is_integer) .none kV1 dc1 pm1 an1 cd1 ct1), sl1⟩) (c1 : PySem.W.codeIn K cd1 "is_integer" = true) (k1 : PySem.W.keepIn K (.ref f1) = true)
    {f2 : Addr} {od2 an2 : Option Addr} {sl2 : Array (Option Value)} {oc2 kV2 dc2 pm2 cd2 ct2 : Value}
    (a2 : PySem.W.nsIn K mainGlobals "is_count" = some (some (.ref f2)))
    (l2 : K.lookup f2 = some ⟨oc2, od2, .func (PySem.W.fnOf "is_count" "is_count" (defArgs s_p_is_count) (defBody s_p_is_count) (defScope s_p_is_count) .none kV2 dc2 pm2 an2 cd2 ct2), sl2⟩) (c2 : PySem.W.codeIn K cd2 "is_count" = true) (k2 : PySem.W.keepIn K (.ref f2) = true)
    {f3 : Addr} {od3 an3 : Option Addr} {sl3 : Array (Option Value)} {oc3 kV3 dc3 pm3 cd3 ct3 : Value}
    (a3 : PySem.W.nsIn K mainGlobals "want_degree" = some (some (.ref f3)))
    {T3 : Addr} {ot3 : Value} {odt3 : Option Addr} {nt3 : Nat} {slt3 : Array (Option Value)} {tk3_0 : Tok}(l3 : K.lookup f3 = some ⟨oc3, od3, .func (PySem.W.fnOf "want_degree" "want_degree" (defArgs s_p_want_degree) (defBody s_p_want_degree) (defScope s_p_want_degree) (.ref T3) kV3 dc3 pm3 an3 cd3 ct3), sl3⟩) (c3 : PySem.W.codeIn K cd3 "want_degree" = true) (k3 : PySem.W.keepIn K (.ref f3) = true)
    (t3 : K.lookup T3 = some ⟨ot3, odt3, .seq #[.int 0 tk3_0] nt3, slt3⟩)
    {f4 : Addr} {od4 an4 : Option Addr} {sl4 : Array (Option Value)} {oc4 kV4 dc4 pm4 cd4 ct4 : Value}
    (a4 : PySem.W.nsIn K mainGlobals "is_triple" = some (some (.ref f4)))
    (l4 : K.lookup f4 = some ⟨oc4, od4, .func (PySem.W.fnOf "is_triple" "is_triple" (defArgs s_p_is_triple) (defBody s_p_is_triple) (defScope s_p_is_triple) .none kV4 dc4 pm4 an4 cd4 ct4), sl4⟩) (c4 : PySem.W.codeIn K cd4 "is_triple" = true) (k4 : PySem.W.keepIn K (.ref f4) = true)
    {f5 : Addr} {od5 an5 : Option Addr} {sl5 : Array (Option Value)} {oc5 kV5 dc5 pm5 cd5 ct5 : Value}
    (a5 : PySem.W.nsIn K mainGlobals "are_terms" = some (some (.ref f5)))
    (l5 : K.lookup f5 = some ⟨oc5, od5, .func (PySem.W.fnOf "are_terms" "are_terms" (defArgs s_p_are_terms) (defBody s_p_are_terms) (defScope s_p_are_terms) .none kV5 dc5 pm5 an5 cd5 ct5), sl5⟩) (c5 : PySem.W.codeIn K cd5 "are_terms" = true) (k5 : PySem.W.keepIn K (.ref f5) = true)
    {f6 : Addr} {od6 an6 : Option Addr} {sl6 : Array (Option Value)} {oc6 kV6 dc6 pm6 cd6 ct6 : Value}
    (a6 : PySem.W.nsIn K mainGlobals "falling" = some (some (.ref f6)))
    (l6 : K.lookup f6 = some ⟨oc6, od6, .func (PySem.W.fnOf "falling" "falling" (defArgs s_p_falling) (defBody s_p_falling) (defScope s_p_falling) .none kV6 dc6 pm6 an6 cd6 ct6), sl6⟩) (c6 : PySem.W.codeIn K cd6 "falling" = true) (k6 : PySem.W.keepIn K (.ref f6) = true)
    {f7 : Addr} {od7 an7 : Option Addr} {sl7 : Array (Option Value)} {oc7 kV7 dc7 pm7 cd7 ct7 : Value}
    (a7 : PySem.W.nsIn K mainGlobals "told_form" = some (some (.ref f7)))
    (l7 : K.lookup f7 = some ⟨oc7, od7, .func (PySem.W.fnOf "told_form" "told_form" (defArgs s_p_told_form) (defBody s_p_told_form) (defScope s_p_told_form) .none kV7 dc7 pm7 an7 cd7 ct7), sl7⟩) (c7 : PySem.W.codeIn K cd7 "told_form" = true) (k7 : PySem.W.keepIn K (.ref f7) = true)
    {f8 : Addr} {od8 an8 : Option Addr} {sl8 : Array (Option Value)} {oc8 kV8 dc8 pm8 cd8 ct8 : Value}
    (a8 : PySem.W.findIn K (.ref C_Form) "__init__" = some (some (.ref f8))) (i8 : PySem.W.isFn K (.ref f8) = true)
    (l8 : K.lookup f8 = some ⟨oc8, od8, .func (PySem.W.fnOf "__init__" "Form.__init__" (defArgs s_i_Form) (defBody s_i_Form) (defScope s_i_Form) .none kV8 dc8 pm8 an8 cd8 ct8), sl8⟩) (c8 : PySem.W.codeIn K cd8 "Form.__init__" = true) (k8 : PySem.W.keepIn K (.ref f8) = true)
    {f9 : Addr} {od9 an9 : Option Addr} {sl9 : Array (Option Value)} {oc9 kV9 dc9 pm9 cd9 ct9 : Value}
    (a9 : PySem.W.nsIn K mainGlobals "_law_draw" = some (some (.ref f9)))
    (l9 : K.lookup f9 = some ⟨oc9, od9, .func (PySem.W.fnOf "_law_draw" "_law_draw" (defArgs s_l_draw) (defBody s_l_draw) (defScope s_l_draw) .none kV9 dc9 pm9 an9 cd9 ct9), sl9⟩) (c9 : PySem.W.codeIn K cd9 "_law_draw" = true) (k9 : PySem.W.keepIn K (.ref f9) = true)
    {f10 : Addr} {od10 an10 : Option Addr} {sl10 : Array (Option Value)} {oc10 kV10 dc10 pm10 cd10 ct10 : Value}
    (a10 : PySem.W.nsIn K mainGlobals "_law_triples" = some (some (.ref f10)))
    (l10 : K.lookup f10 = some ⟨oc10, od10, .func (PySem.W.fnOf "_law_triples" "_law_triples" (defArgs s_l_triples) (defBody s_l_triples) (defScope s_l_triples) .none kV10 dc10 pm10 an10 cd10 ct10), sl10⟩) (c10 : PySem.W.codeIn K cd10 "_law_triples" = true) (k10 : PySem.W.keepIn K (.ref f10) = true)
    {f11 : Addr} {od11 an11 : Option Addr} {sl11 : Array (Option Value)} {oc11 kV11 dc11 pm11 cd11 ct11 : Value}
    (a11 : PySem.W.nsIn K mainGlobals "_law_clean" = some (some (.ref f11)))
    (l11 : K.lookup f11 = some ⟨oc11, od11, .func (PySem.W.fnOf "_law_clean" "_law_clean" (defArgs s_l_clean) (defBody s_l_clean) (defScope s_l_clean) .none kV11 dc11 pm11 an11 cd11 ct11), sl11⟩) (c11 : PySem.W.codeIn K cd11 "_law_clean" = true) (k11 : PySem.W.keepIn K (.ref f11) = true)
    {f12 : Addr} {od12 an12 : Option Addr} {sl12 : Array (Option Value)} {oc12 kV12 dc12 pm12 cd12 ct12 : Value}
    (a12 : PySem.W.nsIn K mainGlobals "_law_pick" = some (some (.ref f12)))
    (l12 : K.lookup f12 = some ⟨oc12, od12, .func (PySem.W.fnOf "_law_pick" "_law_pick" (defArgs s_l_pick) (defBody s_l_pick) (defScope s_l_pick) .none kV12 dc12 pm12 an12 cd12 ct12), sl12⟩) (c12 : PySem.W.codeIn K cd12 "_law_pick" = true) (k12 : PySem.W.keepIn K (.ref f12) = true)
    {f13 : Addr} {od13 an13 : Option Addr} {sl13 : Array (Option Value)} {oc13 kV13 dc13 pm13 cd13 ct13 : Value}
    (a13 : PySem.W.nsIn K mainGlobals "_law_terms" = some (some (.ref f13)))
    (l13 : K.lookup f13 = some ⟨oc13, od13, .func (PySem.W.fnOf "_law_terms" "_law_terms" (defArgs s_l_terms) (defBody s_l_terms) (defScope s_l_terms) .none kV13 dc13 pm13 an13 cd13 ct13), sl13⟩) (c13 : PySem.W.codeIn K cd13 "_law_terms" = true) (k13 : PySem.W.keepIn K (.ref f13) = true)
    {f14 : Addr} {od14 an14 : Option Addr} {sl14 : Array (Option Value)} {oc14 kV14 dc14 pm14 cd14 ct14 : Value}
    (a14 : PySem.W.findIn K (.ref C_Form) "terms" = some (some (.ref f14))) (i14 : PySem.W.isFn K (.ref f14) = true)
    (l14 : K.lookup f14 = some ⟨oc14, od14, .func (PySem.W.fnOf "terms" "Form.terms" (defArgs s_c_Form_terms) (defBody s_c_Form_terms) (defScope s_c_Form_terms) .none kV14 dc14 pm14 an14 cd14 ct14), sl14⟩) (c14 : PySem.W.codeIn K cd14 "Form.terms" = true) (k14 : PySem.W.keepIn K (.ref f14) = true)
    {f15 : Addr} {od15 an15 : Option Addr} {sl15 : Array (Option Value)} {oc15 kV15 dc15 pm15 cd15 ct15 : Value}
    (a15 : PySem.W.nsIn K mainGlobals "_law_values" = some (some (.ref f15)))
    (l15 : K.lookup f15 = some ⟨oc15, od15, .func (PySem.W.fnOf "_law_values" "_law_values" (defArgs s_l_values) (defBody s_l_values) (defScope s_l_values) .none kV15 dc15 pm15 an15 cd15 ct15), sl15⟩) (c15 : PySem.W.codeIn K cd15 "_law_values" = true) (k15 : PySem.W.keepIn K (.ref f15) = true)
    {f16 : Addr} {od16 an16 : Option Addr} {sl16 : Array (Option Value)} {oc16 kV16 dc16 pm16 cd16 ct16 : Value}
    (a16 : PySem.W.nsIn K mainGlobals "form_by" = some (some (.ref f16)))
    (l16 : K.lookup f16 = some ⟨oc16, od16, .func (PySem.W.fnOf "form_by" "form_by" (defArgs s_p_form_by) (defBody s_p_form_by) (defScope s_p_form_by) .none kV16 dc16 pm16 an16 cd16 ct16), sl16⟩) (c16 : PySem.W.codeIn K cd16 "form_by" = true) (k16 : PySem.W.keepIn K (.ref f16) = true)
    {f17 : Addr} {od17 an17 : Option Addr} {sl17 : Array (Option Value)} {oc17 kV17 dc17 pm17 cd17 ct17 : Value}
    (a17 : PySem.W.nsIn K mainGlobals "letter_forms" = some (some (.ref f17)))
    (l17 : K.lookup f17 = some ⟨oc17, od17, .func (PySem.W.fnOf "letter_forms" "letter_forms" (defArgs s_p_letter_forms) (defBody s_p_letter_forms) (defScope s_p_letter_forms) .none kV17 dc17 pm17 an17 cd17 ct17), sl17⟩) (c17 : PySem.W.codeIn K cd17 "letter_forms" = true) (k17 : PySem.W.keepIn K (.ref f17) = true)
    {f18 : Addr} {od18 an18 : Option Addr} {sl18 : Array (Option Value)} {oc18 kV18 dc18 pm18 cd18 ct18 : Value}
    (a18 : PySem.W.nsIn K mainGlobals "want_number" = some (some (.ref f18)))
    (l18 : K.lookup f18 = some ⟨oc18, od18, .func (PySem.W.fnOf "want_number" "want_number" (defArgs s_p_want_number) (defBody s_p_want_number) (defScope s_p_want_number) .none kV18 dc18 pm18 an18 cd18 ct18), sl18⟩) (c18 : PySem.W.codeIn K cd18 "want_number" = true) (k18 : PySem.W.keepIn K (.ref f18) = true)
    {f19 : Addr} {od19 an19 : Option Addr} {sl19 : Array (Option Value)} {oc19 kV19 dc19 pm19 cd19 ct19 : Value}
    (a19 : PySem.W.nsIn K mainGlobals "plus_terms" = some (some (.ref f19)))
    (l19 : K.lookup f19 = some ⟨oc19, od19, .func (PySem.W.fnOf "plus_terms" "plus_terms" (defArgs s_p_plus_terms) (defBody s_p_plus_terms) (defScope s_p_plus_terms) .none kV19 dc19 pm19 an19 cd19 ct19), sl19⟩) (c19 : PySem.W.codeIn K cd19 "plus_terms" = true) (k19 : PySem.W.keepIn K (.ref f19) = true)
    {f20 : Addr} {od20 an20 : Option Addr} {sl20 : Array (Option Value)} {oc20 kV20 dc20 pm20 cd20 ct20 : Value}
    (a20 : PySem.W.findIn K (.ref C_Form) "times" = some (some (.ref f20))) (i20 : PySem.W.isFn K (.ref f20) = true)
    (l20 : K.lookup f20 = some ⟨oc20, od20, .func (PySem.W.fnOf "times" "Form.times" (defArgs s_c_Form_times) (defBody s_c_Form_times) (defScope s_c_Form_times) .none kV20 dc20 pm20 an20 cd20 ct20), sl20⟩) (c20 : PySem.W.codeIn K cd20 "Form.times" = true) (k20 : PySem.W.keepIn K (.ref f20) = true)
    {f21 : Addr} {od21 an21 : Option Addr} {sl21 : Array (Option Value)} {oc21 kV21 dc21 pm21 cd21 ct21 : Value}
    (a21 : PySem.W.findIn K (.ref C_Form) "__neg__" = some (some (.ref f21))) (i21 : PySem.W.isFn K (.ref f21) = true)
    (l21 : K.lookup f21 = some ⟨oc21, od21, .func (PySem.W.fnOf "__neg__" "Form.__neg__" (defArgs s_c_Form___neg__) (defBody s_c_Form___neg__) (defScope s_c_Form___neg__) .none kV21 dc21 pm21 an21 cd21 ct21), sl21⟩) (c21 : PySem.W.codeIn K cd21 "Form.__neg__" = true) (k21 : PySem.W.keepIn K (.ref f21) = true)
    {f22 : Addr} {od22 an22 : Option Addr} {sl22 : Array (Option Value)} {oc22 kV22 dc22 pm22 cd22 ct22 : Value}
    (a22 : PySem.W.nsIn K mainGlobals "want_form" = some (some (.ref f22)))
    (l22 : K.lookup f22 = some ⟨oc22, od22, .func (PySem.W.fnOf "want_form" "want_form" (defArgs s_p_want_form) (defBody s_p_want_form) (defScope s_p_want_form) .none kV22 dc22 pm22 an22 cd22 ct22), sl22⟩) (c22 : PySem.W.codeIn K cd22 "want_form" = true) (k22 : PySem.W.keepIn K (.ref f22) = true)
    {f23 : Addr} {od23 an23 : Option Addr} {sl23 : Array (Option Value)} {oc23 kV23 dc23 pm23 cd23 ct23 : Value}
    (a23 : PySem.W.nsIn K mainGlobals "want_like" = some (some (.ref f23)))
    (l23 : K.lookup f23 = some ⟨oc23, od23, .func (PySem.W.fnOf "want_like" "want_like" (defArgs s_p_want_like) (defBody s_p_want_like) (defScope s_p_want_like) .none kV23 dc23 pm23 an23 cd23 ct23), sl23⟩) (c23 : PySem.W.codeIn K cd23 "want_like" = true) (k23 : PySem.W.keepIn K (.ref f23) = true)
    {f24 : Addr} {od24 an24 : Option Addr} {sl24 : Array (Option Value)} {oc24 kV24 dc24 pm24 cd24 ct24 : Value}
    (a24 : PySem.W.findIn K (.ref C_Form) "__add__" = some (some (.ref f24))) (i24 : PySem.W.isFn K (.ref f24) = true)
    (l24 : K.lookup f24 = some ⟨oc24, od24, .func (PySem.W.fnOf "__add__" "Form.__add__" (defArgs s_c_Form___add__) (defBody s_c_Form___add__) (defScope s_c_Form___add__) .none kV24 dc24 pm24 an24 cd24 ct24), sl24⟩) (c24 : PySem.W.codeIn K cd24 "Form.__add__" = true) (k24 : PySem.W.keepIn K (.ref f24) = true)
    {f25 : Addr} {od25 an25 : Option Addr} {sl25 : Array (Option Value)} {oc25 kV25 dc25 pm25 cd25 ct25 : Value}
    (a25 : PySem.W.nsIn K mainGlobals "want_at_most" = some (some (.ref f25)))
    (l25 : K.lookup f25 = some ⟨oc25, od25, .func (PySem.W.fnOf "want_at_most" "want_at_most" (defArgs s_p_want_at_most) (defBody s_p_want_at_most) (defScope s_p_want_at_most) .none kV25 dc25 pm25 an25 cd25 ct25), sl25⟩) (c25 : PySem.W.codeIn K cd25 "want_at_most" = true) (k25 : PySem.W.keepIn K (.ref f25) = true)
    {f26 : Addr} {od26 an26 : Option Addr} {sl26 : Array (Option Value)} {oc26 kV26 dc26 pm26 cd26 ct26 : Value}
    (a26 : PySem.W.nsIn K mainGlobals "times_terms" = some (some (.ref f26)))
    (l26 : K.lookup f26 = some ⟨oc26, od26, .func (PySem.W.fnOf "times_terms" "times_terms" (defArgs s_p_times_terms) (defBody s_p_times_terms) (defScope s_p_times_terms) .none kV26 dc26 pm26 an26 cd26 ct26), sl26⟩) (c26 : PySem.W.codeIn K cd26 "times_terms" = true) (k26 : PySem.W.keepIn K (.ref f26) = true)
    {f27 : Addr} {od27 an27 : Option Addr} {sl27 : Array (Option Value)} {oc27 kV27 dc27 pm27 cd27 ct27 : Value}
    (a27 : PySem.W.findIn K (.ref C_Form) "__mul__" = some (some (.ref f27))) (i27 : PySem.W.isFn K (.ref f27) = true)
    (l27 : K.lookup f27 = some ⟨oc27, od27, .func (PySem.W.fnOf "__mul__" "Form.__mul__" (defArgs s_c_Form___mul__) (defBody s_c_Form___mul__) (defScope s_c_Form___mul__) .none kV27 dc27 pm27 an27 cd27 ct27), sl27⟩) (c27 : PySem.W.codeIn K cd27 "Form.__mul__" = true) (k27 : PySem.W.keepIn K (.ref f27) = true)
    {f28 : Addr} {od28 an28 : Option Addr} {sl28 : Array (Option Value)} {oc28 kV28 dc28 pm28 cd28 ct28 : Value}
    (a28 : PySem.W.findIn K (.ref C_Form) "__eq__" = some (some (.ref f28))) (i28 : PySem.W.isFn K (.ref f28) = true)
    (l28 : K.lookup f28 = some ⟨oc28, od28, .func (PySem.W.fnOf "__eq__" "Form.__eq__" (defArgs s_c_Form___eq__) (defBody s_c_Form___eq__) (defScope s_c_Form___eq__) .none kV28 dc28 pm28 an28 cd28 ct28), sl28⟩) (c28 : PySem.W.codeIn K cd28 "Form.__eq__" = true) (k28 : PySem.W.keepIn K (.ref f28) = true)
    {f29 : Addr} {od29 an29 : Option Addr} {sl29 : Array (Option Value)} {oc29 kV29 dc29 pm29 cd29 ct29 : Value}
    (a29 : PySem.W.findIn K (.ref C_Form) "__repr__" = some (some (.ref f29))) (i29 : PySem.W.isFn K (.ref f29) = true)
    (l29 : K.lookup f29 = some ⟨oc29, od29, .func (PySem.W.fnOf "__repr__" "Form.__repr__" (defArgs s_c_Form___repr__) (defBody s_c_Form___repr__) (defScope s_c_Form___repr__) .none kV29 dc29 pm29 an29 cd29 ct29), sl29⟩) (c29 : PySem.W.codeIn K cd29 "Form.__repr__" = true) (k29 : PySem.W.keepIn K (.ref f29) = true)
    {f30 : Addr} {od30 an30 : Option Addr} {sl30 : Array (Option Value)} {oc30 kV30 dc30 pm30 cd30 ct30 : Value}
    (a30 : PySem.W.nsIn K mainGlobals "_law_is_whole" = some (some (.ref f30)))
    (l30 : K.lookup f30 = some ⟨oc30, od30, .func (PySem.W.fnOf "_law_is_whole" "_law_is_whole" (defArgs s_l_is_whole) (defBody s_l_is_whole) (defScope s_l_is_whole) .none kV30 dc30 pm30 an30 cd30 ct30), sl30⟩) (c30 : PySem.W.codeIn K cd30 "_law_is_whole" = true) (k30 : PySem.W.keepIn K (.ref f30) = true)
    {f31 : Addr} {od31 an31 : Option Addr} {sl31 : Array (Option Value)} {oc31 kV31 dc31 pm31 cd31 ct31 : Value}
    (a31 : PySem.W.nsIn K mainGlobals "_law_is_three" = some (some (.ref f31)))
    (l31 : K.lookup f31 = some ⟨oc31, od31, .func (PySem.W.fnOf "_law_is_three" "_law_is_three" (defArgs s_l_is_three) (defBody s_l_is_three) (defScope s_l_is_three) .none kV31 dc31 pm31 an31 cd31 ct31), sl31⟩) (c31 : PySem.W.codeIn K cd31 "_law_is_three" = true) (k31 : PySem.W.keepIn K (.ref f31) = true)
    {f32 : Addr} {od32 an32 : Option Addr} {sl32 : Array (Option Value)} {oc32 kV32 dc32 pm32 cd32 ct32 : Value}
    {pp32 : Addr} {pr32 : List Value} (a32 : PySem.W.findIn K (.ref C_Form) "degree" = some (some (.ref pp32))) (pa32 : PySem.W.specialIn K (.ref pp32) "__get__" = some (some (.builtin "property.__get__"))) (pb32 : PySem.W.takesIn K (.ref pp32) = some true) (pc32 : PySem.W.recIn K pp32 "property" = some (.ref f32 :: pr32))
    (l32 : K.lookup f32 = some ⟨oc32, od32, .func (PySem.W.fnOf "degree" "Form.degree" (defArgs s_c_Form_degree) (defBody s_c_Form_degree) (defScope s_c_Form_degree) .none kV32 dc32 pm32 an32 cd32 ct32), sl32⟩) (c32 : PySem.W.codeIn K cd32 "Form.degree" = true) (k32 : PySem.W.keepIn K (.ref f32) = true)
    {f33 : Addr} {od33 an33 : Option Addr} {sl33 : Array (Option Value)} {oc33 kV33 dc33 pm33 cd33 ct33 : Value}
    (a33 : PySem.W.nsIn K mainGlobals "is_list" = some (some (.ref f33)))
    (l33 : K.lookup f33 = some ⟨oc33, od33, .func (PySem.W.fnOf "is_list" "is_list" (defArgs s_p_is_list) (defBody s_p_is_list) (defScope s_p_is_list) .none kV33 dc33 pm33 an33 cd33 ct33), sl33⟩) (c33 : PySem.W.codeIn K cd33 "is_list" = true) (k33 : PySem.W.keepIn K (.ref f33) = true)
    {f34 : Addr} {od34 an34 : Option Addr} {sl34 : Array (Option Value)} {oc34 kV34 dc34 pm34 cd34 ct34 : Value}
    (a34 : PySem.W.nsIn K mainGlobals "_law_right" = some (some (.ref f34)))
    (l34 : K.lookup f34 = some ⟨oc34, od34, .func (PySem.W.fnOf "_law_right" "_law_right" (defArgs s_l_right) (defBody s_l_right) (defScope s_l_right) .none kV34 dc34 pm34 an34 cd34 ct34), sl34⟩) (c34 : PySem.W.codeIn K cd34 "_law_right" = true) (k34 : PySem.W.keepIn K (.ref f34) = true)
    {f35 : Addr} {od35 an35 : Option Addr} {sl35 : Array (Option Value)} {oc35 kV35 dc35 pm35 cd35 ct35 : Value}
    (a35 : PySem.W.nsIn K mainGlobals "_law_pot" = some (some (.ref f35)))
    (l35 : K.lookup f35 = some ⟨oc35, od35, .func (PySem.W.fnOf "_law_pot" "_law_pot" (defArgs s_l_pot) (defBody s_l_pot) (defScope s_l_pot) .none kV35 dc35 pm35 an35 cd35 ct35), sl35⟩) (c35 : PySem.W.codeIn K cd35 "_law_pot" = true) (k35 : PySem.W.keepIn K (.ref f35) = true)
    {f36 : Addr} {od36 an36 : Option Addr} {sl36 : Array (Option Value)} {oc36 kV36 dc36 pm36 cd36 ct36 : Value}
    (a36 : PySem.W.nsIn K mainGlobals "law" = some (some (.ref f36)))
    (l36 : K.lookup f36 = some ⟨oc36, od36, .func (PySem.W.fnOf "law" "law" (defArgs s_law_) (defBody s_law_) (defScope s_law_) .none kV36 dc36 pm36 an36 cd36 ct36), sl36⟩) (c36 : PySem.W.codeIn K cd36 "law" = true) (k36 : PySem.W.keepIn K (.ref f36) = true)
    (hb_abs : PySem.W.nsIn K mainGlobals "abs" = some none)
    (hb_all : PySem.W.nsIn K mainGlobals "all" = some none)
    (hb_bool : PySem.W.nsIn K mainGlobals "bool" = some none)
    (hb_dict : PySem.W.nsIn K mainGlobals "dict" = some none)
    (hb_divmod : PySem.W.nsIn K mainGlobals "divmod" = some none)
    (hb_int : PySem.W.nsIn K mainGlobals "int" = some none)
    (hb_isinstance : PySem.W.nsIn K mainGlobals "isinstance" = some none)
    (hb_len : PySem.W.nsIn K mainGlobals "len" = some none)
    (hb_list : PySem.W.nsIn K mainGlobals "list" = some none)
    (hb_max : PySem.W.nsIn K mainGlobals "max" = some none)
    (hb_min : PySem.W.nsIn K mainGlobals "min" = some none)
    (hb_range : PySem.W.nsIn K mainGlobals "range" = some none)
    (hb_repr : PySem.W.nsIn K mainGlobals "repr" = some none)
    (hb_sorted : PySem.W.nsIn K mainGlobals "sorted" = some none)
    (hb_sum : PySem.W.nsIn K mainGlobals "sum" = some none)
    (hb_tuple : PySem.W.nsIn K mainGlobals "tuple" = some none)
    {tk_MOST_DEGREE : Tok} (hc_MOST_DEGREE : PySem.W.nsIn K mainGlobals "MOST_DEGREE" = some (some (.int 12 tk_MOST_DEGREE))) : Top K mg :=
  { cl_Told := ⟨C_Told, PySem.W.mg_of X G aC_Told, ⟨pg_Told, hd_Told, po_Told, sa_Told⟩, (fa_cons nf_Told_told_degree (fa_cons nf_Told_told_terms fa_nil))⟩,
    cl_Form := ⟨C_Form, PySem.W.mg_of X G aC_Form, ⟨pg_Form, hd_Form, po_Form, sa_Form⟩, (fa_cons nf_Form_own_degree (fa_cons nf_Form_own_terms fa_nil))⟩,
    ci_Form := ⟨C_Form, PySem.W.mg_of X G aC_Form, (fa_cons (kit_ty ic_Form ty_Form kt_Form_NoneType) (fa_cons (kit_ty ic_Form ty_Form kt_Form_bool) (fa_cons (kit_ty ic_Form ty_Form kt_Form_int) (fa_cons (kit_ty ic_Form ty_Form kt_Form_str) (fa_cons (kit_ty ic_Form ty_Form kt_Form_list) (fa_cons (kit_ty ic_Form ty_Form kt_Form_tuple) (fa_cons (kit_ty ic_Form ty_Form kt_Form_dict) fa_nil))))))), (fa_cons ⟨C_Told, PySem.W.mg_of X G aC_Told, ⟨⟨pg_Told, hd_Told, po_Told, sa_Told⟩, ha_Told, oN, oT, hm_Told, kit_self⟩, (kit_ref ne_Form_Told ic_Form ty_Form ks_Form_Told)⟩ (fa_cons ⟨C_Form, PySem.W.mg_of X G aC_Form, ⟨⟨pg_Form, hd_Form, po_Form, sa_Form⟩, ha_Form, oN, oT, hm_Form, kit_self⟩, kit_self⟩ fa_nil))⟩,
    ci_Told := ⟨C_Told, PySem.W.mg_of X G aC_Told, (fa_cons (kit_ty ic_Told ty_Told kt_Told_NoneType) (fa_cons (kit_ty ic_Told ty_Told kt_Told_bool) (fa_cons (kit_ty ic_Told ty_Told kt_Told_int) (fa_cons (kit_ty ic_Told ty_Told kt_Told_str) (fa_cons (kit_ty ic_Told ty_Told kt_Told_list) (fa_cons (kit_ty ic_Told ty_Told kt_Told_tuple) (fa_cons (kit_ty ic_Told ty_Told kt_Told_dict) fa_nil))))))), (fa_cons ⟨C_Told, PySem.W.mg_of X G aC_Told, ⟨⟨pg_Told, hd_Told, po_Told, sa_Told⟩, ha_Told, oN, oT, hm_Told, kit_self⟩, kit_self⟩ (fa_cons ⟨C_Form, PySem.W.mg_of X G aC_Form, ⟨⟨pg_Form, hd_Form, po_Form, sa_Form⟩, ha_Form, oN, oT, hm_Form, kit_self⟩, (kit_ref ne_Told_Form ic_Told ty_Told ks_Told_Form)⟩ fa_nil))⟩,
    sf_Form := ⟨C_Form, PySem.W.mg_of X G aC_Form, sv_Form⟩,
    eq_Form := ⟨C_Form, PySem.W.mg_of X G aC_Form, en_Form, eo_Form⟩,
    cT := ⟨(fa_cons ⟨C_Told, PySem.W.mg_of X G aC_Told, ⟨⟨pg_Told, hd_Told, po_Told, sa_Told⟩, ha_Told, oN, oT, hm_Told, kit_self⟩, (fa_cons (kit_own (by decide +kernel) st_Told_NoneType) (fa_cons (kit_own (by decide +kernel) st_Told_bool) (fa_cons (kit_own (by decide +kernel) st_Told_int) (fa_cons (kit_own (by decide +kernel) st_Told_str) (fa_cons (kit_own (by decide +kernel) st_Told_list) (fa_cons (kit_own (by decide +kernel) st_Told_tuple) (fa_cons (kit_own (by decide +kernel) st_Told_dict) fa_nil)))))))⟩ (fa_cons ⟨C_Form, PySem.W.mg_of X G aC_Form, ⟨⟨pg_Form, hd_Form, po_Form, sa_Form⟩, ha_Form, oN, oT, hm_Form, kit_self⟩, (fa_cons (kit_own (by decide +kernel) st_Form_NoneType) (fa_cons (kit_own (by decide +kernel) st_Form_bool) (fa_cons (kit_own (by decide +kernel) st_Form_int) (fa_cons (kit_own (by decide +kernel) st_Form_str) (fa_cons (kit_own (by decide +kernel) st_Form_list) (fa_cons (kit_own (by decide +kernel) st_Form_tuple) (fa_cons (kit_own (by decide +kernel) st_Form_dict) fa_nil)))))))⟩ fa_nil))⟩,
    f_i_Told := ⟨C_Told, f0, _, PySem.W.mg_of X G aC_Told, ⟨mk_Told, a0, i0, kc_Told⟩, fun_mk (st := s_i_Told) l0 c0 k0⟩,
    f_p_is_integer := ⟨f1, _, PySem.W.mg_of X G a1, fun_mk (st := s_p_is_integer) l1 c1 k1⟩,
    f_p_is_count := ⟨f2, _, PySem.W.mg_of X G a2, fun_mk (st := s_p_is_count) l2 c2 k2⟩,
    f_p_want_degree := ⟨f3, _, PySem.W.mg_of X G a3, fund_mk (st := s_p_want_degree) (its := [.int 0 tk3_0]) l3 c3 k3 t3 (.cons ⟨_, rfl⟩ .nil)⟩,
    f_p_is_triple := ⟨f4, _, PySem.W.mg_of X G a4, fun_mk (st := s_p_is_triple) l4 c4 k4⟩,
    f_p_are_terms := ⟨f5, _, PySem.W.mg_of X G a5, fun_mk (st := s_p_are_terms) l5 c5 k5⟩,
    f_p_falling := ⟨f6, _, PySem.W.mg_of X G a6, fun_mk (st := s_p_falling) l6 c6 k6⟩,
    f_p_told_form := ⟨f7, _, PySem.W.mg_of X G a7, fun_mk (st := s_p_told_form) l7 c7 k7⟩,
    f_i_Form := ⟨C_Form, f8, _, PySem.W.mg_of X G aC_Form, ⟨mk_Form, a8, i8, kc_Form⟩, fun_mk (st := s_i_Form) l8 c8 k8⟩,
    f_l_draw := ⟨f9, _, PySem.W.mg_of X G a9, fun_mk (st := s_l_draw) l9 c9 k9⟩,
    f_l_triples := ⟨f10, _, PySem.W.mg_of X G a10, fun_mk (st := s_l_triples) l10 c10 k10⟩,
    f_l_clean := ⟨f11, _, PySem.W.mg_of X G a11, fun_mk (st := s_l_clean) l11 c11 k11⟩,
    f_l_pick := ⟨f12, _, PySem.W.mg_of X G a12, fun_mk (st := s_l_pick) l12 c12 k12⟩,
    f_l_terms := ⟨f13, _, PySem.W.mg_of X G a13, fun_mk (st := s_l_terms) l13 c13 k13⟩,
    f_c_Form_terms := ⟨C_Form, f14, _, PySem.W.mg_of X G aC_Form, ⟨pg_Form, hd_Form, po_Form, sa_Form⟩, ⟨a14, i14, k14⟩, fun_mk (st := s_c_Form_terms) l14 c14 k14⟩,
    f_l_values := ⟨f15, _, PySem.W.mg_of X G a15, fun_mk (st := s_l_values) l15 c15 k15⟩,
    f_p_form_by := ⟨f16, _, PySem.W.mg_of X G a16, fun_mk (st := s_p_form_by) l16 c16 k16⟩,
    f_p_letter_forms := ⟨f17, _, PySem.W.mg_of X G a17, fun_mk (st := s_p_letter_forms) l17 c17 k17⟩,
    f_p_want_number := ⟨f18, _, PySem.W.mg_of X G a18, fun_mk (st := s_p_want_number) l18 c18 k18⟩,
    f_p_plus_terms := ⟨f19, _, PySem.W.mg_of X G a19, fun_mk (st := s_p_plus_terms) l19 c19 k19⟩,
    f_c_Form_times := ⟨C_Form, f20, _, PySem.W.mg_of X G aC_Form, ⟨pg_Form, hd_Form, po_Form, sa_Form⟩, ⟨a20, i20, k20⟩, fun_mk (st := s_c_Form_times) l20 c20 k20⟩,
    f_c_Form___neg__ := ⟨C_Form, f21, _, PySem.W.mg_of X G aC_Form, ⟨pg_Form, hd_Form, po_Form, sa_Form⟩, ⟨a21, i21, k21⟩, fun_mk (st := s_c_Form___neg__) l21 c21 k21⟩,
    f_p_want_form := ⟨f22, _, PySem.W.mg_of X G a22, fun_mk (st := s_p_want_form) l22 c22 k22⟩,
    f_p_want_like := ⟨f23, _, PySem.W.mg_of X G a23, fun_mk (st := s_p_want_like) l23 c23 k23⟩,
    f_c_Form___add__ := ⟨C_Form, f24, _, PySem.W.mg_of X G aC_Form, ⟨pg_Form, hd_Form, po_Form, sa_Form⟩, ⟨a24, i24, k24⟩, fun_mk (st := s_c_Form___add__) l24 c24 k24⟩,
    f_p_want_at_most := ⟨f25, _, PySem.W.mg_of X G a25, fun_mk (st := s_p_want_at_most) l25 c25 k25⟩,
    f_p_times_terms := ⟨f26, _, PySem.W.mg_of X G a26, fun_mk (st := s_p_times_terms) l26 c26 k26⟩,
    f_c_Form___mul__ := ⟨C_Form, f27, _, PySem.W.mg_of X G aC_Form, ⟨pg_Form, hd_Form, po_Form, sa_Form⟩, ⟨a27, i27, k27⟩, fun_mk (st := s_c_Form___mul__) l27 c27 k27⟩,
    f_c_Form___eq__ := ⟨C_Form, f28, _, PySem.W.mg_of X G aC_Form, ⟨pg_Form, hd_Form, po_Form, sa_Form⟩, ⟨a28, i28, k28⟩, fun_mk (st := s_c_Form___eq__) l28 c28 k28⟩,
    f_c_Form___repr__ := ⟨C_Form, f29, _, PySem.W.mg_of X G aC_Form, ⟨pg_Form, hd_Form, po_Form, sa_Form⟩, ⟨a29, i29, k29⟩, fun_mk (st := s_c_Form___repr__) l29 c29 k29⟩,
    f_l_is_whole := ⟨f30, _, PySem.W.mg_of X G a30, fun_mk (st := s_l_is_whole) l30 c30 k30⟩,
    f_l_is_three := ⟨f31, _, PySem.W.mg_of X G a31, fun_mk (st := s_l_is_three) l31 c31 k31⟩,
    f_c_Form_degree := ⟨C_Form, pp32, f32, _, PySem.W.mg_of X G aC_Form, ⟨pg_Form, hd_Form, po_Form, sa_Form⟩, ⟨a32, pa32, pb32, _, pc32⟩, fun_mk (st := s_c_Form_degree) l32 c32 k32⟩,
    f_p_is_list := ⟨f33, _, PySem.W.mg_of X G a33, fun_mk (st := s_p_is_list) l33 c33 k33⟩,
    f_l_right := ⟨f34, _, PySem.W.mg_of X G a34, fun_mk (st := s_l_right) l34 c34 k34⟩,
    f_l_pot := ⟨f35, _, PySem.W.mg_of X G a35, fun_mk (st := s_l_pot) l35 c35 k35⟩,
    f_law_ := ⟨f36, _, PySem.W.mg_of X G a36, fun_mk (st := s_law_) l36 c36 k36⟩,
    b_abs := PySem.W.mg_none_of X G hb_abs,
    b_all := PySem.W.mg_none_of X G hb_all,
    b_bool := PySem.W.mg_none_of X G hb_bool,
    b_dict := PySem.W.mg_none_of X G hb_dict,
    b_divmod := PySem.W.mg_none_of X G hb_divmod,
    b_int := PySem.W.mg_none_of X G hb_int,
    b_isinstance := PySem.W.mg_none_of X G hb_isinstance,
    b_len := PySem.W.mg_none_of X G hb_len,
    b_list := PySem.W.mg_none_of X G hb_list,
    b_max := PySem.W.mg_none_of X G hb_max,
    b_min := PySem.W.mg_none_of X G hb_min,
    b_range := PySem.W.mg_none_of X G hb_range,
    b_repr := PySem.W.mg_none_of X G hb_repr,
    b_sorted := PySem.W.mg_none_of X G hb_sorted,
    b_sum := PySem.W.mg_none_of X G hb_sum,
    b_tuple := PySem.W.mg_none_of X G hb_tuple,
    c_MOST_DEGREE := ⟨_, PySem.W.mg_of X G hc_MOST_DEGREE, _, rfl⟩ }
section
variable {P : Program} {w : World} {K : PySem.W.Frag} {mg : Str → Option Value} {base : Heap}
theorem d_i_Told (T : Top K mg) : DMk P w K mg base 1 "Told" "Told.__init__" s_i_Told ["self", "degree", "terms"] [.f, .f] m_i_Told :=
  dmk_of (N := ["self", "degree", "terms"]) [.u, .f, .f] T.f_i_Told ⟨rfl, rfl, rfl, by decide, rfl, by decide, by decide⟩ rfl rfl (by decide) rfl (by decide) (by decide) fun f cdv A outer s H E o =>
  ⟨_, (din_fldC "Told" ["told_degree", "told_terms"] T.cl_Told (de_var 1) (din_fldC "Told" ["told_degree", "told_terms"] T.cl_Told (de_var 2) din_nil))⟩
theorem b_i_Told : ∀ (kV doc pm : Value) (an : Option Addr) (cdv ct : Value) (us : List Value), us.length = 3 → bindArgs (PySem.W.fnOf "__init__" "Told.__init__" (defArgs s_i_Told) (defBody s_i_Told) (defScope s_i_Told) .none kV doc pm an cdv ct) ⟨us, []⟩ = pure ((["self", "degree", "terms"] : List Str).zip us) := fun _ _ _ _ _ _ us hl => match us, hl with | [_, _, _], _ => rfl
theorem d_p_is_integer (T : Top K mg) : DFn P w K mg base 1 "is_integer" s_p_is_integer ["value"] [.f] .f m_p_is_integer :=
  dfn_of (N := ["value"]) [.f] [.f] T.f_p_is_integer ⟨rfl, rfl, rfl, by decide, rfl, by decide, by decide⟩ rfl rfl (by decide) rfl (by first | exact .inl (.inl rfl) | exact .inl (.inr rfl) | exact .inr rfl) fun f cdv A outer s H E o =>
  ⟨_, (dss_one (ds_ret (de_and (de_isiA (T := "int") ["Told", "Form"] T.cT T.b_isinstance T.b_int (de_var 0)) (de_one (de_not (de_isiA (T := "bool") ["Told", "Form"] T.cT T.b_isinstance T.b_bool (de_var
    0)))))))⟩
theorem b_p_is_integer : ∀ (kV doc pm : Value) (an : Option Addr) (cdv ct : Value) (us : List Value), us.length = 1 → bindArgs (PySem.W.fnOf "is_integer" "is_integer" (defArgs s_p_is_integer) (defBody s_p_is_integer) (defScope s_p_is_integer) .none kV doc pm an cdv ct) ⟨us, []⟩ = pure ((["value"] : List Str).zip us) := fun _ _ _ _ _ _ us hl => match us, hl with | [_], _ => rfl
theorem b_p_is_integer_k : ∀ (kV doc pm : Value) (an : Option Addr) (cdv ct : Value) (us : List Value), us.length = 1 → bindArgs (PySem.W.fnOf "is_integer" "is_integer" (defArgs s_p_is_integer) (defBody s_p_is_integer) (defScope s_p_is_integer) .none kV doc pm an cdv ct) ⟨[], (["value"] : List Str).zip us⟩ = pure ((["value"] : List Str).zip us) := fun _ _ _ _ _ _ us hl => match us, hl with | [_], _ => rfl
theorem d_p_is_count (T : Top K mg) : DFn P w K mg base 2 "is_count" s_p_is_count ["value"] [.f] .f m_p_is_count :=
  dfn_of (N := ["value"]) [.f] [.f] T.f_p_is_count ⟨rfl, rfl, rfl, by decide, rfl, by decide, by decide⟩ rfl rfl (by decide) rfl (by first | exact .inl (.inl rfl) | exact .inl (.inr rfl) | exact .inr rfl) fun f cdv A outer s H E o =>
  ⟨_, (dss_one (ds_ret (de_and (de_call (d_p_is_integer T) o b_p_is_integer (da_f (de_var 0) da_nil)) (de_one (de_cmp o_ge (de_var 0) de_int)))))⟩
theorem b_p_is_count : ∀ (kV doc pm : Value) (an : Option Addr) (cdv ct : Value) (us : List Value), us.length = 1 → bindArgs (PySem.W.fnOf "is_count" "is_count" (defArgs s_p_is_count) (defBody s_p_is_count) (defScope s_p_is_count) .none kV doc pm an cdv ct) ⟨us, []⟩ = pure ((["value"] : List Str).zip us) := fun _ _ _ _ _ _ us hl => match us, hl with | [_], _ => rfl
theorem b_p_is_count_k : ∀ (kV doc pm : Value) (an : Option Addr) (cdv ct : Value) (us : List Value), us.length = 1 → bindArgs (PySem.W.fnOf "is_count" "is_count" (defArgs s_p_is_count) (defBody s_p_is_count) (defScope s_p_is_count) .none kV doc pm an cdv ct) ⟨[], (["value"] : List Str).zip us⟩ = pure ((["value"] : List Str).zip us) := fun _ _ _ _ _ _ us hl => match us, hl with | [_], _ => rfl
theorem d_p_want_degree (T : Top K mg) : DFnD P w K mg base 3 "want_degree" s_p_want_degree ["value", "most", "least"] [.f, .f, .f] .f [.int 0] m_p_want_degree :=
  dfn_ofD (N := ["value", "most", "least"]) [.f, .f, .f] [.f, .f, .f] T.f_p_want_degree ⟨rfl, rfl, rfl, by decide, rfl, by decide, by decide⟩ rfl rfl (by decide) rfl (by first | exact .inl (.inl rfl) | exact .inl (.inr rfl) | exact .inr rfl) fun f cdv A outer s H E o =>
  ⟨_, (dss_one (ds_if (DW.dt (dw_or (dt_not (dt_of (de_call (d_p_is_count T) o b_p_is_count (da_f (de_var 0) da_nil)))) (dw_or (dt_cmp o_lt (de_var 0) (de_var 2)) (dw_or1 (dt_cmp o_gt (de_var 0) (de_var
    1)))))) (dss_one ds_never) dss_nil))⟩
theorem d_p_is_triple (T : Top K mg) : DFn P w K mg base 3 "is_triple" s_p_is_triple ["value"] [.f] .f m_p_is_triple :=
  dfn_of (N := ["value", "number"]) [.f, .f] [.f, .f] T.f_p_is_triple ⟨rfl, rfl, rfl, by decide, rfl, by decide, by decide⟩ rfl rfl (by decide) rfl (by first | exact .inl (.inl rfl) | exact .inl (.inr rfl) | exact .inr rfl) fun f cdv A outer s H E o =>
  ⟨_, (dss_one (ds_ret (de_and (de_isiA (T := "tuple") ["Told", "Form"] T.cT T.b_isinstance T.b_tuple (de_var 0)) (de_and (de_cmp (o_eq o) (de_callB c_len T.b_len (da_b (de_var 0) da_nil)) de_int) (de_one
    (de_callB (c_all o) T.b_all (da_b (de_lc (own := [("number", 1)]) o (di_seq (de_var 0)) (blk_of (by rfl)) (fun _ _ _ _ _ => ⟨_, (dg_name 1 (XOk.blk o).nd)⟩) (fun _ _ _ _ _ => ⟨_, dts_nil⟩) (fun _ _ _
    _ _ => ⟨_, (de_call (d_p_is_count T) (XOk.blk o) b_p_is_count (da_f (de_var 1) da_nil))⟩)) da_nil)))))))⟩
theorem b_p_is_triple : ∀ (kV doc pm : Value) (an : Option Addr) (cdv ct : Value) (us : List Value), us.length = 1 → bindArgs (PySem.W.fnOf "is_triple" "is_triple" (defArgs s_p_is_triple) (defBody s_p_is_triple) (defScope s_p_is_triple) .none kV doc pm an cdv ct) ⟨us, []⟩ = pure ((["value"] : List Str).zip us) := fun _ _ _ _ _ _ us hl => match us, hl with | [_], _ => rfl
theorem b_p_is_triple_k : ∀ (kV doc pm : Value) (an : Option Addr) (cdv ct : Value) (us : List Value), us.length = 1 → bindArgs (PySem.W.fnOf "is_triple" "is_triple" (defArgs s_p_is_triple) (defBody s_p_is_triple) (defScope s_p_is_triple) .none kV doc pm an cdv ct) ⟨[], (["value"] : List Str).zip us⟩ = pure ((["value"] : List Str).zip us) := fun _ _ _ _ _ _ us hl => match us, hl with | [_], _ => rfl
theorem d_p_are_terms (T : Top K mg) : DFn P w K mg base 4 "are_terms" s_p_are_terms ["degree", "value"] [.f, .f] .f m_p_are_terms :=
  dfn_of (N := ["degree", "value", "triple"]) [.f, .f, .f] [.f, .f, .f] T.f_p_are_terms ⟨rfl, rfl, rfl, by decide, rfl, by decide, by decide⟩ rfl rfl (by decide) rfl (by first | exact .inl (.inl rfl) | exact .inl (.inr rfl) | exact .inr rfl) fun f cdv A outer s H E o =>
  ⟨_, (dss_cons (ds_if (dt_not (dt_of (de_isiA (T := "dict") ["Told", "Form"] T.cT T.b_isinstance T.b_dict (de_var 1)))) (dss_one (ds_ret de_bl)) dss_nil) (dss_cons (ds_forK 1 (by decide) o (de_var 1)
    (dg_name 2 o.nd) (dss_cons (ds_if (DW.dt (dw_or (dt_not (dt_of (de_call (d_p_is_triple T) o b_p_is_triple (da_f (de_var 2) da_nil)))) (dw_or1 (dt_cmp (o_ne o) (de_callB (c_sumT o) T.b_sum (da_b
    (de_var 2) da_nil)) (de_var 0))))) (dss_one (ds_ret de_bl)) dss_nil) (dss_one (ds_if (DW.dt (dw_or (dt_not (dt_of (de_call (d_p_is_integer T) o b_p_is_integer (da_f (de_ixDT o (de_var 1) (de_var 2))
    da_nil)))) (dw_or1 (dt_cmp (o_eq o) (de_ixDT o (de_var 1) (de_var 2)) de_int)))) (dss_one (ds_ret de_bl)) dss_nil)))) (dss_one (ds_ret de_bl))))⟩
theorem b_p_are_terms : ∀ (kV doc pm : Value) (an : Option Addr) (cdv ct : Value) (us : List Value), us.length = 2 → bindArgs (PySem.W.fnOf "are_terms" "are_terms" (defArgs s_p_are_terms) (defBody s_p_are_terms) (defScope s_p_are_terms) .none kV doc pm an cdv ct) ⟨us, []⟩ = pure ((["degree", "value"] : List Str).zip us) := fun _ _ _ _ _ _ us hl => match us, hl with | [_, _], _ => rfl
theorem d_p_falling (T : Top K mg) : DFn P w K mg base 1 "falling" s_p_falling ["terms"] [.f] .o m_p_falling :=
  dfn_of (N := ["terms", "triple"]) [.f, .f] [.f, .f] T.f_p_falling ⟨rfl, rfl, rfl, by decide, rfl, by decide, by decide⟩ rfl rfl (by decide) rfl (by first | exact .inl (.inl rfl) | exact .inl (.inr rfl) | exact .inr rfl) fun f cdv A outer s H E o =>
  ⟨_, (dss_one (ds_ret (de_dc (own := [("triple", 1)]) o (di_seq ((de_sortD 3 o (de_var 0) T.b_sorted)).toF) (blk_of (by rfl)) (fun _ _ _ _ _ => ⟨_, (dg_name 1 (XOk.blk o).nd)⟩) (fun _ _ _ _ _ => ⟨_,
    (dts_one (dt_cmp (o_ne (XOk.blk o)) (de_ixDT (XOk.blk o) (de_var 0) (de_var 1)) de_int))⟩) (fun _ _ _ _ _ => ⟨_, (de_var 1)⟩) (fun _ _ _ _ _ => ⟨_, (de_ixDT (XOk.blk o) (de_var 0) (de_var 1))⟩))))⟩
theorem b_p_falling : ∀ (kV doc pm : Value) (an : Option Addr) (cdv ct : Value) (us : List Value), us.length = 1 → bindArgs (PySem.W.fnOf "falling" "falling" (defArgs s_p_falling) (defBody s_p_falling) (defScope s_p_falling) .none kV doc pm an cdv ct) ⟨us, []⟩ = pure ((["terms"] : List Str).zip us) := fun _ _ _ _ _ _ us hl => match us, hl with | [_], _ => rfl
theorem d_p_told_form (T : Top K mg) : DFn P w K mg base 5 "told_form" s_p_told_form ["degree", "terms"] [.f, .f] .f m_p_told_form :=
  dfn_of (N := ["degree", "terms"]) [.f, .f] [.f, .f] T.f_p_told_form ⟨rfl, rfl, rfl, by decide, rfl, by decide, by decide⟩ rfl rfl (by decide) rfl (by first | exact .inl (.inl rfl) | exact .inl (.inr rfl) | exact .inr rfl) fun f cdv A outer s H E o =>
  ⟨_, (dss_cons (ds_if (dt_of (de_isC ["Told", "Form"] T.ci_Told T.b_isinstance (de_var 0))) (dss_one (ds_ret (de_var 0))) dss_nil) (dss_cons (ds_expr (de_callD (ks := [.f, .f]) 2 0 (d_p_want_degree T) o
    (fun _ _ _ _ _ _ _ us its h1 h2 => match us, its, h1, h2 with | [_, _], [_], _, _ => ⟨_, rfl, rfl⟩) (da_f (de_var 0) (da_f (de_glob T.c_MOST_DEGREE fun _ => .int _) da_nil)))) (dss_cons (ds_if
    (dt_not (dt_of (de_call (d_p_are_terms T) o b_p_are_terms (da_f (de_var 0) (da_f (de_var 1) da_nil))))) (dss_one ds_never) dss_nil) (dss_one (ds_ret ((de_new (d_i_Told T) o b_i_Told (da_f (de_var 0)
    (da_f ((de_call (d_p_falling T) o b_p_falling (da_f (de_var 1) da_nil))).toF da_nil)))).toF)))))⟩
theorem b_p_told_form : ∀ (kV doc pm : Value) (an : Option Addr) (cdv ct : Value) (us : List Value), us.length = 2 → bindArgs (PySem.W.fnOf "told_form" "told_form" (defArgs s_p_told_form) (defBody s_p_told_form) (defScope s_p_told_form) .none kV doc pm an cdv ct) ⟨us, []⟩ = pure ((["degree", "terms"] : List Str).zip us) := fun _ _ _ _ _ _ us hl => match us, hl with | [_, _], _ => rfl
theorem d_i_Form (T : Top K mg) : DMk P w K mg base 6 "Form" "Form.__init__" s_i_Form ["self", "degree", "terms"] [.f, .f] m_i_Form :=
  dmk_of (N := ["self", "degree", "terms", "told"]) [.u, .f, .f, .f] T.f_i_Form ⟨rfl, rfl, rfl, by decide, rfl, by decide, by decide⟩ rfl rfl (by decide) rfl (by decide) (by decide) fun f cdv A outer s H E o =>
  ⟨_, (din_set 3 o (de_call (d_p_told_form T) o b_p_told_form (da_f (de_var 1) (da_f (de_var 2) da_nil))) (din_fldC "Form" ["own_degree", "own_terms"] T.cl_Form (de_fld "Told" ["told_degree", "told_terms"]
    T.cl_Told (de_var 3)) (din_fldC "Form" ["own_degree", "own_terms"] T.cl_Form (de_fld "Told" ["told_degree", "told_terms"] T.cl_Told (de_var 3)) din_nil)))⟩
theorem b_i_Form : ∀ (kV doc pm : Value) (an : Option Addr) (cdv ct : Value) (us : List Value), us.length = 3 → bindArgs (PySem.W.fnOf "__init__" "Form.__init__" (defArgs s_i_Form) (defBody s_i_Form) (defScope s_i_Form) .none kV doc pm an cdv ct) ⟨us, []⟩ = pure ((["self", "degree", "terms"] : List Str).zip us) := fun _ _ _ _ _ _ us hl => match us, hl with | [_, _, _], _ => rfl
theorem d_l_draw (T : Top K mg) : DFn P w K mg base 1 "_law_draw" s_l_draw ["_law_pot_here", "_law_size"] [.p, .f] .f m_l_draw :=
  dfn_of (N := ["_law_pot_here", "_law_size", "_law_digit"]) [.p, .f, .f] [.p, .f, .f] T.f_l_draw ⟨rfl, rfl, rfl, by decide, rfl, by decide, by decide⟩ rfl rfl (by decide) rfl (by first | exact .inl (.inl rfl) | exact .inl (.inr rfl) | exact .inr rfl) fun f cdv A outer s H E o =>
  ⟨_, (dss_cons (ds_if (dt_cmp o_gt (de_pot0 0) de_int) (dss_cons (ds_potdm 0 2 o T.b_divmod (de_var 1)) (dss_one (ds_ret (de_var 2)))) dss_nil) (dss_cons (ds_pot1 0 (de_bin o_mod (de_callTy c_int T.b_int
    (da_b (de_bin o_add (de_bin o_mulA (de_pot1 0) de_int) de_int) da_nil)) de_int)) (dss_one (ds_ret (de_bin o_mod (de_callTy c_int T.b_int (da_b (de_bin o_fdivW (de_bin o_mod (de_callTy c_int T.b_int
    (da_b (de_bin o_mulA (de_pot1 0) (de_pot1 0)) da_nil)) de_int) de_int) da_nil)) (de_var 1))))))⟩
theorem b_l_draw : ∀ (kV doc pm : Value) (an : Option Addr) (cdv ct : Value) (us : List Value), us.length = 2 → bindArgs (PySem.W.fnOf "_law_draw" "_law_draw" (defArgs s_l_draw) (defBody s_l_draw) (defScope s_l_draw) .none kV doc pm an cdv ct) ⟨us, []⟩ = pure ((["_law_pot_here", "_law_size"] : List Str).zip us) := fun _ _ _ _ _ _ us hl => match us, hl with | [_, _], _ => rfl
theorem d_l_triples (T : Top K mg) : DFn P w K mg base 1 "_law_triples" s_l_triples ["_law_degree"] [.f] .o m_l_triples :=
  dfn_of (N := ["_law_degree", "_law_found", "_law_first", "_law_second"]) [.f, .o, .f, .f] [.f, .o, .f, .f] T.f_l_triples ⟨rfl, rfl, rfl, by decide, rfl, by decide, by decide⟩ rfl rfl (by decide) rfl (by first | exact .inl (.inl rfl) | exact .inl (.inr rfl) | exact .inr rfl) fun f cdv A outer s H E o =>
  ⟨_, (dss_cons (ds_set 1 o (de_lst da_nil)) (dss_cons (ds_for o (di_range1 T.b_range (da_f (de_bin o_add (de_var 0) de_int) da_nil)) (dg_name 2 o.nd) (dss_one (ds_ext 1 (de_lc (own := [("_law_second", 3)])
    o (di_range1 T.b_range (da_f (de_bin o_add (de_bin o_sub (de_var 0) (de_var 2)) de_int) da_nil)) (blk_of (by rfl)) (fun _ _ _ _ _ => ⟨_, (dg_name 3 (XOk.blk o).nd)⟩) (fun _ _ _ _ _ => ⟨_, dts_nil⟩)
    (fun _ _ _ _ _ => ⟨_, (de_tup (da_f (de_var 2) (da_f (de_var 3) (da_f (de_bin o_sub (de_bin o_sub (de_var 0) (de_var 2)) (de_var 3)) da_nil))))⟩))))) (dss_one (ds_ret (de_revL (de_callB (c_sortB o)
    T.b_sorted (da_b (de_varo 1) da_nil)))))))⟩
theorem b_l_triples : ∀ (kV doc pm : Value) (an : Option Addr) (cdv ct : Value) (us : List Value), us.length = 1 → bindArgs (PySem.W.fnOf "_law_triples" "_law_triples" (defArgs s_l_triples) (defBody s_l_triples) (defScope s_l_triples) .none kV doc pm an cdv ct) ⟨us, []⟩ = pure ((["_law_degree"] : List Str).zip us) := fun _ _ _ _ _ _ us hl => match us, hl with | [_], _ => rfl
theorem d_l_clean (T : Top K mg) : DFn P w K mg base 1 "_law_clean" s_l_clean ["_law_terms_here"] [.f] .o m_l_clean :=
  dfn_of (N := ["_law_terms_here", "_law_key"]) [.f, .f] [.f, .f] T.f_l_clean ⟨rfl, rfl, rfl, by decide, rfl, by decide, by decide⟩ rfl rfl (by decide) rfl (by first | exact .inl (.inl rfl) | exact .inl (.inr rfl) | exact .inr rfl) fun f cdv A outer s H E o =>
  ⟨_, (dss_one (ds_ret (de_callTy (c_dictP o) T.b_dict (da_b (de_lc (own := [("_law_key", 1)]) o (di_seq ((de_revL (de_callB (c_sortDA 3 o) T.b_sorted (da_b (de_var 0) da_nil)))).toF) (blk_of (by rfl)) (fun
    _ _ _ _ _ => ⟨_, (dg_name 1 (XOk.blk o).nd)⟩) (fun _ _ _ _ _ => ⟨_, (dts_one (dt_cmp (o_ne (XOk.blk o)) (de_ixDT (XOk.blk o) (de_var 0) (de_var 1)) de_int))⟩) (fun _ _ _ _ _ => ⟨_, (de_tup (da_f
    (de_var 1) (da_f (de_ixDT (XOk.blk o) (de_var 0) (de_var 1)) da_nil)))⟩)) da_nil))))⟩
theorem b_l_clean : ∀ (kV doc pm : Value) (an : Option Addr) (cdv ct : Value) (us : List Value), us.length = 1 → bindArgs (PySem.W.fnOf "_law_clean" "_law_clean" (defArgs s_l_clean) (defBody s_l_clean) (defScope s_l_clean) .none kV doc pm an cdv ct) ⟨us, []⟩ = pure ((["_law_terms_here"] : List Str).zip us) := fun _ _ _ _ _ _ us hl => match us, hl with | [_], _ => rfl
theorem d_l_pick (T : Top K mg) : DFn P w K mg base 2 "_law_pick" s_l_pick ["_law_pot_here", "_law_some"] [.p, .f] .f m_l_pick :=
  dfn_of (N := ["_law_pot_here", "_law_some"]) [.p, .f] [.p, .f] T.f_l_pick ⟨rfl, rfl, rfl, by decide, rfl, by decide, by decide⟩ rfl rfl (by decide) rfl (by first | exact .inl (.inl rfl) | exact .inl (.inr rfl) | exact .inr rfl) fun f cdv A outer s H E o =>
  ⟨_, (dss_one (ds_ret (de_ix (de_var 1) (de_call (d_l_draw T) o b_l_draw (da_p 0 (da_f (de_callB c_len T.b_len (da_b (de_var 1) da_nil)) da_nil))))))⟩
theorem b_l_pick : ∀ (kV doc pm : Value) (an : Option Addr) (cdv ct : Value) (us : List Value), us.length = 2 → bindArgs (PySem.W.fnOf "_law_pick" "_law_pick" (defArgs s_l_pick) (defBody s_l_pick) (defScope s_l_pick) .none kV doc pm an cdv ct) ⟨us, []⟩ = pure ((["_law_pot_here", "_law_some"] : List Str).zip us) := fun _ _ _ _ _ _ us hl => match us, hl with | [_, _], _ => rfl
theorem d_l_terms (T : Top K mg) : DFn P w K mg base 3 "_law_terms" s_l_terms ["_law_pot_here", "_law_degree"] [.p, .f] .o m_l_terms :=
  dfn_of (N := ["_law_pot_here", "_law_degree", "_law_found", "_law_key"]) [.p, .f, .o, .f] [.p, .f, .f, .f] T.f_l_terms ⟨rfl, rfl, rfl, by decide, rfl, by decide, by decide⟩ rfl rfl (by decide) rfl (by first | exact .inl (.inl rfl) | exact .inl (.inr rfl) | exact .inr rfl) fun f cdv A outer s H E o =>
  ⟨_, (dss_cons (ds_set 2 o de_dictN) (dss_cons (ds_for o (di_seq ((de_call (d_l_triples T) o b_l_triples (da_f (de_var 1) da_nil))).toF) (dg_name 3 o.nd) (dss_one (ds_putT 2 o (de_bin o_mulA (de_bin o_sub
    (de_call (d_l_draw T) o b_l_draw (da_p 0 (da_f de_int da_nil))) de_int) (de_call (d_l_pick T) o b_l_pick (da_p 0 (da_f ((de_lst (da_f de_int (da_f de_int (da_f de_int da_nil))))).toF da_nil))))
    (de_var 3)))) (dss_frz 2 (dss_one (ds_ret (de_call (d_l_clean T) o b_l_clean (da_f (de_var 2) da_nil)))))))⟩
theorem b_l_terms : ∀ (kV doc pm : Value) (an : Option Addr) (cdv ct : Value) (us : List Value), us.length = 2 → bindArgs (PySem.W.fnOf "_law_terms" "_law_terms" (defArgs s_l_terms) (defBody s_l_terms) (defScope s_l_terms) .none kV doc pm an cdv ct) ⟨us, []⟩ = pure ((["_law_pot_here", "_law_degree"] : List Str).zip us) := fun _ _ _ _ _ _ us hl => match us, hl with | [_, _], _ => rfl
theorem d_c_Form_terms (T : Top K mg) : DMe P w K mg base 1 "Form" "terms" "Form.terms" s_c_Form_terms ["self"] [] .o m_c_Form_terms :=
  dme_of (N := ["self"]) [.f] [.f] T.f_c_Form_terms ⟨rfl, rfl, rfl, by decide, rfl, by decide, by decide⟩ rfl rfl (by decide) rfl fun f cdv A outer s H E o =>
  ⟨_, (dss_one (ds_ret (de_callTy (c_dictC o) T.b_dict (da_b (de_fld "Form" ["own_degree", "own_terms"] T.cl_Form (de_var 0)) da_nil))))⟩
theorem b_c_Form_terms : ∀ (kV doc pm : Value) (an : Option Addr) (cdv ct : Value) (us : List Value), us.length = 1 → bindArgs (PySem.W.fnOf "terms" "Form.terms" (defArgs s_c_Form_terms) (defBody s_c_Form_terms) (defScope s_c_Form_terms) .none kV doc pm an cdv ct) ⟨us, []⟩ = pure ((["self"] : List Str).zip us) := fun _ _ _ _ _ _ us hl => match us, hl with | [_], _ => rfl
theorem d_l_values (T : Top K mg) : DFn P w K mg base 3 "_law_values" s_l_values ["_law_pot_here", "_law_form"] [.p, .f] .f m_l_values :=
  dfn_of (N := ["_law_pot_here", "_law_form", "_law_great", "_law_key", "_law_at", "_law_found", "_law_odd"]) [.p, .f, .f, .f, .f, .o, .f] [.p, .f, .f, .f, .f, .o, .f] T.f_l_values ⟨rfl, rfl, rfl, by decide, rfl, by decide, by decide⟩ rfl rfl (by decide) rfl (by first | exact .inl (.inl rfl) | exact .inl (.inr rfl) | exact .inr rfl) fun f cdv A outer s H E o =>
  ⟨_, (dss_cons (ds_par 2 3 o (de_bin o_mulA (de_call (d_l_draw T) o b_l_draw (da_p 0 (da_f de_int da_nil))) (de_bin o_pow de_int de_int)) (de_call (d_l_pick T) o b_l_pick (da_p 0 (da_f ((de_call
    (d_l_triples T) o b_l_triples (da_f (de_call (d_l_draw T) o b_l_draw (da_p 0 (da_f de_int da_nil))) da_nil))).toF da_nil)))) (dss_cons (ds_set 4 o (de_call (d_l_draw T) o b_l_draw (da_p 0 (da_f
    de_int da_nil)))) (dss_cons (ds_set 5 o (de_lst (da_f de_non (da_f de_int (da_f de_int (da_f (de_un o_neg de_int) (da_f de_bl (da_f de_bl (da_f de_str (da_f de_str (da_f de_str (da_f ((de_lst
    da_nil)).toF (da_f (de_tup da_nil) (da_f de_dict0 (da_f (de_var 2) (da_f (de_bin o_sub de_int (de_var 2)) (da_f (de_var 1) (da_f ((de_meth0 (d_c_Form_terms T) o b_c_Form_terms (de_var 1))).toF (da_f
    (de_var 3) (da_f ((de_callTy c_list T.b_list (da_b (de_var 3) da_nil))).toF da_nil)))))))))))))))))))) (dss_cons (ds_for o (di_seq ((de_lst (da_f de_bl (da_f de_bl (da_f (de_un o_neg de_int) (da_f
    de_non (da_f de_str (da_f (de_tup (da_f de_int da_nil)) (da_f (de_bin o_add (de_ix (de_var 3) (de_var 4)) de_int) (da_f (de_bin o_pow de_int de_int) da_nil)))))))))).toF) (dg_name 6 o.nd) (dss_one
    (ds_app 5 (de_bin o_add (de_bin o_add (de_slice (de_var 3) do_none (do_some (de_var 4))) (de_tup (da_f (de_var 6) da_nil))) (de_slice (de_var 3) (do_some (de_bin o_add (de_var 4) de_int))
    do_none))))) (dss_one (ds_ret (de_bin o_add (de_varo 5) (de_lst (da_f (de_slice (de_var 3) do_none (do_some de_int)) (da_f (de_bin o_add (de_var 3) (de_tup (da_f de_int da_nil))) (da_f ((de_lst (da_f
    (de_var 3) da_nil))).toF (da_f (de_tup (da_f (de_var 3) da_nil)) (da_f ((de_disp1 o (de_var 3) de_int)).toF (da_f ((de_lst (da_f de_non da_nil))).toF (da_f (de_tup (da_f (de_tup da_nil) da_nil))
    (da_f (de_tup (da_f (de_tup (da_f de_int (da_f de_int (da_f de_int da_nil)))) da_nil)) (da_f (de_tup (da_f de_int (da_f de_int (da_f de_int da_nil)))) (da_f ((de_lst (da_f de_int (da_f de_int (da_f
    de_int da_nil))))).toF da_nil))))))))))))))))))⟩
theorem b_l_values : ∀ (kV doc pm : Value) (an : Option Addr) (cdv ct : Value) (us : List Value), us.length = 2 → bindArgs (PySem.W.fnOf "_law_values" "_law_values" (defArgs s_l_values) (defBody s_l_values) (defScope s_l_values) .none kV doc pm an cdv ct) ⟨us, []⟩ = pure ((["_law_pot_here", "_law_form"] : List Str).zip us) := fun _ _ _ _ _ _ us hl => match us, hl with | [_, _], _ => rfl
theorem d_p_form_by (T : Top K mg) : DFn P w K mg base 8 "form_by" s_p_form_by ["degree", "terms"] [.f, .f] .o m_p_form_by :=
  dfn_of (N := ["degree", "terms"]) [.f, .f] [.f, .f] T.f_p_form_by ⟨rfl, rfl, rfl, by decide, rfl, by decide, by decide⟩ rfl rfl (by decide) rfl (by first | exact .inl (.inl rfl) | exact .inl (.inr rfl) | exact .inr rfl) fun f cdv A outer s H E o =>
  ⟨_, (dss_one (ds_ret (de_new (d_i_Form T) o b_i_Form (da_f ((de_new (d_i_Told T) o b_i_Told (da_f (de_var 0) (da_f ((de_call (d_p_falling T) o b_p_falling (da_f (de_var 1) da_nil))).toF da_nil)))).toF
    (da_f de_non da_nil)))))⟩
theorem b_p_form_by : ∀ (kV doc pm : Value) (an : Option Addr) (cdv ct : Value) (us : List Value), us.length = 2 → bindArgs (PySem.W.fnOf "form_by" "form_by" (defArgs s_p_form_by) (defBody s_p_form_by) (defScope s_p_form_by) .none kV doc pm an cdv ct) ⟨us, []⟩ = pure ((["degree", "terms"] : List Str).zip us) := fun _ _ _ _ _ _ us hl => match us, hl with | [_, _], _ => rfl
theorem d_p_letter_forms (T : Top K mg) : DFn P w K mg base 9 "letter_forms" s_p_letter_forms [] [] .o m_p_letter_forms :=
  dfn_of (N := ["triple"]) [.f] [.f] T.f_p_letter_forms ⟨rfl, rfl, rfl, by decide, rfl, by decide, by decide⟩ rfl rfl (by decide) rfl (by first | exact .inl (.inl rfl) | exact .inl (.inr rfl) | exact .inr rfl) fun f cdv A outer s H E o =>
  ⟨_, (dss_one (ds_ret (de_lc (own := [("triple", 0)]) o (di_seq (de_tup (da_f (de_tup (da_f de_int (da_f de_int (da_f de_int da_nil)))) (da_f (de_tup (da_f de_int (da_f de_int (da_f de_int da_nil)))) (da_f
    (de_tup (da_f de_int (da_f de_int (da_f de_int da_nil)))) da_nil))))) (blk_of (by rfl)) (fun _ _ _ _ _ => ⟨_, (dg_name 0 (XOk.blk o).nd)⟩) (fun _ _ _ _ _ => ⟨_, dts_nil⟩) (fun _ _ _ _ _ => ⟨_,
    ((de_call (d_p_form_by T) (XOk.blk o) b_p_form_by (da_f de_int (da_f ((de_disp1 (XOk.blk o) (de_var 0) de_int)).toF da_nil)))).toF⟩))))⟩
theorem b_p_letter_forms : ∀ (kV doc pm : Value) (an : Option Addr) (cdv ct : Value) (us : List Value), us.length = 0 → bindArgs (PySem.W.fnOf "letter_forms" "letter_forms" (defArgs s_p_letter_forms) (defBody s_p_letter_forms) (defScope s_p_letter_forms) .none kV doc pm an cdv ct) ⟨us, []⟩ = pure (([] : List Str).zip us) := fun _ _ _ _ _ _ us hl => match us, hl with | [], _ => rfl
theorem d_p_want_number (T : Top K mg) : DFn P w K mg base 2 "want_number" s_p_want_number ["value"] [.f] .f m_p_want_number :=
  dfn_of (N := ["value"]) [.f] [.f] T.f_p_want_number ⟨rfl, rfl, rfl, by decide, rfl, by decide, by decide⟩ rfl rfl (by decide) rfl (by first | exact .inl (.inl rfl) | exact .inl (.inr rfl) | exact .inr rfl) fun f cdv A outer s H E o =>
  ⟨_, (dss_one (ds_if (dt_not (dt_of (de_call (d_p_is_integer T) o b_p_is_integer (da_f (de_var 0) da_nil)))) (dss_one ds_never) dss_nil))⟩
theorem b_p_want_number : ∀ (kV doc pm : Value) (an : Option Addr) (cdv ct : Value) (us : List Value), us.length = 1 → bindArgs (PySem.W.fnOf "want_number" "want_number" (defArgs s_p_want_number) (defBody s_p_want_number) (defScope s_p_want_number) .none kV doc pm an cdv ct) ⟨us, []⟩ = pure ((["value"] : List Str).zip us) := fun _ _ _ _ _ _ us hl => match us, hl with | [_], _ => rfl
theorem d_p_plus_terms (T : Top K mg) : DFn P w K mg base 1 "plus_terms" s_p_plus_terms ["one", "other", "number"] [.f, .f, .f] .o m_p_plus_terms :=
  dfn_of (N := ["one", "other", "number", "found", "triple"]) [.f, .f, .f, .o, .f] [.f, .f, .f, .o, .f] T.f_p_plus_terms ⟨rfl, rfl, rfl, by decide, rfl, by decide, by decide⟩ rfl rfl (by decide) rfl (by first | exact .inl (.inl rfl) | exact .inl (.inr rfl) | exact .inr rfl) fun f cdv A outer s H E o =>
  ⟨_, (dss_cons (ds_set 3 o (de_callTy (c_dictC o) T.b_dict (da_b (de_var 0) da_nil))) (dss_cons (ds_forK 1 (by decide) o (de_var 1) (dg_name 4 o.nd) (dss_one (ds_putT 3 o (de_bin o_add (de_get2 o (de_varo
    3) (de_var 4) de_int) (de_bin o_mulA (de_var 2) (de_ixDT o (de_var 1) (de_var 4)))) (de_var 4)))) (dss_one (ds_reto 3))))⟩
theorem b_p_plus_terms : ∀ (kV doc pm : Value) (an : Option Addr) (cdv ct : Value) (us : List Value), us.length = 3 → bindArgs (PySem.W.fnOf "plus_terms" "plus_terms" (defArgs s_p_plus_terms) (defBody s_p_plus_terms) (defScope s_p_plus_terms) .none kV doc pm an cdv ct) ⟨us, []⟩ = pure ((["one", "other", "number"] : List Str).zip us) := fun _ _ _ _ _ _ us hl => match us, hl with | [_, _, _], _ => rfl
theorem d_c_Form_times (T : Top K mg) : DMe P w K mg base 9 "Form" "times" "Form.times" s_c_Form_times ["self", "number"] [.f] .o m_c_Form_times :=
  dme_of (N := ["self", "number"]) [.f, .f] [.f, .f] T.f_c_Form_times ⟨rfl, rfl, rfl, by decide, rfl, by decide, by decide⟩ rfl rfl (by decide) rfl fun f cdv A outer s H E o =>
  ⟨_, (dss_cons (ds_expr (de_call (d_p_want_number T) o b_p_want_number (da_f (de_var 1) da_nil))) (dss_one (ds_ret (de_call (d_p_form_by T) o b_p_form_by (da_f (de_fld "Form" ["own_degree", "own_terms"]
    T.cl_Form (de_var 0)) (da_f ((de_call (d_p_plus_terms T) o b_p_plus_terms (da_f de_dict0 (da_f (de_fld "Form" ["own_degree", "own_terms"] T.cl_Form (de_var 0)) (da_f (de_var 1) da_nil))))).toF
    da_nil))))))⟩
theorem b_c_Form_times : ∀ (kV doc pm : Value) (an : Option Addr) (cdv ct : Value) (us : List Value), us.length = 2 → bindArgs (PySem.W.fnOf "times" "Form.times" (defArgs s_c_Form_times) (defBody s_c_Form_times) (defScope s_c_Form_times) .none kV doc pm an cdv ct) ⟨us, []⟩ = pure ((["self", "number"] : List Str).zip us) := fun _ _ _ _ _ _ us hl => match us, hl with | [_, _], _ => rfl
theorem d_c_Form___neg__ (T : Top K mg) : DMe P w K mg base 9 "Form" "__neg__" "Form.__neg__" s_c_Form___neg__ ["self"] [] .o m_c_Form___neg__ :=
  dme_of (N := ["self"]) [.f] [.f] T.f_c_Form___neg__ ⟨rfl, rfl, rfl, by decide, rfl, by decide, by decide⟩ rfl rfl (by decide) rfl fun f cdv A outer s H E o =>
  ⟨_, (dss_one (ds_ret (de_call (d_p_form_by T) o b_p_form_by (da_f (de_fld "Form" ["own_degree", "own_terms"] T.cl_Form (de_var 0)) (da_f ((de_call (d_p_plus_terms T) o b_p_plus_terms (da_f de_dict0 (da_f
    (de_fld "Form" ["own_degree", "own_terms"] T.cl_Form (de_var 0)) (da_f (de_un o_neg de_int) da_nil))))).toF da_nil)))))⟩
theorem b_c_Form___neg__ : ∀ (kV doc pm : Value) (an : Option Addr) (cdv ct : Value) (us : List Value), us.length = 1 → bindArgs (PySem.W.fnOf "__neg__" "Form.__neg__" (defArgs s_c_Form___neg__) (defBody s_c_Form___neg__) (defScope s_c_Form___neg__) .none kV doc pm an cdv ct) ⟨us, []⟩ = pure ((["self"] : List Str).zip us) := fun _ _ _ _ _ _ us hl => match us, hl with | [_], _ => rfl
theorem d_p_want_form (T : Top K mg) : DFn P w K mg base 1 "want_form" s_p_want_form ["value"] [.f] .f m_p_want_form :=
  dfn_of (N := ["value"]) [.f] [.f] T.f_p_want_form ⟨rfl, rfl, rfl, by decide, rfl, by decide, by decide⟩ rfl rfl (by decide) rfl (by first | exact .inl (.inl rfl) | exact .inl (.inr rfl) | exact .inr rfl) fun f cdv A outer s H E o =>
  ⟨_, (dss_one (ds_if (dt_not (dt_of (de_isC ["Told", "Form"] T.ci_Form T.b_isinstance (de_var 0)))) (dss_one ds_never) dss_nil))⟩
theorem b_p_want_form : ∀ (kV doc pm : Value) (an : Option Addr) (cdv ct : Value) (us : List Value), us.length = 1 → bindArgs (PySem.W.fnOf "want_form" "want_form" (defArgs s_p_want_form) (defBody s_p_want_form) (defScope s_p_want_form) .none kV doc pm an cdv ct) ⟨us, []⟩ = pure ((["value"] : List Str).zip us) := fun _ _ _ _ _ _ us hl => match us, hl with | [_], _ => rfl
theorem d_p_want_like (T : Top K mg) : DFn P w K mg base 2 "want_like" s_p_want_like ["one", "other"] [.f, .f] .f m_p_want_like :=
  dfn_of (N := ["one", "other"]) [.f, .f] [.f, .f] T.f_p_want_like ⟨rfl, rfl, rfl, by decide, rfl, by decide, by decide⟩ rfl rfl (by decide) rfl (by first | exact .inl (.inl rfl) | exact .inl (.inr rfl) | exact .inr rfl) fun f cdv A outer s H E o =>
  ⟨_, (dss_cons (ds_expr (de_call (d_p_want_form T) o b_p_want_form (da_f (de_var 1) da_nil))) (dss_one (ds_if (dt_cmp (o_ne o) (de_fld "Form" ["own_degree", "own_terms"] T.cl_Form (de_var 0)) (de_fld "Form"
    ["own_degree", "own_terms"] T.cl_Form (de_var 1))) (dss_one ds_never) dss_nil)))⟩
theorem b_p_want_like : ∀ (kV doc pm : Value) (an : Option Addr) (cdv ct : Value) (us : List Value), us.length = 2 → bindArgs (PySem.W.fnOf "want_like" "want_like" (defArgs s_p_want_like) (defBody s_p_want_like) (defScope s_p_want_like) .none kV doc pm an cdv ct) ⟨us, []⟩ = pure ((["one", "other"] : List Str).zip us) := fun _ _ _ _ _ _ us hl => match us, hl with | [_, _], _ => rfl
theorem d_c_Form___add__ (T : Top K mg) : DMe P w K mg base 9 "Form" "__add__" "Form.__add__" s_c_Form___add__ ["self", "other"] [.f] .o m_c_Form___add__ :=
  dme_of (N := ["self", "other"]) [.f, .f] [.f, .f] T.f_c_Form___add__ ⟨rfl, rfl, rfl, by decide, rfl, by decide, by decide⟩ rfl rfl (by decide) rfl fun f cdv A outer s H E o =>
  ⟨_, (dss_cons (ds_expr (de_call (d_p_want_like T) o b_p_want_like (da_f (de_var 0) (da_f (de_var 1) da_nil)))) (dss_one (ds_ret (de_call (d_p_form_by T) o b_p_form_by (da_f (de_fld "Form" ["own_degree",
    "own_terms"] T.cl_Form (de_var 0)) (da_f ((de_call (d_p_plus_terms T) o b_p_plus_terms (da_f (de_fld "Form" ["own_degree", "own_terms"] T.cl_Form (de_var 0)) (da_f (de_fld "Form" ["own_degree",
    "own_terms"] T.cl_Form (de_var 1)) (da_f de_int da_nil))))).toF da_nil))))))⟩
theorem b_c_Form___add__ : ∀ (kV doc pm : Value) (an : Option Addr) (cdv ct : Value) (us : List Value), us.length = 2 → bindArgs (PySem.W.fnOf "__add__" "Form.__add__" (defArgs s_c_Form___add__) (defBody s_c_Form___add__) (defScope s_c_Form___add__) .none kV doc pm an cdv ct) ⟨us, []⟩ = pure ((["self", "other"] : List Str).zip us) := fun _ _ _ _ _ _ us hl => match us, hl with | [_, _], _ => rfl
theorem d_p_want_at_most (T : Top K mg) : DFn P w K mg base 1 "want_at_most" s_p_want_at_most ["what", "limit", "number"] [.f, .f, .f] .f m_p_want_at_most :=
  dfn_of (N := ["what", "limit", "number"]) [.f, .f, .f] [.f, .f, .f] T.f_p_want_at_most ⟨rfl, rfl, rfl, by decide, rfl, by decide, by decide⟩ rfl rfl (by decide) rfl (by first | exact .inl (.inl rfl) | exact .inl (.inr rfl) | exact .inr rfl) fun f cdv A outer s H E o =>
  ⟨_, (dss_one (ds_if (dt_cmp o_gt (de_var 2) (de_var 1)) (dss_one ds_never) dss_nil))⟩
theorem b_p_want_at_most : ∀ (kV doc pm : Value) (an : Option Addr) (cdv ct : Value) (us : List Value), us.length = 3 → bindArgs (PySem.W.fnOf "want_at_most" "want_at_most" (defArgs s_p_want_at_most) (defBody s_p_want_at_most) (defScope s_p_want_at_most) .none kV doc pm an cdv ct) ⟨us, []⟩ = pure ((["what", "limit", "number"] : List Str).zip us) := fun _ _ _ _ _ _ us hl => match us, hl with | [_, _, _], _ => rfl
theorem d_p_times_terms (T : Top K mg) : DFn P w K mg base 1 "times_terms" s_p_times_terms ["one", "other"] [.f, .f] .o m_p_times_terms :=
  dfn_of (N := ["one", "other", "found", "near", "far", "triple"]) [.f, .f, .o, .f, .f, .f] [.f, .f, .o, .f, .f, .f] T.f_p_times_terms ⟨rfl, rfl, rfl, by decide, rfl, by decide, by decide⟩ rfl rfl (by decide) rfl (by first | exact .inl (.inl rfl) | exact .inl (.inr rfl) | exact .inr rfl) fun f cdv A outer s H E o =>
  ⟨_, (dss_cons (ds_set 2 o de_dictN) (dss_cons (ds_forK 0 (by decide) o (de_var 0) (dg_name 3 o.nd) (dss_one (ds_forK 1 (by decide) o (de_var 1) (dg_name 4 o.nd) (dss_cons (ds_set 5 o (de_tup (da_f (de_bin
    o_add (de_ix (de_var 3) de_int) (de_ix (de_var 4) de_int)) (da_f (de_bin o_add (de_ix (de_var 3) de_int) (de_ix (de_var 4) de_int)) (da_f (de_bin o_add (de_ix (de_var 3) de_int) (de_ix (de_var 4)
    de_int)) da_nil))))) (dss_one (ds_putT 2 o (de_bin o_add (de_get2 o (de_varo 2) (de_var 5) de_int) (de_bin o_mulA (de_ixDT o (de_var 0) (de_var 3)) (de_ixDT o (de_var 1) (de_var 4)))) (de_var
    5))))))) (dss_one (ds_reto 2))))⟩
theorem b_p_times_terms : ∀ (kV doc pm : Value) (an : Option Addr) (cdv ct : Value) (us : List Value), us.length = 2 → bindArgs (PySem.W.fnOf "times_terms" "times_terms" (defArgs s_p_times_terms) (defBody s_p_times_terms) (defScope s_p_times_terms) .none kV doc pm an cdv ct) ⟨us, []⟩ = pure ((["one", "other"] : List Str).zip us) := fun _ _ _ _ _ _ us hl => match us, hl with | [_, _], _ => rfl
theorem d_c_Form___mul__ (T : Top K mg) : DMe P w K mg base 9 "Form" "__mul__" "Form.__mul__" s_c_Form___mul__ ["self", "other"] [.f] .o m_c_Form___mul__ :=
  dme_of (N := ["self", "other"]) [.f, .f] [.f, .f] T.f_c_Form___mul__ ⟨rfl, rfl, rfl, by decide, rfl, by decide, by decide⟩ rfl rfl (by decide) rfl fun f cdv A outer s H E o =>
  ⟨_, (dss_cons (ds_expr (de_call (d_p_want_form T) o b_p_want_form (da_f (de_var 1) da_nil))) (dss_cons (ds_expr (de_call (d_p_want_at_most T) o b_p_want_at_most (da_f de_str (da_f (de_glob T.c_MOST_DEGREE
    fun _ => .int _) (da_f (de_bin o_add (de_fld "Form" ["own_degree", "own_terms"] T.cl_Form (de_var 0)) (de_fld "Form" ["own_degree", "own_terms"] T.cl_Form (de_var 1))) da_nil))))) (dss_one (ds_ret
    (de_call (d_p_form_by T) o b_p_form_by (da_f (de_bin o_add (de_fld "Form" ["own_degree", "own_terms"] T.cl_Form (de_var 0)) (de_fld "Form" ["own_degree", "own_terms"] T.cl_Form (de_var 1))) (da_f
    ((de_call (d_p_times_terms T) o b_p_times_terms (da_f (de_fld "Form" ["own_degree", "own_terms"] T.cl_Form (de_var 0)) (da_f (de_fld "Form" ["own_degree", "own_terms"] T.cl_Form (de_var 1))
    da_nil)))).toF da_nil)))))))⟩
theorem b_c_Form___mul__ : ∀ (kV doc pm : Value) (an : Option Addr) (cdv ct : Value) (us : List Value), us.length = 2 → bindArgs (PySem.W.fnOf "__mul__" "Form.__mul__" (defArgs s_c_Form___mul__) (defBody s_c_Form___mul__) (defScope s_c_Form___mul__) .none kV doc pm an cdv ct) ⟨us, []⟩ = pure ((["self", "other"] : List Str).zip us) := fun _ _ _ _ _ _ us hl => match us, hl with | [_, _], _ => rfl
theorem d_c_Form___eq__ (T : Top K mg) : DMe P w K mg base 1 "Form" "__eq__" "Form.__eq__" s_c_Form___eq__ ["self", "other"] [.f] .f m_c_Form___eq__ :=
  dme_of (N := ["self", "other"]) [.f, .f] [.f, .f] T.f_c_Form___eq__ ⟨rfl, rfl, rfl, by decide, rfl, by decide, by decide⟩ rfl rfl (by decide) rfl fun f cdv A outer s H E o =>
  ⟨_, (dss_cons (ds_if (dt_not (dt_of (de_isC ["Told", "Form"] T.ci_Form T.b_isinstance (de_var 1)))) (dss_one (ds_ret de_bl)) dss_nil) (dss_one (ds_ret (de_and (de_cmp (o_eq o) (de_fld "Form" ["own_degree",
    "own_terms"] T.cl_Form (de_var 0)) (de_fld "Form" ["own_degree", "own_terms"] T.cl_Form (de_var 1))) (de_one (de_cmp (o_eqTG o) (de_fld "Form" ["own_degree", "own_terms"] T.cl_Form (de_var 0))
    (de_fld "Form" ["own_degree", "own_terms"] T.cl_Form (de_var 1))))))))⟩
theorem b_c_Form___eq__ : ∀ (kV doc pm : Value) (an : Option Addr) (cdv ct : Value) (us : List Value), us.length = 2 → bindArgs (PySem.W.fnOf "__eq__" "Form.__eq__" (defArgs s_c_Form___eq__) (defBody s_c_Form___eq__) (defScope s_c_Form___eq__) .none kV doc pm an cdv ct) ⟨us, []⟩ = pure ((["self", "other"] : List Str).zip us) := fun _ _ _ _ _ _ us hl => match us, hl with | [_, _], _ => rfl
theorem d_c_Form___repr__ (T : Top K mg) : DMe P w K mg base 1 "Form" "__repr__" "Form.__repr__" s_c_Form___repr__ ["self"] [] .f m_c_Form___repr__ :=
  dme_of (N := ["self"]) [.f] [.f] T.f_c_Form___repr__ ⟨rfl, rfl, rfl, by decide, rfl, by decide, by decide⟩ rfl rfl (by decide) rfl fun f cdv A outer s H E o =>
  ⟨_, (dss_one (ds_ret (de_join (.cons de_str (.cons (de_fmtI (de_fld "Form" ["own_degree", "own_terms"] T.cl_Form (de_var 0))) (.cons de_str (.cons (de_fmtRT o (de_fld "Form" ["own_degree", "own_terms"]
    T.cl_Form (de_var 0)).toB) (.cons de_str .nil))))))))⟩
theorem d_c_Form___repr___g (T : Top K mg) : DMG P w K mg base 1 "Form" "__repr__" "Form.__repr__" s_c_Form___repr__ ["self"] [] .f m_c_Form___repr__ :=
  dmg_of (N := ["self"]) [.f] [.f] T.f_c_Form___repr__ ⟨rfl, rfl, rfl, by decide, rfl, by decide, by decide⟩ rfl rfl (by decide) rfl fun f cdv A outer s H E o =>
  ⟨_, (dss_one (ds_ret (de_join (.cons de_str (.cons (de_fmtI (de_fld "Form" ["own_degree", "own_terms"] T.cl_Form (de_var 0))) (.cons de_str (.cons (de_fmtRTG o (de_fld "Form" ["own_degree", "own_terms"]
    T.cl_Form (de_var 0)).toB) (.cons de_str .nil))))))))⟩
theorem b_c_Form___repr__ : ∀ (kV doc pm : Value) (an : Option Addr) (cdv ct : Value) (us : List Value), us.length = 1 → bindArgs (PySem.W.fnOf "__repr__" "Form.__repr__" (defArgs s_c_Form___repr__) (defBody s_c_Form___repr__) (defScope s_c_Form___repr__) .none kV doc pm an cdv ct) ⟨us, []⟩ = pure ((["self"] : List Str).zip us) := fun _ _ _ _ _ _ us hl => match us, hl with | [_], _ => rfl
theorem d_l_is_whole (T : Top K mg) : DFn P w K mg base 1 "_law_is_whole" s_l_is_whole ["_law_value"] [.f] .f m_l_is_whole :=
  dfn_of (N := ["_law_value"]) [.f] [.f] T.f_l_is_whole ⟨rfl, rfl, rfl, by decide, rfl, by decide, by decide⟩ rfl rfl (by decide) rfl (by first | exact .inl (.inl rfl) | exact .inl (.inr rfl) | exact .inr rfl) fun f cdv A outer s H E o =>
  ⟨_, (dss_one (ds_ret (de_and (de_isiA (T := "int") ["Told", "Form"] T.cT T.b_isinstance T.b_int (de_var 0)) (de_one (de_not (de_isiA (T := "bool") ["Told", "Form"] T.cT T.b_isinstance T.b_bool (de_var
    0)))))))⟩
theorem b_l_is_whole : ∀ (kV doc pm : Value) (an : Option Addr) (cdv ct : Value) (us : List Value), us.length = 1 → bindArgs (PySem.W.fnOf "_law_is_whole" "_law_is_whole" (defArgs s_l_is_whole) (defBody s_l_is_whole) (defScope s_l_is_whole) .none kV doc pm an cdv ct) ⟨us, []⟩ = pure ((["_law_value"] : List Str).zip us) := fun _ _ _ _ _ _ us hl => match us, hl with | [_], _ => rfl
theorem d_l_is_three (T : Top K mg) : DFn P w K mg base 2 "_law_is_three" s_l_is_three ["_law_value"] [.f] .f m_l_is_three :=
  dfn_of (N := ["_law_value", "_law_number"]) [.f, .f] [.f, .f] T.f_l_is_three ⟨rfl, rfl, rfl, by decide, rfl, by decide, by decide⟩ rfl rfl (by decide) rfl (by first | exact .inl (.inl rfl) | exact .inl (.inr rfl) | exact .inr rfl) fun f cdv A outer s H E o =>
  ⟨_, (dss_cons (ds_if (DW.dt (dw_or (dt_not (dt_of (de_isiA (T := "tuple") ["Told", "Form"] T.cT T.b_isinstance T.b_tuple (de_var 0)))) (dw_or1 (dt_cmp (o_ne o) (de_callB c_len T.b_len (da_b (de_var 0)
    da_nil)) de_int)))) (dss_one (ds_ret de_bl)) dss_nil) (dss_one (ds_ret (de_callB (c_all o) T.b_all (da_b (de_lc (own := [("_law_number", 1)]) o (di_seq (de_var 0)) (blk_of (by rfl)) (fun _ _ _ _ _ =>
    ⟨_, (dg_name 1 (XOk.blk o).nd)⟩) (fun _ _ _ _ _ => ⟨_, dts_nil⟩) (fun _ _ _ _ _ => ⟨_, (de_and (de_call (d_l_is_whole T) (XOk.blk o) b_l_is_whole (da_f (de_var 1) da_nil)) (de_one (de_cmp o_ge
    (de_var 1) de_int)))⟩)) da_nil)))))⟩
theorem b_l_is_three : ∀ (kV doc pm : Value) (an : Option Addr) (cdv ct : Value) (us : List Value), us.length = 1 → bindArgs (PySem.W.fnOf "_law_is_three" "_law_is_three" (defArgs s_l_is_three) (defBody s_l_is_three) (defScope s_l_is_three) .none kV doc pm an cdv ct) ⟨us, []⟩ = pure ((["_law_value"] : List Str).zip us) := fun _ _ _ _ _ _ us hl => match us, hl with | [_], _ => rfl
theorem d_c_Form_degree (T : Top K mg) : DPr P w K mg base 1 "Form" "degree" "Form.degree" s_c_Form_degree ["self"] .f m_c_Form_degree :=
  dpr_of (N := ["self"]) [.f] [.f] T.f_c_Form_degree ⟨rfl, rfl, rfl, by decide, rfl, by decide, by decide⟩ rfl rfl (by decide) rfl fun f cdv A outer s H E o =>
  ⟨_, (dss_one (ds_ret (de_fld "Form" ["own_degree", "own_terms"] T.cl_Form (de_var 0))))⟩
theorem b_c_Form_degree : ∀ (kV doc pm : Value) (an : Option Addr) (cdv ct : Value) (us : List Value), us.length = 1 → bindArgs (PySem.W.fnOf "degree" "Form.degree" (defArgs s_c_Form_degree) (defBody s_c_Form_degree) (defScope s_c_Form_degree) .none kV doc pm an cdv ct) ⟨us, []⟩ = pure ((["self"] : List Str).zip us) := fun _ _ _ _ _ _ us hl => match us, hl with | [_], _ => rfl
theorem d_p_is_list (T : Top K mg) : DFn P w K mg base 1 "is_list" s_p_is_list ["value"] [.f] .f m_p_is_list :=
  dfn_of (N := ["value"]) [.f] [.f] T.f_p_is_list ⟨rfl, rfl, rfl, by decide, rfl, by decide, by decide⟩ rfl rfl (by decide) rfl (by first | exact .inl (.inl rfl) | exact .inl (.inr rfl) | exact .inr rfl) fun f cdv A outer s H E o =>
  ⟨_, (dss_one (ds_ret (de_isi2A (T := "list") (U := "tuple") ["Told", "Form"] T.cT T.b_isinstance T.b_list T.b_tuple (de_var 0))))⟩
theorem b_p_is_list : ∀ (kV doc pm : Value) (an : Option Addr) (cdv ct : Value) (us : List Value), us.length = 1 → bindArgs (PySem.W.fnOf "is_list" "is_list" (defArgs s_p_is_list) (defBody s_p_is_list) (defScope s_p_is_list) .none kV doc pm an cdv ct) ⟨us, []⟩ = pure ((["value"] : List Str).zip us) := fun _ _ _ _ _ _ us hl => match us, hl with | [_], _ => rfl
theorem b_p_is_list_k : ∀ (kV doc pm : Value) (an : Option Addr) (cdv ct : Value) (us : List Value), us.length = 1 → bindArgs (PySem.W.fnOf "is_list" "is_list" (defArgs s_p_is_list) (defBody s_p_is_list) (defScope s_p_is_list) .none kV doc pm an cdv ct) ⟨[], (["value"] : List Str).zip us⟩ = pure ((["value"] : List Str).zip us) := fun _ _ _ _ _ _ us hl => match us, hl with | [_], _ => rfl
theorem d_l_right (T : Top K mg) : DFn P w K mg base 11 "_law_right" s_l_right ["_law_pot_here"] [.p] .f m_l_right :=
  dfn_of (N := ["_law_pot_here", "_law_degree", "_law_terms_here", "_law_form", "_law_value", "_law_x", "_law_y", "_law_z", "_law_others", "_law_dues", "_law_shown", "_law_whole", "_law_due", "_law_is_same", "_law_other"]) [.p, .f, .f, .f, .f, .f, .f, .f, .f, .f, .f, .f, .f, .f, .f] [.p, .f, .f, .f, .f, .f, .f, .f, .f, .f, .f, .f, .f, .f, .f] T.f_l_right ⟨rfl, rfl, rfl, by decide, rfl, by decide, by decide⟩ rfl rfl (by decide) rfl (by first | exact .inl (.inl rfl) | exact .inl (.inr rfl) | exact .inr rfl) fun f cdv A outer s H E o =>
  ⟨_, (dss_cons (ds_set 1 o (de_call (d_l_draw T) o b_l_draw (da_p 0 (da_f de_int da_nil)))) (dss_cons (ds_set 2 o ((de_call (d_l_terms T) o b_l_terms (da_p 0 (da_f (de_var 1) da_nil)))).toF) (dss_cons
    (ds_set 3 o ((de_new (d_i_Form T) o b_i_Form (da_f (de_var 1) (da_f (de_var 2) da_nil)))).toF) (dss_cons (ds_for o (di_seq (de_call (d_l_values T) o b_l_values (da_p 0 (da_f (de_var 3) da_nil))))
    (dg_name 4 o.nd) (dss_cons (ds_par 10 11 o (de_reprAny (n := 1) (.cons ⟨_, _, _, _, ⟨_, _, _, _, d_c_Form___repr__ T, by decide, b_c_Form___repr__⟩, by decide, d_c_Form___repr___g T,
    b_c_Form___repr__⟩ .nil) o T.b_repr (de_var 4).toB) (de_call (d_l_is_whole T) o b_l_is_whole (da_f (de_var 4) da_nil))) (dss_cons (ds_set 12 o ((de_lst (da_f (de_var 11) (da_f (de_and (de_var 11)
    (de_one (de_cmp o_ge (de_var 4) de_int))) (da_f (de_isi2A (T := "list") (U := "tuple") ["Told", "Form"] T.cT T.b_isinstance T.b_list T.b_tuple (de_var 4)) (da_f (de_call (d_l_is_three T) o
    b_l_is_three (da_f (de_var 4) da_nil)) da_nil)))))).toF) (dss_cons (ds_if (dt_cmp (o_ne o) (de_reprAny (n := 1) (.cons ⟨_, _, _, _, ⟨_, _, _, _, d_c_Form___repr__ T, by decide, b_c_Form___repr__⟩, by
    decide, d_c_Form___repr___g T, b_c_Form___repr__⟩ .nil) o T.b_repr (de_lst (da_f (de_call (d_p_is_integer T) o b_p_is_integer (da_f (de_var 4) da_nil)) (da_f (de_call (d_p_is_count T) o b_p_is_count
    (da_f (de_var 4) da_nil)) (da_f (de_call (d_p_is_list T) o b_p_is_list (da_f (de_var 4) da_nil)) (da_f (de_call (d_p_is_triple T) o b_p_is_triple (da_f (de_var 4) da_nil)) da_nil))))).toB)
    (de_reprAny (n := 1) (.cons ⟨_, _, _, _, ⟨_, _, _, _, d_c_Form___repr__ T, by decide, b_c_Form___repr__⟩, by decide, d_c_Form___repr___g T, b_c_Form___repr__⟩ .nil) o T.b_repr (de_var 12).toB))
    (dss_one (ds_ret de_bl)) dss_nil) (dss_cons (ds_if (dt_cmp (o_ne o) (de_reprAny (n := 1) (.cons ⟨_, _, _, _, ⟨_, _, _, _, d_c_Form___repr__ T, by decide, b_c_Form___repr__⟩, by decide,
    d_c_Form___repr___g T, b_c_Form___repr__⟩ .nil) o T.b_repr (de_lst (da_f (de_callK (d_p_is_integer T) o b_p_is_integer_k (dk_f (de_var 4) dk_nil)) (da_f (de_callK (d_p_is_count T) o b_p_is_count_k
    (dk_f (de_var 4) dk_nil)) (da_f (de_callK (d_p_is_list T) o b_p_is_list_k (dk_f (de_var 4) dk_nil)) (da_f (de_callK (d_p_is_triple T) o b_p_is_triple_k (dk_f (de_var 4) dk_nil)) da_nil))))).toB)
    (de_reprAny (n := 1) (.cons ⟨_, _, _, _, ⟨_, _, _, _, d_c_Form___repr__ T, by decide, b_c_Form___repr__⟩, by decide, d_c_Form___repr___g T, b_c_Form___repr__⟩ .nil) o T.b_repr (de_var 12).toB))
    (dss_one (ds_ret de_bl)) dss_nil) (dss_cons (ds_set 13 o (de_and (de_isC ["Told", "Form"] T.ci_Form T.b_isinstance (de_var 4)) (de_and (de_cmp (o_eq o) (de_prop (d_c_Form_degree T) o b_c_Form_degree
    (de_var 4)) (de_var 1)) (de_one (de_cmp (o_eqTG o) (de_meth0 (d_c_Form_terms T) o b_c_Form_terms (de_var 4)) (de_var 2)))))) (dss_one (ds_if (DW.dt (dw_or (dt_cmp (o_ne o) (de_eqY [("Form",
    m_c_Form___eq__)] (o_eq o) (.cons (op_own (d_c_Form___eq__ T) T.eq_Form o b_c_Form___eq__) (op_ownY (d_c_Form___eq__ T) T.eq_Form o b_c_Form___eq__) T.ci_Form .nil) (de_var 3) (de_var 4)) (de_var
    13)) (dw_or (dt_cmp (o_eq o) (de_neY [("Form", m_c_Form___eq__)] (o_ne o) (.cons (op_own (d_c_Form___eq__ T) T.eq_Form o b_c_Form___eq__) (op_ownY (d_c_Form___eq__ T) T.eq_Form o b_c_Form___eq__)
    T.ci_Form .nil) (de_var 3) (de_var 4)) (de_var 13)) (dw_or1 (dt_cmp (o_ne o) (de_reprAny (n := 1) (.cons ⟨_, _, _, _, ⟨_, _, _, _, d_c_Form___repr__ T, by decide, b_c_Form___repr__⟩, by decide,
    d_c_Form___repr___g T, b_c_Form___repr__⟩ .nil) o T.b_repr (de_var 4).toB) (de_var 10)))))) (dss_one (ds_ret de_bl)) dss_nil)))))))) (dss_cons (ds_unp ((de_call0 (d_p_letter_forms T) o (fun kV doc pm
    an cdv ct => b_p_letter_forms kV doc pm an cdv ct [] rfl))).toF (dg_lst o.calm (dgs_cons (dg_name 5 o.nd) (dgs_cons (dg_name 6 o.nd) (dgs_cons (dg_name 7 o.nd) dgs_nil))))) (dss_cons (ds_set 8 o
    ((de_lst (da_f ((de_meth (d_c_Form_times T) o b_c_Form_times (de_var 3) (da_f de_int da_nil))).toF (da_f ((de_negO (d_c_Form___neg__ T) o b_c_Form___neg__ (de_var 3))).toF (da_f ((de_binO
    (d_c_Form___add__ T) T.sf_Form o b_c_Form___add__ (de_var 3) (de_var 3))).toF (da_f ((de_binO (d_c_Form___mul__ T) T.sf_Form o b_c_Form___mul__ (de_var 3) (de_var 5))).toF (da_f ((de_new (d_i_Form T)
    o b_i_Form (da_f (de_bin o_add (de_var 1) de_int) (da_f de_dict0 da_nil)))).toF (da_f ((de_new (d_i_Form T) o b_i_Form (da_f (de_var 1) (da_f (de_var 2) da_nil)))).toF da_nil)))))))).toF) (dss_cons
    (ds_set 9 o ((de_lst (da_f (de_cmp (o_eqTG o) (de_var 2) de_dict0) (da_f (de_cmp (o_eqTG o) (de_var 2) de_dict0) (da_f (de_cmp (o_eqTG o) (de_var 2) de_dict0) (da_f de_bl (da_f de_bl (da_f de_bl
    da_nil)))))))).toF) (dss_one (ds_ret (de_and (de_cmp (o_eq o) (de_lc (own := [("_law_other", 14)]) o (di_seq (de_var 8)) (blk_of (by rfl)) (fun _ _ _ _ _ => ⟨_, (dg_name 14 (XOk.blk o).nd)⟩) (fun _ _
    _ _ _ => ⟨_, dts_nil⟩) (fun _ _ _ _ _ => ⟨_, (de_eqY [("Form", m_c_Form___eq__)] (o_eq (XOk.blk o)) (.cons (op_own (d_c_Form___eq__ T) T.eq_Form (XOk.blk o) b_c_Form___eq__) (op_ownY (d_c_Form___eq__
    T) T.eq_Form (XOk.blk o) b_c_Form___eq__) T.ci_Form .nil) (de_var 3) (de_var 14))⟩)) (de_var 9)) (de_and (de_neY [("Form", m_c_Form___eq__)] (o_ne o) (.cons (op_own (d_c_Form___eq__ T) T.eq_Form o
    b_c_Form___eq__) (op_ownY (d_c_Form___eq__ T) T.eq_Form o b_c_Form___eq__) T.ci_Form .nil) (de_var 5) (de_var 6)) (de_and (de_neY [("Form", m_c_Form___eq__)] (o_ne o) (.cons (op_own (d_c_Form___eq__
    T) T.eq_Form o b_c_Form___eq__) (op_ownY (d_c_Form___eq__ T) T.eq_Form o b_c_Form___eq__) T.ci_Form .nil) (de_var 6) (de_var 7)) (de_one (de_eqY [("Form", m_c_Form___eq__)] (o_eq o) (.cons (op_own
    (d_c_Form___eq__ T) T.eq_Form o b_c_Form___eq__) (op_ownY (d_c_Form___eq__ T) T.eq_Form o b_c_Form___eq__) T.ci_Form .nil) (de_var 5) (de_ix (de_call0 (d_p_letter_forms T) o (fun kV doc pm an cdv ct
    => b_p_letter_forms kV doc pm an cdv ct [] rfl)) de_int)))))))))))))))⟩
theorem b_l_right : ∀ (kV doc pm : Value) (an : Option Addr) (cdv ct : Value) (us : List Value), us.length = 1 → bindArgs (PySem.W.fnOf "_law_right" "_law_right" (defArgs s_l_right) (defBody s_l_right) (defScope s_l_right) .none kV doc pm an cdv ct) ⟨us, []⟩ = pure ((["_law_pot_here"] : List Str).zip us) := fun _ _ _ _ _ _ us hl => match us, hl with | [_], _ => rfl
theorem d_l_pot (T : Top K mg) : DFn P w K mg base 1 "_law_pot" s_l_pot ["_law_script", "_law_k"] [.s, .f] .o m_l_pot :=
  dfn_of (N := ["_law_script", "_law_k", "_law_cell"]) [.s, .f, .f] [.s, .f, .f] T.f_l_pot ⟨rfl, rfl, rfl, by decide, rfl, by decide, by decide⟩ rfl rfl (by decide) rfl (by first | exact .inl (.inl rfl) | exact .inl (.inr rfl) | exact .inr rfl) fun f cdv A outer s H E o =>
  ⟨_, (dss_cons (ds_set 2 o (de_bin o_add (de_bin o_mulA de_int (de_var 1)) de_int)) (dss_cons (ds_if (dt_cmp o_lt (de_var 1) (de_callB c_lenS T.b_len (da_s 0 da_nil))) (dss_one (ds_set 2 o (de_callB c_abs
    T.b_abs (da_b (de_six 0 (de_var 1)) da_nil)))) dss_nil) (dss_one (ds_ret (de_lst (da_f (de_callB (c_max2 o) T.b_max (da_b de_int (da_b (de_bin o_sub (de_var 2) (de_bin o_pow de_int de_int)) da_nil)))
    (da_f (de_bin o_add (de_bin o_mod (de_callTy c_int T.b_int (da_b (de_bin o_add (de_bin o_mulA (de_bin o_mod (de_callTy c_int T.b_int (da_b (de_var 2) da_nil)) de_int) (de_bin o_add (de_bin o_mulA
    de_int (de_var 1)) de_int)) de_int) da_nil)) de_int) de_int) da_nil)))))))⟩
theorem b_l_pot : ∀ (kV doc pm : Value) (an : Option Addr) (cdv ct : Value) (us : List Value), us.length = 2 → bindArgs (PySem.W.fnOf "_law_pot" "_law_pot" (defArgs s_l_pot) (defBody s_l_pot) (defScope s_l_pot) .none kV doc pm an cdv ct) ⟨us, []⟩ = pure ((["_law_script", "_law_k"] : List Str).zip us) := fun _ _ _ _ _ _ us hl => match us, hl with | [_, _], _ => rfl
theorem d_law_ (T : Top K mg) : DFn P w K mg base 12 "law" s_law_ ["_law_script"] [.s] .f m_law_ :=
  dfn_of (N := ["_law_script", "_law_k"]) [.s, .f] [.s, .f] T.f_law_ ⟨rfl, rfl, rfl, by decide, rfl, by decide, by decide⟩ rfl rfl (by decide) rfl (by first | exact .inl (.inl rfl) | exact .inl (.inr rfl) | exact .inr rfl) fun f cdv A outer s H E o =>
  ⟨_, (dss_one (ds_ret (de_callB (c_all o) T.b_all (da_b (de_lc (own := [("_law_k", 1)]) o (di_range1 T.b_range (da_f (de_callB (c_max2 o) T.b_max (da_b de_int (da_b (de_callB (c_min2 o) T.b_min (da_b de_int
    (da_b (de_callB c_lenS T.b_len (da_s 0 da_nil)) da_nil))) da_nil))) da_nil)) (blk_of (by rfl)) (fun _ _ _ _ _ => ⟨_, (dg_name 1 (XOk.blk o).nd)⟩) (fun _ _ _ _ _ => ⟨_, dts_nil⟩) (fun _ _ _ _ _ => ⟨_,
    (de_callPot (d_l_right T) (XOk.blk o) b_l_right (de_call (d_l_pot T) (XOk.blk o) b_l_pot (da_s 0 (da_f (de_var 1) da_nil))))⟩)) da_nil))))⟩
theorem b_law_ : ∀ (kV doc pm : Value) (an : Option Addr) (cdv ct : Value) (us : List Value), us.length = 1 → bindArgs (PySem.W.fnOf "law" "law" (defArgs s_law_) (defBody s_law_) (defScope s_law_) .none kV doc pm an cdv ct) ⟨us, []⟩ = pure ((["_law_script"] : List Str).zip us) := fun _ _ _ _ _ _ us hl => match us, hl with | [_], _ => rfl
end
end LW
set_option maxHeartbeats 2000000
namespace DL
open PySem PySem.Spec PyProof.Rows L2
theorem lcGo_filter {α : Type} {enc : α → D} {fg : D → Rho → Option Rho} {ft : Et} {fe : Ed} {ρ : Rho} {π : Pot} {ρ1 : α → Rho} {p : α → Bool} {g : α → D} : ∀ {xs : List α}, (∀ x ∈ xs, fg (enc x) ρ = some (ρ1 x)) → (∀ x ∈ xs, ft (ρ1 x) π = .ok (p x, π)) → (∀ x ∈ xs, p x = true → fe (ρ1 x) π = .ok (g x, π)) →
    lcGo fg ft fe ρ (xs.map enc) π = .ok ((xs.filter p).map g, π)
  | [], _, _, _ => rfl
  | x :: xs, h1, h2, h3 => by
    have ih := lcGo_filter (xs := xs) (fun y hy => h1 y (List.mem_cons_of_mem _ hy)) (fun y hy => h2 y (List.mem_cons_of_mem _ hy)) (fun y hy => h3 y (List.mem_cons_of_mem _ hy))
    simp only [List.map_cons, lcGo, h1 x (List.mem_cons_self ..), ofO_some, Res.bind_ok, h2 x (List.mem_cons_self ..), safe_ok]
    cases hp : p x with
    | true =>
      rw [List.filter_cons, if_pos hp, List.map_cons]
      simp only [if_true, h3 x (List.mem_cons_self ..) hp, safe_ok, Res.bind_ok, ih]
    | false =>
      simp only [Bool.false_eq_true, if_false, ih, List.filter_cons, hp]
theorem lcGo_map {α : Type} {enc : α → D} {fg : D → Rho → Option Rho} {fe : Ed} {ρ : Rho} {π : Pot} {ρ1 : α → Rho} {g : α → D} {xs : List α} (h1 : ∀ x ∈ xs, fg (enc x) ρ = some (ρ1 x)) (h3 : ∀ x ∈ xs, fe (ρ1 x) π = .ok (g x, π)) :
    lcGo fg tTrue fe ρ (xs.map enc) π = .ok (xs.map g, π) := by
  have := lcGo_filter (ft := tTrue) (p := fun _ => true) h1 (fun x hx => rfl) (fun x hx _ => h3 x hx)
  rwa [List.filter_eq_self.mpr (fun _ _ => rfl)] at this
theorem divOk_small {i j : Int} (h : 0 < j) (h2 : j < 1073741824) : divOk i j = true := by
  unfold divOk Builtin.divisionGoesByPylong
  have e : j.natAbs.log2 < 30 := by
    rw [Nat.log2_lt (by omega)]
    omega
  have e2 : (if (j == 0) = true then 0 else j.natAbs.log2 / 30 + 1) ≤ 300 := by
    split <;> omega
  simp only [Bool.and_eq_true, decide_eq_true_eq, Bool.not_eq_true', Bool.and_eq_false_imp]
  refine ⟨h, fun q => ?_⟩
  omega
theorem opFdivW_s {i j : Int} (h : 0 < j) (h2 : j < 1152921504606846976) : opFdivW (.int i) (.int j) = some (.int (i / j)) := by
  unfold opFdivW
  have e : j.natAbs.log2 < 9000 := by
    have : j.natAbs.log2 < 60 := by
      rw [Nat.log2_lt (by omega)]
      omega
    omega
  simp [h, e]
theorem opMod_s {i j : Int} (h : 0 < j) : opMod (.int i) (.int j) = some (.int (i % j)) := by
  simp [opMod, h]
theorem opMulA_l {i j : Int} (h : -18446744073709551616 < i) (h2 : i < 18446744073709551616) : opMulA (.int i) (.int j) = some (.int (i * j)) := by
  simp [opMulA, small, h, h2]
theorem opMulA_r {i j : Int} (h : -18446744073709551616 < j) (h2 : j < 18446744073709551616) : opMulA (.int i) (.int j) = some (.int (i * j)) := by
  simp [opMulA, small, h, h2]
mutual
def plainD : D → Bool
  | .non | .bl _ | .int _ => true
  | .str x => PyData.strOk x
  | .lst xs | .tup xs => plainL xs
  | _ => false
def plainL : List D → Bool
  | [] => true
  | x :: xs => plainD x && plainL xs
def deepD : D → Nat
  | .lst xs | .tup xs => deepL xs + 1
  | _ => 0
def deepL : List D → Nat
  | [] => 0
  | x :: xs => max (deepD x) (deepL xs)
end
mutual
theorem plain_py : ∀ {d : D}, plainD d = true → ∃ p, toPy d = some p ∧ p.canLay0 = true ∧ p.depth = deepD d
  | .non, _ => ⟨_, rfl, rfl, rfl⟩
  | .bl _, _ => ⟨_, rfl, rfl, rfl⟩
  | .int _, _ => ⟨_, rfl, rfl, rfl⟩
  | .str x, h => ⟨_, rfl, (by simpa [PyData.canLay0, plainD] using h), rfl⟩
  | .lst xs, h => by
    obtain ⟨ps, h1, h2, h3⟩ := plain_pyL (xs := xs) (by simpa [plainD] using h)
    exact ⟨.list ps, by simp [toPy, h1], by simpa [PyData.canLay0] using h2, by simp [PyData.depth, deepD, h3]⟩
  | .tup xs, h => by
    obtain ⟨ps, h1, h2, h3⟩ := plain_pyL (xs := xs) (by simpa [plainD] using h)
    exact ⟨.tuple ps, by simp [toPy, h1], by simpa [PyData.canLay0] using h2, by simp [PyData.depth, deepD, h3]⟩
  | .dic _ _, h => by cases h
  | .ins _ _ _, h => by cases h
theorem plain_pyL : ∀ {xs : List D}, plainL xs = true → ∃ ps, toPyL xs = some ps ∧ PyData.canLayAll0 ps = true ∧ PyData.depthAll ps = deepL xs
  | [], _ => ⟨[], rfl, rfl, rfl⟩
  | x :: xs, h => by
    simp only [plainL, Bool.and_eq_true] at h
    obtain ⟨p, h1, h2, h3⟩ := plain_py h.1
    obtain ⟨ps, h4, h5, h6⟩ := plain_pyL h.2
    exact ⟨p :: ps, by simp [toPyL, h1, h4], by simp [PyData.canLayAll0, h2, h5], by simp [PyData.depthAll, deepL, h3, h6]⟩
end
/-- data that may be held against other data -/
def cmpOk (d : D) : Bool := plainD d && decide (deepD d ≤ 64)
theorem eqP_refl {d : D} (h : cmpOk d = true) : eqP d d = some true := by
  unfold cmpOk at h
  simp only [Bool.and_eq_true, decide_eq_true_eq] at h
  obtain ⟨p, h1, h2, h3⟩ := plain_py h.1
  unfold eqP
  rw [h1]
  simp [SeqAt.shaped, h2, h3, h.2, SeqAt.eqv_refl p h2]
theorem eqD_refl {d : D} (h : cmpOk d = true) : eqD d d = some true := by
  unfold eqD
  split
  · rename_i h2
    simp_all
  · rename_i h2
    simp_all
  · exact eqP_refl h
theorem opEq_refl {d : D} (h : cmpOk d = true) : opEq d d = some (.bl true) := by simp [opEq, eqD_refl h]
mutual
def wideD : D → Nat
  | .non => 4
  | .bl _ => 5
  | .int i => i.natAbs.log2 + 2
  | .str x => (reprText x).length
  | .lst xs => wideL xs + 2
  | .tup xs => wideL xs + 3
  | _ => 0
def wideL : List D → Nat
  | [] => 0
  | x :: xs => wideD x + 2 + wideL xs
def showB : D → Bool
  | .non | .bl _ | .str _ => true
  | .int i => decide (i.natAbs.log2 < 1920)
  | .lst xs | .tup xs => showL xs
  | _ => false
def showL : List D → Bool
  | [] => true
  | x :: xs => showB x && showL xs
end
theorem text_from : ∀ (ts : List Str) (k : Nat) (acc : Str), (textFrom k acc ts).length ≤ acc.length + piled ts
  | [], k, acc => by simp [textFrom]
  | t :: ts, k, acc => by
    have ih := text_from ts (k + 1) (acc ++ (if k > 0 then ", " else "" : String) ++ t)
    have e : (((if k > 0 then ", " else "" : String) : Str)).length ≤ 2 := by split <;> decide
    rw [PySem.strLen_append, PySem.strLen_append] at ih
    rw [piled_cons]
    show (textFrom (k + 1) (acc ++ (if k > 0 then ", " else "" : String) ++ t) ts).length ≤ _
    omega
theorem list_text (ts : List Str) : (listText ts).length ≤ piled ts + 2 := by
  unfold listText
  rw [PySem.strLen_append]
  have := text_from ts 0 "["
  have e1 : (("[" : String) : Str).length = 1 := rfl
  have e2 : (("]" : String) : Str).length = 1 := rfl
  omega
theorem tup_text (ts : List Str) : (tupleText ts).length ≤ piled ts + 3 := by
  unfold tupleText
  rw [PySem.strLen_append, PySem.strLen_append]
  have e1 : (("(" : String) : Str).length = 1 := rfl
  have e2 : (((if (ts.length == 1) = true then ",)" else ")" : String) : Str)).length ≤ 2 := by split <;> decide
  cases ts with
  | nil =>
    have : (Str.join ", " ([] : List Str)).length = 0 := rfl
    omega
  | cons t r =>
    have := join_length_add (t :: r) (by simp)
    omega
mutual
theorem show_py : ∀ {d : D}, showB d = true → ∃ p, toPy d = some p ∧ p.showable = true ∧ p.hasDict = false ∧ p.depth = deepD d ∧ p.shown.length ≤ wideD d
  | .non, _ => ⟨_, rfl, rfl, rfl, rfl, by decide⟩
  | .bl b, _ => ⟨_, rfl, rfl, rfl, rfl, by cases b <;> decide⟩
  | .int i, h => ⟨_, rfl, (by simpa [PyData.showable, showB] using h), rfl, rfl, by
      have := int_text_length_le (a := i) (k := i.natAbs.log2 + 1) (by omega) (by omega)
      have e : (PyData.int i).shown.length = (toString i).length := by
        show (Str.ofString (toString i)).length = _
        exact PySem.ofString_length _
      rw [e]
      show _ ≤ i.natAbs.log2 + 2
      omega⟩
  | .str x, h => ⟨_, rfl, rfl, rfl, rfl, Nat.le_refl _⟩
  | .lst xs, h => by
    obtain ⟨ps, h1, h2, h3, h4, h5⟩ := show_pyL (xs := xs) (by simpa [showB] using h)
    refine ⟨.list ps, by simp [toPy, h1], by simpa [PyData.showable] using h2, by simpa [PyData.hasDict] using h3, by simp [PyData.depth, deepD, h4], ?_⟩
    have := list_text (PyData.shownAll ps)
    show (PyData.shown (.list ps)).length ≤ wideL xs + 2
    rw [PyData.shown]
    omega
  | .tup xs, h => by
    obtain ⟨ps, h1, h2, h3, h4, h5⟩ := show_pyL (xs := xs) (by simpa [showB] using h)
    refine ⟨.tuple ps, by simp [toPy, h1], by simpa [PyData.showable] using h2, by simpa [PyData.hasDict] using h3, by simp [PyData.depth, deepD, h4], ?_⟩
    have := tup_text (PyData.shownAll ps)
    show (PyData.shown (.tuple ps)).length ≤ wideL xs + 3
    rw [PyData.shown]
    omega
  | .dic _ _, h => by cases h
  | .ins _ _ _, h => by cases h
theorem show_pyL : ∀ {xs : List D}, showL xs = true → ∃ ps, toPyL xs = some ps ∧ PyData.showableAll ps = true ∧ PyData.hasDictAll ps = false ∧ PyData.depthAll ps = deepL xs ∧ piled (PyData.shownAll ps) ≤ wideL xs
  | [], _ => ⟨[], rfl, rfl, rfl, rfl, Nat.le_refl _⟩
  | x :: xs, h => by
    simp only [showL, Bool.and_eq_true] at h
    obtain ⟨p, h1, h2, h3, h4, h5⟩ := show_py h.1
    obtain ⟨ps, g1, g2, g3, g4, g5⟩ := show_pyL h.2
    refine ⟨p :: ps, by simp [toPyL, h1, g1], by simp [PyData.showableAll, h2, g2], by simp [PyData.hasDictAll, h3, g3], by simp [PyData.depthAll, deepL, h4, g4], ?_⟩
    rw [PyData.shownAll, piled_cons]
    show _ ≤ wideD x + 2 + wideL xs
    omega
end
def shOk (d : D) : Bool := showB d && decide (deepD d ≤ 60) && decide (wideD d ≤ 16777216)
theorem showD_ok {d : D} (h : shOk d = true) : ∃ z, showD d = some z := by
  unfold shOk at h
  simp only [Bool.and_eq_true, decide_eq_true_eq] at h
  obtain ⟨⟨h1, h2⟩, h3⟩ := h
  obtain ⟨p, e, g1, g2, g3, g4⟩ := show_py h1
  refine ⟨p.shown, ?_⟩
  unfold showD
  rw [e]
  have : p.depth ≤ 60 := by omega
  have : p.shown.length ≤ sizeLine := by rw [sizeLine_eq]; omega
  simp [*]
end DL
set_option maxHeartbeats 2000000
namespace DL
open PySem PySem.Spec PyProof.Rows L2
@[simp] theorem eVar_ap (i : Nat) (ρ : Rho) (π : Pot) : eVar i ρ π = match ρ[i]? with
  | some (some d) => .ok (d, π)
  | _ => .stuck := rfl
@[simp] theorem eC_ap (d : D) (ρ : Rho) (π : Pot) : eC d ρ π = .ok (d, π) := rfl
@[simp] theorem eBin_ap (g : D → D → Option D) (a b : Ed) (ρ : Rho) (π : Pot) : eBin g a b ρ π = (a ρ π).bind fun x => (b ρ x.2).bind fun y => (ofO (g x.1 y.1)).bind fun z => .ok (z, y.2) := rfl
@[simp] theorem eUn_ap (g : D → Option D) (a : Ed) (ρ : Rho) (π : Pot) : eUn g a ρ π = (a ρ π).bind fun x => (ofO (g x.1)).bind fun z => .ok (z, x.2) := rfl
@[simp] theorem eAnd_ap (a b : Ed) (ρ : Rho) (π : Pot) : eAnd a b ρ π = (a ρ π).bind fun x => (ofO (truth x.1)).bind fun k => if k = true then b ρ x.2 else .ok x := rfl
@[simp] theorem eOr_ap (a b : Ed) (ρ : Rho) (π : Pot) : eOr a b ρ π = (a ρ π).bind fun x => (ofO (truth x.1)).bind fun k => if k = true then .ok x else b ρ x.2 := rfl
@[simp] theorem eNot_ap (a : Ed) (ρ : Rho) (π : Pot) : eNot a ρ π = (a ρ π).bind fun x => (ofO (truth x.1)).bind fun k => .ok (.bl (!k), x.2) := rfl
@[simp] theorem eIf_ap (t : Et) (a b : Ed) (ρ : Rho) (π : Pot) : eIf t a b ρ π = (t ρ π).bind fun x => if x.1 = true then a ρ x.2 else b ρ x.2 := rfl
@[simp] theorem aNil_ap (ρ : Rho) (π : Pot) : aNil  ρ π = .ok ([], π) := rfl
@[simp] theorem aCons_ap (a : Ed) (b : Ea) (ρ : Rho) (π : Pot) : aCons a b ρ π = (a ρ π).bind fun x => (b ρ x.2).bind fun y => .ok (x.1 :: y.1, y.2) := rfl
@[simp] theorem eTup_ap (a : Ea) (ρ : Rho) (π : Pot) : eTup a ρ π = (a ρ π).bind fun x => if x.1.length ≤ sizeLine then .ok (.tup x.1, x.2) else .stuck := rfl
@[simp] theorem eLst_ap (a : Ea) (ρ : Rho) (π : Pot) : eLst a ρ π = (a ρ π).bind fun x => if x.1.length ≤ sizeLine then .ok (.lst x.1, x.2) else .stuck := rfl
@[simp] theorem eApp_ap (g : List D → Option D) (a : Ea) (ρ : Rho) (π : Pot) : eApp g a ρ π = (a ρ π).bind fun x => (ofO (g x.1)).bind fun z => .ok (z, x.2) := rfl
@[simp] theorem tOf_ap (a : Ed) (ρ : Rho) (π : Pot) : tOf a ρ π = (a ρ π).bind fun x => (ofO (truth x.1)).bind fun k => .ok (k, x.2) := rfl
@[simp] theorem tBl_ap (a : Ed) (ρ : Rho) (π : Pot) : tBl a ρ π = (a ρ π).bind fun x => match x.1 with
  | .bl k => .ok (k, x.2)
  | _ => .stuck := rfl
@[simp] theorem tAndD_ap (a b : Et) (ρ : Rho) (π : Pot) : tAndD a b ρ π = (a ρ π).bind fun x => if x.1 = true then b ρ x.2 else .ok (false, x.2) := rfl
@[simp] theorem tOrD_ap (a b : Et) (ρ : Rho) (π : Pot) : tOrD a b ρ π = (a ρ π).bind fun x => if x.1 = true then .ok (true, x.2) else b ρ x.2 := rfl
@[simp] theorem tNotD_ap (a : Et) (ρ : Rho) (π : Pot) : tNotD a ρ π = (a ρ π).bind fun x => .ok (!x.1, x.2) := rfl
@[simp] theorem eChain_ap (g g' : D → D → Option D) (a b c : Ed) (ρ : Rho) (π : Pot) : eChain g g' a b c ρ π = (a ρ π).bind fun x => (b ρ x.2).bind fun y => (ofO (g x.1 y.1)).bind fun z => match z with
  | .bl true => (c ρ y.2).bind fun u => (ofO (g' y.1 u.1)).bind fun q => .ok (q, u.2)
  | .bl false => .ok (.bl false, y.2)
  | _ => .stuck := rfl
@[simp] theorem iVal_ap (a : Ed) (ρ : Rho) (π : Pot) : iVal a ρ π = (a ρ π).bind fun x => (ofO (seqOf x.1)).bind fun z => .ok (z, x.2) := rfl
@[simp] theorem iEnumD_ap (a : Ea) (ρ : Rho) (π : Pot) : iEnumD a ρ π = (a ρ π).bind fun x => match x.1 with
  | [d] => (ofO (seqOf d)).bind fun z => .ok (numbered 0 z, x.2)
  | _ => .stuck := rfl
@[simp] theorem iRng_ap (a : Ea) (ρ : Rho) (π : Pot) : iRng a ρ π = (a ρ π).bind fun x => (ofO (rng x.1)).bind fun z => .ok (z, x.2) := rfl
@[simp] theorem iRngDown_ap (a : Ea) (ρ : Rho) (π : Pot) : iRngDown a ρ π = (a ρ π).bind fun x => (ofO (rngDown x.1)).bind fun z => .ok (z, x.2) := rfl
@[simp] theorem eLC_ap (fi : Ei) (fg : D → Rho → Option Rho) (ft : Et) (fe : Ed) (vs : List Nat) (ρ : Rho) (π : Pot) : eLC fi fg ft fe vs ρ π = (fi ρ π).bind fun x => if x.1.length < sizeLine then (lcGo fg ft fe (wipeD ρ vs) x.1 x.2).bind fun r => .ok (.lst r.1, r.2) else .stuck := rfl
@[simp] theorem tTrue_ap (ρ : Rho) (π : Pot) : tTrue  ρ π = .ok (true, π) := rfl
@[simp] theorem sNext_ap (ρ : Rho) (π : Pot) : sNext  ρ π = .ok (.nx ρ, π) := rfl
@[simp] theorem sSeq_ap (a b : Fs) (ρ : Rho) (π : Pot) : sSeq a b ρ π = (a ρ π).bind fun x => match x.1 with
  | .nx ρ1 => b ρ1 x.2
  | .bk ρ1 => .ok (.bk ρ1, x.2)
  | .ct ρ1 => .ok (.ct ρ1, x.2)
  | .rt d => .ok (.rt d, x.2) := rfl
@[simp] theorem sSet_ap (i : Nat) (fe : Ed) (ρ : Rho) (π : Pot) : sSet i fe ρ π = (fe ρ π).bind fun x => .ok (.nx (ρ.set i (some x.1)), x.2) := rfl
@[simp] theorem sPar_ap (i j : Nat) (fa fb : Ed) (ρ : Rho) (π : Pot) : sPar i j fa fb ρ π = (fa ρ π).bind fun x => (fb ρ x.2).bind fun y => .ok (.nx ((ρ.set i (some x.1)).set j (some y.1)), y.2) := rfl
@[simp] theorem sPar3_ap (i j l : Nat) (fa fb fc : Ed) (ρ : Rho) (π : Pot) : sPar3 i j l fa fb fc ρ π = (fa ρ π).bind fun x => (fb ρ x.2).bind fun y => (fc ρ y.2).bind fun z => .ok (.nx (((ρ.set i (some x.1)).set j (some y.1)).set l (some z.1)), z.2) := rfl
@[simp] theorem sUnp_ap (fe : Ed) (fg : D → Rho → Option Rho) (ρ : Rho) (π : Pot) : sUnp fe fg ρ π = (fe ρ π).bind fun x => (ofO (fg x.1 ρ)).bind fun ρ1 => .ok (.nx ρ1, x.2) := rfl
@[simp] theorem sExpr_ap (fe : Ed) (ρ : Rho) (π : Pot) : sExpr fe ρ π = (fe ρ π).bind fun x => .ok (.nx ρ, x.2) := rfl
@[simp] theorem sRet_ap (fe : Ed) (ρ : Rho) (π : Pot) : sRet fe ρ π = (fe ρ π).bind fun x => .ok (.rt x.1, x.2) := rfl
@[simp] theorem sRetN_ap (ρ : Rho) (π : Pot) : sRetN  ρ π = .ok (.rt .non, π) := rfl
@[simp] theorem sIf_ap (ft : Et) (a b : Fs) (ρ : Rho) (π : Pot) : sIf ft a b ρ π = (ft ρ π).bind fun x => if x.1 = true then a ρ x.2 else b ρ x.2 := rfl
@[simp] theorem sBreak_ap (ρ : Rho) (π : Pot) : sBreak  ρ π = .ok (.bk ρ, π) := rfl
@[simp] theorem sCont_ap (ρ : Rho) (π : Pot) : sCont  ρ π = .ok (.ct ρ, π) := rfl
@[simp] theorem sStuck_ap (ρ : Rho) (π : Pot) : sStuck  ρ π = .stuck := rfl
@[simp] theorem sFor_ap (fi : Ei) (fg : D → Rho → Option Rho) (fb : Fs) (ρ : Rho) (π : Pot) : sFor fi fg fb ρ π = (fi ρ π).bind fun x => forGo fg fb x.1 ρ x.2 := rfl
@[simp] theorem sAugIx_ap (i : Nat) (g : Int → Int → Int) (fk fe : Ed) (ρ : Rho) (π : Pot) : sAugIx i g fk fe ρ π = match ρ[i]? with
  | some (some (.lst ds)) => (fk ρ π).bind fun y => (ofO (intAt ds y.1)).bind fun a => (fe ρ y.2).bind fun x => match x.1 with
    | .int b => .ok (.nx (ρ.set i (some (.lst (ds.set a.1 (.int (g a.2 b)))))), x.2)
    | _ => .stuck
  | _ => .stuck := rfl
@[simp] theorem sAug_ap (i : Nat) (g : Int → Int → Int) (fe : Ed) (ρ : Rho) (π : Pot) : sAug i g fe ρ π = match ρ[i]? with
  | some (some (.int a)) => (fe ρ π).bind fun x => match x.1 with
    | .int b => .ok (.nx (ρ.set i (some (.int (g a b)))), x.2)
    | _ => .stuck
  | _ => .stuck := rfl
@[simp] theorem ePot0_ap (ρ : Rho) (π : Pot) : ePot0  ρ π = .ok (.int π.1, π) := rfl
@[simp] theorem ePot1_ap (ρ : Rho) (π : Pot) : ePot1  ρ π = .ok (.int π.2, π) := rfl
@[simp] theorem sPot1_ap (fe : Ed) (ρ : Rho) (π : Pot) : sPot1 fe ρ π = (fe ρ π).bind fun x => match x.1 with
  | .int n => .ok (.nx ρ, (x.2.1, n))
  | _ => .stuck := rfl
@[simp] theorem sPotDm_ap (j : Nat) (fe : Ed) (ρ : Rho) (π : Pot) : sPotDm j fe ρ π = (fe ρ π).bind fun x => match x.1 with
  | .int n => if divOk π.1 n then .ok (.nx (ρ.set j (some (.int (π.1 % n)))), (π.1 / n, x.2.2)) else .stuck
  | _ => .stuck := rfl
@[simp] theorem runD_ap (n : Nat) (r : Rm) (fs : Fs) (ds : List D) (π : Pot) : runD n r fs ds π = (fs (startD n ds) π).bind fun x => match x.1 with
  | .rt d => .ok (d, x.2)
  | .nx _ => if r = .f then .ok (.non, x.2) else .stuck
  | _ => .stuck := rfl
@[simp] theorem eGo_ap (m : Fd) (a : Ea) (ρ : Rho) (π : Pot) : eGo m a ρ π = (a ρ π).bind fun x => m x.1 x.2 := rfl
@[simp] theorem oNone_ap (ρ : Rho) (π : Pot) : oNone  ρ π = .ok (none, π) := rfl
@[simp] theorem oSome_ap (a : Ed) (ρ : Rho) (π : Pot) : oSome a ρ π = (a ρ π).bind fun x => match x.1 with
  | .int i => .ok (some i, x.2)
  | _ => .stuck := rfl
@[simp] theorem eSl_ap (a : Ed) (l u : Eo) (ρ : Rho) (π : Pot) : eSl a l u ρ π = (a ρ π).bind fun x => (l ρ x.2).bind fun y => (u ρ y.2).bind fun z => (ofO (fCut x.1 y.1 z.1)).bind fun w => .ok (w, z.2) := rfl
@[simp] theorem eSix_ap (i : Nat) (fb : Ed) (ρ : Rho) (π : Pot) : eSix i fb ρ π = (fb ρ π).bind fun y => match ρ[i]? with
  | some (some d) => (ofO (opIx d y.1)).bind fun z => .ok (z, y.2)
  | _ => .stuck := rfl
@[simp] theorem eGoPot_ap (m : Fd) (a : Ed) (ρ : Rho) (π : Pot) : eGoPot m a ρ π = (a ρ π).bind fun x => match x.1 with
  | .lst [.int u, .int v] => (safe (m [.non] (u, v))).bind fun y => .ok (y.1, x.2)
  | _ => .stuck := rfl
@[simp] theorem sApp_ap (i : Nat) (fe : Ed) (ρ : Rho) (π : Pot) : sApp i fe ρ π = match ρ[i]? with
  | some (some (.lst ds)) => (fe ρ π).bind fun x => (ofO (appD x.1 ds)).bind fun es => .ok (.nx (ρ.set i (some (.lst es))), x.2)
  | _ => .stuck := rfl
@[simp] theorem sExt_ap (i : Nat) (fe : Ed) (ρ : Rho) (π : Pot) : sExt i fe ρ π = match ρ[i]? with
  | some (some (.lst ds)) => (fe ρ π).bind fun x => (ofO (extD x.1 ds)).bind fun es => .ok (.nx (ρ.set i (some (.lst es))), x.2)
  | _ => .stuck := rfl
@[simp] theorem sSetIx_ap (i : Nat) (fe fk : Ed) (ρ : Rho) (π : Pot) : sSetIx i fe fk ρ π = match ρ[i]? with
  | some (some (.lst ds)) => (fe ρ π).bind fun y => (fk ρ y.2).bind fun x => (ofO (setD y.1 x.1 ds)).bind fun es => .ok (.nx (ρ.set i (some (.lst es))), x.2)
  | _ => .stuck := rfl
@[simp] theorem truth_non : truth .non = some false := rfl
@[simp] theorem truth_bl (b : Bool) : truth (.bl b) = some b := rfl
@[simp] theorem truth_int (i : Int) : truth (.int i) = some (i != 0) := rfl
@[simp] theorem truth_lst (xs : List D) : truth (.lst xs) = some (!xs.isEmpty) := rfl
@[simp] theorem truth_tup (xs : List D) : truth (.tup xs) = some (!xs.isEmpty) := rfl
@[simp] theorem cmpI_ap (p : Int → Int → Bool) (i j : Int) : cmpI p (.int i) (.int j) = some (.bl (p i j)) := rfl
@[simp] theorem opSub_ap (i j : Int) : opSub (.int i) (.int j) = some (.int (i - j)) := rfl
@[simp] theorem opNeg_ap (i : Int) : opNeg (.int i) = some (.int (-i)) := rfl
@[simp] theorem gN_ap (i : Nat) (d : D) (ρ : Rho) : gN i d ρ = some (ρ.set i (some d)) := rfl
@[simp] theorem gsNil_ap (ρ : Rho) : gsNil [] ρ = some ρ := rfl
@[simp] theorem gsCons_ap (a : D → Rho → Option Rho) (b : List D → Rho → Option Rho) (d : D) (r : List D) (ρ : Rho) : gsCons a b (d :: r) ρ = (a d ρ).bind (b r) := rfl
@[simp] theorem gT_ap (n : Nat) (b : List D → Rho → Option Rho) (ds : List D) (ρ : Rho) : gT n b (.tup ds) ρ = if ds.length = n then b ds ρ else none := rfl
@[simp] theorem fInt_ap (i : Int) : fInt [.int i] = some (.int i) := rfl
@[simp] theorem fAbs_ap (i : Int) : fAbs [.int i] = some (.int (if i < 0 then -i else i)) := rfl
@[simp] theorem fMax2_ap (i j : Int) : fMax2 [.int i, .int j] = some (.int (if j > i then j else i)) := rfl
@[simp] theorem fMin2_ap (i j : Int) : fMin2 [.int i, .int j] = some (.int (if j < i then j else i)) := rfl
@[simp] theorem fList_lst (xs : List D) : fList [.lst xs] = some (.lst xs) := rfl
@[simp] theorem fList_tup (xs : List D) : fList [.tup xs] = some (.lst xs) := rfl
@[simp] theorem fTuple_lst (xs : List D) : fTuple [.lst xs] = some (.tup xs) := rfl
@[simp] theorem fTuple_tup (xs : List D) : fTuple [.tup xs] = some (.tup xs) := rfl
@[simp] theorem isNonD_ap (d : D) : opIsN d .non = some (.bl (isNonD d)) := rfl
@[simp] theorem notNonD_ap (d : D) : opNotN d .non = some (.bl (!isNonD d)) := rfl
@[simp] theorem isNonD_non : isNonD .non = true := rfl
@[simp] theorem isNonD_int (i : Int) : isNonD (.int i) = false := rfl
@[simp] theorem isNonD_bl (i : Bool) : isNonD (.bl i) = false := rfl
@[simp] theorem isNonD_str (i : Str) : isNonD (.str i) = false := rfl
@[simp] theorem isNonD_lst (i : List D) : isNonD (.lst i) = false := rfl
@[simp] theorem isNonD_tup (i : List D) : isNonD (.tup i) = false := rfl
@[simp] theorem isTyB_ap (a b : String) : isTyB a b = (a == b || (a == "bool" && b == "int")) := rfl
@[simp] theorem fIs_non (ns : List String) : fIs ns .non = some (.bl (ns.any fun b => isTyB "NoneType" b)) := rfl
@[simp] theorem fIs_bl (ns : List String) (i : Bool) : fIs ns (.bl i) = some (.bl (ns.any fun b => isTyB "bool" b)) := rfl
@[simp] theorem fIs_int (ns : List String) (i : Int) : fIs ns (.int i) = some (.bl (ns.any fun b => isTyB "int" b)) := rfl
@[simp] theorem fIs_str (ns : List String) (i : Str) : fIs ns (.str i) = some (.bl (ns.any fun b => isTyB "str" b)) := rfl
@[simp] theorem fIs_lst (ns : List String) (i : List D) : fIs ns (.lst i) = some (.bl (ns.any fun b => isTyB "list" b)) := rfl
@[simp] theorem fIs_tup (ns : List String) (i : List D) : fIs ns (.tup i) = some (.bl (ns.any fun b => isTyB "tuple" b)) := rfl
@[simp] theorem fIs_dic (ns : List String) (a : List DKey) (i : List D) : fIs ns (.dic a i) = some (.bl (ns.any fun b => isTyB "dict" b)) := rfl
@[simp] theorem seqOf_lst (xs : List D) : seqOf (.lst xs) = some xs := rfl
@[simp] theorem seqOf_tup (xs : List D) : seqOf (.tup xs) = some xs := rfl
@[simp] theorem wipeD_nil (ρ : Rho) : wipeD ρ [] = ρ := rfl
@[simp] theorem wipeD_cons (ρ : Rho) (v : Nat) (vs : List Nat) : wipeD ρ (v :: vs) = (wipeD ρ vs).set v none := rfl
@[simp] theorem startD_ap (n : Nat) (ds : List D) : startD n ds = ds.map some ++ List.replicate (n - ds.length) none := rfl
@[simp] theorem opAdd_int (i j : Int) : opAdd (.int i) (.int j) = some (.int (i + j)) := rfl
theorem opAdd_lst {xs ys : List D} (h : xs.length + ys.length ≤ 16777216) : opAdd (.lst xs) (.lst ys) = some (.lst (xs ++ ys)) := by
  simp [opAdd, sizeLine_eq, h]
@[simp] theorem sl_ok {n : Nat} (h : n ≤ 16777216) : (n ≤ sizeLine) = True := by
  rw [sizeLine_eq]
  exact eq_true h
@[simp] theorem sl_lt {n : Nat} (h : n < 16777216) : (n < sizeLine) = True := by
  rw [sizeLine_eq]
  exact eq_true h
@[simp] theorem fLen_lst (xs : List D) : fLen [.lst xs] = some (.int xs.length) := rfl
@[simp] theorem fLen_tup (xs : List D) : fLen [.tup xs] = some (.int xs.length) := rfl
@[simp] theorem fSum_iz (ns : List Int) : fSum [.lst (ns.map D.int)] = some (.int ns.sum) := by simp [fSum, onInts]
@[simp] theorem fSortI_iz (ns : List Int) : fSortI [.lst (ns.map D.int)] = some (.lst ((sortI ns).map D.int)) := by simp [fSortI, onInts]
@[simp] theorem fAll_bl {α : Type} (xs : List α) (p : α → Bool) : fAll [.lst (xs.map fun x => .bl (p x))] = some (.bl (xs.all p)) := by
  have e : (xs.map fun x => D.bl (p x)) = (xs.map p).map D.bl := by simp
  rw [e]
  show (asBls ((xs.map p).map D.bl)).map (fun bs => D.bl (bs.all id)) = _
  rw [asBls_bl]
  simp
@[simp] theorem fAny_bl {α : Type} (xs : List α) (p : α → Bool) : fAny [.lst (xs.map fun x => .bl (p x))] = some (.bl (xs.any p)) := by
  have e : (xs.map fun x => D.bl (p x)) = (xs.map p).map D.bl := by simp
  rw [e]
  show (asBls ((xs.map p).map D.bl)).map (fun bs => D.bl (bs.any id)) = _
  rw [asBls_bl]
  simp
theorem rng_1 {j : Int} (h : -1000000000000 ≤ j) (h2 : j ≤ 1000000000000) : rng [.int j] = some ((List.range j.toNat).map fun (i : Nat) => .int (i : Int)) := by
  have : mid62 j = true := by
    unfold mid62
    exact decide_eq_true (by omega)
  simp [rng, this, rangeD]
theorem atI_in {α : Type} {xs : List α} {i : Int} {v : α} (h : 0 ≤ i) (e : xs[i.toNat]? = some v) : L2.atI xs i = some v := by
  have := L2.atI_nat (xs := xs) (j := i.toNat) e
  rwa [Int.toNat_of_nonneg h] at this
theorem opIx_iz {ns : List Int} {i v : Int} (h : 0 ≤ i) (e : ns[i.toNat]? = some v) : opIx (.lst (ns.map D.int)) (.int i) = some (.int v) := by
  show L2.atI (ns.map D.int) i = _
  exact atI_in h (by rw [List.getElem?_map, e]; rfl)
theorem appD_ok {d : D} {xs : List D} (h : xs.length < 16777216) : appD d xs = some (xs ++ [d]) := by
  simp [appD, sizeLine_eq, h]
@[simp] theorem fRev_iz (ns : List Int) : fRev (.lst (ns.map D.int)) = some (.lst (ns.reverse.map D.int)) := by
  simp [fRev]
@[simp] theorem opEq_nil : opEq (.lst []) (.lst []) = some (.bl true) := rfl
@[simp] theorem opNe_nil : opNe (.lst []) (.lst []) = some (.bl false) := rfl
@[simp] theorem opEq_str (x y : Str) : opEq (.str x) (.str y) = some (.bl (decide (x = y))) := rfl
@[simp] theorem opNe_str (x y : Str) : opNe (.str x) (.str y) = some (.bl (!decide (x = y))) := rfl
@[simp] theorem opEq_int (x y : Int) : opEq (.int x) (.int y) = some (.bl (decide (x = y))) := rfl
@[simp] theorem opNe_int (x y : Int) : opNe (.int x) (.int y) = some (.bl (!decide (x = y))) := rfl
@[simp] theorem opEq_bl (x y : Bool) : opEq (.bl x) (.bl y) = some (.bl (decide (x = y))) := by cases x <;> cases y <;> rfl
@[simp] theorem opNe_bl (x y : Bool) : opNe (.bl x) (.bl y) = some (.bl (!decide (x = y))) := by cases x <;> cases y <;> rfl
/-- lists of ints -/
theorem eqv_ints : ∀ (xs ys : List Int), PyData.eqvAll (xs.map PyData.int) (ys.map PyData.int) = decide (xs = ys)
  | [], [] => rfl
  | [], y :: ys => by simp [PyData.eqvAll]
  | x :: xs, [] => by simp [PyData.eqvAll]
  | x :: xs, y :: ys => by
    simp only [List.map_cons, PyData.eqvAll, PyData.eqv, eqv_ints xs ys, List.cons.injEq]
    by_cases e : x = y <;> by_cases f : xs = ys <;> simp [e, f]
theorem toPyL_iz : ∀ (ns : List Int), toPyL (ns.map D.int) = some (ns.map PyData.int)
  | [] => rfl
  | n :: ns => by
    show (match some (PyData.int n), toPyL (ns.map D.int) with | some p, some ps => some (p :: ps) | _, _ => none) = _
    rw [toPyL_iz ns]
    rfl
theorem shaped_iz (ns : List Int) : SeqAt.shaped (.list (ns.map PyData.int)) = true := by
  have h1 : PyData.canLayAll0 (ns.map PyData.int) = true := by
    induction ns with
    | nil => rfl
    | cons n ns ih => simpa [PyData.canLayAll0, PyData.canLay0] using ih
  have h2 : PyData.depthAll (ns.map PyData.int) = 0 := by
    induction ns with
    | nil => rfl
    | cons n ns ih =>
      simp only [List.map_cons, PyData.depthAll, PyData.depth, ih (by simpa [PyData.canLayAll0, PyData.canLay0] using h1)]
      rfl
  simp [SeqAt.shaped, PyData.canLay0, h1, PyData.depth, h2]
theorem eqD_iz (xs ys : List Int) : eqD (.lst (xs.map D.int)) (.lst (ys.map D.int)) = some (decide (xs = ys)) := by
  show eqP _ _ = _
  unfold eqP
  simp only [toPy, toPyL_iz, Option.map_some, shaped_iz, Bool.and_self, if_true, PyData.eqv, eqv_ints]
@[simp] theorem opEq_iz (xs ys : List Int) : opEq (.lst (xs.map D.int)) (.lst (ys.map D.int)) = some (.bl (decide (xs = ys))) := by simp [opEq, eqD_iz]
@[simp] theorem opNe_iz (xs ys : List Int) : opNe (.lst (xs.map D.int)) (.lst (ys.map D.int)) = some (.bl (!decide (xs = ys))) := by simp [opNe, eqD_iz]
end DL
set_option maxHeartbeats 2000000
namespace LW
open PySem PySem.Spec PyProof.Rows L2 DL
theorem draw_ex {n : Int} {a : D} (π : Pot) (h : 0 < n) (h2 : n < 1073741824) : ∃ v π', m_l_draw [a, .int n] π = .ok (.int v, π') ∧ 0 ≤ v ∧ v < n := by
  obtain ⟨u, v⟩ := π
  by_cases hu : 0 < u
  · refine ⟨u % n, (u / n, v), ?_, Int.emod_nonneg _ (by omega), Int.emod_lt_of_pos _ h⟩
    unfold m_l_draw f_l_draw
    simp [divOk_small h h2, hu]
  · obtain ⟨s, hs⟩ : ∃ s, s = (v * 48271 + 18131) % 2147483587 := ⟨_, rfl⟩
    have q : 0 ≤ s ∧ s < 2147483587 := by
      rw [hs]
      exact ⟨Int.emod_nonneg _ (by decide), Int.emod_lt_of_pos _ (by decide)⟩
    have q1 : opMulA (.int s) (.int s) = some (.int (s * s)) := opMulA_l (by omega) (by omega)
    refine ⟨(s * s % 2147483549 / 13) % n, (u, s), ?_, Int.emod_nonneg _ (by omega), Int.emod_lt_of_pos _ h⟩
    unfold m_l_draw f_l_draw
    simp [opMulA_r, opMod_s, opFdivW_s, h, hu, ← hs, q1]
theorem opIx_at {xs : List D} {v : Int} (h : 0 ≤ v) (h2 : v < xs.length) : ∃ d, opIx (.lst xs) (.int v) = some d ∧ d ∈ xs := by
  have e := List.getElem?_eq_getElem (show v.toNat < xs.length by omega)
  refine ⟨xs[v.toNat], ?_, List.getElem_mem _⟩
  show (L2.atI xs v) = _
  exact atI_in h e
theorem pick_ex {a : D} {xs : List D} (π : Pot) (h : xs ≠ []) (h2 : xs.length < 1073741824) : ∃ d π', m_l_pick [a, .lst xs] π = .ok (d, π') ∧ d ∈ xs := by
  have hp := List.length_pos_iff.mpr h
  obtain ⟨v, π', e, h3, h4⟩ := draw_ex (n := xs.length) (a := .non) π (by omega) (by omega)
  obtain ⟨d, e2, h5⟩ := opIx_at (xs := xs) h3 h4
  refine ⟨d, π', ?_, h5⟩
  unfold m_l_pick f_l_pick
  simp -implicitDefEqProofs [e, e2]
theorem pot_eq (ns : List Int) (k : Nat) (hl : ns.length ≤ 63) (hk : k ≤ 100) (π : Pot) : ∃ u v : Int, m_l_pot [.lst (ns.map D.int), .int (k : Int)] π = .ok (.lst [.int u, .int v], π) := by
  have m1 : opMulA (.int 571) (.int (k : Int)) = some (.int (571 * (k : Int))) := opMulA_l (by decide) (by decide)
  have m2 : opMulA (.int 2) (.int (k : Int)) = some (.int (2 * (k : Int))) := opMulA_l (by decide) (by decide)
  have m3 : ∀ x : Int, opMulA (.int x) (.int (2 * (k : Int) + 241)) = some (.int (x * (2 * (k : Int) + 241))) := fun x => opMulA_r (by omega) (by omega)
  have po : opPow (.int 10) (.int 18) = some (.int 1000000000000000000) := by rfl
  have lL : (ns.map D.int).length = ns.length := List.length_map _
  have key : ∀ cell : Int, ∃ u v : Int, (eLst (aCons (eApp fMax2 (aCons (eC (.int 0)) (aCons (eBin opSub (eVar 2) (eBin opPow (eC (.int 10)) (eC (.int 18)))) aNil))) (aCons (eBin opAdd (eBin opMod (eApp fInt (aCons (eBin opAdd (eBin opMulA (eBin opMod (eApp fInt (aCons (eVar 2) aNil)) (eC (.int 2147483549))) (eBin opAdd (eBin opMulA (eC (.int 2)) (eVar 1)) (eC (.int 241)))) (eC (.int 971))) aNil)) (eC (.int 2147483543))) (eC (.int 1))) aNil))) [some (.lst (ns.map D.int)), some (.int (k : Int)), some (.int cell)] π = .ok (.lst [.int u, .int v], π) := fun cell => by
    refine ⟨if cell - 1000000000000000000 > 0 then cell - 1000000000000000000 else 0, (cell % 2147483549 * (2 * (k : Int) + 241) + 971) % 2147483543 + 1, ?_⟩
    simp -implicitDefEqProofs [po, m2, m3, opMod_s]
  by_cases h : k < ns.length
  · have ix := opIx_iz (ns := ns) (i := (k : Int)) (by omega) (List.getElem?_eq_getElem (show (k : Int).toNat < ns.length by omega))
    obtain ⟨x, ex⟩ : ∃ x, x = ns[(k : Int).toNat]'(by omega) := ⟨_, rfl⟩
    rw [← ex] at ix
    obtain ⟨u, v, e⟩ := key (if x < 0 then -x else x)
    refine ⟨u, v, ?_⟩
    obtain ⟨L, hL⟩ : ∃ L, L = ns.map D.int := ⟨_, rfl⟩
    rw [← hL] at ix e lL
    rw [← hL]
    unfold m_l_pot f_l_pot
    simp -implicitDefEqProofs [-eLst_ap, m1, lL, h, ix, e]
  · obtain ⟨u, v, e⟩ := key (571 * k + 307)
    refine ⟨u, v, ?_⟩
    obtain ⟨L, hL⟩ : ∃ L, L = ns.map D.int := ⟨_, rfl⟩
    rw [← hL] at e lL
    rw [← hL]
    unfold m_l_pot f_l_pot
    simp -implicitDefEqProofs [-eLst_ap, m1, lL, h, e]
/-- each turn is right: so is the law -/
theorem good_of (h : ∀ π, ∃ π', m_l_right [.non] π = .ok (.bl true, π')) : ∀ ns : List Int, ns.length ≤ 63 → ∃ π, m_law_ [.lst (DL.iz ns)] (0, 0) = .ok (.bl true, π) := by
  intro ns hl
  refine ⟨(0, 0), ?_⟩
  obtain ⟨n, hn⟩ : ∃ n : Int, n = (if (if (ns.length : Int) < 3 then (ns.length : Int) else 3) > 1 then (if (ns.length : Int) < 3 then (ns.length : Int) else 3) else 1) := ⟨_, rfl⟩
  have hn3 : n ≤ 3 ∧ 1 ≤ n := by
    rw [hn]
    split <;> split at * <;> omega
  have er := rng_1 (j := n) (by omega) (by omega)
  have lc : lcGo (gN 1) tTrue f_law__e1 [some (.lst (ns.map D.int)), none] ((List.range n.toNat).map fun (j : Nat) => .int (j : Int)) (0, 0) = .ok ((List.range n.toNat).map fun _ => .bl true, (0, 0)) :=
    lcGo_map (ρ1 := fun (j : Nat) => [some (.lst (ns.map D.int)), some (.int (j : Int))]) (fun x hx => rfl) fun j hj => by
      have := List.mem_range.mp hj
      obtain ⟨u, v, e⟩ := pot_eq ns j hl (by omega) (0, 0)
      obtain ⟨π2, e2⟩ := h (u, v)
      simp -implicitDefEqProofs [f_law__e1_ap, e, e2]
  have hr : (List.range n.toNat).length < 16777216 := by
    rw [List.length_range]
    omega
  have al : fAll [.lst ((List.range n.toNat).map fun _ => .bl true)] = some (.bl true) := by
    rw [fAll_bl (p := fun _ => true)]
    simp
  have lL : (ns.map D.int).length = ns.length := List.length_map _
  show m_law_ [.lst (ns.map D.int)] (0, 0) = _
  obtain ⟨L, hL⟩ : ∃ L, L = ns.map D.int := ⟨_, rfl⟩
  obtain ⟨R, hR⟩ : ∃ R, R = (List.range n.toNat).map fun (j : Nat) => D.int (j : Int) := ⟨_, rfl⟩
  obtain ⟨B, hB⟩ : ∃ R, R = (List.range n.toNat).map fun _ => D.bl true := ⟨_, rfl⟩
  have hRl : R.length < 16777216 := by rw [hR, List.length_map]; exact hr
  rw [← hL, ← hR, ← hB] at lc
  rw [← hR] at er
  rw [← hB] at al
  rw [← hL] at lL
  rw [← hL]
  unfold m_law_ f_law_
  simp -implicitDefEqProofs [lL, ← hn, er, hRl, lc, al]
end LW
namespace RK
abbrev V := Nat → Int
def zr : V := fun _ => 0
def ad (u v : V) : V := fun j => u j + v j
def sm (a : Int) (u : V) : V := fun j => a * u j
/-- sums over the rationals, of whole vectors -/
inductive Sp (W : List V) : V → Prop
  | mem {w} : w ∈ W → Sp W w
  | zero : Sp W zr
  | add {u v} : Sp W u → Sp W v → Sp W (ad u v)
  | smul {u} (a : Int) : Sp W u → Sp W (sm a u)
  | div {u} (a : Int) : a ≠ 0 → Sp W (sm a u) → Sp W u
theorem Sp.trans {W X : List V} (h : ∀ w ∈ W, Sp X w) {v} (hv : Sp W v) : Sp X v := by
  induction hv with
  | mem hw => exact h _ hw
  | zero => exact Sp.zero
  | add _ _ i j => exact i.add j
  | smul a _ i => exact i.smul a
  | div a ha _ i => exact i.div a ha
theorem Sp.mono {W X : List V} (h : ∀ w ∈ W, w ∈ X) {v} (hv : Sp W v) : Sp X v :=
  hv.trans fun w hw => Sp.mem (h w hw)
theorem Sp.congr {W : List V} {u v : V} (hu : Sp W u) (h : ∀ j, u j = v j) : Sp W v := by
  have : u = v := funext h
  exact this ▸ hu
theorem Sp.lin {W : List V} {u v : V} (hu : Sp W u) (hv : Sp W v) (a b : Int) {x : V}
    (h : ∀ j, x j = a * u j + b * v j) : Sp W x :=
  ((hu.smul a).add (hv.smul b)).congr fun j => (h j).symm
theorem Sp.dlin {W : List V} {u v : V} (hu : Sp W u) (hv : Sp W v) (a b d : Int) (hd : d ≠ 0) {x : V}
    (h : ∀ j, d * x j = a * u j + b * v j) : Sp W x :=
  Sp.div d hd (Sp.lin hu hv a b h)
theorem Sp.nil {v : V} (h : Sp [] v) (j) : v j = 0 := by
  induction h with
  | mem hw => simp at hw
  | zero => rfl
  | add _ _ i k => simp [ad, i, k]
  | smul a _ i => simp [sm, i]
  | div a ha _ i => simp only [sm] at i; exact (Int.mul_eq_zero.mp i).resolve_left ha
theorem Sp.split {w : V} {W : List V} {v : V} (h : Sp (w :: W) v) :
    ∃ (d a : Int) (y : V), d ≠ 0 ∧ Sp W y ∧ ∀ j, d * v j = a * w j + y j := by
  induction h with
  | mem hw =>
    rcases List.mem_cons.mp hw with rfl | hw
    · exact ⟨1, 1, zr, by decide, Sp.zero, fun j => by simp [zr]⟩
    · exact ⟨1, 0, _, by decide, Sp.mem hw, fun j => by simp⟩
  | zero => exact ⟨1, 0, zr, by decide, Sp.zero, fun j => by simp [zr]⟩
  | add _ _ i k =>
    obtain ⟨d, a, y, hd, hy, e⟩ := i
    obtain ⟨d', a', y', hd', hy', e'⟩ := k
    refine ⟨d * d', a * d' + a' * d, _, Int.mul_ne_zero hd hd', (hy.smul d').add (hy'.smul d), fun j => ?_⟩
    have e1 := e j; have e2 := e' j
    simp only [ad, sm]; grind
  | smul c _ i =>
    obtain ⟨d, a, y, hd, hy, e⟩ := i
    refine ⟨d, c * a, _, hd, hy.smul c, fun j => ?_⟩
    have e1 := e j
    simp only [sm]; grind
  | div c hc _ i =>
    obtain ⟨d, a, y, hd, hy, e⟩ := i
    refine ⟨d * c, a, y, Int.mul_ne_zero hd hc, hy, fun j => ?_⟩
    have e1 := e j
    simp only [sm] at e1; grind
/-- linear maps -/
structure Lin (T : V → V) : Prop where
  z : ∀ j, T zr j = 0
  a : ∀ u v j, T (ad u v) j = T u j + T v j
  s : ∀ c u j, T (sm c u) j = c * T u j
theorem Sp.map {T : V → V} (hT : Lin T) {W : List V} {v} (h : Sp W v) : Sp (W.map T) (T v) := by
  induction h with
  | mem hw => exact Sp.mem (List.mem_map_of_mem hw)
  | zero => exact Sp.zero.congr fun j => by simp [hT.z, zr]
  | add _ _ i k => exact (i.add k).congr fun j => by simp [hT.a, ad]
  | smul c _ i => exact (i.smul c).congr fun j => by simp [hT.s, sm]
  | div c hc _ i => exact Sp.div c hc (i.congr fun j => by simp [hT.s, sm])
def Ind : List V → Prop
  | [] => True
  | w :: W => ¬ Sp W w ∧ Ind W
theorem Ind.swap {u v : V} {W} (h : Ind (u :: v :: W)) : Ind (v :: u :: W) := by
  obtain ⟨hu, hv, hW⟩ := h
  refine ⟨fun hs => ?_, fun hs => hu (hs.mono (by simp +contextual)), hW⟩
  obtain ⟨d, a, y, hd, hy, e⟩ := hs.split
  by_cases ha : a = 0
  · subst ha
    exact hv (Sp.dlin hy hy 1 0 d hd fun j => by have := e j; grind)
  · refine hu (Sp.dlin (u := v) (v := y) (Sp.mem (by simp)) (hy.mono (by simp +contextual)) d (-1) a ha
      fun j => by have := e j; grind)
theorem Ind.perm {A B : List V} (p : A.Perm B) : Ind A → Ind B := by
  induction p with
  | nil => exact id
  | cons x p ih => exact fun h => ⟨fun hs => h.1 (hs.mono fun w hw => p.mem_iff.mpr hw), ih h.2⟩
  | swap x y l => exact Ind.swap
  | trans _ _ i k => exact fun h => k (i h)
theorem Ind.shear {b : V} {B : List V} (f : V → V)
    (hf : ∀ v ∈ B, ∃ c e : Int, c ≠ 0 ∧ ∀ j, f v j = c * v j + e * b j)
    (h : Ind (B ++ [b])) : Ind (B.map f) := by
  induction B with
  | nil => trivial
  | cons v B ih =>
    refine ⟨fun hs => h.1 ?_, ih (fun v hv => hf v (by simp [hv])) h.2⟩
    have hs' : Sp (B ++ [b]) (f v) := hs.trans fun w hw => by
      obtain ⟨x, hx, rfl⟩ := List.mem_map.mp hw
      obtain ⟨c, e, _, he⟩ := hf x (by simp [hx])
      exact Sp.lin (Sp.mem (by simp [hx])) (Sp.mem (w := b) (by simp)) c e he
    obtain ⟨c, e, hc, he⟩ := hf v (by simp)
    exact Sp.dlin hs' (Sp.mem (w := b) (by simp)) 1 (-e) c hc fun j => by have := he j; grind
theorem steinitz (W : List V) : ∀ (B : List V), Ind B → (∀ b ∈ B, Sp W b) → B.length ≤ W.length := by
  induction W with
  | nil =>
    intro B hB hs
    cases B with
    | nil => simp
    | cons b B =>
      exact absurd (Sp.zero.congr fun j => ((hs b (by simp)).nil j).symm) hB.1
  | cons w W ih =>
    intro B hB hs
    by_cases hall : ∀ b ∈ B, Sp W b
    · exact Nat.le_succ_of_le (ih B hB hall)
    · have ⟨b, hb, hnb⟩ : ∃ b ∈ B, ¬ Sp W b := by
        apply Classical.byContradiction; intro hc; apply hall; intro b hb
        apply Classical.byContradiction; intro hn; exact hc ⟨b, hb, hn⟩
      obtain ⟨B1, B2, rfl⟩ := List.append_of_mem hb
      have hp : (B1 ++ b :: B2).Perm ((B1 ++ B2) ++ [b]) :=
        List.perm_middle.trans (List.perm_append_singleton _ _).symm
      have hB' := Ind.perm hp hB
      obtain ⟨d, a, y, hd, hy, e⟩ := (hs b hb).split
      have ha : a ≠ 0 := by
        rintro rfl
        exact hnb (Sp.dlin hy hy 1 0 d hd fun j => by have := e j; grind)
      have hch : ∀ v : V, ∃ f : V, (v ∈ B1 ++ B2 → (∃ c e : Int, c ≠ 0 ∧ ∀ j, f j = c * v j + e * b j) ∧ Sp W f) := by
        intro v
        by_cases hv : v ∈ B1 ++ B2
        · obtain ⟨d', a', y', hd', hy', e'⟩ := (hs v (hp.mem_iff.mpr (by simp at hv ⊢; grind))).split
          refine ⟨fun j => (a * d') * v j + (- (a' * d)) * b j, fun _ => ⟨⟨_, _, Int.mul_ne_zero ha hd', fun j => rfl⟩, ?_⟩⟩
          exact Sp.lin hy' hy a (-a') fun j => by
            have e1 := e j; have e2 := e' j; grind
        · exact ⟨zr, fun h => absurd h hv⟩
      have ⟨f, hf⟩ : ∃ f : V → V, ∀ v ∈ B1 ++ B2, (∃ c e : Int, c ≠ 0 ∧ ∀ j, f v j = c * v j + e * b j) ∧ Sp W (f v) :=
        ⟨fun v => Classical.choose (hch v), fun v hv => Classical.choose_spec (hch v) hv⟩
      have hI := Ind.shear f (fun v hv => (hf v hv).1) hB'
      have := ih _ hI (fun x hx => by obtain ⟨v, hv, rfl⟩ := List.mem_map.mp hx; exact (hf v hv).2)
      simp only [List.length_map, List.length_append, List.length_cons] at this ⊢
      omega
theorem basis_ex (L : List V) : ∃ B : List V, (∀ b ∈ B, b ∈ L) ∧ Ind B ∧ ∀ v ∈ L, Sp B v := by
  induction L with
  | nil => exact ⟨[], by simp, trivial, by simp⟩
  | cons v L ih =>
    obtain ⟨B, h1, h2, h3⟩ := ih
    by_cases h : Sp B v
    · refine ⟨B, fun b hb => by simp [h1 b hb], h2, fun x hx => ?_⟩
      rcases List.mem_cons.mp hx with rfl | hx
      · exact h
      · exact h3 x hx
    · refine ⟨v :: B, fun b hb => ?_, ⟨h, h2⟩, fun x hx => ?_⟩
      · rcases List.mem_cons.mp hb with rfl | hb
        · simp
        · simp [h1 b hb]
      · rcases List.mem_cons.mp hx with rfl | hx
        · exact Sp.mem (by simp)
        · exact (h3 x hx).mono (by simp +contextual)
noncomputable def rk (L : List V) : Nat := (Classical.choose (basis_ex L)).length
theorem rk_spec (L : List V) : ∃ B : List V, (∀ b ∈ B, b ∈ L) ∧ Ind B ∧ (∀ v ∈ L, Sp B v) ∧ B.length = rk L :=
  ⟨_, (Classical.choose_spec (basis_ex L)).1, (Classical.choose_spec (basis_ex L)).2.1,
    (Classical.choose_spec (basis_ex L)).2.2, rfl⟩
theorem rk_of_basis {L B : List V} (hI : Ind B) (h1 : ∀ b ∈ B, Sp L b) (h2 : ∀ v ∈ L, Sp B v) : rk L = B.length := by
  obtain ⟨C, c1, c2, c3, e⟩ := rk_spec L
  rw [← e]
  apply Nat.le_antisymm
  · exact steinitz B C c2 fun c hc => h2 c (c1 c hc)
  · exact steinitz C B hI fun b hb => (h1 b hb).trans c3
theorem ind_le_rk {L B : List V} (hI : Ind B) (h1 : ∀ b ∈ B, Sp L b) : B.length ≤ rk L := by
  obtain ⟨C, c1, c2, c3, e⟩ := rk_spec L
  rw [← e]; exact steinitz C B hI fun b hb => (h1 b hb).trans c3
theorem rk_le_of {L W : List V} (h : ∀ v ∈ L, Sp W v) : rk L ≤ W.length := by
  obtain ⟨C, c1, c2, c3, e⟩ := rk_spec L
  rw [← e]; exact steinitz W C c2 fun c hc => h c (c1 c hc)
theorem rk_le_length (L : List V) : rk L ≤ L.length := rk_le_of fun _ hv => Sp.mem hv
theorem ind_of_rk {L : List V} (h : rk L = L.length) : Ind L := by
  induction L with
  | nil => trivial
  | cons v L ih =>
    have hl := rk_le_length L
    simp only [List.length_cons] at h
    refine ⟨fun hs => ?_, ih ?_⟩
    · have : rk (v :: L) ≤ L.length := rk_le_of fun x hx => by
        rcases List.mem_cons.mp hx with rfl | hx
        · exact hs
        · exact Sp.mem hx
      omega
    · obtain ⟨C, c1, c2, c3, e⟩ := rk_spec L
      have : rk (v :: L) ≤ (v :: C).length := rk_le_of fun x hx => by
        rcases List.mem_cons.mp hx with rfl | hx
        · exact Sp.mem (by simp)
        · exact (c3 x hx).mono (by simp +contextual)
      simp only [List.length_cons] at this
      omega
end RK
namespace RK
/-- pivots: places and vectors, the later ones nought at the places of the earlier ones -/
def Tri : List (Nat × V) → Prop
  | [] => True
  | p :: ps => p.2 p.1 ≠ 0 ∧ (∀ q ∈ ps, q.2 p.1 = 0) ∧ Tri ps
theorem tri_snoc {ps : List (Nat × V)} (h : Tri ps) {p : Nat} {v : V} (hp : v p ≠ 0) (hz : ∀ q ∈ ps, v q.1 = 0) :
    Tri (ps ++ [(p, v)]) := by
  induction ps with
  | nil => exact ⟨hp, by simp, trivial⟩
  | cons q ps ih =>
    refine ⟨h.1, fun x hx => ?_, ih h.2.2 fun x hx => hz x (by simp [hx])⟩
    rcases List.mem_append.mp hx with hx | hx
    · exact h.2.1 x hx
    · simp at hx; subst hx; exact hz q (by simp)
theorem Sp.van {W : List V} {j : Nat} (h : ∀ w ∈ W, w j = 0) {v : V} (hv : Sp W v) : v j = 0 := by
  induction hv with
  | mem hw => exact h _ hw
  | zero => rfl
  | add _ _ i k => simp [ad, i, k]
  | smul a _ i => simp [sm, i]
  | div a ha _ i => simp only [sm] at i; exact (Int.mul_eq_zero.mp i).resolve_left ha
theorem tri_ind {ps : List (Nat × V)} (h : Tri ps) : Ind (ps.map (·.2)) := by
  induction ps with
  | nil => trivial
  | cons p ps ih =>
    refine ⟨fun hs => h.1 (hs.van fun w hw => ?_), ih h.2.2⟩
    obtain ⟨q, hq, rfl⟩ := List.mem_map.mp hw
    exact h.2.1 q hq
/-- a sum of pivots that is nought at all their places is nought -/
theorem tri_zero {ps : List (Nat × V)} (h : Tri ps) {v : V} (hv : Sp (ps.map (·.2)) v) (hz : ∀ p ∈ ps, v p.1 = 0) :
    ∀ j, v j = 0 := by
  induction ps generalizing v with
  | nil => exact hv.nil
  | cons p ps ih =>
    obtain ⟨d, a, y, hd, hy, e⟩ := hv.split
    have hyp : y p.1 = 0 := hy.van fun w hw => by
      obtain ⟨q, hq, rfl⟩ := List.mem_map.mp hw
      exact h.2.1 q hq
    have ha : a = 0 := by
      have := e p.1
      rw [hz p (by simp), hyp] at this
      have h1 := h.1
      have h2 : a * p.2 p.1 = 0 := by
        have t := this; rw [Int.mul_zero, Int.add_zero] at t; exact t.symm
      exact (Int.mul_eq_zero.mp h2).resolve_right h1
    subst ha
    have hv' : Sp (ps.map (·.2)) v := Sp.dlin hy hy 1 0 d hd fun j => by have := e j; grind
    exact ih h.2.2 hv' fun q hq => hz q (by simp [hq])
/-- sums with whole coefficients -/
def lc : List Int → List V → V
  | c :: cs, v :: vs => fun j => c * v j + lc cs vs j
  | _, _ => zr
theorem lc_sp (cs : List Int) (vs : List V) : Sp vs (lc cs vs) := by
  induction vs generalizing cs with
  | nil => cases cs <;> exact Sp.zero
  | cons v vs ih =>
    cases cs with
    | nil => exact Sp.zero
    | cons c cs =>
      exact Sp.lin (Sp.mem (w := v) (by simp)) ((ih cs).mono (by simp +contextual)) c 1 fun j => by simp [lc]
theorem lc_ind {vs : List V} (h : Ind vs) (cs : List Int) (hl : cs.length = vs.length) (hz : ∀ j, lc cs vs j = 0) :
    ∀ c ∈ cs, c = 0 := by
  induction vs generalizing cs with
  | nil => cases cs with
    | nil => simp
    | cons c cs => simp at hl
  | cons v vs ih =>
    cases cs with
    | nil => simp
    | cons c cs =>
      have hc : c = 0 := by
        apply Classical.byContradiction
        intro hc
        refine h.1 (Sp.dlin (lc_sp cs vs) (lc_sp cs vs) (-1) 0 c hc fun j => ?_)
        have := hz j; simp only [lc] at this; grind
      subst hc
      intro c hc
      rcases List.mem_cons.mp hc with rfl | hc
      · rfl
      · exact ih h.2 cs (by simpa using hl) (fun j => by have := hz j; simpa [lc] using this) c hc
theorem lc_sub (cs ds : List Int) (vs : List V) (hl : cs.length = ds.length) (j) :
    lc (cs.zipWith (· - ·) ds) vs j = lc cs vs j - lc ds vs j := by
  induction vs generalizing cs ds with
  | nil => cases cs <;> cases ds <;> simp [lc, zr]
  | cons v vs ih =>
    cases cs with
    | nil => cases ds with
      | nil => simp [lc, zr]
      | cons d ds => simp at hl
    | cons c cs => cases ds with
      | nil => simp at hl
      | cons d ds =>
        simp only [List.zipWith_cons_cons, lc]
        rw [ih cs ds (by simpa using hl)]; grind
theorem natAbs_mul_le {a b : Int} {x y : Nat} (ha : a.natAbs ≤ x) (hb : b.natAbs ≤ y) : (a * b).natAbs ≤ x * y := by
  rw [Int.natAbs_mul]; exact Nat.mul_le_mul ha hb
theorem lc_bound (cs : List Int) (vs : List V) (N B j : Nat) (hc : ∀ c ∈ cs, c.natAbs ≤ N)
    (hv : ∀ v ∈ vs, (v j).natAbs ≤ B) : (lc cs vs j).natAbs ≤ vs.length * (N * B) := by
  induction vs generalizing cs with
  | nil => cases cs <;> simp [lc, zr]
  | cons v vs ih =>
    cases cs with
    | nil => simp [lc, zr]
    | cons c cs =>
      have h1 := ih cs (fun c hc' => hc c (by simp [hc'])) (fun v hv' => hv v (by simp [hv']))
      have h2 := natAbs_mul_le (hc c (by simp)) (hv v (by simp))
      have h3 := Int.natAbs_add_le (c * v j) (lc cs vs j)
      simp only [lc, List.length_cons, Nat.succ_mul]
      omega
theorem pigeon (M : Nat) (f : Nat → Nat) (h : ∀ i, i ≤ M → f i < M) : ∃ i j, i < j ∧ j ≤ M ∧ f i = f j := by
  induction M generalizing f with
  | zero => exact absurd (h 0 (Nat.le_refl _)) (Nat.not_lt_zero _)
  | succ M ih =>
    by_cases hx : ∃ i, i ≤ M ∧ f i = f (M + 1)
    · obtain ⟨i, hi, e⟩ := hx
      exact ⟨i, M + 1, by omega, Nat.le_refl _, e⟩
    · have hne : ∀ i, i ≤ M → f i ≠ f (M + 1) := fun i hi e => hx ⟨i, hi, e⟩
      have hM := h (M + 1) (Nat.le_refl _)
      obtain ⟨i, j, hij, hj, e⟩ := ih (fun i => if f i = M then f (M + 1) else f i) (fun i hi => by
        have h1 := h i (by omega); have h2 := hne i hi
        by_cases he : f i = M
        · simp [he]; omega
        · simp [he]; omega)
      refine ⟨i, j, hij, by omega, ?_⟩
      have h1 := hne i (by omega); have h2 := hne j (by omega)
      by_cases hi : f i = M <;> by_cases hj' : f j = M <;> simp [hi, hj'] at e <;> omega
/-- digits, the lowest first -/
def dg (D : Nat) : Nat → Nat → List Nat
  | 0, _ => []
  | k + 1, x => x % D :: dg D k (x / D)
theorem dg_length (D k x) : (dg D k x).length = k := by
  induction k generalizing x with
  | zero => rfl
  | succ k ih => simp [dg, ih]
theorem dg_lt {D : Nat} (hD : 0 < D) (k x) : ∀ d ∈ dg D k x, d < D := by
  induction k generalizing x with
  | zero => simp [dg]
  | succ k ih =>
    intro d hd
    simp only [dg, List.mem_cons] at hd
    rcases hd with rfl | hd
    · exact Nat.mod_lt _ hD
    · exact ih _ d hd
theorem dg_inj {D : Nat} (k x y : Nat) (hx : x < D ^ k) (hy : y < D ^ k) (h : dg D k x = dg D k y) : x = y := by
  induction k generalizing x y with
  | zero => simp at hx hy; omega
  | succ k ih =>
    simp only [dg, List.cons.injEq] at h
    have h1 : x / D = y / D := ih _ _ (Nat.div_lt_of_lt_mul (by rw [Nat.pow_succ, Nat.mul_comm] at hx; exact hx))
      (Nat.div_lt_of_lt_mul (by rw [Nat.pow_succ, Nat.mul_comm] at hy; exact hy)) h.2
    have e1 := Nat.div_add_mod x D; have e2 := Nat.div_add_mod y D
    rw [← e1, ← e2, h1, h.1]
/-- a list of numbers as one number -/
def cde (D : Nat) : List Nat → Nat
  | [] => 0
  | x :: xs => x + D * cde D xs
theorem cde_lt {D : Nat} (xs : List Nat) (h : ∀ x ∈ xs, x < D) : cde D xs < D ^ xs.length := by
  induction xs with
  | nil => simp [cde]
  | cons x xs ih =>
    have h1 := h x (by simp)
    have h2 := ih fun x hx => h x (by simp [hx])
    simp only [cde, List.length_cons, Nat.pow_succ]
    have : D * (cde D xs + 1) ≤ D * D ^ xs.length := Nat.mul_le_mul_left _ h2
    rw [Nat.mul_comm (D ^ xs.length) D]
    grind
theorem cde_inj {D : Nat} (xs ys : List Nat) (hl : xs.length = ys.length) (hx : ∀ x ∈ xs, x < D) (hy : ∀ y ∈ ys, y < D)
    (h : cde D xs = cde D ys) : xs = ys := by
  induction xs generalizing ys with
  | nil => cases ys with
    | nil => rfl
    | cons y ys => simp at hl
  | cons x xs ih =>
    cases ys with
    | nil => simp at hl
    | cons y ys =>
      simp only [cde] at h
      have h1 := hx x (by simp); have h2 := hy y (by simp)
      have m1 : (x + D * cde D xs) % D = x := by rw [Nat.add_mul_mod_self_left, Nat.mod_eq_of_lt h1]
      have m2 : (y + D * cde D ys) % D = y := by rw [Nat.add_mul_mod_self_left, Nat.mod_eq_of_lt h2]
      have exy : x = y := by rw [← m1, ← m2, h]
      subst exy
      have : cde D xs = cde D ys := Nat.eq_of_mul_eq_mul_left (by omega : 0 < D) (by omega)
      rw [ih ys (by simpa using hl) (fun x hx' => hx x (by simp [hx'])) (fun y hy' => hy y (by simp [hy'])) this]
/-- a small sum that is nought at fewer places than there are rows -/
theorem siegel (vs : List V) (ps : List Nat) (B : Nat) (hB : 1 ≤ B) (hlt : ps.length < vs.length)
    (hb : ∀ v ∈ vs, ∀ j, (v j).natAbs ≤ B) :
    ∃ cs : List Int, cs.length = vs.length ∧ (∃ c ∈ cs, c ≠ 0) ∧
      (∀ c ∈ cs, c.natAbs ≤ (2 * vs.length * B) ^ ps.length) ∧ ∀ p ∈ ps, lc cs vs p = 0 := by
  let k := vs.length
  let q := ps.length
  let N := (2 * k * B) ^ q
  let K := k * (N * B)
  let D := 2 * K + 1
  have hk : 1 ≤ k := by show 1 ≤ vs.length; omega
  have hcs : ∀ x, ((dg (N + 1) k x).map Int.ofNat).length = vs.length := fun x => by simp [dg_length, k]
  let cs : Nat → List Int := fun x => (dg (N + 1) k x).map Int.ofNat
  have hbnd : ∀ x, ∀ c ∈ cs x, c.natAbs ≤ N := by
    intro x c hc
    obtain ⟨d, hd, rfl⟩ := List.mem_map.mp hc
    have := dg_lt (Nat.succ_pos N) k x d hd
    simp only [Int.ofNat_eq_natCast, Int.natAbs_natCast]; omega
  have hval : ∀ x p, (lc (cs x) vs p).natAbs ≤ K := fun x p => lc_bound _ _ N B p (hbnd x) fun v hv => hb v hv p
  let im : Nat → List Nat := fun x => ps.map fun p => (lc (cs x) vs p + K).toNat
  have him : ∀ x, ∀ y ∈ im x, y < D := by
    intro x y hy
    obtain ⟨p, _, rfl⟩ := List.mem_map.mp hy
    have := hval x p
    show (lc (cs x) vs p + (K : Int)).toNat < 2 * K + 1
    omega
  have hNK : D ^ q < (N + 1) ^ k := by
    have h1 : D ≤ (2 * k * B) * (N + 1) := by
      show 2 * (k * (N * B)) + 1 ≤ _
      have : 1 ≤ k * B := Nat.mul_le_mul hk hB
      have e : 2 * k * B * (N + 1) = 2 * (k * (N * B)) + 2 * (k * B) := by grind
      omega
    have h2 : D ^ q ≤ N * (N + 1) ^ q := by
      have := Nat.pow_le_pow_left h1 q
      rwa [Nat.mul_pow] at this
    have h3 : N * (N + 1) ^ q < (N + 1) ^ (q + 1) := by
      rw [Nat.pow_succ, Nat.mul_comm]
      exact Nat.mul_lt_mul_of_pos_left (Nat.lt_succ_self N) (Nat.pow_pos (Nat.succ_pos N))
    exact Nat.lt_of_lt_of_le (Nat.lt_of_le_of_lt h2 h3) (Nat.pow_le_pow_right (Nat.succ_pos N) hlt)
  obtain ⟨x, y, hxy, hy, e⟩ := pigeon (D ^ q) (fun x => cde D (im x)) (fun i _ => by
    have := cde_lt (im i) (him i)
    simpa [im] using this)
  have hlen : ∀ x, (im x).length = ps.length := fun x => by simp [im]
  have him2 : im x = im y := cde_inj _ _ (by rw [hlen, hlen]) (him x) (him y) e
  refine ⟨(cs x).zipWith (· - ·) (cs y), by simp [cs, dg_length, k], ?_, ?_, ?_⟩
  · apply Classical.byContradiction
    intro hn
    have hall : ∀ c ∈ (cs x).zipWith (· - ·) (cs y), c = 0 := fun c hc => Classical.byContradiction fun h => hn ⟨c, hc, h⟩
    have hgen : ∀ (a b : List Nat), a.length = b.length →
        (∀ c ∈ (a.map Int.ofNat).zipWith (· - ·) (b.map Int.ofNat), c = 0) → a = b := by
      intro a
      induction a with
      | nil => intro b hl _; cases b with
        | nil => rfl
        | cons _ _ => simp at hl
      | cons a as ih => intro b hl h; cases b with
        | nil => simp at hl
        | cons b bs =>
          have h1 := h ((a : Int) - b) (by simp)
          rw [ih bs (by simpa using hl) fun c hc => h c (by
            simp only [List.map_cons, List.zipWith_cons_cons, List.mem_cons]; exact Or.inr hc)]
          have : a = b := by omega
          rw [this]
    have := dg_inj k x y (by omega) (by omega) (hgen _ _ (by simp [dg_length]) hall)
    omega
  · intro c hc
    obtain ⟨i, hi, rfl⟩ := List.mem_iff_getElem.mp hc
    rw [List.getElem_zipWith]
    have hgx : ∀ x i (hi : i < (cs x).length), ∃ m : Nat, (cs x)[i] = (m : Int) ∧ m ≤ N := by
      intro x i hi
      have hm := List.getElem_mem hi
      obtain ⟨d, hd, e⟩ := List.mem_map.mp hm
      have := dg_lt (Nat.succ_pos N) k x d hd
      exact ⟨d, e.symm, by omega⟩
    simp only [List.length_zipWith] at hi
    obtain ⟨m, e1, h1⟩ := hgx x i (by omega)
    obtain ⟨m', e2, h2⟩ := hgx y i (by omega)
    rw [e1, e2]
    show _ ≤ N
    omega
  · intro p hp
    rw [lc_sub _ _ _ (by simp [cs, dg_length])]
    have hz : (lc (cs x) vs p + K).toNat = (lc (cs y) vs p + K).toNat := by
      have hgen : ∀ (l : List Nat), l.map (fun p => (lc (cs x) vs p + K).toNat) = l.map (fun p => (lc (cs y) vs p + K).toNat) →
          ∀ p ∈ l, (lc (cs x) vs p + K).toNat = (lc (cs y) vs p + K).toNat := by
        intro l
        induction l with
        | nil => simp
        | cons a l ih =>
          intro h p hp
          simp only [List.map_cons, List.cons.injEq] at h
          rcases List.mem_cons.mp hp with rfl | hp
          · exact h.1
          · exact ih h.2 p hp
      exact hgen ps him2 p hp
    have h1 := hval x p; have h2 := hval y p
    omega
/-- a primitive sum of k rows that is nought at k - 1 pivots' places is small -/
theorem pivot_bound {R : List V} {B : Nat} (hB : 1 ≤ B) (hb : ∀ r ∈ R, ∀ j, (r j).natAbs ≤ B)
    {ps : List (Nat × V)} (ht : Tri ps) (hs : ∀ p ∈ ps, Sp R p.2) (hl : R.length = ps.length + 1)
    {u : V} {p : Nat} (hu : Sp R u) (hp : u p ≠ 0) (hz : ∀ q ∈ ps, u q.1 = 0)
    (hprim : ∀ d : Int, (∀ j, d ∣ u j) → d.natAbs = 1) (j : Nat) :
    (u j).natAbs ≤ (2 * R.length * B) ^ R.length := by
  have ht' : Tri (ps ++ [(p, u)]) := tri_snoc ht hp hz
  have hI := tri_ind ht'
  have hsp : ∀ v ∈ (ps ++ [(p, u)]).map (·.2), Sp R v := by
    intro v hv
    obtain ⟨q, hq, rfl⟩ := List.mem_map.mp hv
    rcases List.mem_append.mp hq with hq | hq
    · exact hs q hq
    · simp at hq; subst hq; exact hu
  have hrk : rk R = R.length := Nat.le_antisymm (rk_le_length R) (by
    have := ind_le_rk hI hsp
    simp at this; omega)
  have hIR := ind_of_rk hrk
  obtain ⟨cs, h1, ⟨c, hc, hc0⟩, h3, h4⟩ := siegel R (ps.map (·.1)) B hB (by simp; omega) hb
  have hback : ∀ r ∈ R, Sp ((ps ++ [(p, u)]).map (·.2)) r := by
    intro r hr
    apply Classical.byContradiction
    intro hn
    have : Ind (r :: (ps ++ [(p, u)]).map (·.2)) := ⟨hn, hI⟩
    have := steinitz R _ this (fun b hb => by
      rcases List.mem_cons.mp hb with rfl | hb
      · exact Sp.mem hr
      · exact hsp b hb)
    simp at this; omega
  have hw : Sp ((ps ++ [(p, u)]).map (·.2)) (lc cs R) := (lc_sp cs R).trans hback
  have hw' : Sp (u :: ps.map (·.2)) (lc cs R) := hw.mono (by simp; grind)
  obtain ⟨d, a, y, hd, hy, e⟩ := hw'.split
  have hy0 := tri_zero ht hy fun q hq => by
    have h5 := h4 q.1 (by simp; exact ⟨_, hq⟩)
    have := e q.1
    rw [h5, hz q hq] at this
    omega
  have e' : ∀ j, d * lc cs R j = a * u j := fun j => by have := e j; rw [hy0 j] at this; omega
  have hane : a ≠ 0 := by
    rintro rfl
    have := lc_ind hIR cs h1 (fun j => by
      have := e' j
      have : d * lc cs R j = 0 := by omega
      exact (Int.mul_eq_zero.mp this).resolve_left hd) c hc
    exact hc0 this
  -- d divides a
  have hdiv : d ∣ a := by
    let g : Int := Int.gcd d a
    have hg : g ≠ 0 := by
      show ((Int.gcd d a : Nat) : Int) ≠ 0
      simp [Int.gcd_eq_zero_iff, hd]
    obtain ⟨d', hd'⟩ : g ∣ d := Int.gcd_dvd_left ..
    obtain ⟨a', ha'⟩ : g ∣ a := Int.gcd_dvd_right ..
    have hcop : Int.gcd d' a' = 1 := by
      have h5 : Int.gcd d a = g.natAbs * Int.gcd d' a' := by
        rw [show Int.gcd d a = Int.gcd (g * d') (g * a') by rw [← hd', ← ha'], Int.gcd_mul_left]
      have h6 : g.natAbs = Int.gcd d a := by simp [g]
      have h7 : 0 < Int.gcd d a := by
        rw [← h6]; exact Int.natAbs_pos.mpr hg
      rw [h6] at h5
      exact Nat.eq_of_mul_eq_mul_left h7 (by omega)
    have hall : ∀ j, d' ∣ u j := by
      intro j
      have h8 := e' j
      rw [hd', ha', Int.mul_assoc, Int.mul_assoc] at h8
      have h9 := Int.eq_of_mul_eq_mul_left hg h8
      have : d' ∣ a' * u j := ⟨_, h9.symm⟩
      exact by
        have h10 := Int.dvd_gcd_mul_iff_dvd_mul.mpr this
        simpa [hcop] using h10
    have := hprim d' hall
    rw [hd', ha']
    exact Int.mul_dvd_mul_left g (Int.natAbs_dvd.mp (by rw [this]; exact ⟨a', by simp⟩))
  obtain ⟨m, rfl⟩ := hdiv
  have hm : m ≠ 0 := fun h => hane (by simp [h])
  have e'' : lc cs R j = m * u j := by
    have := e' j
    rw [Int.mul_assoc] at this
    exact Int.eq_of_mul_eq_mul_left hd this
  have hle : (u j).natAbs ≤ (lc cs R j).natAbs := by
    rw [e'', Int.natAbs_mul]
    exact Nat.le_mul_of_pos_left _ (Int.natAbs_pos.mpr hm)
  have hb2 := lc_bound cs R _ B j h3 fun v hv => hb v hv j
  simp only [List.length_map] at hb2
  have hk : R.length = ps.length + 1 := hl
  have : R.length * ((2 * R.length * B) ^ ps.length * B) ≤ (2 * R.length * B) ^ R.length := by
    rw [show (2 * R.length * B) ^ R.length = (2 * R.length * B) ^ ps.length * (2 * R.length * B) by
      conv => lhs; rw [hk]
      rw [Nat.pow_succ, ← hk]]
    generalize (2 * R.length * B) ^ ps.length = X
    have : R.length * (X * B) = X * (R.length * B) := by grind
    rw [this]
    exact Nat.mul_le_mul_left _ (Nat.mul_le_mul_right _ (by omega))
  omega
end RK
namespace RK
/-- rows as vectors -/
def vz (l : List Int) : V := fun j => l.getD j 0
theorem vz_out {l : List Int} {j} (h : l.length ≤ j) : vz l j = 0 := by simp [vz, List.getD, h]
theorem vz_mem {l : List Int} {j} (h : j < l.length) : vz l j ∈ l := by
  simp only [vz, List.getD, List.getElem?_eq_getElem h, Option.getD_some]; exact List.getElem_mem h
theorem vz_get {l : List Int} {j} (h : j < l.length) : l[j] = vz l j := by
  simp only [vz, List.getD, List.getElem?_eq_getElem h, Option.getD_some]
/-- all numbers of a row are small -/
def Bd (B : Nat) (l : List Int) : Prop := ∀ x ∈ l, x.natAbs ≤ B
theorem Bd.vz {B l} (h : Bd B l) (j) : (vz l j).natAbs ≤ B := by
  by_cases hj : j < l.length
  · exact h _ (vz_mem hj)
  · rw [vz_out (by omega)]; simp
theorem Bd.of {B l} (h : ∀ j, (RK.vz l j).natAbs ≤ B) : Bd B l := by
  intro x hx
  obtain ⟨j, hj, rfl⟩ := List.mem_iff_getElem.mp hx
  rw [vz_get hj]; exact h j
theorem Bd.le {B C l} (h : Bd B l) (hc : B ≤ C) : Bd C l := fun x hx => Nat.le_trans (h x hx) hc
def gcdF (g : Nat) (l : List Int) : Nat := l.foldl (fun g x => Int.gcd g x) g
def gcdL (l : List Int) : Nat := gcdF 0 l
theorem gcdF_cons (g : Nat) (x l) : gcdF g (x :: l) = gcdF (Int.gcd g x) l := rfl
theorem gcdF_dvd (l : List Int) (g : Nat) : gcdF g l ∣ g ∧ ∀ x ∈ l, (gcdF g l : Int) ∣ x := by
  induction l generalizing g with
  | nil => simp [gcdF]
  | cons a l ih =>
    obtain ⟨h1, h2⟩ := ih (Int.gcd g a)
    simp only [gcdF_cons]
    refine ⟨Nat.dvd_trans h1 ?_, fun x hx => ?_⟩
    · have := Int.gcd_dvd_left (a := (g : Int)) (b := a)
      exact Int.natCast_dvd_natCast.mp this
    · rcases List.mem_cons.mp hx with rfl | hx
      · exact Int.dvd_trans (Int.natCast_dvd_natCast.mpr h1) (Int.gcd_dvd_right ..)
      · exact h2 x hx
theorem gcdF_dvd_of (l : List Int) (g : Nat) (d : Int) (hg : d ∣ (g : Int)) (h : ∀ x ∈ l, d ∣ x) : d ∣ (gcdF g l : Nat) := by
  induction l generalizing g with
  | nil => exact hg
  | cons a l ih =>
    simp only [gcdF_cons]
    exact ih _ (Int.dvd_coe_gcd hg (h a (by simp))) fun x hx => h x (by simp [hx])
theorem gcdL_dvd (l : List Int) : ∀ x ∈ l, (gcdL l : Int) ∣ x := (gcdF_dvd l 0).2
theorem dvd_gcdL {l : List Int} {d : Int} (h : ∀ x ∈ l, d ∣ x) : d ∣ (gcdL l : Nat) := gcdF_dvd_of l 0 d (by simp) h
theorem gcdL_zero {l : List Int} : gcdL l = 0 ↔ ∀ x ∈ l, x = 0 := by
  constructor
  · intro h x hx
    have := gcdL_dvd l x hx
    rw [h] at this; simpa using this
  · intro h
    have := dvd_gcdL (l := l) (d := 0) fun x hx => by rw [h x hx]; exact Int.dvd_refl 0
    have := Int.zero_dvd.mp this
    omega
/-- divided by what divides all -/
def divL (d : Int) (l : List Int) : List Int := l.map (· / d)
theorem divL_vz {d : Int} {l : List Int} (h : ∀ x ∈ l, d ∣ x) (j) : d * vz (divL d l) j = vz l j := by
  by_cases hj : j < l.length
  · have h2 : j < (divL d l).length := by simpa [divL] using hj
    rw [← vz_get h2, ← vz_get hj]
    simp only [divL, List.getElem_map]
    exact Int.mul_ediv_cancel' (h _ (List.getElem_mem hj))
  · rw [vz_out (by simp [divL]; omega), vz_out (by omega)]; simp
def plainZ (l : List Int) : List Int := if 1 < gcdL l then divL (gcdL l) l else l
theorem plainZ_length (l) : (plainZ l).length = l.length := by unfold plainZ; split <;> simp [divL]
theorem plainZ_eq (l : List Int) : ∃ d : Int, d ≠ 0 ∧ ∀ j, vz l j = d * vz (plainZ l) j := by
  unfold plainZ
  split
  · rename_i h
    exact ⟨gcdL l, by omega, fun j => (divL_vz (gcdL_dvd l) j).symm⟩
  · exact ⟨1, by decide, fun j => by simp⟩
/-- what is left when a row is divided by its own divisor has none -/
theorem prim_of {l m : List Int} {d : Nat} (hd : d = max 1 (gcdL l)) (h : ∀ j, vz l j = d * vz m j) 
    {p} (hp : vz l p ≠ 0) : ∀ e : Int, (∀ j, e ∣ vz m j) → e.natAbs = 1 := by
  intro e he
  have h0 : gcdL l ≠ 0 := by
    intro h0
    rw [gcdL_zero] at h0
    have : p < l.length := by apply Classical.byContradiction; intro hn; exact hp (vz_out (by omega))
    exact hp (h0 _ (vz_mem this))
  have hd' : d = gcdL l := by omega
  have h1 : (d : Int) * e ∣ (gcdL l : Nat) := dvd_gcdL fun x hx => by
    obtain ⟨j, hj, rfl⟩ := List.mem_iff_getElem.mp hx
    rw [vz_get hj, h j]
    exact Int.mul_dvd_mul_left _ (he j)
  rw [← hd'] at h1
  obtain ⟨c, hc⟩ := h1
  have h2 : (d : Int) ≠ 0 := by omega
  have h3 : (1 : Int) = e * c := by
    have : (d : Int) * 1 = d * (e * c) := by rw [← Int.mul_assoc, ← hc]; simp
    exact Int.eq_of_mul_eq_mul_left h2 this
  have h4 := congrArg Int.natAbs h3
  rw [Int.natAbs_mul] at h4
  exact Nat.eq_one_of_mul_eq_one_right h4.symm
theorem plainZ_prim {l : List Int} {p} (hp : vz (plainZ l) p ≠ 0) : ∀ e : Int, (∀ j, e ∣ vz (plainZ l) j) → e.natAbs = 1 := by
  obtain ⟨d, hd, he⟩ := plainZ_eq l
  have hp' : vz l p ≠ 0 := by rw [he p]; exact Int.mul_ne_zero hd hp
  refine prim_of (l := l) (d := max 1 (gcdL l)) rfl (fun j => ?_) hp'
  unfold plainZ
  split
  · rename_i h
    rw [show ((max 1 (gcdL l) : Nat) : Int) = gcdL l by omega]
    exact (divL_vz (gcdL_dvd l) j).symm
  · have : gcdL l ≠ 0 := by
      intro h0; rw [gcdL_zero] at h0
      have : p < l.length := by apply Classical.byContradiction; intro hn; exact hp' (vz_out (by omega))
      exact hp' (h0 _ (vz_mem this))
    rw [show ((max 1 (gcdL l) : Nat) : Int) = 1 by omega]; simp
def leadZ (l : List Int) : Option Nat := l.findIdx? (fun x => x != 0)
theorem leadZ_some {l : List Int} {p} (h : leadZ l = some p) : p < l.length ∧ vz l p ≠ 0 := by
  unfold leadZ at h
  rw [List.findIdx?_eq_some_iff_getElem] at h
  obtain ⟨h1, h2, _⟩ := h
  refine ⟨h1, ?_⟩
  rw [← vz_get h1]; simpa using h2
theorem leadZ_none {l : List Int} (h : leadZ l = none) : ∀ j, vz l j = 0 := by
  unfold leadZ at h
  rw [List.findIdx?_eq_none_iff] at h
  intro j
  by_cases hj : j < l.length
  · have := h _ (vz_mem hj); simpa using this
  · exact vz_out (by omega)
/-- c x + e y, number by number -/
def cmbZ (c e : Int) (x y : List Int) : List Int := List.zipWith (fun a b => c * a - e * b) x y
theorem cmbZ_length (c e x y) : (cmbZ c e x y).length = min x.length y.length := by simp [cmbZ]
theorem cmbZ_vz {c e : Int} {x y : List Int} (h : x.length = y.length) (j) : vz (cmbZ c e x y) j = c * vz x j - e * vz y j := by
  by_cases hj : j < x.length
  · have h2 : j < (cmbZ c e x y).length := by rw [cmbZ_length]; omega
    rw [← vz_get h2, ← vz_get hj, ← vz_get (by omega : j < y.length)]
    simp [cmbZ]
  · rw [vz_out (by rw [cmbZ_length]; omega), vz_out (by omega), vz_out (by omega)]; simp
theorem cmbZ_bd {c e : Int} {x y : List Int} {Q M : Nat} (hl : x.length = y.length) (hc : c.natAbs ≤ Q) (he : e.natAbs ≤ M)
    (hx : Bd M x) (hy : Bd Q y) : Bd (2 * Q * M) (cmbZ c e x y) := by
  apply Bd.of; intro j
  rw [cmbZ_vz hl]
  have h1 := natAbs_mul_le hc (hx.vz j)
  have h2 := natAbs_mul_le he (hy.vz j)
  have h3 := Int.natAbs_sub_le (c * vz x j) (e * vz y j)
  have : 2 * Q * M = Q * M + M * Q := by grind
  omega
def lessZ (x f : List Int) (p : Nat) : List Int :=
  cmbZ (vz f p / Int.gcd (vz f p) (vz x p)) (vz x p / Int.gcd (vz f p) (vz x p)) x f
theorem div_natAbs_le (a : Int) (d : Nat) : (a / (d : Int)).natAbs ≤ a.natAbs := by
  rcases Nat.eq_zero_or_pos d with rfl | h
  · simp
  · by_cases hd : (d : Int) ∣ a
    · obtain ⟨c, rfl⟩ := hd
      rw [Int.mul_ediv_cancel_left _ (by omega), Int.natAbs_mul]
      exact Nat.le_mul_of_pos_left _ (by simpa using h)
    · exact Int.natAbs_ediv_le_natAbs a d
theorem lessZ_spec {x f : List Int} {p : Nat} (hl : x.length = f.length) (hf : vz f p ≠ 0) :
    ∃ c e : Int, c ≠ 0 ∧ (∀ j, vz (lessZ x f p) j = c * vz x j - e * vz f j) ∧ vz (lessZ x f p) p = 0 ∧ (lessZ x f p).length = x.length ∧
      ∀ Q M, Bd Q f → Bd M x → Bd (2 * Q * M) (lessZ x f p) := by
  have hg : Int.gcd (vz f p) (vz x p) ≠ 0 := by simp [Int.gcd_eq_zero_iff, hf]
  obtain ⟨a, ha⟩ := Int.gcd_dvd_left (a := vz f p) (b := vz x p)
  obtain ⟨b, hb⟩ := Int.gcd_dvd_right (a := vz f p) (b := vz x p)
  have e1 : vz f p / Int.gcd (vz f p) (vz x p) = a := by
    conv => lhs; lhs; rw [ha]
    exact Int.mul_ediv_cancel_left _ (by omega)
  have e2 : vz x p / Int.gcd (vz f p) (vz x p) = b := by
    conv => lhs; lhs; rw [hb]
    exact Int.mul_ediv_cancel_left _ (by omega)
  refine ⟨a, b, ?_, fun j => by simp only [lessZ]; rw [e1, e2, cmbZ_vz hl], ?_, by simp [lessZ, cmbZ_length]; omega, fun Q M hQ hM => ?_⟩
  · rintro rfl; exact hf (by rw [ha]; simp)
  · simp only [lessZ]; rw [e1, e2, cmbZ_vz hl]
    generalize (Int.gcd (vz f p) (vz x p)) = g at ha hb
    rw [ha, hb]; grind
  · exact cmbZ_bd hl (Nat.le_trans (div_natAbs_le _ _) (hQ.vz p)) (Nat.le_trans (div_natAbs_le _ _) (hM.vz p)) hM hQ
/-- what a list of pivots is to be for rows of a length -/
def Piv (w Q : Nat) (found : List (Nat × List Int)) : Prop := ∀ q ∈ found, q.1 < w ∧ q.2.length = w ∧ vz q.2 q.1 ≠ 0 ∧ Bd Q q.2
abbrev tv (found : List (Nat × List Int)) : List (Nat × V) := found.map fun q => (q.1, vz q.2)
def clr1 (h : List Int) (q : Nat × List Int) : List Int := if vz h q.1 ≠ 0 then lessZ h q.2 q.1 else h
def clrZ (found : List (Nat × List Int)) (h : List Int) : List Int := found.foldl clr1 h
theorem clr1_spec {w Q} {h : List Int} {q : Nat × List Int} (hq : q.2.length = w ∧ vz q.2 q.1 ≠ 0 ∧ Bd Q q.2) (hQ : 1 ≤ Q) (hl : h.length = w) :
    ∃ c e : Int, c ≠ 0 ∧ (∀ j, vz (clr1 h q) j = c * vz h j - e * vz q.2 j) ∧ vz (clr1 h q) q.1 = 0 ∧ (clr1 h q).length = w ∧
      ∀ M, Bd M h → Bd (2 * Q * M) (clr1 h q) := by
  unfold clr1
  split
  · obtain ⟨c, e, h1, h2, h3, h4, h5⟩ := lessZ_spec (x := h) (by rw [hl, hq.1]) hq.2.1
    exact ⟨c, e, h1, h2, h3, by omega, fun M hM => h5 Q M hq.2.2 hM⟩
  · rename_i hz
    refine ⟨1, 0, by decide, fun j => by simp, by simpa using hz, hl, fun M hM => hM.le ?_⟩
    exact Nat.le_mul_of_pos_left _ (by omega)
theorem clrZ_spec {w Q} (hQ : 1 ≤ Q) (found : List (Nat × List Int)) (hp : Piv w Q found) (ht : Tri (tv found)) (h : List Int) (hl : h.length = w) :
    (∃ (c : Int) (y : V), c ≠ 0 ∧ Sp ((tv found).map (·.2)) y ∧ ∀ j, vz (clrZ found h) j = c * vz h j + y j) ∧
    (∀ q ∈ found, vz (clrZ found h) q.1 = 0) ∧ (clrZ found h).length = w ∧
    (∀ j, vz h j = 0 → (∀ q ∈ found, vz q.2 j = 0) → vz (clrZ found h) j = 0) ∧
    ∀ M, Bd M h → Bd ((2 * Q) ^ found.length * M) (clrZ found h) := by
  induction found generalizing h with
  | nil => exact ⟨⟨1, zr, by decide, Sp.zero, fun j => by simp [clrZ, zr]⟩, by simp, hl, fun j hj _ => hj, fun M hM => by simpa [clrZ] using hM⟩
  | cons q found ih =>
    obtain ⟨hq1, hq2, hq3, hq4⟩ := hp q (by simp)
    obtain ⟨c, e, c0, hc, hz, hlen, hb⟩ := clr1_spec (h := h) ⟨hq2, hq3, hq4⟩ hQ hl
    obtain ⟨⟨c', y, c0', hy, hc'⟩, hz', hlen', hk, hb'⟩ := ih (fun x hx => hp x (by simp [hx])) ht.2.2 (clr1 h q) hlen
    have hfold : clrZ (q :: found) h = clrZ found (clr1 h q) := rfl
    rw [hfold]
    refine ⟨⟨c' * c, _, Int.mul_ne_zero c0' c0, ((Sp.mem (w := vz q.2) (by simp)).smul (-(c' * e))).add (hy.mono (by simp +contextual)), fun j => ?_⟩, ?_, hlen', ?_, ?_⟩
    · rw [hc', hc]; simp only [ad, sm]; grind
    · intro x hx
      rcases List.mem_cons.mp hx with rfl | hx
      · exact hk _ hz fun y hy => ht.2.1 (y.1, vz y.2) (List.mem_map.mpr ⟨y, hy, rfl⟩)
      · exact hz' x hx
    · intro j hj hall
      refine hk j ?_ fun x hx => hall x (by simp [hx])
      rw [hc, hj, hall q (by simp)]; simp
    · intro M hM
      have := hb' _ (hb M hM)
      rwa [List.length_cons, Nat.pow_succ, Nat.mul_assoc]
def stepZ (found : List (Nat × List Int)) (r : List Int) : List (Nat × List Int) :=
  match leadZ (plainZ (clrZ found r)) with
  | none => found
  | some p => found ++ [(p, plainZ (clrZ found r))]
structure Inv (w B Q : Nat) (rows : List (List Int)) (found : List (Nat × List Int)) : Prop where
  own : ∃ I : List (List Int), I.length = found.length ∧ (∀ r ∈ I, r ∈ rows) ∧ ∀ q ∈ found, Sp (I.map vz) (vz q.2)
  tri : Tri (tv found)
  piv : Piv w Q found
  all : ∀ r ∈ rows, Sp ((tv found).map (·.2)) (vz r)
theorem pow_grow {a b c d : Nat} (h1 : 1 ≤ a) (h2 : a ≤ b) (h3 : c ≤ d) : a ^ c ≤ b ^ d :=
  Nat.le_trans (Nat.pow_le_pow_left h2 c) (Nat.pow_le_pow_right (by omega) h3)
theorem step_inv {w B n : Nat} (hB : 1 ≤ B) (hn : 1 ≤ n) {rows found} (hi : Inv w B ((2 * n * B) ^ n) rows found) (hlt : found.length < n)
    (hrb : ∀ r ∈ rows, Bd B r) {r : List Int} (hl : r.length = w) (hb : Bd B r) : Inv w B ((2 * n * B) ^ n) (rows ++ [r]) (stepZ found r) := by
  have hQ : 1 ≤ (2 * n * B) ^ n := Nat.one_le_pow _ _ (Nat.mul_pos (by omega) hB)
  obtain ⟨⟨c, y, c0, hy, hc⟩, hz, hlen, _, _⟩ := clrZ_spec hQ found hi.piv hi.tri r hl
  obtain ⟨d, d0, hd⟩ := plainZ_eq (clrZ found r)
  obtain ⟨I, hI1, hI2, hI3⟩ := hi.own
  unfold stepZ
  generalize hu : plainZ (clrZ found r) = u at *
  have hul : u.length = w := by rw [← hu, plainZ_length, hlen]
  have huz : ∀ q ∈ found, vz u q.1 = 0 := fun q hq => by
    have h1 := hz q hq; rw [hd] at h1; exact (Int.mul_eq_zero.mp h1).resolve_left d0
  have hur : Sp (vz u :: (tv found).map (·.2)) (vz r) := by
    refine Sp.dlin (u := vz u) (v := y) (Sp.mem (by simp)) (hy.mono (by simp +contextual)) d (-1) c c0 fun j => ?_
    have h1 := hc j; rw [hd] at h1; grind
  have hus : Sp (vz r :: I.map vz) (vz u) := by
    have hy' : Sp (vz r :: I.map vz) y := hy.trans fun v hv => by
      simp only [tv, List.map_map, List.mem_map, Function.comp] at hv
      obtain ⟨q, hq, rfl⟩ := hv
      exact (hI3 q hq).mono (by simp +contextual)
    refine Sp.dlin (u := vz r) (v := y) (Sp.mem (by simp)) hy' c 1 d d0 fun j => ?_
    have h1 := hc j; rw [hd] at h1; grind
  split
  · rename_i hnone
    have h0 := leadZ_none hnone
    refine ⟨⟨I, hI1, fun r hr => by simp [hI2 r hr], hI3⟩, hi.tri, hi.piv, fun x hx => ?_⟩
    rcases List.mem_append.mp hx with hx | hx
    · exact hi.all x hx
    · simp at hx; subst hx
      refine hur.trans fun v hv => ?_
      rcases List.mem_cons.mp hv with rfl | hv
      · exact Sp.zero.congr fun j => (h0 j).symm
      · exact Sp.mem hv
  · rename_i p hsome
    obtain ⟨hp1, hp2⟩ := leadZ_some hsome
    have hub : Bd ((2 * n * B) ^ n) u := by
      apply Bd.of; intro j
      have hpb := pivot_bound (R := vz r :: I.map vz) (B := B) hB (by
        intro v hv j
        simp only [List.mem_cons, List.mem_map] at hv
        rcases hv with rfl | ⟨x, hx, rfl⟩
        · exact hb.vz j
        · exact (hrb x (hI2 x hx)).vz j) hi.tri (fun q hq => by
          obtain ⟨x, hx, rfl⟩ := List.mem_map.mp hq
          exact (hI3 x hx).mono (by simp +contextual)) (by simp [hI1]) hus hp2 (fun q hq => by
          obtain ⟨x, hx, rfl⟩ := List.mem_map.mp hq
          exact huz x hx) (hu ▸ plainZ_prim (hu.symm ▸ hp2)) j
      refine Nat.le_trans hpb ?_
      simp only [List.length_cons, List.length_map, hI1]
      refine pow_grow (Nat.mul_pos (by omega) hB) (Nat.mul_le_mul_right _ (by omega)) (by omega)
    refine ⟨⟨I ++ [r], by simp [hI1], ?_, ?_⟩, ?_, ?_, ?_⟩
    · intro x hx
      rcases List.mem_append.mp hx with hx | hx
      · simp [hI2 x hx]
      · simp at hx; simp [hx]
    · intro q hq
      rcases List.mem_append.mp hq with hq | hq
      · exact (hI3 q hq).mono (by simp +contextual)
      · simp at hq; subst hq
        exact hus.mono (by simp +contextual)
    · have := tri_snoc hi.tri (p := p) (v := vz u) hp2 (fun q hq => by
        obtain ⟨x, hx, rfl⟩ := List.mem_map.mp hq
        exact huz x hx)
      simpa [tv] using this
    · intro q hq
      rcases List.mem_append.mp hq with hq | hq
      · exact hi.piv q hq
      · simp at hq; subst hq
        exact ⟨by omega, hul, hp2, hub⟩
    · intro x hx
      rcases List.mem_append.mp hx with hx | hx
      · exact (hi.all x hx).mono (by simp +contextual)
      · simp at hx; subst hx
        exact hur.mono (by simp; grind)
def echZ (rows : List (List Int)) : List (Nat × List Int) := rows.foldl stepZ []
theorem stepZ_len (found r) : (stepZ found r).length ≤ found.length + 1 := by unfold stepZ; split <;> simp
theorem echF_inv {w B n : Nat} (hB : 1 ≤ B) (hn : 1 ≤ n) (rs : List (List Int)) : ∀ (rows : List (List Int)) (found), Inv w B ((2 * n * B) ^ n) rows found →
    found.length + rs.length ≤ n → (∀ r ∈ rows, Bd B r) → (∀ r ∈ rs, r.length = w ∧ Bd B r) →
    Inv w B ((2 * n * B) ^ n) (rows ++ rs) (rs.foldl stepZ found) := by
  induction rs with
  | nil => intro rows found hi _ _ _; simpa using hi
  | cons r rs ih =>
    intro rows found hi hl hb hr
    simp only [List.length_cons] at hl
    have h1 := step_inv hB hn hi (by omega) hb (hr r (by simp)).1 (hr r (by simp)).2
    have := ih (rows ++ [r]) (stepZ found r) h1 (by have := stepZ_len found r; omega) (fun x hx => by
      rcases List.mem_append.mp hx with hx | hx
      · exact hb x hx
      · simp at hx; exact hx ▸ (hr r (by simp)).2) fun x hx => hr x (by simp [hx])
    simpa using this
theorem inv_nil (w B Q) : Inv w B Q [] [] := ⟨⟨[], rfl, by simp, by simp⟩, trivial, by simp [Piv], by simp⟩
theorem ech_inv {w B n : Nat} (hB : 1 ≤ B) (hn : 1 ≤ n) (rs : List (List Int)) (hl : rs.length ≤ n) (hr : ∀ r ∈ rs, r.length = w ∧ Bd B r) :
    Inv w B ((2 * n * B) ^ n) rs (echZ rs) := by
  have := echF_inv hB hn rs [] [] (inv_nil w B _) (by simpa using hl) (by simp) hr
  simpa [echZ] using this
theorem Inv.rank {w B Q rows found} (h : Inv w B Q rows found) : found.length = rk (rows.map vz) := by
  obtain ⟨I, h1, h2, h3⟩ := h.own
  rw [rk_of_basis (tri_ind h.tri) ?_ ?_]
  · simp [tv]
  · intro b hb
    simp only [tv, List.map_map, List.mem_map, Function.comp] at hb
    obtain ⟨q, hq, rfl⟩ := hb
    refine (h3 q hq).mono fun v hv => ?_
    obtain ⟨x, hx, rfl⟩ := List.mem_map.mp hv
    exact List.mem_map_of_mem (h2 x hx)
  · intro v hv
    obtain ⟨x, hx, rfl⟩ := List.mem_map.mp hv
    exact h.all x hx
/-- a bound that every list of rows has -/
theorem bd_ex (rs : List (List Int)) : ∃ B, 1 ≤ B ∧ ∀ r ∈ rs, Bd B r := by
  induction rs with
  | nil => exact ⟨1, by simp, by simp⟩
  | cons r rs ih =>
    obtain ⟨B, h1, h2⟩ := ih
    have ⟨C, hC⟩ : ∃ C, Bd C r := by
      clear h2
      induction r with
      | nil => exact ⟨0, by simp [Bd]⟩
      | cons x r ih =>
        obtain ⟨C, hC⟩ := ih
        refine ⟨C + x.natAbs, fun y hy => ?_⟩
        rcases List.mem_cons.mp hy with rfl | hy
        · omega
        · have := hC y hy; omega
    refine ⟨B + C, by omega, fun x hx => ?_⟩
    rcases List.mem_cons.mp hx with rfl | hx
    · exact hC.le (by omega)
    · exact (h2 x hx).le (by omega)
theorem echZ_rank {w : Nat} (rs : List (List Int)) (hr : ∀ r ∈ rs, r.length = w) : (echZ rs).length = rk (rs.map vz) := by
  obtain ⟨B, h1, h2⟩ := bd_ex rs
  exact (ech_inv (n := rs.length + 1) h1 (by omega) rs (by omega) fun r h => ⟨hr r h, h2 r h⟩).rank
end RK
namespace RK
/-- the other way of taking a row off another one -/
def lwless (here other : List Int) (p : Nat) : List Int :=
  divL (max 1 (gcdL (cmbZ (vz other p) (vz here p) here other)) : Nat) (cmbZ (vz other p) (vz here p) here other)
theorem lwless_spec {w p : Nat} {here other : List Int} (h1 : here.length = w) (h2 : other.length = w) :
    (∃ d : Int, d ≠ 0 ∧ ∀ j, d * vz (lwless here other p) j = vz other p * vz here j - vz here p * vz other j) ∧ (lwless here other p).length = w ∧
      ((∀ j, vz (lwless here other p) j = 0) ∨ ∀ e : Int, (∀ j, e ∣ vz (lwless here other p) j) → e.natAbs = 1) := by
  obtain ⟨l, hl⟩ : ∃ l, l = cmbZ (vz other p) (vz here p) here other := ⟨_, rfl⟩
  have hv : ∀ j, vz l j = vz other p * vz here j - vz here p * vz other j := fun j => by rw [hl]; exact cmbZ_vz (by omega) j
  have hlen : l.length = w := by rw [hl, cmbZ_length]; omega
  unfold lwless
  rw [← hl]
  have hdv : ∀ x ∈ l, ((max 1 (gcdL l) : Nat) : Int) ∣ x := by
    intro x hx
    by_cases h0 : gcdL l = 0
    · rw [gcdL_zero.mp h0 x hx]; exact Int.dvd_zero _
    · rw [show max 1 (gcdL l) = gcdL l by omega]; exact gcdL_dvd l x hx
  have he := divL_vz hdv
  refine ⟨⟨((max 1 (gcdL l) : Nat) : Int), by omega, fun j => by rw [he, hv]⟩, by simp [divL, hlen], ?_⟩
  by_cases hz : ∀ j, vz l j = 0
  · left; intro j
    have := he j; rw [hz j] at this
    exact (Int.mul_eq_zero.mp this).resolve_left (by omega)
  · right
    have ⟨q, hq⟩ : ∃ q, vz l q ≠ 0 := by
      apply Classical.byContradiction; intro hn; exact hz fun j => Classical.byContradiction fun h => hn ⟨j, h⟩
    exact prim_of (l := l) rfl (fun j => (he j).symm) hq
def lwmap (here : List Int) (p : Nat) (left : List (List Int)) : List (List Int) :=
  left.map fun o => if vz o p ≠ 0 then lwless here o p else o
/-- what holds of each line that is left -/
def LEl (w B : Nat) (ps : List (Nat × V)) (I : List V) (x : List Int) : Prop :=
  x.length = w ∧ (∃ r : V, (∀ j, (r j).natAbs ≤ B) ∧ Sp (r :: I) (vz x)) ∧ (∀ p ∈ ps, vz x p.1 = 0) ∧
    (Bd B x ∨ (∀ j, vz x j = 0) ∨ ∀ e : Int, (∀ j, e ∣ vz x j) → e.natAbs = 1)
structure LInv (w B : Nat) (ps : List (Nat × V)) (I : List V) (left : List (List Int)) : Prop where
  tri : Tri ps
  len : I.length = ps.length
  sp : ∀ p ∈ ps, Sp I p.2
  bd : ∀ v ∈ I, ∀ j, (v j).natAbs ≤ B
  el : ∀ x ∈ left, LEl w B ps I x
theorem LInv.next {w B : Nat} {ps I left here} (h : LInv w B ps I (left ++ [here])) {p : Nat} (hp : vz here p ≠ 0) :
    ∃ ps' I', ps'.length = ps.length + 1 ∧ LInv w B ps' I' (lwmap here p left) := by
  obtain ⟨h1, ⟨r, hr, hs⟩, h3, h4⟩ := h.el here (by simp)
  refine ⟨ps ++ [(p, vz here)], r :: I, by simp, tri_snoc h.tri hp h3, by simp [h.len], ?_, ?_, ?_⟩
  · intro q hq
    rcases List.mem_append.mp hq with hq | hq
    · exact (h.sp q hq).mono (by simp +contextual)
    · simp at hq; subst hq; exact hs
  · intro v hv
    rcases List.mem_cons.mp hv with rfl | hv
    · exact hr
    · exact h.bd v hv
  · intro x hx
    obtain ⟨o, ho, rfl⟩ := List.mem_map.mp hx
    obtain ⟨g1, ⟨s, gs, gsp⟩, g3, g4⟩ := h.el o (by simp [ho])
    split
    · rename_i hop
      obtain ⟨⟨d, d0, hd⟩, l2, l3⟩ := lwless_spec (p := p) h1 g1
      refine ⟨l2, ⟨s, gs, ?_⟩, ?_, .inr l3⟩
      · exact Sp.dlin (hs.mono (by simp +contextual)) (gsp.mono (by simp; grind)) (vz o p) (-vz here p) d d0 fun j => by
          have := hd j; grind
      · intro q hq
        have := hd q.1
        have hz : vz here q.1 = 0 ∨ q.1 = p := by
          rcases List.mem_append.mp hq with hq | hq
          · exact .inl (h3 q hq)
          · simp at hq; exact .inr (by rw [hq])
        have : d * vz (lwless here o p) q.1 = 0 := by
          rcases List.mem_append.mp hq with hq | hq
          · rw [this, h3 q hq, g3 q hq]; simp
          · simp at hq; rw [this, hq]; simp; grind
        exact (Int.mul_eq_zero.mp this).resolve_left d0
    · rename_i hop
      refine ⟨g1, ⟨s, gs, gsp.mono (by simp; grind)⟩, ?_, g4⟩
      intro q hq
      rcases List.mem_append.mp hq with hq | hq
      · exact g3 q hq
      · simp at hq; rw [hq]; simpa using hop
end RK
namespace RK
theorem Sp.coef {W : List V} {v : V} (h : Sp W v) : ∃ (d : Int) (cs : List Int), d ≠ 0 ∧ cs.length = W.length ∧ ∀ j, d * v j = lc cs W j := by
  induction W generalizing v with
  | nil => exact ⟨1, [], by decide, rfl, fun j => by simp [h.nil j, lc, zr]⟩
  | cons w W ih =>
    obtain ⟨d, a, y, hd, hy, e⟩ := h.split
    obtain ⟨d', cs, hd', hl, e'⟩ := ih hy
    refine ⟨d' * d, (d' * a) :: cs, Int.mul_ne_zero hd' hd, by simp [hl], fun j => ?_⟩
    have h1 := e j; have h2 := e' j
    simp only [lc]; rw [← h2]; grind
/-- a list whose members come of a map is a map of a list -/
theorem unmap {α β : Type} {f : α → β} {L : List α} : ∀ {C : List β}, (∀ b ∈ C, b ∈ L.map f) → ∃ ps : List α, C = ps.map f ∧ ∀ p ∈ ps, p ∈ L
  | [], _ => ⟨[], rfl, by simp⟩
  | b :: C, h => by
    obtain ⟨ps, e, hp⟩ := unmap (C := C) fun x hx => h x (by simp [hx])
    obtain ⟨a, ha, rfl⟩ := List.mem_map.mp (h b (by simp))
    exact ⟨a :: ps, by simp [e], fun p hp' => by
      rcases List.mem_cons.mp hp' with rfl | hp'
      · exact ha
      · exact hp p hp'⟩
abbrev Pt := Int × Int × Int
abbrev Tr := Nat × Nat × Nat
def mono (m : Tr) (p : Pt) : Int := p.1 ^ m.1 * p.2.1 ^ m.2.1 * p.2.2 ^ m.2.2
/-- the triples of a degree, falling -/
def trs (d : Nat) : List Tr := (List.range (d + 1)).flatMap fun a => (List.range (a + 1)).map fun b => (d - a, a - b, b)
theorem mem_trs {d : Nat} {m : Tr} : m ∈ trs d ↔ m.1 + m.2.1 + m.2.2 = d := by
  unfold trs
  simp only [List.mem_flatMap, List.mem_range, List.mem_map]
  constructor
  · rintro ⟨a, ha, b, hb, rfl⟩
    dsimp only; omega
  · intro h
    refine ⟨m.2.1 + m.2.2, by omega, m.2.2, by omega, ?_⟩
    ext <;> dsimp only <;> omega
theorem trs_length (d : Nat) : 2 * (trs d).length = (d + 1) * (d + 2) := by
  have key : ∀ (d n : Nat), 2 * ((List.range n).flatMap fun a => (List.range (a + 1)).map fun b => ((d - a, a - b, b) : Tr)).length = n * (n + 1) := by
    intro d n
    induction n with
    | zero => rfl
    | succ n ih =>
      rw [List.range_succ, List.flatMap_append, List.length_append, Nat.mul_add, ih]
      simp
      grind
  exact key d (d + 1)
def cnd (d : Nat) (p : Pt) : List Int := (trs d).map fun m => mono m p
theorem cnd_length (d p) : (cnd d p).length = (trs d).length := by simp [cnd]
/-- linear forms -/
def lf (a : Pt) (p : Pt) : Int := a.1 * p.1 + a.2.1 * p.2.1 + a.2.2 * p.2.2
def nz (p : Pt) : Prop := p.1 ≠ 0 ∨ p.2.1 ≠ 0 ∨ p.2.2 ≠ 0
/-- the number of independent conditions -/
noncomputable def hh (d : Nat) (ps : List Pt) : Nat := rk (ps.map fun p => vz (cnd d p))
def crs (p q : Pt) : Pt := (p.2.1 * q.2.2 - p.2.2 * q.2.1, p.2.2 * q.1 - p.1 * q.2.2, p.1 * q.2.1 - p.2.1 * q.1)
/-- points that are no multiples of one another -/
def unl (p q : Pt) : Prop := nz (crs p q)
end RK
namespace RK
theorem leadZ_iff {l : List Int} {p : Nat} : leadZ l = some p ↔ vz l p ≠ 0 ∧ ∀ i, i < p → vz l i = 0 := by
  unfold leadZ
  rw [List.findIdx?_eq_some_iff_getElem]
  constructor
  · rintro ⟨h1, h2, h3⟩
    refine ⟨by rw [← vz_get h1]; simpa using h2, fun i hi => ?_⟩
    have := h3 i hi
    rw [← vz_get (by omega)]; simpa using this
  · rintro ⟨h1, h2⟩
    have hp : p < l.length := by
      apply Classical.byContradiction; intro hn; exact h1 (vz_out (by omega))
    refine ⟨hp, by rw [vz_get hp]; simpa using h1, fun i hi => ?_⟩
    have := h2 i hi
    rw [vz_get (by omega)]; simpa using this
theorem lead_ex {l : List Int} (h : ∃ j, vz l j ≠ 0) : ∃ p, leadZ l = some p := by
  cases e : leadZ l with
  | some p => exact ⟨p, rfl⟩
  | none => obtain ⟨j, hj⟩ := h; exact absurd (leadZ_none e j) hj
def Prim (l : List Int) : Prop := ∀ e : Int, (∀ j, e ∣ vz l j) → e.natAbs = 1
def IsTold (l : List Int) : Prop := Prim l ∧ ∃ p, leadZ l = some p ∧ 0 < vz l p
def signZ (l : List Int) : List Int := match leadZ l with
  | none => l
  | some p => if 0 < vz l p then l else l.map (0 - ·)
def toldL (l : List Int) : List Int := signZ (plainZ l)
theorem vz_neg (l : List Int) (j) : vz (l.map (0 - ·)) j = - vz l j := by
  by_cases hj : j < l.length
  · rw [← vz_get (by simpa using hj), ← vz_get hj]; simp
  · rw [vz_out (by simp; omega), vz_out (by omega)]; rfl
theorem signZ_length (l) : (signZ l).length = l.length := by
  unfold signZ
  split
  · rfl
  · split <;> simp
theorem toldL_length (l) : (toldL l).length = l.length := by rw [toldL, signZ_length, plainZ_length]
theorem signZ_eq (l : List Int) : ∃ d : Int, (d = 1 ∨ d = -1) ∧ ∀ j, vz l j = d * vz (signZ l) j := by
  unfold signZ
  split
  · exact ⟨1, .inl rfl, fun j => by simp⟩
  · split
    · exact ⟨1, .inl rfl, fun j => by simp⟩
    · exact ⟨-1, .inr rfl, fun j => by rw [vz_neg]; simp⟩
theorem toldL_spec {l : List Int} (h : ∃ j, vz l j ≠ 0) : IsTold (toldL l) ∧ ∃ d : Int, d ≠ 0 ∧ ∀ j, vz l j = d * vz (toldL l) j := by
  obtain ⟨a, ha, ea⟩ := plainZ_eq l
  obtain ⟨b, hb, eb⟩ := signZ_eq (plainZ l)
  have hb0 : b ≠ 0 := by omega
  obtain ⟨j0, hj0⟩ := h
  have hpl : vz (plainZ l) j0 ≠ 0 := fun e => hj0 (by rw [ea, e]; simp)
  refine ⟨⟨fun e he => ?_, ?_⟩, a * b, Int.mul_ne_zero ha hb0, fun j => by rw [ea, eb]; simp only [toldL]; grind⟩
  · exact plainZ_prim hpl e fun j => by rw [eb]; exact Int.dvd_mul_of_dvd_right (he j)
  · obtain ⟨p, hp⟩ := lead_ex (l := plainZ l) ⟨j0, hpl⟩
    have hp' := leadZ_iff.mp hp
    have e : toldL l = if 0 < vz (plainZ l) p then plainZ l else (plainZ l).map (0 - ·) := by
      simp only [toldL, signZ, hp]
    rw [e]
    split
    · exact ⟨p, hp, by assumption⟩
    · refine ⟨p, leadZ_iff.mpr ⟨by rw [vz_neg]; omega, fun i hi => by rw [vz_neg, hp'.2 i hi]; rfl⟩, by rw [vz_neg]; omega⟩
theorem cop_dvd {a b c : Int} (h : a ∣ b * c) (hc : Int.gcd a b = 1) : a ∣ c := by
  have h1 := Int.natAbs_dvd_natAbs.mpr h
  rw [Int.natAbs_mul] at h1
  have hc' : Nat.Coprime a.natAbs b.natAbs := hc
  exact Int.natAbs_dvd_natAbs.mp (hc'.dvd_of_dvd_mul_left h1)
theorem told_uniq {s t : List Int} (hs : IsTold s) (ht : IsTold t) (hl : s.length = t.length) {a b : Int} (ha : a ≠ 0) (hb : b ≠ 0) (h : ∀ j, a * vz s j = b * vz t j) : s = t := by
  have hg : 0 < Int.gcd a b := Int.gcd_pos_of_ne_zero_left _ ha
  obtain ⟨a', ha'⟩ := Int.gcd_dvd_left (a := a) (b := b)
  obtain ⟨b', hb'⟩ := Int.gcd_dvd_right (a := a) (b := b)
  obtain ⟨g, hgd⟩ : ∃ g, g = Int.gcd a b := ⟨_, rfl⟩
  rw [← hgd] at ha' hb' hg
  have hc : Int.gcd a' b' = 1 := by
    have h1 : Int.gcd ((g : Int) * a') ((g : Int) * b') = g * Int.gcd a' b' := by
      rw [Int.gcd_mul_left]; simp
    rw [← ha', ← hb', ← hgd] at h1
    have : g * 1 = g * Int.gcd a' b' := by rw [Nat.mul_one]; exact h1
    exact (Nat.eq_of_mul_eq_mul_left hg this).symm
  have hj : ∀ j, a' * vz s j = b' * vz t j := fun j => by
    have := h j
    rw [ha', hb'] at this
    have h2 : (g : Int) * (a' * vz s j) = (g : Int) * (b' * vz t j) := by
      rw [← Int.mul_assoc, ← Int.mul_assoc]; exact this
    exact Int.eq_of_mul_eq_mul_left (by omega) h2
  have d1 : a'.natAbs = 1 := ht.1 a' fun j => by
    have : a' ∣ b' * vz t j := ⟨vz s j, (hj j).symm⟩
    exact cop_dvd this hc
  have d2 : b'.natAbs = 1 := hs.1 b' fun j => by
    have : b' ∣ a' * vz s j := ⟨vz t j, hj j⟩
    exact cop_dvd this (by rw [Int.gcd_comm]; exact hc)
  obtain ⟨p, hp, hp0⟩ := hs.2
  obtain ⟨q, hq, hq0⟩ := ht.2
  have hz : ∀ j, vz s j = 0 ↔ vz t j = 0 := fun j => by
    have := hj j
    constructor
    · intro e; rw [e] at this; exact (Int.mul_eq_zero.mp (by rw [← this]; simp)).resolve_left (show b' ≠ 0 by omega)
    · intro e; rw [e] at this; exact (Int.mul_eq_zero.mp (by rw [this]; simp)).resolve_left (show a' ≠ 0 by omega)
  have hpq : p = q := by
    have e1 := leadZ_iff.mp hp
    have e2 := leadZ_iff.mp hq
    rcases Nat.lt_trichotomy p q with h1 | h1 | h1
    · exact absurd ((hz p).mpr (e2.2 p h1)) e1.1
    · exact h1
    · exact absurd ((hz q).mp (e1.2 q h1)) e2.1
  subst hpq
  have hjp := hj p
  have key : ∀ j, vz s j = vz t j := by
    have c1 : a' = 1 ∨ a' = -1 := by omega
    have c2 : b' = 1 ∨ b' = -1 := by omega
    intro j
    have := hj j
    rcases c1 with rfl | rfl <;> rcases c2 with rfl | rfl <;> omega
  apply List.ext_getElem hl
  intro i h1 h2
  rw [vz_get h1, vz_get h2, key]
/-- multiples are told alike -/
theorem told_like {l m : List Int} (hl : l.length = m.length) (h : ∃ j, vz l j ≠ 0) {a b : Int} (ha : a ≠ 0) (hb : b ≠ 0) (e : ∀ j, a * vz l j = b * vz m j) : toldL l = toldL m := by
  obtain ⟨j0, hj0⟩ := h
  obtain ⟨h1, d, hd, e1⟩ := toldL_spec (l := l) ⟨j0, hj0⟩
  obtain ⟨h2, d', hd', e2⟩ := toldL_spec (l := m) ⟨j0, fun q => by
    have := e j0; rw [q] at this; exact (Int.mul_eq_zero.mp (by rw [this]; simp)).elim ha hj0⟩
  refine told_uniq h1 h2 (by rw [toldL_length, toldL_length, hl]) (a := a * d) (b := b * d') (Int.mul_ne_zero ha hd) (Int.mul_ne_zero hb hd') fun j => ?_
  have := e j
  rw [e1, e2] at this; grind
def lp (p : Pt) : List Int := [p.1, p.2.1, p.2.2]
def pt (l : List Int) : Pt := (vz l 0, vz l 1, vz l 2)
def isT (p : Pt) : Prop := IsTold (lp p)
def smul (c : Int) (p : Pt) : Pt := (c * p.1, c * p.2.1, c * p.2.2)
def row3 (r p : Pt) : Int := r.1 * p.1 + r.2.1 * p.2.1 + r.2.2 * p.2.2
abbrev Tb := Pt × Pt × Pt
def tap (t : Tb) (p : Pt) : Pt := (row3 t.1 p, row3 t.2.1 p, row3 t.2.2 p)
/-- a table that leads nothing to nought -/
def inj (t : Tb) : Prop := ∀ p, nz p → nz (tap t p)
end RK
namespace RK
end RK
namespace RK
def atP (ps : List Pt) (is : List Nat) : List Pt := is.map fun i => ps.getD i (0, 0, 0)
end RK
namespace RK
theorem lc_smul (a : Int) (cs : List Int) (vs : List V) (j) : lc (cs.map (a * ·)) vs j = a * lc cs vs j := by
  induction vs generalizing cs with
  | nil => cases cs <;> simp [lc, zr]
  | cons v vs ih => cases cs with
    | nil => simp [lc, zr]
    | cons c cs => simp only [List.map_cons, lc, ih]; grind
theorem common_den {α : Type} {R : List V} {row : α → V} : ∀ {A : List α}, (∀ a ∈ A, Sp R (row a)) → ∃ (D : Int) (cf : α → List Int), D ≠ 0 ∧ ∀ a ∈ A, (cf a).length = R.length ∧ ∀ j, D * row a j = lc (cf a) R j
  | [], _ => ⟨1, fun _ => [], by decide, by simp⟩
  | a :: A, h => by
    classical
    obtain ⟨D, cf, hD, hc⟩ := common_den (A := A) fun x hx => h x (by simp [hx])
    obtain ⟨d, cs, hd, hl, he⟩ := (h a (by simp)).coef
    refine ⟨d * D, fun x => if x ∈ A then (cf x).map (d * ·) else cs.map (D * ·), Int.mul_ne_zero hd hD, fun x hx => ?_⟩
    by_cases hm : x ∈ A
    · simp only [if_pos hm]
      obtain ⟨h1, h2⟩ := hc x hm
      refine ⟨by simp [h1], fun j => ?_⟩
      rw [lc_smul, ← h2]; grind
    · have : x = a := by
        rcases List.mem_cons.mp hx with h | h
        · exact h
        · exact absurd h hm
      subst this
      simp only [if_neg hm]
      refine ⟨by simp [hl], fun j => ?_⟩
      rw [lc_smul, ← he]; grind
/-- a sum over two lists -/
def dot : List Int → List Int → Int
  | a :: as, b :: bs => a * b + dot as bs
  | _, _ => 0
theorem lc_dot {α : Type} (cs : List Int) (A : List α) (row : α → V) (j) : lc cs (A.map row) j = dot cs (A.map fun a => row a j) := by
  induction A generalizing cs with
  | nil => cases cs <;> simp [lc, dot, zr]
  | cons a A ih => cases cs with
    | nil => simp [lc, dot, zr]
    | cons c cs => simp [lc, dot, ih]
/-- columns are sums of as many as there are rows that span -/
theorem col_span {α β : Type} (A A' : List α) (B : List β) (f : α → β → Int) (h : ∀ a ∈ A, Sp (A'.map fun a => vz (B.map (f a))) (vz (B.map (f a)))) :
    rk (B.map fun b => vz (A.map fun a => f a b)) ≤ A'.length := by
  obtain ⟨D, cf, hD, hc⟩ := common_den (row := fun a => vz (B.map (f a))) h
  have W : List V := []
  refine Nat.le_trans (rk_le_of (W := (List.range A'.length).map fun i => vz (A.map fun a => (cf a).getD i 0)) ?_) (by simp)
  intro v hv
  obtain ⟨b, hb, rfl⟩ := List.mem_map.mp hv
  obtain ⟨j, hj, rfl⟩ := List.getElem_of_mem hb
  refine Sp.div D hD ?_
  have key : ∀ (n : Nat) (A'' : List α), A''.length = n → ∀ k, Sp ((List.range (k + n)).map fun i => vz (A.map fun a => (cf a).getD i 0)) (vz (A.map fun a => dot ((cf a).drop k) (A''.map fun a' => f a' B[j]))) := by
    intro n
    induction n with
    | zero =>
      intro A'' hA k
      have : A'' = [] := List.eq_nil_of_length_eq_zero hA
      subst this
      refine Sp.zero.congr fun i => ?_
      by_cases hi : i < A.length
      · simp [vz, List.getD, hi, zr]
        cases ((cf A[i]).drop k) <;> simp [dot]
      · rw [vz_out (by simp; omega)]; rfl
    | succ n ih =>
      intro A'' hA k
      cases A'' with
      | nil => simp at hA
      | cons a' A'' =>
        have h1 := ih A'' (by simpa using hA) (k + 1)
        have h2 : Sp ((List.range (k + (n + 1))).map fun i => vz (A.map fun a => (cf a).getD i 0)) (vz (A.map fun a => (cf a).getD k 0)) := Sp.mem (List.mem_map.mpr ⟨k, by simp, rfl⟩)
        rw [show k + (n + 1) = k + 1 + n by omega] at h2 ⊢
        refine Sp.lin h1 h2 1 (f a' B[j]) fun i => ?_
        by_cases hi : i < A.length
        · simp only [vz, List.getD, List.getElem?_map, List.getElem?_eq_getElem hi, Option.map_some, Option.getD_some, List.map_cons]
          by_cases hk : k < (cf A[i]).length
          · rw [List.drop_eq_getElem_cons hk]
            simp only [dot, List.getElem?_eq_getElem hk, Option.getD_some]
            grind
          · rw [List.drop_of_length_le (by omega), List.drop_of_length_le (by omega), List.getElem?_eq_none (by omega)]
            simp only [dot, Option.getD_none]
            cases (A''.map fun a' => f a' B[j]) <;> simp [dot]
        · rw [vz_out (by simp; omega), vz_out (by simp; omega), vz_out (by simp; omega)]; simp
  have h0 := key A'.length A' rfl 0
  rw [Nat.zero_add] at h0
  refine h0.congr fun i => ?_
  by_cases hi : i < A.length
  · have hm := hc A[i] (List.getElem_mem hi)
    have he := hm.2 j
    rw [lc_dot] at he
    simp only [vz, List.getD, List.getElem?_map, List.getElem?_eq_getElem hi, List.getElem?_eq_getElem hj, Option.map_some, Option.getD_some, sm, List.drop_zero] at he ⊢
    rw [he]
  · simp only [sm]; rw [vz_out (by simp; omega), vz_out (by simp; omega)]; simp
/-- as many independent rows as columns -/
theorem rank_T_le {α β : Type} (A : List α) (B : List β) (f : α → β → Int) : rk (B.map fun b => vz (A.map fun a => f a b)) ≤ rk (A.map fun a => vz (B.map (f a))) := by
  obtain ⟨C, c1, c2, c3, e⟩ := rk_spec (A.map fun a => vz (B.map (f a)))
  obtain ⟨A', rfl, hA⟩ := unmap c1
  rw [← e, List.length_map]
  exact col_span A A' B f fun a ha => c3 _ (List.mem_map.mpr ⟨a, ha, rfl⟩)
theorem rank_T {α β : Type} (A : List α) (B : List β) (f : α → β → Int) : rk (B.map fun b => vz (A.map fun a => f a b)) = rk (A.map fun a => vz (B.map (f a))) :=
  Nat.le_antisymm (rank_T_le A B f) (rank_T_le B A fun b a => f a b)
/-- conditions by columns -/
theorem hh_cols (d : Nat) (ps : List Pt) : hh d ps = rk ((trs d).map fun m => vz (ps.map (mono m))) := (rank_T ps (trs d) fun p m => mono m p).symm
def det (t : Tb) : Int := lf t.1 (crs t.2.1 t.2.2)
end RK
namespace RK
def smulT (c : Int) (t : Tb) : Tb := (smul c t.1, smul c t.2.1, smul c t.2.2)
def l9 (t : Tb) : List Int := lp t.1 ++ (lp t.2.1 ++ lp t.2.2)
def t9 (l : List Int) : Tb := ((vz l 0, vz l 1, vz l 2), (vz l 3, vz l 4, vz l 5), (vz l 6, vz l 7, vz l 8))
theorem l9_t9 {l : List Int} (h : l.length = 9) : l9 (t9 l) = l := by
  match l, h with
  | [a, b, c, d, e, f, g, h, i], _ => rfl
theorem l9_smul (c : Int) (t : Tb) (j) : vz (l9 (smulT c t)) j = c * vz (l9 t) j := by
  unfold vz
  match j with
  | 0 | 1 | 2 | 3 | 4 | 5 | 6 | 7 | 8 => rfl
  | j + 9 => simp [l9, lp]
def plainT (t : Tb) : Tb := t9 (toldL (l9 t))
theorem l9_plain (t : Tb) : l9 (plainT t) = toldL (l9 t) := l9_t9 (by rw [toldL_length]; rfl)
def nzT (t : Tb) : Prop := ∃ j, vz (l9 t) j ≠ 0
theorem det_nz {t : Tb} (h : det t ≠ 0) : nzT t := Classical.byContradiction fun hn => h (by
  have h0 : ∀ j, vz (l9 t) j = 0 := fun j => Classical.byContradiction fun hj => hn ⟨j, hj⟩
  have a0 : t.1.1 = 0 := h0 0
  have a1 : t.1.2.1 = 0 := h0 1
  have a2 : t.1.2.2 = 0 := h0 2
  unfold det lf
  rw [a0, a1, a2]
  simp)
theorem plain_ex {t : Tb} (h : nzT t) : ∃ c : Int, c ≠ 0 ∧ t = smulT c (plainT t) := by
  obtain ⟨_, c, hc, e⟩ := toldL_spec h
  refine ⟨c, hc, ?_⟩
  have e' : ∀ j, vz (l9 t) j = vz (l9 (smulT c (plainT t))) j := fun j => by rw [l9_smul, l9_plain, e]
  have h1 : t9 (l9 t) = t9 (l9 (smulT c (plainT t))) := by
    unfold t9
    simp only [e']
  exact h1
theorem plain_like {s t : Tb} (h : nzT s) {a b : Int} (ha : a ≠ 0) (hb : b ≠ 0) (e : smulT a s = smulT b t) : plainT s = plainT t := by
  unfold plainT
  rw [told_like (l := l9 s) (m := l9 t) rfl h ha hb fun j => by rw [← l9_smul, ← l9_smul, e]]
theorem ext3 {s t : Tb} (h1 : s.1 = t.1) (h2 : s.2.1 = t.2.1) (h3 : s.2.2 = t.2.2) : s = t := by
  obtain ⟨a, b, c⟩ := s; obtain ⟨d, e, f⟩ := t; simp_all
theorem extp {p q : Pt} (h1 : p.1 = q.1) (h2 : p.2.1 = q.2.1) (h3 : p.2.2 = q.2.2) : p = q := by
  obtain ⟨a, b, c⟩ := p; obtain ⟨d, e, f⟩ := q; simp_all
theorem smulT_smulT (a b : Int) (t : Tb) : smulT a (smulT b t) = smulT (a * b) t := by
  refine ext3 (extp ?_ ?_ ?_) (extp ?_ ?_ ?_) (extp ?_ ?_ ?_) <;> simp only [smulT, smul] <;> grind
theorem det_smul (c : Int) (t : Tb) : det (smulT c t) = c * c * c * det t := by
  simp only [smulT, smul, det, lf, crs]; grind
end RK
namespace RK
def Sim (s t : Tb) : Prop := ∃ a b : Int, a ≠ 0 ∧ b ≠ 0 ∧ smulT a s = smulT b t
theorem mul_nz {a b : Int} (ha : a ≠ 0) (hb : b ≠ 0) : a * b ≠ 0 := Int.mul_ne_zero ha hb
theorem one_smulT (t : Tb) : smulT 1 t = t := by simp [smulT, smul]
theorem Sim.refl (t : Tb) : Sim t t := ⟨1, 1, by decide, by decide, rfl⟩
theorem Sim.symm {s t : Tb} (h : Sim s t) : Sim t s := by
  obtain ⟨a, b, ha, hb, e⟩ := h
  exact ⟨b, a, hb, ha, e.symm⟩
theorem Sim.trans {r s t : Tb} (h : Sim r s) (k : Sim s t) : Sim r t := by
  obtain ⟨a, b, ha, hb, e⟩ := h
  obtain ⟨c, d, hc, hd, f⟩ := k
  refine ⟨c * a, b * d, mul_nz hc ha, mul_nz hb hd, ?_⟩
  rw [← smulT_smulT, e, smulT_smulT, Int.mul_comm c b, ← smulT_smulT, f, smulT_smulT]
theorem Sim.smul {c : Int} (hc : c ≠ 0) (t : Tb) : Sim (smulT c t) t := ⟨1, c, by decide, hc, one_smulT _⟩
theorem Sim.plain {t : Tb} (h : det t ≠ 0) : Sim (plainT t) t := by
  obtain ⟨c, hc, e⟩ := plain_ex (det_nz h)
  exact ⟨c, 1, hc, by decide, by rw [← e, one_smulT]⟩
theorem Sim.eq {s t : Tb} (h : Sim s t) (hd : det s ≠ 0) : plainT s = plainT t := by
  obtain ⟨a, b, ha, hb, e⟩ := h
  exact plain_like (det_nz hd) ha hb e
theorem Sim.det {s t : Tb} (h : Sim s t) (hd : det t ≠ 0) : det s ≠ 0 := fun h0 => by
  obtain ⟨a, b, ha, hb, e⟩ := h
  have := congrArg RK.det e
  rw [det_smul, det_smul, h0, Int.mul_zero] at this
  exact mul_nz (mul_nz (mul_nz hb hb) hb) hd this.symm
end RK
namespace RK
end RK
namespace RK
def phi : Nat → (Nat → Int) → V → Int
  | 0, _, _ => 0
  | n + 1, x, u => phi n x u + u n * x n
theorem phi_ad (n x u v) : phi n x (ad u v) = phi n x u + phi n x v := by
  induction n with
  | zero => rfl
  | succ n ih => simp only [phi, ih, ad]; grind
theorem phi_sm (n x a u) : phi n x (sm a u) = a * phi n x u := by
  induction n with
  | zero => simp [phi]
  | succ n ih => simp only [phi, ih, sm]; grind
theorem phi_congr {n : Nat} {x y : Nat → Int} {u v : V} (h : ∀ j, j < n → u j * x j = v j * y j) : phi n x u = phi n y v := by
  induction n with
  | zero => rfl
  | succ n ih => simp only [phi]; rw [ih fun j hj => h j (by omega), h n (by omega)]
end RK
namespace RK
end RK
namespace RK
theorem sum_perm {l m : List Int} (h : l.Perm m) : l.sum = m.sum := by
  induction h with
  | nil => rfl
  | cons x _ ih => simp [ih]
  | swap x y l => simp only [List.sum_cons]; omega
  | trans _ _ h1 h2 => rw [h1, h2]
inductive PF : Nat → (Pt → Int) → Prop
  | one : PF 0 fun _ => 1
  | mul {d : Nat} {g : Pt → Int} (a : Pt) : PF d g → PF (d + 1) fun q => lf a q * g q
end RK
namespace RK
theorem LInv.perm {W B : Nat} {ps I left left'} (h : LInv W B ps I left) (hm : ∀ x ∈ left', x ∈ left) : LInv W B ps I left' :=
  ⟨h.tri, h.len, h.sp, h.bd, fun x hx => h.el x (hm x hx)⟩
end RK
namespace RK
end RK
namespace RK
theorem phi_sum (x : Nat → Int) (u : V) : ∀ n, phi n x u = ((List.range n).map fun j => u j * x j).sum
  | 0 => rfl
  | n + 1 => by
    rw [List.range_succ, List.map_append, List.sum_append, ← phi_sum x u n]
    simp [phi]
end RK
namespace RK
end RK
namespace RK
theorem nodup_of_map {α β : Type} (f : α → β) : ∀ {l : List α}, (l.map f).Nodup → l.Nodup
  | [], _ => List.nodup_nil
  | a :: l, h => by
    rw [List.map_cons, List.nodup_cons] at h
    exact List.nodup_cons.mpr ⟨fun m => h.1 (List.mem_map.mpr ⟨a, m, rfl⟩), nodup_of_map f h.2⟩
end RK
namespace RK
theorem trs_nodup (d : Nat) : (trs d).Nodup := by
  have key : ∀ l : List Nat, l.Nodup → (∀ a ∈ l, a ≤ d) → (l.flatMap fun a => (List.range (a + 1)).map fun b => ((d - a, a - b, b) : Tr)).Nodup := fun l => by
    induction l with
    | nil => intro _ _; exact List.nodup_nil
    | cons a l ih =>
      intro hn hl
      have hn' := List.nodup_cons.mp hn
      rw [List.flatMap_cons, List.nodup_append]
      refine ⟨?_, ih hn'.2 fun b hb => hl b (by simp [hb]), fun x hx y hy e => ?_⟩
      · exact nodup_of_map (fun t : Tr => t.2.2) (by rw [List.map_map]; simpa [Function.comp_def] using List.nodup_range)
      · obtain ⟨b, hb, rfl⟩ := List.mem_map.mp hx
        obtain ⟨c, hc, hy⟩ := List.mem_flatMap.mp hy
        obtain ⟨b2, hb2, rfl⟩ := List.mem_map.mp hy
        simp only [Prod.mk.injEq] at e
        have h1 := hl a (by simp)
        have h2 := hl c (by simp [hc])
        have : a = c := by omega
        exact hn'.1 (this ▸ hc)
  exact key (List.range (d + 1)) List.nodup_range fun a ha => by have := List.mem_range.mp ha; omega
end RK
namespace RK
end RK
set_option maxHeartbeats 4000000
namespace RK
structure Base (ps : List Pt) : Prop where
  nz : ∀ p ∈ ps, nz p
  un : ps.Pairwise unl
theorem unl_self {p q : Pt} (h : unl p q) : p ≠ q := fun e => by
  subst e
  obtain ⟨x, y, z⟩ := p
  simp only [unl, crs, RK.nz] at h
  rcases h with h | h | h <;> exact h (by grind)
theorem Base.nd {ps : List Pt} (B : Base ps) : ps.Nodup := B.un.imp unl_self
def hhK (d : Nat) (ps : List Pt) : Nat := (echZ (ps.map (cnd d))).length
theorem hhK_eq (d : Nat) (ps : List Pt) : hhK d ps = hh d ps := by
  unfold hhK hh
  rw [echZ_rank (w := (trs d).length) _ fun r hr => by
    obtain ⟨p, _, rfl⟩ := List.mem_map.mp hr
    exact cnd_length d p]
  rw [List.map_map]
  rfl
end RK
set_option maxHeartbeats 2000000
namespace LW
open PySem PySem.Spec PyProof.Rows L2 DL RK
abbrev iL (l : List Int) : D := .lst (l.map D.int)
abbrev iT (l : List Int) : D := .tup (l.map D.int)
theorem log_le {x b : Nat} (h : x ≤ 2 ^ b) : x.log2 ≤ b := by
  by_cases h0 : x = 0
  · subst h0; simp
  · have : x < 2 ^ (b + 1) := Nat.lt_of_le_of_lt h (Nat.pow_lt_pow_right (by decide) (by omega))
    have := (Nat.log2_lt h0).mpr this
    omega
theorem mul_b {i j : Int} {a b : Nat} (ha : i.natAbs ≤ 2 ^ a) (hb : j.natAbs ≤ 2 ^ b) (h : a + b < 1000000) : opMulA (.int i) (.int j) = some (.int (i * j)) := by
  have h1 := log_le ha; have h2 := log_le hb
  have : i.natAbs.log2 + j.natAbs.log2 < 1000000 := by omega
  simp [opMulA, this]
@[simp] theorem iZipD_ap (a : Ea) (ρ : Rho) (π : Pot) : iZipD a ρ π = (a ρ π).bind fun x => match x.1 with
  | [d, e] => (ofO (seqOf d)).bind fun z => (ofO (seqOf e)).bind fun y => .ok (zipD z y, x.2)
  | _ => .stuck := rfl
end LW
set_option maxHeartbeats 2000000
namespace LW
open PySem PySem.Spec PyProof.Rows L2 DL RK
@[simp] theorem eGoL_ap (r : Rm) (ks : List Ak) (m : Fd) (a : Ea) (ρ : Rho) (π : Pot) : eGoL r ks m a ρ π = (a ρ π).bind fun x => if lentOk ks x.1 = true then chk r (m x.1 x.2) else .stuck := rfl
end LW
set_option maxHeartbeats 2000000
set_option maxHeartbeats 4000000
namespace LW
open PySem PySem.Spec PyProof.Rows L2 DL RK
abbrev pD (p : Pt) : D := iT (lp p)
abbrev lD (p : Pt) : D := iL (lp p)
theorem safe_ok' {α : Type} (a : α) : safe (Res.ok a) = .ok a := rfl
end LW
set_option maxHeartbeats 4000000
namespace LW
open PySem PySem.Spec PyProof.Rows L2 DL RK
/-- a point, given in one way or the other -/
def Giv (d : D) (p : Pt) : Prop := d = pD p ∨ d = lD p
end LW
set_option maxHeartbeats 4000000
namespace LW
open PySem PySem.Spec PyProof.Rows L2 DL RK
def trD (m : Tr) : D := .tup [.int (m.1 : Int), .int (m.2.1 : Int), .int (m.2.2 : Int)]
theorem trs_len_le {d : Nat} (h : d ≤ 9) : (trs d).length ≤ 55 := by
  have := trs_length d
  have h2 : (d + 1) * (d + 2) ≤ 10 * 11 := Nat.mul_le_mul (by omega) (by omega)
  omega
end LW
set_option maxHeartbeats 4000000
namespace LW
open PySem PySem.Spec PyProof.Rows L2 DL RK
theorem Giv.len {d : D} {p : Pt} (h : Giv d p) : fLen [d] = some (.int 3) := by rcases h with rfl | rfl <;> rfl
theorem Giv.seq {d : D} {p : Pt} (h : Giv d p) : seqOf d = some [.int p.1, .int p.2.1, .int p.2.2] := by rcases h with rfl | rfl <;> rfl
theorem Giv.tuple {d : D} {p : Pt} (h : Giv d p) : fTuple [d] = some (pD p) := by rcases h with rfl | rfl <;> rfl
end LW
set_option maxHeartbeats 4000000
namespace LW
open PySem PySem.Spec PyProof.Rows L2 DL RK
abbrev Tm := Tr × Int
def kyL (m : Tr) : List Key := [.inl (m.1 : Int), .inl (m.2.1 : Int), .inl (m.2.2 : Int)]
abbrev kyT (m : Tr) : DKey := .inr (kyL m)
def tmD (T : List Tm) : D := .dic (T.map fun x => kyT x.1) (T.map fun x => .int x.2)
theorem kyL_inj {a b : Tr} (h : kyL a = kyL b) : a = b := by
  obtain ⟨x, y, z⟩ := a
  obtain ⟨u, v, w⟩ := b
  simp only [kyL, List.cons.injEq, Sum.inl.injEq, and_true] at h
  obtain ⟨h1, h2, h3⟩ := h
  simp only [Prod.mk.injEq]
  omega
theorem tkey_tr (m : Tr) : tkey (trD m) = some (kyL m) := rfl
theorem isTd_tm : ∀ T : List Tm, isTd (T.map fun x => kyT x.1) = true
  | [] => rfl
  | _ :: _ => rfl
theorem dget_tm {x : Tm} : ∀ {T : List Tm}, (T.map (·.1)).Nodup → x ∈ T → dgetT (T.map fun x => kyT x.1) (T.map fun x => .int x.2) (kyL x.1) = some (.int x.2)
  | y :: T, hn, hx => by
    rw [List.map_cons, List.nodup_cons] at hn
    simp only [List.map_cons, dgetT]
    by_cases e : y.1 = x.1
    · have : x = y := by
        rcases List.mem_cons.mp hx with e' | hx
        · exact e'
        · exact absurd (List.mem_map.mpr ⟨x, hx, e.symm⟩) hn.1
      rw [if_pos (by rw [e]), this]
    · rw [if_neg fun z => e (kyL_inj (Sum.inr.inj z))]
      exact dget_tm hn.2 ((List.mem_cons.mp hx).resolve_left fun z => e (by rw [z]))
theorem ixT_tm {T : List Tm} (hn : (T.map (·.1)).Nodup) {x : Tm} (hx : x ∈ T) : opIxT (tmD T) (trD x.1) = some (.int x.2) := by
  unfold opIxT tmD
  simp only [isTd_tm, if_true, tkey_tr, Option.bind_some]
  exact dget_tm hn hx
theorem iKyT_tm {T : List Tm} {ρ : Rho} {i : Nat} (h : ρ[i]? = some (some (tmD T))) (π : Pot) : iKyT i ρ π = .ok (T.map fun x => trD x.1, π) := by
  unfold iKyT
  rw [h]
  simp only [tmD, isTd_tm, if_true, List.map_map]
  rfl
/-- a new key is put behind -/
theorem putT_new {T : List Tm} {m : Tr} {v : Int} (h : m ∉ T.map (·.1)) : putT (T.map fun x => kyT x.1) (T.map fun x => .int x.2) (kyL m) (.int v) = ((T ++ [(m, v)]).map fun x => kyT x.1, (T ++ [(m, v)]).map fun x => D.int x.2) := by
  unfold putT
  have hn : ¬ ((T.map fun x => kyT x.1).any fun j => decide (j = .inr (kyL m))) = true := fun hc => by
    simp only [List.any_map, List.any_eq_true, Function.comp, decide_eq_true_eq] at hc
    obtain ⟨x, hx, e⟩ := hc
    exact h (List.mem_map.mpr ⟨x, hx, kyL_inj (Sum.inr.inj e)⟩)
  rw [if_neg hn]
  simp
/-- a dict comprehension over things with keys of their own -/
theorem dcGo_new {α : Type} {enc : α → D} {fg : D → Rho → Option Rho} {ft : Et} {fk fv : Ed} {ρ : Rho} {π : Pot} {ρ1 : α → Rho} {p : α → Bool} {key : α → Tr} {val : α → Int} : ∀ {xs : List α} {T : List Tm}, (∀ x ∈ xs, fg (enc x) ρ = some (ρ1 x)) → (∀ x ∈ xs, ft (ρ1 x) π = .ok (p x, π)) →
    (∀ x ∈ xs, p x = true → fk (ρ1 x) π = .ok (trD (key x), π)) → (∀ x ∈ xs, p x = true → fv (ρ1 x) π = .ok (.int (val x), π)) → (T.map (·.1) ++ xs.map key).Nodup →
    dcGo fg ft fk fv ρ (xs.map enc) (T.map fun x => kyT x.1) (T.map fun x => .int x.2) π = .ok (((T ++ (xs.filter p).map fun x => (key x, val x)).map fun x => kyT x.1, (T ++ (xs.filter p).map fun x => (key x, val x)).map fun x => D.int x.2), π)
  | [], T, _, _, _, _, _ => by simp [dcGo]
  | x :: xs, T, h1, h2, h3, h4, hn => by
    have hx : key x ∉ T.map (·.1) := fun hm => by
      rw [List.nodup_append] at hn
      exact hn.2.2 _ hm _ (by simp) rfl
    simp only [List.map_cons, dcGo, h1 x (by simp), ofO_some, Res.bind_ok, h2 x (by simp), safe_ok]
    cases hp : p x with
    | true =>
      have ih := dcGo_new (xs := xs) (T := T ++ [(key x, val x)]) (key := key) (val := val) (fun y hy => h1 y (by simp [hy])) (fun y hy => h2 y (by simp [hy])) (fun y hy => h3 y (by simp [hy])) (fun y hy => h4 y (by simp [hy])) (by simpa using hn)
      simp only [if_true, h3 x (by simp) hp, h4 x (by simp) hp, safe_ok, Res.bind_ok, tkey_tr, ofO_some, putT_new hx]
      rw [ih, List.filter_cons, if_pos hp]
      simp
    | false =>
      have ih := dcGo_new (xs := xs) (T := T) (key := key) (val := val) (fun y hy => h1 y (by simp [hy])) (fun y hy => h2 y (by simp [hy])) (fun y hy => h3 y (by simp [hy])) (fun y hy => h4 y (by simp [hy])) (hn.sublist (List.Sublist.append_left (by simp) _))
      simp only [Bool.false_eq_true, if_false]
      rw [ih, List.filter_cons, if_neg (by rw [hp]; decide)]
/-- terms as they are kept: each triple once, small ones -/
structure Trm (d : Nat) (T : List Tm) : Prop where
  nd : (T.map (·.1)).Nodup
  dg : ∀ x ∈ T, x.1.1 + x.1.2.1 + x.1.2.2 = d
/-- the value of a sum of terms at a point -/
def evT (T : List Tm) (p : Pt) : Int := (T.map fun x => x.2 * mono x.1 p).sum
theorem evT_perm {T S : List Tm} (h : T.Perm S) (p : Pt) : evT T p = evT S p := sum_perm (h.map _)
theorem evT_filter (T : List Tm) (p : Pt) : evT (T.filter fun x => x.2 != 0) p = evT T p := by
  unfold evT
  induction T with
  | nil => rfl
  | cons x T ih =>
    rw [List.filter_cons]
    by_cases h : x.2 = 0
    · rw [if_neg (by simp [h]), ih]
      simp [h]
    · rw [if_pos (by simpa using h)]
      simp only [List.map_cons, List.sum_cons, ih]
end LW
namespace LW
open PySem
abbrev clsL : List Str := ["Told", "Form"]
end LW
set_option maxHeartbeats 4000000
namespace LW
open PySem PySem.Spec PyProof.Rows L2 DL RK
abbrev tfD (d : Nat) (T : List Tm) : D := .ins "Told" ["told_degree", "told_terms"] [.int (d : Int), tmD T]
abbrev fmD (d : Nat) (T : List Tm) : D := .ins "Form" ["own_degree", "own_terms"] [.int (d : Int), tmD T]
theorem fm_terms (d : Nat) (T : List Tm) : fldD "Form" "own_terms" (fmD d T) = some (tmD T) := by rfl
theorem fm_degree (d : Nat) (T : List Tm) : fldD "Form" "own_degree" (fmD d T) = some (.int (d : Int)) := by rfl
theorem told_forms_eq (d : Nat) (T : List Tm) (π : Pot) : m_i_Told [.int (d : Int), tmD T] π = .ok (tfD d T, π) := by
  obtain ⟨A, hA⟩ : ∃ A, A = tmD T := ⟨_, rfl⟩
  have hs : ¬ (("told_degree" : Str) = "told_terms") := by decide
  simp only [tfD]
  rw [← hA]
  unfold m_i_Told DL.runI f_i_Told
  simp -implicitDefEqProofs [iFld, iCk, iNil, putN, hs]
theorem form_told (d : Nat) (T : List Tm) (π : Pot) : m_i_Form [tfD d T, .non] π = .ok (fmD d T, π) := by
  have hi : fIsC "Told" clsL (tfD d T) = some (.bl true) := by rfl
  have h1 : fldD "Told" "told_degree" (tfD d T) = some (.int (d : Int)) := by rfl
  have h2 : fldD "Told" "told_terms" (tfD d T) = some (tmD T) := by rfl
  have e1 : m_p_told_form [tfD d T, .non] π = .ok (tfD d T, π) := by
    obtain ⟨S, hS⟩ : ∃ S, S = tfD d T := ⟨_, rfl⟩
    rw [← hS] at hi ⊢
    simp -implicitDefEqProofs only [clsL] at hi
    unfold m_p_told_form f_p_told_form
    simp -implicitDefEqProofs [hi]
  simp only [fmD]
  obtain ⟨S, hS⟩ : ∃ S, S = tfD d T := ⟨_, rfl⟩
  obtain ⟨A, hA⟩ : ∃ A, A = tmD T := ⟨_, rfl⟩
  rw [← hS] at e1 h1 h2
  rw [← hA] at h2
  rw [← hS, ← hA]
  have hs : ¬ (("own_degree" : Str) = "own_terms") := by decide
  unfold m_i_Form DL.runI f_i_Form
  simp -implicitDefEqProofs [iFld, iCk, iNil, iSet, putN, e1, h1, h2, hs]
/-- terms of a row, triple by triple -/
def tmOf (d : Nat) (l : List Int) : List Tm := (trs d).zip l
theorem tmOf_trm {d : Nat} {l : List Int} (hl : l.length = (trs d).length) : Trm d (tmOf d l) := by
  have e : (tmOf d l).map (·.1) = trs d := by
    unfold tmOf
    rw [List.map_fst_zip (by omega)]
  exact ⟨by rw [e]; exact trs_nodup d, fun x hx => mem_trs.mp (List.of_mem_zip hx).1⟩
theorem evT_of {d : Nat} {l : List Int} (hl : l.length = (trs d).length) (p : Pt) : evT (tmOf d l) p = phi (trs d).length (vz l) (vz (cnd d p)) := by
  rw [phi_sum]
  unfold evT tmOf cnd
  congr 1
  apply List.ext_getElem (by simp; omega)
  intro i h1 h2
  have hi : i < (trs d).length := by simpa using h2
  simp [vz, List.getD, hi, show i < l.length by omega]
  exact Int.mul_comm _ _
/-- how great the numbers of terms are -/
def TBd (c : Nat) (T : List Tm) : Prop := ∀ x ∈ T, x.2.natAbs ≤ 2 ^ c
end LW
set_option maxHeartbeats 4000000
set_option maxHeartbeats 4000000
namespace LW
open PySem PySem.Spec PyProof.Rows L2 DL RK
def cfT (T : List Tm) (m : Tr) : Int := ((T.find? fun x => decide (x.1 = m)).map (·.2)).getD 0
theorem cfT_cons (x : Tm) (T : List Tm) (m : Tr) : cfT (x :: T) m = if x.1 = m then x.2 else cfT T m := by
  unfold cfT
  rw [List.find?_cons]
  by_cases h : x.1 = m
  · simp [h]
  · simp [h]
theorem cfT_out {T : List Tm} {m : Tr} (h : m ∉ T.map (·.1)) : cfT T m = 0 := by
  induction T with
  | nil => rfl
  | cons x T ih =>
    rw [cfT_cons, if_neg (fun e => h (by simp [e]))]
    exact ih fun hm => h (by simp [hm])
theorem dget_cf (T : List Tm) (m : Tr) : (dgetT (T.map fun x => kyT x.1) (T.map fun x => .int x.2) (kyL m)).getD (.int 0) = .int (cfT T m) := by
  induction T with
  | nil => rfl
  | cons x T ih =>
    rw [cfT_cons]
    simp only [List.map_cons, dgetT]
    by_cases h : x.1 = m
    · rw [if_pos (by rw [h]), if_pos h]; rfl
    · rw [if_neg fun z => h (kyL_inj (Sum.inr.inj z)), if_neg h]
      exact ih
theorem gGet2_tm (T : List Tm) (m : Tr) : gGet2 (tmD T) (trD m) (.int 0) = some (.int (cfT T m)) := by
  unfold gGet2 tmD
  simp only [isTd_tm, if_true, tkey_tr, Option.map_some]
  rw [dget_cf]
theorem isDT_tm (T : List Tm) : isDT (tmD T) = true := isTd_tm T
/-- a key is told a number -/
def addT (T : List Tm) (m : Tr) (v : Int) : List Tm := if m ∈ T.map (·.1) then T.map (fun x => if x.1 = m then (m, v) else x) else T ++ [(m, v)]
theorem replT_tm (m : Tr) (v : Int) : ∀ T : List Tm, replT (kyL m) (.int v) (T.map fun x => kyT x.1) (T.map fun x => .int x.2) = (T.map fun x => if x.1 = m then (m, v) else x).map fun x => D.int x.2
  | [] => rfl
  | x :: T => by
    simp only [List.map_cons, replT]
    rw [replT_tm m v T]
    by_cases h : x.1 = m
    · rw [if_pos (by rw [h]), if_pos h]
    · rw [if_neg fun z => h (kyL_inj (Sum.inr.inj z)), if_neg h]
theorem putT_tm (T : List Tm) (m : Tr) (v : Int) : putT (T.map fun x => kyT x.1) (T.map fun x => .int x.2) (kyL m) (.int v) = ((addT T m v).map fun x => kyT x.1, (addT T m v).map fun x => D.int x.2) := by
  by_cases h : m ∈ T.map (·.1)
  · unfold putT addT
    have hn : ((T.map fun x => kyT x.1).any fun j => decide (j = .inr (kyL m))) = true := by
      obtain ⟨x, hx, e⟩ := List.mem_map.mp h
      simp only [List.any_map, List.any_eq_true, Function.comp, decide_eq_true_eq]
      exact ⟨x, hx, by rw [e]⟩
    rw [if_pos hn, if_pos h, replT_tm]
    congr 1
    rw [List.map_map]
    refine List.map_congr_left fun x _ => ?_
    show kyT x.1 = kyT (if x.1 = m then (m, v) else x).1
    split
    · next e => rw [e]
    · rfl
  · rw [putT_new h]
    unfold addT
    rw [if_neg h]
theorem add_keys (T : List Tm) (m : Tr) (v : Int) : (addT T m v).map (·.1) = if m ∈ T.map (·.1) then T.map (·.1) else T.map (·.1) ++ [m] := by
  unfold addT
  split
  · rw [List.map_map]
    refine List.map_congr_left fun x _ => ?_
    show (if x.1 = m then (m, v) else x).1 = x.1
    split
    · next e => exact e.symm
    · rfl
  · simp
theorem add_trm {d : Nat} {T : List Tm} (h : Trm d T) {m : Tr} (hm : m.1 + m.2.1 + m.2.2 = d) (v : Int) : Trm d (addT T m v) := by
  refine ⟨?_, fun x hx => ?_⟩
  · rw [add_keys]
    split
    · exact h.nd
    · next hn => exact List.nodup_append.mpr ⟨h.nd, by simp, fun x hx y hy e => hn (by simp at hy; rw [← hy, ← e]; exact hx)⟩
  · have hk : x.1 ∈ (addT T m v).map (·.1) := List.mem_map.mpr ⟨x, hx, rfl⟩
    rw [add_keys] at hk
    have old : x.1 ∈ T.map (·.1) → x.1.1 + x.1.2.1 + x.1.2.2 = d := fun h1 => by
      obtain ⟨y, hy, e⟩ := List.mem_map.mp h1
      rw [← e]; exact h.dg y hy
    split at hk
    · exact old hk
    · rcases List.mem_append.mp hk with hk | hk
      · exact old hk
      · simp at hk; rw [hk]; exact hm
theorem add_len (T : List Tm) (m : Tr) (v : Int) : (addT T m v).length ≤ T.length + 1 := by
  unfold addT; split <;> simp
theorem ev_cons (x : Tm) (T : List Tm) (p : Pt) : evT (x :: T) p = x.2 * mono x.1 p + evT T p := by simp [evT]
theorem ev_rep {m : Tr} {w : Int} {p : Pt} : ∀ {T : List Tm}, (T.map (·.1)).Nodup → m ∈ T.map (·.1) → evT (T.map fun x => if x.1 = m then (m, cfT T m + w) else x) p = evT T p + w * mono m p
  | [], _, h => by simp at h
  | x :: T, hn, hm => by
    rw [List.map_cons, List.nodup_cons] at hn
    by_cases h : x.1 = m
    · have hrest : ∀ c : Int, (T.map fun y => if y.1 = m then (m, c) else y) = T := fun c => by
        conv => rhs; rw [← List.map_id T]
        refine List.map_congr_left fun y hy => ?_
        rw [if_neg fun e => hn.1 (by rw [h, ← e]; exact List.mem_map.mpr ⟨y, hy, rfl⟩)]
        rfl
      rw [List.map_cons, hrest, if_pos h, ev_cons, ev_cons, cfT_cons, if_pos h]
      simp only [h]
      grind
    · have hm' : m ∈ T.map (·.1) := by
        rw [List.map_cons, List.mem_cons] at hm
        exact hm.resolve_left fun e => h e.symm
      have ih := ev_rep (w := w) (p := p) hn.2 hm'
      have hc : cfT (x :: T) m = cfT T m := by rw [cfT_cons, if_neg h]
      rw [hc, List.map_cons, if_neg h, ev_cons, ev_cons, ih]
      omega
theorem ev_add {T : List Tm} (hn : (T.map (·.1)).Nodup) (m : Tr) (w : Int) (p : Pt) : evT (addT T m (cfT T m + w)) p = evT T p + w * mono m p := by
  by_cases h : m ∈ T.map (·.1)
  · unfold addT
    rw [if_pos h]
    exact ev_rep hn h
  · unfold addT
    rw [if_neg h, cfT_out h]
    simp [evT]
def BdT (B : Nat) (T : List Tm) : Prop := ∀ x ∈ T, x.2.natAbs ≤ B
theorem cf_bd {B : Nat} {T : List Tm} (h : BdT B T) (m : Tr) : (cfT T m).natAbs ≤ B := by
  induction T with
  | nil => simp [cfT]
  | cons x T ih =>
    rw [cfT_cons]
    split
    · exact h x (by simp)
    · exact ih fun y hy => h y (by simp [hy])
theorem add_bd {B W : Nat} {T : List Tm} (h : BdT B T) (m : Tr) {w : Int} (hw : w.natAbs ≤ W) : BdT (B + W) (addT T m (cfT T m + w)) := fun x hx => by
  have h1 := cf_bd h m
  have h2 := Int.natAbs_add_le (cfT T m) w
  unfold addT at hx
  split at hx
  · obtain ⟨y, hy, e⟩ := List.mem_map.mp hx
    by_cases hym : y.1 = m
    · rw [if_pos hym] at e
      rw [← e]
      show (cfT T m + w).natAbs ≤ B + W
      omega
    · rw [if_neg hym] at e
      have := h y hy
      rw [← e]
      omega
  · rcases List.mem_append.mp hx with hx | hx
    · have := h x hx; omega
    · simp at hx
      rw [hx]
      show (cfT T m + w).natAbs ≤ B + W
      omega
/-- the product's terms -/
def trAdd (a b : Tr) : Tr := (a.1 + b.1, a.2.1 + b.2.1, a.2.2 + b.2.2)
def mulIn (x : Tm) (R T : List Tm) : List Tm := R.foldl (fun T y => addT T (trAdd x.1 y.1) (cfT T (trAdd x.1 y.1) + x.2 * y.2)) T
def mulS (S R T : List Tm) : List Tm := S.foldl (fun T x => mulIn x R T) T
theorem mono_add (a b : Tr) (p : Pt) : mono (trAdd a b) p = mono a p * mono b p := by
  simp only [mono, trAdd, Int.pow_add]; grind
structure MulOk (d : Nat) (T : List Tm) (n B : Nat) (f : Pt → Int) : Prop where
  trm : Trm d T
  len : T.length ≤ n
  bd : BdT B T
  ev : ∀ p, evT T p = f p
theorem mulIn_ok {d e W : Nat} {x : Tm} (hx : x.1.1 + x.1.2.1 + x.1.2.2 = d) : ∀ {R T : List Tm} {n B : Nat} {f : Pt → Int}, (∀ y ∈ R, y.1.1 + y.1.2.1 + y.1.2.2 = e) → (∀ y ∈ R, (x.2 * y.2).natAbs ≤ W) → MulOk (d + e) T n B f →
    MulOk (d + e) (mulIn x R T) (n + R.length) (B + R.length * W) (fun p => f p + x.2 * mono x.1 p * evT R p)
  | [], T, n, B, f, _, _, h => ⟨h.trm, h.len, fun y hy => by have := h.bd y hy; omega, fun p => by rw [show mulIn x [] T = T from rfl, h.ev]; simp [evT]⟩
  | y :: R, T, n, B, f, h1, h2, h => by
    have hy := h1 y (by simp)
    have ok : MulOk (d + e) (addT T (trAdd x.1 y.1) (cfT T (trAdd x.1 y.1) + x.2 * y.2)) (n + 1) (B + W) (fun p => f p + x.2 * y.2 * mono (trAdd x.1 y.1) p) :=
      ⟨add_trm h.trm (by simp only [trAdd]; omega) _, by have := add_len T (trAdd x.1 y.1) (cfT T (trAdd x.1 y.1) + x.2 * y.2); have := h.len; omega, add_bd h.bd _ (h2 y (by simp)), fun p => by rw [ev_add h.trm.nd, h.ev]⟩
    have ih := mulIn_ok (x := x) hx (R := R) (fun z hz => h1 z (by simp [hz])) (fun z hz => h2 z (by simp [hz])) ok
    have e1 : mulIn x (y :: R) T = mulIn x R (addT T (trAdd x.1 y.1) (cfT T (trAdd x.1 y.1) + x.2 * y.2)) := rfl
    rw [e1]
    refine ⟨ih.trm, by have := ih.len; simp; omega, fun z hz => ?_, fun p => ?_⟩
    · have := ih.bd z hz
      rw [List.length_cons, Nat.add_mul]
      omega
    · rw [ih.ev, ev_cons, mono_add]
      grind
theorem mulS_ok {d e W : Nat} : ∀ {S R T : List Tm} {n B : Nat} {f : Pt → Int}, (∀ x ∈ S, x.1.1 + x.1.2.1 + x.1.2.2 = d) → (∀ y ∈ R, y.1.1 + y.1.2.1 + y.1.2.2 = e) → (∀ x ∈ S, ∀ y ∈ R, (x.2 * y.2).natAbs ≤ W) → MulOk (d + e) T n B f →
    MulOk (d + e) (mulS S R T) (n + S.length * R.length) (B + S.length * R.length * W) (fun p => f p + evT S p * evT R p)
  | [], R, T, n, B, f, _, _, _, h => ⟨h.trm, by have := h.len; simp [mulS]; omega, fun y hy => by have := h.bd y hy; omega, fun p => by rw [show mulS [] R T = T from rfl, h.ev]; simp [evT]⟩
  | x :: S, R, T, n, B, f, h1, h2, h3, h => by
    have ok := mulIn_ok (W := W) (h1 x (by simp)) h2 (h3 x (by simp)) h
    have ih := mulS_ok (S := S) (R := R) (fun z hz => h1 z (by simp [hz])) h2 (fun z hz => h3 z (by simp [hz])) ok
    have e1 : mulS (x :: S) R T = mulS S R (mulIn x R T) := rfl
    rw [e1]
    refine ⟨ih.trm, ?_, fun z hz => ?_, fun p => ?_⟩
    · have := ih.len
      rw [List.length_cons, Nat.add_mul]
      omega
    · have := ih.bd z hz
      rw [List.length_cons, Nat.add_mul, Nat.add_mul, Nat.one_mul]
      omega
    · rw [ih.ev, ev_cons]
      grind
theorem sPutT_tm {i : Nat} {fk fv : Ed} {ρ : Rho} {π π1 π2 : Pot} {T : List Tm} {m : Tr} {v : Int} (h : ρ[i]? = some (some (tmD T))) (hl : T.length < 1000000) (h1 : fv ρ π = .ok (.int v, π1)) (h2 : fk ρ π1 = .ok (trD m, π2)) :
    sPutT i fk fv ρ π = .ok (.nx (ρ.set i (some (tmD (addT T m v)))), π2) := by
  unfold sPutT
  rw [h]
  have hs : (T.map fun x => D.int x.2).length < sizeLine := by rw [sizeLine_eq, List.length_map]; omega
  simp only [tmD, isTd_tm, hs, and_self, if_true, h1, h2, Res.bind_ok, tkey_tr, ofO_some, putT_tm]
theorem tr_add (a b : Tr) : D.tup [.int ((a.1 : Int) + (b.1 : Int)), .int ((a.2.1 : Int) + (b.2.1 : Int)), .int ((a.2.2 : Int) + (b.2.2 : Int))] = trD (trAdd a b) := by
  unfold trD trAdd
  simp
theorem tr_ix (m : Tr) : opIx (trD m) (.int 0) = some (.int (m.1 : Int)) ∧ opIx (trD m) (.int 1) = some (.int (m.2.1 : Int)) ∧ opIx (trD m) (.int 2) = some (.int (m.2.2 : Int)) := ⟨rfl, rfl, rfl⟩
theorem opMul_bd {i j : Int} {a b : Nat} (ha : i.natAbs ≤ 2 ^ a) (hb : j.natAbs ≤ 2 ^ b) (h : a + b < 1000000) : opMulA (.int i) (.int j) = some (.int (i * j)) := mul_b ha hb h
end LW
set_option maxHeartbeats 4000000
namespace LW
open PySem PySem.Spec PyProof.Rows L2 DL RK
theorem mul_turn {S R : List Tm} (hS : (S.map (·.1)).Nodup) (hR : (R.map (·.1)).Nodup) {x y : Tm} (hx : x ∈ S) (hy : y ∈ R) (hm : opMulA (.int x.2) (.int y.2) = some (.int (x.2 * y.2))) {T : List Tm} (hl : T.length < 1000000) (o5 : Option D) (π : Pot) :
    f_p_times_terms_b1 [some (tmD S), some (tmD R), some (tmD T), some (trD x.1), some (trD y.1), o5] π = .ok (.nx [some (tmD S), some (tmD R), some (tmD (addT T (trAdd x.1 y.1) (cfT T (trAdd x.1 y.1) + x.2 * y.2))), some (trD x.1), some (trD y.1), some (trD (trAdd x.1 y.1))], π) := by
  have g1 := gGet2_tm T (trAdd x.1 y.1)
  have d1 := isDT_tm T
  have g2 := ixT_tm hS hx
  have g4 := ixT_tm hR hy
  have hp := sPutT_tm (i := 2) (fk := eVar 5) (fv := eBin opAdd (eGet2 (eVar 2) (eVar 5) (eC (.int 0))) (eBin opMulA (eBin opIxT (eVar 0) (eVar 3)) (eBin opIxT (eVar 1) (eVar 4)))) (ρ := [some (tmD S), some (tmD R), some (tmD T), some (trD x.1), some (trD y.1), some (trD (trAdd x.1 y.1))]) (π := π) (π1 := π) (π2 := π) (T := T) (m := trAdd x.1 y.1) (v := cfT T (trAdd x.1 y.1) + x.2 * y.2) rfl hl (by
      obtain ⟨B, hB⟩ : ∃ A, A = tmD T := ⟨_, rfl⟩
      obtain ⟨C, hC⟩ : ∃ A, A = tmD S := ⟨_, rfl⟩
      obtain ⟨X, hX⟩ : ∃ A, A = tmD R := ⟨_, rfl⟩
      obtain ⟨Z, hZ⟩ : ∃ A, A = trD x.1 := ⟨_, rfl⟩
      obtain ⟨V, hV⟩ : ∃ A, A = trD y.1 := ⟨_, rfl⟩
      obtain ⟨Y, hY⟩ : ∃ A, A = trD (trAdd x.1 y.1) := ⟨_, rfl⟩
      rw [← hB, ← hY] at g1
      rw [← hB] at d1
      rw [← hC, ← hZ] at g2
      rw [← hX, ← hV] at g4
      rw [← hB, ← hC, ← hZ, ← hX, ← hV, ← hY]
      simp -implicitDefEqProofs [eGet2, g1, d1, g2, hm, g4]) rfl
  obtain ⟨j0, j1, j2⟩ := tr_ix x.1
  obtain ⟨k0, k1, k2⟩ := tr_ix y.1
  have ta := tr_add x.1 y.1
  obtain ⟨B, hB⟩ : ∃ A, A = tmD T := ⟨_, rfl⟩
  obtain ⟨B', hB'⟩ : ∃ A, A = tmD (addT T (trAdd x.1 y.1) (cfT T (trAdd x.1 y.1) + x.2 * y.2)) := ⟨_, rfl⟩
  obtain ⟨C, hC⟩ : ∃ A, A = tmD S := ⟨_, rfl⟩
  obtain ⟨X, hX⟩ : ∃ A, A = tmD R := ⟨_, rfl⟩
  obtain ⟨Z, hZ⟩ : ∃ A, A = trD x.1 := ⟨_, rfl⟩
  obtain ⟨V, hV⟩ : ∃ A, A = trD y.1 := ⟨_, rfl⟩
  obtain ⟨Y, hY⟩ : ∃ A, A = trD (trAdd x.1 y.1) := ⟨_, rfl⟩
  rw [← hB, ← hB', ← hC, ← hX, ← hZ, ← hV, ← hY] at hp
  rw [← hZ] at j0 j1 j2
  rw [← hV] at k0 k1 k2
  rw [← hY] at ta
  rw [← hB, ← hB', ← hC, ← hX, ← hZ, ← hV, ← hY]
  have ss : sSet 5 (eTup (aCons (eBin opAdd (eBin opIx (eVar 3) (eC (.int 0))) (eBin opIx (eVar 4) (eC (.int 0)))) (aCons (eBin opAdd (eBin opIx (eVar 3) (eC (.int 1))) (eBin opIx (eVar 4) (eC (.int 1)))) (aCons (eBin opAdd (eBin opIx (eVar 3) (eC (.int 2))) (eBin opIx (eVar 4) (eC (.int 2)))) aNil)))) [some C, some X, some B, some Z, some V, o5] π = .ok (.nx [some C, some X, some B, some Z, some V, some Y], π) := by
    rw [← ta]
    simp -implicitDefEqProofs [j0, j1, j2, k0, k1, k2]
  show sSeq _ _ _ _ = _
  unfold sSeq
  rw [ss]
  exact hp
theorem mul_inner {S R : List Tm} (hS : (S.map (·.1)).Nodup) (hR : (R.map (·.1)).Nodup) {x : Tm} (hx : x ∈ S) (hm : ∀ y ∈ R, opMulA (.int x.2) (.int y.2) = some (.int (x.2 * y.2))) (π : Pot) : ∀ (U T : List Tm) (o4 o5 : Option D), (∀ y ∈ U, y ∈ R) → T.length + U.length < 1000000 →
    ∃ o4' o5', forGo (gN 4) f_p_times_terms_b1 (U.map fun x => trD x.1) [some (tmD S), some (tmD R), some (tmD T), some (trD x.1), o4, o5] π = .ok (.nx [some (tmD S), some (tmD R), some (tmD (mulIn x U T)), some (trD x.1), o4', o5'], π)
  | [], T, o4, o5, _, _ => ⟨o4, o5, rfl⟩
  | y :: U, T, o4, o5, h, hl => by
    have hy := h y (by simp)
    have tn := mul_turn hS hR hx hy (hm y hy) (T := T) (by simp at hl; omega) o5 π
    have hal := add_len T (trAdd x.1 y.1) (cfT T (trAdd x.1 y.1) + x.2 * y.2)
    obtain ⟨a, b, ih⟩ := mul_inner hS hR hx hm π U (addT T (trAdd x.1 y.1) (cfT T (trAdd x.1 y.1) + x.2 * y.2)) (some (trD y.1)) (some (trD (trAdd x.1 y.1))) (fun z hz => h z (by simp [hz])) (by simp at hl; omega)
    refine ⟨a, b, ?_⟩
    have e1 : mulIn x (y :: U) T = mulIn x U (addT T (trAdd x.1 y.1) (cfT T (trAdd x.1 y.1) + x.2 * y.2)) := rfl
    rw [e1, ← ih]
    have g0 : gN 4 (trD y.1) [some (tmD S), some (tmD R), some (tmD T), some (trD x.1), o4, o5] = some [some (tmD S), some (tmD R), some (tmD T), some (trD x.1), some (trD y.1), o5] := by simp
    simp only [List.map_cons, forGo, g0, ofO_some, Res.bind_ok, tn]
theorem mulIn_len (x : Tm) : ∀ (U T : List Tm), (mulIn x U T).length ≤ T.length + U.length
  | [], T => by simp [mulIn]
  | y :: U, T => by
    have := mulIn_len x U (addT T (trAdd x.1 y.1) (cfT T (trAdd x.1 y.1) + x.2 * y.2))
    have := add_len T (trAdd x.1 y.1) (cfT T (trAdd x.1 y.1) + x.2 * y.2)
    show (mulIn x U _).length ≤ _
    simp; omega
theorem mul_outer {S R : List Tm} (hS : (S.map (·.1)).Nodup) (hR : (R.map (·.1)).Nodup) (hm : ∀ x ∈ S, ∀ y ∈ R, opMulA (.int x.2) (.int y.2) = some (.int (x.2 * y.2))) (π : Pot) : ∀ (U T : List Tm) (o3 o4 o5 : Option D), (∀ x ∈ U, x ∈ S) → T.length + U.length * R.length < 1000000 →
    ∃ o3' o4' o5', forGo (gN 3) f_p_times_terms_b2 (U.map fun x => trD x.1) [some (tmD S), some (tmD R), some (tmD T), o3, o4, o5] π = .ok (.nx [some (tmD S), some (tmD R), some (tmD (mulS U R T)), o3', o4', o5'], π)
  | [], T, o3, o4, o5, _, _ => ⟨o3, o4, o5, rfl⟩
  | x :: U, T, o3, o4, o5, h, hl => by
    have hx := h x (by simp)
    rw [List.length_cons, Nat.add_mul] at hl
    obtain ⟨a4, a5, e1⟩ := mul_inner hS hR hx (hm x hx) π R T o4 o5 (fun y hy => hy) (by omega)
    have hml := mulIn_len x R T
    have turn : f_p_times_terms_b2 [some (tmD S), some (tmD R), some (tmD T), some (trD x.1), o4, o5] π = .ok (.nx [some (tmD S), some (tmD R), some (tmD (mulIn x R T)), some (trD x.1), a4, a5], π) := by
      have ky : iKyT 1 [some (tmD S), some (tmD R), some (tmD T), some (trD x.1), o4, o5] π = .ok (R.map fun x => trD x.1, π) := iKyT_tm rfl π
      show noErr (sFor (iKyT 1) (gN 4) f_p_times_terms_b1) _ _ = _
      unfold noErr sFor
      rw [ky]
      simp only [Res.bind_ok, e1]
    obtain ⟨a, b, c, ih⟩ := mul_outer hS hR hm π U (mulIn x R T) (some (trD x.1)) a4 a5 (fun z hz => h z (by simp [hz])) (by omega)
    refine ⟨a, b, c, ?_⟩
    have g0 : gN 3 (trD x.1) [some (tmD S), some (tmD R), some (tmD T), o3, o4, o5] = some [some (tmD S), some (tmD R), some (tmD T), some (trD x.1), o4, o5] := by simp
    have e2 : mulS (x :: U) R T = mulS U R (mulIn x R T) := rfl
    rw [e2, ← ih]
    simp only [List.map_cons, forGo, g0, ofO_some, Res.bind_ok, turn]
theorem times_terms_eq {S R : List Tm} (hS : (S.map (·.1)).Nodup) (hR : (R.map (·.1)).Nodup) (hm : ∀ x ∈ S, ∀ y ∈ R, opMulA (.int x.2) (.int y.2) = some (.int (x.2 * y.2))) (hl : S.length * R.length < 1000000) (π : Pot) :
    m_p_times_terms [tmD S, tmD R] π = .ok (tmD (mulS S R []), π) := by
  obtain ⟨a, b, c, e⟩ := mul_outer hS hR hm π S [] none none none (fun x hx => hx) (by simpa using hl)
  have e0 : tmD [] = .dic [] [] := rfl
  rw [e0] at e
  have ky : iKyT 0 [some (tmD S), some (tmD R), some (.dic [] []), none, none, none] π = .ok (S.map fun x => trD x.1, π) := iKyT_tm rfl π
  obtain ⟨B, hB⟩ : ∃ A, A = tmD S := ⟨_, rfl⟩
  obtain ⟨C, hC⟩ : ∃ A, A = tmD (mulS S R []) := ⟨_, rfl⟩
  obtain ⟨X, hX⟩ : ∃ A, A = tmD R := ⟨_, rfl⟩
  obtain ⟨K, hK⟩ : ∃ A, A = S.map fun x => trD x.1 := ⟨_, rfl⟩
  rw [← hB, ← hC, ← hK, ← hX] at e
  rw [← hB, ← hK, ← hX] at ky
  rw [← hB, ← hC, ← hX]
  unfold m_p_times_terms f_p_times_terms
  simp -implicitDefEqProofs [noErr, sFor, ky, e]
end LW
set_option maxHeartbeats 4000000
namespace LW
open PySem PySem.Spec PyProof.Rows L2 DL RK
structure FOk (e B : Nat) (f : Pt → Int) (U : List Tm) : Prop where
  trm : Trm e U
  bd : BdT B U
  ev : ∀ p, evT U p = f p
theorem FOk.nil (e : Nat) : FOk e 0 (fun _ => 0) [] := ⟨⟨by simp, by simp⟩, fun x h => by simp at h, fun p => rfl⟩
theorem FOk.mono {e B B' : Nat} {f g : Pt → Int} {U : List Tm} (h : FOk e B f U) (hB : B ≤ B') (hf : ∀ p, f p = g p) : FOk e B' g U := ⟨h.trm, fun x hx => Nat.le_trans (h.bd x hx) hB, fun p => (h.ev p).trans (hf p)⟩
theorem sub_len {α : Type} [DecidableEq α] : ∀ {l m : List α}, l.Nodup → (∀ x ∈ l, x ∈ m) → l.length ≤ m.length
  | [], _, _, _ => by simp
  | a :: l, m, hn, h => by
    rw [List.nodup_cons] at hn
    have hm := h a (by simp)
    have ih := sub_len (l := l) (m := m.erase a) hn.2 fun x hx => (List.mem_erase_of_ne (fun e => hn.1 (by rw [← e]; exact hx))).mpr (h x (by simp [hx]))
    rw [List.length_erase_of_mem hm] at ih
    have := List.length_pos_of_mem hm
    rw [List.length_cons]
    omega
theorem trm_len {e : Nat} (he : e ≤ 9) {U : List Tm} (h : Trm e U) : U.length ≤ 55 := by
  have h1 := sub_len (m := trs e) h.nd fun m hm => by
    obtain ⟨x, hx, rfl⟩ := List.mem_map.mp hm
    exact mem_trs.mpr (h.dg x hx)
  have h2 := trs_len_le he
  rw [List.length_map] at h1
  omega
def plusL (T S : List Tm) (n : Int) : List Tm := S.foldl (fun U x => addT U x.1 (cfT U x.1 + n * x.2)) T
theorem prod_bd {x y : Int} {B R : Nat} (hx : x.natAbs ≤ B) (hy : y.natAbs ≤ R) : (x * y).natAbs ≤ B * R := by
  rw [Int.natAbs_mul]
  exact Nat.mul_le_mul hx hy
theorem plusL_ok {e C : Nat} {n : Int} {N : Nat} (hn : n.natAbs ≤ N) : ∀ {S T : List Tm} {B : Nat} {f : Pt → Int}, (∀ x ∈ S, x.1.1 + x.1.2.1 + x.1.2.2 = e) → (∀ x ∈ S, x.2.natAbs ≤ C) → FOk e B f T →
    FOk e (B + S.length * (N * C)) (fun p => f p + n * evT S p) (plusL T S n)
  | [], T, B, f, _, _, h => h.mono (by omega) fun p => by simp [evT]
  | x :: S, T, B, f, h1, h2, h => by
    have ok : FOk e (B + N * C) (fun p => f p + n * x.2 * mono x.1 p) (addT T x.1 (cfT T x.1 + n * x.2)) :=
      ⟨add_trm h.trm (h1 x (by simp)) _, add_bd h.bd x.1 (prod_bd hn (h2 x (by simp))), fun p => by rw [ev_add h.trm.nd, h.ev]⟩
    have ih := plusL_ok hn (S := S) (fun y hy => h1 y (by simp [hy])) (fun y hy => h2 y (by simp [hy])) ok
    show FOk _ _ _ (plusL (addT T x.1 (cfT T x.1 + n * x.2)) S n)
    refine ih.mono (by rw [List.length_cons, Nat.add_mul]; omega) fun p => ?_
    rw [ev_cons]
    grind
theorem plus_ok {e B C N : Nat} (he : e ≤ 9) {f g : Pt → Int} {T S : List Tm} (h : FOk e B f T) (hS : FOk e C g S) {n : Int} (hn : n.natAbs ≤ N) : FOk e (B + 55 * (N * C)) (fun p => f p + n * g p) (plusL T S n) := by
  have ok := plusL_ok hn hS.trm.dg hS.bd h
  have hl := trm_len he hS.trm
  refine ok.mono ?_ fun p => by rw [hS.ev]
  have : S.length * (N * C) ≤ 55 * (N * C) := Nat.mul_le_mul_right _ hl
  omega
def Jf (cf : Tr → Int) (i D : Nat) (B C : Int) : Nat → Int
  | 0 => 0
  | n + 1 => Jf cf i D B C n * B + cf (i, D - n, n) * C ^ n
def Ff (cf : Tr → Int) (d : Nat) (A B C : Int) : Nat → Int
  | 0 => 0
  | n + 1 => Ff cf d A B C n * A + Jf cf (d - n) n B C (n + 1)
theorem Jf_add {c1 c2 c3 : Tr → Int} (h : ∀ m, c3 m = c1 m + c2 m) (i D : Nat) (B C : Int) : ∀ n, Jf c3 i D B C n = Jf c1 i D B C n + Jf c2 i D B C n
  | 0 => rfl
  | n + 1 => by simp only [Jf]; rw [Jf_add h i D B C n, h]; grind
theorem Ff_add {c1 c2 c3 : Tr → Int} (h : ∀ m, c3 m = c1 m + c2 m) (d : Nat) (A B C : Int) : ∀ n, Ff c3 d A B C n = Ff c1 d A B C n + Ff c2 d A B C n
  | 0 => rfl
  | n + 1 => by simp only [Ff]; rw [Ff_add h d A B C n, Jf_add h]; grind
theorem Jf_zero {cf : Tr → Int} {i D : Nat} {B C : Int} : ∀ {n : Nat}, (∀ j, j < n → cf (i, D - j, j) = 0) → Jf cf i D B C n = 0
  | 0, _ => rfl
  | n + 1, h => by simp only [Jf]; rw [Jf_zero fun j hj => h j (by omega), h n (by omega)]; simp
theorem Ff_zero {cf : Tr → Int} {d : Nat} {A B C : Int} : ∀ {n : Nat}, (∀ e, e < n → ∀ j, j ≤ e → cf (d - e, e - j, j) = 0) → Ff cf d A B C n = 0
  | 0, _ => rfl
  | n + 1, h => by simp only [Ff]; rw [Ff_zero fun e he => h e (by omega), Jf_zero fun j hj => h n (by omega) j (by omega)]; simp
def oneC (m : Tr) (w : Int) (x : Tr) : Int := if x = m then w else 0
theorem oneC_ne {m x : Tr} {w : Int} (h : x ≠ m) : oneC m w x = 0 := if_neg h
theorem Jf_one (i j k : Nat) (w B C : Int) : ∀ n, Jf (oneC (i, j, k) w) i (j + k) B C (k + 1 + n) = w * C ^ k * B ^ n
  | 0 => by
    show Jf _ i (j + k) B C k * B + oneC (i, j, k) w (i, j + k - k, k) * C ^ k = _
    rw [Jf_zero fun q hq => oneC_ne fun e => by simp only [Prod.mk.injEq] at e; omega, Nat.add_sub_cancel]
    simp [oneC]
  | n + 1 => by
    show Jf _ i (j + k) B C (k + 1 + n) * B + oneC (i, j, k) w (i, j + k - (k + 1 + n), k + 1 + n) * C ^ _ = _
    rw [Jf_one i j k w B C n, oneC_ne fun e => by simp only [Prod.mk.injEq] at e; omega, Int.pow_succ]
    grind
theorem Ff_one {d i j k : Nat} (h : i + j + k = d) (w A B C : Int) : ∀ n, n ≤ i → Ff (oneC (i, j, k) w) d A B C (j + k + 1 + n) = w * C ^ k * B ^ j * A ^ n
  | 0, _ => by
    show Ff _ d A B C (j + k) * A + Jf (oneC (i, j, k) w) (d - (j + k)) (j + k) B C (j + k + 1) = _
    rw [Ff_zero fun e he q hq => oneC_ne fun z => by simp only [Prod.mk.injEq] at z; omega, show d - (j + k) = i by omega, show j + k + 1 = k + 1 + j by omega, Jf_one]
    simp
  | n + 1, hn => by
    show Ff _ d A B C (j + k + 1 + n) * A + Jf (oneC (i, j, k) w) (d - (j + k + 1 + n)) (j + k + 1 + n) B C (j + k + 1 + n + 1) = _
    rw [Ff_one h w A B C n (by omega), Jf_zero fun q hq => oneC_ne fun z => by simp only [Prod.mk.injEq] at z; omega, Int.pow_succ]
    grind
theorem Ff_ev {d : Nat} {q : Pt} : ∀ {S : List Tm}, (S.map (·.1)).Nodup → (∀ x ∈ S, x.1.1 + x.1.2.1 + x.1.2.2 = d) → Ff (cfT S) d q.1 q.2.1 q.2.2 (d + 1) = evT S q
  | [], _, _ => Ff_zero fun e he j hj => rfl
  | x :: S, hn, hd => by
    rw [List.map_cons, List.nodup_cons] at hn
    have ih := Ff_ev (q := q) hn.2 fun y hy => hd y (by simp [hy])
    have hx := hd x (by simp)
    obtain ⟨⟨i, j, k⟩, w⟩ := x
    dsimp only at hx hn
    have e : ∀ m, cfT (((i, j, k), w) :: S) m = oneC (i, j, k) w m + cfT S m := fun m => by
      rw [cfT_cons]
      unfold oneC
      by_cases h : (i, j, k) = m
      · rw [if_pos h, if_pos h.symm, ← h, cfT_out hn.1]; simp
      · rw [if_neg h, if_neg fun z => h z.symm]; simp
    have o := Ff_one hx w q.1 q.2.1 q.2.2 i (Nat.le_refl i)
    rw [show j + k + 1 + i = d + 1 by omega] at o
    rw [Ff_add e, ih, o, ev_cons]
    simp only [mono]
    grind
end LW
set_option maxHeartbeats 4000000
namespace LW
open PySem PySem.Spec PyProof.Rows L2 DL RK
theorem hash_apart : ((List.range 13).all fun d => decide (((trs d).map fun m => hashD (kyT m)).Nodup)) = true := by decide +kernel
theorem inj_of_map {α β : Type} {f : α → β} : ∀ {l : List α}, (l.map f).Nodup → ∀ x ∈ l, ∀ y ∈ l, f x = f y → x = y
  | a :: l, hn, x, hx, y, hy, e => by
    rw [List.map_cons, List.nodup_cons] at hn
    rcases List.mem_cons.mp hx with ex | h1
    · rcases List.mem_cons.mp hy with ey | h2
      · rw [ex, ey]
      · rw [ex] at e
        exact absurd (show f a ∈ l.map f from List.mem_map.mpr ⟨y, h2, e.symm⟩) hn.1
    · rcases List.mem_cons.mp hy with ey | h2
      · rw [ey] at e
        exact absurd (show f a ∈ l.map f from List.mem_map.mpr ⟨x, h1, e⟩) hn.1
      · exact inj_of_map hn.2 x h1 y h2 e
theorem apart_trm {d : Nat} (hd : d ≤ 12) {S : List Tm} (h : Trm d S) : apartH (S.map fun x => kyT x.1) = true := by
  have hh := List.all_eq_true.mp hash_apart d (List.mem_range.mpr (by omega))
  rw [decide_eq_true_eq] at hh
  have inj := inj_of_map hh
  unfold apartH
  rw [Bool.and_eq_true, decide_eq_true_eq]
  refine ⟨?_, ?_⟩
  · rw [List.all_map, List.all_eq_true]
    intro x _
    rfl
  · have e : (S.map fun x => kyT x.1).map hashD = (S.map (·.1)).map fun m => hashD (kyT m) := by rw [List.map_map, List.map_map]; rfl
    rw [e]
    refine List.pairwise_map.mpr (h.nd.imp_of_mem fun {x y} hx hy hne hxy => hne ?_)
    obtain ⟨u, hu, rfl⟩ := List.mem_map.mp hx
    obtain ⟨v, hv, rfl⟩ := List.mem_map.mp hy
    exact inj _ (mem_trs.mpr (h.dg u hu)) _ (mem_trs.mpr (h.dg v hv)) hxy
theorem dictC_tm {d : Nat} (hd : d ≤ 12) {T : List Tm} (h : Trm d T) : fDictC [tmD T] = some (tmD T) := by
  unfold fDictC tmD
  exact if_pos ⟨isTd_tm T, apart_trm hd h⟩
theorem plus_loop {S : List Tm} (hS : (S.map (·.1)).Nodup) {n : Int} (A : Option D) (π : Pot) : ∀ (Vs U : List Tm) (o4 : Option D), (∀ x ∈ Vs, x ∈ S) → (∀ x ∈ Vs, opMulA (.int n) (.int x.2) = some (.int (n * x.2))) → U.length + Vs.length < 1000000 →
    ∃ p4, forGo (gN 4) f_p_plus_terms_b1 (Vs.map fun x => trD x.1) [A, some (tmD S), some (.int n), some (tmD U), o4] π = .ok (.nx [A, some (tmD S), some (.int n), some (tmD (plusL U Vs n)), p4], π)
  | [], U, o4, _, _, _ => ⟨o4, rfl⟩
  | x :: Vs, U, o4, h, hm, hl => by
    rw [List.length_cons] at hl
    have hx := h x (by simp)
    have hm1 := hm x (by simp)
    have g1 := gGet2_tm U x.1
    have d1 := isDT_tm U
    have g2 := ixT_tm hS hx
    have hp := sPutT_tm (i := 3) (fk := eVar 4) (fv := eBin opAdd (eGet2 (eVar 3) (eVar 4) (eC (.int 0))) (eBin opMulA (eVar 2) (eBin opIxT (eVar 1) (eVar 4)))) (ρ := [A, some (tmD S), some (.int n), some (tmD U), some (trD x.1)]) (π := π) (π1 := π) (π2 := π) (T := U) (m := x.1) (v := cfT U x.1 + n * x.2) rfl (by omega) (by
      obtain ⟨B, hB⟩ : ∃ A, A = tmD U := ⟨_, rfl⟩
      obtain ⟨C, hC⟩ : ∃ A, A = tmD S := ⟨_, rfl⟩
      obtain ⟨Y, hY⟩ : ∃ A, A = trD x.1 := ⟨_, rfl⟩
      rw [← hB, ← hY] at g1
      rw [← hB] at d1
      rw [← hC, ← hY] at g2
      rw [← hB, ← hC, ← hY]
      simp -implicitDefEqProofs [eGet2, g1, d1, g2, hm1]) rfl
    have hal := add_len U x.1 (cfT U x.1 + n * x.2)
    obtain ⟨p4, ih⟩ := plus_loop hS A π Vs (addT U x.1 (cfT U x.1 + n * x.2)) (some (trD x.1)) (fun y hy => h y (by simp [hy])) (fun y hy => hm y (by simp [hy])) (by omega)
    refine ⟨p4, ?_⟩
    have e1 : plusL U (x :: Vs) n = plusL (addT U x.1 (cfT U x.1 + n * x.2)) Vs n := rfl
    rw [e1, ← ih]
    have g0 : gN 4 (trD x.1) [A, some (tmD S), some (.int n), some (tmD U), o4] = some [A, some (tmD S), some (.int n), some (tmD U), some (trD x.1)] := by simp
    have hb : f_p_plus_terms_b1 [A, some (tmD S), some (.int n), some (tmD U), some (trD x.1)] π = .ok (.nx [A, some (tmD S), some (.int n), some (tmD (addT U x.1 (cfT U x.1 + n * x.2))), some (trD x.1)], π) := hp
    simp only [List.map_cons, forGo, g0, ofO_some, Res.bind_ok, hb]
theorem plus_terms_eq {d e : Nat} (hd : d ≤ 12) {T S : List Tm} (hT : Trm d T) (hS : Trm e S) {n : Int} {a b : Nat} (hn : n.natAbs ≤ 2 ^ a) (hb : TBd b S) (hab : a + b < 1000000) (hl1 : T.length ≤ 1000) (hl2 : S.length ≤ 1000) (π : Pot) :
    m_p_plus_terms [tmD T, tmD S, .int n] π = .ok (tmD (plusL T S n), π) := by
  have dc := dictC_tm hd hT
  obtain ⟨p4, e⟩ := plus_loop hS.nd (n := n) (some (tmD T)) π S T none (fun x hx => hx) (fun x hx => opMul_bd hn (hb x hx) hab) (by omega)
  have ky : iKyT 1 [some (tmD T), some (tmD S), some (.int n), some (tmD T), none] π = .ok (S.map fun x => trD x.1, π) := iKyT_tm rfl π
  obtain ⟨B, hB⟩ : ∃ A, A = tmD T := ⟨_, rfl⟩
  obtain ⟨C, hC⟩ : ∃ A, A = tmD (plusL T S n) := ⟨_, rfl⟩
  obtain ⟨X, hX⟩ : ∃ A, A = tmD S := ⟨_, rfl⟩
  obtain ⟨K, hK⟩ : ∃ A, A = S.map fun x => trD x.1 := ⟨_, rfl⟩
  rw [← hB, ← hC, ← hK, ← hX] at e
  rw [← hB, ← hK, ← hX] at ky
  rw [← hB] at dc
  rw [← hB, ← hC, ← hX]
  unfold m_p_plus_terms f_p_plus_terms
  simp -implicitDefEqProofs [noErr, sFor, dc, ky, e]
end LW
set_option maxHeartbeats 4000000
namespace LW
open PySem PySem.Spec PyProof.Rows L2 DL RK
theorem is_triple_tr (m : Tr) (π : Pot) : m_p_is_triple [trD m] π = .ok (.bl true, π) := by
  obtain ⟨x, y, z⟩ := m
  have h0 : ∀ n : Nat, (0 : Int) ≤ (n : Int) := fun n => by omega
  have c : ∀ n : Nat, m_p_is_count [.int (n : Int)] π = .ok (.bl true, π) := fun n => by
    unfold m_p_is_count f_p_is_count m_p_is_integer f_p_is_integer
    simp -implicitDefEqProofs [h0 n]
  unfold trD m_p_is_triple f_p_is_triple
  simp -implicitDefEqProofs [f_p_is_triple_e1_ap, lcGo, c, safe_ok', fAll, asBls, eAnd]
theorem sumT_tr (m : Tr) : fSumT [trD m] = some (.int ((m.1 + m.2.1 + m.2.2 : Nat) : Int)) := by
  obtain ⟨x, y, z⟩ := m
  have : asInts [.int (x : Int), .int (y : Int), .int (z : Int)] = some [(x : Int), (y : Int), (z : Int)] := rfl
  simp [trD, fSumT, this]
  try omega
theorem terms_loop {d : Nat} {S : List Tm} (h : Trm d S) (hz : ∀ x ∈ S, x.2 ≠ 0) (π : Pot) : ∀ (Vs : List Tm) (o2 : Option D), (∀ x ∈ Vs, x ∈ S) →
    ∃ p2, forGo (gN 2) f_p_are_terms_b1 (Vs.map fun x => trD x.1) [some (.int (d : Int)), some (tmD S), o2] π = .ok (.nx [some (.int (d : Int)), some (tmD S), p2], π)
  | [], o2, _ => ⟨o2, rfl⟩
  | x :: Vs, o2, hx => by
    obtain ⟨p2, ih⟩ := terms_loop h hz π Vs (some (trD x.1)) fun y hy => hx y (by simp [hy])
    refine ⟨p2, ?_⟩
    have hxS := hx x (by simp)
    have e1 := is_triple_tr x.1 π
    have e2 := sumT_tr x.1
    rw [h.dg x hxS] at e2
    have e3 := ixT_tm h.nd hxS
    have e4 : m_p_is_integer [.int x.2] π = .ok (.bl true, π) := by
      unfold m_p_is_integer f_p_is_integer
      simp -implicitDefEqProofs
    have n1 : opNe (.int (d : Int)) (.int (d : Int)) = some (.bl false) := by simp [opNe, eqD]
    have n2 : opEq (.int x.2) (.int 0) = some (.bl false) := by
      have := hz x hxS
      simp [opEq, eqD, this]
    rw [List.map_cons, forGo]
    generalize tmD S = A at *
    generalize trD x.1 = B at *
    generalize x.2 = v at *
    simp -implicitDefEqProofs [f_p_are_terms_b1_ap, e1, e2, e3, e4, n1, n2]
    exact ih
theorem are_terms_eq {d : Nat} {S : List Tm} (h : Trm d S) (hz : ∀ x ∈ S, x.2 ≠ 0) (π : Pot) : m_p_are_terms [.int (d : Int), tmD S] π = .ok (.bl true, π) := by
  obtain ⟨p2, e⟩ := terms_loop h hz π S none fun x hx => hx
  have ky : iKyT 1 [some (.int (d : Int)), some (tmD S), none] π = .ok (S.map fun x => trD x.1, π) := iKyT_tm rfl π
  have hi : fIsA clsL ["dict"] (tmD S) = some (.bl true) := rfl
  simp only [clsL] at hi
  generalize (S.map fun x => trD x.1) = K at *
  generalize tmD S = A at *
  unfold m_p_are_terms f_p_are_terms
  simp -implicitDefEqProofs [hi, noErr, sFor, ky, e]
end LW
set_option maxHeartbeats 4000000
namespace LW
open PySem PySem.Spec PyProof.Rows L2 DL RK
theorem dget_in {T : List Tm} (hn : (T.map (·.1)).Nodup) {m : Tr} (h : m ∈ T.map (·.1)) : dgetT (T.map fun x => kyT x.1) (T.map fun x => .int x.2) (kyL m) = some (.int (cfT T m)) := by
  obtain ⟨x, hx, rfl⟩ := List.mem_map.mp h
  have e := dget_tm hn hx
  have e2 := dget_cf T x.1
  rw [e] at e2
  rw [e]
  exact congrArg some e2
theorem ixT_cf {T : List Tm} (hn : (T.map (·.1)).Nodup) {m : Tr} (h : m ∈ T.map (·.1)) : opIxT (tmD T) (trD m) = some (.int (cfT T m)) := by
  obtain ⟨x, hx, rfl⟩ := List.mem_map.mp h
  have e := dget_tm hn hx
  have e2 := dget_in hn h
  rw [e] at e2
  rw [ixT_tm hn hx]
  exact e2
end LW
set_option maxHeartbeats 4000000
set_option maxHeartbeats 4000000
set_option maxHeartbeats 4000000
namespace LW
open PySem PySem.Spec PyProof.Rows L2 DL RK
theorem cfT_mem {T : List Tm} (hn : (T.map (·.1)).Nodup) {x : Tm} (hx : x ∈ T) : cfT T x.1 = x.2 := by
  induction T with
  | nil => cases hx
  | cons y T ih =>
    rw [List.map_cons, List.nodup_cons] at hn
    rw [cfT_cons]
    rcases List.mem_cons.mp hx with e | h
    · rw [if_pos (by rw [e]), e]
    · rw [if_neg fun e => hn.1 (List.mem_map.mpr ⟨x, h, e.symm⟩)]
      exact ih hn.2 h
/-- the row of a form's numbers -/
def rwT (d : Nat) (T : List Tm) : List Int := (trs d).map (cfT T)
theorem rwT_len (d : Nat) (T : List Tm) : (rwT d T).length = (trs d).length := by simp [rwT]
/-- a form's worth by its row -/
theorem ev_rw {d : Nat} {T : List Tm} (h : Trm d T) (p : Pt) : evT T p = phi (trs d).length (vz (cnd d p)) (vz (rwT d T)) := by
  have hl := rwT_len d T
  have tm := tmOf_trm hl
  have keys : (tmOf d (rwT d T)).map (·.1) = trs d := by
    unfold tmOf
    rw [List.map_fst_zip (by omega)]
  have hc : cfT (tmOf d (rwT d T)) = cfT T := by
    funext m
    by_cases hm : m ∈ trs d
    · have e : tmOf d (rwT d T) = (trs d).map fun m => (m, cfT T m) := by
        unfold tmOf rwT
        have : ∀ l : List Tr, l.zip (l.map (cfT T)) = l.map fun m => (m, cfT T m) := fun l => by
          induction l with
          | nil => rfl
          | cons a l ih => simp [ih]
        exact this _
      have hx : (m, cfT T m) ∈ tmOf d (rwT d T) := by rw [e]; exact List.mem_map.mpr ⟨m, hm, rfl⟩
      exact cfT_mem tm.nd hx
    · rw [cfT_out (by rw [keys]; exact hm), cfT_out fun hk => hm ?_]
      obtain ⟨x, hx, rfl⟩ := List.mem_map.mp hk
      exact mem_trs.mpr (h.dg x hx)
  have e1 := Ff_ev (q := p) h.nd h.dg
  have e2 := Ff_ev (q := p) tm.nd tm.dg
  rw [hc] at e2
  rw [← e1, e2, evT_of hl]
  exact phi_congr fun j _ => Int.mul_comm _ _
theorem lc_range : ∀ (vs : List RK.V) (u : Nat → Int) (i : Nat), lc ((List.range vs.length).map u) vs i = ((List.range vs.length).map fun j => u j * (vs.getD j zr) i).sum
  | [], u, i => rfl
  | v :: vs, u, i => by
    rw [List.length_cons, List.range_succ_eq_map, List.map_cons, List.map_cons, List.map_map, List.map_map]
    show u 0 * v i + lc ((List.range vs.length).map fun j => u (j + 1)) vs i = _
    rw [lc_range vs (fun j => u (j + 1)) i, List.sum_cons]
    rfl
def triP (d : Nat) : List Pt := (List.range (d + 1)).flatMap fun (a : Nat) => (List.range (d + 1 - a)).map fun (b : Nat) => ((a : Int), (b : Int), (1 : Int))
theorem tri_full : ((List.range 7).all fun d => hhK d (triP d) == (trs d).length) = true := by decide +kernel
theorem zero_all {d : Nat} (hd : d ≤ 6) {u : RK.V} (h : ∀ p, phi (trs d).length (vz (cnd d p)) u = 0) : ∀ j, j < (trs d).length → u j = 0 := by
  have hf := List.all_eq_true.mp tri_full d (List.mem_range.mpr (by omega))
  rw [beq_iff_eq, hhK_eq, hh_cols] at hf
  have hi : Ind ((trs d).map fun m => vz ((triP d).map (mono m))) := ind_of_rk (by rw [hf, List.length_map])
  have z := lc_ind hi ((List.range (trs d).length).map u) (by simp) fun i => by
    have e := lc_range ((trs d).map fun m => vz ((triP d).map (mono m))) u i
    rw [List.length_map] at e
    rw [e]
    by_cases hp : i < (triP d).length
    · have := h ((triP d)[i])
      rw [phi_sum] at this
      rw [← this]
      congr 1
      refine List.map_congr_left fun j hj => ?_
      have hj := List.mem_range.mp hj
      simp [vz, cnd, List.getD, hj, hp]
    · have : ∀ l : List Nat, (l.map fun j => u j * (((trs d).map fun m => vz ((triP d).map (mono m))).getD j zr) i).sum = 0 := fun l => by
        induction l with
        | nil => rfl
        | cons a l ih =>
          rw [List.map_cons, List.sum_cons, ih]
          have e0 : (((trs d).map fun m => vz ((triP d).map (mono m))).getD a zr) i = 0 := by
            by_cases ha : a < (trs d).length
            · simp [List.getD, ha, vz, hp]
            · simp [List.getD, ha, zr]
          rw [e0]; simp
      exact this _
  intro j hj
  exact z (u j) (List.mem_map.mpr ⟨j, List.mem_range.mpr hj, rfl⟩)
end LW
set_option maxHeartbeats 2000000
namespace DL
open PySem PySem.Spec PyProof.Rows L2 PySem.Builtin PySem.Builtin.Str
end DL
set_option maxHeartbeats 2000000
namespace DL
open PySem PySem.Spec PyProof.Rows L2
/-- few small things in a list can be shown -/
def smB (d : D) : Bool := showB d && decide (deepD d ≤ 8) && decide (wideD d ≤ 2000)
end DL
set_option maxHeartbeats 2000000
namespace DL
open PySem PySem.Spec PyProof.Rows L2
theorem keyPy_toPy : ∀ k : List Key, toPyL (k.map kD) = some (k.map keyPy)
  | [] => rfl
  | .inl i :: k => by
    have := keyPy_toPy k
    simp only [List.map_cons, kD, toPyL, toPy, this, keyPy]
  | .inr x :: k => by
    have := keyPy_toPy k
    simp only [List.map_cons, kD, toPyL, toPy, this, keyPy]
theorem flatPy_toPy {d : D} {p : PyData} (h : flatPy d = some p) : toPy d = some p := by
  cases d <;> first | exact h | cases h
theorem kv_show : ∀ {ks : List DKey} {xs : List D}, ks.length = xs.length → (∀ j ∈ ks, ∃ k, j = .inr k ∧ smB (.tup (k.map kD)) = true) → (∀ x ∈ xs, smB x = true ∧ (flatPy x).isSome = true) →
    ∃ ps, pairsPy ks xs = some ps ∧ PyData.showableKv ps = true ∧ PyData.depthKv ps ≤ 8 ∧ ((PyData.shownKv ps).map (·.length)).sum ≤ 4002 * xs.length ∧ ps.length = xs.length
  | [], [], _, _, _ => ⟨[], rfl, rfl, Nat.zero_le _, Nat.zero_le _, rfl⟩
  | [], _ :: _, h, _, _ => by simp at h
  | _ :: _, [], h, _, _ => by simp at h
  | j :: ks, x :: xs, h, hk, hx => by
    obtain ⟨k, rfl, h1⟩ := hk j (by simp)
    obtain ⟨h2, h3⟩ := hx x (by simp)
    obtain ⟨p, e⟩ := Option.isSome_iff_exists.mp h3
    obtain ⟨ps, g1, g2, g3, g4, g5⟩ := kv_show (ks := ks) (xs := xs) (by simpa using h) (fun j hj => hk j (by simp [hj])) fun y hy => hx y (by simp [hy])
    simp only [smB, Bool.and_eq_true, decide_eq_true_eq] at h1 h2
    obtain ⟨q, a1, a2, -, a4, a5⟩ := show_py h1.1.1
    obtain ⟨p', b1, b2, -, b4, b5⟩ := show_py h2.1.1
    rw [flatPy_toPy e] at b1
    cases b1
    have eq : toPy (.tup (k.map kD)) = some (.tuple (k.map keyPy)) := by
      show (toPyL (k.map kD)).map _ = _
      rw [keyPy_toPy]; rfl
    rw [eq] at a1
    cases a1
    refine ⟨(.tuple (k.map keyPy), p) :: ps, ?_, ?_, ?_, ?_, by simp [g5]⟩
    · simp only [pairsPy, e, g1, Option.bind_some, Option.map_some]
    · simp [PyData.showableKv, a2, b2, g2]
    · simp only [PyData.depthKv]
      omega
    · have e2 : ((PyData.tuple (k.map keyPy)).shown ++ ": " ++ p.shown).length = (PyData.tuple (k.map keyPy)).shown.length + 2 + p.shown.length := by
        rw [strLen_append, strLen_append]; rfl
      simp only [PyData.shownKv, List.map_cons, List.sum_cons, List.length_cons, e2]
      omega
end DL
set_option maxHeartbeats 4000000
namespace LW
open PySem PySem.Spec PyProof.Rows L2 DL RK
theorem sm_big {n : Int} {B : Nat} (h : n.natAbs ≤ 2 ^ B) (hB : B < 1900) : smB (.int n) = true := by
  have : n.natAbs.log2 ≤ B := by
    by_cases h0 : n.natAbs = 0
    · rw [h0]; exact Nat.zero_le _
    · have h1 : n.natAbs < 2 ^ (B + 1) := by rw [Nat.pow_succ]; have := Nat.one_le_two_pow (n := B); omega
      have := (Nat.log2_lt h0).mpr h1
      omega
  have k1 : n.natAbs.log2 < 1920 := by omega
  have k2 : n.natAbs.log2 + 2 ≤ 2000 := by omega
  show (decide (n.natAbs.log2 < 1920) && decide (0 ≤ 8) && decide (n.natAbs.log2 + 2 ≤ 2000)) = true
  simp [k1, k2]
theorem sm_tr {d : Nat} (hd : d ≤ 12) {m : Tr} (h : m.1 + m.2.1 + m.2.2 = d) : smB (.tup ((kyL m).map kD)) = true := by
  have g : ((List.range 13).all fun a => (List.range 13).all fun b => (List.range 13).all fun c => smB (.tup ((kyL (a, b, c)).map kD))) = true := by decide +kernel
  obtain ⟨a, b, c⟩ := m
  dsimp only at h
  exact List.all_eq_true.mp (List.all_eq_true.mp (List.all_eq_true.mp g a (List.mem_range.mpr (by omega))) b (List.mem_range.mpr (by omega))) c (List.mem_range.mpr (by omega))
theorem showT_len {ks : List DKey} {xs : List D} (hn : isTd ks = true) (hl : ks.length = xs.length) (h9 : xs.length ≤ 1000) (hk : ∀ j ∈ ks, ∃ k, j = .inr k ∧ smB (.tup (k.map kD)) = true) (hx : ∀ x ∈ xs, smB x = true ∧ (flatPy x).isSome = true) :
    ∃ z, showT (.dic ks xs) = some z ∧ z.length ≤ 4010 * xs.length + 20 := by
  obtain ⟨ps, g1, g2, g3, g4, g5⟩ := kv_show hl hk hx
  have e0 : PyData.shown (.dict ps) = dictText (PyData.shownKv ps) := by simp only [PyData.shown]
  have e1 := dictText_len_le (PyData.shownKv ps)
  rw [PyData.shownKv_length] at e1
  have e2 : (PyData.shown (.dict ps)).length ≤ 4010 * xs.length + 20 := by rw [e0]; omega
  refine ⟨PyData.shown (.dict ps), ?_, e2⟩
  have c1 : PyData.showable (.dict ps) = true := by simpa only [PyData.showable] using g2
  have c2 : PyData.depth (.dict ps) ≤ 60 := by simp only [PyData.depth]; omega
  have c3 : (PyData.shown (.dict ps)).length ≤ sizeLine := by rw [sizeLine_eq]; omega
  simp only [showT, hn, if_true, g1, Option.bind_some, showKv, c1, c2, c3, decide_true, Bool.and_self]
theorem showT_tml {d : Nat} (hd : d ≤ 12) {B : Nat} (hB : B < 1900) {T : List Tm} (h : Trm d T) (hl : T.length ≤ 1000) (hb : TBd B T) : ∃ z, showT (tmD T) = some z ∧ z.length ≤ 4010 * T.length + 20 := by
  have := showT_len (isTd_tm T) (ks := T.map fun x => kyT x.1) (xs := T.map fun x => .int x.2) (by simp) (by simpa using hl) (fun j hj => by
    obtain ⟨y, hy, rfl⟩ := List.mem_map.mp hj
    exact ⟨kyL y.1, rfl, sm_tr hd (h.dg y hy)⟩) fun x hx => by
    obtain ⟨y, hy, rfl⟩ := List.mem_map.mp hx
    exact ⟨sm_big (hb y hy) hB, rfl⟩
  rw [List.length_map] at this
  exact this
theorem log_le12 {d : Nat} (h : d ≤ 12) : (d : Int).natAbs.log2 < 1920 := by
  have : ((List.range 13).all fun d => decide (((d : Int)).natAbs.log2 < 1920)) = true := by decide +kernel
  exact of_decide_eq_true (List.all_eq_true.mp this d (List.mem_range.mpr (by omega)))
theorem str_d {d : Nat} (h : d ≤ 12) : (toString (d : Int) : Str).length ≤ 10 := by
  have : ((List.range 13).all fun d => decide ((toString ((d : Int)) : Str).length ≤ 10)) = true := by decide +kernel
  exact of_decide_eq_true (List.all_eq_true.mp this d (List.mem_range.mpr (by omega)))
theorem repr_fm {d : Nat} (hd : d ≤ 12) {B : Nat} (hB : B < 1900) {T : List Tm} (h : Trm d T) (hl : T.length ≤ 1000) (hb : TBd B T) (π : Pot) : ∃ z, m_c_Form___repr__ [fmD d T] π = .ok (.str z, π) ∧ z.length ≤ 4010 * T.length + 60 := by
  obtain ⟨z, e1, e2⟩ := showT_tml hd hB h hl hb
  have tm := fm_terms d T
  have dg := fm_degree d T
  have lg := log_le12 hd
  have ld := str_d hd
  have hs : ∀ n : Nat, n ≤ 16777216 → n ≤ sizeLine := fun n h => by rw [sizeLine_eq]; exact h
  refine ⟨((((Str.empty ++ "Form(") ++ (toString (d : Int) : Str)) ++ ", ") ++ z) ++ ")", ?_, ?_⟩
  rotate_left
  · have q1 : (Str.empty ++ "Form(" : Str).length = 5 := by rfl
    have q3 : (", " : Str).length = 2 := by rfl
    have q5 : (")" : Str).length = 1 := by rfl
    rw [strLen_append, strLen_append, strLen_append, strLen_append, q1, q3, q5]
    omega
  have dT : tmD T = .dic (T.map fun x => kyT x.1) (T.map fun x => .int x.2) := rfl
  have q1 : (Str.empty ++ "Form(" : Str).length = 5 := by rfl
  have l1 : (Str.empty ++ "Form(" : Str).length ≤ sizeLine := hs _ (by rw [q1]; omega)
  have l2 : ((Str.empty ++ "Form(" : Str) ++ (toString (d : Int) : Str)).length ≤ sizeLine := hs _ (by rw [strLen_append, q1]; omega)
  have q3 : (", " : Str).length = 2 := by rfl
  have l3 : (((Str.empty ++ "Form(" : Str) ++ (toString (d : Int) : Str)) ++ ", ").length ≤ sizeLine := hs _ (by rw [strLen_append, strLen_append, q1, q3]; omega)
  have l4 : ((((Str.empty ++ "Form(" : Str) ++ (toString (d : Int) : Str)) ++ ", ") ++ z).length ≤ sizeLine := hs _ (by rw [strLen_append, strLen_append, strLen_append, q1, q3]; omega)
  have q5 : (")" : Str).length = 1 := by rfl
  have l5 : (((((Str.empty ++ "Form(" : Str) ++ (toString (d : Int) : Str)) ++ ", ") ++ z) ++ ")").length ≤ sizeLine := hs _ (by rw [strLen_append, strLen_append, strLen_append, strLen_append, q1, q3, q5]; omega)
  rw [dT] at e1 tm
  obtain ⟨A, hA⟩ : ∃ A, A = fmD d T := ⟨_, rfl⟩
  obtain ⟨ks, hk⟩ : ∃ A, A = T.map fun x => kyT x.1 := ⟨_, rfl⟩
  obtain ⟨xs, hx⟩ : ∃ A, A = T.map fun x => D.int x.2 := ⟨_, rfl⟩
  obtain ⟨i, hi⟩ : ∃ i, i = (d : Int) := ⟨_, rfl⟩
  rw [← hA] at tm dg ⊢
  rw [← hk, ← hx] at tm e1
  rw [← hi] at dg lg l2 l3 l4 l5 ⊢
  have fa : eFmtI (eUn (fldD "Form" "own_degree") (eVar 0)) [some A] π = .ok (.str (toString i : Str), π) := by
    have ha : eUn (fldD "Form" "own_degree") (eVar 0) [some A] π = .ok (.int i, π) := by simp -implicitDefEqProofs [dg]
    unfold eFmtI
    rw [ha]
    simp only [Res.bind_ok]
    rw [if_pos lg]
  have fb : eFmtRT (eUn (fldD "Form" "own_terms") (eVar 0)) [some A] π = .ok (.str z, π) := by
    have ha : eUn (fldD "Form" "own_terms") (eVar 0) [some A] π = .ok (.dic ks xs, π) := by simp -implicitDefEqProofs [tm]
    unfold eFmtRT
    rw [ha]
    simp only [Res.bind_ok, e1, Option.map_some, ofO_some]
  obtain ⟨s, hs'⟩ : ∃ s : Str, s = (toString i : Str) := ⟨_, rfl⟩
  rw [← hs'] at fa l2 l3 l4 l5 ⊢
  unfold m_c_Form___repr__ f_c_Form___repr__
  simp -implicitDefEqProofs [joinD, fa, fb, l1, l2, l3, l4, l5]
theorem meOf_fm (m : Fd) (d : Nat) (T : List Tm) : meOf [("Form", m)] (fmD d T) = some m := rfl
end LW
set_option maxHeartbeats 2000000
namespace DL
open PySem PySem.Spec PyProof.Rows L2
inductive Vx : Nat → D → Prop
  | non {n : Nat} : Vx n .non
  | bl {n : Nat} (b : Bool) : Vx n (.bl b)
  | int {n : Nat} (i : Int) (h : i.natAbs ≤ 2 ^ 104) : Vx n (.int i)
  | str {n : Nat} (x : Str) (h : (reprText x).length ≤ 100) : Vx n (.str x)
  | emp {n : Nat} : Vx n (.dic [] [])
  | lst {n : Nat} {xs : List D} (h : xs.length ≤ 8) (r : ∀ x ∈ xs, Vx n x) : Vx (n + 1) (.lst xs)
  | tup {n : Nat} {xs : List D} (h : xs.length ≤ 8) (r : ∀ x ∈ xs, Vx n x) : Vx (n + 1) (.tup xs)
theorem Vx.up {n : Nat} {d : D} (h : Vx n d) : Vx (n + 1) d := by
  induction h with
  | non => exact .non
  | bl b => exact .bl b
  | int i h => exact .int i h
  | str x h => exact .str x h
  | emp => exact .emp
  | lst h r ih => exact .lst h ih
  | tup h r ih => exact .tup h ih
theorem Vx.le {n m : Nat} {d : D} (h : Vx n d) (hm : n ≤ m) : Vx m d := by
  obtain ⟨k, rfl⟩ : ∃ k, m = n + k := ⟨m - n, by omega⟩
  induction k with
  | zero => exact h
  | succ k ih => exact (ih (by omega)).up
def WX : Nat → Nat
  | 0 => 120
  | n + 1 => 8 * (WX n + 2) + 3
theorem wx_ge (n : Nat) : 120 ≤ WX n := by
  induction n with
  | zero => exact Nat.le_refl _
  | succ n ih => simp only [WX]; omega
def ShX (n : Nat) (d : D) : Prop := ∃ p, toPyX d = some p ∧ p.showable = true ∧ p.depth ≤ n + 1 ∧ p.shown.length ≤ WX n
theorem shx_all {n : Nat} : ∀ {xs : List D}, (∀ x ∈ xs, ShX n x) → ∃ ps, toPyXL xs = some ps ∧ PyData.showableAll ps = true ∧ PyData.depthAll ps ≤ n + 1 ∧ piled (PyData.shownAll ps) ≤ (WX n + 2) * xs.length
  | [], _ => ⟨[], rfl, rfl, Nat.zero_le _, Nat.zero_le _⟩
  | x :: xs, h => by
    obtain ⟨p, h1, h2, h3, h4⟩ := h x (by simp)
    obtain ⟨ps, g1, g2, g3, g4⟩ := shx_all (xs := xs) fun y hy => h y (by simp [hy])
    refine ⟨p :: ps, by simp [toPyXL, h1, g1], by simp [PyData.showableAll, h2, g2], ?_, ?_⟩
    · simp only [PyData.depthAll]
      omega
    · rw [PyData.shownAll, piled_cons, List.length_cons, Nat.mul_add]
      omega
theorem Vx.sh {n : Nat} {d : D} (h : Vx n d) : ShX n d := by
  have flat : ∀ {d : D} {n : Nat}, showB d = true → deepD d = 0 → wideD d ≤ 110 → (∀ p, toPy d = some p → toPyX d = some p) → ShX n d := fun {d n} h1 h2 h3 h4 => by
    obtain ⟨p, e, g1, g2, g3, g4⟩ := show_py h1
    have := wx_ge n
    exact ⟨p, h4 p e, g1, by omega, by omega⟩
  induction h with
  | non => exact flat rfl rfl (by decide) fun p e => e
  | bl b => exact flat rfl rfl (by cases b <;> decide) fun p e => e
  | int i h =>
    have hl : i.natAbs.log2 ≤ 105 := by
      by_cases h0 : i.natAbs = 0
      · rw [h0]; decide
      · have := (Nat.log2_lt (k := 105) h0).mpr (Nat.lt_of_le_of_lt h (by decide))
        omega
    exact flat (by show decide (i.natAbs.log2 < 1920) = true; exact decide_eq_true (by omega)) rfl (by show i.natAbs.log2 + 2 ≤ 110; omega) fun p e => e
  | str x h => exact flat rfl rfl (Nat.le_trans h (by decide)) fun p e => e
  | @emp n =>
    have := wx_ge n
    exact ⟨.dict [], rfl, rfl, by show 0 + 1 ≤ n + 1; omega, by show 2 ≤ _; omega⟩
  | @lst n xs h r ih =>
    obtain ⟨ps, g1, g2, g3, g4⟩ := shx_all ih
    have := list_text (PyData.shownAll ps)
    refine ⟨.list ps, by simp [toPyX, g1], by simpa [PyData.showable] using g2, by simp only [PyData.depth]; omega, ?_⟩
    rw [PyData.shown, WX]
    have : (WX n + 2) * xs.length ≤ (WX n + 2) * 8 := Nat.mul_le_mul_left _ h
    omega
  | @tup n xs h r ih =>
    obtain ⟨ps, g1, g2, g3, g4⟩ := shx_all ih
    have := tup_text (PyData.shownAll ps)
    refine ⟨.tuple ps, by simp [toPyX, g1], by simpa [PyData.showable] using g2, by simp only [PyData.depth]; omega, ?_⟩
    rw [PyData.shown, WX]
    have : (WX n + 2) * xs.length ≤ (WX n + 2) * 8 := Nat.mul_le_mul_left _ h
    omega
theorem wx_le {n : Nat} (h : n ≤ 4) : WX n ≤ 600000 := by
  rcases (show n = 0 ∨ n = 1 ∨ n = 2 ∨ n = 3 ∨ n = 4 by omega) with rfl | rfl | rfl | rfl | rfl <;> decide
theorem ShX.show {n : Nat} (hn : n ≤ 4) {d : D} (h : ShX n d) : ∃ z, showX d = some z ∧ z.length ≤ WX n := by
  obtain ⟨p, h1, h2, h3, h4⟩ := h
  have := wx_le hn
  refine ⟨p.shown, ?_, h4⟩
  unfold showX
  rw [h1]
  have d1 : p.depth ≤ 60 := by omega
  have d2 : p.shown.length ≤ sizeLine := by rw [sizeLine_eq]; omega
  simp [h2, d1, d2]
def noInsX : D → Bool
  | .ins _ _ _ => false
  | _ => true
theorem Vx.noInsX {n : Nat} {d : D} (h : Vx n d) : noInsX d = true := by cases h <;> rfl
theorem meOf_no {d : D} (h : noInsX d = true) : ∀ t : RepT, meOf t d = none
  | [] => rfl
  | (c, m) :: t => by
    have : isInO c d = false := by cases d <;> first | rfl | cases h
    simp only [meOf, this]
    exact meOf_no h t
theorem fReprA_str {d z : D} (h : fReprA [d] = some z) : ∃ s, z = .str s := by
  cases d <;> (simp only [fReprA, fRepr, Option.map_eq_some_iff] at h; obtain ⟨s, _, rfl⟩ := h; exact ⟨s, rfl⟩)
theorem repr_el_all {t : RepT} {n : Nat} (hn : n ≤ 4) (π : Pot) : ∀ {xs : List D}, (∀ x ∈ xs, Vx n x) → ∃ zs, reprAll t xs π = .ok (zs, π) ∧ piled zs ≤ (WX n + 2) * xs.length
  | [], _ => ⟨[], rfl, Nat.zero_le _⟩
  | x :: xs, h => by
    obtain ⟨z, e, hz⟩ := (h x (by simp)).sh.show hn
    obtain ⟨zs, e2, hz2⟩ := repr_el_all (t := t) hn π (xs := xs) fun y hy => h y (by simp [hy])
    refine ⟨z :: zs, ?_, ?_⟩
    · have e3 : reprEl t x π = .ok (z, π) := by
        unfold reprEl
        rw [meOf_no (h x (by simp)).noInsX]
        simp only [e]
      simp only [reprAll, e3, Res.bind_ok, e2]
    · rw [piled_cons, List.length_cons, Nat.mul_add]
      omega
/-- repr of such a value -/
theorem Vx.rpr {n : Nat} (hn : n ≤ 4) {d : D} (h : Vx n d) {t : RepT} (hp : PMs t) : ∃ z, ∀ π, rprA t d π = .ok (.str z, π) := by
  have main : ∃ z, rprA t d (0, 0) = .ok (.str z, (0, 0)) := by
    have m0 := meOf_no h.noInsX t
    unfold rprA
    rw [m0]
    simp only
    cases e : fReprA [d] with
    | some z =>
      obtain ⟨s, rfl⟩ := fReprA_str e
      exact ⟨s, rfl⟩
    | none =>
      have no : ∀ {d : D}, shOk d = true → fReprA [d] = (showD d).map D.str → fReprA [d] = none → False := fun {d} h1 h2 h3 => by
        obtain ⟨z, hz⟩ := showD_ok h1
        rw [h2, hz] at h3
        cases h3
      cases h with
      | non => exact (no rfl rfl e).elim
      | bl b => exact (no (by cases b <;> rfl) rfl e).elim
      | int i hi =>
        refine (no ?_ rfl e).elim
        have hl : i.natAbs.log2 ≤ 105 := by
          by_cases h0 : i.natAbs = 0
          · rw [h0]; decide
          · have := (Nat.log2_lt (k := 105) h0).mpr (Nat.lt_of_le_of_lt hi (by decide))
            omega
        show (decide (i.natAbs.log2 < 1920) && decide (0 ≤ 60) && decide (i.natAbs.log2 + 2 ≤ 16777216)) = true
        have a1 : i.natAbs.log2 < 1920 := by omega
        have a2 : i.natAbs.log2 + 2 ≤ 16777216 := by omega
        simp [a1, a2]
      | str x hx =>
        refine (no ?_ rfl e).elim
        show (true && decide (0 ≤ 60) && decide ((reprText x).length ≤ 16777216)) = true
        have a2 : (reprText x).length ≤ 16777216 := by omega
        simp [a2]
      | emp => exact absurd e (by rw [show fReprA [.dic [] []] = some _ from rfl]; simp)
      | @lst m xs hl r =>
        cases xs with
        | nil => exact (no rfl rfl e).elim
        | cons x xs =>
          obtain ⟨zs, e2, hz⟩ := repr_el_all (t := t) (n := m) (by omega) (0, 0) r
          have := wx_le (n := m) (by omega)
          have h3 : (WX m + 2) * (x :: xs).length ≤ (WX m + 2) * 8 := Nat.mul_le_mul_left _ hl
          have h4 := list_text zs
          have h5 : (listText zs).length ≤ sizeLine := by rw [sizeLine_eq]; omega
          exact ⟨listText zs, by simp only [e2, Res.bind_ok, h5, if_true]⟩
      | @tup m xs hl r =>
        obtain ⟨z, e2, _⟩ := (Vx.tup hl r).sh.show hn
        exact ⟨z, by simp only [e2]⟩
  obtain ⟨z, e⟩ := main
  refine ⟨z, fun π => ?_⟩
  have := pa_rprA hp d (0, 0) π
  rw [e] at this
  exact this
end DL
set_option maxHeartbeats 4000000
namespace LW
open PySem PySem.Spec PyProof.Rows L2 DL RK
def canT (d : Nat) (c : Tr → Int) : List Tm := ((trs d).filter fun m => c m != 0).map fun m => (m, c m)
theorem canT_keys (d : Nat) (c : Tr → Int) : (canT d c).map (·.1) = (trs d).filter fun m => c m != 0 := by
  unfold canT
  rw [List.map_map]
  exact List.map_id' _
theorem canT_trm (d : Nat) (c : Tr → Int) : Trm d (canT d c) :=
  ⟨by rw [canT_keys]; exact (trs_nodup d).sublist List.filter_sublist, fun x hx => by
    obtain ⟨m, hm, rfl⟩ := List.mem_map.mp hx
    exact mem_trs.mp (List.mem_filter.mp hm).1⟩
theorem canT_nz {d : Nat} {c : Tr → Int} : ∀ x ∈ canT d c, x.2 ≠ 0 := fun x hx => by
  obtain ⟨m, hm, rfl⟩ := List.mem_map.mp hx
  simpa using (List.mem_filter.mp hm).2
theorem canT_cf {d : Nat} {c : Tr → Int} {m : Tr} (h : m ∈ trs d) : cfT (canT d c) m = c m := by
  by_cases h0 : c m = 0
  · rw [cfT_out, h0]
    rw [canT_keys]
    intro hm
    have := (List.mem_filter.mp hm).2
    simp [h0] at this
  · exact cfT_mem (canT_trm d c).nd (List.mem_map.mpr ⟨m, List.mem_filter.mpr ⟨h, by simpa using h0⟩, rfl⟩ : (m, c m) ∈ canT d c)
theorem canT_congr {d : Nat} {c c' : Tr → Int} (h : ∀ m ∈ trs d, c m = c' m) : canT d c = canT d c' := by
  unfold canT
  rw [List.filter_congr fun m hm => by rw [h m hm]]
  exact List.map_congr_left fun m hm => by rw [h m (List.mem_filter.mp hm).1]
theorem canT_self (d : Nat) (c : Tr → Int) : canT d (cfT (canT d c)) = canT d c := canT_congr fun m hm => canT_cf hm
theorem nodup_of_keys {T : List Tm} (h : (T.map (·.1)).Nodup) : T.Nodup := by
  induction T with
  | nil => exact List.nodup_nil
  | cons x T ih =>
    rw [List.map_cons, List.nodup_cons] at h
    exact List.nodup_cons.mpr ⟨fun hm => h.1 (List.mem_map.mpr ⟨x, hm, rfl⟩), ih h.2⟩
theorem canT_perm {d : Nat} {T : List Tm} (h : Trm d T) : (canT d (cfT T)).Perm (T.filter fun x => x.2 != 0) := by
  refine (List.perm_ext_iff_of_nodup (nodup_of_keys (canT_trm d _).nd) ((nodup_of_keys h.nd).sublist List.filter_sublist)).mpr fun x => ?_
  constructor
  · intro hx
    obtain ⟨m, hm, rfl⟩ := List.mem_map.mp hx
    obtain ⟨h1, h2⟩ := List.mem_filter.mp hm
    have h3 : m ∈ T.map (·.1) := Classical.byContradiction fun hc => by
      rw [cfT_out hc] at h2
      simp at h2
    obtain ⟨y, hy, rfl⟩ := List.mem_map.mp h3
    rw [cfT_mem h.nd hy] at h2 ⊢
    exact List.mem_filter.mpr ⟨hy, h2⟩
  · intro hx
    obtain ⟨h1, h2⟩ := List.mem_filter.mp hx
    have h3 := cfT_mem h.nd h1
    refine List.mem_map.mpr ⟨x.1, List.mem_filter.mpr ⟨mem_trs.mpr (h.dg x h1), by rw [h3]; exact h2⟩, by rw [h3]⟩
theorem canT_ev {d : Nat} {T : List Tm} (h : Trm d T) (p : Pt) : evT (canT d (cfT T)) p = evT T p := by rw [evT_perm (canT_perm h), evT_filter]
theorem canT_bd {d B : Nat} {T : List Tm} (h : Trm d T) (hb : TBd B T) : TBd B (canT d (cfT T)) := fun x hx => hb x (List.mem_filter.mp ((canT_perm h).mem_iff.mp hx)).1
/-- what has the same worth everywhere has the same terms -/
theorem can_ext {d : Nat} (hd : d ≤ 6) {c c' : Tr → Int} (h : ∀ p, evT (canT d c) p = evT (canT d c') p) : canT d c = canT d c' := by
  have t1 := canT_trm d c
  have t2 := canT_trm d c'
  have z := zero_all hd (u := RK.ad (vz (rwT d (canT d c))) (RK.sm (-1) (vz (rwT d (canT d c'))))) (fun p => by
    rw [phi_ad, phi_sm, ← ev_rw t1 p, ← ev_rw t2 p, h p]
    omega)
  refine canT_congr fun m hm => ?_
  obtain ⟨j, hj, e⟩ := List.mem_iff_getElem.mp hm
  have zj : vz (rwT d (canT d c)) j + (-1) * vz (rwT d (canT d c')) j = 0 := z j hj
  have r : ∀ c : Tr → Int, vz (rwT d (canT d c)) j = c m := fun c => by
    unfold rwT vz
    rw [List.getD_eq_getElem?_getD, List.getElem?_map, List.getElem?_eq_getElem hj, e]
    exact canT_cf hm
  rw [r, r] at zj
  omega
theorem trs_fall : ((List.range 13).all fun d => decide (((trs d).map fun m => keyZ (kyT m)).Pairwise fun x y => TS.code 1024 y ≤ TS.code 1024 x)) = true := by decide +kernel
def keysIn (d : Nat) (T : List Tm) : List Tr := (trs d).filter fun m => decide (m ∈ T.map (·.1))
theorem sorted_keys {d : Nat} (hd : d ≤ 12) {T : List Tm} (h : Trm d T) : sortT ((T.map fun x => kyT x.1).map keyZ) = (keysIn d T).reverse.map fun m => keyZ (kyT m) := by
  have hp : ((T.map (·.1)).map fun m => keyZ (kyT m)).Perm ((keysIn d T).reverse.map fun m => keyZ (kyT m)) := by
    refine List.Perm.map _ (((List.perm_ext_iff_of_nodup h.nd ((trs_nodup d).sublist List.filter_sublist)).mpr fun m => ?_).trans (List.reverse_perm _).symm)
    rw [List.mem_filter, decide_eq_true_eq]
    refine ⟨fun hm => ⟨?_, hm⟩, fun hm => hm.2⟩
    obtain ⟨x, hx, rfl⟩ := List.mem_map.mp hm
    exact mem_trs.mpr (h.dg x hx)
  have e : (T.map fun x => kyT x.1).map keyZ = (T.map (·.1)).map fun m => keyZ (kyT m) := by simp
  rw [e]
  refine sorted_T (d := 3) ((sortT_perm _).trans hp) (sortT_sorted _) ?_ fun x hx => ?_
  · rw [List.map_reverse, List.pairwise_reverse]
    have hf := of_decide_eq_true (List.all_eq_true.mp trs_fall d (List.mem_range.mpr (by omega)))
    exact hf.sublist (List.filter_sublist.map _)
  · obtain ⟨m, hm, rfl⟩ := List.mem_map.mp hx
    have hm2 := mem_trs.mp (List.mem_filter.mp (List.mem_reverse.mp hm)).1
    have h2 : keyZ (kyT m) = [(m.1 : Int), (m.2.1 : Int), (m.2.2 : Int)] := rfl
    rw [h2]
    unfold fitT
    rw [Bool.and_eq_true, decide_eq_true_eq, List.all_eq_true]
    exact ⟨rfl, fun n hn => by
      simp only [List.mem_cons, List.not_mem_nil, or_false] at hn
      have h3 : 0 ≤ n ∧ n < 1024 := by omega
      simp [h3.1, h3.2]⟩
theorem fit_tm {d : Nat} (hd : d ≤ 12) {T : List Tm} (h : Trm d T) : (T.map fun x => kyT x.1).all (fitD 3) = true := by
  rw [List.all_map, List.all_eq_true]
  intro x hx
  have := h.dg x hx
  show (kInts (kyT x.1) && fitT 3 (intsK (kyL x.1))) = true
  have h1 : kInts (kyT x.1) = true := rfl
  have h2 : intsK (kyL x.1) = [(x.1.1 : Int), (x.1.2.1 : Int), (x.1.2.2 : Int)] := rfl
  rw [h1, h2, Bool.true_and]
  have hb : ∀ n ∈ [(x.1.1 : Int), (x.1.2.1 : Int), (x.1.2.2 : Int)], 0 ≤ n ∧ n < 1024 := fun n hn => by
    simp only [List.mem_cons, List.not_mem_nil, or_false] at hn
    omega
  unfold fitT
  rw [Bool.and_eq_true, decide_eq_true_eq, List.all_eq_true]
  exact ⟨rfl, fun n hn => by
    obtain ⟨h3, h4⟩ := hb n hn
    simp [h3, h4]⟩
theorem sortD_can {d : Nat} (hd : d ≤ 12) {T : List Tm} (h : Trm d T) : fSortD 3 (tmD T) = some (.lst ((keysIn d T).map trD)) := by
  unfold fSortD tmD
  dsimp only
  rw [if_pos ⟨isTd_tm T, fit_tm hd h⟩, sorted_keys hd h, ← List.map_reverse, List.reverse_reverse, List.map_map]
  rfl
theorem sortL_can {d : Nat} (hd : d ≤ 12) {T : List Tm} (h : Trm d T) : fSortL 3 [tmD T] = some (.lst ((keysIn d T).reverse.map trD)) := by
  unfold fSortL fSortDA tmD
  dsimp only
  rw [if_pos ⟨isTd_tm T, fit_tm hd h⟩, sorted_keys hd h, List.map_map]
  rfl
theorem keysIn_mem {d : Nat} {T : List Tm} {m : Tr} (h : m ∈ keysIn d T) : m ∈ T.map (·.1) := of_decide_eq_true (List.mem_filter.mp h).2
theorem keysIn_can (d : Nat) (T : List Tm) : ((keysIn d T).filter fun m => cfT T m != 0).map (fun m => (m, cfT T m)) = canT d (cfT T) := by
  unfold keysIn canT
  rw [List.filter_filter]
  congr 1
  refine List.filter_congr fun m _ => ?_
  by_cases h : m ∈ T.map (·.1)
  · simp [h]
  · rw [cfT_out h]; simp
theorem keysIn_len {d : Nat} {T : List Tm} (h : Trm d T) : (keysIn d T).length ≤ T.length := by
  have := sub_len (l := keysIn d T) (m := T.map (·.1)) ((trs_nodup d).sublist List.filter_sublist) fun m hm => keysIn_mem hm
  rwa [List.length_map] at this
/-- falling, exactly -/
theorem falling_can {d : Nat} (hd : d ≤ 12) {T : List Tm} (h : Trm d T) (hl : T.length < 100000) (π : Pot) : m_p_falling [tmD T] π = .ok (tmD (canT d (cfT T)), π) := by
  have hs := sortD_can hd h
  have dc : dcGo (gN 1) f_p_falling_t1 f_p_falling_e1 f_p_falling_e2 (wipeD [some (tmD T), none] [1]) ((keysIn d T).map trD) ([] : List DKey) ([] : List D) π =
      .ok (((canT d (cfT T)).map fun x => kyT x.1, (canT d (cfT T)).map fun x => D.int x.2), π) := by
    have := dcGo_new (T := []) (fg := gN 1) (ft := f_p_falling_t1) (fk := f_p_falling_e1) (fv := f_p_falling_e2) (ρ := wipeD [some (tmD T), none] [1]) (π := π) (enc := trD) (xs := keysIn d T) (p := fun m => cfT T m != 0) (key := fun m => m) (val := fun m => cfT T m)
      (ρ1 := fun m => [some (tmD T), some (trD m)]) (fun x hx => by simp) (fun x hx => by
        have ix := ixT_cf h.nd (keysIn_mem hx)
        generalize tmD T = A at *
        generalize trD x = B at *
        simp -implicitDefEqProofs [f_p_falling_t1_ap, ix]
        by_cases e : cfT T x = 0 <;> simp [e]) (fun x hx _ => by simp -implicitDefEqProofs [f_p_falling_e1_ap]) (fun x hx _ => by
        have ix := ixT_cf h.nd (keysIn_mem hx)
        generalize tmD T = A at *
        generalize trD x = B at *
        simp -implicitDefEqProofs [f_p_falling_e2_ap, ix]) (by
        have hn : (keysIn d T).Nodup := (trs_nodup d).sublist List.filter_sublist
        simpa using hn)
    rw [List.nil_append, keysIn_can] at this
    exact this
  have hl2 : ((keysIn d T).map trD).length < 16777216 := by
    have := keysIn_len h
    rw [List.length_map]
    omega
  have hR : tmD (canT d (cfT T)) = .dic ((canT d (cfT T)).map fun x => kyT x.1) ((canT d (cfT T)).map fun x => D.int x.2) := rfl
  rw [hR]
  generalize ((canT d (cfT T)).map fun x => kyT x.1) = C at *
  generalize ((canT d (cfT T)).map fun x => D.int x.2) = E at *
  generalize (keysIn d T).map trD = B at *
  generalize tmD T = A at *
  simp only [wipeD_cons, wipeD_nil, List.set_cons_succ, List.set_cons_zero] at dc
  unfold m_p_falling f_p_falling
  simp -implicitDefEqProofs [eDC, eSortD, hs, hl2, dc]
/-- the Form of right terms, exactly -/
theorem form_by_can {d : Nat} (hd : d ≤ 12) {T : List Tm} (h : Trm d T) (hl : T.length < 100000) (π : Pot) : m_p_form_by [.int (d : Int), tmD T] π = .ok (fmD d (canT d (cfT T)), π) := by
  have e1 := falling_can hd h hl π
  have e2 := told_forms_eq d (canT d (cfT T)) π
  have e3 := form_told d (canT d (cfT T)) π
  generalize fmD d (canT d (cfT T)) = Y at *
  generalize tfD d (canT d (cfT T)) = X at *
  generalize tmD (canT d (cfT T)) = B at *
  generalize tmD T = A at *
  unfold m_p_form_by f_p_form_by
  simp -implicitDefEqProofs [e1, e2, e3]
end LW
set_option maxHeartbeats 4000000
namespace LW
open PySem PySem.Spec PyProof.Rows L2 DL RK
theorem asPr_tm : ∀ L : List Tm, asPr (L.map fun x => .tup [trD x.1, .int x.2]) = some (L.map fun x => (kyL x.1, D.int x.2))
  | [] => rfl
  | x :: L => by simp only [List.map_cons, asPr, tkey_tr, Option.bind_some, asPr_tm L, Option.map_some]
theorem mergeQ_tm : ∀ (L T : List Tm), ((T ++ L).map (·.1)).Nodup → mergeQ (T.map fun x => kyT x.1) (T.map fun x => .int x.2) (L.map fun x => (kyL x.1, D.int x.2)) = ((T ++ L).map fun x => kyT x.1, (T ++ L).map fun x => D.int x.2)
  | [], T, _ => by simp [mergeQ]
  | x :: L, T, h => by
    have hx : x.1 ∉ T.map (·.1) := fun hm => by
      rw [List.map_append, List.nodup_append] at h
      exact h.2.2 _ hm x.1 (by simp) rfl
    have e := putT_new (v := x.2) hx
    rw [List.map_cons, mergeQ]
    dsimp only
    rw [e, mergeQ_tm L (T ++ [(x.1, x.2)]) (by simpa using h)]
    simp
theorem fDictP_tm {L : List Tm} (h : (L.map (·.1)).Nodup) : fDictP [.lst (L.map fun x => .tup [trD x.1, .int x.2])] = some (tmD L) := by
  unfold fDictP
  have := mergeQ_tm L [] (by simpa using h)
  rw [List.map_nil, List.map_nil, List.nil_append] at this
  simp only [asPr_tm, Option.map_some, this]
  rfl
theorem clean_can {d : Nat} (hd : d ≤ 12) {T : List Tm} (h : Trm d T) (hl : T.length < 100000) (π : Pot) : m_l_clean [tmD T] π = .ok (tmD (canT d (cfT T)), π) := by
  have hs := sortL_can hd h
  have hr : fRev (.lst ((keysIn d T).reverse.map trD)) = some (.lst ((keysIn d T).map trD)) := by
    show some (D.lst _) = _
    rw [← List.map_reverse, List.reverse_reverse]
  have lc : lcGo (gN 1) f_l_clean_t1 f_l_clean_e1 [some (tmD T), none] ((keysIn d T).map trD) π = .ok ((canT d (cfT T)).map fun x => .tup [trD x.1, .int x.2], π) := by
    rw [← keysIn_can, List.map_map]
    exact lcGo_filter (enc := trD) (xs := keysIn d T) (ρ1 := fun m => [some (tmD T), some (trD m)]) (p := fun m => cfT T m != 0) (g := fun m => .tup [trD m, .int (cfT T m)]) (fun x hx => by simp) (fun x hx => by
        have ix := ixT_cf h.nd (keysIn_mem hx)
        generalize tmD T = A at *
        generalize trD x = B at *
        simp -implicitDefEqProofs [f_l_clean_t1_ap, ix]
        by_cases e : cfT T x = 0 <;> simp [e]) (fun x hx _ => by
        have ix := ixT_cf h.nd (keysIn_mem hx)
        generalize tmD T = A at *
        generalize trD x = B at *
        simp -implicitDefEqProofs [f_l_clean_e1_ap, ix])
  have hl2 : ((keysIn d T).map trD).length < 16777216 := by
    have := keysIn_len h
    rw [List.length_map]
    omega
  have dp := fDictP_tm (canT_trm d (cfT T)).nd
  generalize tmD (canT d (cfT T)) = C at *
  generalize ((canT d (cfT T)).map fun x => D.tup [trD x.1, .int x.2]) = E at *
  generalize (keysIn d T).map trD = B at *
  generalize (keysIn d T).reverse.map trD = B2 at *
  generalize tmD T = A at *
  unfold m_l_clean f_l_clean
  simp -implicitDefEqProofs [hs, hr, hl2, lc, dp]
structure Cn (d B : Nat) (f : Pt → Int) (T : List Tm) : Prop where
  can : canT d (cfT T) = T
  bd : TBd B T
  ev : ∀ p, evT T p = f p
theorem Cn.trm {d B : Nat} {f : Pt → Int} {T : List Tm} (h : Cn d B f T) : Trm d T := by
  rw [← h.can]
  exact canT_trm d _
theorem Cn.nz {d B : Nat} {f : Pt → Int} {T : List Tm} (h : Cn d B f T) : ∀ x ∈ T, x.2 ≠ 0 := by
  rw [← h.can]
  exact canT_nz
theorem Cn.len {d B : Nat} {f : Pt → Int} {T : List Tm} (hd : d ≤ 9) (h : Cn d B f T) : T.length ≤ 55 := trm_len hd h.trm
theorem Cn.of {d B : Nat} {f : Pt → Int} {T : List Tm} (h : Trm d T) (hb : TBd B T) (hv : ∀ p, evT T p = f p) : Cn d B f (canT d (cfT T)) := ⟨canT_self _ _, canT_bd h hb, fun p => by rw [canT_ev h, hv]⟩
theorem Cn.eq {d B B' : Nat} {f g : Pt → Int} {T S : List Tm} (hd : d ≤ 6) (h : Cn d B f T) (h' : Cn d B' g S) (e : ∀ p, f p = g p) : T = S := by
  rw [← h.can, ← h'.can]
  exact can_ext hd fun p => by rw [h.can, h'.can, h.ev, h'.ev, e]
theorem Cn.mono {d B B' : Nat} {f g : Pt → Int} {T : List Tm} (h : Cn d B f T) (hB : B ≤ B') (e : ∀ p, f p = g p) : Cn d B' g T := ⟨h.can, fun x hx => Nat.le_trans (h.bd x hx) (Nat.pow_le_pow_right (by decide) hB), fun p => (h.ev p).trans (e p)⟩
theorem Cn.nil (d B : Nat) : Cn d B (fun _ => 0) [] := by
  refine ⟨?_, fun x hx => by simp at hx, fun p => rfl⟩
  unfold canT
  rw [List.filter_eq_nil_iff.mpr (fun m _ => by rw [cfT_out (by simp)]; simp)]
  rfl
/-- products -/
theorem mulS_cn {d e a b : Nat} (hde : d + e ≤ 9) {f g : Pt → Int} {S R : List Tm} (hS : Cn d a f S) (hR : Cn e b g R) :
    Trm (d + e) (mulS S R []) ∧ Cn (d + e) (a + b + 14) (fun p => f p * g p) (canT (d + e) (cfT (mulS S R []))) ∧ (mulS S R []).length ≤ 3025 := by
  have hSl := hS.len (by omega)
  have hRl := hR.len (by omega)
  have hll : S.length * R.length ≤ 55 * 55 := Nat.mul_le_mul hSl hRl
  have ok := mulS_ok (d := d) (e := e) (W := 2 ^ (a + b)) (S := S) (R := R) (T := []) (n := 0) (B := 0) (f := fun _ => 0) hS.trm.dg hR.trm.dg (fun x hx y hy => by
    rw [Nat.pow_add]; exact natAbs_mul_le (hS.bd x hx) (hR.bd y hy)) ⟨⟨by simp, by simp⟩, by simp, fun x hx => by simp at hx, fun p => by simp [evT]⟩
  have hml := ok.len
  rw [Nat.zero_add] at hml
  refine ⟨ok.trm, Cn.of ok.trm (fun x hx => ?_) fun p => ?_, by omega⟩
  · have h1 := ok.bd x hx
    have h2 : 0 + S.length * R.length * 2 ^ (a + b) ≤ 2 ^ (a + b + 14) := by
      rw [Nat.zero_add, Nat.pow_add 2 (a + b) 14, Nat.mul_comm (2 ^ (a + b)) (2 ^ 14)]
      exact Nat.mul_le_mul_right _ (Nat.le_trans hll (by decide))
    omega
  · rw [ok.ev, hS.ev, hR.ev]
    simp
/-- sums -/
theorem two_add_le {c k : Nat} : 2 ^ c + 55 * (3 * 2 ^ c) ≤ 2 ^ (c + (8 + k)) := by
  have h1 : 2 ^ (c + (8 + k)) = 2 ^ c * 2 ^ (8 + k) := Nat.pow_add ..
  have h2 : 256 ≤ 2 ^ (8 + k) := by
    have := Nat.pow_le_pow_right (n := 2) (by decide) (show 8 ≤ 8 + k by omega)
    simpa using this
  have h3 : 2 ^ c * 256 ≤ 2 ^ c * 2 ^ (8 + k) := Nat.mul_le_mul_left _ h2
  omega
theorem Cn.fok {d c : Nat} {f : Pt → Int} {T : List Tm} (h : Cn d c f T) : FOk d (2 ^ c) f T := ⟨h.trm, h.bd, h.ev⟩
theorem plusL_cn {d c : Nat} (hd : d ≤ 9) {f g : Pt → Int} {T S : List Tm} (hT : Cn d c f T) (hS : Cn d c g S) {n : Int} (hn : n.natAbs ≤ 3) :
    Trm d (plusL T S n) ∧ Cn d (c + 12) (fun p => f p + n * g p) (canT d (cfT (plusL T S n))) ∧ (plusL T S n).length ≤ 55 := by
  have ok := plus_ok (n := n) (N := 3) hd hT.fok hS.fok hn
  exact ⟨ok.trm, Cn.of ok.trm (fun x hx => Nat.le_trans (ok.bd x hx) (two_add_le (c := c) (k := 4))) ok.ev, trm_len hd ok.trm⟩
end LW
set_option maxHeartbeats 4000000
namespace LW
open PySem PySem.Spec PyProof.Rows L2 DL RK
theorem fm_new {d B : Nat} (hd : d ≤ 9) {f : Pt → Int} {T : List Tm} (hT : Cn d B f T) (π : Pot) : m_i_Form [.int (d : Int), tmD T] π = .ok (fmD d T, π) := by
  have e1 := falling_can (by omega) hT.trm (by have := hT.len hd; omega) π
  rw [hT.can] at e1
  have e2 := told_forms_eq d T π
  have e3 := are_terms_eq hT.trm hT.nz π
  have e4 : m_p_want_degree [.int (d : Int), .int 12, .int 0] π = .ok (.non, π) := by
    have h0 : (0 : Int) ≤ (d : Int) := by omega
    have h12 : ¬ (12 : Int) < (d : Int) := by omega
    have hd0 : ¬ (d : Int) < 0 := by omega
    unfold m_p_want_degree f_p_want_degree m_p_is_count f_p_is_count m_p_is_integer f_p_is_integer
    simp -implicitDefEqProofs [h0, h12, hd0]
    try omega
  have i1 : fIsC "Told" clsL (.int (d : Int)) = some (.bl false) := by rfl
  simp only [clsL] at i1
  have h1 : fldD "Told" "told_degree" (tfD d T) = some (.int (d : Int)) := by rfl
  have h2 : fldD "Told" "told_terms" (tfD d T) = some (tmD T) := by rfl
  have et : m_p_told_form [.int (d : Int), tmD T] π = .ok (tfD d T, π) := by
    generalize tfD d T = X at *
    generalize tmD T = A at *
    unfold m_p_told_form f_p_told_form
    simp -implicitDefEqProofs [i1, eGoD, e4, e3, e1, e2]
  simp only [fmD]
  generalize tfD d T = X at *
  generalize tmD T = A at *
  have hs : ¬ (("own_degree" : Str) = "own_terms") := by decide
  unfold m_i_Form DL.runI f_i_Form
  simp -implicitDefEqProofs [iFld, iCk, iNil, iSet, putN, et, h1, h2, hs]
theorem want_formF (d : Nat) (T : List Tm) (π : Pot) : m_p_want_form [fmD d T] π = .ok (.non, π) := by
  have h : fIsC "Form" clsL (fmD d T) = some (.bl true) := by rfl
  simp only [clsL] at h
  generalize fmD d T = F at *
  unfold m_p_want_form f_p_want_form
  simp -implicitDefEqProofs [h]
theorem fm_mul {d e a b : Nat} (hde : d + e ≤ 9) {f g : Pt → Int} {S R : List Tm} (hS : Cn d a f S) (hR : Cn e b g R) (hab : a + b < 400000) (π : Pot) :
    ∃ U, m_c_Form___mul__ [fmD d S, fmD e R] π = .ok (fmD (d + e) U, π) ∧ Cn (d + e) (a + b + 14) (fun p => f p * g p) U := by
  obtain ⟨t, c, l⟩ := mulS_cn hde hS hR
  refine ⟨_, ?_, c⟩
  have hSl := hS.len (by omega)
  have hRl := hR.len (by omega)
  have hll : S.length * R.length ≤ 55 * 55 := Nat.mul_le_mul hSl hRl
  have e1 := times_terms_eq hS.trm.nd hR.trm.nd (fun x hx y hy => opMul_bd (hS.bd x hx) (hR.bd y hy) (by omega)) (by omega) π
  have e2 := form_by_can (by omega) t (by omega) π
  have tm := fm_terms d S
  have dg := fm_degree d S
  have tm1 := fm_terms e R
  have dg1 := fm_degree e R
  have wf := want_formF e R π
  have wm : m_p_want_at_most [.str "degree", .int 12, .int ((d : Int) + (e : Int))] π = .ok (.non, π) := by
    have : ¬ (12 : Int) < (d : Int) + (e : Int) := by omega
    unfold m_p_want_at_most f_p_want_at_most
    simp -implicitDefEqProofs [this]
  have c1 : ((d + e : Nat) : Int) = (d : Int) + (e : Int) := by omega
  rw [c1] at e2
  generalize fmD (d + e) (canT (d + e) (cfT (mulS S R []))) = Z at *
  generalize fmD d S = A at *
  generalize fmD e R = X at *
  generalize tmD (mulS S R []) = C at *
  generalize tmD S = B at *
  generalize tmD R = Y at *
  generalize (d : Int) = d' at *
  generalize (e : Int) = e' at *
  unfold m_c_Form___mul__ f_c_Form___mul__
  simp -implicitDefEqProofs [wf, wm, tm, dg, tm1, dg1, e1, e2]
theorem fm_add {d c : Nat} (hd : d ≤ 9) {f g : Pt → Int} {T U : List Tm} (hT : Cn d c f T) (hU : Cn d c g U) (hc : c ≤ 100000) (π : Pot) :
    ∃ S, m_c_Form___add__ [fmD d T, fmD d U] π = .ok (fmD d S, π) ∧ Cn d (c + 12) (fun p => f p + 1 * g p) S := by
  obtain ⟨t, cc, l⟩ := plusL_cn hd hT hU (n := 1) (by decide)
  refine ⟨_, ?_, cc⟩
  have e1 := plus_terms_eq (n := 1) (a := 0) (by omega) hT.trm hU.trm (by decide) hU.bd (by omega) (by have := hT.len hd; omega) (by have := hU.len hd; omega) π
  have e2 := form_by_can (by omega) t (by omega) π
  have tm := fm_terms d T
  have dg := fm_degree d T
  have tm2 := fm_terms d U
  have dg2 := fm_degree d U
  have wf := want_formF d U π
  have n0 : opNe (.int (d : Int)) (.int (d : Int)) = some (.bl false) := by simp [opNe, eqD]
  have wl : m_p_want_like [fmD d T, fmD d U] π = .ok (.non, π) := by
    generalize fmD d T = A at *
    generalize fmD d U = B at *
    unfold m_p_want_like f_p_want_like
    simp -implicitDefEqProofs [wf, dg, dg2, n0]
  generalize fmD d (canT d (cfT (plusL T U 1))) = Z at *
  generalize tmD (plusL T U 1) = C at *
  generalize fmD d T = A at *
  generalize tmD T = B at *
  generalize fmD d U = A2 at *
  generalize tmD U = B2 at *
  unfold m_c_Form___add__ f_c_Form___add__
  simp -implicitDefEqProofs [wl, tm, dg, tm2, e1, e2]
theorem fm_times {d c : Nat} (hd : d ≤ 9) {f : Pt → Int} {T : List Tm} (hT : Cn d c f T) {k : Int} (hk : k.natAbs ≤ 3) (hc : c ≤ 100000) (π : Pot) :
    ∃ S, m_c_Form_times [fmD d T, .int k] π = .ok (fmD d S, π) ∧ Cn d (c + 12) (fun p => 0 + k * f p) S := by
  obtain ⟨t, cc, l⟩ := plusL_cn hd (Cn.nil d c) hT (n := k) hk
  refine ⟨_, ?_, cc⟩
  have t0 : Trm d [] := ⟨by simp, by simp⟩
  have e1 := plus_terms_eq (n := k) (a := 2) (by omega) t0 hT.trm (by omega) hT.bd (by omega) (by simp) (by have := hT.len hd; omega) π
  have e2 := form_by_can (by omega) t (by omega) π
  have tm := fm_terms d T
  have dg := fm_degree d T
  have wn : m_p_want_number [.int k] π = .ok (.non, π) := by
    unfold m_p_want_number f_p_want_number m_p_is_integer f_p_is_integer
    simp -implicitDefEqProofs
  have h0 : tmD [] = .dic [] [] := rfl
  rw [h0] at e1
  generalize fmD d (canT d (cfT (plusL [] T k))) = Z at *
  generalize tmD (plusL [] T k) = C at *
  generalize fmD d T = A at *
  generalize tmD T = B at *
  unfold m_c_Form_times f_c_Form_times
  simp -implicitDefEqProofs [wn, tm, dg, e1, e2]
theorem fm_shown (d : Nat) (T : List Tm) (π : Pot) : m_c_Form_terms [fmD d T] π = (fDictC [tmD T]).elim .stuck (fun x => .ok (x, π)) := by
  have tm := fm_terms d T
  generalize fmD d T = F at *
  generalize tmD T = A at *
  unfold m_c_Form_terms f_c_Form_terms
  simp -implicitDefEqProofs [tm]
  cases fDictC [A] <;> simp
end LW
set_option maxHeartbeats 4000000
namespace LW
open PySem PySem.Spec PyProof.Rows L2 DL RK
theorem ltriples_all : ((List.range 5).all fun d => isR (m_l_triples [.int (d : Int)] (0, 0)) (.lst ((trs d).map trD))) = true := by decide +kernel
theorem ltriples_eq {d : Nat} (h : d ≤ 4) (π : Pot) : m_l_triples [.int (d : Int)] π = .ok (.lst ((trs d).map trD), π) :=
  pu_m_l_triples.r (List.all_eq_true.mp ltriples_all d (by simp; omega)) π
theorem add_mem {T : List Tm} {m : Tr} {v : Int} {x : Tm} (h : x ∈ addT T m v) : x ∈ T ∨ x = (m, v) := by
  unfold addT at h
  split at h
  · obtain ⟨y, hy, e⟩ := List.mem_map.mp h
    split at e
    · exact .inr e.symm
    · exact .inl (e ▸ hy)
  · rcases List.mem_append.mp h with h | h
    · exact .inl h
    · exact .inr (by simpa using h)
structure TmB (d : Nat) (T : List Tm) : Prop where
  trm : Trm d T
  bd : ∀ x ∈ T, x.2.natAbs ≤ 9
theorem TmB.add {d : Nat} {T : List Tm} (h : TmB d T) {m : Tr} (hm : m ∈ trs d) {v : Int} (hv : v.natAbs ≤ 9) : TmB d (addT T m v) :=
  ⟨add_trm h.trm (mem_trs.mp hm) v, fun x hx => by
    rcases add_mem hx with h1 | rfl
    · exact h.bd x h1
    · exact hv⟩
theorem terms_turn {d : Nat} {T : List Tm} (hl : T.length < 1000) (m : Tr) (o0 o1 : Option D) (π : Pot) :
    ∃ (v : Int) (π' : Pot), f_l_terms_b1 [o0, o1, some (tmD T), some (trD m)] π = .ok (.nx [o0, o1, some (tmD (addT T m v)), some (trD m)], π') ∧ v.natAbs ≤ 9 := by
  obtain ⟨v, π1, e1, v0, v1⟩ := draw_ex (n := 19) (a := .non) π (by decide) (by decide)
  obtain ⟨dk, π2, e2, hk⟩ := pick_ex (a := .non) (xs := [.int 0, .int 1, .int 1]) π1 (by simp) (by simp)
  have ⟨k, hk1, hk2⟩ : ∃ k : Int, dk = .int k ∧ (k = 0 ∨ k = 1) := by
    simp only [List.mem_cons, List.not_mem_nil, or_false] at hk
    rcases hk with rfl | rfl | rfl
    · exact ⟨_, rfl, .inl rfl⟩
    · exact ⟨_, rfl, .inr rfl⟩
    · exact ⟨_, rfl, .inr rfl⟩
  subst hk1
  have hm : opMulA (.int (v - 9)) (.int k) = some (.int ((v - 9) * k)) := opMulA_l (by omega) (by omega)
  have hv : eBin opMulA (eBin opSub (eGo m_l_draw (aCons (eC .non) (aCons (eC (.int 19)) aNil))) (eC (.int 9))) (eGo m_l_pick (aCons (eC .non) (aCons (eLst (aCons (eC (.int 0)) (aCons (eC (.int 1)) (aCons (eC (.int 1)) aNil)))) aNil))) [o0, o1, some (tmD T), some (trD m)] π = .ok (.int ((v - 9) * k), π2) := by
    simp -implicitDefEqProofs [e1, e2, hm]
  have hp := sPutT_tm (i := 2) (fk := eVar 3) (ρ := [o0, o1, some (tmD T), some (trD m)]) (T := T) (m := m) rfl (by omega) hv (π2 := π2) rfl
  exact ⟨_, π2, hp, by rcases hk2 with rfl | rfl <;> simp <;> omega⟩
theorem terms_loop' {d : Nat} (o0 o1 : Option D) : ∀ (K : List Tr) (T : List Tm) (o3 : Option D) (π : Pot), (∀ m ∈ K, m ∈ trs d) → TmB d T → T.length + K.length < 1000 →
    ∃ (T' : List Tm) (p3 : Option D) (π' : Pot), forGo (gN 3) f_l_terms_b1 (K.map trD) [o0, o1, some (tmD T), o3] π = .ok (.nx [o0, o1, some (tmD T'), p3], π') ∧ TmB d T'
  | [], T, o3, π, _, h, _ => ⟨T, o3, π, rfl, h⟩
  | m :: K, T, o3, π, hm, h, hl => by
    rw [List.length_cons] at hl
    obtain ⟨v, π1, e1, hv⟩ := terms_turn (d := d) (T := T) (by omega) m o0 o1 π
    have hal := add_len T m v
    obtain ⟨T', p3, π', e2, h2⟩ := terms_loop' o0 o1 K (addT T m v) (some (trD m)) π1 (fun y hy => hm y (by simp [hy])) (h.add (hm m (by simp)) hv) (by omega)
    refine ⟨T', p3, π', ?_, h2⟩
    have g0 : gN 3 (trD m) [o0, o1, some (tmD T), o3] = some [o0, o1, some (tmD T), some (trD m)] := by simp
    rw [← e2]
    simp only [List.map_cons, forGo, g0, ofO_some, Res.bind_ok, e1]
theorem terms_ex {d : Nat} (hd : d ≤ 4) (π : Pot) : ∃ (T : List Tm) (π' : Pot), m_l_terms [.non, .int (d : Int)] π = .ok (tmD T, π') ∧ Cn d 4 (evT T) T := by
  have h1 := ltriples_eq hd π
  have hl := trs_len_le (d := d) (by omega)
  obtain ⟨T, p3, π1, e, h⟩ := terms_loop' (d := d) (some .non) (some (.int (d : Int))) (trs d) [] none π (fun m hm => hm) ⟨⟨by simp, by simp⟩, by simp⟩ (by simp; omega)
  have hl2 := trm_len (by omega) h.trm
  have e2 := clean_can (by omega) h.trm (by omega) π1
  refine ⟨canT d (cfT T), π1, ?_, (Cn.of h.trm (fun x hx => Nat.le_trans (h.bd x hx) (by decide)) fun p => rfl).mono (Nat.le_refl _) fun p => (canT_ev h.trm p).symm⟩
  have e0 : tmD [] = .dic [] [] := rfl
  rw [e0] at e
  generalize (trs d).map trD = K at *
  generalize tmD (canT d (cfT T)) = Y at *
  generalize tmD T = B at *
  unfold m_l_terms f_l_terms
  simp -implicitDefEqProofs [sFor, h1, e, e2]
end LW
set_option maxHeartbeats 4000000
namespace LW
open PySem PySem.Spec PyProof.Rows L2 DL RK
theorem eqKV_mem {ys : List (List Key × Int)} : ∀ {xs : List (List Key × Int)}, eqKV ys xs = true → ∀ x ∈ xs, x ∈ ys
  | [], _, x, hx => by simp at hx
  | (k, n) :: r, h, x, hx => by
    unfold eqKV at h
    cases hf : ys.find? (fun y => decide (y.1 = k)) with
    | none => rw [hf] at h; simp at h
    | some y =>
      rw [hf] at h
      simp only [Bool.and_eq_true, decide_eq_true_eq] at h
      rcases List.mem_cons.mp hx with rfl | hx
      · have h1 := List.mem_of_find?_eq_some hf
        have h2 := List.find?_some hf
        rw [decide_eq_true_eq] at h2
        have : y = (k, n) := Prod.ext h2 h.1.symm
        rw [← this]
        exact h1
      · exact eqKV_mem h.2 x hx
theorem eqKV_of {ys : List (List Key × Int)} (hn : (ys.map (·.1)).Nodup) : ∀ {xs : List (List Key × Int)}, (∀ x ∈ xs, x ∈ ys) → eqKV ys xs = true
  | [], _ => rfl
  | (k, n) :: r, h => by
    have hm := h (k, n) (by simp)
    have hf : ys.find? (fun y => decide (y.1 = k)) = some (k, n) := by
      clear h
      induction ys with
      | nil => simp at hm
      | cons y ys ih =>
        rw [List.map_cons, List.nodup_cons] at hn
        rw [List.find?_cons]
        rcases List.mem_cons.mp hm with e | hm
        · rw [← e]; simp
        · have : ¬ y.1 = k := fun e => hn.1 (List.mem_map.mpr ⟨(k, n), hm, e.symm⟩)
          rw [show decide (y.1 = k) = false by simp [this]]
          exact ih hn.2 hm
    unfold eqKV
    rw [hf]
    have ih := eqKV_of hn (xs := r) fun x hx => h x (List.mem_cons_of_mem _ hx)
    simp [ih]
def kvT (T : List Tm) : List (List Key × Int) := T.map fun x => (kyL x.1, x.2)
theorem opEqTG_tm (T S : List Tm) : opEqTG (tmD T) (tmD S) = some (.bl (T.length == S.length && eqKV (kvT S) (kvT T))) := by
  have ai : ∀ T : List Tm, asInts (T.map fun x => D.int x.2) = some (T.map (·.2)) := fun T => by
    have := asInts_iz (T.map (·.2))
    rwa [List.map_map] at this
  have un : ∀ T : List Tm, unT (T.map fun x => kyT x.1) = T.map fun x => kyL x.1 := fun T => by
    have := unT_map (T.map fun x => kyL x.1)
    rwa [List.map_map] at this
  have zz : ∀ T : List Tm, (T.map fun x => kyL x.1).zip (T.map (·.2)) = kvT T := fun T => by
    unfold kvT
    rw [List.zip_map']
  simp [tmD, opEqTG, ai, isTd_tm, un, zz]
theorem kv_nodup {T : List Tm} (h : (T.map (·.1)).Nodup) : ((kvT T).map (·.1)).Nodup := by
  have e : (kvT T).map (·.1) = (T.map (·.1)).map kyL := by
    unfold kvT
    rw [List.map_map, List.map_map]
    rfl
  rw [e]
  exact List.Pairwise.map _ (fun a b hab e => hab (kyL_inj e)) h
theorem can_eqb {d B B' : Nat} {f g : Pt → Int} {T S : List Tm} (hT : Cn d B f T) (hS : Cn d B' g S) : (T.length == S.length && eqKV (kvT S) (kvT T)) = decide (T = S) := by
  by_cases e : T = S
  · subst e
    rw [eqKV_of (kv_nodup hT.trm.nd) fun x hx => hx]
    simp
  · rw [decide_eq_false e, Bool.eq_false_iff]
    intro h
    rw [Bool.and_eq_true, beq_iff_eq] at h
    obtain ⟨hl, hk⟩ := h
    have sub : ∀ x ∈ T, x ∈ S := fun x hx => by
      have := eqKV_mem hk (kyL x.1, x.2) (List.mem_map.mpr ⟨x, hx, rfl⟩)
      obtain ⟨y, hy, e2⟩ := List.mem_map.mp this
      simp only [Prod.mk.injEq] at e2
      have : y = x := Prod.ext (kyL_inj e2.1) e2.2
      rw [← this]
      exact hy
    refine e ?_
    rw [← hT.can, ← hS.can]
    refine canT_congr fun m _ => ?_
    by_cases hm : m ∈ T.map (·.1)
    · obtain ⟨x, hx, rfl⟩ := List.mem_map.mp hm
      rw [cfT_mem hT.trm.nd hx, cfT_mem hS.trm.nd (sub x hx)]
    · have hm2 : m ∉ S.map (·.1) := fun hc => by
        have := sub_len (l := m :: T.map (·.1)) (m := S.map (·.1)) (List.nodup_cons.mpr ⟨hm, hT.trm.nd⟩) fun y hy => by
          rcases List.mem_cons.mp hy with rfl | hy
          · exact hc
          · obtain ⟨x, hx, rfl⟩ := List.mem_map.mp hy
            exact List.mem_map.mpr ⟨x, sub x hx, rfl⟩
        simp only [List.length_cons, List.length_map] at this
        omega
      rw [cfT_out hm, cfT_out hm2]
theorem eq_tm {d B B' : Nat} {f g : Pt → Int} {T S : List Tm} (hT : Cn d B f T) (hS : Cn d B' g S) : opEqTG (tmD T) (tmD S) = some (.bl (decide (T = S))) := by rw [opEqTG_tm, can_eqb hT hS]
theorem eq_same {d B B' : Nat} {f g : Pt → Int} {T S : List Tm} (hT : Cn d B f T) (hS : Cn d B' g S) (π : Pot) : m_c_Form___eq__ [fmD d T, fmD d S] π = .ok (.bl (decide (T = S)), π) := by
  have isF : fIsC "Form" clsL (fmD d S) = some (.bl true) := by rfl
  have tm := fm_terms d T
  have dg := fm_degree d T
  have tm2 := fm_terms d S
  have dg2 := fm_degree d S
  have eq := eq_tm hT hS
  have e0 : opEq (.int (d : Int)) (.int (d : Int)) = some (.bl true) := by simp [opEq, eqD]
  generalize decide (T = S) = b at *
  generalize fmD d T = A at *
  generalize fmD d S = A2 at *
  generalize tmD T = B at *
  generalize tmD S = B2 at *
  unfold m_c_Form___eq__ f_c_Form___eq__
  simp -implicitDefEqProofs [clsL] at isF
  simp -implicitDefEqProofs [isF, dg, tm, dg2, tm2, eq, e0]
theorem eq_apart {d e : Nat} (h : d ≠ e) (T S : List Tm) (π : Pot) : m_c_Form___eq__ [fmD d T, fmD e S] π = .ok (.bl false, π) := by
  have isF : fIsC "Form" clsL (fmD e S) = some (.bl true) := by rfl
  have dg := fm_degree d T
  have dg2 := fm_degree e S
  have e0 : opEq (.int (d : Int)) (.int (e : Int)) = some (.bl false) := by
    have : ¬ (d : Int) = (e : Int) := by omega
    simp [opEq, eqD, this]
  generalize fmD d T = A at *
  generalize fmD e S = A2 at *
  unfold m_c_Form___eq__ f_c_Form___eq__
  simp -implicitDefEqProofs [clsL] at isF
  simp -implicitDefEqProofs [isF, dg, dg2, e0]
theorem eq_data {d : Nat} {T : List Tm} {v : D} (h : (tyName v).isSome = true) (π : Pot) : m_c_Form___eq__ [fmD d T, v] π = .ok (.bl false, π) := by
  obtain ⟨n, hn⟩ := Option.isSome_iff_exists.mp h
  have isF : fIsC "Form" clsL v = some (.bl false) := fIsC_ty hn
  generalize fmD d T = A at *
  unfold m_c_Form___eq__ f_c_Form___eq__
  simp -implicitDefEqProofs [clsL] at isF
  simp -implicitDefEqProofs [isF]
theorem fm_neg {d c : Nat} (hd : d ≤ 9) {f : Pt → Int} {T : List Tm} (hT : Cn d c f T) (hc : c ≤ 100000) (π : Pot) :
    ∃ S, m_c_Form___neg__ [fmD d T] π = .ok (fmD d S, π) ∧ Cn d (c + 12) (fun p => 0 + (-1) * f p) S := by
  obtain ⟨t, cc, l⟩ := plusL_cn hd (Cn.nil d c) hT (n := -1) (by decide)
  refine ⟨_, ?_, cc⟩
  have t0 : Trm d [] := ⟨by simp, by simp⟩
  have e1 := plus_terms_eq (n := -1) (a := 2) (by omega) t0 hT.trm (by decide) hT.bd (by omega) (by simp) (by have := hT.len hd; omega) π
  have e2 := form_by_can (by omega) t (by omega) π
  have tm := fm_terms d T
  have dg := fm_degree d T
  have h0 : tmD [] = .dic [] [] := rfl
  rw [h0] at e1
  generalize fmD d (canT d (cfT (plusL [] T (-1)))) = Z at *
  generalize tmD (plusL [] T (-1)) = C at *
  generalize fmD d T = A at *
  generalize tmD T = B at *
  unfold m_c_Form___neg__ f_c_Form___neg__
  simp -implicitDefEqProofs [tm, dg, e1, e2, opNeg]
def whB : D → Bool
  | .int _ => true
  | _ => false
def ctB : D → Bool
  | .int i => decide (0 ≤ i)
  | _ => false
def lsB : D → Bool
  | .lst _ => true
  | .tup _ => true
  | _ => false
def trB : D → Bool
  | .tup xs => xs.length == 3 && xs.all ctB
  | _ => false
def noI (v : D) : Prop := (tyName v).isSome = true
theorem int_any {v : D} (h : noI v) (π : Pot) : m_p_is_integer [v] π = .ok (.bl (whB v), π) := by
  unfold m_p_is_integer f_p_is_integer
  cases v <;> first | (simp -implicitDefEqProofs [fIsA, fIs, tyName, isTyB, whB]; done) | cases h
theorem whole_any {v : D} (h : noI v) (π : Pot) : m_l_is_whole [v] π = .ok (.bl (whB v), π) := by
  unfold m_l_is_whole f_l_is_whole
  cases v <;> first | (simp -implicitDefEqProofs [fIsA, fIs, tyName, isTyB, whB]; done) | cases h
theorem count_any {v : D} (h : noI v) (π : Pot) : m_p_is_count [v] π = .ok (.bl (ctB v), π) := by
  have e := int_any h π
  unfold m_p_is_count f_p_is_count
  cases v <;> first | (simp -implicitDefEqProofs [e, whB, ctB]; done) | cases h
theorem list_any {v : D} (h : noI v) (π : Pot) : m_p_is_list [v] π = .ok (.bl (lsB v), π) := by
  unfold m_p_is_list f_p_is_list
  cases v <;> first | (simp -implicitDefEqProofs [fIsA, fIs, tyName, isTyB, lsB]; done) | cases h
theorem fAll_ct (xs : List D) : fAll [.lst (xs.map fun x => .bl (ctB x))] = some (.bl (xs.all ctB)) := fAll_bl xs ctB
theorem triple_any {v : D} (h : noI v) (hx : ∀ xs, v = .tup xs → ∀ x ∈ xs, noI x) (π : Pot) : m_p_is_triple [v] π = .ok (.bl (trB v), π) := by
  cases v with
  | tup xs =>
    have hx := hx xs rfl
    unfold m_p_is_triple f_p_is_triple
    by_cases hl : xs.length = 3
    · have lc : lcGo (gN 1) tTrue f_p_is_triple_e1 [some (.tup xs), none] xs π = .ok (xs.map fun x => .bl (ctB x), π) := by
        have := lcGo_map (enc := fun (x : D) => x) (xs := xs) (fg := gN 1) (fe := f_p_is_triple_e1) (ρ := [some (.tup xs), none]) (π := π) (ρ1 := fun x => [some (.tup xs), some x]) (g := fun x => .bl (ctB x)) (fun x _ => by simp) fun x hx' => by
          have e := count_any (hx x hx') π
          simp -implicitDefEqProofs [f_p_is_triple_e1_ap, e]
        simpa using this
      have al := fAll_ct xs
      have hl2 : xs.length < 16777216 := by omega
      have hl3 : (xs.map fun x => D.bl (ctB x)).length < 16777216 := by rw [List.length_map]; omega
      simp -implicitDefEqProofs [fIsA, fIs, tyName, isTyB, hl, lc, al, trB, hl2]
    · have : ¬ (xs.length : Int) = 3 := by omega
      simp -implicitDefEqProofs [fIsA, fIs, tyName, isTyB, hl, this, trB]
  | _ =>
    first
    | (unfold m_p_is_triple f_p_is_triple
       simp -implicitDefEqProofs [fIsA, fIs, tyName, isTyB, trB]; done)
    | cases h
theorem three_any {v : D} (h : noI v) (hx : ∀ xs, v = .tup xs → ∀ x ∈ xs, noI x) (π : Pot) : m_l_is_three [v] π = .ok (.bl (trB v), π) := by
  cases v with
  | tup xs =>
    have hx := hx xs rfl
    unfold m_l_is_three f_l_is_three
    by_cases hl : xs.length = 3
    · have lc : lcGo (gN 1) tTrue f_l_is_three_e1 [some (.tup xs), none] xs π = .ok (xs.map fun x => .bl (ctB x), π) := by
        have := lcGo_map (enc := fun (x : D) => x) (xs := xs) (fg := gN 1) (fe := f_l_is_three_e1) (ρ := [some (.tup xs), none]) (π := π) (ρ1 := fun x => [some (.tup xs), some x]) (g := fun x => .bl (ctB x)) (fun x _ => by simp) fun x hx' => by
          have e := whole_any (hx x hx') π
          have hno := hx x hx'
          cases x <;> first | (simp -implicitDefEqProofs [f_l_is_three_e1_ap, e, whB, ctB]; done) | cases hno
        simpa using this
      have al := fAll_ct xs
      have hl2 : xs.length < 16777216 := by omega
      simp -implicitDefEqProofs [fIsA, fIs, tyName, isTyB, hl, lc, al, trB, hl2]
    · have : ¬ (xs.length : Int) = 3 := by omega
      simp -implicitDefEqProofs [fIsA, fIs, tyName, isTyB, hl, this, trB]
  | _ =>
    first
    | (unfold m_l_is_three f_l_is_three
       simp -implicitDefEqProofs [fIsA, fIs, tyName, isTyB, trB]; done)
    | cases h
end LW
set_option maxHeartbeats 4000000
namespace LW
open PySem PySem.Spec PyProof.Rows L2 DL RK
structure OkV (v : D) : Prop where
  no : noI v
  tp : ∀ xs, v = .tup xs → ∀ x ∈ xs, noI x
  rp : ∃ z, ∀ π, rprA [("Form", m_c_Form___repr__)] v π = .ok (.str z, π)
theorem vx_no {n : Nat} {v : D} (h : Vx n v) : noI v := by cases h <;> rfl
theorem ok_vx {n : Nat} (hn : n ≤ 4) {v : D} (h : Vx n v) : OkV v where
  no := vx_no h
  tp := fun xs e x hx => by
    subst e
    cases h with
    | tup hl r => exact vx_no (r x hx)
  rp := h.rpr hn (.cons pu_m_c_Form___repr__ .nil)
theorem rpr_tm {d B : Nat} (hd : d ≤ 9) (hB : B < 1900) {T : List Tm} (h : Trm d T) (hb : TBd B T) : ∃ z, ∀ π, rprA [("Form", m_c_Form___repr__)] (tmD T) π = .ok (.str z, π) := by
  obtain ⟨z, e, -⟩ := showT_tml (by omega) hB h (by have := trm_len hd h; omega) hb
  refine ⟨z, fun π => ?_⟩
  have m0 : meOf [("Form", m_c_Form___repr__)] (tmD T) = none := rfl
  have f0 : fReprA [tmD T] = some (.str z) := by
    show (showT (tmD T)).map D.str = _
    rw [e]
    rfl
  unfold rprA
  rw [m0]
  simp only [f0]
theorem ok_tm {d B : Nat} (hd : d ≤ 9) (hB : B < 1900) {T : List Tm} (h : Trm d T) (hb : TBd B T) : OkV (tmD T) where
  no := rfl
  tp := fun xs e => by cases e
  rp := rpr_tm hd hB h hb
theorem rpr_fm {d B : Nat} (hd : d ≤ 9) (hB : B < 1900) {T : List Tm} (h : Trm d T) (hb : TBd B T) : ∃ z, ∀ π, rprA [("Form", m_c_Form___repr__)] (fmD d T) π = .ok (.str z, π) := by
  have hp : PMs [("Form", m_c_Form___repr__)] := .cons pu_m_c_Form___repr__ .nil
  obtain ⟨z, e, -⟩ := repr_fm (by omega) hB h (by have := trm_len hd h; omega) hb (0, 0)
  refine ⟨z, fun π => ?_⟩
  have main : rprA [("Form", m_c_Form___repr__)] (fmD d T) (0, 0) = .ok (.str z, (0, 0)) := by
    unfold rprA
    rw [meOf_fm]
    simp only [e]
  have := pa_rprA hp (fmD d T) (0, 0) π
  rw [main] at this
  exact this
theorem rpr_bls (a b c d : Bool) : ∃ z, ∀ π, rprA [("Form", m_c_Form___repr__)] (.lst [.bl a, .bl b, .bl c, .bl d]) π = .ok (.str z, π) := by
  have h : Vx 1 (.lst [.bl a, .bl b, .bl c, .bl d]) := .lst (by simp) fun x hx => by
    simp only [List.mem_cons, List.not_mem_nil, or_false] at hx
    rcases hx with rfl | rfl | rfl | rfl <;> exact .bl _
  exact h.rpr (by decide) (.cons pu_m_c_Form___repr__ .nil)
def In3 (a b c o x : D) : Prop := x = .tup [o, b, c] ∨ x = .tup [a, o, c] ∨ x = .tup [a, b, o]
theorem val_turn (a b c o : D) (o0 o1 o2 : Option D) {w : Int} (h0 : 0 ≤ w) (h3 : w < 3) {L : List D} (hl : L.length < 1000) (π : Pot) :
    ∃ x, f_l_values_b1 [o0, o1, o2, some (.tup [a, b, c]), some (.int w), some (.lst L), some o] π = .ok (.nx [o0, o1, o2, some (.tup [a, b, c]), some (.int w), some (.lst (L ++ [x])), some o], π) ∧ In3 a b c o x := by
  have ap : ∀ x, appD x L = some (L ++ [x]) := fun x => appD_ok (by omega)
  have hw : w = 0 ∨ w = 1 ∨ w = 2 := by omega
  rcases hw with rfl | rfl | rfl
  · refine ⟨.tup [o, b, c], ?_, .inl rfl⟩
    have c1 : fCut (.tup [a, b, c]) none (some 0) = some (.tup []) := rfl
    have c2 : fCut (.tup [a, b, c]) (some 1) none = some (.tup [b, c]) := rfl
    have a1 : opAdd (.tup []) (.tup [o]) = some (.tup [o]) := rfl
    have a2 : opAdd (.tup [o]) (.tup [b, c]) = some (.tup [o, b, c]) := rfl
    rw [f_l_values_b1_ap]
    simp -implicitDefEqProofs [c1, c2, a1, a2, ap]
  · refine ⟨.tup [a, o, c], ?_, .inr (.inl rfl)⟩
    have c1 : fCut (.tup [a, b, c]) none (some 1) = some (.tup [a]) := rfl
    have c2 : fCut (.tup [a, b, c]) (some 2) none = some (.tup [c]) := rfl
    have a1 : opAdd (.tup [a]) (.tup [o]) = some (.tup [a, o]) := rfl
    have a2 : opAdd (.tup [a, o]) (.tup [c]) = some (.tup [a, o, c]) := rfl
    rw [f_l_values_b1_ap]
    simp -implicitDefEqProofs [c1, c2, a1, a2, ap]
  · refine ⟨.tup [a, b, o], ?_, .inr (.inr rfl)⟩
    have c1 : fCut (.tup [a, b, c]) none (some 2) = some (.tup [a, b]) := rfl
    have c2 : fCut (.tup [a, b, c]) (some 3) none = some (.tup []) := rfl
    have a1 : opAdd (.tup [a, b]) (.tup [o]) = some (.tup [a, b, o]) := rfl
    have a2 : opAdd (.tup [a, b, o]) (.tup []) = some (.tup [a, b, o]) := rfl
    rw [f_l_values_b1_ap]
    simp -implicitDefEqProofs [c1, c2, a1, a2, ap]
theorem val_loop (a b c : D) (o0 o1 o2 : Option D) {w : Int} (h0 : 0 ≤ w) (h3 : w < 3) (π : Pot) : ∀ (os L : List D) (o6 : Option D), L.length + os.length < 1000 →
    ∃ (X : List D) (p6 : Option D), forGo (gN 6) f_l_values_b1 os [o0, o1, o2, some (.tup [a, b, c]), some (.int w), some (.lst L), o6] π = .ok (.nx [o0, o1, o2, some (.tup [a, b, c]), some (.int w), some (.lst (L ++ X)), p6], π) ∧ X.length = os.length ∧ ∀ x ∈ X, ∃ o ∈ os, In3 a b c o x
  | [], L, o6, _ => ⟨[], o6, by simp [forGo], rfl, by simp⟩
  | o :: os, L, o6, hl => by
    rw [List.length_cons] at hl
    obtain ⟨x, e1, hx⟩ := val_turn a b c o o0 o1 o2 h0 h3 (L := L) (by omega) π
    obtain ⟨X, p6, e2, l2, hX⟩ := val_loop a b c o0 o1 o2 h0 h3 π os (L ++ [x]) (some o) (by simp; omega)
    refine ⟨x :: X, p6, ?_, by simp [l2], fun y hy => ?_⟩
    · rw [show L ++ x :: X = L ++ [x] ++ X by simp, ← e2]
      have g0 : gN 6 o [o0, o1, o2, some (.tup [a, b, c]), some (.int w), some (.lst L), o6] = some [o0, o1, o2, some (.tup [a, b, c]), some (.int w), some (.lst L), some o] := by simp
      simp only [forGo, g0, ofO_some, Res.bind_ok, e1]
    · rcases List.mem_cons.mp hy with rfl | hy
      · exact ⟨o, by simp, hx⟩
      · obtain ⟨q, hq, h⟩ := hX y hy
        exact ⟨q, by simp [hq], h⟩
theorem in3_vx {n : Nat} {a b c o x : D} (ha : Vx n a) (hb : Vx n b) (hc : Vx n c) (ho : Vx n o) (h : In3 a b c o x) : Vx (n + 1) x := by
  have t : ∀ {p q r : D}, Vx n p → Vx n q → Vx n r → Vx (n + 1) (.tup [p, q, r]) := fun h1 h2 h3 => .tup (by simp) fun y hy => by
    simp only [List.mem_cons, List.not_mem_nil, or_false] at hy
    rcases hy with rfl | rfl | rfl
    · exact h1
    · exact h2
    · exact h3
  rcases h with rfl | rfl | rfl
  · exact t ho hb hc
  · exact t ha ho hc
  · exact t ha hb ho
end LW
set_option maxHeartbeats 4000000
namespace LW
open PySem PySem.Spec PyProof.Rows L2 DL RK
theorem shown_terms {d B : Nat} (hd : d ≤ 9) {f : Pt → Int} {T : List Tm} (h : Cn d B f T) (π : Pot) : m_c_Form_terms [fmD d T] π = .ok (tmD T, π) := by
  rw [fm_shown, dictC_tm (by omega) h.trm]
  rfl
theorem vx_tup {n : Nat} {xs : List D} (hl : xs.length ≤ 8) (h : ∀ x ∈ xs, Vx n x) : Vx (n + 1) (.tup xs) := .tup hl h
theorem values_ex {d : Nat} (hd : d ≤ 4) {f : Pt → Int} {T : List Tm} (hT : Cn d 4 f T) (π : Pot) :
    ∃ (vs : List D) (π' : Pot), m_l_values [.non, fmD d T] π = .ok (.lst vs, π') ∧ ∀ v ∈ vs, v = fmD d T ∨ OkV v := by
  obtain ⟨g, π1, e1, g0, g1⟩ := draw_ex (n := 1000) (a := .non) π (by decide) (by decide)
  obtain ⟨kk, π2, e2, k0, k1⟩ := draw_ex (n := 5) (a := .non) π1 (by decide) (by decide)
  obtain ⟨k, rfl⟩ : ∃ k : Nat, kk = (k : Int) := ⟨kk.toNat, by omega⟩
  have tr := ltriples_eq (d := k) (by omega) π2
  have hl := trs_len_le (d := k) (by omega)
  have hne : (trs k).map trD ≠ [] := by
    have : (k, 0, 0) ∈ trs k := mem_trs.mpr (by simp)
    intro h
    rw [List.map_eq_nil_iff] at h
    rw [h] at this
    cases this
  obtain ⟨dk, π3, e3, hk⟩ := pick_ex (a := .non) (xs := (trs k).map trD) π2 hne (by rw [List.length_map]; omega)
  obtain ⟨m, hm, rfl⟩ := List.mem_map.mp hk
  have hmd := mem_trs.mp hm
  obtain ⟨w, π4, e4, w0, w1⟩ := draw_ex (n := 3) (a := .non) π3 (by decide) (by decide)
  have po1 : opPow (.int 10) (.int 27) = some (.int 1000000000000000000000000000) := by rfl
  have po2 : opPow (.int 10) (.int 20) = some (.int 100000000000000000000) := by rfl
  have mg : opMulA (.int g) (.int 1000000000000000000000000000) = some (.int (g * 1000000000000000000000000000)) := opMulA_l (by omega) (by omega)
  obtain ⟨G, hG⟩ : ∃ G : Int, G = g * 1000000000000000000000000000 := ⟨_, rfl⟩
  rw [← hG] at mg
  obtain ⟨a, b, c⟩ := m
  dsimp only at hmd
  have hkey : trD (a, b, c) = .tup [.int (a : Int), .int (b : Int), .int (c : Int)] := rfl
  have hdis : tkey (.tup [.int (a : Int), .int (b : Int), .int (c : Int)]) = some (kyL (a, b, c)) := rfl
  have hd1 : D.dic [.inr (kyL (a, b, c))] [.int 1] = tmD [((a, b, c), 1)] := rfl
  obtain ⟨mv, ix, mv0, mv1⟩ : ∃ mv : Int, opIx (.tup [.int (a : Int), .int (b : Int), .int (c : Int)]) (.int w) = some (.int mv) ∧ 0 ≤ mv ∧ mv ≤ 4 := by
    rcases (show w = 0 ∨ w = 1 ∨ w = 2 by omega) with rfl | rfl | rfl
    · exact ⟨a, rfl, by omega, by omega⟩
    · exact ⟨b, rfl, by omega, by omega⟩
    · exact ⟨c, rfl, by omega, by omega⟩
  have fl : fList [.tup [.int (a : Int), .int (b : Int), .int (c : Int)]] = some (.lst [.int (a : Int), .int (b : Int), .int (c : Int)]) := rfl
  have c2 : fCut (.tup [.int (a : Int), .int (b : Int), .int (c : Int)]) none (some 2) = some (.tup [.int (a : Int), .int (b : Int)]) := rfl
  have a2 : opAdd (.tup [.int (a : Int), .int (b : Int), .int (c : Int)]) (.tup [.int 0]) = some (.tup [.int (a : Int), .int (b : Int), .int (c : Int), .int 0]) := rfl
  have tm := shown_terms (by omega) hT π4
  have hn1 : hasN "terms" "Form" (fmD d T) = true := by rfl
  rw [hkey] at e3
  obtain ⟨X, p6, lp, lX, hX⟩ := val_loop (.int (a : Int)) (.int (b : Int)) (.int (c : Int)) (some .non) (some (fmD d T)) (some (.int G)) w0 w1 π4 [.bl true, .bl false, .int (-1), .non, .str "0", .tup [.int 1], .int (mv + 1), .int 100000000000000000000]
    [.non, .int 0, .int 1, .int (-1), .bl true, .bl false, .str "", .str "1", .str "xyz", .lst [], .tup [], .dic [] [], .int G, .int (-G), fmD d T, tmD T, .tup [.int (a : Int), .int (b : Int), .int (c : Int)], .lst [.int (a : Int), .int (b : Int), .int (c : Int)]] none (by simp)
  obtain ⟨L, hL⟩ : ∃ L : List D, L = [.non, .int 0, .int 1, .int (-1), .bl true, .bl false, .str "", .str "1", .str "xyz", .lst [], .tup [], .dic [] [], .int G, .int (-G), fmD d T, tmD T, .tup [.int (a : Int), .int (b : Int), .int (c : Int)], .lst [.int (a : Int), .int (b : Int), .int (c : Int)]] := ⟨_, rfl⟩
  obtain ⟨Z, hZ⟩ : ∃ L : List D, L = [.tup [.int (a : Int), .int (b : Int)], .tup [.int (a : Int), .int (b : Int), .int (c : Int), .int 0], .lst [.tup [.int (a : Int), .int (b : Int), .int (c : Int)]], .tup [.tup [.int (a : Int), .int (b : Int), .int (c : Int)]], tmD [((a, b, c), 1)], .lst [.non], .tup [.tup []], .tup [.tup [.int 0, .int 0, .int 0]], .tup [.int 0, .int 0, .int 0], .lst [.int 0, .int 0, .int 0]] := ⟨_, rfl⟩
  have oa : opAdd (.lst (L ++ X)) (.lst Z) = some (.lst (L ++ X ++ Z)) := opAdd_lst (by rw [hL, hZ, List.length_append, lX]; simp)
  refine ⟨L ++ X ++ Z, π4, ?_, fun v hv => ?_⟩
  · rw [← hL] at lp
    rw [← hd1] at hZ
    rw [hL] at lp
    rw [hZ] at oa
    rw [hZ]
    have oa' := oa
    generalize hLX : L ++ X = LX at *
    rw [← hL, hLX] at lp
    rw [hL] at lp
    generalize fmD d T = F at *
    generalize tmD T = TT at *
    generalize kyL (a, b, c) = ky at *
    generalize (a : Int) = ia at *
    generalize (b : Int) = ib at *
    generalize (c : Int) = ic at *
    generalize (trs k).map trD = K at *
    unfold m_l_values f_l_values
    simp -implicitDefEqProofs [e1, po1, po2, mg, e2, tr, e3, e4, opNeg, fl, eMeth, hn1, tm, ix, lp, c2, a2, eDisp1, hdis, oa', sFor, safe_ok']
  · have vi : ∀ i : Int, i.natAbs ≤ 2 ^ 104 → Vx 0 (.int i) := fun i h => .int i h
    have va := vi (a : Int) (by omega)
    have vb := vi (b : Int) (by omega)
    have vc := vi (c : Int) (by omega)
    have v0 := vi 0 (by decide)
    have hGb : G.natAbs ≤ 2 ^ 104 := by rw [hG]; omega
    have keyV : Vx 1 (.tup [.int (a : Int), .int (b : Int), .int (c : Int)]) := vx_tup (by simp) fun y hy => by
      simp only [List.mem_cons, List.not_mem_nil, or_false] at hy
      rcases hy with rfl | rfl | rfl <;> assumption
    have zero3 : ∀ y ∈ [D.int 0, D.int 0, D.int 0], Vx 0 y := fun y hy => by
      simp only [List.mem_cons, List.not_mem_nil, or_false] at hy
      rcases hy with rfl | rfl | rfl <;> exact v0
    rcases List.mem_append.mp hv with hv | hv
    · rcases List.mem_append.mp hv with hv | hv
      · rw [hL] at hv
        simp only [List.mem_cons, List.not_mem_nil, or_false] at hv
        rcases hv with rfl | rfl | rfl | rfl | rfl | rfl | rfl | rfl | rfl | rfl | rfl | rfl | rfl | rfl | rfl | rfl | rfl | rfl
        · exact .inr (ok_vx (n := 0) (by decide) .non)
        · exact .inr (ok_vx (by decide) v0)
        · exact .inr (ok_vx (by decide) (vi 1 (by decide)))
        · exact .inr (ok_vx (by decide) (vi (-1) (by decide)))
        · exact .inr (ok_vx (n := 0) (by decide) (.bl _))
        · exact .inr (ok_vx (n := 0) (by decide) (.bl _))
        · exact .inr (ok_vx (n := 0) (by decide) (.str _ (by decide +kernel)))
        · exact .inr (ok_vx (n := 0) (by decide) (.str _ (by decide +kernel)))
        · exact .inr (ok_vx (n := 0) (by decide) (.str _ (by decide +kernel)))
        · exact .inr (ok_vx (n := 1) (by decide) (.lst (by simp) (by simp)))
        · exact .inr (ok_vx (n := 1) (by decide) (.tup (by simp) (by simp)))
        · exact .inr (ok_vx (n := 0) (by decide) .emp)
        · exact .inr (ok_vx (by decide) (vi G hGb))
        · exact .inr (ok_vx (by decide) (vi (-G) (by omega)))
        · exact .inl rfl
        · exact .inr (ok_tm (by omega) (by decide) hT.trm hT.bd)
        · exact .inr (ok_vx (by decide) keyV)
        · exact .inr (ok_vx (n := 1) (by decide) (.lst (by simp) fun y hy => by
            simp only [List.mem_cons, List.not_mem_nil, or_false] at hy
            rcases hy with rfl | rfl | rfl <;> assumption))
      · obtain ⟨o, ho, h3⟩ := hX v hv
        have vo : Vx 1 o := by
          simp only [List.mem_cons, List.not_mem_nil, or_false] at ho
          rcases ho with rfl | rfl | rfl | rfl | rfl | rfl | rfl | rfl
          · exact .bl _
          · exact .bl _
          · exact (vi (-1) (by decide)).up
          · exact .non
          · exact .str _ (by decide +kernel)
          · exact vx_tup (by simp) fun y hy => by
              simp only [List.mem_cons, List.not_mem_nil, or_false] at hy
              rw [hy]
              exact vi 1 (by decide)
          · exact (vi (mv + 1) (by omega)).up
          · exact (vi 100000000000000000000 (by decide)).up
        exact .inr (ok_vx (by decide) (in3_vx va.up vb.up vc.up vo h3))
    · rw [hZ] at hv
      simp only [List.mem_cons, List.not_mem_nil, or_false] at hv
      rcases hv with rfl | rfl | rfl | rfl | rfl | rfl | rfl | rfl | rfl | rfl
      · exact .inr (ok_vx (n := 1) (by decide) (vx_tup (by simp) fun y hy => by
          simp only [List.mem_cons, List.not_mem_nil, or_false] at hy
          rcases hy with rfl | rfl <;> assumption))
      · exact .inr (ok_vx (n := 1) (by decide) (vx_tup (by simp) fun y hy => by
          simp only [List.mem_cons, List.not_mem_nil, or_false] at hy
          rcases hy with rfl | rfl | rfl | rfl <;> assumption))
      · exact .inr (ok_vx (n := 2) (by decide) (.lst (by simp) fun y hy => by
          simp only [List.mem_cons, List.not_mem_nil, or_false] at hy
          rw [hy]; exact keyV))
      · exact .inr (ok_vx (n := 2) (by decide) (vx_tup (by simp) fun y hy => by
          simp only [List.mem_cons, List.not_mem_nil, or_false] at hy
          rw [hy]; exact keyV))
      · exact .inr (ok_tm (d := k) (B := 1) (by omega) (by decide) ⟨by simp, fun x hx => by
          simp only [List.mem_cons, List.not_mem_nil, or_false] at hx
          rw [hx]; exact hmd⟩ fun x hx => by
          simp only [List.mem_cons, List.not_mem_nil, or_false] at hx
          rw [hx]
          show (1 : Int).natAbs ≤ 2 ^ 1
          decide)
      · exact .inr (ok_vx (n := 1) (by decide) (.lst (by simp) fun y hy => by
          simp only [List.mem_cons, List.not_mem_nil, or_false] at hy
          rw [hy]; exact .non))
      · exact .inr (ok_vx (n := 2) (by decide) (vx_tup (by simp) fun y hy => by
          simp only [List.mem_cons, List.not_mem_nil, or_false] at hy
          rw [hy]; exact vx_tup (by simp) (by simp)))
      · exact .inr (ok_vx (n := 2) (by decide) (vx_tup (by simp) fun y hy => by
          simp only [List.mem_cons, List.not_mem_nil, or_false] at hy
          rw [hy]; exact vx_tup (by simp) zero3))
      · exact .inr (ok_vx (n := 1) (by decide) (vx_tup (by simp) zero3))
      · exact .inr (ok_vx (n := 1) (by decide) (.lst (by simp) zero3))
end LW
set_option maxHeartbeats 8000000
namespace LW
open PySem PySem.Spec PyProof.Rows L2 DL RK
theorem isA_ls {v : D} (h : noI v) : fIsA ["Told", "Form"] ["list", "tuple"] v = some (.bl (lsB v)) := by
  cases v <;> first | rfl | cases h
theorem b1_data {d B : Nat} {f : Pt → Int} {T : List Tm} (hT : Cn d B f T) {v : D} (h : OkV v) (o5 o6 o7 o8 o9 o10 o11 o12 o13 o14 : Option D) (π : Pot) :
    ∃ p10 p11 p12 p13, f_l_right_b1 [some .non, some (.int (d : Int)), some (tmD T), some (fmD d T), some v, o5, o6, o7, o8, o9, o10, o11, o12, o13, o14] π = .ok (.nx [some .non, some (.int (d : Int)), some (tmD T), some (fmD d T), some v, o5, o6, o7, o8, o9, p10, p11, p12, p13, o14], π) := by
  obtain ⟨hno, htp, z, rz⟩ := h
  have e1 := whole_any hno π
  have e2 := int_any hno π
  have e3 := count_any hno π
  have e4 := list_any hno π
  have e5 := triple_any hno htp π
  have e6 := three_any hno htp π
  have e7 := isA_ls hno
  obtain ⟨z4, r4⟩ := rpr_bls (whB v) (ctB v) (lsB v) (trB v)
  have r4' := r4 π
  have rz' := rz π
  obtain ⟨n, hn⟩ := Option.isSome_iff_exists.mp (show (tyName v).isSome = true from hno)
  have isF : fIsC "Form" ["Told", "Form"] v = some (.bl false) := fIsC_ty hn
  have eq := eq_data (d := d) (T := T) hno π
  have c1 : cmpY false opEq [("Form", m_c_Form___eq__)] (fmD d T) v π = .ok (.bl false, π) := cmpY_in (neg := false) (by rfl) (by rw [show (tyName v).isSome = true from hno]; simp) eq
  have c2 : cmpY true opNe [("Form", m_c_Form___eq__)] (fmD d T) v π = .ok (.bl true, π) := cmpY_in (neg := true) (by rfl) (by rw [show (tyName v).isSome = true from hno]; simp) eq
  have n4 : opNe (.str z4) (.str z4) = some (.bl false) := by simp [opNe, eqD]
  have n1 : opNe (.str z) (.str z) = some (.bl false) := by simp [opNe, eqD]
  have b1 : opNe (.bl false) (.bl false) = some (.bl false) := rfl
  have b2 : opEq (.bl true) (.bl false) = some (.bl false) := rfl
  refine ⟨some (.str z), some (.bl (whB v)), some (.lst [.bl (whB v), .bl (ctB v), .bl (lsB v), .bl (trB v)]), some (.bl false), ?_⟩
  clear r4 rz eq htp hT
  generalize fmD d T = F at *
  generalize tmD T = TT at *
  generalize (d : Int) = d' at *
  by_cases hw : whB v = true
  · obtain ⟨i, rfl⟩ : ∃ i, v = .int i := by cases v <;> first | exact ⟨_, rfl⟩ | cases hw
    have k1 : whB (.int i) = true := rfl
    have k2 : ctB (.int i) = decide (0 ≤ i) := rfl
    have k3 : lsB (.int i) = false := rfl
    have k4 : trB (.int i) = false := rfl
    rw [k1] at e1 e2 r4'
    rw [k2] at e3 r4'
    rw [k3] at e4 e7 r4'
    rw [k4] at e5 e6 r4'
    rw [k1, k2, k3, k4]
    clear k1 k2 k3 k4 hw
    rw [f_l_right_b1_ap]
    simp -implicitDefEqProofs [eReprA, rz', e1, e2, e3, e4, e5, e6, e7, r4', n4, isF, c1, c2, b1, b2, n1]
  · have hw : whB v = false := by simpa using hw
    have hc : ctB v = false := by cases v <;> first | rfl | cases hw
    rw [hw] at e1 e2 r4'
    rw [hc] at e3 r4'
    rw [hw, hc]
    generalize lsB v = l at *
    generalize trB v = t at *
    rw [f_l_right_b1_ap]
    simp -implicitDefEqProofs [eReprA, rz', e1, e2, e3, e4, e5, e6, e7, r4', n4, isF, c1, c2, b1, b2, n1]
theorem b1_form {d B : Nat} (hd : d ≤ 9) (hB : B < 1900) {f : Pt → Int} {T : List Tm} (hT : Cn d B f T) (o5 o6 o7 o8 o9 o10 o11 o12 o13 o14 : Option D) (π : Pot) :
    ∃ p10 p11 p12 p13, f_l_right_b1 [some .non, some (.int (d : Int)), some (tmD T), some (fmD d T), some (fmD d T), o5, o6, o7, o8, o9, o10, o11, o12, o13, o14] π = .ok (.nx [some .non, some (.int (d : Int)), some (tmD T), some (fmD d T), some (fmD d T), o5, o6, o7, o8, o9, p10, p11, p12, p13, o14], π) := by
  obtain ⟨z, rz⟩ := rpr_fm hd hB hT.trm hT.bd
  have rz' := rz π
  obtain ⟨z4, r4⟩ := rpr_bls false false false false
  have r4' := r4 π
  have i1 : fIsA ["Told", "Form"] ["int"] (fmD d T) = some (.bl false) := rfl
  have i2 : fIsA ["Told", "Form"] ["list", "tuple"] (fmD d T) = some (.bl false) := rfl
  have i3 : fIsA ["Told", "Form"] ["tuple"] (fmD d T) = some (.bl false) := rfl
  have isF : fIsC "Form" ["Told", "Form"] (fmD d T) = some (.bl true) := rfl
  have ic : isCls "Form" (fmD d T) = true := rfl
  have hn1 : hasN "terms" "Form" (fmD d T) = true := rfl
  have dg := fm_degree d T
  have dg1 : m_c_Form_degree [fmD d T] π = .ok (.int (d : Int), π) := by
    generalize fmD d T = F at *
    unfold m_c_Form_degree f_c_Form_degree
    simp -implicitDefEqProofs [dg]
  have tm := shown_terms hd hT π
  have eqt := eq_tm hT hT
  simp only [decide_true] at eqt
  have eq := eq_same hT hT π
  simp only [decide_true] at eq
  have c1 : cmpY false opEq [("Form", m_c_Form___eq__)] (fmD d T) (fmD d T) π = .ok (.bl true, π) := cmpY_in (neg := false) (by rfl) (by rfl) eq
  have c2 : cmpY true opNe [("Form", m_c_Form___eq__)] (fmD d T) (fmD d T) π = .ok (.bl false, π) := cmpY_in (neg := true) (by rfl) (by rfl) eq
  have n4 : opNe (.str z4) (.str z4) = some (.bl false) := by simp [opNe, eqD]
  have n1 : opNe (.str z) (.str z) = some (.bl false) := by simp [opNe, eqD]
  have b1 : opNe (.bl true) (.bl true) = some (.bl false) := rfl
  have b2 : opEq (.bl false) (.bl true) = some (.bl false) := rfl
  have d1 : opEq (.int (d : Int)) (.int (d : Int)) = some (.bl true) := by simp [opEq, eqD]
  refine ⟨some (.str z), some (.bl false), some (.lst [.bl false, .bl false, .bl false, .bl false]), some (.bl true), ?_⟩
  clear rz r4 eq hT
  generalize fmD d T = F at *
  generalize tmD T = TT at *
  generalize (d : Int) = d' at *
  have e1 : m_l_is_whole [F] π = .ok (.bl false, π) := by
    unfold m_l_is_whole f_l_is_whole
    simp -implicitDefEqProofs [i1]
  have e2 : m_p_is_integer [F] π = .ok (.bl false, π) := by
    unfold m_p_is_integer f_p_is_integer
    simp -implicitDefEqProofs [i1]
  have e3 : m_p_is_count [F] π = .ok (.bl false, π) := by
    unfold m_p_is_count f_p_is_count
    simp -implicitDefEqProofs [e2]
  have e4 : m_p_is_list [F] π = .ok (.bl false, π) := by
    unfold m_p_is_list f_p_is_list
    simp -implicitDefEqProofs [i2]
  have e5 : m_p_is_triple [F] π = .ok (.bl false, π) := by
    unfold m_p_is_triple f_p_is_triple
    simp -implicitDefEqProofs [i3]
  have e6 : m_l_is_three [F] π = .ok (.bl false, π) := by
    unfold m_l_is_three f_l_is_three
    simp -implicitDefEqProofs [i3]
  rw [f_l_right_b1_ap]
  simp -implicitDefEqProofs [eReprA, rz', e1, e2, e3, e4, e5, e6, i2, r4', n4, isF, ePrp, ic, dg1, eMeth, hn1, tm, d1, eqt, c1, c2, b1, b2, n1]
theorem b1_loop {d B : Nat} (hd : d ≤ 9) (hB : B < 1900) {f : Pt → Int} {T : List Tm} (hT : Cn d B f T) (o5 o6 o7 o8 o9 o14 : Option D) (π : Pot) : ∀ (vs : List D) (o4 o10 o11 o12 o13 : Option D), (∀ v ∈ vs, v = fmD d T ∨ OkV v) →
    ∃ p4 p10 p11 p12 p13, forGo (gN 4) f_l_right_b1 vs [some .non, some (.int (d : Int)), some (tmD T), some (fmD d T), o4, o5, o6, o7, o8, o9, o10, o11, o12, o13, o14] π = .ok (.nx [some .non, some (.int (d : Int)), some (tmD T), some (fmD d T), p4, o5, o6, o7, o8, o9, p10, p11, p12, p13, o14], π)
  | [], o4, o10, o11, o12, o13, _ => ⟨o4, o10, o11, o12, o13, rfl⟩
  | v :: vs, o4, o10, o11, o12, o13, h => by
    obtain ⟨q10, q11, q12, q13, e1⟩ : ∃ p10 p11 p12 p13, f_l_right_b1 [some .non, some (.int (d : Int)), some (tmD T), some (fmD d T), some v, o5, o6, o7, o8, o9, o10, o11, o12, o13, o14] π = .ok (.nx [some .non, some (.int (d : Int)), some (tmD T), some (fmD d T), some v, o5, o6, o7, o8, o9, p10, p11, p12, p13, o14], π) := by
      rcases h v (by simp) with rfl | hv
      · exact b1_form hd hB hT _ _ _ _ _ _ _ _ _ _ π
      · exact b1_data hT hv _ _ _ _ _ _ _ _ _ _ π
    obtain ⟨p4, p10, p11, p12, p13, e2⟩ := b1_loop hd hB hT o5 o6 o7 o8 o9 o14 π vs (some v) q10 q11 q12 q13 fun y hy => h y (by simp [hy])
    refine ⟨p4, p10, p11, p12, p13, ?_⟩
    rw [← e2]
    have g0 : gN 4 v [some .non, some (.int (d : Int)), some (tmD T), some (fmD d T), o4, o5, o6, o7, o8, o9, o10, o11, o12, o13, o14] = some [some .non, some (.int (d : Int)), some (tmD T), some (fmD d T), some v, o5, o6, o7, o8, o9, o10, o11, o12, o13, o14] := by simp
    simp only [forGo, g0, ofO_some, Res.bind_ok, e1]
theorem let_cn {m : Tr} (hm : m ∈ trs 1) : Cn 1 0 (evT [(m, 1)]) [(m, 1)] := by
  refine ⟨?_, fun x hx => ?_, fun p => rfl⟩
  · have e : trs 1 = [(1, 0, 0), (0, 1, 0), (0, 0, 1)] := rfl
    rw [e] at hm
    simp only [List.mem_cons, List.not_mem_nil, or_false] at hm
    rcases hm with rfl | rfl | rfl <;> rfl
  · simp only [List.mem_cons, List.not_mem_nil, or_false] at hx
    rw [hx]
    show (1 : Int).natAbs ≤ 2 ^ 0
    decide
theorem letters_val (π : Pot) : m_p_letter_forms [] π = .ok (.lst [fmD 1 [((1, 0, 0), 1)], fmD 1 [((0, 1, 0), 1)], fmD 1 [((0, 0, 1), 1)]], π) := by
  have c1 := let_cn (m := (1, 0, 0)) (by decide)
  have c2 := let_cn (m := (0, 1, 0)) (by decide)
  have c3 := let_cn (m := (0, 0, 1)) (by decide)
  have f1 := form_by_can (by decide) c1.trm (by simp) π
  have f2 := form_by_can (by decide) c2.trm (by simp) π
  have f3 := form_by_can (by decide) c3.trm (by simp) π
  rw [c1.can] at f1
  rw [c2.can] at f2
  rw [c3.can] at f3
  have k1 : tkey (.tup [.int 1, .int 0, .int 0]) = some (kyL (1, 0, 0)) := rfl
  have k2 : tkey (.tup [.int 0, .int 1, .int 0]) = some (kyL (0, 1, 0)) := rfl
  have k3 : tkey (.tup [.int 0, .int 0, .int 1]) = some (kyL (0, 0, 1)) := rfl
  have t1 : tmD [((1, 0, 0), 1)] = .dic [.inr (kyL (1, 0, 0))] [.int 1] := rfl
  have t2 : tmD [((0, 1, 0), 1)] = .dic [.inr (kyL (0, 1, 0))] [.int 1] := rfl
  have t3 : tmD [((0, 0, 1), 1)] = .dic [.inr (kyL (0, 0, 1))] [.int 1] := rfl
  rw [t1] at f1
  rw [t2] at f2
  rw [t3] at f3
  have i1 : ((1 : Nat) : Int) = 1 := rfl
  rw [i1] at f1 f2 f3
  generalize fmD 1 [((1, 0, 0), 1)] = X at *
  generalize fmD 1 [((0, 1, 0), 1)] = Y at *
  generalize fmD 1 [((0, 0, 1), 1)] = Z at *
  generalize kyL (1, 0, 0) = a at *
  generalize kyL (0, 1, 0) = b at *
  generalize kyL (0, 0, 1) = c at *
  unfold m_p_letter_forms f_p_letter_forms
  simp -implicitDefEqProofs [lcGo, f_p_letter_forms_e1_ap, eDisp1, k1, k2, k3, f1, f2, f3, safe_ok']
theorem same_nil {d B B' : Nat} (hd : d ≤ 6) {f g : Pt → Int} {T S : List Tm} (hT : Cn d B f T) (hS : Cn d B' g S) (h : ∀ p, f p = 0 ↔ g p = f p) : decide (T = S) = decide (T = []) := by
  have key : T = S ↔ T = [] := by
    constructor
    · intro e
      refine hT.eq hd (Cn.nil d 0) fun p => ?_
      have h1 := hT.ev p
      have h2 := hS.ev p
      rw [← e, h1] at h2
      exact (h p).mpr h2.symm
    · intro e
      have h0 : ∀ p, f p = 0 := fun p => by rw [← hT.ev p, e]; rfl
      refine e.trans ?_
      refine ((Cn.nil d 0).eq hd hS fun p => ?_)
      rw [(h p).mp (h0 p), h0 p]
  by_cases e : T = []
  · rw [decide_eq_true e, decide_eq_true (key.mpr e)]
  · rw [decide_eq_false e, decide_eq_false fun z => e (key.mp z)]
theorem cmp_same {d B B' : Nat} {f g : Pt → Int} {T S : List Tm} (hT : Cn d B f T) (hS : Cn d B' g S) (π : Pot) : cmpY false opEq [("Form", m_c_Form___eq__)] (fmD d T) (fmD d S) π = .ok (.bl (decide (T = S)), π) := cmpY_in (neg := false) (by rfl) (by rfl) (eq_same hT hS π)
theorem cmp_ne {d B B' : Nat} {f g : Pt → Int} {T S : List Tm} (hT : Cn d B f T) (hS : Cn d B' g S) (π : Pot) : cmpY true opNe [("Form", m_c_Form___eq__)] (fmD d T) (fmD d S) π = .ok (.bl (!decide (T = S)), π) := cmpY_in (neg := true) (by rfl) (by rfl) (eq_same hT hS π)
theorem cmp_apart {d e : Nat} (h : d ≠ e) (T S : List Tm) (π : Pot) : cmpY false opEq [("Form", m_c_Form___eq__)] (fmD d T) (fmD e S) π = .ok (.bl false, π) := cmpY_in (neg := false) (by rfl) (by rfl) (eq_apart h T S π)
theorem right_eq (π : Pot) : ∃ π', m_l_right [.non] π = .ok (.bl true, π') := by
  obtain ⟨v, π1, e1, v0, v1⟩ := draw_ex (n := 5) (a := .non) π (by decide) (by decide)
  obtain ⟨d, rfl⟩ : ∃ d : Nat, v = (d : Int) := ⟨v.toNat, by omega⟩
  have hd : d ≤ 4 := by omega
  obtain ⟨T, π2, t1, k1⟩ := terms_ex hd π1
  have f1 := fm_new (by omega) k1 π2
  obtain ⟨vs, π3, e2, hv⟩ := values_ex hd k1 π2
  obtain ⟨p4, p10, p11, p12, p13, lp⟩ := b1_loop (by omega) (by decide) k1 none none none none none none π3 vs none none none none none hv
  have le := letters_val π3
  have cX := let_cn (m := (1, 0, 0)) (by decide)
  have cY := let_cn (m := (0, 1, 0)) (by decide)
  have cZ := let_cn (m := (0, 0, 1)) (by decide)
  obtain ⟨S1, g1, k2⟩ := fm_times (by omega) k1 (k := 2) (by decide) (by decide) π3
  obtain ⟨S2, g2, k3⟩ := fm_neg (by omega) k1 (by decide) π3
  obtain ⟨S3, g3, k4⟩ := fm_add (by omega) k1 k1 (by decide) π3
  obtain ⟨S4, g4, k5⟩ := fm_mul (by omega) k1 cX (by decide) π3
  have g5 := fm_new (d := d + 1) (by omega) (Cn.nil (d + 1) 0) π3
  have g6 := fm_new (by omega) k1 π3
  have i5 : ((d + 1 : Nat) : Int) = (d : Int) + 1 := by omega
  have t0 : tmD [] = .dic [] [] := rfl
  rw [i5, t0] at g5
  have eb := eq_tm k1 (Cn.nil d 0)
  rw [t0] at eb
  have c1 := cmp_same k1 k2 π3
  have c2 := cmp_same k1 k3 π3
  have c3 := cmp_same k1 k4 π3
  rw [same_nil (by omega) k1 k2 fun p => by omega] at c1
  rw [same_nil (by omega) k1 k3 fun p => by omega] at c2
  rw [same_nil (by omega) k1 k4 fun p => by omega] at c3
  have c4 := cmp_apart (show d ≠ d + 1 by omega) T S4 π3
  have c5 := cmp_apart (show d ≠ d + 1 by omega) T [] π3
  have c6 := cmp_same k1 k1 π3
  simp only [decide_true] at c6
  have xy := cmp_ne cX cY π3
  have yz := cmp_ne cY cZ π3
  have xx := cmp_same cX cX π3
  simp only [decide_true] at xx
  rw [show (!decide (([((1, 0, 0), 1)] : List Tm) = [((0, 1, 0), 1)])) = true by decide] at xy
  rw [show (!decide (([((0, 1, 0), 1)] : List Tm) = [((0, 0, 1), 1)])) = true by decide] at yz
  have ob : ∀ b : Bool, opEq (.lst [.bl b, .bl b, .bl b, .bl false, .bl false, .bl true]) (.lst [.bl b, .bl b, .bl b, .bl false, .bl false, .bl true]) = some (.bl true) := fun b => opEq_refl (by cases b <;> rfl)
  have ob' := ob (decide (T = []))
  have hn2 : hasN "times" "Form" (fmD d T) = true := rfl
  have i1 : isInO "Form" (fmD d T) = true := rfl
  have i2 : isInO "Form" (fmD 1 [((1, 0, 0), 1)]) = true := rfl
  have ix : opIx (.lst [fmD 1 [((1, 0, 0), 1)], fmD 1 [((0, 1, 0), 1)], fmD 1 [((0, 0, 1), 1)]]) (.int 0) = some (fmD 1 [((1, 0, 0), 1)]) := rfl
  refine ⟨π3, ?_⟩
  clear k1 k2 k3 k4 k5 cX cY cZ hv ob
  generalize decide (T = []) = b at *
  generalize fmD 1 [((1, 0, 0), 1)] = X at *
  generalize fmD 1 [((0, 1, 0), 1)] = Y at *
  generalize fmD 1 [((0, 0, 1), 1)] = Z at *
  generalize fmD d S1 = F1 at *
  generalize fmD d S2 = F2 at *
  generalize fmD d S3 = F3 at *
  generalize fmD (d + 1) S4 = F4 at *
  generalize fmD (d + 1) [] = F5 at *
  generalize fmD d T = F at *
  generalize tmD T = TT at *
  generalize (d : Int) = d' at *
  unfold m_l_right f_l_right
  simp -implicitDefEqProofs [e1, t1, f1, e2, sFor, lp, le, eMeth, hn2, g1, eNegO, i1, i2, g2, eBinO, g3, g4, g5, g6, eb, lcGo, f_l_right_e1_ap, c1, c2, c3, c4, c5, c6, ob', xy, yz, xx, ix, safe_ok']
theorem good : ∀ ns : List Int, ns.length ≤ 63 → ∃ π, m_law_ [.lst (DL.iz ns)] (0, 0) = .ok (.bl true, π) := good_of fun π => right_eq π
end LW
open PySem PySem.W PyProof.Rows
set_option maxRecDepth 100000 in
set_option maxHeartbeats 0 in
theorem PySem.Challenge.cw_pointrows_k19_any_value_as_triple_or_for_holds : PySem.Challenge.rw_pointrows_k19_any_value_as_triple_or_for.Holds := by
  refine LH.hd ?_
  k_fill
  refine DL.walk_D (l := PySem.Challenge.rw_pointrows_k19_any_value_as_triple_or_for) (m := LW.m_law_) (k := 12) (x := "_law_script") rfl (by decide) rfl ⟨rfl, by decide, by decide⟩ (fun w h Y => PySem.W.kIn_of Y) LW.good ?F
  case F =>
    intro w mg fa h KX G hmg
    refine DL.law_end (T := LW.Top _ mg) hmg ?T (fun T => T.f_law_) (fun T _ => LW.d_law_ T) rfl (fun kV doc pm an cdv ct s u => .of_eq (LW.b_law_ kV doc pm an cdv ct [u] rfl))
    refine' LW.top_mk KX G ?oN ?oT ?aC_Told ?pg_Told ?hd_Told ?po_Told ?sa_Told ?mk_Told ?kc_Told ?ha_Told ?hm_Told ?aC_Form ?pg_Form ?hd_Form ?po_Form ?sa_Form ?mk_Form ?kc_Form ?ha_Form ?hm_Form ?nf_Told_told_degree ?nf_Told_told_terms ?nf_Form_own_degree ?nf_Form_own_terms ?ic_Form ?ty_Form ?kt_Form_NoneType ?kt_Form_bool ?kt_Form_int ?kt_Form_str ?kt_Form_list ?kt_Form_tuple ?kt_Form_dict ?ne_Form_Told ?ks_Form_Told ?ic_Told ?ty_Told ?kt_Told_NoneType ?kt_Told_bool ?kt_Told_int ?kt_Told_str ?kt_Told_list ?kt_Told_tuple ?kt_Told_dict ?ne_Told_Form ?ks_Told_Form ?sv_Form ?en_Form ?eo_Form ?st_Told_NoneType ?st_Told_bool ?st_Told_int ?st_Told_str ?st_Told_list ?st_Told_tuple ?st_Told_dict ?st_Form_NoneType ?st_Form_bool ?st_Form_int ?st_Form_str ?st_Form_list ?st_Form_tuple ?st_Form_dict ?a0 ?i0 ?l0 ?c0 ?k0 ?a1 ?l1 ?c1 ?k1 ?a2 ?l2 ?c2 ?k2 ?a3 ?l3 ?c3 ?k3 ?t3 ?a4 ?l4 ?c4 ?k4 ?a5 ?l5 ?c5 ?k5 ?a6 ?l6 ?c6 ?k6 ?a7 ?l7 ?c7 ?k7 ?a8 ?i8 ?l8 ?c8 ?k8 ?a9 ?l9 ?c9 ?k9 ?a10 ?l10 ?c10 ?k10 ?a11 ?l11 ?c11 ?k11 ?a12 ?l12 ?c12 ?k12 ?a13 ?l13 ?c13 ?k13 ?a14 ?i14 ?l14 ?c14 ?k14 ?a15 ?l15 ?c15 ?k15 ?a16 ?l16 ?c16 ?k16 ?a17 ?l17 ?c17 ?k17 ?a18 ?l18 ?c18 ?k18 ?a19 ?l19 ?c19 ?k19 ?a20 ?i20 ?l20 ?c20 ?k20 ?a21 ?i21 ?l21 ?c21 ?k21 ?a22 ?l22 ?c22 ?k22 ?a23 ?l23 ?c23 ?k23 ?a24 ?i24 ?l24 ?c24 ?k24 ?a25 ?l25 ?c25 ?k25 ?a26 ?l26 ?c26 ?k26 ?a27 ?i27 ?l27 ?c27 ?k27 ?a28 ?i28 ?l28 ?c28 ?k28 ?a29 ?i29 ?l29 ?c29 ?k29 ?a30 ?l30 ?c30 ?k30 ?a31 ?l31 ?c31 ?k31 ?a32 ?pa32 ?pb32 ?pc32 ?l32 ?c32 ?k32 ?a33 ?l33 ?c33 ?k33 ?a34 ?l34 ?c34 ?k34 ?a35 ?l35 ?c35 ?k35 ?a36 ?l36 ?c36 ?k36 ?hb_abs ?hb_all ?hb_bool ?hb_dict ?hb_divmod ?hb_int ?hb_isinstance ?hb_len ?hb_list ?hb_max ?hb_min ?hb_range ?hb_repr ?hb_sorted ?hb_sum ?hb_tuple ?hc_MOST_DEGREE
    (case oN => k_is)
    (case oT => k_is)
    (case aC_Told => k_is)
    (case pg_Told => k_is)
    (case hd_Told => k_is)
    (case po_Told => k_is)
    (case sa_Told => k_is)
    (case mk_Told => k_is)
    (case kc_Told => k_is)
    (case ha_Told => k_is)
    (case hm_Told => k_is)
    (case aC_Form => k_is)
    (case pg_Form => k_is)
    (case hd_Form => k_is)
    (case po_Form => k_is)
    (case sa_Form => k_is)
    (case mk_Form => k_is)
    (case kc_Form => k_is)
    (case ha_Form => k_is)
    (case hm_Form => k_is)
    (case nf_Told_told_degree => k_is)
    (case nf_Told_told_terms => k_is)
    (case nf_Form_own_degree => k_is)
    (case nf_Form_own_terms => k_is)
    (case ic_Form => k_is)
    (case ty_Form => k_is)
    (case kt_Form_NoneType => k_is)
    (case kt_Form_bool => k_is)
    (case kt_Form_int => k_is)
    (case kt_Form_str => k_is)
    (case kt_Form_list => k_is)
    (case kt_Form_tuple => k_is)
    (case kt_Form_dict => k_is)
    (case ne_Form_Told => decide)
    (case ks_Form_Told => k_is)
    (case ic_Told => k_is)
    (case ty_Told => k_is)
    (case kt_Told_NoneType => k_is)
    (case kt_Told_bool => k_is)
    (case kt_Told_int => k_is)
    (case kt_Told_str => k_is)
    (case kt_Told_list => k_is)
    (case kt_Told_tuple => k_is)
    (case kt_Told_dict => k_is)
    (case ne_Told_Form => decide)
    (case ks_Told_Form => k_is)
    (case sv_Form => k_is)
    (case en_Form => k_is)
    (case eo_Form => k_is)
    (case st_Told_NoneType => k_is)
    (case st_Told_bool => k_is)
    (case st_Told_int => k_is)
    (case st_Told_str => k_is)
    (case st_Told_list => k_is)
    (case st_Told_tuple => k_is)
    (case st_Told_dict => k_is)
    (case st_Form_NoneType => k_is)
    (case st_Form_bool => k_is)
    (case st_Form_int => k_is)
    (case st_Form_str => k_is)
    (case st_Form_list => k_is)
    (case st_Form_tuple => k_is)
    (case st_Form_dict => k_is)
    (case a0 => k_is)
    (case i0 => k_is)
    (case l0 => k_is)
    (case c0 => k_is)
    (case k0 => k_is)
    (case a1 => k_is)
    (case l1 => k_is)
    (case c1 => k_is)
    (case k1 => k_is)
    (case a2 => k_is)
    (case l2 => k_is)
    (case c2 => k_is)
    (case k2 => k_is)
    (case a3 => k_is)
    (case l3 => k_is)
    (case c3 => k_is)
    (case k3 => k_is)
    (case t3 => k_is)
    (case a4 => k_is)
    (case l4 => k_is)
    (case c4 => k_is)
    (case k4 => k_is)
    (case a5 => k_is)
    (case l5 => k_is)
    (case c5 => k_is)
    (case k5 => k_is)
    (case a6 => k_is)
    (case l6 => k_is)
    (case c6 => k_is)
    (case k6 => k_is)
    (case a7 => k_is)
    (case l7 => k_is)
    (case c7 => k_is)
    (case k7 => k_is)
    (case a8 => k_is)
    (case i8 => k_is)
    (case l8 => k_is)
    (case c8 => k_is)
    (case k8 => k_is)
    (case a9 => k_is)
    (case l9 => k_is)
    (case c9 => k_is)
    (case k9 => k_is)
    (case a10 => k_is)
    (case l10 => k_is)
    (case c10 => k_is)
    (case k10 => k_is)
    (case a11 => k_is)
    (case l11 => k_is)
    (case c11 => k_is)
    (case k11 => k_is)
    (case a12 => k_is)
    (case l12 => k_is)
    (case c12 => k_is)
    (case k12 => k_is)
    (case a13 => k_is)
    (case l13 => k_is)
    (case c13 => k_is)
    (case k13 => k_is)
    (case a14 => k_is)
    (case i14 => k_is)
    (case l14 => k_is)
    (case c14 => k_is)
    (case k14 => k_is)
    (case a15 => k_is)
    (case l15 => k_is)
    (case c15 => k_is)
    (case k15 => k_is)
    (case a16 => k_is)
    (case l16 => k_is)
    (case c16 => k_is)
    (case k16 => k_is)
    (case a17 => k_is)
    (case l17 => k_is)
    (case c17 => k_is)
    (case k17 => k_is)
    (case a18 => k_is)
    (case l18 => k_is)
    (case c18 => k_is)
    (case k18 => k_is)
    (case a19 => k_is)
    (case l19 => k_is)
    (case c19 => k_is)
    (case k19 => k_is)
    (case a20 => k_is)
    (case i20 => k_is)
    (case l20 => k_is)
    (case c20 => k_is)
    (case k20 => k_is)
    (case a21 => k_is)
    (case i21 => k_is)
    (case l21 => k_is)
    (case c21 => k_is)
    (case k21 => k_is)
    (case a22 => k_is)
    (case l22 => k_is)
    (case c22 => k_is)
    (case k22 => k_is)
    (case a23 => k_is)
    (case l23 => k_is)
    (case c23 => k_is)
    (case k23 => k_is)
    (case a24 => k_is)
    (case i24 => k_is)
    (case l24 => k_is)
    (case c24 => k_is)
    (case k24 => k_is)
    (case a25 => k_is)
    (case l25 => k_is)
    (case c25 => k_is)
    (case k25 => k_is)
    (case a26 => k_is)
    (case l26 => k_is)
    (case c26 => k_is)
    (case k26 => k_is)
    (case a27 => k_is)
    (case i27 => k_is)
    (case l27 => k_is)
    (case c27 => k_is)
    (case k27 => k_is)
    (case a28 => k_is)
    (case i28 => k_is)
    (case l28 => k_is)
    (case c28 => k_is)
    (case k28 => k_is)
    (case a29 => k_is)
    (case i29 => k_is)
    (case l29 => k_is)
    (case c29 => k_is)
    (case k29 => k_is)
    (case a30 => k_is)
    (case l30 => k_is)
    (case c30 => k_is)
    (case k30 => k_is)
    (case a31 => k_is)
    (case l31 => k_is)
    (case c31 => k_is)
    (case k31 => k_is)
    (case a32 => k_is)
    (case pa32 => k_is)
    (case pb32 => k_is)
    (case pc32 => k_is)
    (case l32 => k_is)
    (case c32 => k_is)
    (case k32 => k_is)
    (case a33 => k_is)
    (case l33 => k_is)
    (case c33 => k_is)
    (case k33 => k_is)
    (case a34 => k_is)
    (case l34 => k_is)
    (case c34 => k_is)
    (case k34 => k_is)
    (case a35 => k_is)
    (case l35 => k_is)
    (case c35 => k_is)
    (case k35 => k_is)
    (case a36 => k_is)
    (case l36 => k_is)
    (case c36 => k_is)
    (case k36 => k_is)
    (case hb_abs => k_is)
    (case hb_all => k_is)
    (case hb_bool => k_is)
    (case hb_dict => k_is)
    (case hb_divmod => k_is)
    (case hb_int => k_is)
    (case hb_isinstance => k_is)
    (case hb_len => k_is)
    (case hb_list => k_is)
    (case hb_max => k_is)
    (case hb_min => k_is)
    (case hb_range => k_is)
    (case hb_repr => k_is)
    (case hb_sorted => k_is)
    (case hb_sum => k_is)
    (case hb_tuple => k_is)
    (case hc_MOST_DEGREE => k_is)
