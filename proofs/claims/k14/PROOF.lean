import PyProof.Rows.All
import Wide.All
import OpenK.AllK
import Wide.FinOn
import PySem.Challenge.RW_dipkin_k14_whole_all_small_trees
import HandS.ForMost
import HandS.Exc
import HandS.TryOnly
import HandS.ExcOwn
import HandS.WordsExc
import HandS.Wide
import HandS.Codes
import HandS.TupSets
import KE.GoesMore
import KE.KTupSum
import PyProof.StrOps2
set_option Elab.async false
set_option linter.all false
set_option maxRecDepth 100000
set_option maxHeartbeats 4000000

/-! Dk0: what each def of the program computes, as plain functions; the counts, checked. -/
namespace Dk

/-- the open places that a number closes (open ones: the last first), the last one gone -/
def popR (row : List Int) (x : Int) : List Nat → Option Nat → List Nat × Option Nat
  | [], g => ([], g)
  | p :: r, g => if x < row.getD p 0 then popR row x r (some p) else (p :: r, g)
def setGone (el : List Int) (i : Nat) : Option Nat → List Int
  | none => el
  | some p => el.set p (i : Int)
def setTop (el : List Int) (i : Nat) : List Nat → List Int
  | [] => el
  | q :: _ => el.set i (q : Int)
def treeTo (row : List Int) : Nat → List Int × List Nat
  | 0 => (List.replicate row.length (-1), [])
  | i + 1 =>
    let s := treeTo row i
    let r := popR row (row.getD i 0) s.2 none
    (setTop (setGone s.1 i r.2) i r.1, i :: r.1)
def treeOf (row : List Int) : List Int := (treeTo row row.length).1

/-- from here up to -1: n more places may be found -/
def wayUp (t : List Int) : Nat → Int → List Int → Option (List Int)
  | 0, here, found => if here = -1 then some found else none
  | n + 1, here, found => if here = -1 then some found else if here < 0 ∨ (t.length : Int) ≤ here then none else wayUp t n (t.getD here.toNat 0) (found ++ [here])
def wayOf (t : List Int) (i : Nat) : Option (List Int) := wayUp t t.length (t.getD i 0) []
def behind (w : List Int) (i : Nat) : List Int := w.filter fun o => decide ((i : Int) < o)
def flatTo (t : List Int) : Nat → Option (List Int)
  | 0 => some []
  | i + 1 => match flatTo t i with
    | none => none
    | some ns => match wayOf t i with
      | none => none
      | some w => some (ns ++ [((behind w i).length : Int)])
def flatOf (t : List Int) : Option (List Int) := flatTo t t.length
def isTree (t : List Int) : Bool := decide (t.length ≤ 40) && match flatOf t with
  | none => false
  | some ns => treeOf ns == t

/-- drops found so far, the numbers that are open -/
def dropsTo (row : List Int) : Nat → List Int × List Int
  | 0 => ([], [])
  | i + 1 =>
    let s := dropsTo row i
    let x := row.getD i 0
    let left := s.2.filter fun o => decide (o ≤ x)
    (s.1 ++ [(s.2.length : Int) - (left.length : Int)], left ++ [x])
def dropsRow (row : List Int) : List Int := (dropsTo row row.length).1
def dropsOf (t : List Int) : List Int := dropsRow ((flatOf t).getD [])
/-- brackets: true is the closing one -/
def brOne (d : Int) : List Bool := List.replicate d.toNat true ++ [false]
def brOf (ds : List Int) : List Bool := (ds.map brOne).flatten ++ List.replicate ((ds.length : Int) - ds.sum).toNat true

def hungTo (ds : List Int) : Nat → Option (List Int × List Nat)
  | 0 => some (List.replicate ds.length (-1), [])
  | i + 1 => match hungTo ds i with
    | none => none
    | some s =>
      let d := ds.getD i 0
      if d < 0 ∨ (s.2.length : Int) < d then none
      else
        let el := if 0 < d then s.1.set (s.2.getD (d.toNat - 1) 0) (i : Int) else s.1
        let r := s.2.drop d.toNat
        some (setTop el i r, i :: r)
def hung (ds : List Int) : Option (List Int) := (hungTo ds ds.length).map (·.1)
def byDrops (ds : List Int) : Option (List Int) := if ds.length ≤ 40 then hung ds else none

def distTo (ds : List Int) : Nat → Option (List Int × List Int)
  | 0 => some ([], [])
  | i + 1 => match distTo ds i with
    | none => none
    | some s =>
      let far := ds.getD i 0
      let left := s.2.filter fun o => decide (o ≤ (i : Int) - far)
      if far = 0 then some (s.1 ++ [(s.2.length : Int) - 0], [(i : Int)])
      else if left.drop (left.length - 1) = [(i : Int) - far] then some (s.1 ++ [(s.2.length : Int) - (left.length : Int)], left ++ [(i : Int)])
      else none
def dropsDist (ds : List Int) : Option (List Int) := (distTo ds ds.length).map (·.1)
def byDist (ds : List Int) : Option (List Int) := if ds.length ≤ 40 then (dropsDist ds).bind hung else none

/-- drops read off brackets, the closing ones since -/
def brTo : List Bool → List Int × Int → List Int × Int
  | [], s => s
  | false :: r, s => brTo r (s.1 ++ [s.2], 0)
  | true :: r, s => brTo r (s.1, s.2 + 1)
def brEnd (bs : List Bool) : List Int × Int := brTo bs ([], 0)
def byBr (bs : List Bool) : Option (List Int) :=
  let s := brEnd bs
  if 40 < s.1.length then none else if s.1.sum + s.2 = (s.1.length : Int) then hung s.1 else none

/-! ### the law's own -/
def digTo (b : Int) (c : Int) : Nat → List Int × Int
  | 0 => ([], c)
  | i + 1 => let s := digTo b c i; (s.1 ++ [s.2 % b], s.2 / b)
def digits (c : Int) (n : Nat) : List Int := (digTo 5 c n).1
def codes (n : Nat) : List (List Int) := (List.range (5 ^ n)).map fun (c : Nat) => digits (c : Int) n
def bitOf (c : Int) (k : Nat) : Bool := decide (c / 2 ^ k % 2 = 1)
def text (c : Int) (m : Nat) : List Bool := (List.range m).map fun k => bitOf c k
def texts (n : Nat) : List (List Bool) := (List.range (2 ^ (2 * n))).map fun (c : Nat) => text (c : Int) (2 * n)
def cats : List Int := [1, 1, 2, 5, 14, 42]
def due (n : Nat) : Int := cats.getD n 0
def noTwo : List (List Int) → Bool
  | [] => true
  | x :: r => !(r.any fun y => x == y) && noTwo r
def okTrees (n : Nat) (ts : List (List Int)) : Bool := decide ((ts.length : Int) = due n) && (noTwo ts && ts.all isTree)
def less (t : List Int) : List Int := t.map fun d => d - 1
def okTuples (n : Nat) : Bool := decide ((((codes n).map less).filter isTree).length = (due n).toNat)

def good (bs : List Bool) : Bool := match byBr bs with
  | none => false
  | some t => isTree t && brOf (dropsOf t) == bs
def opens (bs : List Bool) : Nat := bs.countP fun b => !b
def shuts (bs : List Bool) : Nat := bs.countP fun b => b
def allGood (n : Nat) : Nat → List Bool → Bool
  | 0, bs => good bs
  | f + 1, bs => (!decide (opens bs < n) || allGood n f (bs ++ [false])) && ((decide (opens bs < n) && decide (opens bs = shuts bs)) || allGood n f (bs ++ [true]))

end Dk

/-! Dk0b: the counts, checked by the kernel. -/
namespace Dk
def okWays (n : Nat) : Bool := okTrees n ((codes n).filterMap byDrops) && (okTrees n ((codes n).filterMap byDist) && okTrees n ((texts n).filterMap byBr))
theorem w0 : okWays 0 = true := by decide +kernel
theorem w1 : okWays 1 = true := by decide +kernel
theorem w2 : okWays 2 = true := by decide +kernel
theorem w3 : okWays 3 = true := by decide +kernel
theorem w4 : okWays 4 = true := by decide +kernel
theorem w5 : okWays 5 = true := by decide +kernel
theorem u0 : okTuples 0 = true := by decide +kernel
theorem u1 : okTuples 1 = true := by decide +kernel
theorem u2 : okTuples 2 = true := by decide +kernel
theorem u3 : okTuples 3 = true := by decide +kernel
theorem u4 : okTuples 4 = true := by decide +kernel
end Dk

/-! Dk0c: the drawn texts, checked by the kernel. -/
namespace Dk
theorem ag_both {n f : Nat} {bs : List Bool} (a : allGood n f (bs ++ [false]) = true) (b : allGood n f (bs ++ [true]) = true) : allGood n (f + 1) bs = true := by
  show (_ && _) = true; rw [a, b, Bool.or_true, Bool.or_true]; rfl
theorem ag_open {n f : Nat} {bs : List Bool} (a : allGood n f (bs ++ [false]) = true) (e : (decide (opens bs < n) && decide (opens bs = shuts bs)) = true) : allGood n (f + 1) bs = true := by
  show (_ && _) = true; rw [a, e, Bool.or_true]; rfl
theorem g5 : allGood 5 10 [] = true := by decide +kernel
theorem g6 : allGood 6 12 [] = true := by decide +kernel
theorem g7_ffff : allGood 7 10 [false, false, false, false] = true := by decide +kernel
theorem g7_ffft : allGood 7 10 [false, false, false, true] = true := by decide +kernel
theorem g7_fftf : allGood 7 10 [false, false, true, false] = true := by decide +kernel
theorem g7_fftt : allGood 7 10 [false, false, true, true] = true := by decide +kernel
theorem g7_ftff : allGood 7 10 [false, true, false, false] = true := by decide +kernel
theorem g7_ftft : allGood 7 10 [false, true, false, true] = true := by decide +kernel
theorem g7 : allGood 7 14 [] = true := (ag_open (ag_both (ag_both (ag_both g7_ffff g7_ffft) (ag_both g7_fftf g7_fftt)) (ag_open (ag_both g7_ftff g7_ftft) (by decide))) (by decide))
theorem g8_ffffff : allGood 8 10 [false, false, false, false, false, false] = true := by decide +kernel
theorem g8_ffffft : allGood 8 10 [false, false, false, false, false, true] = true := by decide +kernel
theorem g8_fffftf : allGood 8 10 [false, false, false, false, true, false] = true := by decide +kernel
theorem g8_fffftt : allGood 8 10 [false, false, false, false, true, true] = true := by decide +kernel
theorem g8_ffftff : allGood 8 10 [false, false, false, true, false, false] = true := by decide +kernel
theorem g8_ffftft : allGood 8 10 [false, false, false, true, false, true] = true := by decide +kernel
theorem g8_fffttf : allGood 8 10 [false, false, false, true, true, false] = true := by decide +kernel
theorem g8_fffttt : allGood 8 10 [false, false, false, true, true, true] = true := by decide +kernel
theorem g8_fftfff : allGood 8 10 [false, false, true, false, false, false] = true := by decide +kernel
theorem g8_fftfft : allGood 8 10 [false, false, true, false, false, true] = true := by decide +kernel
theorem g8_fftftf : allGood 8 10 [false, false, true, false, true, false] = true := by decide +kernel
theorem g8_fftftt : allGood 8 10 [false, false, true, false, true, true] = true := by decide +kernel
theorem g8_ffttff : allGood 8 10 [false, false, true, true, false, false] = true := by decide +kernel
theorem g8_ffttft : allGood 8 10 [false, false, true, true, false, true] = true := by decide +kernel
theorem g8_ftffff : allGood 8 10 [false, true, false, false, false, false] = true := by decide +kernel
theorem g8_ftffft : allGood 8 10 [false, true, false, false, false, true] = true := by decide +kernel
theorem g8_ftfftf : allGood 8 10 [false, true, false, false, true, false] = true := by decide +kernel
theorem g8_ftfftt : allGood 8 10 [false, true, false, false, true, true] = true := by decide +kernel
theorem g8_ftftff : allGood 8 10 [false, true, false, true, false, false] = true := by decide +kernel
theorem g8_ftftft : allGood 8 10 [false, true, false, true, false, true] = true := by decide +kernel
theorem g8 : allGood 8 16 [] = true := (ag_open (ag_both (ag_both (ag_both (ag_both (ag_both g8_ffffff g8_ffffft) (ag_both g8_fffftf g8_fffftt)) (ag_both (ag_both g8_ffftff g8_ffftft) (ag_both g8_fffttf g8_fffttt))) (ag_both (ag_both (ag_both g8_fftfff g8_fftfft) (ag_both g8_fftftf g8_fftftt)) (ag_open (ag_both g8_ffttff g8_ffttft) (by decide)))) (ag_open (ag_both (ag_both (ag_both g8_ftffff g8_ftffft) (ag_both g8_ftfftf g8_ftfftt)) (ag_open (ag_both g8_ftftff g8_ftftft) (by decide))) (by decide))) (by decide))
end Dk

/-! Dk1: rules beside the layer's: enumerate over a list or a tuple, sum of a tuple, a text times a number, len(set of tuples), == of ints in lists and tuples. -/
namespace Dk
open PySem PySem.Spec PyProof.Rows L2
/-! ### enumerate -/
/-- each item in a new pair, while G stands -/
def ItE (G : Hp → Prop) (xs : List V) : It :=
  ⟨fun i H => G H ∧ i < xs.length, fun i H v H' => ∃ T x, v = .ref T ∧ H T = none ∧ H' = upd H T (.tup [.int (i : Nat), x]) ∧ xs[i]? = some x, fun i H => G H ∧ i = xs.length⟩
theorem turn_eL {P : Program} {w : World} {K : PySem.W.Frag} {elts : List Expr} {kk : Nat} {tpos : Pos} {xs : List V} (a e it : Addr) :
    Turn P w K (.Tuple elts kk tpos) (ItE (fun H => SqL K H a xs) xs) [e, it] e (fun i h => (∃ old, IsEnum h e it ((i : Nat) : Int) old) ∧ h.IsListIter it a i ∧ e ≠ it) where
  mem := (turn_enum (P := P) (w := w) (K := K) (elts := elts) (kk := kk) (tpos := tpos) a e it).mem
  obj := (turn_enum (P := P) (w := w) (K := K) (elts := elts) (kk := kk) (tpos := tpos) a e it).obj
  keep := (turn_enum (P := P) (w := w) (K := K) (elts := elts) (kk := kk) (tpos := tpos) a e it).keep
  item := fun X hP hw hK hc i pins s σ H E I hf st hg => by
    obtain ⟨hG, hlt⟩ := hg
    have hx : xs[i]? = some xs[i] := List.getElem?_eq_getElem hlt
    refine thn ((turn_enum (P := P) (w := w) (K := K) (elts := elts) (kk := kk) (tpos := tpos) a e it).item X hP hw hK hc i pins s σ H E I hf st ⟨xs, _, hG, hx⟩) fun r s1 ⟨u, hr, h1⟩ => ⟨u, hr, ?_⟩
    refine thn h1 fun _ s2 ⟨x, H', I', rx, y, t, f⟩ => ⟨x, H', I', rx, ?_, t, f⟩
    obtain ⟨T, z, e1, e2, e3, e4⟩ := y
    exact ⟨T, z, e1, e2, e3, e4 xs hG⟩
  done := fun X hP hw hK hc i pins s σ H E I hf st hg => (turn_enum (P := P) (w := w) (K := K) (elts := elts) (kk := kk) (tpos := tpos) a e it).done X hP hw hK hc i pins s σ H E I hf st ⟨xs, hg.1, Nat.le_of_eq hg.2.symm⟩
  self := (turn_enum (P := P) (w := w) (K := K) (elts := elts) (kk := kk) (tpos := tpos) a e it).self
theorem turn_eT {P : Program} {w : World} {K : PySem.W.Frag} {elts : List Expr} {kk : Nat} {tpos : Pos} {xs : List V} (a e it : Addr) :
    Turn P w K (.Tuple elts kk tpos) (ItE (fun H => SqT K H a xs) xs) [e, it] e (fun i h => (∃ old, IsEnum h e it ((i : Nat) : Int) old) ∧ h.IsTupleIter it a i ∧ e ≠ it ∧ a ≠ it ∧ e ≠ a) where
  mem := by simp
  obj := fun i h st b hb => by
    obtain ⟨⟨old, he⟩, ⟨o, ho, hc, hd⟩, _⟩ := st
    have e' : b = e ∨ b = it := by simpa using hb
    rcases e' with z | z
    · rw [z]; exact ⟨_, he, fun v q => nomatch q⟩
    · rw [z]; exact ⟨o, ho, fun v q => by rw [hd] at q; cases q⟩
  keep := fun i h h' st k => let ⟨⟨old, he⟩, hi, hne⟩ := st; ⟨⟨old, k e (by simp) _ he⟩, hi.at fun o q => k it (by simp) o q, hne⟩
  item := by
    intro X hP hw hK hc i pins s σ H E I hf st hg
    subst hP hw hK
    obtain ⟨⟨old, he⟩, hit, hne, hai, hea⟩ := st
    obtain ⟨hq, hlt⟩ := hg
    have hx : xs[i]? = some xs[i] := List.getElem?_eq_getElem hlt
    obtain ⟨its, rv, p, hz⟩ := I.tuple hq
    have hlen := rv.length
    obtain ⟨u, hu, ru⟩ := rv.get hx
    have hel : e < s.heap.objs.size := Heap.lt_size he
    have hil : it < s.heap.objs.size := by obtain ⟨_, q, _⟩ := hit; exact Heap.lt_size q
    have D := Draws.tuple (prog := X.prog) (w := X.w) (A := X.A.in1) (I.ok.hd hc) it a hai its.toArray
    refine wpAny_pyNext_enum_itemD D he ⟨hit, show s.heap.IsTuple a its.toArray from p⟩ (by simp only [List.size_toArray]; omega) hne (by simp [hne, hea]) fun x h' tk hPx ho hit' hT hsz hk => ?_
    have hPx : its.toArray[i]? = some x := hPx
    have ex : x = u := by
      rw [List.getElem?_toArray, hu] at hPx
      exact (Option.some.inj hPx).symm
    subst ex
    refine ⟨_, rfl, wpAny_letOwnedTupleGo_enum (s := { s with heap := h', toks := tk + 1 }) ho fun h'' he' sb => ?_⟩
    have hT2 : h''.get? s.heap.objs.size = some { cls := .type "tuple", data := .seq #[.int i tk, x] } := (sb.2 _ (Nat.ne_of_gt hel)).trans hT
    have new : ObjOk X.prog X.w (upd H s.heap.objs.size (.tup [.int (i : Nat), xs[i]])) h'' s.heap.objs.size (.tup [.int (i : Nat), xs[i]]) :=
      ⟨by show 2 ≤ sizeLine; decide, [.int i tk, x], .cons ⟨_, rfl⟩ (.cons ru .nil), ⟨_, hT2, rfl, _, rfl⟩⟩
    have I1 : Inv X pins σ (upd H s.heap.objs.size (.tup [.int (i : Nat), xs[i]])) { s with heap := h'', toks := tk + 1 } :=
      I.turnedNew (ch := [e, it]) (fun b ob hb q => (sb.2 b (fun z => hb (by simp [z]))).trans (hk b ob (fun z => hb (by simp [z])) (fun z => hb (by simp [z])) q)) hf (Nat.le_refl _) new
    refine ⟨.ref s.heap.objs.size, _, I1, rfl, ⟨_, _, rfl, I.hok.fresh (Nat.le_refl _), rfl, hx⟩, ⟨⟨x, ?_⟩, hit'.1.at fun o q => (sb.2 it (Ne.symm hne)).trans q, hne, hai, hea⟩, fun b hb => ?_⟩
    · have e1 : ((i + 1 : Nat) : Int) = (i : Int) + 1 := by omega
      rw [e1]; exact he'
    · have hb' : b < s.heap.objs.size := by
        have e' : b = e ∨ b = it := by simpa using hb
        rcases e' with z | z
        · rw [z]; exact hel
        · rw [z]; exact hil
      rw [upd_ne (Nat.ne_of_lt hb')]
      exact (hf b hb).1
  done := by
    intro X hP hw hK hc i pins s σ H E I hf st hg
    subst hP hw hK
    obtain ⟨⟨old, he⟩, hit, hne, hai, hea⟩ := st
    obtain ⟨hq, hx⟩ := hg
    obtain ⟨its, rv, p, hz⟩ := I.tuple hq
    obtain ⟨f0, f1, f2, f3, f4, f5⟩ := hf it (by simp)
    have hl := rv.length
    subst hx
    have D := Draws.tuple (prog := X.prog) (w := X.w) (A := X.A.in1) (I.ok.hd hc) it a hai its.toArray
    have e0 : its.toArray.size = xs.length := by rw [List.size_toArray]; omega
    refine wpAny_pyNext_enum_endD D he ?_ fun h' eb => ⟨rfl, I.turned (t' := s.toks) (fun b o hb q => eb b o hb q) f0 f1 f3 f4 f5⟩
    rw [e0]
    exact ⟨hit, p⟩
  self := fun A i s Q E st h => let ⟨⟨_, he⟩, _⟩ := st; wpAny_pyIter_enum he h

open Sem (wp) in
open AutoSeq1 (wpAny_loadPart') in
theorem meets_enum_newT (l : Addr) (items : Array Value) (n : Nat) (dct : Option Addr) (sl : Array (Option Value)) :
    Meets (Builtin.«enumerate.__new__» ⟨[.type "enumerate", .ref l], []⟩) (fun _ R s => s.heap.get? l = some { cls := .type "tuple", dict := dct, data := .seq items n, slots := sl } ∧
      R (.ok (.ret (.ref (s.heap.push { cls := .type "tuple_iterator", data := .fields #[.ref l, .int 0 0] }).objs.size)))
        { s with heap := (s.heap.push { cls := .type "tuple_iterator", data := .fields #[.ref l, .int 0 0] }).push { cls := .type "enumerate", data := .fields #[.none, .bool false, .ref s.heap.objs.size, rawInt 0, .none, .none] } }) :=
  .of_wp fun prog w A R s h => by
    obtain ⟨hp, g, d, tk, os⟩ := s; obtain ⟨hl, h⟩ := h
    have hsub := sub_enumerate
    have hL : Heap.IsTuple (Shared.heap ⟨hp, g, d, tk, os⟩) l items := ⟨_, hl, rfl, n, rfl⟩
    wp_walk using wpAny_loadPart' hl
    refine wpAny_stack_any fun st => wpAny_pure ?_
    split
    · rename_i c _ _ _ _ _
      cases (c == Value.type "enumerate")
      · wp_walk using wpAny_loadPart' hl, wpAny_pyIter_tuple hL
        exact ⟨_, rfl, h⟩
      · wp_walk using wpAny_loadPart' hl, wpAny_pyIter_tuple hL
        exact ⟨_, rfl, h⟩
    · wp_walk using wpAny_loadPart' hl, wpAny_pyIter_tuple hL
      exact ⟨_, rfl, h⟩
theorem call_enumerate_tuple {prog : Program} {w : World} {A : Around} {E : Value → Shared → Prop} {s : Shared} {l : Addr} {items : Array Value} {Q : Value → Shared → Prop} (hL : s.heap.IsTuple l items)
    (h : ∀ h', IsEnum h' (s.heap.objs.size + 1) s.heap.objs.size 0 .none → h'.IsTupleIter s.heap.objs.size l 0 → h'.objs.size = s.heap.objs.size + 2 →
      (∀ b o, s.heap.get? b = some o → h'.get? b = some o) → Q (.ref (s.heap.objs.size + 1)) { s with heap := h' }) :
    wpAny (model prog w) A (call (.type "enumerate") [.ref l]) Q E s := by
  obtain ⟨⟨c, dct, dt, sl⟩, hl, hc, n, hd⟩ := hL
  replace hc : c = .type "tuple" := hc
  replace hd : dt = .seq items n := hd
  subst hc hd
  refine callType_new F.called_enumerate (by decide) (F.typeCall_enumerate_1 _) (F.newCall_enumerate_1 _) (fun obj => F.args_object_init_2 obj _) F.entry_enumerate_new
    (meets_enum_newT l items n dct sl) ⟨hl, ?_⟩
  have hz : (s.heap.push { cls := .type "tuple_iterator", data := .fields #[.ref l, .int 0 0] }).objs.size = s.heap.objs.size + 1 := Heap.size_push ..
  show _ ∧ _
  rw [hz]
  have he : IsEnum ((s.heap.push { cls := .type "tuple_iterator", data := .fields #[.ref l, .int 0 0] }).push
      { cls := .type "enumerate", data := .fields #[.none, .bool false, .ref s.heap.objs.size, rawInt 0, .none, .none] }) (s.heap.objs.size + 1) s.heap.objs.size 0 .none := by
    have := Heap.get?_push_size (s.heap.push { cls := .type "tuple_iterator", data := .fields #[.ref l, .int 0 0] })
      (o := { cls := .type "enumerate", data := .fields #[.none, .bool false, .ref s.heap.objs.size, rawInt 0, .none, .none] }) rfl
    rw [hz] at this; exact this
  refine ⟨⟨_, he, rfl⟩, h _ he ⟨_, Heap.get?_push_of_some _ (Heap.get?_push_size _ rfl), rfl, rfl⟩ (by rw [Heap.size_push, hz]) fun b o x => Heap.get?_push_of_some _ (Heap.get?_push_of_some _ x)⟩

/-- xs stands at a, as a list or as a tuple -/
def IsG (K : PySem.W.Frag) (a : Addr) (xs : List V) (G : Hp → Prop) : Prop := G = (fun H => SqL K H a xs) ∨ G = (fun H => SqT K H a xs)
/-- enumerate(xs), xs a list or a tuple -/
def iEnumS (K : PySem.W.Frag) (ta : TA) : TI := fun σ H R => ta σ H fun vs H1 => ∃ a xs G, vs = [.ref a] ∧ IsG K a xs G ∧ G H1 ∧ R (ItE G xs) H1
theorem pi_enumS {X : Cx} {e : Expr} {ta : TA} {p pos tpos : Pos} {elts : List Expr} {kk : Nat} (hg : Gl X "enumerate") (hm : X.mg "enumerate" = none) (ha : PA X [e] ta) (hs : starEach [e] X.env = [(false, eval e X.env)] := by rfl) :
    PI X (.Tuple elts kk tpos) (.Call (.Name "enumerate" p) [e] [] pos) (iEnumS X.K ta) := by
  refine ⟨fun pins s σ H R I h => ?_⟩
  refine Call_ (ld_blt I hg hm boot_enumerate (PyProof.Rows.callWith_type1 (thn (ha.run pos pins s σ H _ I h) fun us s1 ⟨vs, H1, I1, r1, q1⟩ => ?_) hs rfl))
  obtain ⟨a, xs, G, ex, hG, hq, q⟩ := q1
  subst ex
  have fresh2 : ∀ b, b ∈ [s1.heap.objs.size + 1, s1.heap.objs.size] → FpOk X pins H1 b := fun b hb => by
    have e' : b = s1.heap.objs.size + 1 ∨ b = s1.heap.objs.size := by simpa using hb
    have hle : s1.heap.objs.size ≤ b := by
      rcases e' with z | z
      · rw [z]; exact Nat.le_add_right _ _
      · rw [z]; exact Nat.le_refl _
    exact I1.fpOk hle (I1.hok.fresh hle)
  cases r1 with
  | cons r rr =>
    cases rr
    cases r
    rcases hG with e | e
    · subst e
      obtain ⟨its, rv, p', hz⟩ := I1.list hq
      refine call_enumerate_list p'.isList fun h' he hit hsz hk => wpAny_pyIter_enum he ?_
      have I2 : Inv X pins σ H1 { s1 with heap := h' } := I1.kept (t' := s1.toks) hk
      exact ⟨s1.heap.objs.size + 1, [s1.heap.objs.size + 1, s1.heap.objs.size], _, _, H1, rfl, I2, turn_eL a (s1.heap.objs.size + 1) s1.heap.objs.size, ⟨⟨.none, he⟩, hit, Nat.succ_ne_self _⟩, fresh2, q⟩
    · subst e
      obtain ⟨its, rv, p', hz⟩ := I1.tuple hq
      have hal : a < s1.heap.objs.size := by obtain ⟨_, q, _⟩ := p'; exact Heap.lt_size q
      refine call_enumerate_tuple (show s1.heap.IsTuple a its.toArray from p') fun h' he hit hsz hk => wpAny_pyIter_enum he ?_
      have I2 : Inv X pins σ H1 { s1 with heap := h' } := I1.kept (t' := s1.toks) hk
      exact ⟨s1.heap.objs.size + 1, [s1.heap.objs.size + 1, s1.heap.objs.size], _, _, H1, rfl, I2, turn_eT a (s1.heap.objs.size + 1) s1.heap.objs.size, ⟨⟨.none, he⟩, hit, Nat.succ_ne_self _, Nat.ne_of_lt hal, Nat.ne_of_gt (Nat.lt_succ_of_lt hal)⟩, fresh2, q⟩
/-- a loop over enumerate -/
theorem for_enumS {G : Hp → Prop} {xs : List V} {g : TG} {tb : TS} {D : Ends} {σ : L2.St} {H : Hp} (Pv : Nat → L2.St → Hp → Prop) (h0 : Pv 0 σ H) (hG : ∀ i σ H, Pv i σ H → G H)
    (hs : ∀ (i : Nat) (x : V) (T : Addr) (σ : L2.St) (H : Hp), xs[i]? = some x → Pv i σ H → H T = none → g (.ref T) σ (upd H T (.tup [.int (i : Nat), x])) fun σ2 H2 => tb { D with nx := Pv (i + 1), ct := Pv (i + 1), bk := D.nx } σ2 H2) (hd : ∀ σ H, Pv xs.length σ H → D.nx σ H) :
    ∃ W : Nat → Nat → L2.St → Hp → Prop, (∃ m, W 0 m σ H) ∧ ∀ i m σ H, W i m σ H →
      ((ItE G xs).stop i H ∧ D.nx σ H) ∨ ((ItE G xs).go i H ∧ ∃ N : L2.St → Hp → Prop, (∀ σ' H', N σ' H' → ∃ m', m' < m ∧ W (i + 1) m' σ' H') ∧ ∀ v H', (ItE G xs).yld i H v H' → g v σ H' fun σ2 H2 => tb { D with nx := N, ct := N, bk := D.nx } σ2 H2) := by
  refine ⟨fun i m σ H => m = xs.length - i ∧ i ≤ xs.length ∧ Pv i σ H, ⟨xs.length, rfl, Nat.zero_le _, h0⟩, ?_⟩
  rintro i m σ H ⟨rfl, hi, p⟩
  by_cases hlt : i < xs.length
  · refine .inr ⟨⟨hG i σ H p, hlt⟩, Pv (i + 1), fun σ' H' p' => ⟨xs.length - (i + 1), by omega, rfl, hlt, p'⟩, fun v H' y => ?_⟩
    obtain ⟨T, x, rfl, hT, rfl, hx⟩ := y
    exact hs i x T σ H hx p hT
  · have e : i = xs.length := by omega
    subst e
    exact .inl ⟨⟨hG _ σ H p, rfl⟩, hd σ H p⟩
/-! ### a list or a tuple, walked -/
def ItS (G : Hp → Prop) (xs : List V) : It :=
  ⟨fun i H => G H ∧ i < xs.length, fun i H v H' => H' = H ∧ xs[i]? = some v, fun i H => G H ∧ i = xs.length⟩
theorem turn_sL {P : Program} {w : World} {K : PySem.W.Frag} {tg : Expr} {xs : List V} (a it : Addr) : Turn P w K tg (ItS (fun H => SqL K H a xs) xs) [it] it (fun i h => h.IsListIter it a i) where
  mem := (turn_list (P := P) (w := w) (K := K) (tg := tg) a it).mem
  obj := (turn_list (P := P) (w := w) (K := K) (tg := tg) a it).obj
  keep := (turn_list (P := P) (w := w) (K := K) (tg := tg) a it).keep
  item := fun X hP hw hK hc i pins s σ H E I hf st hg => by
    obtain ⟨hG, hlt⟩ := hg
    have hx : xs[i]? = some xs[i] := List.getElem?_eq_getElem hlt
    refine thn ((turn_list (P := P) (w := w) (K := K) (tg := tg) a it).item X hP hw hK hc i pins s σ H E I hf st ⟨xs, _, hG, hx⟩) fun r s1 ⟨u, hr, h1⟩ => ⟨u, hr, ?_⟩
    exact thn h1 fun _ s2 ⟨x, H', I', rx, y, t, f⟩ => ⟨x, H', I', rx, ⟨y.1, y.2 xs hG⟩, t, f⟩
  done := fun X hP hw hK hc i pins s σ H E I hf st hg => (turn_list (P := P) (w := w) (K := K) (tg := tg) a it).done X hP hw hK hc i pins s σ H E I hf st ⟨xs, hg.1, Nat.le_of_eq hg.2.symm⟩
  self := (turn_list (P := P) (w := w) (K := K) (tg := tg) a it).self
theorem turn_sT {P : Program} {w : World} {K : PySem.W.Frag} {tg : Expr} {xs : List V} (a it : Addr) : Turn P w K tg (ItS (fun H => SqT K H a xs) xs) [it] it (fun i h => h.IsTupleIter it a i) where
  mem := (turn_tuple (P := P) (w := w) (K := K) (tg := tg) a it).mem
  obj := (turn_tuple (P := P) (w := w) (K := K) (tg := tg) a it).obj
  keep := (turn_tuple (P := P) (w := w) (K := K) (tg := tg) a it).keep
  item := fun X hP hw hK hc i pins s σ H E I hf st hg => by
    obtain ⟨hG, hlt⟩ := hg
    have hx : xs[i]? = some xs[i] := List.getElem?_eq_getElem hlt
    refine thn ((turn_tuple (P := P) (w := w) (K := K) (tg := tg) a it).item X hP hw hK hc i pins s σ H E I hf st ⟨xs, _, hG, hx⟩) fun r s1 ⟨u, hr, h1⟩ => ⟨u, hr, ?_⟩
    exact thn h1 fun _ s2 ⟨x, H', I', rx, y, t, f⟩ => ⟨x, H', I', rx, ⟨y.1, y.2 xs hG⟩, t, f⟩
  done := fun X hP hw hK hc i pins s σ H E I hf st hg => (turn_tuple (P := P) (w := w) (K := K) (tg := tg) a it).done X hP hw hK hc i pins s σ H E I hf st ⟨xs, hg.1, Nat.le_of_eq hg.2.symm⟩
  self := (turn_tuple (P := P) (w := w) (K := K) (tg := tg) a it).self
def iSeq (K : PySem.W.Frag) (tl : TE) : TI := fun σ H R => tl σ H fun x H1 => ∃ a xs G, x = .ref a ∧ IsG K a xs G ∧ G H1 ∧ R (ItS G xs) H1
theorem pi_seq {X : Cx} {tg l : Expr} {tl : TE} (hl : PE X l tl) : PI X tg l (iSeq X.K tl) := by
  refine ⟨fun pins s σ H R I h => ?_⟩
  refine thn (hl.run pins s σ H _ I h) fun v s1 ⟨x, H1, I1, r1, q1⟩ => ?_
  obtain ⟨a, xs, G, e, hG, hq, q⟩ := q1
  subst e
  cases r1
  have fresh1 : ∀ b, b ∈ [s1.heap.objs.size] → FpOk X pins H1 b := fun b hb => by
    have e : b = s1.heap.objs.size := by simpa using hb
    subst e
    exact I1.fpOk (Nat.le_refl _) (I1.hok.fresh (Nat.le_refl _))
  rcases hG with e | e
  · subst e
    obtain ⟨its, rv, p, hz⟩ := I1.list hq
    refine wpAny_pyIter_list p.isList ?_
    exact ⟨s1.heap.objs.size, [s1.heap.objs.size], _, _, H1, rfl, I1.kept (t' := s1.toks) fun b o e => Heap.get?_push_of_some _ e, turn_sL a _, ⟨_, Heap.get?_push_size _ rfl, rfl, rfl⟩, fresh1, q⟩
  · subst e
    obtain ⟨its, rv, p, hz⟩ := I1.tuple hq
    refine wpAny_pyIter_tuple (show s1.heap.IsTuple a its.toArray from p) ?_
    exact ⟨s1.heap.objs.size, [s1.heap.objs.size], _, _, H1, rfl, I1.kept (t' := s1.toks) fun b o e => Heap.get?_push_of_some _ e, turn_sT a _, ⟨_, Heap.get?_push_size _ rfl, rfl, rfl⟩, fresh1, q⟩
/-- a comprehension over such -/
theorem lc_seq {G : Hp → Prop} {xs : List V} {g : TG} {tt : TT} {te : TE} {vs : List Nat} {σ : L2.St} {H1 : Hp} {D : Addr} {Qd : Hp → Prop} (Pv : Nat → Hp → Prop) (h0 : Pv 0 (upd H1 D (.lst []))) (hl : ∀ i H, Pv i H → G H)
    (hs : ∀ i x H, xs[i]? = some x → Pv i H → g x (wipe σ vs) H fun σ2 H2 => wipe σ2 vs = wipe σ vs ∧ tt σ2 H2 fun b H3 =>
      if b = true then te σ2 H3 fun y H4 => ∃ acc, H4 D = some (.lst acc) ∧ acc.length < sizeLine ∧ Pv (i + 1) (upd H4 D (.lst (acc ++ [y]))) else Pv (i + 1) H3) (hd : ∀ H, Pv xs.length H → Qd H) :
    ∃ W : Nat → Nat → Hp → Prop, (∃ m, W 0 m (upd H1 D (.lst []))) ∧ ∀ i m H, W i m H →
      ((ItS G xs).stop i H ∧ Qd H) ∨ ((ItS G xs).go i H ∧ ∃ Nx : Hp → Prop, (∀ H', Nx H' → ∃ m', m' < m ∧ W (i + 1) m' H') ∧ ∀ x H', (ItS G xs).yld i H x H' → g x (wipe σ vs) H' fun σ2 H2 => wipe σ2 vs = wipe σ vs ∧ tt σ2 H2 fun b H3 =>
        if b = true then te σ2 H3 fun y H4 => ∃ acc, H4 D = some (.lst acc) ∧ acc.length < sizeLine ∧ Nx (upd H4 D (.lst (acc ++ [y]))) else Nx H3) := by
  refine ⟨fun i m H => m = xs.length - i ∧ i ≤ xs.length ∧ Pv i H, ⟨xs.length, by simp, Nat.zero_le _, h0⟩, ?_⟩
  rintro i m H ⟨rfl, hi, p⟩
  have q := hl i H p
  by_cases hlt : i < xs.length
  · refine .inr ⟨⟨q, hlt⟩, Pv (i + 1), fun H' p' => ⟨xs.length - (i + 1), by omega, rfl, hlt, p'⟩, fun x H' y => ?_⟩
    obtain ⟨e, y⟩ := y
    subst e
    exact hs i x _ y p
  · have e : i = xs.length := by omega
    subst e
    exact .inl ⟨⟨q, rfl⟩, hd H p⟩
end Dk

/-! Dk2: more rules beside the layer's: sum of a tuple, a text times a number, a call of a reckoned def, len of a set of tuples, == of ints in lists and tuples; words on heaps. -/
namespace Dk
open PySem PySem.Spec PyProof.Rows L2 TL
/-! ### heaps -/
theorem same_upd {H : Hp} {p : Addr} {o : HO} (h : H p = none) : Same H (upd H p o) := fun b x e => by
  rw [upd_ne (ne_of_none e h)]
  exact e
theorem same_seqT {K : PySem.W.Frag} {H H' : Hp} {a : Addr} {xs : List V} (e : Same H H') (h : SqT K H a xs) : SqT K H' a xs := by
  rcases h with (h | ⟨o, h⟩) | h
  · exact .inl (.inl (e _ _ h))
  · exact .inl (.inr ⟨o, e _ _ h⟩)
  · exact .inr h
/-- all but what stands at p is as it was -/
def SameBut (p : Addr) (H H' : Hp) : Prop := ∀ b o, b ≠ p → H b = some o → H' b = some o
theorem SameBut.refl (p : Addr) (H : Hp) : SameBut p H H := fun _ _ _ h => h
theorem SameBut.upd {p : Addr} {H H' : Hp} {o : HO} (s : SameBut p H H') : SameBut p H (upd H' p o) := fun b u n e => by
  rw [upd_ne n]; exact s b u n e
theorem SameBut.new {p q : Addr} {H H' : Hp} {o : HO} (s : SameBut p H H') (h : H' q = none) : SameBut p H (L2.upd H' q o) := fun b u n e => by
  rw [upd_ne (ne_of_none (s b u n e) h)]; exact s b u n e
theorem SameBut.trans {p : Addr} {H H1 H2 : Hp} (a : SameBut p H H1) (b : SameBut p H1 H2) : SameBut p H H2 := fun c o n h => b c o n (a c o n h)
/-- p was free: nothing of what stood is lost -/
theorem SameBut.same {p : Addr} {H H' : Hp} (s : SameBut p H H') (h : H p = none) : Same H H' := fun b o e => s b o (ne_of_none e h) e
theorem Same.but {p : Addr} {H H' : Hp} (s : Same H H') : SameBut p H H' := fun b o _ e => s b o e
theorem size_small {n : Nat} (h : n ≤ 1000000) : n < sizeLine := by rw [sizeLine_eq]; omega
theorem size_le {n : Nat} (h : n ≤ 1000000) : n ≤ sizeLine := Nat.le_of_lt (size_small h)
/-! ### sum -/
section
variable {X : Cx}
def rSumS (K : PySem.W.Frag) : List V → Hp → VK → Prop := fun vs H Q => ∃ (a : Addr) (ns : List Int), vs = [V.ref a] ∧ (SqL K H a (ns.map V.int) ∨ SqT K H a (ns.map V.int)) ∧ Q (.int ns.sum) H
theorem cr_sumS (hc : X.calm = true) : CallR X (.builtin "sum") (rSumS X.K) := by
  intro pins s σ H vs us Q I r h
  obtain ⟨a, ns, rfl, hs, q⟩ := h
  rw [Vals.ref1 r]
  rcases hs with hs | hs
  · obtain ⟨its, rv, hl, _⟩ := I.list hs
    exact sum_raw (I.ok.hd hc) hl.isList rv.ints fun h' tk t' hk => ⟨.int _, H, I.kept hk, ⟨_, rfl⟩, q⟩
  · obtain ⟨its, rv, hl, _⟩ := I.tuple hs
    have hi := rv.ints
    obtain ⟨xs, e⟩ := hi.allInts.items
    have hn : numsOf (intItems xs).toList = ns := by rw [← e]; exact hi.numsOf
    rw [nums_intItems] at hn
    rw [e] at hl
    refine PySem.W.ktm_sumG (I.ok.hd hc) (show s.heap.IsTuple a (intItems xs) from hl) fun h' tk t' hk => ?_
    rw [preSum_eq, List.take_of_length_le (by simp), hn]
    exact ⟨.int _, H, I.kept hk, ⟨_, rfl⟩, q⟩
/-! ### a text times a number -/
theorem tl_rep (x : Str) : ∀ (n : Nat) (acc : Array Nat), ((List.replicate n x.cps).foldl (· ++ ·) acc).toList = acc.toList ++ (List.replicate n (tl x)).flatten
  | 0, acc => by simp
  | n + 1, acc => by
    rw [List.replicate_succ, List.foldl_cons, tl_rep x n, List.replicate_succ, List.flatten_cons, Array.toList_append, List.append_assoc]
theorem op_mul_str : OpR X (binaryOp .Mult) (fun x y H Q => ∃ z n, x = .str z ∧ y = .int n ∧ z.length ≤ 1 ∧ -1000000 ≤ n ∧ n ≤ 1000000 ∧ ∀ r : Str, tl r = (List.replicate n.toNat (tl z)).flatten → Q (.str r) H) := by
  intro pins s σ H x y v u Q I rx ry h
  obtain ⟨z, n, rfl, rfl, hz, h0, h1, q⟩ := h
  obtain ⟨t, rfl⟩ := rx
  obtain ⟨t', rfl⟩ := ry
  have hl : sizeLine = 16777216 := sizeLine_eq
  refine PySem.P.mul_str ?_ (fun hn hb => ?_) (fun hn hb => ?_) ?_
  · have e1 : decide (n < -(2 ^ 63 : Int)) = false := decide_eq_false (by omega)
    have e2 : decide (n ≥ 2 ^ 63) = false := decide_eq_false (by omega)
    rw [e1, e2]; rfl
  · have : (1 : Int) ≤ (2 ^ 63 - 1) / n := by
      refine Int.le_ediv_of_mul_le (by omega) ?_
      omega
    omega
  · have h2 : z.length * n.toNat ≤ 1 * 1000000 := Nat.mul_le_mul hz (by omega)
    unfold Builtin.Str.tooLong
    exact decide_eq_false (by omega)
  · by_cases hn : n < 1
    · rw [if_pos hn]
      refine ⟨by decide, ⟨.str _, H, I.tok _, ⟨_, rfl⟩, q _ ?_⟩⟩
      have e0 : n.toNat = 0 := by omega
      rw [e0]; rfl
    · rw [if_neg hn]
      by_cases hb : (n == 1 || z.length == 0) = true
      · rw [if_pos hb]
        refine ⟨.str z, H, I, ⟨_, rfl⟩, q _ ?_⟩
        rcases Bool.or_eq_true_iff.mp hb with e | e
        · have e' : n = 1 := by simpa using e
          subst e'
          show tl z = (List.replicate 1 (tl z)).flatten
          simp
        · have e' : z.length = 0 := by simpa using e
          have e2 : tl z = [] := List.eq_nil_of_length_eq_zero (by rw [← len_tl]; exact e')
          rw [e2]
          simp
      · rw [if_neg hb]
        have e3 := tl_rep z n.toNat #[]
        have e4 : tl (⟨(List.replicate n.toNat z.cps).foldl (· ++ ·) #[]⟩ : Str) = (List.replicate n.toNat (tl z)).flatten := by
          show ((List.replicate n.toNat z.cps).foldl (· ++ ·) #[]).toList = _
          rw [e3]; simp
        refine ⟨?_, ⟨.str _, H, I.tok _, ⟨_, rfl⟩, q _ e4⟩⟩
        rw [len_tl, e4, List.length_flatten, List.map_replicate, List.sum_replicate_nat, ← len_tl, hl]
        have h2 : n.toNat * z.length ≤ 1000000 * 1 := Nat.mul_le_mul (by omega) hz
        omega
/-! ### a call of a def that is reckoned: [f, g, h][i](e) -/
/-- the def at f keeps the promise sp, which may let errors out -/
structure HeldX (X : Cx) (f : Addr) (sp : Sp) : Prop where
  ex : ∃ (k : Nat) (fd : FuncData) (ps : List Str), Room k X.A ∧ FnOk X.prog X.w X.K X.mg X.base (L2.CX X.prog X.w) k f fd ps sp ∧ PySem.W.keepIn X.K (.ref f) = true ∧ Binds X.K fd ps []
def tCallF (S : Addr → Sp → Prop) (E : L2.St → XK) (tf : TE) (t : TA) : TE := fun σ H Q => tf σ H fun x H1 => ∃ f sp, x = .ref f ∧ S f sp ∧ t σ H1 fun vs H2 => sp vs H2 Q (E σ)
theorem pe_callF {a b e : Expr} {es : List Expr} {p2 pos : Pos} {tf : TE} {t : TA} {S : Addr → Sp → Prop} {E : L2.St → XK} (hf : PE X (.Subscript a b p2) tf) (A : ∀ f sp, S f sp → HeldX X f sp) (hx : ∀ σ, PassesAt (L2.CX X.prog X.w) X σ (E σ)) (ha : PA X (e :: es) t)
    (he : starEach (e :: es) X.env = (false, eval e X.env) :: starEach es X.env := by rfl) (hpl : (backTo pos (starEach es X.env)).any (·.1) = false := by rfl) :
    PE X (.Call (.Subscript a b p2) (e :: es) [] pos) (tCallF S E tf t) := by
  refine ⟨fun pins s σ H Q I h => ?_⟩
  refine Call_ (thn (hf.run pins s σ H _ I h) fun u s1 ⟨v, H1, I1, r1, f, sp, e1, hS, q⟩ => ?_)
  subst e1
  cases r1
  obtain ⟨k, fd, ps, hr, F, hk, hb⟩ := (A f sp hS).ex
  refine PySem.W.callWith_K (h₀ := X.base) I1.ok.mod.kin hk (thn (ha.run pos pins s1 σ _ _ I1 q) fun us s2 ⟨vs, H2, I2, r, q⟩ => ⟨I2.kIn, ?_⟩) he hpl
  exact run_fnS F hr hb (hx σ) I2 r q
/-! ### len(set of tuples) -/
theorem cr_lenSetT (hu : X.A.units + 64 < cLine) : CallR X (.builtin "len") (fun vs H Q => ∃ (a : Addr) (L : List (Addr × List Int)), vs = [V.ref a] ∧ H a = some (SetTO X.prog X.w a L) ∧ (∀ p ∈ L, SqT X.K H p.1 (p.2.map V.int)) ∧
    ((L.map (·.2)).Nodup → Q (.int L.length) H)) := by
  intro pins s σ H vs us Q I r h
  obtain ⟨a, L, rfl, ha, hk, q⟩ := h
  have R0 : SetT0 X.prog X.w s.heap a L := (I.hok a _ ha).1
  obtain ⟨es, ep, t, R⟩ := R0.full fun p hp => I.isT (hk p hp)
  rw [Vals.ref1 r]
  obtain ⟨o, ho, hex, hd⟩ := R.ob
  have hz : es.size = L.length := R.size
  have hf := R.few
  exact call_len_set ho hex hd R.fits (by omega) ⟨.int L.length, H, I.tok _, ⟨_, by rw [hz]⟩, q R.nd⟩
/-! ### == of ints in lists and tuples -/
theorem dp_ints {K : PySem.W.Frag} {H : Hp} : ∀ ns : List Int, DpAll K H (ns.map V.int) (ns.map PyData.int)
  | [] => .nil
  | n :: r => .cons (.int n) (dp_ints r)
theorem dp_tup {K : PySem.W.Frag} {H : Hp} {a : Addr} {ns : List Int} (h : SqT K H a (ns.map V.int)) : Dp K H (.ref a) (.tuple (ns.map PyData.int)) := .tup h (dp_ints ns)
theorem dp_lst {K : PySem.W.Frag} {H : Hp} {a : Addr} {ns : List Int} (h : SqL K H a (ns.map V.int)) : Dp K H (.ref a) (.list (ns.map PyData.int)) := .lst h (dp_ints ns)
theorem eqvAll_ints : ∀ ns ms : List Int, PyData.eqvAll (ns.map PyData.int) (ms.map PyData.int) = decide (ns = ms)
  | [], [] => rfl
  | [], _ :: _ => rfl
  | _ :: _, [] => rfl
  | n :: r, m :: q => by
    show (PyData.eqv (.int n) (.int m) && PyData.eqvAll (r.map PyData.int) (q.map PyData.int)) = _
    rw [eqvAll_ints r q]
    show ((n == m) && decide (r = q)) = _
    rw [Bool.eq_iff_iff]
    simp
theorem eqv_lst (ns ms : List Int) : PyData.eqv (.list (ns.map PyData.int)) (.list (ms.map PyData.int)) = decide (ns = ms) := by
  rw [← eqvAll_ints]; simp only [PyData.eqv]
theorem eqv_tup (ns ms : List Int) : PyData.eqv (.tuple (ns.map PyData.int)) (.tuple (ms.map PyData.int)) = decide (ns = ms) := by
  rw [← eqvAll_ints]; simp only [PyData.eqv]
theorem canLay_ints : ∀ ns : List Int, PyData.canLayAll0 (ns.map PyData.int) = true
  | [] => by simp [PyData.canLayAll0]
  | n :: r => by simp [PyData.canLayAll0, PyData.canLay0, canLay_ints r]
theorem depth_ints : ∀ ns : List Int, PyData.depthAll (ns.map PyData.int) = 0
  | [] => by simp [PyData.depthAll]
  | n :: r => by simp [PyData.depthAll, PyData.depth, depth_ints r]
theorem shaped_lst (ns : List Int) : SeqAt.shaped (.list (ns.map PyData.int)) = true := by
  simp [SeqAt.shaped, PyData.canLay0, PyData.depth, canLay_ints, depth_ints]
theorem shaped_tup (ns : List Int) : SeqAt.shaped (.tuple (ns.map PyData.int)) = true := by
  simp [SeqAt.shaped, PyData.canLay0, PyData.depth, canLay_ints, depth_ints]
/-- tuples of ints, lists of ints: == and != -/
theorem op_eqT (hu : X.A.units + 64 < cLine) : OpR X (compareOp .Eq) (fun x y H Q => ∃ (a b : Addr) (ns ms : List Int), x = .ref a ∧ y = .ref b ∧ SqT X.K H a (ns.map V.int) ∧ SqT X.K H b (ms.map V.int) ∧ Q (.bl (decide (ns = ms))) H) := by
  intro pins s σ H x y v u Q I rx ry h
  obtain ⟨a, b, ns, ms, rfl, rfl, h1, h2, q⟩ := h
  exact op_eqD hu pins s σ H _ _ v u Q I rx ry ⟨_, _, dp_tup h1, dp_tup h2, shaped_tup _, shaped_tup _, by rw [eqv_tup]; exact q⟩
theorem op_neL (hu : X.A.units + 64 < cLine) : OpR X (compareOp .NotEq) (fun x y H Q => ∃ (a b : Addr) (ns ms : List Int), x = .ref a ∧ y = .ref b ∧ SqL X.K H a (ns.map V.int) ∧ SqL X.K H b (ms.map V.int) ∧ Q (.bl (!decide (ns = ms))) H) := by
  intro pins s σ H x y v u Q I rx ry h
  obtain ⟨a, b, ns, ms, rfl, rfl, h1, h2, q⟩ := h
  exact op_neD hu pins s σ H _ _ v u Q I rx ry ⟨_, _, dp_lst h1, dp_lst h2, shaped_lst _, shaped_lst _, by rw [eqv_lst]; exact q⟩
end
end Dk

/-! Dk3: the text, callees in short, the law's small defs. -/
namespace Dk
open PySem PySem.Spec PyProof.Rows L2 TL
/-! ### the text -/
def topS (i : Nat) : Stmt := PySem.Challenge.pw_dipkin_k14_whole_all_small_trees.main.body.getD i (.Pass ⟨0, 0, 0, 0⟩)
abbrev sTreeOf : Stmt := topS 6
abbrev sWayUp : Stmt := topS 7
abbrev sFlat : Stmt := topS 8
abbrev sIsTree : Stmt := topS 9
abbrev sLook : Stmt := topS 10
abbrev sFlattest : Stmt := topS 12
abbrev sDropsOf : Stmt := topS 14
abbrev sBrackets : Stmt := topS 15
abbrev sHung : Stmt := topS 16
abbrev sByDrops : Stmt := topS 17
abbrev sDropsDist : Stmt := topS 18
abbrev sByDist : Stmt := topS 19
abbrev sByBr : Stmt := topS 20
abbrev sPot : Stmt := topS 22
abbrev sTake : Stmt := topS 23
abbrev sDigits : Stmt := topS 24
abbrev sPower : Stmt := topS 25
abbrev sMany : Stmt := topS 26
abbrev sLed : Stmt := topS 27
abbrev sCounted : Stmt := topS 28
abbrev sText : Stmt := topS 29
abbrev sLaw : Stmt := topS 30
/-! ### a callee, in short -/
structure Cal (P : Program) (w : World) (K : PySem.W.Frag) (mg : Str → Option Value) (base : Heap) (CX : CXT) (k : Nat) (x : Str) (ps : List Str) (sp : Sp) : Prop where
  ex : ∃ (f : Addr) (fd : FuncData), FnOk P w K mg base CX k f fd ps sp ∧ mg x = some (.ref f) ∧ PySem.W.keepIn K (.ref f) = true ∧ Binds K fd ps []
section
variable {X : Cx} {CX : CXT} {k : Nat} {ps : List Str} {sp : Sp} {E : XK} {x : Str} {p pos : Pos} {e : Expr} {es : List Expr} {t : TA}
theorem pe_cal (C : Cal X.prog X.w X.K X.mg X.base CX k x ps sp) (hr : Room k X.A) (hg : Gl X x) (hx : Passes CX X E) (ha : PA X (e :: es) t) (hdb : (x == ("__debug__" : Str)) = false := by decide)
    (he : starEach (e :: es) X.env = (false, eval e X.env) :: starEach es X.env := by rfl) (hpl : (backTo pos (starEach es X.env)).any (·.1) = false := by rfl) :
    PE X (.Call (.Name x p) (e :: es) [] pos) (tCall sp [] E t) := by
  obtain ⟨f, fd, G, g, kp, b⟩ := C.ex
  exact pe_call G hr hg g kp b .nil hx ha hdb he hpl
end
/-- which built-in names the module leaves alone -/
structure Blt (mg : Str → Option Value) : Prop where
  len : mg "len" = none
  range : mg "range" = none
  tuple : mg "tuple" = none
  enumerate : mg "enumerate" = none
  sum : mg "sum" = none
  max : mg "max" = none
  min : mg "min" = none
  set : mg "set" = none
  all : mg "all" = none
section
variable {P : Program} {w : World} {K : PySem.W.Frag} {mg : Str → Option Value} {base : Heap}
/-! ### _law_take -/
theorem scTake : FnScope ["pot", "many", "digit"] ["pot", "many"] (defScope sTake) := ⟨rfl, rfl, rfl, by decide +kernel, rfl, by decide +kernel, by decide +kernel⟩
def spTake : Sp := fun vs H Q _ => ∃ (p : Addr) (g m : Int), vs = [.ref p, .int m] ∧ H p = some (.lst [.int g]) ∧ 0 < m ∧ m < 1000 ∧ Q (.int (g % m)) (upd H p (.lst [.int (g / m)]))
theorem ok_take {f : Addr} {fd : FuncData} (F : Fun K "_law_take" "_law_take" sTake f fd) : FnOk P w K mg base CX0 1 f fd ["pot", "many"] spTake := by
  refine F.ok (k := 0) scTake (fun vs H Q E h => ?_) (fun cdv A outer s H vs Q E hr h => ?_)
  · obtain ⟨p, g, m, rfl, _⟩ := h
    rfl
  · obtain ⟨p, g, m, rfl, hp, h0, h1, q⟩ := h
    refine ⟨_, pss_cons (ps_set (i := 2) scTake.nd rfl (.inl rfl) (pe_op op_mod (pe_ix ix_list (pv 0) pe_int (fun _ _ => rfl)) (pv 1)))
      (pss_cons (ps_asg (pe_op op_fdiv (pe_ix ix_list (pv 0) pe_int (fun _ _ => rfl)) (pv 1)) (pg_sub (pv 0) pe_int set_list))
      (pss_one (ps_ret (pv 2)))), ?_⟩
    refine ⟨.ref p, rfl, p, _, 0, .int g, rfl, rfl, SqL.of hp, rfl, .int m, rfl, g, m, rfl, rfl, h0, ?_⟩
    refine ⟨.ref p, rfl, p, _, 0, .int g, rfl, rfl, SqL.of hp, rfl, .int m, rfl, g, m, rfl, rfl, ⟨h0, by omega⟩, ?_⟩
    refine ⟨.ref p, rfl, p, _, 0, 0, rfl, rfl, hp, rfl, ?_⟩
    exact ⟨.int (g % m), rfl, q⟩
/-! ### _law_power -/
theorem scPower : FnScope ["base", "many", "power", "place"] ["base", "many"] (defScope sPower) := ⟨rfl, rfl, rfl, by decide +kernel, rfl, by decide +kernel, by decide +kernel⟩
def spPower : Sp := fun vs H Q _ => ∃ (n : Nat), vs = [.int 5, .int n] ∧ n ≤ 5 ∧ Q (.int ((5 ^ n : Nat) : Int)) H
theorem ok_power {f : Addr} {fd : FuncData} (F : Fun K "_law_power" "_law_power" sPower f fd) (B : Blt mg) : FnOk P w K mg base CX0 1 f fd ["base", "many"] spPower := by
  refine F.ok (k := 0) scPower (fun vs H Q E h => ?_) (fun cdv A outer s H vs Q E hr h => ?_)
  · obtain ⟨n, rfl, _⟩ := h
    rfl
  · obtain ⟨n, rfl, hn, q⟩ := h
    refine ⟨_, pss_cons (ps_set (i := 2) scPower.nd rfl (.inl rfl) pe_int)
      (pss_cons (ps_for PassesOwn.never rfl (pi_range1 (by rfl) B.range (pa_cons (pv 1) pa_nil)) (pg_name (i := 3) scPower.nd rfl (.inl rfl))
        (pss_one (ps_set (i := 2) scPower.nd rfl (.inl rfl) (pe_op op_mul (pv 2) (pv 0)))))
      (pss_one (ps_ret (pv 2)))), ?_⟩
    refine ⟨.int n, rfl, n, rfl, by omega, by omega, ?_⟩
    rw [Int.toNat_natCast]
    refine for_range (lo := 0) (n := n) (fun i σ H' => ∃ y, σ = [some (.int 5), some (.int n), some (.int ((5 ^ i : Nat) : Int)), y] ∧ H' = H) ⟨none, rfl, rfl⟩ ?_ ?_
    · rintro i σ H' hi ⟨y, rfl, rfl⟩
      refine ⟨_, rfl, .int 5, rfl, _, _, rfl, rfl, .inr ⟨by decide, by decide⟩, some (.int (0 + (i : Int))), ?_, rfl⟩
      rw [Nat.pow_succ, Int.natCast_mul]
      rfl
    · rintro σ H' ⟨y, rfl, rfl⟩
      exact ⟨_, rfl, q⟩
/-! ### _law_digits -/
theorem scDigits : FnScope ["code", "base", "many", "digits", "place"] ["code", "base", "many"] (defScope sDigits) := ⟨rfl, rfl, rfl, by decide +kernel, rfl, by decide +kernel, by decide +kernel⟩
def spDigits : Sp := fun vs H Q _ => ∃ (c : Int) (n : Nat), vs = [.int c, .int 5, .int n] ∧ n ≤ 5 ∧ ∀ H' p, Same H H' → H p = none → H' p = some (.tup ((digits c n).map V.int)) → Q (.ref p) H'
theorem digTo_len (b c : Int) : ∀ n, (digTo b c n).1.length = n
  | 0 => rfl
  | n + 1 => by
    show ((digTo b c n).1 ++ [_]).length = n + 1
    rw [List.length_append, digTo_len b c n]; rfl
theorem ok_digits {f : Addr} {fd : FuncData} (F : Fun K "_law_digits" "_law_digits" sDigits f fd) (B : Blt mg) : FnOk P w K mg base CX0 1 f fd ["code", "base", "many"] spDigits := by
  refine F.ok (k := 0) scDigits (fun vs H Q E h => ?_) (fun cdv A outer s H vs Q E hr h => ?_)
  · obtain ⟨c, n, rfl, _⟩ := h
    rfl
  · obtain ⟨c, n, rfl, hn, q⟩ := h
    refine ⟨_, pss_cons (ps_set (i := 3) scDigits.nd rfl (.inl rfl) (pe_lst pa_nil))
      (pss_cons (ps_for PassesOwn.never rfl (pi_range1 (by rfl) B.range (pa_cons (pv 2) pa_nil)) (pg_name (i := 4) scDigits.nd rfl (.inl rfl))
        (pss_cons (ps_expr (pe_bm PySem.F.plainAttrs_list PySem.F.slot_list_append PySem.F.type_list_append mt_append (pv 3) (pa_cons (pe_op op_mod (pv 0) (pv 1)) pa_nil)))
        (pss_one (ps_set (i := 0) scDigits.nd rfl (.inl rfl) (pe_op op_fdiv (pv 0) (pv 1))))))
      (pss_one (ps_ret (pe_callTy call_tuple_of (by rfl) B.tuple (by decide +kernel) (pa_cons (pv 3) pa_nil))))), ?_⟩
    refine ⟨Nat.zero_le _, fun d nd => ?_⟩
    refine ⟨.int n, rfl, n, rfl, by omega, by omega, ?_⟩
    rw [Int.toNat_natCast]
    refine for_range (lo := 0) (n := n) (fun i σ H' => ∃ y, σ = [some (.int (digTo 5 c i).2), some (.int 5), some (.int n), some (.ref d), y] ∧ H' = upd H d (.lst ((digTo 5 c i).1.map V.int))) ⟨none, rfl, rfl⟩ ?_ ?_
    · rintro i σ H' hi ⟨y, rfl, rfl⟩
      refine ⟨.ref d, rfl, .inl ⟨rfl, _, SqL.of upd_same⟩, _, rfl, .int 5, rfl, _, _, rfl, rfl, (by show (0 : Int) < 5; decide), d, _, _, rfl, rfl, upd_same, ?_, ?_⟩
      · rw [List.length_map, digTo_len]
        exact size_small (by omega)
      · refine ⟨_, rfl, .int 5, rfl, _, _, rfl, rfl, ⟨by decide, by decide⟩, some (.int (0 + (i : Int))), rfl, ?_⟩
        rw [upd_upd]
        show _ = upd H d (.lst (((digTo 5 c i).1 ++ [_]).map V.int))
        rw [List.map_append]
        rfl
    · rintro σ H' ⟨y, rfl, rfl⟩
      refine ⟨.ref d, rfl, d, _, rfl, .inl ⟨SqL.of upd_same, fun p np => ?_⟩⟩
      refine q _ p ((same_upd nd).trans (same_upd np)) ((same_upd nd).free np) ?_
      rw [upd_same]
      rfl
/-! ### _law_many -/
theorem scMany : FnScope ["many", "found", "k", "j"] ["many"] (defScope sMany) := ⟨rfl, rfl, rfl, by decide +kernel, rfl, by decide +kernel, by decide +kernel⟩
def spMany : Sp := fun vs H Q _ => ∃ (n : Nat), vs = [.int n] ∧ n ≤ 5 ∧ ∀ H', Same H H' → Q (.int (due n)) H'
def prods (i m : Nat) : List Int := (List.range m).map fun j => cats.getD j 0 * cats.getD (i - j) 0
theorem cat_bd (m : Nat) : 0 ≤ cats.getD m 0 ∧ cats.getD m 0 ≤ 42 := by
  by_cases h : m < 6
  · have : ∀ m, m < 6 → 0 ≤ cats.getD m 0 ∧ cats.getD m 0 ≤ 42 := by decide
    exact this m h
  · rw [List.getD_eq_getElem?_getD, List.getElem?_eq_none (show cats.length ≤ m by show 6 ≤ m; omega)]
    decide
theorem cat_at {i m : Nat} (h : m ≤ i) (hi : i < 6) : ((cats.take (i + 1)).map V.int)[m]? = some (.int (cats.getD m 0)) := by
  have hm : m < cats.length := by show m < 6; omega
  rw [List.getElem?_map, List.getElem?_take_of_lt (by omega), List.getD_eq_getElem?_getD, List.getElem?_eq_getElem hm]
  rfl
theorem prods_sum : ∀ i, i < 5 → (prods i (i + 1)).sum = cats.getD (i + 1) 0 := by decide
theorem cat_more : ∀ i, i < 5 → cats.take (i + 1 + 1) = cats.take (i + 1) ++ [cats.getD (i + 1) 0] := by decide
theorem ok_many {f : Addr} {fd : FuncData} (F : Fun K "_law_many" "_law_many" sMany f fd) (B : Blt mg) : FnOk P w K mg base CX0 1 f fd ["many"] spMany := by
  refine F.ok (k := 0) scMany (fun vs H Q E h => ?_) (fun cdv A outer s H vs Q E hr h => ?_)
  · obtain ⟨n, rfl, _⟩ := h
    rfl
  · obtain ⟨n, rfl, hn, q⟩ := h
    refine ⟨_, pss_cons (ps_set (i := 1) scMany.nd rfl (.inr rfl) (pe_lst (pa_cons pe_int pa_nil)))
      (pss_cons (ps_for PassesOwn.never rfl (pi_range1 (by rfl) B.range (pa_cons (pv 0) pa_nil)) (pg_name (i := 2) scMany.nd rfl (.inr rfl))
        (pss_one (ps_expr (pe_bm PySem.F.plainAttrs_list PySem.F.slot_list_append PySem.F.type_list_append mt_append (pv 1)
          (pa_cons (pe_callB (cr_sum rfl) (by rfl) B.sum (by decide +kernel) (pa_cons
            (pe_lc (own := [("j", 3)]) (g := gName 3) (tt := tYes) (te := tOp (rI CMul fun i j => .int (i * j)) (tOp (rIxL K) (tVar 1) (tVar 3)) (tOp (rIxL K) (tVar 1) (tOp (rI0 fun i j => .int (i - j)) (tVar 2) (tVar 3)))) rfl scMany.nd (pi_range1 (by rfl) B.range (pa_cons (pe_op op_add (pv 2) pe_int) pa_nil))
              (blkOk_by (N := ["many", "found", "k", "j"]) (sc := defScope sMany) (by decide +kernel)) (fun _ _ _ _ _ => pg_name (i := 3) scMany.nd rfl (Or.inl rfl)) (fun _ _ _ _ _ => pts_nil)
              (fun _ _ _ _ _ => pe_op op_mul (pe_ix ix_list (pv 1) (pv 3) (fun _ _ => rfl)) (pe_ix ix_list (pv 1) (pe_op op_sub (pv 2) (pv 3)) (fun _ _ => rfl)))) pa_nil)) pa_nil)))))
      (pss_one (ps_ret (pe_ix ix_list (pv 1) (pv 0) (fun _ _ => rfl))))), ?_⟩
    refine ⟨size_le (by decide), fun d nd => ?_⟩
    refine ⟨.int n, rfl, n, rfl, by omega, by omega, ?_⟩
    rw [Int.toNat_natCast]
    refine for_range (lo := 0) (n := n) (fun i σ H' => ∃ y2, σ = [some (.int n), some (.ref d), y2, none] ∧ Same H H' ∧ H' d = some (.lst ((cats.take (i + 1)).map V.int))) ⟨none, rfl, same_upd nd, upd_same⟩ ?_ ?_
    · rintro i σ H' hi ⟨y2, rfl, sm, hd⟩
      refine ⟨.ref d, rfl, .inl ⟨rfl, _, SqL.of hd⟩, ?_⟩
      refine ⟨.int (0 + (i : Int)), rfl, 0 + (i : Int), 1, rfl, rfl, 0 + (i : Int) + 1, rfl, by omega, by omega, fun D nD => ?_⟩
      have e1 : (0 + (i : Int) + 1).toNat = i + 1 := by omega
      rw [e1]
      have ne : d ≠ D := ne_of_none hd nD
      refine lc_range (lo := 0) (n := i + 1) (fun m H'' => H'' = upd H' D (.lst ((prods i m).map V.int))) rfl ?_ ?_
      · rintro m H'' hm rfl
        have hdD : (upd H' D (.lst ((prods i m).map V.int))) d = some (.lst ((cats.take (i + 1)).map V.int)) := by rw [upd_ne ne]; exact hd
        refine ⟨rfl, ?_⟩
        refine ⟨.ref d, rfl, .int (0 + (m : Int)), rfl, d, _, _, _, rfl, rfl, SqL.of hdD, L2.at_of (j := m) (by omega) (cat_at (by omega) (by omega)), ?_⟩
        refine ⟨.ref d, rfl, .int (0 + (i : Int)), rfl, .int (0 + (m : Int)), rfl, _, _, rfl, rfl, d, _, _, _, rfl, rfl, SqL.of hdD, L2.at_of (j := i - m) (by omega) (cat_at (by omega) (by omega)), ?_⟩
        refine ⟨_, _, rfl, rfl, .inl ?_, ?_⟩
        · have := cat_bd m
          omega
        · refine ⟨_, upd_same, ?_, ?_⟩
          · rw [List.length_map, prods, List.length_map, List.length_range]
            exact size_small (by omega)
          · rw [upd_upd]
            have e2 : prods i (m + 1) = prods i m ++ [cats.getD m 0 * cats.getD (i - m) 0] := by
              unfold prods
              rw [List.range_succ, List.map_append]
              rfl
            rw [e2, List.map_append]
            rfl
      · rintro H'' rfl
        refine ⟨D, prods i (i + 1), rfl, SqL.of upd_same, ?_⟩
        have hdD : (upd H' D (.lst ((prods i (i + 1)).map V.int))) d = some (.lst ((cats.take (i + 1)).map V.int)) := by rw [upd_ne ne]; exact hd
        refine ⟨d, _, _, rfl, rfl, hdD, ?_, ?_⟩
        · rw [List.length_map]
          exact Nat.lt_of_le_of_lt (List.length_take_le _ _) (size_small (by omega))
        · refine ⟨some (.int (0 + (i : Int))), rfl, fun b o e => ?_, ?_⟩
          · rw [upd_ne (ne_of_none e nd)]
            exact (sm.trans (same_upd nD)) b o e
          · rw [upd_same, cat_more i (by omega), List.map_append, prods_sum i (by omega)]
            rfl
    · rintro σ H' ⟨y2, rfl, sm, hd⟩
      refine ⟨.ref d, rfl, .int n, rfl, d, _, _, _, rfl, rfl, SqL.of hd, atI_nat (cat_at (Nat.le_refl n) (by omega)), q H' sm⟩
/-! ### _law_pot -/
theorem scPot : FnScope ["script", "k", "cell", "great", "one", "turn"] ["script", "k"] (defScope sPot) := ⟨rfl, rfl, rfl, by decide +kernel, rfl, by decide +kernel, by decide +kernel⟩
def spPot (K : PySem.W.Frag) : Sp := fun vs H Q _ => ∃ (a : Addr) (ns : List Int) (k : Nat), vs = [.ref a, .int k] ∧ SqL K H a (ns.map V.int) ∧ k ≤ 63 ∧ ∀ H' p (g : Int), Same H H' → H p = none → H' p = some (.lst [.int g]) → Q (.ref p) H'
theorem pot1 : CMulW (10 ^ Int.toNat 60) (10 ^ Int.toNat 60) := by unfold CMulW; decide +kernel
theorem pot2 : CMulW (10 ^ Int.toNat 60 * 10 ^ Int.toNat 60) (10 ^ Int.toNat 60) := by unfold CMulW; decide +kernel
theorem pot3 : CMulW (10 ^ Int.toNat 60 * 10 ^ Int.toNat 60 * 10 ^ Int.toNat 60) (10 ^ Int.toNat 60) := by unfold CMulW; decide +kernel
theorem pot4 : (0 : Int) < 10 ^ Int.toNat 60 * 10 ^ Int.toNat 60 * 10 ^ Int.toNat 60 * 10 ^ Int.toNat 60 := by decide +kernel
theorem ok_pot {f : Addr} {fd : FuncData} (F : Fun K "_law_pot" "_law_pot" sPot f fd) (B : Blt mg) : FnOk P w K mg base CX0 1 f fd ["script", "k"] (spPot K) := by
  refine F.ok (k := 0) scPot (fun vs H Q E h => ?_) (fun cdv A outer s H vs Q E hr h => ?_)
  · obtain ⟨a, ns, k, rfl, _⟩ := h
    rfl
  · obtain ⟨a, ns, k, rfl, hS, hk, q⟩ := h
    refine ⟨_, pss_cons (ps_set (i := 2) scPot.nd rfl (.inl rfl) pe_int)
      (C8.pss_cut (ps_if (pt_cmpR op_lt (pv 1) (pe_callB call_len_seq (by rfl) B.len PySem.boot_len (pa_cons (pv 0) pa_nil)) (nomark _)) (pss_one (ps_set (i := 2) scPot.nd rfl (.inl rfl) (pe_ix ix_list (pv 0) (pv 1) (fun _ _ => rfl)))) pss_nil)
      (pss_cons (ps_if (pt_cmpR op_ge (pv 2) (pe_op op_pow pe_int pe_int) (nomark _))
        (pss_one (ps_ret (pe_lst (pa_cons (pe_op op_mod (pe_op op_sub (pv 2) (pe_op op_pow pe_int pe_int))
          (pe_op op_mulW (pe_op op_mulW (pe_op op_mulW (pe_op op_pow pe_int pe_int) (pe_op op_pow pe_int pe_int)) (pe_op op_pow pe_int pe_int)) (pe_op op_pow pe_int pe_int))) pa_nil)))) pss_nil)
      (pss_cons (ps_set (i := 3) scPot.nd rfl (.inl rfl) pe_int)
      (pss_cons (ps_set (i := 4) scPot.nd rfl (.inl rfl) (pe_op op_add (pe_op op_add (pe_op op_mod (pv 2) pe_int) (pe_op op_mul pe_int (pv 1))) pe_int))
      (pss_cons (ps_for PassesOwn.never rfl (pi_range1 (by rfl) B.range (pa_cons pe_int pa_nil)) (pg_name (i := 5) scPot.nd rfl (.inl rfl))
        (pss_cons (ps_set (i := 4) scPot.nd rfl (.inl rfl) (pe_op op_mod (pe_op op_add (pe_op op_add (pe_op op_mul (pv 4) pe_int) (pe_op op_mul pe_int (pv 5))) pe_int) pe_int))
        (pss_one (ps_set (i := 3) scPot.nd rfl (.inl rfl) (pe_op op_add (pe_op op_mul (pv 3) pe_int) (pe_op op_mod (pe_op op_fdiv (pe_op op_mod (pe_op op_mul (pv 4) (pv 4)) pe_int) pe_int) pe_int))))))
      (pss_one (ps_ret (pe_lst (pa_cons (pv 3) pa_nil))))))))), ?_⟩
    refine ⟨fun σ' H' => ∃ c : Int, σ' = [some (.ref a), some (.int k), some (.int c), none, none, none] ∧ H' = H, ?_, ?_⟩
    · refine ⟨.int k, rfl, .ref a, rfl, a, _, rfl, .inl hS, _, _, rfl, rfl, _, rfl, ite2 (fun e => ?_) (fun e => ?_)⟩
      · have e1 : (k : Int) < ((ns.map V.int).length : Nat) := of_decide_eq_true e
        rw [List.length_map] at e1
        have e2 : k < ns.length := by omega
        refine ⟨.ref a, rfl, .int k, rfl, a, _, k, .int ns[k], rfl, rfl, hS, atI_nat ?_, ns[k], rfl, rfl⟩
        rw [List.getElem?_map, List.getElem?_eq_getElem e2]
        rfl
      · exact ⟨0, rfl, rfl⟩
    · rintro σ' H' ⟨c, rfl, rfl⟩
      have c10 : CPow 10 18 := ⟨by decide, by decide, by decide⟩
      have c60 : CPow 10 60 := ⟨by decide, by decide, by decide⟩
      refine ⟨.int c, rfl, 10, 18, rfl, rfl, c10, c, _, rfl, rfl, _, rfl, ite2 (fun e => ?_) (fun e => ?_)⟩
      · refine ⟨.int c, rfl, 10, 18, rfl, rfl, c10, c, _, rfl, rfl, ?_⟩
        refine ⟨10, 60, rfl, rfl, c60, 10, 60, rfl, rfl, c60, _, _, rfl, rfl, pot1, 10, 60, rfl, rfl, c60, _, _, rfl, rfl, pot2, 10, 60, rfl, rfl, c60, _, _, rfl, rfl, pot3, ?_⟩
        refine ⟨_, _, rfl, rfl, pot4, size_le (by show 1 ≤ 1000000; decide), fun p np => ?_⟩
        exact q _ p _ (same_upd np) np upd_same
      · refine ⟨.int c, rfl, c, 2147483647, rfl, rfl, (by show (0 : Int) < 2147483647; decide), .int k, rfl, 271, k, rfl, rfl, .inl ⟨by decide, by decide⟩, _, _, rfl, rfl, _, 65537, rfl, rfl, ?_⟩
        refine ⟨50, rfl, by decide, by decide, ?_⟩
        refine for_range (lo := 0) (n := 50) (fun i σ H2 => ∃ (g o : Int) (y : Option V), σ = [some (.ref a), some (.int k), some (.int c), some (.int g), some (.int o), y] ∧ H2 = H') ⟨0, _, none, rfl, rfl⟩ ?_ ?_
        · rintro i σ H' hi ⟨g, o, y, rfl, rfl⟩
          refine ⟨.int o, rfl, o, 48271, rfl, rfl, .inr ⟨by decide, by decide⟩, .int (0 + (i : Int)), rfl, 7919, 0 + (i : Int), rfl, rfl, .inl ⟨by decide, by decide⟩, _, _, rfl, rfl, _, 104729, rfl, rfl, _, 2147483647, rfl, rfl, (by show (0 : Int) < 2147483647; decide), ?_⟩
          have b0 : 0 ≤ (o * 48271 + 7919 * (0 + (i : Int)) + 104729) % 2147483647 := Int.emod_nonneg _ (by decide)
          have b1 : (o * 48271 + 7919 * (0 + (i : Int)) + 104729) % 2147483647 < 2147483647 := Int.emod_lt_of_pos _ (by decide)
          have hb : CMul ((o * 48271 + 7919 * (0 + (i : Int)) + 104729) % 2147483647) ((o * 48271 + 7919 * (0 + (i : Int)) + 104729) % 2147483647) := .inl ⟨by omega, by omega⟩
          refine ⟨.int g, rfl, g, 1048576, rfl, rfl, .inr ⟨by decide, by decide⟩, _, rfl, _, rfl, _, _, rfl, rfl, hb, _, 2147483629, rfl, rfl, (by show (0 : Int) < 2147483629; decide), _, 128, rfl, rfl, ⟨by decide, by decide⟩, _, 1048576, rfl, rfl, (by show (0 : Int) < 1048576; decide), _, _, rfl, rfl, ?_⟩
          exact ⟨_, _, _, rfl, rfl⟩
        · rintro σ H' ⟨g, o, y, rfl, rfl⟩
          refine ⟨_, rfl, size_le (by show 1 ≤ 1000000; decide), fun p np => ?_⟩
          exact q _ p g (same_upd np) np upd_same
end
end Dk

/-! Dk4: tree_of. -/
namespace Dk
open PySem PySem.Spec PyProof.Rows L2 TL
/-! ### plain facts -/
theorem popR_sub (row : List Int) (x : Int) : ∀ (rs : List Nat) (g : Option Nat), (∀ q ∈ (popR row x rs g).1, q ∈ rs) ∧ (∀ p, (popR row x rs g).2 = some p → g = some p ∨ p ∈ rs)
  | [], g => ⟨fun _ h => h, fun p h => .inl h⟩
  | q :: r, g => by
    unfold popR
    by_cases h : x < row.getD q 0
    · rw [if_pos h]
      obtain ⟨h1, h2⟩ := popR_sub row x r (some q)
      refine ⟨fun y hy => List.mem_cons_of_mem _ (h1 y hy), fun p hp => ?_⟩
      rcases h2 p hp with e | e
      · cases e; exact .inr List.mem_cons_self
      · exact .inr (List.mem_cons_of_mem _ e)
    · rw [if_neg h]
      exact ⟨fun _ h => h, fun p h => .inl h⟩
theorem popR_len (row : List Int) (x : Int) : ∀ (rs : List Nat) (g : Option Nat), (popR row x rs g).1.length ≤ rs.length
  | [], g => Nat.le_refl _
  | q :: r, g => by
    unfold popR
    by_cases h : x < row.getD q 0
    · rw [if_pos h]
      exact Nat.le_succ_of_le (popR_len row x r (some q))
    · rw [if_neg h]
      exact Nat.le_refl _
theorem treeTo_cnt (row : List Int) : ∀ i, (treeTo row i).2.length ≤ i
  | 0 => Nat.le_refl _
  | i + 1 => Nat.succ_le_succ (Nat.le_trans (popR_len row (row.getD i 0) (treeTo row i).2 none) (treeTo_cnt row i))
theorem setGone_len (el : List Int) (i : Nat) (g : Option Nat) : (setGone el i g).length = el.length := by
  cases g with
  | none => rfl
  | some p => exact List.length_set
theorem setTop_len (el : List Int) (i : Nat) (rs : List Nat) : (setTop el i rs).length = el.length := by
  cases rs with
  | nil => rfl
  | cons q r => exact List.length_set
theorem treeTo_len (row : List Int) : ∀ i, (treeTo row i).1.length = row.length
  | 0 => List.length_replicate
  | i + 1 => by
    show (setTop (setGone (treeTo row i).1 i _) i _).length = row.length
    rw [setTop_len, setGone_len, treeTo_len row i]
theorem treeTo_lt (row : List Int) : ∀ i, ∀ q ∈ (treeTo row i).2, q < i
  | 0, _, h => nomatch h
  | i + 1, q, h => by
    have h' : q ∈ i :: (popR row (row.getD i 0) (treeTo row i).2 none).1 := h
    rcases List.mem_cons.mp h' with e | e
    · omega
    · have := treeTo_lt row i q ((popR_sub row (row.getD i 0) (treeTo row i).2 none).1 q e)
      omega
/-- the open places as Python holds them -/
def opensI (rs : List Nat) : List Int := rs.reverse.map fun (n : Nat) => (n : Int)
theorem opensI_cons (p : Nat) (r : List Nat) : (opensI (p :: r)).map V.int = (opensI r).map V.int ++ [V.int (p : Int)] := by
  unfold opensI
  rw [List.reverse_cons, List.map_append, List.map_append]
  rfl
theorem opensI_ne (p : Nat) (r : List Nat) : opensI (p :: r) ≠ [] := by
  unfold opensI
  simp
theorem opensI_len (rs : List Nat) : (opensI rs).length = rs.length := by
  unfold opensI
  simp
theorem last_get {α : Type} (xs : List α) (v : α) : (xs ++ [v])[(xs ++ [v]).length - 1]? = some v := by
  rw [List.length_append, List.length_singleton, Nat.add_sub_cancel, List.getElem?_append_right (Nat.le_refl _), Nat.sub_self]
  rfl
theorem ixN_nat {n p : Nat} (h : p < n) : ixN n (p : Int) = some p := by
  unfold ixN
  rw [if_pos (by omega), if_pos (by omega), Int.toNat_natCast]
theorem getI {ns : List Int} {i : Nat} (h : i < ns.length) : (ns.map V.int)[i]? = some (.int (ns.getD i 0)) := by
  rw [List.getElem?_map, List.getD_eq_getElem?_getD, List.getElem?_eq_getElem h]
  rfl
theorem getI_eq {ns : List Int} {i : Nat} {v : V} (h : (ns.map V.int)[i]? = some v) : i < ns.length ∧ v = .int (ns.getD i 0) := by
  have hi : i < ns.length := by
    have := (List.getElem?_eq_some_iff.mp h).1
    rwa [List.length_map] at this
  rw [getI hi] at h
  exact ⟨hi, (Option.some.inj h).symm⟩
theorem map_set (ns : List Int) (i : Nat) (x : Int) : (ns.map V.int).set i (V.int x) = (ns.set i x).map V.int := (List.map_set).symm
theorem same_put {H H1 : Hp} {o : Addr} {u : HO} (s : Same H H1) (no : H o = none) : Same H (upd H1 o u) := fun b z e => by
  rw [upd_ne (ne_of_none e no)]
  exact s b z e
def gV : Option Nat → V
  | none => .non
  | some p => .int (p : Int)
/-- within the while of tree_of -/
def WPop (H : Hp) (ns : List Int) (a e o : Addr) (i m : Nat) (σ : L2.St) (H' : Hp) : Prop := ∃ (rs : List Nat) (g : Option Nat), m = rs.length ∧ popR ns (ns.getD i 0) (treeTo ns i).2 none = popR ns (ns.getD i 0) rs g ∧ (∀ q ∈ rs, q < ns.length) ∧
  σ = [some (.ref a), some (.int (ns.getD i 0)), some (.ref e), some (.ref o), some (.int (i : Nat)), some (gV g)] ∧ Same H H' ∧ H' e = some (.lst ((treeTo ns i).1.map V.int)) ∧ H' o = some (.lst ((opensI rs).map V.int))
/-- behind it -/
def MPop (H : Hp) (ns : List Int) (a e o : Addr) (i : Nat) (σ : L2.St) (H' : Hp) : Prop := ∃ (rs : List Nat) (g : Option Nat), popR ns (ns.getD i 0) (treeTo ns i).2 none = (rs, g) ∧
  σ = [some (.ref a), some (.int (ns.getD i 0)), some (.ref e), some (.ref o), some (.int (i : Nat)), some (gV g)] ∧ Same H H' ∧ H' e = some (.lst ((treeTo ns i).1.map V.int)) ∧ H' o = some (.lst ((opensI rs).map V.int))
section
variable {P : Program} {w : World} {K : PySem.W.Frag} {mg : Str → Option Value} {base : Heap}
theorem scTreeOf : FnScope ["row", "number", "elders", "still_open", "place", "gone"] ["row"] (defScope sTreeOf) := ⟨rfl, rfl, rfl, by decide +kernel, rfl, by decide +kernel, by decide +kernel⟩
def spTreeOf (K : PySem.W.Frag) : Sp := fun vs H Q _ => ∃ (a : Addr) (ns : List Int), vs = [.ref a] ∧ SqL K H a (ns.map V.int) ∧ ns.length ≤ 40 ∧ ∀ H' p, Same H H' → H p = none → H' p = some (.tup ((treeOf ns).map V.int)) → Q (.ref p) H'
theorem ok_treeOf {f : Addr} {fd : FuncData} (F : Fun K "tree_of" "tree_of" sTreeOf f fd) (B : Blt mg) : FnOk P w K mg base CX0 1 f fd ["row"] (spTreeOf K) := by
  refine F.ok (k := 0) scTreeOf (fun vs H Q E h => ?_) (fun cdv A outer s H vs Q E hr h => ?_)
  · obtain ⟨a, ns, rfl, _⟩ := h
    rfl
  · obtain ⟨a, ns, rfl, hS, hn, q⟩ := h
    refine ⟨_, pss_cons (ps_setLc (i := 2) (own := [("number", 1)]) (g := gName 1) (tt := tYes) (te := tUn (rU fun i => .int (-i)) (tC (.int 1))) rfl scTreeOf.nd rfl rfl (sw_true rfl rfl rfl (by decide +kernel)) (pi_list (pv 0))
        (blkOk_by (N := ["row", "number", "elders", "still_open", "place", "gone"]) (sc := defScope sTreeOf) (by decide +kernel)) (fun _ _ _ _ _ => pg_name (i := 1) scTreeOf.nd rfl (Or.inl rfl)) (fun _ _ _ _ _ => pts_nil)
        (fun _ _ _ _ _ => pe_un un_neg pe_int))
      (pss_cons (ps_set (i := 3) scTreeOf.nd rfl (.inl rfl) (pe_lst pa_nil))
      (pss_cons (ps_for PassesOwn.never rfl (pi_enumS (by rfl) B.enumerate (pa_cons (pv 0) pa_nil)) (pg_tup rfl (pgs_cons (pg_name (i := 4) scTreeOf.nd rfl (.inl rfl)) (pgs_cons (pg_name (i := 1) scTreeOf.nd rfl (.inl rfl)) pgs_nil)))
        (pss_cons (ps_set (i := 5) scTreeOf.nd rfl (.inl rfl) pe_non)
        (C8.pss_cut (ps_while PassesOwn.never (PW.pt (pw_and (pt_cmpR (op_neL hr.units) (pv 3) (pe_lst pa_nil) (nomark _)) (pw_and1 (pt_cmpR op_gt (pe_ix ix_list (pv 0) (pe_ix ix_list (pv 3) (pe_un un_neg pe_int) (fun _ _ => rfl)) (fun _ _ => rfl)) (pv 1) (nomark _)))))
          (pss_one (ps_set (i := 5) scTreeOf.nd rfl (.inl rfl) (pe_bm0 PySem.F.plainAttrs_list PySem.F.slot_list_pop PySem.F.type_list_pop mt_pop (pv 3)))))
        (C8.pss_cut (ps_if (pt_cmpR op_notN (pv 5) pe_non (nomark _)) (pss_one (ps_asg (pv 4) (pg_sub (pv 2) (pv 5) set_list))) pss_nil)
        (C8.pss_cut (ps_if (pt_cmpR (op_neL hr.units) (pv 3) (pe_lst pa_nil) (nomark _)) (pss_one (ps_asg (pe_ix ix_list (pv 3) (pe_un un_neg pe_int) (fun _ _ => rfl)) (pg_sub (pv 2) (pv 4) set_list))) pss_nil)
        (pss_one (ps_expr (pe_bm PySem.F.plainAttrs_list PySem.F.slot_list_append PySem.F.type_list_append mt_append (pv 3) (pa_cons (pv 4) pa_nil)))))))))
      (pss_one (ps_ret (pe_callTy call_tuple_of (by rfl) B.tuple (by decide +kernel) (pa_cons (pv 2) pa_nil)))))), ?_⟩
    refine ⟨.ref a, rfl, a, rfl, ⟨_, hS⟩, fun e ne => lc_list (K := K) (a := a) (xs := ns.map V.int) (fun i H' => H' = upd H e (.lst ((List.replicate i (-1 : Int)).map V.int))) rfl ?_ ?_ ?_⟩
    · rintro i H' _ rfl
      exact (same_upd ne).seq hS
    · rintro i x H' hx rfl
      obtain ⟨hi, rfl⟩ := getI_eq hx
      refine ⟨rfl, ?_⟩
      refine ⟨1, rfl, _, upd_same, ?_, ?_⟩
      · rw [List.length_map, List.length_replicate]
        exact size_small (by omega)
      · rw [upd_upd, List.replicate_succ', List.map_append]
        rfl
    · rintro H' rfl
      rw [List.length_map]
      refine ⟨Nat.zero_le _, fun o no => ?_⟩
      have no' : H o = none := (same_upd ne).free no
      have eo : e ≠ o := fun z => by rw [z, upd_same] at no; cases no
      refine ⟨.ref a, rfl, a, ns.map V.int, _, rfl, .inl rfl, (same_put (same_upd ne) no').seq hS, for_enumS (fun i σ H' => ∃ y1 y4 y5, σ = [some (.ref a), y1, some (.ref e), some (.ref o), y4, y5] ∧ Same H H' ∧
        H' e = some (.lst ((treeTo ns i).1.map V.int)) ∧ H' o = some (.lst ((opensI (treeTo ns i).2).map V.int))) ⟨none, none, none, rfl, same_put (same_upd ne) no', ?_, upd_same⟩ (fun i σ H' ⟨_, _, _, _, sm, _⟩ => sm.seq hS) ?_ ?_⟩
      · rw [upd_ne eo, upd_same]
        rfl
      · rintro i x T σ H' hx ⟨y1, y4, y5, rfl, sm, he, ho⟩ nT
        obtain ⟨hi, rfl⟩ := getI_eq hx
        have sT := same_upd (o := HO.tup [.int (i : Nat), .int (ns.getD i 0)]) nT
        refine ⟨T, _, rfl, SqT.of upd_same, rfl, .int (i : Nat), [_], rfl, _, [], rfl, rfl, ?_⟩
        refine ⟨MPop H ns a e o i, ⟨WPop H ns a e o i, ⟨_, (treeTo ns i).2, none, rfl, rfl, fun q hq => Nat.lt_trans (treeTo_lt ns i q hq) hi, rfl, sm.trans sT, sT _ _ he, sT _ _ ho⟩, ?_⟩, ?_⟩
        · rintro m σ' H2 ⟨rs, g, rfl, hp, hq, rfl, sm2, he2, ho2⟩
          refine ⟨.ref o, rfl, Nat.zero_le _, fun z nz => ?_⟩
          have s3 := same_upd (o := HO.lst []) nz
          refine ⟨o, z, opensI rs, [], rfl, rfl, SqL.of (s3 _ _ ho2), SqL.of upd_same, _, rfl, ?_⟩
          cases rs with
          | nil =>
            refine ite2 (fun c => absurd c (by decide)) (fun _ => ?_)
            exact ⟨[], g, hp, rfl, sm2.trans s3, s3 _ _ he2, s3 _ _ ho2⟩
          | cons p r =>
            refine ite2 (fun _ => ?_) (fun c => absurd (by rw [decide_eq_false (opensI_ne p r)]; rfl) c)
            have ho3 : (upd H2 z (.lst [])) o = some (.lst ((opensI r).map V.int ++ [V.int (p : Int)])) := by rw [← opensI_cons]; exact s3 _ _ ho2
            refine ⟨.ref a, rfl, .ref o, rfl, 1, rfl, o, _, -1, .int (p : Int), rfl, rfl, SqL.of ho3, atI_last _ _, a, _, (p : Int), _, rfl, rfl, (sm2.trans s3).seq hS, atI_nat (getI (hq p List.mem_cons_self)), _, rfl, _, _, rfl, rfl, _, rfl, ?_⟩
            refine ite2 (fun c => ?_) (fun c => ?_)
            · have c' : ns.getD i 0 < ns.getD p 0 := of_decide_eq_true c
              refine ⟨WPop H ns a e o i r.length, fun σ' H' h => ⟨r.length, by rw [List.length_cons]; omega, h⟩, ?_⟩
              refine ⟨.ref o, rfl, .inl ⟨rfl, _, SqL.of ho3⟩, o, _, _, rfl, rfl, ho3, last_get _ _, ?_⟩
              refine ⟨r, some p, rfl, ?_, fun y hy => hq y (List.mem_cons_of_mem _ hy), rfl, same_put (sm2.trans s3) no', ?_, ?_⟩
              · rw [hp]
                show (if ns.getD i 0 < ns.getD p 0 then _ else _) = _
                rw [if_pos c']
              · rw [upd_ne eo]; exact s3 _ _ he2
              · rw [upd_same, List.dropLast_concat]
            · have c' : ¬ ns.getD i 0 < ns.getD p 0 := fun h => c (decide_eq_true h)
              refine ⟨p :: r, g, ?_, rfl, sm2.trans s3, s3 _ _ he2, s3 _ _ ho2⟩
              rw [hp]
              show (if ns.getD i 0 < ns.getD p 0 then _ else _) = _
              rw [if_neg c']
        · rintro σ' H2 ⟨rs, g, hp, rfl, sm2, he2, ho2⟩
          have hsub := popR_sub ns (ns.getD i 0) (treeTo ns i).2 none
          rw [hp] at hsub
          have tl1 : (treeTo ns i).1.length = ns.length := treeTo_len ns i
          refine ⟨fun σ' H3 => σ' = [some (.ref a), some (.int (ns.getD i 0)), some (.ref e), some (.ref o), some (.int (i : Nat)), some (gV g)] ∧ Same H H3 ∧ H3 e = some (.lst ((setGone (treeTo ns i).1 i g).map V.int)) ∧ H3 o = some (.lst ((opensI rs).map V.int)), ?_, ?_⟩
          · refine ⟨_, rfl, rfl, _, rfl, ite2 (fun c => ?_) (fun c => ?_)⟩
            · cases g with
              | none => exact absurd c (by decide)
              | some p =>
                have hpl : p < ns.length := by
                  rcases hsub.2 p rfl with z | z
                  · cases z
                  · exact Nat.lt_trans (treeTo_lt ns i p z) hi
                refine ⟨_, rfl, .ref e, rfl, _, rfl, e, _, (p : Int), p, rfl, rfl, he2, ixN_nat (by rw [List.length_map, tl1]; exact hpl), rfl, same_put sm2 ne, ?_, ?_⟩
                · rw [upd_same]
                  exact congrArg (fun z => some (HO.lst z)) (map_set _ _ _)
                · rw [upd_ne eo.symm]; exact ho2
            · cases g with
              | none => exact ⟨rfl, sm2, he2, ho2⟩
              | some p => exact absurd (by rw [decide_eq_false (fun z => by cases z)]; rfl) c
          · rintro σ' H3 ⟨rfl, sm3, he3, ho3⟩
            have sl : (setGone (treeTo ns i).1 i g).length = ns.length := by rw [setGone_len, tl1]
            refine ⟨fun σ' H4 => σ' = [some (.ref a), some (.int (ns.getD i 0)), some (.ref e), some (.ref o), some (.int (i : Nat)), some (gV g)] ∧ Same H H4 ∧ H4 e = some (.lst ((setTop (setGone (treeTo ns i).1 i g) i rs).map V.int)) ∧ H4 o = some (.lst ((opensI rs).map V.int)), ?_, ?_⟩
            · refine ⟨.ref o, rfl, Nat.zero_le _, fun z nz => ?_⟩
              have s3 := same_upd (o := HO.lst []) nz
              refine ⟨o, z, opensI rs, [], rfl, rfl, SqL.of (s3 _ _ ho3), SqL.of upd_same, _, rfl, ?_⟩
              cases rs with
              | nil =>
                refine ite2 (fun c => absurd c (by decide)) (fun _ => ?_)
                exact ⟨rfl, sm3.trans s3, s3 _ _ he3, s3 _ _ ho3⟩
              | cons p r =>
                refine ite2 (fun _ => ?_) (fun c => absurd (by rw [decide_eq_false (opensI_ne p r)]; rfl) c)
                have ho4 : (upd H3 z (.lst [])) o = some (.lst ((opensI r).map V.int ++ [V.int (p : Int)])) := by rw [← opensI_cons]; exact s3 _ _ ho3
                refine ⟨.ref o, rfl, 1, rfl, o, _, -1, .int (p : Int), rfl, rfl, SqL.of ho4, atI_last _ _, .ref e, rfl, _, rfl, e, _, (i : Int), i, rfl, rfl, s3 _ _ he3, ixN_nat (by rw [List.length_map, sl]; exact hi), rfl, same_put (sm3.trans s3) ne, ?_, ?_⟩
                · rw [upd_same]
                  exact congrArg (fun z => some (HO.lst z)) (map_set _ _ _)
                · rw [upd_ne eo.symm]; exact s3 _ _ ho3
            · rintro σ' H4 ⟨rfl, sm4, he4, ho4⟩
              have tt : treeTo ns (i + 1) = (setTop (setGone (treeTo ns i).1 i g) i rs, i :: rs) := by
                show (setTop (setGone (treeTo ns i).1 i (popR ns (ns.getD i 0) (treeTo ns i).2 none).2) i (popR ns (ns.getD i 0) (treeTo ns i).2 none).1, i :: (popR ns (ns.getD i 0) (treeTo ns i).2 none).1) = _
                rw [hp]
              have rl : rs.length ≤ 40 := by
                have h1 := popR_len ns (ns.getD i 0) (treeTo ns i).2 none
                rw [hp] at h1
                have h2 := treeTo_cnt ns i
                have h3 : rs.length ≤ (treeTo ns i).2.length := h1
                omega
              refine ⟨.ref o, rfl, .inl ⟨rfl, _, SqL.of ho4⟩, _, rfl, o, _, _, rfl, rfl, ho4, ?_, ?_⟩
              · rw [List.length_map, opensI_len]
                exact size_small (by omega)
              · refine ⟨_, _, _, rfl, same_put sm4 no', ?_, ?_⟩
                · rw [upd_ne eo, tt]; exact he4
                · rw [upd_same, tt, opensI_cons]
      · rintro σ H' ⟨y1, y4, y5, rfl, sm, he, ho⟩
        rw [List.length_map] at he
        exact ⟨.ref e, rfl, e, _, rfl, .inl ⟨SqL.of he, fun p np => q _ p (sm.trans (same_upd np)) (sm.free np) (by rw [upd_same]; rfl)⟩⟩
end
end Dk

/-! Dk5: way_up, flat_numbers, is_tree, look_at_tree, flattest. -/
namespace Dk
open PySem PySem.Spec PyProof.Rows L2 TL
/-! ### plain facts -/
theorem wayUp_len (t : List Int) : ∀ (n : Nat) (here : Int) (found ws : List Int), wayUp t n here found = some ws → ws.length ≤ found.length + n
  | 0, here, found, ws, h => by
    unfold wayUp at h
    split at h
    · cases h; exact Nat.le_refl _
    · cases h
  | n + 1, here, found, ws, h => by
    unfold wayUp at h
    split at h
    · cases h; exact Nat.le_add_right _ _
    · split at h
      · cases h
      · have := wayUp_len t n _ _ ws h
        rw [List.length_append] at this
        have e : [here].length = 1 := rfl
        omega
theorem wayOf_len {t ws : List Int} {i : Nat} (h : wayOf t i = some ws) : ws.length ≤ t.length := by
  have := wayUp_len t t.length _ [] ws h
  simpa using this
theorem flatTo_none (t : List Int) {i : Nat} (h : flatTo t i = none) : ∀ n, flatTo t (i + n) = none
  | 0 => h
  | n + 1 => by
    show (match flatTo t (i + n) with | none => none | some ns => _) = none
    rw [flatTo_none t h n]
theorem flatTo_len (t : List Int) : ∀ (i : Nat) (ns : List Int), flatTo t i = some ns → ns.length = i
  | 0, ns, h => by cases h; rfl
  | i + 1, ns, h => by
    unfold flatTo at h
    split at h
    · cases h
    · rename_i ms hm
      split at h
      · cases h
      · cases h
        rw [List.length_append, flatTo_len t i ms hm]
        rfl
theorem flatTo_step (t : List Int) {i : Nat} {ns ws : List Int} (h : flatTo t i = some ns) (hw : wayOf t i = some ws) : flatTo t (i + 1) = some (ns ++ [((behind ws i).length : Int)]) := by
  show (match flatTo t i with | none => none | some ns => (match wayOf t i with | none => none | some w => some (ns ++ [((behind w i).length : Int)]))) = _
  rw [h, hw]
theorem flatTo_stop (t : List Int) {i : Nat} {ns : List Int} (h : flatTo t i = some ns) (hw : wayOf t i = none) : flatTo t (i + 1) = none := by
  show (match flatTo t i with | none => none | some ns => (match wayOf t i with | none => none | some w => some (ns ++ [((behind w i).length : Int)]))) = _
  rw [h, hw]
theorem behind_take (ws : List Int) (i j : Nat) (h : j < ws.length) : behind (ws.take (j + 1)) i = behind (ws.take j) i ++ (if (i : Int) < ws.getD j 0 then [ws.getD j 0] else []) := by
  unfold behind
  rw [List.take_succ_eq_append_getElem h, List.filter_append, List.getD_eq_getElem?_getD, List.getElem?_eq_getElem h]
  congr 1
  by_cases c : (i : Int) < ws[j]
  · have c' : (i : Int) < (some ws[j]).getD 0 := c
    rw [if_pos c', List.filter_cons_of_pos (by simpa using c)]
    rfl
  · have c' : ¬ (i : Int) < (some ws[j]).getD 0 := c
    rw [if_neg c', List.filter_cons_of_neg (by simpa using c)]
    rfl
theorem behind_len (ws : List Int) (i : Nat) : (behind ws i).length ≤ ws.length := List.length_filter_le _ _
section
variable {P : Program} {w : World} {K : PySem.W.Frag} {mg : Str → Option Value} {base : Heap}
/-! ### way_up -/
theorem scWayUp : FnScope ["tree", "place", "found", "here"] ["tree", "place"] (defScope sWayUp) := ⟨rfl, rfl, rfl, by decide +kernel, rfl, by decide +kernel, by decide +kernel⟩
def spWay (K : PySem.W.Frag) : Sp := fun vs H Q _ => ∃ (a : Addr) (ts : List Int) (p : Nat), vs = [.ref a, .int p] ∧ SqT K H a (ts.map V.int) ∧ ts.length ≤ 40 ∧ p < ts.length ∧
  (∀ H', Same H H' → wayOf ts p = none → Q .non H') ∧ ∀ H' d ws, Same H H' → H d = none → wayOf ts p = some ws → H' d = some (.lst (ws.map V.int)) → Q (.ref d) H'
def WWay (H : Hp) (ts : List Int) (a d : Addr) (p m : Nat) (σ : L2.St) (H' : Hp) : Prop := ∃ (here : Int) (found : List Int), m + found.length = ts.length ∧ wayOf ts p = wayUp ts m here found ∧
  σ = [some (.ref a), some (.int p), some (.ref d), some (.int here)] ∧ Same H H' ∧ H' d = some (.lst (found.map V.int))
theorem ok_wayUp {f : Addr} {fd : FuncData} (F : Fun K "way_up" "way_up" sWayUp f fd) (B : Blt mg) : FnOk P w K mg base CX0 1 f fd ["tree", "place"] (spWay K) := by
  refine F.ok (k := 0) scWayUp (fun vs H Q E h => ?_) (fun cdv A outer s H vs Q E hr h => ?_)
  · obtain ⟨a, ts, p, rfl, _⟩ := h
    rfl
  · obtain ⟨a, ts, p, rfl, hT, hn, hp, q1, q2⟩ := h
    refine ⟨_, pss_cons (ps_set (i := 2) scWayUp.nd rfl (.inl rfl) (pe_lst pa_nil))
      (pss_cons (ps_set (i := 3) scWayUp.nd rfl (.inl rfl) (pe_ix ix_tup (pv 0) (pv 1) (fun _ _ => rfl)))
      (pss_cons (ps_while PassesOwn.never (pt_cmpR op_ne (pv 3) (pe_un un_neg pe_int) (nomark _))
        (pss_cons (ps_if (PW.pt (pw_or (pt_cmpR op_lt (pv 3) pe_int (nomark _)) (pw_or (pt_cmpR op_ge (pv 3) (pe_callB call_len_seq (by rfl) B.len PySem.boot_len (pa_cons (pv 0) pa_nil)) (nomark _))
            (pw_or1 (pt_cmpR op_eq (pe_callB call_len_seq (by rfl) B.len PySem.boot_len (pa_cons (pv 2) pa_nil)) (pe_callB call_len_seq (by rfl) B.len PySem.boot_len (pa_cons (pv 0) pa_nil)) (nomark _)))))) (pss_one (ps_ret pe_non)) pss_nil)
        (pss_cons (ps_expr (pe_bm PySem.F.plainAttrs_list PySem.F.slot_list_append PySem.F.type_list_append mt_append (pv 2) (pa_cons (pv 3) pa_nil)))
        (pss_one (ps_set (i := 3) scWayUp.nd rfl (.inl rfl) (pe_ix ix_tup (pv 0) (pv 3) (fun _ _ => rfl)))))))
      (pss_one (ps_ret (pv 2))))), ?_⟩
    refine ⟨Nat.zero_le _, fun d nd => ?_⟩
    have s1 := same_upd (o := HO.lst []) nd
    refine ⟨.ref a, rfl, .int (p : Int), rfl, a, _, (p : Int), _, rfl, rfl, same_seqT s1 hT, atI_nat (getI hp), ?_⟩
    refine ⟨WWay H ts a d p, ⟨ts.length, ts.getD p 0, [], rfl, rfl, rfl, s1, upd_same⟩, ?_⟩
    rintro m σ H' ⟨here, found, hm, hw, rfl, sm, hd⟩
    have hT' := same_seqT sm hT
    refine ⟨.int here, rfl, 1, rfl, rfl, _, rfl, ite2 (fun c => ?_) (fun c => ?_)⟩
    · have hne : here ≠ -1 := fun z => by
        subst z
        exact absurd c (by decide)
      refine ⟨fun σ' H' => ∃ m', m = m' + 1 ∧ WWay H ts a d p m' σ' H', fun σ' H' ⟨m', e, h⟩ => ⟨m', by omega, h⟩, ?_⟩
      have bad : m = 0 ∨ here < 0 ∨ (ts.length : Int) ≤ here → wayOf ts p = none := fun h => by
        rw [hw]
        cases m with
        | zero => unfold wayUp; rw [if_neg hne]
        | succ m =>
          unfold wayUp
          rw [if_neg hne, if_pos]
          rcases h with h | h
          · cases h
          · exact h
      refine ⟨.int here, rfl, here, 0, rfl, rfl, _, rfl, ite2 (fun c1 => ?_) (fun c1 => ?_)⟩
      · exact q1 H' sm (bad (.inr (.inl (of_decide_eq_true c1))))
      · have c1' : ¬ here < 0 := fun z => c1 (decide_eq_true z)
        refine ⟨.int here, rfl, .ref a, rfl, a, _, rfl, .inr hT', _, _, rfl, rfl, _, rfl, ite2 (fun c2 => ?_) (fun c2 => ?_)⟩
        · refine q1 H' sm (bad (.inr (.inr ?_)))
          have := of_decide_eq_true c2
          rwa [List.length_map] at this
        · have c2' : ¬ (ts.length : Int) ≤ here := fun z => c2 (decide_eq_true (by rw [List.length_map]; exact z))
          refine ⟨.ref d, rfl, d, _, rfl, .inl (SqL.of hd), .ref a, rfl, a, _, rfl, .inr hT', rfl, _, rfl, ite2 (fun c3 => ?_) (fun c3 => ?_)⟩
          · refine q1 H' sm (bad (.inl ?_))
            have e := V.int.inj (of_decide_eq_true c3)
            rw [List.length_map, List.length_map] at e
            omega
          · have c3' : ¬ m = 0 := fun z => c3 (decide_eq_true (by
              rw [List.length_map, List.length_map]
              have : found.length = ts.length := by omega
              rw [this]))
            obtain ⟨m', rfl⟩ : ∃ m', m = m' + 1 := ⟨m - 1, by omega⟩
            have hh : here.toNat < ts.length := by omega
            have hc : ((here.toNat : Nat) : Int) = here := Int.toNat_of_nonneg (by omega)
            have sp := same_put sm nd (u := .lst (found.map V.int ++ [V.int here]))
            refine ⟨.ref d, rfl, .inl ⟨rfl, _, SqL.of hd⟩, .int here, rfl, d, _, _, rfl, rfl, hd, ?_, ?_⟩
            · rw [List.length_map]
              exact size_small (by omega)
            · refine ⟨.ref a, rfl, .int here, rfl, a, _, here, _, rfl, rfl, same_seqT sp hT, L2.at_of hc.symm (getI hh), ?_⟩
              refine ⟨m', rfl, ts.getD here.toNat 0, found ++ [here], ?_, ?_, rfl, sp, ?_⟩
              · rw [List.length_append]
                show m' + (found.length + 1) = ts.length
                omega
              · rw [hw]
                show (if here = -1 then _ else if here < 0 ∨ (ts.length : Int) ≤ here then _ else _) = _
                rw [if_neg hne, if_neg (by omega)]
              · rw [upd_same, List.map_append]
                rfl
    · have hy : here = -1 := by
        refine Classical.byContradiction fun z => c ?_
        rw [decide_eq_false (fun y => z (V.int.inj y))]
        rfl
      subst hy
      refine ⟨.ref d, rfl, q2 H' d found sm nd ?_ hd⟩
      rw [hw]
      cases m <;> rfl
/-! ### flat_numbers -/
theorem scFlat : FnScope ["tree", "numbers", "place", "way", "other"] ["tree"] (defScope sFlat) := ⟨rfl, rfl, rfl, by decide +kernel, rfl, by decide +kernel, by decide +kernel⟩
def spFlat (K : PySem.W.Frag) : Sp := fun vs H Q _ => ∃ (a : Addr) (ts : List Int), vs = [.ref a] ∧ SqT K H a (ts.map V.int) ∧ ts.length ≤ 40 ∧
  (∀ H', Same H H' → flatOf ts = none → Q .non H') ∧ ∀ H' d ns, Same H H' → H d = none → flatOf ts = some ns → H' d = some (.lst (ns.map V.int)) → Q (.ref d) H'
theorem ok_flat {f : Addr} {fd : FuncData} (F : Fun K "flat_numbers" "flat_numbers" sFlat f fd) (B : Blt mg) (CW : Cal P w K mg base CX0 1 "way_up" ["tree", "place"] (spWay K)) : FnOk P w K mg base CX0 2 f fd ["tree"] (spFlat K) := by
  refine F.ok (k := 1) scFlat (fun vs H Q E h => ?_) (fun cdv A outer s H vs Q E hr h => ?_)
  · obtain ⟨a, ts, rfl, _⟩ := h
    rfl
  · obtain ⟨a, ts, rfl, hT, hn, q1, q2⟩ := h
    refine ⟨_, pss_cons (ps_set (i := 1) scFlat.nd rfl (.inl rfl) (pe_lst pa_nil))
      (pss_cons (ps_for PassesOwn.never rfl (pi_range1 (by rfl) B.range (pa_cons (pe_callB call_len_seq (by rfl) B.len PySem.boot_len (pa_cons (pv 0) pa_nil)) pa_nil)) (pg_name (i := 2) scFlat.nd rfl (.inr rfl))
        (pss_cons (ps_set (i := 3) scFlat.nd rfl (.inl rfl) (pe_cal CW hr (by rfl) pass0 (pa_cons (pv 0) (pa_cons (pv 2) pa_nil))))
        (pss_cons (ps_if (pt_cmpR op_isN (pv 3) pe_non (nomark _)) (pss_one (ps_ret pe_non)) pss_nil)
        (pss_one (ps_expr (pe_bm PySem.F.plainAttrs_list PySem.F.slot_list_append PySem.F.type_list_append mt_append (pv 1) (pa_cons
          (pe_callB call_len_seq (by rfl) B.len PySem.boot_len (pa_cons
            (pe_lc (own := [("other", 4)]) (g := gName 4) (tt := tTest (tOp (rI0 fun i j => .bl (decide (j < i))) (tVar 4) (tVar 2))) (te := tVar 4) rfl scFlat.nd (pi_list (pv 3))
              (blkOk_by (N := ["tree", "numbers", "place", "way", "other"]) (sc := defScope sFlat) (by decide +kernel)) (fun _ _ _ _ _ => pg_name (i := 4) scFlat.nd rfl (Or.inl rfl)) (fun _ _ _ _ _ => pts_one (pt_cmpR op_gt (pv 4) (pv 2) (nomark _)))
              (fun _ _ _ _ _ => pv 4)) pa_nil)) pa_nil)))))))
      (pss_one (ps_ret (pv 1)))), ?_⟩
    refine ⟨Nat.zero_le _, fun d nd => ?_⟩
    have s1 := same_upd (o := HO.lst []) nd
    refine ⟨.ref a, rfl, a, _, rfl, .inr (same_seqT s1 hT), _, rfl, ?_, ?_, ?_⟩
    · rw [List.length_map]; omega
    · rw [List.length_map]; omega
    rw [List.length_map, Int.toNat_natCast]
    refine for_range (lo := 0) (n := ts.length) (fun i σ H' => ∃ y2 y3 ns, σ = [some (.ref a), some (.ref d), y2, y3, none] ∧ Same H H' ∧ flatTo ts i = some ns ∧ H' d = some (.lst (ns.map V.int))) ⟨none, none, [], rfl, s1, rfl, upd_same⟩ ?_ ?_
    · rintro i σ H' hi ⟨y2, y3, ns, rfl, sm, hf, hd⟩
      refine ⟨.ref a, rfl, .int (0 + (i : Int)), rfl, a, ts, i, by rw [Int.zero_add]; rfl, same_seqT sm hT, hn, hi, fun H2 s2 hw => ?_, fun H2 e ws s2 ne hw he => ?_⟩
      · refine ⟨.non, rfl, rfl, _, rfl, ite2 (fun _ => ?_) (fun c => absurd (decide_eq_true rfl) c)⟩
        refine q1 H2 (sm.trans s2) ?_
        have e := flatTo_none ts (flatTo_stop ts hf hw) (ts.length - (i + 1))
        rwa [show i + 1 + (ts.length - (i + 1)) = ts.length by omega] at e
      · refine ⟨.ref e, rfl, rfl, _, rfl, ite2 (fun c => absurd c (by rw [decide_eq_false (fun z => by cases z)]; exact Bool.false_ne_true)) (fun _ => ?_)⟩
        have hd2 := s2 _ _ hd
        have wl := wayOf_len hw
        refine ⟨.ref d, rfl, .inl ⟨rfl, _, SqL.of hd2⟩, ?_⟩
        refine ⟨.ref e, rfl, e, rfl, ⟨_, SqL.of he⟩, fun D nD => ?_⟩
        have sD := fun o => same_upd (o := o) nD
        refine lc_list (K := K) (a := e) (xs := ws.map V.int) (fun j H3 => H3 = upd H2 D (.lst ((behind (ws.take j) i).map V.int))) rfl ?_ ?_ ?_
        · rintro j H3 _ rfl
          exact SqL.of (sD _ _ _ he)
        · rintro j x H3 hx rfl
          obtain ⟨hj, rfl⟩ := getI_eq hx
          refine ⟨rfl, ?_⟩
          refine ⟨_, rfl, .int (0 + (i : Int)), rfl, _, _, rfl, rfl, _, rfl, ite2 (fun c => ?_) (fun c => ?_)⟩
          · have c' : (i : Int) < ws.getD j 0 := by
              have := of_decide_eq_true c
              omega
            refine ⟨_, rfl, _, upd_same, ?_, ?_⟩
            · rw [List.length_map]
              have h1 := behind_len (ws.take j) i
              have h2 : (ws.take j).length ≤ ws.length := List.length_take_le' _ _
              exact size_small (by omega)
            · rw [upd_upd, behind_take ws i j hj, if_pos c', List.map_append]
              rfl
          · have c' : ¬ (i : Int) < ws.getD j 0 := fun z => c (decide_eq_true (by omega))
            show upd H2 D _ = upd H2 D _
            rw [behind_take ws i j hj, if_neg c', List.append_nil]
        · rintro H3 rfl
          rw [List.length_map, List.take_length]
          have hd3 := sD (.lst ((behind ws i).map V.int)) _ _ hd2
          have nl := flatTo_len ts i ns hf
          refine ⟨D, _, rfl, .inl (SqL.of upd_same), d, _, _, rfl, rfl, hd3, ?_, ?_⟩
          · rw [List.length_map, nl]
            exact size_small (by omega)
          · refine ⟨_, _, _, rfl, same_put ((sm.trans s2).trans (sD _)) nd, flatTo_step ts hf hw, ?_⟩
            rw [upd_same, List.map_append, List.length_map]
            rfl
    · rintro σ H' ⟨y2, y3, ns, rfl, sm, hf, hd⟩
      exact ⟨.ref d, rfl, q2 H' d ns sm nd hf hd⟩
end
end Dk

/-! Dk6: is_tree, look_at_tree, flattest, drops_of, brackets_of. -/
namespace Dk
open PySem PySem.Spec PyProof.Rows L2 TL
theorem flatOf_of {t : List Int} (h : isTree t = true) : ∃ ns, flatOf t = some ns ∧ treeOf ns = t := by
  unfold isTree at h
  rw [Bool.and_eq_true] at h
  obtain ⟨_, h⟩ := h
  split at h
  · cases h
  · rename_i ns hn
    exact ⟨ns, hn, by simpa using h⟩
theorem flatOf_len {t ns : List Int} (h : flatOf t = some ns) : ns.length = t.length := flatTo_len t t.length ns h
section
variable {P : Program} {w : World} {K : PySem.W.Frag} {mg : Str → Option Value} {base : Heap}
/-! ### is_tree -/
theorem scIsTree : FnScope ["tree", "numbers"] ["tree"] (defScope sIsTree) := ⟨rfl, rfl, rfl, by decide +kernel, rfl, by decide +kernel, by decide +kernel⟩
def spIsTree (K : PySem.W.Frag) : Sp := fun vs H Q _ => ∃ (a : Addr) (ts : List Int), vs = [.ref a] ∧ SqT K H a (ts.map V.int) ∧ ts.length ≤ 40 ∧ ∀ H', Same H H' → Q (.bl (isTree ts)) H'
theorem ok_isTree {f : Addr} {fd : FuncData} {tk : Tok} (F : Fun K "is_tree" "is_tree" sIsTree f fd) (B : Blt mg) (hM : mg "MOST_PLACES" = some (.int 40 tk)) (CF : Cal P w K mg base CX0 2 "flat_numbers" ["tree"] (spFlat K))
    (CT : Cal P w K mg base CX0 1 "tree_of" ["row"] (spTreeOf K)) : FnOk P w K mg base CX0 3 f fd ["tree"] (spIsTree K) := by
  refine F.ok (k := 2) scIsTree (fun vs H Q E h => ?_) (fun cdv A outer s H vs Q E hr h => ?_)
  · obtain ⟨a, ts, rfl, _⟩ := h
    rfl
  · obtain ⟨a, ts, rfl, hT, hn, q⟩ := h
    refine ⟨_, pss_cons (ps_if (pt_cmpR op_gt (pe_callB call_len_seq (by rfl) B.len PySem.boot_len (pa_cons (pv 0) pa_nil)) (pe_glob (v := .int 40) (by rfl) hM ⟨_, rfl⟩) (nomark _)) (pss_one (ps_ret pe_bl)) pss_nil)
      (pss_cons (ps_set (i := 1) scIsTree.nd rfl (.inl rfl) (pe_cal CF hr (by rfl) pass0 (pa_cons (pv 0) pa_nil)))
      (pss_one (ps_ret (pe_and (pe_cmpR op_notN (pv 1) pe_non (nomark _)) (pe_one (pe_cmpR (op_eqT hr.units) (pe_cal CT (hr.mono (by decide)) (by rfl) pass0 (pa_cons (pv 1) pa_nil)) (pv 0) (nomark _))))))), ?_⟩
    refine ⟨.ref a, rfl, a, _, rfl, .inr hT, _, _, rfl, rfl, _, rfl, ite2 (fun c => ?_) (fun _ => ?_)⟩
    · have := of_decide_eq_true c
      rw [List.length_map] at this
      omega
    · refine ⟨.ref a, rfl, a, ts, rfl, hT, hn, fun H1 s1 hf => ?_, fun H1 d ns s1 nd hf hd => ?_⟩
      · refine ⟨.non, rfl, rfl, _, rfl, ite2 (fun c => absurd c (by decide)) (fun _ => ?_)⟩
        have e : isTree ts = false := by
          unfold isTree
          rw [hf, Bool.and_false]
        have := q H1 s1
        rwa [e] at this
      · refine ⟨.ref d, rfl, rfl, _, rfl, ite2 (fun _ => ?_) (fun c => absurd (by rw [decide_eq_false (fun z => by cases z)]; rfl) c)⟩
        have hl := flatOf_len hf
        refine ⟨.ref d, rfl, d, ns, rfl, SqL.of hd, by omega, fun H2 p s2 np hp => ?_⟩
        refine ⟨.ref a, rfl, p, a, treeOf ns, ts, rfl, rfl, SqT.of hp, same_seqT (s1.trans s2) hT, ?_⟩
        have e : isTree ts = decide (treeOf ns = ts) := by
          unfold isTree
          rw [hf, decide_eq_true hn, Bool.true_and]
          show (treeOf ns == ts) = _
          rw [Bool.eq_iff_iff]
          simp
        have := q H2 (s1.trans s2)
        rwa [e] at this
/-! ### look_at_tree -/
theorem scLook : FnScope ["tree"] ["tree"] (defScope sLook) := ⟨rfl, rfl, rfl, by decide +kernel, rfl, by decide +kernel, by decide +kernel⟩
def spLook (K : PySem.W.Frag) : Sp := fun vs H Q _ => ∃ (a : Addr) (ts : List Int), vs = [.ref a] ∧ SqT K H a (ts.map V.int) ∧ ts.length ≤ 40 ∧ isTree ts = true ∧ ∀ H', Same H H' → Q .non H'
theorem ok_look {f : Addr} {fd : FuncData} (F : Fun K "look_at_tree" "look_at_tree" sLook f fd) (C : Cal P w K mg base CX0 3 "is_tree" ["tree"] (spIsTree K)) : FnOk P w K mg base CX0 4 f fd ["tree"] (spLook K) := by
  refine F.ok (k := 3) scLook (fun vs H Q E h => ?_) (fun cdv A outer s H vs Q E hr h => ?_)
  · obtain ⟨a, ts, rfl, _⟩ := h
    rfl
  · obtain ⟨a, ts, rfl, hT, hn, ht, q⟩ := h
    refine ⟨_, pss_one (ps_if (pt_not (pt_val (pe_cal C hr (by rfl) pass0 (pa_cons (pv 0) pa_nil)))) (pss_one ps_never) pss_nil), ?_⟩
    refine ⟨.ref a, rfl, a, ts, rfl, hT, hn, fun H1 s1 => ⟨_, rfl, ?_⟩⟩
    rw [ht]
    exact q H1 s1
/-! ### flattest -/
theorem scFlattest : FnScope ["tree"] ["tree"] (defScope sFlattest) := ⟨rfl, rfl, rfl, by decide +kernel, rfl, by decide +kernel, by decide +kernel⟩
def spFlattest (K : PySem.W.Frag) : Sp := fun vs H Q _ => ∃ (a : Addr) (ts : List Int), vs = [.ref a] ∧ SqT K H a (ts.map V.int) ∧ ts.length ≤ 40 ∧ isTree ts = true ∧ ∀ H' p ns, Same H H' → H p = none → flatOf ts = some ns → H' p = some (.tup (ns.map V.int)) → Q (.ref p) H'
theorem ok_flattest {f : Addr} {fd : FuncData} (F : Fun K "flattest" "flattest" sFlattest f fd) (B : Blt mg) (CL : Cal P w K mg base CX0 4 "look_at_tree" ["tree"] (spLook K)) (CF : Cal P w K mg base CX0 2 "flat_numbers" ["tree"] (spFlat K)) :
    FnOk P w K mg base CX0 5 f fd ["tree"] (spFlattest K) := by
  refine F.ok (k := 4) scFlattest (fun vs H Q E h => ?_) (fun cdv A outer s H vs Q E hr h => ?_)
  · obtain ⟨a, ts, rfl, _⟩ := h
    rfl
  · obtain ⟨a, ts, rfl, hT, hn, ht, q⟩ := h
    refine ⟨_, pss_cons (ps_expr (pe_cal CL hr (by rfl) pass0 (pa_cons (pv 0) pa_nil)))
      (pss_one (ps_ret (pe_callTy call_tuple_of (by rfl) B.tuple (by decide +kernel) (pa_cons (pe_cal CF (hr.mono (by decide)) (by rfl) pass0 (pa_cons (pv 0) pa_nil)) pa_nil)))), ?_⟩
    refine ⟨.ref a, rfl, a, ts, rfl, hT, hn, ht, fun H1 s1 => ?_⟩
    refine ⟨.ref a, rfl, a, ts, rfl, same_seqT s1 hT, hn, fun H2 s2 hf => ?_, fun H2 d ns s2 nd hf hd => ?_⟩
    · obtain ⟨ns, e, _⟩ := flatOf_of ht
      rw [hf] at e
      cases e
    · exact ⟨d, _, rfl, .inl ⟨SqL.of hd, fun p np => q _ p ns ((s1.trans s2).trans (same_upd np)) ((s1.trans s2).free np) hf upd_same⟩⟩
/-! ### drops_of -/
theorem dropsTo_len (row : List Int) : ∀ i, (dropsTo row i).1.length = i
  | 0 => rfl
  | i + 1 => by
    show ((dropsTo row i).1 ++ [_]).length = i + 1
    rw [List.length_append, dropsTo_len row i]; rfl
theorem dropsTo_open (row : List Int) : ∀ i, (dropsTo row i).2.length ≤ i
  | 0 => Nat.le_refl _
  | i + 1 => by
    show ((dropsTo row i).2.filter _ ++ [_]).length ≤ i + 1
    rw [List.length_append]
    exact Nat.succ_le_succ (Nat.le_trans (List.length_filter_le _ _) (dropsTo_open row i))
def leftOf (os : List Int) (x : Int) : List Int := os.filter fun o => decide (o ≤ x)
theorem left_take (os : List Int) (x : Int) (j : Nat) (h : j < os.length) : leftOf (os.take (j + 1)) x = leftOf (os.take j) x ++ (if os.getD j 0 ≤ x then [os.getD j 0] else []) := by
  unfold leftOf
  rw [List.take_succ_eq_append_getElem h, List.filter_append, List.getD_eq_getElem?_getD, List.getElem?_eq_getElem h]
  congr 1
  by_cases c : os[j] ≤ x
  · have c' : (some os[j]).getD 0 ≤ x := c
    rw [if_pos c', List.filter_cons_of_pos (by simpa using c)]
    rfl
  · have c' : ¬ (some os[j]).getD 0 ≤ x := c
    rw [if_neg c', List.filter_cons_of_neg (by simpa using c)]
    rfl
theorem left_len (os : List Int) (x : Int) : (leftOf os x).length ≤ os.length := List.length_filter_le _ _
theorem scDropsOf : FnScope ["tree", "row", "still_open", "found", "number", "left", "other"] ["tree"] (defScope sDropsOf) := ⟨rfl, rfl, rfl, by decide +kernel, rfl, by decide +kernel, by decide +kernel⟩
def spDropsOf (K : PySem.W.Frag) : Sp := fun vs H Q _ => ∃ (a : Addr) (ts : List Int), vs = [.ref a] ∧ SqT K H a (ts.map V.int) ∧ ts.length ≤ 40 ∧ isTree ts = true ∧ ∀ H' p, Same H H' → H p = none → H' p = some (.tup ((dropsOf ts).map V.int)) → Q (.ref p) H'
theorem ok_dropsOf {f : Addr} {fd : FuncData} (F : Fun K "drops_of" "drops_of" sDropsOf f fd) (B : Blt mg) (CF : Cal P w K mg base CX0 5 "flattest" ["tree"] (spFlattest K)) : FnOk P w K mg base CX0 6 f fd ["tree"] (spDropsOf K) := by
  refine F.ok (k := 5) scDropsOf (fun vs H Q E h => ?_) (fun cdv A outer s H vs Q E hr h => ?_)
  · obtain ⟨a, ts, rfl, _⟩ := h
    rfl
  · obtain ⟨a, ts, rfl, hT, hn, ht, q⟩ := h
    refine ⟨_, pss_cons (ps_set (i := 1) scDropsOf.nd rfl (.inl rfl) (pe_cal CF hr (by rfl) pass0 (pa_cons (pv 0) pa_nil)))
      (pss_cons (ps_set (i := 2) scDropsOf.nd rfl (.inl rfl) (pe_lst pa_nil))
      (pss_cons (ps_set (i := 3) scDropsOf.nd rfl (.inl rfl) (pe_lst pa_nil))
      (pss_cons (ps_for PassesOwn.never rfl (pi_tup (pv 1)) (pg_name (i := 4) scDropsOf.nd rfl (.inr rfl))
        (pss_cons (ps_setLc (i := 5) (own := [("other", 6)]) (g := gName 6) (tt := tTest (tOp (rI0 fun i j => .bl (decide (i ≤ j))) (tVar 6) (tVar 4))) (te := tVar 6) rfl scDropsOf.nd rfl rfl (sw_true rfl rfl rfl (by decide +kernel)) (pi_list (pv 2))
            (blkOk_by (N := ["tree", "row", "still_open", "found", "number", "left", "other"]) (sc := defScope sDropsOf) (by decide +kernel)) (fun _ _ _ _ _ => pg_name (i := 6) scDropsOf.nd rfl (Or.inl rfl)) (fun _ _ _ _ _ => pts_one (pt_cmpR op_le (pv 6) (pv 4) (nomark _)))
            (fun _ _ _ _ _ => pv 6))
        (pss_cons (ps_expr (pe_bm PySem.F.plainAttrs_list PySem.F.slot_list_append PySem.F.type_list_append mt_append (pv 3) (pa_cons (pe_op op_sub (pe_callB call_len_seq (by rfl) B.len PySem.boot_len (pa_cons (pv 2) pa_nil)) (pe_callB call_len_seq (by rfl) B.len PySem.boot_len (pa_cons (pv 5) pa_nil))) pa_nil)))
        (pss_one (ps_set (i := 2) scDropsOf.nd rfl (.inl rfl) (pe_op op_cat (pv 5) (pe_lst (pa_cons (pv 4) pa_nil))))))))
      (pss_one (ps_ret (pe_callTy call_tuple_of (by rfl) B.tuple (by decide +kernel) (pa_cons (pv 3) pa_nil))))))), ?_⟩
    refine ⟨.ref a, rfl, a, ts, rfl, hT, hn, ht, fun H1 r ns s1 nr hf hr1 => ?_⟩
    have hl := flatOf_len hf
    refine ⟨Nat.zero_le _, fun o no => ⟨Nat.zero_le _, fun d nd => ?_⟩⟩
    have so := same_upd (o := HO.lst []) no
    have sd := same_upd (o := HO.lst []) nd
    have nd' : H d = none := (s1.trans so).free nd
    have ed : dropsOf ts = (dropsTo ns ns.length).1 := by
      unfold dropsOf dropsRow
      rw [hf]
      rfl
    refine ⟨.ref r, rfl, r, rfl, ⟨_, SqT.of ((so.trans sd) _ _ hr1)⟩, for_tup (K := K) (a := r) (xs := ns.map V.int) (fun i σ H' => ∃ o y4 y5, σ = [some (.ref a), some (.ref r), some (.ref o), some (.ref d), y4, y5, none] ∧ Same H H' ∧ H' r = some (.tup (ns.map V.int)) ∧
      o ≠ d ∧ H' o = some (.lst ((dropsTo ns i).2.map V.int)) ∧ H' d = some (.lst ((dropsTo ns i).1.map V.int))) ⟨o, none, none, rfl, (s1.trans so).trans sd, (so.trans sd) _ _ hr1, ne_of_none upd_same nd, sd _ _ upd_same, upd_same⟩
      (fun i σ H' _ ⟨_, _, _, _, _, h, _⟩ => SqT.of h) ?_ ?_⟩
    · rintro i x σ H' hx ⟨o, y4, y5, rfl, sm, hr2, od, ho, hd⟩
      obtain ⟨hi, rfl⟩ := getI_eq hx
      have ol := dropsTo_open ns i
      have dl := dropsTo_len ns i
      refine ⟨.ref o, rfl, o, rfl, ⟨_, SqL.of ho⟩, fun D nD => ?_⟩
      have sD := fun u => same_upd (o := u) nD
      refine lc_list (K := K) (a := o) (xs := (dropsTo ns i).2.map V.int) (fun j H3 => H3 = upd H' D (.lst ((leftOf ((dropsTo ns i).2.take j) (ns.getD i 0)).map V.int))) rfl ?_ ?_ ?_
      · rintro j H3 _ rfl
        exact SqL.of (sD _ _ _ ho)
      · rintro j x H3 hx rfl
        obtain ⟨hj, rfl⟩ := getI_eq hx
        refine ⟨rfl, ?_⟩
        refine ⟨_, rfl, _, rfl, _, _, rfl, rfl, _, rfl, ite2 (fun c => ?_) (fun c => ?_)⟩
        · have c' := of_decide_eq_true c
          refine ⟨_, rfl, _, upd_same, ?_, ?_⟩
          · rw [List.length_map]
            have h1 := left_len ((dropsTo ns i).2.take j) (ns.getD i 0)
            have h2 : ((dropsTo ns i).2.take j).length ≤ (dropsTo ns i).2.length := List.length_take_le' _ _
            exact size_small (by omega)
          · rw [upd_upd, left_take _ _ j hj, if_pos c', List.map_append]
            rfl
        · have c' := fun z => c (decide_eq_true z)
          show upd H' D _ = upd H' D _
          rw [left_take _ _ j hj, if_neg c', List.append_nil]
      · rintro H3 rfl
        rw [List.length_map, List.take_length]
        have ll := left_len (dropsTo ns i).2 (ns.getD i 0)
        have ho3 := sD (.lst ((leftOf (dropsTo ns i).2 (ns.getD i 0)).map V.int)) _ _ ho
        have hd3 := sD (.lst ((leftOf (dropsTo ns i).2 (ns.getD i 0)).map V.int)) _ _ hd
        have hr3 := sD (.lst ((leftOf (dropsTo ns i).2 (ns.getD i 0)).map V.int)) _ _ hr2
        have dD : d ≠ D := ne_of_none hd nD
        refine ⟨.ref d, rfl, .inl ⟨rfl, _, SqL.of hd3⟩, .ref o, rfl, o, _, rfl, .inl (SqL.of ho3), .ref D, rfl, D, _, rfl, .inl (SqL.of upd_same), _, _, rfl, rfl, d, _, _, rfl, rfl, hd3, ?_, ?_⟩
        · rw [List.length_map, dl]
          exact size_small (by omega)
        · have zD : ∀ u, (upd (upd H' D (.lst ((leftOf (dropsTo ns i).2 (ns.getD i 0)).map V.int))) d u) D = some (.lst ((leftOf (dropsTo ns i).2 (ns.getD i 0)).map V.int)) := fun u => (upd_ne dD.symm).trans upd_same
          have zS : ∀ u, Same H (upd (upd H' D (.lst ((leftOf (dropsTo ns i).2 (ns.getD i 0)).map V.int))) d u) := fun u => same_put (sm.trans (sD _)) nd'
          have rd : r ≠ d := ne_of hr2 hd (fun z => by cases z)
          have zr : ∀ u, (upd (upd H' D (.lst ((leftOf (dropsTo ns i).2 (ns.getD i 0)).map V.int))) d u) r = some (.tup (ns.map V.int)) := fun u => (upd_ne rd).trans hr3
          have zd : ∀ u, (upd (upd H' D (.lst ((leftOf (dropsTo ns i).2 (ns.getD i 0)).map V.int))) d u) d = some u := fun u => upd_same
          refine ⟨.ref D, rfl, _, rfl, size_le (by show 1 ≤ 1000000; decide), fun z nz => ⟨D, z, _, _, rfl, rfl, (same_upd nz) _ _ (zD _), upd_same, ?_, fun o' no' => ?_⟩⟩
          · rw [List.length_map]
            exact size_le (by show _ + 1 ≤ 1000000; omega)
          · refine ⟨o', _, _, rfl, ((zS _).trans (same_upd nz)).trans (same_upd no'), (same_upd no') _ _ ((same_upd nz) _ _ (zr _)), (ne_of_none ((same_upd nz) _ _ (zd _)) no').symm, ?_, ?_⟩
            · rw [upd_same]
              show _ = some (HO.lst ((leftOf (dropsTo ns i).2 (ns.getD i 0) ++ [ns.getD i 0]).map V.int))
              rw [List.map_append]
              rfl
            · refine ((same_upd no') _ _ ((same_upd nz) _ _ (zd _))).trans ?_
              show _ = some (HO.lst (((dropsTo ns i).1 ++ [((dropsTo ns i).2.length : Int) - ((leftOf (dropsTo ns i).2 (ns.getD i 0)).length : Int)]).map V.int))
              rw [List.map_append, List.length_map, List.length_map]
              rfl
    · rintro σ H' ⟨o, y4, y5, rfl, sm, hr2, od, ho, hd⟩
      rw [List.length_map] at hd
      refine ⟨.ref d, rfl, d, _, rfl, .inl ⟨SqL.of hd, fun p np => q _ p (sm.trans (same_upd np)) (sm.free np) ?_⟩⟩
      rw [upd_same, ed]
end
end Dk

/-! Dk7: texts of brackets; brackets_of. -/
namespace Dk
open PySem PySem.Spec PyProof.Rows L2 TL
/-! ### texts of brackets -/
def brC (b : Bool) : Nat := if b then 41 else 40
def brS (bs : List Bool) : Str := ⟨(bs.map brC).toArray⟩
theorem tl_brS (bs : List Bool) : tl (brS bs) = bs.map brC := tl_mk _
theorem len_brS (bs : List Bool) : (brS bs).length = bs.length := by rw [len_tl, tl_brS, List.length_map]
theorem brS_app (a b : List Bool) : brS a ++ brS b = brS (a ++ b) := ext_tl (by rw [tl_append, tl_brS, tl_brS, tl_brS, List.map_append])
theorem brS_open : (Str.ofString "(") = brS [false] := ext_tl (by decide +kernel)
theorem brS_shut : (Str.ofString ")") = brS [true] := ext_tl (by decide +kernel)
theorem brS_nil : (Str.ofString "") = brS [] := ext_tl (by decide +kernel)
theorem brC_inj : ∀ {a b : Bool}, brC a = brC b → a = b := by decide
theorem map_brC_inj : ∀ {a b : List Bool}, a.map brC = b.map brC → a = b
  | [], [], _ => rfl
  | [], _ :: _, h => by cases h
  | _ :: _, [], h => by cases h
  | x :: r, y :: q, h => by
    rw [List.map_cons, List.map_cons] at h
    injection h with h1 h2
    rw [brC_inj h1, map_brC_inj h2]
theorem brS_inj {a b : List Bool} (h : brS a = brS b) : a = b := map_brC_inj (by rw [← tl_brS, ← tl_brS, h])
theorem rep_shut (n : Nat) : (List.replicate n (tl (Str.ofString ")"))).flatten = (List.replicate n true).map brC := by
  rw [brS_shut, tl_brS]
  induction n with
  | zero => rfl
  | succ n ih =>
    rw [List.replicate_succ, List.flatten_cons, ih, List.replicate_succ]
    rfl
theorem rep_is {r : Str} {n : Nat} (h : tl r = (List.replicate n (tl (Str.ofString ")"))).flatten) : r = brS (List.replicate n true) := ext_tl (by rw [h, rep_shut, tl_brS])
theorem joinL_nil : ∀ ps : List (List Nat), joinL [] ps = ps.flatten
  | [] => rfl
  | [p] => by simp [joinL]
  | p :: q :: r => by
    show p ++ ([] ++ joinL [] (q :: r)) = _
    rw [joinL_nil (q :: r), List.nil_append]
    rfl
theorem join_brS (bss : List (List Bool)) : Txt.join (Str.ofString "") (bss.map brS) = brS bss.flatten := by
  rw [join_eq]
  refine ext_tl ?_
  rw [tl_join, brS_nil, tl_brS]
  show joinL [] _ = _
  rw [joinL_nil, tl_brS, List.map_map, List.map_flatten]
  congr 1
/-! ### bounds of drops -/
theorem dropsTo_bd (row : List Int) : ∀ i, ∀ d ∈ (dropsTo row i).1, 0 ≤ d ∧ d ≤ i
  | 0, d, h => nomatch h
  | i + 1, d, h => by
    have h' : d ∈ (dropsTo row i).1 ++ [((dropsTo row i).2.length : Int) - ((leftOf (dropsTo row i).2 (row.getD i 0)).length : Int)] := h
    rcases List.mem_append.mp h' with e | e
    · have := dropsTo_bd row i d e
      omega
    · have e' := List.mem_singleton.mp e
      have h1 := left_len (dropsTo row i).2 (row.getD i 0)
      have h2 := dropsTo_open row i
      omega
theorem sum_bd {m : Int} : ∀ ds : List Int, (∀ d ∈ ds, 0 ≤ d ∧ d ≤ m) → 0 ≤ ds.sum ∧ ds.sum ≤ ds.length * m
  | [], _ => by simp
  | d :: r, h => by
    have h1 := h d List.mem_cons_self
    have h2 := sum_bd r fun x hx => h x (List.mem_cons_of_mem _ hx)
    rw [List.sum_cons, List.length_cons, Int.natCast_add, Int.add_mul]
    omega
theorem dropsOf_bd {ts : List Int} (h : isTree ts = true) (hn : ts.length ≤ 40) : (dropsOf ts).length ≤ 40 ∧ ∀ d ∈ dropsOf ts, 0 ≤ d ∧ d ≤ 40 := by
  obtain ⟨ns, hf, _⟩ := flatOf_of h
  have hl := flatOf_len hf
  have e : dropsOf ts = (dropsTo ns ns.length).1 := by
    unfold dropsOf dropsRow
    rw [hf]
    rfl
  rw [e, dropsTo_len]
  refine ⟨by omega, fun d hd => ?_⟩
  have := dropsTo_bd ns ns.length d hd
  omega
theorem brOne_len {d : Int} (h : 0 ≤ d ∧ d ≤ 40) : (brOne d).length ≤ 41 := by
  unfold brOne
  rw [List.length_append, List.length_replicate]
  show _ + 1 ≤ 41
  omega
theorem brs_len : ∀ ds : List Int, (∀ d ∈ ds, 0 ≤ d ∧ d ≤ 40) → ((ds.map fun d => brS (brOne d)).map (·.length)).sum ≤ ds.length * 41
  | [], _ => Nat.le_refl _
  | d :: r, h => by
    have h1 := brOne_len (h d List.mem_cons_self)
    have h2 := brs_len r fun x hx => h x (List.mem_cons_of_mem _ hx)
    rw [List.map_cons, List.map_cons, List.sum_cons, List.length_cons, len_brS]
    omega
theorem brs_flat : ∀ ds : List Int, (∀ d ∈ ds, 0 ≤ d ∧ d ≤ 40) → (ds.map brOne).flatten.length ≤ ds.length * 41
  | [], _ => Nat.le_refl _
  | d :: r, h => by
    have h1 := brOne_len (h d List.mem_cons_self)
    have h2 := brs_flat r fun x hx => h x (List.mem_cons_of_mem _ hx)
    rw [List.map_cons, List.flatten_cons, List.length_append, List.length_cons]
    omega
section
variable {P : Program} {w : World} {K : PySem.W.Frag} {mg : Str → Option Value} {base : Heap}
theorem scBrackets : FnScope ["tree", "drops", "many"] ["tree"] (defScope sBrackets) := ⟨rfl, rfl, rfl, by decide +kernel, rfl, by decide +kernel, by decide +kernel⟩
def spBrackets (K : PySem.W.Frag) : Sp := fun vs H Q _ => ∃ (a : Addr) (ts : List Int), vs = [.ref a] ∧ SqT K H a (ts.map V.int) ∧ ts.length ≤ 40 ∧ isTree ts = true ∧ ∀ H', Same H H' → Q (.str (brS (brOf (dropsOf ts)))) H'
theorem ok_brackets {f : Addr} {fd : FuncData} (F : Fun K "brackets_of" "brackets_of" sBrackets f fd) (B : Blt mg) (CD : Cal P w K mg base CX0 6 "drops_of" ["tree"] (spDropsOf K)) : FnOk P w K mg base CX0 7 f fd ["tree"] (spBrackets K) := by
  refine F.ok (k := 6) scBrackets (fun vs H Q E h => ?_) (fun cdv A outer s H vs Q E hr h => ?_)
  · obtain ⟨a, ts, rfl, _⟩ := h
    rfl
  · obtain ⟨a, ts, rfl, hT, hn, ht, q⟩ := h
    refine ⟨_, pss_cons (ps_set (i := 1) scBrackets.nd rfl (.inl rfl) (pe_cal CD hr (by rfl) pass0 (pa_cons (pv 0) pa_nil)))
      (pss_one (ps_ret (pe_op op_add_str (pe_join pe_str
          (pe_lc (own := [("many", 2)]) (g := gName 2) (tt := tYes) (te := tOp (fun x y H Q => ∃ i j, x = .str i ∧ y = .str j ∧ i.length + j.length ≤ sizeLine ∧ Q (.str (i ++ j)) H)
              (tOp (fun x y H Q => ∃ z n, x = .str z ∧ y = .int n ∧ z.length ≤ 1 ∧ -1000000 ≤ n ∧ n ≤ 1000000 ∧ ∀ r : Str, tl r = (List.replicate n.toNat (tl z)).flatten → Q (.str r) H) (tC (.str (Str.ofString ")"))) (tVar 2)) (tC (.str (Str.ofString "("))))
            rfl scBrackets.nd (pi_tup (pv 1)) (blkOk_by (N := ["tree", "drops", "many"]) (sc := defScope sBrackets) (by decide +kernel)) (fun _ _ _ _ _ => pg_name (i := 2) scBrackets.nd rfl (Or.inl rfl)) (fun _ _ _ _ _ => pts_nil)
            (fun _ _ _ _ _ => pe_op op_add_str (pe_op op_mul_str pe_str (pv 2)) pe_str)))
        (pe_op op_mul_str pe_str (pe_op op_sub (pe_callB call_len_seq (by rfl) B.len PySem.boot_len (pa_cons (pv 1) pa_nil)) (pe_callB (cr_sumS rfl) (by rfl) B.sum (by decide +kernel) (pa_cons (pv 1) pa_nil))))))), ?_⟩
    refine ⟨.ref a, rfl, a, ts, rfl, hT, hn, ht, fun H1 p s1 np hp => ?_⟩
    obtain ⟨bl, bd⟩ := dropsOf_bd ht hn
    refine ⟨⟨_, rfl⟩, .ref p, rfl, p, rfl, ⟨_, SqT.of hp⟩, fun D nD => ?_⟩
    have sD := fun o => same_upd (o := o) nD
    refine lc_tup (K := K) (a := p) (xs := (dropsOf ts).map V.int) (fun i H2 => H2 = upd H1 D (.lst (((dropsOf ts).take i).map fun d => V.str (brS (brOne d))))) rfl ?_ ?_ ?_
    · rintro i H2 _ rfl
      exact SqT.of (sD _ _ _ hp)
    · rintro i x H2 hx rfl
      obtain ⟨hi, rfl⟩ := getI_eq hx
      have hm : (dropsOf ts).getD i 0 ∈ dropsOf ts := by
        rw [List.getD_eq_getElem?_getD, List.getElem?_eq_getElem hi]
        exact List.getElem_mem hi
      have hb := bd _ hm
      have hl := brOne_len hb
      refine ⟨rfl, ?_⟩
      refine ⟨_, rfl, _, _, rfl, rfl, by decide, by omega, by omega, fun r hr => ?_⟩
      have er := rep_is hr
      subst er
      refine ⟨_, _, rfl, rfl, ?_, _, upd_same, ?_, ?_⟩
      · rw [brS_open, len_brS, len_brS, List.length_replicate]
        exact size_le (by show _ + 1 ≤ 1000000; omega)
      · rw [List.length_map]
        have : ((dropsOf ts).take i).length ≤ (dropsOf ts).length := List.length_take_le' _ _
        exact size_small (by omega)
      · rw [upd_upd, List.take_succ_eq_append_getElem hi, List.map_append, brS_open, brS_app]
        have e : (dropsOf ts).getD i 0 = (dropsOf ts)[i] := by rw [List.getD_eq_getElem?_getD, List.getElem?_eq_getElem hi]; rfl
        rw [e]
        rfl
    · rintro H2 rfl
      rw [List.length_map, List.take_length]
      have hp2 := sD (.lst ((dropsOf ts).map fun d => V.str (brS (brOne d)))) _ _ hp
      have b1 := brs_len (dropsOf ts) bd
      have b2 := brs_flat (dropsOf ts) bd
      obtain ⟨b3, b4⟩ := sum_bd (dropsOf ts) bd
      refine ⟨_, D, (dropsOf ts).map fun d => brS (brOne d), rfl, rfl, .inl (SqL.of ?_), ?_, ?_⟩
      · rw [upd_same, List.map_map]
        rfl
      · rw [brS_nil, len_brS]
        show _ + _ * 0 ≤ _
        omega
      · have ej : Txt.join (Str.ofString "") ((dropsOf ts).map fun d => brS (brOne d)) = brS ((dropsOf ts).map brOne).flatten := by
          have := join_brS ((dropsOf ts).map brOne)
          rw [List.map_map] at this
          exact this
        rw [ej]
        refine ⟨.ref p, rfl, p, _, rfl, .inr (SqT.of hp2), .ref p, rfl, p, _, rfl, .inr (SqT.of hp2), _, _, rfl, rfl, _, _, rfl, rfl, by decide, ?_, ?_, fun r hr => ?_⟩
        · rw [List.length_map]; omega
        · rw [List.length_map]; omega
        · have er := rep_is hr
          subst er
          refine ⟨_, _, rfl, rfl, ?_, ?_⟩
          · rw [len_brS, len_brS, List.length_replicate, List.length_map]
            exact size_le (by omega)
          · rw [brS_app, List.length_map]
            exact q _ (s1.trans (sD _))
end
end Dk

/-! Dk8: hung. -/
namespace Dk
open PySem PySem.Spec PyProof.Rows L2 TL
/-! ### plain facts -/
def elNow (el : List Int) (rs : List Nat) (i : Nat) (d : Int) : List Int := if 0 < d then el.set (rs.getD (d.toNat - 1) 0) (i : Int) else el
theorem elNow_len (el : List Int) (rs : List Nat) (i : Nat) (d : Int) : (elNow el rs i d).length = el.length := by
  unfold elNow
  split
  · exact List.length_set
  · rfl
theorem hungTo_step (ds : List Int) {i : Nat} {el : List Int} {rs : List Nat} (h : hungTo ds i = some (el, rs)) (hb : ¬ (ds.getD i 0 < 0 ∨ (rs.length : Int) < ds.getD i 0)) :
    hungTo ds (i + 1) = some (setTop (elNow el rs i (ds.getD i 0)) i (rs.drop (ds.getD i 0).toNat), i :: rs.drop (ds.getD i 0).toNat) := by
  simp only [hungTo, h]
  rw [if_neg hb]
  rfl
theorem hungTo_bad (ds : List Int) {i : Nat} {el : List Int} {rs : List Nat} (h : hungTo ds i = some (el, rs)) (hb : ds.getD i 0 < 0 ∨ (rs.length : Int) < ds.getD i 0) : hungTo ds (i + 1) = none := by
  simp only [hungTo, h]
  rw [if_pos hb]
theorem hungTo_none (ds : List Int) {i : Nat} (h : hungTo ds i = none) : ∀ n, hungTo ds (i + n) = none
  | 0 => h
  | n + 1 => by
    have := hungTo_none ds h n
    rw [show i + (n + 1) = (i + n) + 1 from rfl]
    simp only [hungTo, this]
theorem hungTo_inv (ds : List Int) : ∀ (i : Nat) (el : List Int) (rs : List Nat), hungTo ds i = some (el, rs) → el.length = ds.length ∧ (∀ q ∈ rs, q < i) ∧ rs.length ≤ i
  | 0, el, rs, h => by
    unfold hungTo at h
    cases h
    exact ⟨List.length_replicate, (fun _ h => nomatch h), Nat.le_refl _⟩
  | i + 1, el, rs, h => by
    cases e : hungTo ds i with
    | none =>
      rw [hungTo_none ds e 1] at h
      cases h
    | some s =>
      obtain ⟨el0, rs0⟩ := s
      obtain ⟨i1, i2, i3⟩ := hungTo_inv ds i el0 rs0 e
      by_cases hb : ds.getD i 0 < 0 ∨ (rs0.length : Int) < ds.getD i 0
      · rw [hungTo_bad ds e hb] at h
        cases h
      · rw [hungTo_step ds e hb] at h
        cases h
        refine ⟨by rw [setTop_len, elNow_len, i1], fun q hq => ?_, ?_⟩
        · rcases List.mem_cons.mp hq with z | z
          · omega
          · have := i2 q (List.mem_of_mem_drop z)
            omega
        · rw [List.length_cons, List.length_drop]
          omega
theorem hung_len {ds ts : List Int} (h : hung ds = some ts) : ts.length = ds.length := by
  unfold hung at h
  cases e : hungTo ds ds.length with
  | none => rw [e] at h; cases h
  | some s =>
    obtain ⟨el, rs⟩ := s
    rw [e] at h
    cases h
    exact (hungTo_inv ds _ el rs e).1
theorem opensI_at {rs : List Nat} {m : Nat} (h0 : 0 < m) (h1 : m ≤ rs.length) : ((opensI rs).map V.int)[rs.length - m]? = some (.int ((rs.getD (m - 1) 0 : Nat) : Int)) := by
  unfold opensI
  rw [List.getElem?_map, List.getElem?_map, List.getElem?_reverse (by omega), show rs.length - 1 - (rs.length - m) = m - 1 by omega, List.getD_eq_getElem?_getD, List.getElem?_eq_getElem (show m - 1 < rs.length by omega)]
  rfl
theorem opensI_take {rs : List Nat} {m : Nat} (h1 : m ≤ rs.length) : ((opensI rs).map V.int).take (rs.length - m) = (opensI (rs.drop m)).map V.int := by
  unfold opensI
  rw [← List.map_take, ← List.map_take, List.take_reverse, show rs.length - (rs.length - m) = m by omega]
theorem cut_to (xs : List V) (k : Nat) : cutV xs none (some (k : Int)) = xs.take k := by
  unfold cutV
  rw [HT.sIx_none, HT.sIx_nat, List.drop_zero, Nat.sub_zero]
  by_cases h : k ≤ xs.length
  · rw [Nat.min_eq_left h]
  · rw [Nat.min_eq_right (by omega), List.take_of_length_le (Nat.le_refl _), List.take_of_length_le (by omega)]
section
variable {P : Program} {w : World} {K : PySem.W.Frag} {mg : Str → Option Value} {base : Heap}
theorem isG_same {K : PySem.W.Frag} {a : Addr} {xs : List V} {G : Hp → Prop} (h : IsG K a xs G) {H H' : Hp} (s : Same H H') (g : G H) : G H' := by
  rcases h with e | e
  · subst e; exact s.seq g
  · subst e; exact same_seqT s g
/-- ds stands at a: as a list or as a tuple -/
def InS (K : PySem.W.Frag) (H : Hp) (a : Addr) (ds : List Int) : Prop := SqL K H a (ds.map V.int) ∨ SqT K H a (ds.map V.int)
theorem InS.g {K : PySem.W.Frag} {H : Hp} {a : Addr} {ds : List Int} (h : InS K H a ds) : ∃ G, IsG K a (ds.map V.int) G ∧ G H := by
  rcases h with h | h
  · exact ⟨_, .inl rfl, h⟩
  · exact ⟨_, .inr rfl, h⟩
theorem InS.same {K : PySem.W.Frag} {H H' : Hp} {a : Addr} {ds : List Int} (s : Same H H') (h : InS K H a ds) : InS K H' a ds := h.elim (fun h => .inl (s.seq h)) fun h => .inr (same_seqT s h)
theorem scHung : FnScope ["drops", "many", "elders", "still_open", "place", "left"] ["drops"] (defScope sHung) := ⟨rfl, rfl, rfl, by decide +kernel, rfl, by decide +kernel, by decide +kernel⟩
def spHung (K : PySem.W.Frag) : Sp := fun vs H Q _ => ∃ (a : Addr) (ds : List Int), vs = [.ref a] ∧ InS K H a ds ∧ ds.length ≤ 40 ∧
  (∀ H', Same H H' → hung ds = none → Q .non H') ∧ ∀ H' p ts, Same H H' → H p = none → hung ds = some ts → H' p = some (.tup (ts.map V.int)) → Q (.ref p) H'
def LHung (H : Hp) (ds : List Int) (a e : Addr) (i : Nat) (σ : L2.St) (H' : Hp) : Prop := ∃ (y1 : Option V) (o : Addr) (y4 y5 : Option V) (el : List Int) (rs : List Nat), σ = [some (.ref a), y1, some (.ref e), some (.ref o), y4, y5] ∧ hungTo ds i = some (el, rs) ∧
  Same H H' ∧ H o = none ∧ e ≠ o ∧ H' e = some (.lst (el.map V.int)) ∧ H' o = some (.lst ((opensI rs).map V.int))
theorem ok_hung {f : Addr} {fd : FuncData} (F : Fun K "hung" "hung" sHung f fd) (B : Blt mg) : FnOk P w K mg base CX0 1 f fd ["drops"] (spHung K) := by
  refine F.ok (k := 0) scHung (fun vs H Q E h => ?_) (fun cdv A outer s H vs Q E hr h => ?_)
  · obtain ⟨a, ds, rfl, _⟩ := h
    rfl
  · obtain ⟨a, ds, rfl, hS, hn, q1, q2⟩ := h
    obtain ⟨G, hG, g0⟩ := hS.g
    refine ⟨_, pss_cons (ps_setLc (i := 2) (own := [("many", 1)]) (g := gName 1) (tt := tYes) (te := tUn (rU fun i => .int (-i)) (tC (.int 1))) rfl scHung.nd rfl rfl (sw_true rfl rfl rfl (by decide +kernel)) (pi_seq (pv 0))
        (blkOk_by (N := ["drops", "many", "elders", "still_open", "place", "left"]) (sc := defScope sHung) (by decide +kernel)) (fun _ _ _ _ _ => pg_name (i := 1) scHung.nd rfl (Or.inl rfl)) (fun _ _ _ _ _ => pts_nil)
        (fun _ _ _ _ _ => pe_un un_neg pe_int))
      (pss_cons (ps_set (i := 3) scHung.nd rfl (.inl rfl) (pe_lst pa_nil))
      (pss_cons (ps_for PassesOwn.never rfl (pi_enumS (by rfl) B.enumerate (pa_cons (pv 0) pa_nil)) (pg_tup rfl (pgs_cons (pg_name (i := 4) scHung.nd rfl (.inl rfl)) (pgs_cons (pg_name (i := 1) scHung.nd rfl (.inl rfl)) pgs_nil)))
        (pss_cons (ps_if (PW.pt (pw_or (pt_cmpR op_lt (pv 1) pe_int (nomark _)) (pw_or1 (pt_cmpR op_gt (pv 1) (pe_callB call_len_seq (by rfl) B.len PySem.boot_len (pa_cons (pv 3) pa_nil)) (nomark _))))) (pss_one (ps_ret pe_non)) pss_nil)
        (pss_cons (ps_set (i := 5) scHung.nd rfl (.inl rfl) (pe_op op_sub (pe_callB call_len_seq (by rfl) B.len PySem.boot_len (pa_cons (pv 3) pa_nil)) (pv 1)))
        (C8.pss_cut (ps_if (pt_cmpR op_gt (pv 1) pe_int (nomark _)) (pss_one (ps_asg (pv 4) (pg_sub (pv 2) (pe_ix ix_list (pv 3) (pv 5) (fun _ _ => rfl)) set_list))) pss_nil)
        (pss_cons (ps_set (i := 3) scHung.nd rfl (.inl rfl) (pe_slice sl_list (pv 3) po_none (po_some (pv 5))))
        (C8.pss_cut (ps_if (pt_cmpR op_gt (pv 5) pe_int (nomark _)) (pss_one (ps_asg (pe_ix ix_list (pv 3) (pe_un un_neg pe_int) (fun _ _ => rfl)) (pg_sub (pv 2) (pv 4) set_list))) pss_nil)
        (pss_one (ps_expr (pe_bm PySem.F.plainAttrs_list PySem.F.slot_list_append PySem.F.type_list_append mt_append (pv 3) (pa_cons (pv 4) pa_nil))))))))))
      (pss_one (ps_ret (pe_callTy call_tuple_of (by rfl) B.tuple (by decide +kernel) (pa_cons (pv 2) pa_nil)))))), ?_⟩
    refine ⟨.ref a, rfl, a, ds.map V.int, G, rfl, hG, g0, fun e ne => lc_seq (fun i H' => H' = upd H e (.lst ((List.replicate i (-1 : Int)).map V.int))) rfl ?_ ?_ ?_⟩
    · rintro i H' rfl
      exact isG_same hG (same_upd ne) g0
    · rintro i x H' hx rfl
      obtain ⟨hi, rfl⟩ := getI_eq hx
      refine ⟨rfl, ?_⟩
      refine ⟨1, rfl, _, upd_same, ?_, ?_⟩
      · rw [List.length_map, List.length_replicate]
        exact size_small (by omega)
      · rw [upd_upd, List.replicate_succ', List.map_append]
        rfl
    · rintro H' rfl
      rw [List.length_map]
      refine ⟨Nat.zero_le _, fun o no => ?_⟩
      have no' : H o = none := (same_upd ne).free no
      have eo : e ≠ o := fun z => by rw [z, upd_same] at no; cases no
      have sm0 := same_put (u := .lst []) (same_upd (o := .lst ((List.replicate ds.length (-1 : Int)).map V.int)) ne) no'
      refine ⟨.ref a, rfl, a, ds.map V.int, G, rfl, hG, isG_same hG sm0 g0, for_enumS (LHung H ds a e) ⟨none, o, none, none, _, _, rfl, rfl, sm0, no', eo, ?_, upd_same⟩ (fun i σ H' ⟨_, _, _, _, _, _, _, _, sm, _⟩ => isG_same hG sm g0) ?_ ?_⟩
      · rw [upd_ne eo, upd_same]
      · rintro i x T σ H' hx ⟨y1, o, y4, y5, el, rs, rfl, hh, sm, no', eo, he, ho⟩ nT
        obtain ⟨hi, rfl⟩ := getI_eq hx
        obtain ⟨ell, rlt, rln⟩ := hungTo_inv ds i el rs hh
        have sT := same_upd (o := HO.tup [.int (i : Nat), .int (ds.getD i 0)]) nT
        have he1 := sT _ _ he
        have ho1 := sT _ _ ho
        have sm1 := sm.trans sT
        have bad : ds.getD i 0 < 0 ∨ (rs.length : Int) < ds.getD i 0 → hung ds = none := fun hb => by
          have e := hungTo_none ds (hungTo_bad ds hh hb) (ds.length - (i + 1))
          rw [show i + 1 + (ds.length - (i + 1)) = ds.length by omega] at e
          unfold hung
          rw [e]
          rfl
        refine ⟨T, _, rfl, SqT.of upd_same, rfl, .int (i : Nat), [_], rfl, _, [], rfl, rfl, ?_⟩
        refine ⟨_, rfl, _, _, rfl, rfl, _, rfl, ite2 (fun c => ?_) (fun c => ?_)⟩
        · exact q1 _ sm1 (bad (.inl (of_decide_eq_true c)))
        · have c1 : ¬ ds.getD i 0 < 0 := fun z => c (decide_eq_true z)
          refine ⟨_, rfl, .ref o, rfl, o, _, rfl, .inl (SqL.of ho1), _, _, rfl, rfl, _, rfl, ite2 (fun c => ?_) (fun c => ?_)⟩
          · refine q1 _ sm1 (bad (.inr ?_))
            have := of_decide_eq_true c
            rwa [List.length_map, opensI_len] at this
          · have c2 : ¬ (rs.length : Int) < ds.getD i 0 := fun z => c (decide_eq_true (by rw [List.length_map, opensI_len]; exact z))
            have stp := hungTo_step ds hh (fun z => z.elim c1 c2)
            obtain ⟨m, hm⟩ : ∃ m : Nat, ds.getD i 0 = (m : Int) := ⟨(ds.getD i 0).toNat, by omega⟩
            rw [hm] at stp c1 c2 sT he1 ho1 sm1 ⊢
            rw [Int.toNat_natCast] at stp
            have hml : m ≤ rs.length := by omega
            have el1 : ((((opensI rs).map V.int).length : Nat) : Int) - (m : Int) = ((rs.length - m : Nat) : Int) := by
              rw [List.length_map, opensI_len]
              omega
            refine ⟨.ref o, rfl, o, _, rfl, .inl (SqL.of ho1), .int (m : Int), rfl, _, _, rfl, rfl, ?_⟩
            refine ⟨fun σ' H3 => σ' = [some (.ref a), some (.int (m : Int)), some (.ref e), some (.ref o), some (.int (i : Nat)), some (.int (((((opensI rs).map V.int).length : Nat) : Int) - (m : Int)))] ∧ Same H H3 ∧ H3 e = some (.lst ((elNow el rs i (m : Int)).map V.int)) ∧ H3 o = some (.lst ((opensI rs).map V.int)), ?_, ?_⟩
            · refine ⟨_, rfl, (m : Int), 0, rfl, rfl, _, rfl, ite2 (fun c => ?_) (fun c => ?_)⟩
              · have c3 : 0 < m := by
                  have := of_decide_eq_true c
                  omega
                have hrm : rs.getD (m - 1) 0 < ds.length := by
                  rw [List.getD_eq_getElem?_getD, List.getElem?_eq_getElem (show m - 1 < rs.length by omega)]
                  exact Nat.lt_trans (rlt _ (List.getElem_mem _)) hi
                refine ⟨_, rfl, .ref e, rfl, .ref o, rfl, _, rfl, o, _, _, _, rfl, rfl, SqL.of ho1, L2.at_of el1 (opensI_at c3 hml), e, _, _, _, rfl, rfl, he1, ixN_nat (by rw [List.length_map, ell]; exact hrm), rfl, same_put sm1 ne, ?_, ?_⟩
                · rw [upd_same]
                  unfold elNow
                  rw [if_pos (by omega), Int.toNat_natCast]
                  exact congrArg (fun z => some (HO.lst z)) (map_set _ _ _)
                · rw [upd_ne eo.symm]
                  exact ho1
              · have c3 : m = 0 := by
                  have : ¬ (0 : Int) < (m : Int) := fun z => c (decide_eq_true z)
                  omega
                subst c3
                refine ⟨rfl, sm1, ?_, ho1⟩
                unfold elNow
                rw [if_neg (by decide)]
                exact he1
            · rintro σ' H3 ⟨rfl, sm3, he3, ho3⟩
              rw [el1]
              refine ⟨.ref o, rfl, .int ((rs.length - m : Nat) : Int), rfl, ((rs.length - m : Nat) : Int), rfl, o, _, rfl, SqL.of ho3, fun z nz => ?_⟩
              have sz := same_upd (o := HO.lst (cutV ((opensI rs).map V.int) none (some ((rs.length - m : Nat) : Int)))) nz
              have hz : (upd H3 z (.lst (cutV ((opensI rs).map V.int) none (some ((rs.length - m : Nat) : Int))))) z = some (.lst ((opensI (rs.drop m)).map V.int)) := by
                rw [upd_same, cut_to, opensI_take hml]
              have nz' : H z = none := sm3.free nz
              have ez : e ≠ z := ne_of_none he3 nz
              refine ⟨fun σ' H4 => σ' = [some (.ref a), some (.int (m : Int)), some (.ref e), some (.ref z), some (.int (i : Nat)), some (.int ((rs.length - m : Nat) : Int))] ∧ Same H H4 ∧ H4 e = some (.lst ((setTop (elNow el rs i (m : Int)) i (rs.drop m)).map V.int)) ∧ H4 z = some (.lst ((opensI (rs.drop m)).map V.int)), ?_, ?_⟩
              · refine ⟨_, rfl, _, 0, rfl, rfl, _, rfl, ite2 (fun c => ?_) (fun c => ?_)⟩
                · have c4 : 0 < rs.length - m := by
                    have := of_decide_eq_true c
                    omega
                  cases er : rs.drop m with
                  | nil =>
                    have := congrArg List.length er
                    rw [List.length_drop] at this
                    have e0 : ([] : List Nat).length = 0 := rfl
                    omega
                  | cons p r =>
                    rw [er] at hz
                    have hz2 := hz
                    rw [opensI_cons] at hz2
                    refine ⟨.ref z, rfl, 1, rfl, z, _, -1, .int (p : Int), rfl, rfl, SqL.of hz2, atI_last _ _, .ref e, rfl, _, rfl, e, _, (i : Int), i, rfl, rfl, sz _ _ he3, ixN_nat (by rw [List.length_map, elNow_len, ell]; exact hi), rfl, same_put (sm3.trans sz) ne, ?_, ?_⟩
                    · rw [upd_same]
                      exact congrArg (fun z => some (HO.lst z)) (map_set _ _ _)
                    · rw [upd_ne ez.symm]
                      exact hz
                · have c4 : rs.length - m = 0 := by
                    have : ¬ (0 : Int) < ((rs.length - m : Nat) : Int) := fun z => c (decide_eq_true z)
                    omega
                  have er : rs.drop m = [] := List.drop_eq_nil_of_le (by omega)
                  refine ⟨rfl, sm3.trans sz, ?_, hz⟩
                  rw [er]
                  exact sz _ _ he3
              · rintro σ' H4 ⟨rfl, sm4, he4, hz4⟩
                refine ⟨.ref z, rfl, .inl ⟨rfl, _, SqL.of hz4⟩, _, rfl, z, _, _, rfl, rfl, hz4, ?_, ?_⟩
                · rw [List.length_map, opensI_len, List.length_drop]
                  exact size_small (by omega)
                · refine ⟨_, z, _, _, _, _, rfl, stp, same_put sm4 nz', nz', ez, ?_, ?_⟩
                  · rw [upd_ne ez]
                    exact he4
                  · rw [upd_same, opensI_cons]
      · rintro σ H' ⟨y1, o, y4, y5, el, rs, rfl, hh, sm, no', eo, he, ho⟩
        rw [List.length_map] at hh
        refine ⟨.ref e, rfl, e, _, rfl, .inl ⟨SqL.of he, fun p np => q2 _ p el (sm.trans (same_upd np)) (sm.free np) ?_ (by rw [upd_same])⟩⟩
        unfold hung
        rw [hh]
        rfl
end
end Dk

/-! Dk9: by_drops, drops_by_distances, by_distances, by_brackets. -/
namespace Dk
open PySem PySem.Spec PyProof.Rows L2 TL
/-! ### the error -/
structure Tell (K : PySem.W.Frag) (mg : Str → Option Value) (C : Addr) : Prop where
  gC : mg "NoTelling" = some (.ref C)
  x : PySem.W.excIn K C [.type "ValueError", .type "Exception", .type "BaseException", .type "object"] "ValueError.__new__" = true
  k : PySem.W.keepIn K (.ref C) = true
  b : PySem.W.subIn K (.ref C) (.type "BaseException") = some true
  t : PySem.W.typeIn K (.ref C) = some (.type "type")
  i : PySem.W.isClsIn K C = true
  s : PySem.W.subIn K (.ref C) (.ref C) = some true
theorem ps_nox {X : Cx} {st : Stmt} {t : TS} (h : PS X.nox st t) : PS X st t := ⟨fun pins s σ H D I hw =>
  wpAny_mono (h.run pins s σ H D (I.wish _) hw) (fun _ _ q => q.unwish) fun _ _ z => False.elim z⟩
/-! ### plain facts -/
theorem hung_in {ds : List Int} : hung ds = none ∨ ∃ ts, hung ds = some ts ∧ ts.length = ds.length := by
  cases h : hung ds with
  | none => exact .inl rfl
  | some ts => exact .inr ⟨ts, rfl, hung_len h⟩
theorem distTo_none (ds : List Int) {i : Nat} (h : distTo ds i = none) : ∀ n, distTo ds (i + n) = none
  | 0 => h
  | n + 1 => by
    have := distTo_none ds h n
    rw [show i + (n + 1) = (i + n) + 1 from rfl]
    simp only [distTo, this]
theorem distTo_zero (ds : List Int) {i : Nat} {dr os : List Int} (h : distTo ds i = some (dr, os)) (h0 : ds.getD i 0 = 0) : distTo ds (i + 1) = some (dr ++ [(os.length : Int) - 0], [(i : Int)]) := by
  simp only [distTo, h]
  rw [if_pos h0]
theorem distTo_step (ds : List Int) {i : Nat} {dr os : List Int} (h : distTo ds i = some (dr, os)) (h0 : ¬ ds.getD i 0 = 0)
    (h1 : (leftOf os ((i : Int) - ds.getD i 0)).drop ((leftOf os ((i : Int) - ds.getD i 0)).length - 1) = [(i : Int) - ds.getD i 0]) :
    distTo ds (i + 1) = some (dr ++ [(os.length : Int) - ((leftOf os ((i : Int) - ds.getD i 0)).length : Int)], leftOf os ((i : Int) - ds.getD i 0) ++ [(i : Int)]) := by
  simp only [distTo, h]
  rw [if_neg h0]
  exact if_pos h1
theorem distTo_bad (ds : List Int) {i : Nat} {dr os : List Int} (h : distTo ds i = some (dr, os)) (h0 : ¬ ds.getD i 0 = 0)
    (h1 : ¬ (leftOf os ((i : Int) - ds.getD i 0)).drop ((leftOf os ((i : Int) - ds.getD i 0)).length - 1) = [(i : Int) - ds.getD i 0]) : distTo ds (i + 1) = none := by
  simp only [distTo, h]
  rw [if_neg h0]
  exact if_neg h1
theorem distTo_inv (ds : List Int) : ∀ (i : Nat) (dr os : List Int), distTo ds i = some (dr, os) → dr.length = i ∧ os.length ≤ i
  | 0, dr, os, h => by
    unfold distTo at h
    cases h
    exact ⟨rfl, Nat.le_refl _⟩
  | i + 1, dr, os, h => by
    cases e : distTo ds i with
    | none =>
      rw [distTo_none ds e 1] at h
      cases h
    | some s =>
      obtain ⟨dr0, os0⟩ := s
      obtain ⟨i1, i2⟩ := distTo_inv ds i dr0 os0 e
      by_cases h0 : ds.getD i 0 = 0
      · rw [distTo_zero ds e h0] at h
        cases h
        refine ⟨by rw [List.length_append, i1]; rfl, ?_⟩
        show 1 ≤ i + 1
        omega
      · by_cases h1 : (leftOf os0 ((i : Int) - ds.getD i 0)).drop ((leftOf os0 ((i : Int) - ds.getD i 0)).length - 1) = [(i : Int) - ds.getD i 0]
        · rw [distTo_step ds e h0 h1] at h
          cases h
          have := left_len os0 ((i : Int) - ds.getD i 0)
          refine ⟨by rw [List.length_append, i1]; rfl, ?_⟩
          rw [List.length_append]
          show _ + 1 ≤ i + 1
          omega
        · rw [distTo_bad ds e h0 h1] at h
          cases h
theorem dropsDist_len {ds dr : List Int} (h : dropsDist ds = some dr) : dr.length = ds.length := by
  unfold dropsDist at h
  cases e : distTo ds ds.length with
  | none => rw [e] at h; cases h
  | some s =>
    obtain ⟨d, o⟩ := s
    rw [e] at h
    cases h
    exact (distTo_inv ds _ d o e).1
theorem cut_last (xs : List V) : cutV xs (some (-1)) none = xs.drop (xs.length - 1) := by
  unfold cutV
  rw [HT.sIx_none]
  have e : HT.sIx xs.length 0 (some (-1)) = xs.length - 1 := by
    show (if (-1 : Int) < 0 then ((-1 : Int) + (xs.length : Int)).toNat else min (-1 : Int).toNat xs.length) = xs.length - 1
    rw [if_pos (by decide)]
    omega
  rw [e]
  exact List.take_of_length_le (Nat.le_of_eq List.length_drop)
theorem brTo_app (a : List Bool) (b : Bool) : ∀ s, brTo (a ++ [b]) s = if b then ((brTo a s).1, (brTo a s).2 + 1) else ((brTo a s).1 ++ [(brTo a s).2], 0) := by
  induction a with
  | nil => intro s; cases b <;> rfl
  | cons x r ih =>
    intro s
    cases x
    · exact ih _
    · exact ih _
theorem brTo_len (a : List Bool) : ∀ s, (brTo a s).1.length ≤ s.1.length + a.length := by
  induction a with
  | nil => intro s; exact Nat.le_refl _
  | cons x r ih =>
    intro s
    cases x
    · have := ih (s.1 ++ [s.2], 0)
      rw [List.length_append] at this
      have e : [s.2].length = 1 := rfl
      rw [List.length_cons]
      exact Nat.le_trans this (by omega)
    · have := ih (s.1, s.2 + 1)
      rw [List.length_cons]
      exact Nat.le_trans this (by show s.1.length + r.length ≤ _; omega)
section
variable {P : Program} {w : World} {K : PySem.W.Frag} {mg : Str → Option Value} {base : Heap}
/-! ### by_drops -/
theorem scByDrops : FnScope ["told", "tree"] ["told"] (defScope sByDrops) := ⟨rfl, rfl, rfl, by decide +kernel, rfl, by decide +kernel, by decide +kernel⟩
def spByDrops (K : PySem.W.Frag) (C : Addr) : Sp := fun vs H Q E => ∃ (a : Addr) (ds : List Int), vs = [.ref a] ∧ InS K H a ds ∧ ds.length ≤ 40 ∧
  (∀ H', Same H H' → byDrops ds = none → E (.ref C) none H') ∧ ∀ H' p ts, Same H H' → H p = none → byDrops ds = some ts → H' p = some (.tup (ts.map V.int)) → Q (.ref p) H'
theorem ok_byDrops {f C : Addr} {fd : FuncData} {tk : Tok} (F : Fun K "by_drops" "by_drops" sByDrops f fd) (B : Blt mg) (hM : mg "MOST_PLACES" = some (.int 40 tk)) (T : Tell K mg C) (CH : Cal P w K mg base CX0 1 "hung" ["drops"] (spHung K)) :
    FnOk P w K mg base (L2.CX P w) 2 f fd ["told"] (spByDrops K C) := by
  refine F.okX (k := 1) scByDrops (fun vs H Q E h => ?_) (fun cdv A outer s H vs Q E hr h => ?_)
  · obtain ⟨a, ds, rfl, _⟩ := h
    rfl
  · obtain ⟨a, ds, rfl, hS, hn, q1, q2⟩ := h
    refine ⟨_, pss_cons (ps_set (i := 1) scByDrops.nd rfl (.inl rfl) pe_non)
      (pss_cons (ps_if (pt_cmpR op_le (pe_callB call_len_seq (by rfl) B.len PySem.boot_len (pa_cons (pv 0) pa_nil)) (pe_glob (v := .int 40) (by rfl) hM ⟨_, rfl⟩) (nomark _))
        (pss_one (ps_set (i := 1) scByDrops.nd rfl (.inl rfl) (pe_cal CH hr (by rfl) pass0 (pa_cons (pv 0) pa_nil)))) pss_nil)
      (pss_cons (ps_if (pt_cmpR op_isN (pv 1) pe_non (nomark _)) (pss_one (ps_raise rfl (takes_of rfl rfl rfl rfl) (pmk_own PySem.F.excBase_ValueError T.x T.gC T.k (raises_own T.b T.t) (by rfl)))) pss_nil)
      (pss_one (ps_ret (pv 1))))), ?_⟩
    refine ⟨.ref a, rfl, a, _, rfl, hS, _, _, rfl, rfl, _, rfl, ite2 (fun _ => ?_) (fun c => absurd (decide_eq_true (by rw [List.length_map]; omega)) c)⟩
    have eb : byDrops ds = hung ds := if_pos hn
    refine ⟨.ref a, rfl, a, ds, rfl, hS, hn, fun H1 s1 hf => ?_, fun H1 p ts s1 np hf hp => ?_⟩
    · refine ⟨.non, rfl, rfl, _, rfl, ite2 (fun _ => ?_) (fun c => absurd (decide_eq_true rfl) c)⟩
      exact q1 H1 s1 (eb.trans hf)
    · refine ⟨.ref p, rfl, rfl, _, rfl, ite2 (fun c => absurd c (by rw [decide_eq_false (fun z => by cases z)]; exact Bool.false_ne_true)) (fun _ => ?_)⟩
      exact ⟨.ref p, rfl, q2 H1 p ts s1 np (eb.trans hf) hp⟩
/-! ### drops_by_distances -/
theorem scDropsDist : FnScope ["told", "still_open", "drops", "place", "far", "left", "other"] ["told"] (defScope sDropsDist) := ⟨rfl, rfl, rfl, by decide +kernel, rfl, by decide +kernel, by decide +kernel⟩
def spDropsDist (K : PySem.W.Frag) : Sp := fun vs H Q _ => ∃ (a : Addr) (ds : List Int), vs = [.ref a] ∧ InS K H a ds ∧ ds.length ≤ 40 ∧
  (∀ H', Same H H' → dropsDist ds = none → Q .non H') ∧ ∀ H' p dr, Same H H' → H p = none → dropsDist ds = some dr → H' p = some (.lst (dr.map V.int)) → Q (.ref p) H'
def LDist (H : Hp) (ds : List Int) (a d : Addr) (i : Nat) (σ : L2.St) (H' : Hp) : Prop := ∃ (o : Addr) (y3 y4 y5 : Option V) (dr os : List Int), σ = [some (.ref a), some (.ref o), some (.ref d), y3, y4, y5, none] ∧ distTo ds i = some (dr, os) ∧
  Same H H' ∧ o ≠ d ∧ H' o = some (.lst (os.map V.int)) ∧ H' d = some (.lst (dr.map V.int))
theorem ok_dropsDist {f : Addr} {fd : FuncData} (F : Fun K "drops_by_distances" "drops_by_distances" sDropsDist f fd) (B : Blt mg) : FnOk P w K mg base CX0 1 f fd ["told"] (spDropsDist K) := by
  refine F.ok (k := 0) scDropsDist (fun vs H Q E h => ?_) (fun cdv A outer s H vs Q E hr h => ?_)
  · obtain ⟨a, ds, rfl, _⟩ := h
    rfl
  · obtain ⟨a, ds, rfl, hS, hn, q1, q2⟩ := h
    obtain ⟨G, hG, g0⟩ := hS.g
    refine ⟨_, pss_cons (ps_set (i := 1) scDropsDist.nd rfl (.inl rfl) (pe_lst pa_nil))
      (pss_cons (ps_set (i := 2) scDropsDist.nd rfl (.inl rfl) (pe_lst pa_nil))
      (pss_cons (ps_for PassesOwn.never rfl (pi_enumS (by rfl) B.enumerate (pa_cons (pv 0) pa_nil)) (pg_tup rfl (pgs_cons (pg_name (i := 3) scDropsDist.nd rfl (.inr rfl)) (pgs_cons (pg_name (i := 4) scDropsDist.nd rfl (.inr rfl)) pgs_nil)))
        (pss_cons (ps_setLc (i := 5) (own := [("other", 6)]) (g := gName 6) (tt := tTest (tOp (rI0 fun i j => .bl (decide (i ≤ j))) (tVar 6) (tOp (rI0 fun i j => .int (i - j)) (tVar 3) (tVar 4)))) (te := tVar 6) rfl scDropsDist.nd rfl rfl (sw_true rfl rfl rfl (by decide +kernel)) (pi_list (pv 1))
            (blkOk_by (N := ["told", "still_open", "drops", "place", "far", "left", "other"]) (sc := defScope sDropsDist) (by decide +kernel)) (fun _ _ _ _ _ => pg_name (i := 6) scDropsDist.nd rfl (Or.inl rfl))
            (fun _ _ _ _ _ => pts_one (pt_cmpR op_le (pv 6) (pe_op op_sub (pv 3) (pv 4)) (nomark _))) (fun _ _ _ _ _ => pv 6))
        (C8.pss_cut (ps_if (pt_cmpR op_eq (pv 4) pe_int (nomark _)) (pss_one (ps_set (i := 5) scDropsDist.nd rfl (.inl rfl) (pe_lst pa_nil)))
          (pss_one (ps_if (pt_cmpR (op_neL hr.units) (pe_slice sl_list (pv 5) (po_some (pe_un un_neg pe_int)) po_none) (pe_lst (pa_cons (pe_op op_sub (pv 3) (pv 4)) pa_nil)) (nomark _)) (pss_one (ps_ret pe_non)) pss_nil)))
        (pss_cons (ps_expr (pe_bm PySem.F.plainAttrs_list PySem.F.slot_list_append PySem.F.type_list_append mt_append (pv 2) (pa_cons (pe_op op_sub (pe_callB call_len_seq (by rfl) B.len PySem.boot_len (pa_cons (pv 1) pa_nil)) (pe_callB call_len_seq (by rfl) B.len PySem.boot_len (pa_cons (pv 5) pa_nil))) pa_nil)))
        (pss_one (ps_set (i := 1) scDropsDist.nd rfl (.inl rfl) (pe_op op_cat (pv 5) (pe_lst (pa_cons (pv 3) pa_nil)))))))))
      (pss_one (ps_ret (pv 2))))), ?_⟩
    refine ⟨Nat.zero_le _, fun o no => ⟨Nat.zero_le _, fun d nd => ?_⟩⟩
    have so := same_upd (o := HO.lst []) no
    have sd := same_upd (o := HO.lst []) nd
    have nd' : H d = none := so.free nd
    refine ⟨.ref a, rfl, a, ds.map V.int, G, rfl, hG, isG_same hG (so.trans sd) g0, for_enumS (LDist H ds a d) ⟨o, none, none, none, [], [], rfl, rfl, so.trans sd, ne_of_none upd_same nd, sd _ _ upd_same, upd_same⟩ (fun i σ H' ⟨_, _, _, _, _, _, _, _, sm, _⟩ => isG_same hG sm g0) ?_ ?_⟩
    · rintro i x T σ H' hx ⟨o, y3, y4, y5, dr, os, rfl, hh, sm, od, ho, hd⟩ nT
      obtain ⟨hi, rfl⟩ := getI_eq hx
      obtain ⟨drl, osl⟩ := distTo_inv ds i dr os hh
      have sT := same_upd (o := HO.tup [.int (i : Nat), .int (ds.getD i 0)]) nT
      have ho1 := sT _ _ ho
      have hd1 := sT _ _ hd
      have sm1 := sm.trans sT
      refine ⟨T, _, rfl, SqT.of upd_same, rfl, .int (i : Nat), [_], rfl, _, [], rfl, rfl, ?_⟩
      refine ⟨.ref o, rfl, o, rfl, ⟨_, SqL.of ho1⟩, fun D nD => ?_⟩
      have sD := fun u => same_upd (o := u) nD
      refine lc_list (K := K) (a := o) (xs := os.map V.int) (fun j H3 => H3 = upd (upd H' T (.tup [.int (i : Nat), .int (ds.getD i 0)])) D (.lst ((leftOf (os.take j) ((i : Int) - ds.getD i 0)).map V.int))) rfl ?_ ?_ ?_
      · rintro j H3 _ rfl
        exact SqL.of (sD _ _ _ ho1)
      · rintro j x H3 hx rfl
        obtain ⟨hj, rfl⟩ := getI_eq hx
        refine ⟨rfl, ?_⟩
        refine ⟨_, rfl, _, rfl, _, rfl, _, _, rfl, rfl, _, _, rfl, rfl, _, rfl, ite2 (fun c => ?_) (fun c => ?_)⟩
        · have c' := of_decide_eq_true c
          refine ⟨_, rfl, _, upd_same, ?_, ?_⟩
          · rw [List.length_map]
            have h1 := left_len (os.take j) ((i : Int) - ds.getD i 0)
            have h2 : (os.take j).length ≤ os.length := List.length_take_le' _ _
            exact size_small (by omega)
          · rw [upd_upd, left_take _ _ j hj, if_pos c', List.map_append]
            rfl
        · have c' := fun z => c (decide_eq_true z)
          show upd _ D _ = upd _ D _
          rw [left_take _ _ j hj, if_neg c', List.append_nil]
      · rintro H3 rfl
        rw [List.length_map, List.take_length]
        have ll := left_len os ((i : Int) - ds.getD i 0)
        have ho3 := sD (.lst ((leftOf os ((i : Int) - ds.getD i 0)).map V.int)) _ _ ho1
        have hd3 := sD (.lst ((leftOf os ((i : Int) - ds.getD i 0)).map V.int)) _ _ hd1
        have dD : d ≠ D := ne_of_none hd1 nD
        -- behind the two ifs: what is left, at l
        refine ⟨fun σ' H4 => ∃ (l : Addr) (ls : List Int), σ' = [some (.ref a), some (.ref o), some (.ref d), some (.int (i : Nat)), some (.int (ds.getD i 0)), some (.ref l), none] ∧ distTo ds (i + 1) = some (dr ++ [(os.length : Int) - (ls.length : Int)], ls ++ [(i : Int)]) ∧
          ls.length ≤ 40 ∧ Same H H4 ∧ d ≠ l ∧ H4 o = some (.lst (os.map V.int)) ∧ H4 d = some (.lst (dr.map V.int)) ∧ H4 l = some (.lst (ls.map V.int)), ?_, ?_⟩
        · refine ⟨_, rfl, rfl, _, rfl, ite2 (fun c => ?_) (fun c => ?_)⟩
          · have c' : ds.getD i 0 = 0 := V.int.inj (of_decide_eq_true c)
            refine ⟨Nat.zero_le _, fun z nz => ⟨z, [], rfl, distTo_zero ds hh c', Nat.zero_le _, (sm1.trans (sD _)).trans (same_upd nz), ne_of_none hd3 nz, (same_upd nz) _ _ ho3, (same_upd nz) _ _ hd3, upd_same⟩⟩
          · have c' : ¬ ds.getD i 0 = 0 := fun z => c (decide_eq_true (by rw [z]))
            refine ⟨.ref D, rfl, 1, rfl, -1, rfl, D, _, rfl, SqL.of upd_same, fun z nz => ?_⟩
            rw [cut_last, List.length_map, ← List.map_drop]
            have sz := fun u => same_upd (o := u) nz
            refine ⟨_, rfl, _, rfl, _, _, rfl, rfl, size_le (by show 1 ≤ 1000000; decide), fun y ny => ?_⟩
            have sy := fun u => same_upd (o := u) ny
            refine ⟨z, y, (leftOf os ((i : Int) - ds.getD i 0)).drop ((leftOf os ((i : Int) - ds.getD i 0)).length - 1), [(i : Int) - ds.getD i 0], rfl, rfl, SqL.of (sy _ _ _ upd_same), SqL.of upd_same, _, rfl, ite2 (fun c2 => ?_) (fun c2 => ?_)⟩
            · have c3 : ¬ (leftOf os ((i : Int) - ds.getD i 0)).drop ((leftOf os ((i : Int) - ds.getD i 0)).length - 1) = [(i : Int) - ds.getD i 0] := fun z => by
                rw [decide_eq_true z] at c2
                cases c2
              refine q1 _ (((sm1.trans (sD _)).trans (sz _)).trans (sy _)) ?_
              have e := distTo_none ds (distTo_bad ds hh c' c3) (ds.length - (i + 1))
              rw [show i + 1 + (ds.length - (i + 1)) = ds.length by omega] at e
              unfold dropsDist
              rw [e]
              rfl
            · have c3 : (leftOf os ((i : Int) - ds.getD i 0)).drop ((leftOf os ((i : Int) - ds.getD i 0)).length - 1) = [(i : Int) - ds.getD i 0] := by
                refine Classical.byContradiction fun z => c2 ?_
                rw [decide_eq_false z]
                rfl
              exact ⟨D, _, rfl, distTo_step ds hh c' c3, by omega, ((sm1.trans (sD _)).trans (sz _)).trans (sy _), dD, sy _ _ _ (sz _ _ _ ho3), sy _ _ _ (sz _ _ _ hd3), sy _ _ _ (sz _ _ _ upd_same)⟩
        · rintro σ' H4 ⟨l, ls, rfl, stp, lsl, sm4, dl, ho4, hd4, hl4⟩
          have zS : ∀ u, Same H (upd H4 d u) := fun u => same_put sm4 nd'
          have zl : ∀ u, (upd H4 d u) l = some (.lst (ls.map V.int)) := fun u => (upd_ne dl.symm).trans hl4
          have zd : ∀ u, (upd H4 d u) d = some u := fun u => upd_same
          refine ⟨.ref d, rfl, .inl ⟨rfl, _, SqL.of hd4⟩, .ref o, rfl, o, _, rfl, .inl (SqL.of ho4), .ref l, rfl, l, _, rfl, .inl (SqL.of hl4), _, _, rfl, rfl, d, _, _, rfl, rfl, hd4, ?_, ?_⟩
          · rw [List.length_map, drl]
            exact size_small (by omega)
          · refine ⟨.ref l, rfl, _, rfl, size_le (by show 1 ≤ 1000000; decide), fun z nz => ⟨l, z, _, _, rfl, rfl, (same_upd nz) _ _ (zl _), upd_same, ?_, fun o' no' => ?_⟩⟩
            · rw [List.length_map]
              exact size_le (by show _ + 1 ≤ 1000000; omega)
            · refine ⟨o', _, _, _, _, _, rfl, stp, ((zS _).trans (same_upd nz)).trans (same_upd no'), (ne_of_none ((same_upd nz) _ _ (zd _)) no').symm, ?_, ?_⟩
              · rw [upd_same, List.map_append]
                rfl
              · refine ((same_upd no') _ _ ((same_upd nz) _ _ (zd _))).trans ?_
                rw [List.map_append, List.length_map, List.length_map]
                rfl
    · rintro σ H' ⟨o, y3, y4, y5, dr, os, rfl, hh, sm, od, ho, hd⟩
      rw [List.length_map] at hh
      refine ⟨.ref d, rfl, q2 H' d dr sm nd' ?_ hd⟩
      unfold dropsDist
      rw [hh]
      rfl
/-! ### by_distances -/
theorem scByDist : FnScope ["told", "drops"] ["told"] (defScope sByDist) := ⟨rfl, rfl, rfl, by decide +kernel, rfl, by decide +kernel, by decide +kernel⟩
def spByDist (K : PySem.W.Frag) (C : Addr) : Sp := fun vs H Q E => ∃ (a : Addr) (ds : List Int), vs = [.ref a] ∧ InS K H a ds ∧ ds.length ≤ 40 ∧
  (∀ H', Same H H' → byDist ds = none → E (.ref C) none H') ∧ (∀ H', Same H H' → byDist ds = none → Q .non H') ∧ ∀ H' p ts, Same H H' → H p = none → byDist ds = some ts → H' p = some (.tup (ts.map V.int)) → Q (.ref p) H'
theorem ok_byDist {f C : Addr} {fd : FuncData} {tk : Tok} (F : Fun K "by_distances" "by_distances" sByDist f fd) (B : Blt mg) (hM : mg "MOST_PLACES" = some (.int 40 tk)) (T : Tell K mg C) (CD : Cal P w K mg base CX0 1 "drops_by_distances" ["told"] (spDropsDist K))
    (CH : Cal P w K mg base CX0 1 "hung" ["drops"] (spHung K)) : FnOk P w K mg base (L2.CX P w) 2 f fd ["told"] (spByDist K C) := by
  refine F.okX (k := 1) scByDist (fun vs H Q E h => ?_) (fun cdv A outer s H vs Q E hr h => ?_)
  · obtain ⟨a, ds, rfl, _⟩ := h
    rfl
  · obtain ⟨a, ds, rfl, hS, hn, q1, q2, q3⟩ := h
    refine ⟨_, pss_cons (ps_set (i := 1) scByDist.nd rfl (.inl rfl) pe_non)
      (pss_cons (ps_if (pt_cmpR op_le (pe_callB call_len_seq (by rfl) B.len PySem.boot_len (pa_cons (pv 0) pa_nil)) (pe_glob (v := .int 40) (by rfl) hM ⟨_, rfl⟩) (nomark _))
        (pss_one (ps_set (i := 1) scByDist.nd rfl (.inl rfl) (pe_cal CD hr (by rfl) pass0 (pa_cons (pv 0) pa_nil)))) pss_nil)
      (pss_cons (ps_if (pt_cmpR op_isN (pv 1) pe_non (nomark _)) (pss_one (ps_raise rfl (takes_of rfl rfl rfl rfl) (pmk_own PySem.F.excBase_ValueError T.x T.gC T.k (raises_own T.b T.t) (by rfl)))) pss_nil)
      (pss_one (ps_ret (pe_cal CH hr (by rfl) pass0 (pa_cons (pv 1) pa_nil)))))), ?_⟩
    refine ⟨.ref a, rfl, a, _, rfl, hS, _, _, rfl, rfl, _, rfl, ite2 (fun _ => ?_) (fun c => absurd (decide_eq_true (by rw [List.length_map]; omega)) c)⟩
    have eb : byDist ds = (dropsDist ds).bind hung := if_pos hn
    refine ⟨.ref a, rfl, a, ds, rfl, hS, hn, fun H1 s1 hf => ?_, fun H1 p dr s1 np hf hp => ?_⟩
    · refine ⟨.non, rfl, rfl, _, rfl, ite2 (fun _ => ?_) (fun c => absurd (decide_eq_true rfl) c)⟩
      refine q1 H1 s1 ?_
      rw [eb, hf]
      rfl
    · refine ⟨.ref p, rfl, rfl, _, rfl, ite2 (fun c => absurd c (by rw [decide_eq_false (fun z => by cases z)]; exact Bool.false_ne_true)) (fun _ => ?_)⟩
      have hl := dropsDist_len hf
      refine ⟨.ref p, rfl, p, dr, rfl, .inl (SqL.of hp), by omega, fun H2 s2 hh => ?_, fun H2 p2 ts s2 np2 hh hp2 => ?_⟩
      · refine q2 H2 (s1.trans s2) ?_
        rw [eb, hf]
        exact hh
      · refine q3 H2 p2 ts (s1.trans s2) (s1.free np2) ?_ hp2
        rw [eb, hf]
        exact hh
/-! ### by_brackets -/
theorem scByBr : FnScope ["text", "drops", "many", "sign"] ["text"] (defScope sByBr) := ⟨rfl, rfl, rfl, by decide +kernel, rfl, by decide +kernel, by decide +kernel⟩
def spByBr (C : Addr) : Sp := fun vs H Q E => ∃ (bs : List Bool), vs = [.str (brS bs)] ∧ bs.length ≤ 40 ∧
  (∀ H', Same H H' → byBr bs = none → E (.ref C) none H') ∧ ∀ H' p ts, Same H H' → H p = none → byBr bs = some ts → H' p = some (.tup (ts.map V.int)) → Q (.ref p) H'
theorem brS_at {bs : List Bool} {i c : Nat} (h : (brS bs).cps[i]? = some c) : ∃ b, bs[i]? = some b ∧ c = brC b := by
  have h' : (bs.map brC)[i]? = some c := by
    have : (brS bs).cps = (bs.map brC).toArray := rfl
    rw [this, List.getElem?_toArray] at h
    exact h
  rw [List.getElem?_map] at h'
  cases e : bs[i]? with
  | none => rw [e] at h'; cases h'
  | some b =>
    rw [e] at h'
    exact ⟨b, rfl, (Option.some.inj h').symm⟩
theorem sign_eq (b b2 : Bool) : decide (V.str ⟨#[brC b]⟩ = V.str (brS [b2])) = decide (b = b2) := by
  have : (V.str ⟨#[brC b]⟩ = V.str (brS [b2])) ↔ b = b2 := by
    constructor
    · intro h
      have h1 : (⟨#[brC b]⟩ : Str) = brS [b2] := V.str.inj h
      have h2 : brS [b] = brS [b2] := h1
      have h3 := brS_inj h2
      injection h3
    · intro h
      rw [h]
      rfl
  rw [Bool.eq_iff_iff, decide_eq_true_iff, decide_eq_true_iff]
  exact this
theorem ok_byBr {f C : Addr} {fd : FuncData} {tk : Tok} (F : Fun K "by_brackets" "by_brackets" sByBr f fd) (B : Blt mg) (hM : mg "MOST_PLACES" = some (.int 40 tk)) (T : Tell K mg C) (CH : Cal P w K mg base CX0 1 "hung" ["drops"] (spHung K)) :
    FnOk P w K mg base (L2.CX P w) 2 f fd ["text"] (spByBr C) := by
  refine F.okX (k := 1) scByBr (fun vs H Q E h => ?_) (fun cdv A outer s H vs Q E hr h => ?_)
  · obtain ⟨bs, rfl, _⟩ := h
    rfl
  · obtain ⟨bs, rfl, hn, q1, q2⟩ := h
    refine ⟨_, pss_cons (ps_set (i := 1) scByBr.nd rfl (.inl rfl) (pe_lst pa_nil))
      (pss_cons (ps_set (i := 2) scByBr.nd rfl (.inl rfl) pe_int)
      (pss_cons (ps_nox (ps_for PassesOwn.never rfl (pi_str (pv 0)) (pg_name (i := 3) scByBr.nd rfl (.inl rfl))
        (pss_one (ps_if (pt_cmpR op_eq (pv 3) pe_str (nomark _))
          (pss_cons (ps_expr (pe_bm PySem.F.plainAttrs_list PySem.F.slot_list_append PySem.F.type_list_append mt_append (pv 1) (pa_cons (pv 2) pa_nil))) (pss_one (ps_set (i := 2) scByBr.nd rfl (.inl rfl) pe_int)))
          (pss_one (ps_if (pt_cmpR op_eq (pv 3) pe_str (nomark _)) (pss_one (ps_set (i := 2) scByBr.nd rfl (.inl rfl) (pe_op op_add (pv 2) pe_int))) (pss_one ps_never)))))))
      (pss_cons (ps_if (PW.pt (pw_or (pt_cmpR op_gt (pe_callB call_len_seq (by rfl) B.len PySem.boot_len (pa_cons (pv 1) pa_nil)) (pe_glob (v := .int 40) (by rfl) hM ⟨_, rfl⟩) (nomark _))
          (pw_or (pt_cmpR op_ne (pe_op op_add (pe_callB (cr_sumS rfl) (by rfl) B.sum (by decide +kernel) (pa_cons (pv 1) pa_nil)) (pv 2)) (pe_callB call_len_seq (by rfl) B.len PySem.boot_len (pa_cons (pv 1) pa_nil)) (nomark _))
            (pw_or1 (pt_cmpR op_isN (pe_cal CH hr (by rfl) pass0 (pa_cons (pv 1) pa_nil)) pe_non (nomark _))))))
        (pss_one (ps_raise rfl (takes_of rfl rfl rfl rfl) (pmk_own PySem.F.excBase_ValueError T.x T.gC T.k (raises_own T.b T.t) (by rfl)))) pss_nil)
      (pss_one (ps_ret (pe_cal CH hr (by rfl) pass0 (pa_cons (pv 1) pa_nil))))))), ?_⟩
    refine ⟨Nat.zero_le _, fun d nd => ?_⟩
    have s1 := same_upd (o := HO.lst []) nd
    have sz : (brS bs).cps.size = bs.length := len_brS bs
    refine ⟨_, rfl, _, rfl, fun i m σ H' => m = bs.length - i ∧ i ≤ bs.length ∧ ∃ y, σ = [some (.str (brS bs)), some (.ref d), some (.int (brEnd (bs.take i)).2), y] ∧ H' = upd H d (.lst ((brEnd (bs.take i)).1.map V.int)), ⟨bs.length, rfl, Nat.zero_le _, none, rfl, rfl⟩, ?_⟩
    rintro i m σ H' ⟨rfl, hi, y, rfl, rfl⟩
    by_cases hlt : i < bs.length
    · refine .inr ⟨by show i < (brS bs).cps.size; omega, fun σ' H' => ∃ y, σ' = [some (.str (brS bs)), some (.ref d), some (.int (brEnd (bs.take (i + 1))).2), y] ∧ H' = upd H d (.lst ((brEnd (bs.take (i + 1))).1.map V.int)), fun σ' H' h => ⟨bs.length - (i + 1), by omega, rfl, hlt, h⟩, ?_⟩
      rintro x H' ⟨rfl, c, hc, rfl⟩
      obtain ⟨b, hb, rfl⟩ := brS_at hc
      have eb : bs.take (i + 1) = bs.take i ++ [b] := by
        rw [List.take_succ, hb]
        rfl
      have hl : (brEnd (bs.take i)).1.length ≤ i := by
        have := brTo_len (bs.take i) ([], 0)
        have h2 : (bs.take i).length ≤ i := by rw [List.length_take]; omega
        have h3 : (([], 0) : List Int × Int).1.length = 0 := rfl
        show (brTo (bs.take i) ([], 0)).1.length ≤ i
        omega
      have es := brTo_app (bs.take i) b ([], 0)
      refine ⟨_, rfl, rfl, _, rfl, ?_⟩
      rw [brS_open, sign_eq]
      cases b with
      | false =>
        refine ite2 (fun _ => ?_) (fun c => absurd (by decide) c)
        refine ⟨.ref d, rfl, .inl ⟨rfl, _, SqL.of upd_same⟩, _, rfl, d, _, _, rfl, rfl, upd_same, ?_, ?_⟩
        · rw [List.length_map]
          exact size_small (by omega)
        · refine ⟨some (.str ⟨#[brC false]⟩), ?_, ?_⟩
          · unfold brEnd
            rw [eb, es]
            rfl
          · unfold brEnd
            rw [eb, es, upd_upd]
            show _ = upd H d (.lst (((brTo (bs.take i) ([], 0)).1 ++ [_]).map V.int))
            rw [List.map_append]
            rfl
      | true =>
        refine ite2 (fun c => absurd c (by decide)) (fun _ => ?_)
        refine ⟨_, rfl, rfl, _, rfl, ?_⟩
        rw [brS_shut, sign_eq]
        refine ite2 (fun _ => ?_) (fun c => absurd (by decide) c)
        refine ⟨_, rfl, _, 1, rfl, rfl, some (.str ⟨#[brC true]⟩), ?_, ?_⟩
        · unfold brEnd
          rw [eb, es]
          rfl
        · unfold brEnd
          rw [eb, es]
          rfl
    · have ei : i = bs.length := by omega
      subst ei
      refine .inl ⟨by show (brS bs).cps.size ≤ bs.length; omega, ?_⟩
      rw [List.take_length]
      have hl : (brEnd bs).1.length ≤ 40 := by
        have := brTo_len bs ([], 0)
        have h3 : (([], 0) : List Int × Int).1.length = 0 := rfl
        show (brTo bs ([], 0)).1.length ≤ 40
        omega
      have sm := fun u => same_upd (o := u) nd
      refine ⟨.ref d, rfl, d, _, rfl, .inl (SqL.of upd_same), _, _, rfl, rfl, _, rfl, ite2 (fun c => ?_) (fun _ => ?_)⟩
      · have := of_decide_eq_true c
        rw [List.length_map] at this
        omega
      · refine ⟨.ref d, rfl, d, _, rfl, .inl (SqL.of upd_same), _, rfl, _, _, rfl, rfl, .ref d, rfl, d, _, rfl, .inl (SqL.of upd_same), rfl, _, rfl, ite2 (fun c => ?_) (fun c => ?_)⟩
        · refine q1 _ (sm _) ?_
          have c2 : ¬ (brEnd bs).1.sum + (brEnd bs).2 = ((brEnd bs).1.length : Int) := fun z => by
            have y : V.int ((brEnd bs).1.sum + (brEnd bs).2) = V.int ((((brEnd bs).1.map V.int).length : Nat) : Int) := by rw [List.length_map, z]
            rw [decide_eq_true y] at c
            cases c
          unfold byBr
          rw [if_neg (by omega), if_neg c2]
        · have c2 : (brEnd bs).1.sum + (brEnd bs).2 = ((brEnd bs).1.length : Int) := by
            refine Classical.byContradiction fun z => c ?_
            rw [List.length_map, decide_eq_false (fun y => z (V.int.inj y))]
            rfl
          have eb : byBr bs = hung (brEnd bs).1 := by
            unfold byBr
            rw [if_neg (by omega), if_pos c2]
          refine ⟨.ref d, rfl, d, _, rfl, .inl (SqL.of upd_same), hl, fun H1 s1 hf => ?_, fun H1 p ts s1 np hf hp => ?_⟩
          · refine ⟨rfl, _, rfl, ite2 (fun _ => ?_) (fun c => absurd (decide_eq_true rfl) c)⟩
            exact q1 H1 ((sm _).trans s1) (eb.trans hf)
          · refine ⟨rfl, _, rfl, ite2 (fun c => absurd c (by rw [decide_eq_false (fun z => by cases z)]; exact Bool.false_ne_true)) (fun _ => ?_)⟩
            refine ⟨.ref d, rfl, d, _, rfl, .inl (SqL.of (s1 _ _ upd_same)), hl, fun H2 s2 hf2 => ?_, fun H2 p2 ts2 s2 np2 hf2 hp2 => ?_⟩
            · rw [hf] at hf2
              cases hf2
            · exact q2 H2 p2 ts2 (((sm _).trans s1).trans s2) (((sm _).trans s1).free np2) (eb.trans hf2) hp2
end
end Dk

/-! Dk10: _law_led. -/
namespace Dk
open PySem PySem.Spec PyProof.Rows L2 TL
theorem Tell.te {K : PySem.W.Frag} {mg : Str → Option Value} {C : Addr} (T : Tell K mg C) : PySem.W.exmOne K (.ref C) (.ref C) = some true := by
  unfold PySem.W.exmOne
  rw [T.b]
  show PySem.W.kitCls K (.ref C) (.ref C) = some true
  have h2 : (PySem.W.clsIn K C).isSome = true := T.i
  show (if ((PySem.W.clsIn K C).isSome && PySem.W.typeIn K (.ref C) == some (.type "type")) = true then PySem.W.subIn K (.ref C) (.ref C) else none) = some true
  rw [h2, T.t, T.s]
  rfl
/-- what a way tells of what stands at a value -/
def LedIn (K : PySem.W.Frag) (H : Hp) (way : Nat) (t : V) (r : Option (List Int)) : Prop :=
  (∃ (a : Addr) (ds : List Int), way = 0 ∧ t = .ref a ∧ InS K H a ds ∧ ds.length ≤ 40 ∧ r = byDrops ds) ∨
  (∃ (a : Addr) (ds : List Int), way = 1 ∧ t = .ref a ∧ InS K H a ds ∧ ds.length ≤ 40 ∧ r = byDist ds) ∨
  (∃ (bs : List Bool), way = 2 ∧ t = .str (brS bs) ∧ bs.length ≤ 40 ∧ r = byBr bs)
theorem LedIn.same {K : PySem.W.Frag} {H H' : Hp} {way : Nat} {t : V} {r : Option (List Int)} (s : Same H H') (h : LedIn K H way t r) : LedIn K H' way t r := by
  rcases h with ⟨a, ds, h1, h2, h3, h4⟩ | ⟨a, ds, h1, h2, h3, h4⟩ | h
  · exact .inl ⟨a, ds, h1, h2, h3.same s, h4⟩
  · exact .inr (.inl ⟨a, ds, h1, h2, h3.same s, h4⟩)
  · exact .inr (.inr h)
theorem LedIn.len {K : PySem.W.Frag} {H : Hp} {way : Nat} {t : V} {ts : List Int} (h : LedIn K H way t (some ts)) : ts.length ≤ 40 := by
  rcases h with ⟨a, ds, h1, h2, h3, h4, h5⟩ | ⟨a, ds, h1, h2, h3, h4, h5⟩ | ⟨bs, h1, h2, h3, h4⟩
  · unfold byDrops at h5
    rw [if_pos h4] at h5
    have := hung_len h5.symm
    omega
  · unfold byDist at h5
    rw [if_pos h4] at h5
    cases e : dropsDist ds with
    | none => rw [e] at h5; cases h5
    | some dr =>
      rw [e] at h5
      have l1 := dropsDist_len e
      have l2 := hung_len (show hung dr = some ts from h5.symm)
      omega
  · unfold byBr at h4
    have hl : (brEnd bs).1.length ≤ bs.length := by
      have := brTo_len bs ([], 0)
      have h3 : (([], 0) : List Int × Int).1.length = 0 := rfl
      show (brTo bs ([], 0)).1.length ≤ _
      omega
    rw [if_neg (by omega)] at h4
    by_cases c : (brEnd bs).1.sum + (brEnd bs).2 = ((brEnd bs).1.length : Int)
    · rw [if_pos c] at h4
      have := hung_len h4.symm
      omega
    · rw [if_neg c] at h4
      cases h4
section
variable {P : Program} {w : World} {K : PySem.W.Frag} {mg : Str → Option Value} {base : Heap}
theorem scLed : FnScope ["way", "told", "found"] ["way", "told"] (defScope sLed) := ⟨rfl, rfl, rfl, by decide +kernel, rfl, by decide +kernel, by decide +kernel⟩
def spLed (K : PySem.W.Frag) : Sp := fun vs H Q _ => ∃ (way : Nat) (t : V) (r : Option (List Int)), vs = [.int way, t] ∧ LedIn K H way t r ∧
  (∀ H', Same H H' → r = none → Q .non H') ∧ ∀ H' p ts, Same H H' → H p = none → r = some ts → H' p = some (.tup (ts.map V.int)) → Q (.ref p) H'
/-- the three defs of the list -/
inductive Ways (K : PySem.W.Frag) (C fD fI fB : Addr) : Addr → Sp → Prop
  | d : Ways K C fD fI fB fD (spByDrops K C)
  | i : Ways K C fD fI fB fI (spByDist K C)
  | b : Ways K C fD fI fB fB (spByBr C)
theorem ok_led {f C : Addr} {fd : FuncData} (F : Fun K "_law_led" "_law_led" sLed f fd) (T : Tell K mg C) (CD : Cal P w K mg base (L2.CX P w) 2 "by_drops" ["told"] (spByDrops K C))
    (CI : Cal P w K mg base (L2.CX P w) 2 "by_distances" ["told"] (spByDist K C)) (CB : Cal P w K mg base (L2.CX P w) 2 "by_brackets" ["text"] (spByBr C)) : FnOk P w K mg base CX0 3 f fd ["way", "told"] (spLed K) := by
  obtain ⟨fD, fdD, GD, gD, kD, bD⟩ := CD.ex
  obtain ⟨fI, fdI, GI, gI, kI, bI⟩ := CI.ex
  obtain ⟨fB, fdB, GB, gB, kB, bB⟩ := CB.ex
  refine F.ok (k := 2) scLed (fun vs H Q E h => ?_) (fun cdv A outer s H vs Q E hr h => ?_)
  · obtain ⟨way, t, r, rfl, _⟩ := h
    rfl
  · obtain ⟨way, t, r, rfl, hL, q1, q2⟩ := h
    refine ⟨_, pss_cons (ps_set (i := 2) scLed.nd rfl (.inl rfl) pe_non)
      (pss_cons (ps_try_only (tb := fun W => tAsg (tCallF (Ways K C fD fI fB) (WE W) (tOp (rIxL K) (tLst (tCons (tC (.ref fD)) (tCons (tC (.ref fI)) (tCons (tC (.ref fB)) tNil)))) (tVar 0)) (tCons (tVar 1) tNil)) (gName 2))
          (ts := fun _ _ _ => tAsg (tC .non) (gName 2)) (Wout := fun _ _ _ _ => False) rfl rfl ⟨rfl, by decide, Or.inl T.gC⟩ takes0
          (fun W pn xe tk _ => pss_one (ps_set (i := 2) scLed.nd rfl (.inl rfl) (pe_callF (pe_ix ix_list (pe_lst (pa_cons (pe_glob (v := .ref fD) (by rfl) gD rfl) (pa_cons (pe_glob (v := .ref fI) (by rfl) gI rfl) (pa_cons (pe_glob (v := .ref fB) (by rfl) gB rfl) pa_nil)))) (pv 0) (fun _ _ => rfl))
            (fun f sp h => ?_) (fun σ => passAt tk σ) (pa_cons (pv 1) pa_nil))))
          (fun a oe cls d pn _ _ => pss_one (ps_set (i := 2) scLed.nd rfl (.inl rfl) pe_non)))
      (pss_one (ps_ret (pv 2)))), ?_⟩
    · cases h with
      | d => exact ⟨2, fdD, _, hr, GD, kD, bD⟩
      | i => exact ⟨2, fdI, _, hr, GI, kI, bI⟩
      | b => exact ⟨2, fdB, _, hr, GB, kB, bB⟩
    · refine ⟨size_le (by show 3 ≤ 1000000; decide), fun p np => ?_⟩
      have sp := same_upd (o := HO.lst [.ref fD, .ref fI, .ref fB]) np
      have hL' := hL.same sp
      rcases hL' with ⟨a, ds, rfl, rfl, h3, h4, rfl⟩ | ⟨a, ds, rfl, rfl, h3, h4, rfl⟩ | ⟨bs, rfl, rfl, h3, rfl⟩
      · refine ⟨_, rfl, p, _, _, _, rfl, rfl, SqL.of upd_same, rfl, fD, _, rfl, .d, .ref a, rfl, a, ds, rfl, h3, h4, fun H1 s1 e => ?_, fun H1 p2 ts s1 np2 e hp2 => ?_⟩
        · refine ⟨true, T.te, fun _ a0 _ => ?_, fun z => Bool.noConfusion z⟩
          exact ⟨.non, rfl, q1 H1 (sp.trans s1) e⟩
        · exact ⟨.ref p2, rfl, q2 H1 p2 ts (sp.trans s1) (sp.free np2) e hp2⟩
      · refine ⟨_, rfl, p, _, _, _, rfl, rfl, SqL.of upd_same, rfl, fI, _, rfl, .i, .ref a, rfl, a, ds, rfl, h3, h4, fun H1 s1 e => ?_, fun H1 s1 e => ?_, fun H1 p2 ts s1 np2 e hp2 => ?_⟩
        · refine ⟨true, T.te, fun _ a0 _ => ?_, fun z => Bool.noConfusion z⟩
          exact ⟨.non, rfl, q1 H1 (sp.trans s1) e⟩
        · exact ⟨.non, rfl, q1 H1 (sp.trans s1) e⟩
        · exact ⟨.ref p2, rfl, q2 H1 p2 ts (sp.trans s1) (sp.free np2) e hp2⟩
      · refine ⟨_, rfl, p, _, _, _, rfl, rfl, SqL.of upd_same, rfl, fB, _, rfl, .b, _, rfl, bs, rfl, h3, fun H1 s1 e => ?_, fun H1 p2 ts s1 np2 e hp2 => ?_⟩
        · refine ⟨true, T.te, fun _ a0 _ => ?_, fun z => Bool.noConfusion z⟩
          exact ⟨.non, rfl, q1 H1 (sp.trans s1) e⟩
        · exact ⟨.ref p2, rfl, q2 H1 p2 ts (sp.trans s1) (sp.free np2) e hp2⟩
end
end Dk

/-! Dk11: _law_counted. -/
namespace Dk
open PySem PySem.Spec PyProof.Rows L2 TL
def lcScope (e : Expr) : Scope := match e with
  | .ListComp _ _ sc _ => sc
  | _ => { kind := .function, names := [], isGenerator := false, isCoroutine := false }
def asgVal (s : Stmt) : Expr := match s with
  | .Assign _ v _ => v
  | _ => .Constant .none 0 ⟨0, 0, 0, 0⟩
def bodyS (i : Nat) : Stmt := (defBody sCounted).getD i (.Pass ⟨0, 0, 0, 0⟩)
abbrev scpTexts : Scope := relS (lcScope (asgVal (bodyS 1))) (defScope sCounted)
abbrev scpTuples : Scope := relS (lcScope (asgVal (bodyS 5))) (defScope sCounted)
abbrev nCounted : List Str := ["many", "codes", "texts", "due", "way", "trees", "tuples", "code", "k", "told", "tree", "digit", "digits"]
/-! ### the readings of the comprehensions' elements -/
abbrev rJoin (K : PySem.W.Frag) : V → List V → Hp → VK → Prop := fun x xs H Q => ∃ a p, ∃ ys : List Str, x = .str a ∧ xs = [.ref p] ∧ (SqL K H p (ys.map V.str) ∨ SqT K H p (ys.map V.str)) ∧ (ys.map (·.length)).sum + ys.length * a.length ≤ 16777216 ∧ Q (.str (Txt.join a ys)) H
abbrev rSign : R2 := fun x y H Q => ∃ z i c, x = .str z ∧ y = .int i ∧ 0 ≤ i ∧ i < 2 ^ 63 ∧ i < z.length ∧ z.cps[i.toNat]? = some c ∧ Q (.str ⟨#[c]⟩) H
abbrev rTupOf (K : PySem.W.Frag) : List V → Hp → VK → Prop := fun xs H Q => ∃ p ys, xs = [.ref p] ∧ ((SqL K H p ys ∧ ∀ l, H l = none → Q (.ref l) (upd H l (.tup ys))) ∨ (SqT K H p ys ∧ Q (.ref p) H))
abbrev tBit : TE := tOp rSign (tC (.str (Str.ofString "()"))) (tOp (rI0 fun i j => .int (Builtin.bitAnd i j)) (tOp (rI (fun _ j => 0 ≤ j) fun i j => .int (i / 2 ^ j.toNat)) (tVar 7) (tVar 8)) (tC (.int 1)))
abbrev tBits : TE := tLc (iRng1 (tCons (tOp (rI CMul fun i j => .int (i * j)) (tC (.int 2)) (tVar 0)) tNil)) (gName 8) tYes tBit [8]
abbrev tTextE (K : PySem.W.Frag) : TE := tM1 (rJoin K) (tC (.str (Str.ofString ""))) tBits
abbrev tLess (K : PySem.W.Frag) : TE := tCB (rTupOf K) (tCons (tLc (iTup K (tVar 12)) (gName 11) tYes (tOp (rI0 fun i j => .int (i - j)) (tVar 11) (tC (.int 1))) [11]) tNil)
/-! ### plain facts -/
theorem noTwo_nodup : ∀ ts : List (List Int), noTwo ts = true → ts.Nodup
  | [], _ => List.nodup_nil
  | x :: r, h => by
    have h' : (!(r.any fun y => x == y) && noTwo r) = true := h
    rw [Bool.and_eq_true] at h'
    refine List.nodup_cons.mpr ⟨fun hm => ?_, noTwo_nodup r h'.2⟩
    have h2 := h'.1
    have h3 : (r.any fun y => x == y) = true := List.any_eq_true.mpr ⟨x, hm, by simp⟩
    rw [h3] at h2
    cases h2
theorem okTrees_of {n : Nat} {ts : List (List Int)} (h : okTrees n ts = true) : (ts.length : Int) = due n ∧ ts.Nodup ∧ ∀ t ∈ ts, isTree t = true := by
  unfold okTrees at h
  rw [Bool.and_eq_true, Bool.and_eq_true] at h
  exact ⟨of_decide_eq_true h.1, noTwo_nodup _ h.2.1, fun t ht => List.all_eq_true.mp h.2.2 t ht⟩
theorem okWays_all {n : Nat} (hn : n ≤ 5) : okWays n = true := by
  have : n = 0 ∨ n = 1 ∨ n = 2 ∨ n = 3 ∨ n = 4 ∨ n = 5 := by omega
  rcases this with e | e | e | e | e | e
  · rw [e]; exact w0
  · rw [e]; exact w1
  · rw [e]; exact w2
  · rw [e]; exact w3
  · rw [e]; exact w4
  · rw [e]; exact w5
theorem okTuples_all {n : Nat} (hn : n ≤ 4) : okTuples n = true := by
  have : n = 0 ∨ n = 1 ∨ n = 2 ∨ n = 3 ∨ n = 4 := by omega
  rcases this with e | e | e | e | e
  · rw [e]; exact u0
  · rw [e]; exact u1
  · rw [e]; exact u2
  · rw [e]; exact u3
  · rw [e]; exact u4
theorem set_len {ks L : List (Addr × List Int)} (hs : ∀ p ∈ L, p ∈ ks) (ha : ∀ p ∈ ks, p.2 ∈ L.map (·.2)) (nL : (L.map (·.2)).Nodup) (nK : (ks.map (·.2)).Nodup) : L.length = ks.length := by
  have h1 := nL.length_le_of_subset (l₂ := ks.map (·.2)) fun y hy => by
    obtain ⟨p, hp, rfl⟩ := List.mem_map.mp hy
    exact List.mem_map.mpr ⟨p, hs p hp, rfl⟩
  have h2 := nK.length_le_of_subset (l₂ := L.map (·.2)) fun y hy => by
    obtain ⟨p, hp, rfl⟩ := List.mem_map.mp hy
    exact ha p hp
  rw [List.length_map, List.length_map] at h1 h2
  omega
theorem digits_len (c : Int) (n : Nat) : (digits c n).length = n := digTo_len 5 c n
theorem pow5 {n : Nat} (hn : n ≤ 5) : 5 ^ n ≤ 3125 := Nat.pow_le_pow_right (by decide) hn
theorem pow2 {n : Nat} (hn : n ≤ 5) : 2 ^ (2 * n) ≤ 1024 := (Nat.pow_le_pow_right (by decide) (by omega) : 2 ^ (2 * n) ≤ 2 ^ 10)
theorem codes_at {n j : Nat} {ds : List Int} (h : (codes n)[j]? = some ds) : ds.length = n := by
  unfold codes at h
  rw [List.getElem?_map] at h
  cases e : (List.range (5 ^ n))[j]? with
  | none => rw [e] at h; cases h
  | some c =>
    rw [e] at h
    have h' : digits (c : Int) n = ds := Option.some.inj h
    rw [← h', digits_len]
theorem codes_len (n : Nat) : (codes n).length = 5 ^ n := by
  unfold codes
  rw [List.length_map, List.length_range]
theorem text_len (c : Int) (m : Nat) : (text c m).length = m := by
  unfold text
  rw [List.length_map, List.length_range]
theorem texts_len (n : Nat) : (texts n).length = 2 ^ (2 * n) := by
  unfold texts
  rw [List.length_map, List.length_range]
theorem texts_at {n j : Nat} {bs : List Bool} (h : (texts n)[j]? = some bs) : bs.length = 2 * n := by
  unfold texts at h
  rw [List.getElem?_map] at h
  cases e : (List.range (2 ^ (2 * n)))[j]? with
  | none => rw [e] at h; cases h
  | some c =>
    rw [e] at h
    have h' : text (c : Int) (2 * n) = bs := Option.some.inj h
    rw [← h', text_len]
theorem flat_single {α β : Type} (g : α → β) : ∀ l : List α, (l.map fun k => [g k]).flatten = l.map g
  | [] => rfl
  | k :: r => by
    rw [List.map_cons, List.flatten_cons, flat_single g r]
    rfl
theorem bit_val (i m : Nat) : Builtin.bitAnd ((0 + (i : Int)) / 2 ^ (0 + (m : Int)).toNat) 1 = if bitOf (i : Int) m = true then 1 else 0 := by
  have e0 : (0 + (i : Int)) = (i : Int) := Int.zero_add _
  have e1 : (0 + (m : Int)).toNat = m := by omega
  rw [e0, e1]
  have h0 : 0 ≤ (i : Int) / 2 ^ m := Int.ediv_nonneg (by omega) (by exact Int.le_of_lt (Int.pow_pos (by decide)))
  have h1 := Bits.bitAnd_mask (x := (i : Int) / 2 ^ m) 1 h0
  have e2 : (2 : Int) ^ 1 - 1 = 1 := by decide
  have e3 : (2 : Int) ^ 1 = 2 := by decide
  rw [e2, e3] at h1
  rw [h1]
  unfold bitOf
  by_cases c : (i : Int) / 2 ^ m % 2 = 1
  · rw [decide_eq_true c, if_pos rfl, c]
  · rw [decide_eq_false c, if_neg Bool.false_ne_true]
    omega
theorem sign_at (b : Bool) : (Str.ofString "()").cps[(if b = true then (1 : Int) else 0).toNat]? = some (brC b) := by
  cases b <;> decide +kernel
theorem strs_sum (g : Nat → Bool) : ∀ l : List Nat, ((l.map fun k => brS [g k]).map (·.length)).sum = l.length
  | [] => rfl
  | b :: r => by
    rw [List.map_cons, List.map_cons, List.sum_cons, strs_sum g r, len_brS, List.length_cons]
    show 1 + r.length = r.length + 1
    omega
/-- where a way's lists stand -/
theorem waySrc {K : PySem.W.Frag} {H : Hp} {c x : Addr} {ks : List (Addr × List Int)} {n i : Nat} (hn : n ≤ 5) (hi : i < 3) (hc : H c = some (.lst (ks.map fun p => V.ref p.1))) (hk : ∀ p ∈ ks, H p.1 = some (.tup (p.2.map V.int))) (he : ks.map (·.2) = codes n)
    (hx : H x = some (.lst ((texts n).map fun bs => V.str (brS bs)))) : ∃ (src : Addr) (xs : List V) (rs : List (Option (List Int))), ([V.ref c, V.ref c, V.ref x])[i]? = some (.ref src) ∧ H src = some (.lst xs) ∧ xs.length = rs.length ∧ xs.length ≤ 3125 ∧
      (∀ (j : Nat) (v : V) (r : Option (List Int)), xs[j]? = some v → rs[j]? = some r → LedIn K H i v r) ∧ okTrees n (rs.filterMap id) = true := by
  have ok := okWays_all hn
  unfold okWays at ok
  rw [Bool.and_eq_true, Bool.and_eq_true] at ok
  have kl : ks.length = 5 ^ n := by rw [← codes_len, ← he, List.length_map]
  have kat : ∀ (f : List Int → Option (List Int)) (j : Nat) (v : V) (r : Option (List Int)), (ks.map fun p => V.ref p.1)[j]? = some v → ((codes n).map f)[j]? = some r → ∃ p ∈ ks, v = .ref p.1 ∧ p.2.length = n ∧ r = f p.2 := fun f j v r h1 h2 => by
    rw [List.getElem?_map] at h1 h2
    cases e : ks[j]? with
    | none => rw [e] at h1; cases h1
    | some p =>
      rw [e] at h1
      have e2 : (codes n)[j]? = some p.2 := by rw [← he, List.getElem?_map, e]; rfl
      rw [e2] at h2
      exact ⟨p, List.mem_of_getElem? e, (Option.some.inj h1).symm, codes_at e2, (Option.some.inj h2).symm⟩
  have hi' : i = 0 ∨ i = 1 ∨ i = 2 := by omega
  rcases hi' with e | e | e
  · subst e
    refine ⟨c, _, (codes n).map byDrops, rfl, hc, ?_, ?_, fun j v r h1 h2 => ?_, ?_⟩
    · rw [List.length_map, List.length_map, codes_len, kl]
    · rw [List.length_map, kl]; exact pow5 hn
    · obtain ⟨p, hp, e1, e2, e3⟩ := kat byDrops j v r h1 h2
      exact .inl ⟨p.1, p.2, rfl, e1, .inr (SqT.of (hk p hp)), by omega, e3⟩
    · rw [List.filterMap_map]; exact ok.1
  · subst e
    refine ⟨c, _, (codes n).map byDist, rfl, hc, ?_, ?_, fun j v r h1 h2 => ?_, ?_⟩
    · rw [List.length_map, List.length_map, codes_len, kl]
    · rw [List.length_map, kl]; exact pow5 hn
    · obtain ⟨p, hp, e1, e2, e3⟩ := kat byDist j v r h1 h2
      exact .inr (.inl ⟨p.1, p.2, rfl, e1, .inr (SqT.of (hk p hp)), by omega, e3⟩)
    · rw [List.filterMap_map]; exact ok.2.1
  · subst e
    refine ⟨x, _, (texts n).map byBr, rfl, hx, ?_, ?_, fun j v r h1 h2 => ?_, ?_⟩
    · rw [List.length_map, List.length_map]
    · rw [List.length_map, texts_len]
      have := pow2 hn
      omega
    · rw [List.getElem?_map] at h1 h2
      cases e : (texts n)[j]? with
      | none => rw [e] at h1; cases h1
      | some bs =>
        rw [e] at h1 h2
        have l := texts_at e
        exact .inr (.inr ⟨bs, rfl, (Option.some.inj h1).symm, by omega, (Option.some.inj h2).symm⟩)
    · rw [List.filterMap_map]; exact ok.2.2
def toV : Option (Addr × List Int) → V
  | none => .non
  | some p => .ref p.1
theorem map_snd : ∀ us : List (Option (Addr × List Int)), (us.filterMap id).map (·.2) = (us.map (Option.map (·.2))).filterMap id
  | [] => rfl
  | none :: r => map_snd r
  | some p :: r => congrArg (p.2 :: ·) (map_snd r)
theorem ne_false {a b : V} (h : a = b) : ¬ (!decide (a = b)) = true := fun z => by
  rw [decide_eq_true h] at z
  cases z
theorem mapRef_at {ks : List (Addr × List Int)} {j : Nat} {v : V} (h : (ks.map fun p => V.ref p.1)[j]? = some v) : ∃ (hj : j < ks.length), v = .ref ks[j].1 := by
  rw [List.getElem?_map] at h
  cases e : ks[j]? with
  | none => rw [e] at h; cases h
  | some p =>
    obtain ⟨hj, e2⟩ := List.getElem?_eq_some_iff.mp e
    rw [e] at h
    exact ⟨hj, by rw [e2]; exact (Option.some.inj h).symm⟩
section
variable {P : Program} {w : World} {K : PySem.W.Frag} {mg : Str → Option Value} {base : Heap}
theorem scCounted : FnScope nCounted ["many"] (defScope sCounted) := ⟨rfl, rfl, rfl, by decide +kernel, rfl, by decide +kernel, by decide +kernel⟩
def spCounted : Sp := fun vs H Q _ => ∃ (n : Nat), vs = [.int n] ∧ n ≤ 5 ∧ ∀ H', Same H H' → Q (.bl true) H'
theorem ok_counted {f : Addr} {fd : FuncData} (F : Fun K "_law_counted" "_law_counted" sCounted f fd) (B : Blt mg) (CP : Cal P w K mg base CX0 1 "_law_power" ["base", "many"] spPower) (CG : Cal P w K mg base CX0 1 "_law_digits" ["code", "base", "many"] spDigits)
    (CM : Cal P w K mg base CX0 1 "_law_many" ["many"] spMany) (CL : Cal P w K mg base CX0 3 "_law_led" ["way", "told"] (spLed K)) (CI : Cal P w K mg base CX0 3 "is_tree" ["tree"] (spIsTree K)) : FnOk P w K mg base CX0 4 f fd ["many"] spCounted := by
  refine F.ok (k := 3) scCounted (fun vs H Q E h => ?_) (fun cdv A outer s H vs Q E hr h => ?_)
  · obtain ⟨n, rfl, _⟩ := h
    rfl
  · obtain ⟨n, rfl, hn, q⟩ := h
    have hr1 := hr.mono (show 1 ≤ 3 by decide)
    refine ⟨_, pss_cons (ps_setLc (i := 1) (own := [("code", 7)]) (g := gName 7) (tt := tYes) (te := tCall spDigits [] E0 (tCons (tVar 7) (tCons (tC (.int 5)) (tCons (tVar 0) tNil)))) rfl scCounted.nd rfl rfl (sw_true rfl rfl rfl (by decide +kernel))
        (pi_range1 (by rfl) B.range (pa_cons (pe_cal CP hr1 (by rfl) pass0 (pa_cons pe_int (pa_cons (pv 0) pa_nil))) pa_nil)) (blkOk_by (N := nCounted) (sc := defScope sCounted) (by decide +kernel)) (fun _ _ _ _ _ => pg_name (i := 7) scCounted.nd rfl (Or.inl rfl)) (fun _ _ _ _ _ => pts_nil)
        (fun _ _ _ _ _ => pe_cal CG hr1 (by rfl) pass0 (pa_cons (pv 7) (pa_cons pe_int (pa_cons (pv 0) pa_nil)))))
      (pss_cons (ps_setLc (i := 2) (own := [("code", 7)]) (g := gName 7) (tt := tYes) (te := tTextE K) rfl scCounted.nd rfl rfl (sw_true rfl rfl rfl (by decide +kernel))
        (pi_range1 (by rfl) B.range (pa_cons (pe_op op_shl pe_int (pe_op op_mul pe_int (pv 0))) pa_nil)) (blkOk_by (N := nCounted) (sc := defScope sCounted) (by decide +kernel)) (fun _ _ _ _ _ => pg_name (i := 7) scCounted.nd rfl (Or.inr rfl)) (fun _ _ _ _ _ => pts_nil)
        (fun _ _ _ _ _ => pe_join pe_str (pe_lc (own := [("k", 8)]) (g := gName 8) (tt := tYes) (te := tBit) rfl scCounted.nd (pi_range1 (by rfl) B.range (pa_cons (pe_op op_mul pe_int (pv 0)) pa_nil)) (blkOk_by (N := nCounted) (sc := scpTexts) (by decide +kernel))
          (fun _ _ _ _ _ => pg_name (i := 8) scCounted.nd rfl (Or.inl rfl)) (fun _ _ _ _ _ => pts_nil) (fun _ _ _ _ _ => pe_item_str pe_str (pe_op op_and (pe_op op_shr (pv 7) (pv 8)) pe_int) (fun _ _ => rfl)))))
      (C8.pss_cut (ps_set (i := 3) scCounted.nd rfl (.inl rfl) (pe_cal CM hr1 (by rfl) pass0 (pa_cons (pv 0) pa_nil)))
      (pss_cons (ps_for PassesOwn.never rfl (pi_range1 (by rfl) B.range (pa_cons pe_int pa_nil)) (pg_name (i := 4) scCounted.nd rfl (.inr rfl))
        (pss_cons (ps_setLc (i := 5) (own := [("told", 9)]) (g := gName 9) (tt := tYes) (te := tCall (spLed K) [] E0 (tCons (tVar 4) (tCons (tVar 9) tNil))) rfl scCounted.nd rfl rfl (sw_true rfl rfl rfl (by decide +kernel))
          (pi_list (pe_ix ix_tup (pe_tup (pa_cons (pv 1) (pa_cons (pv 1) (pa_cons (pv 2) pa_nil)))) (pv 4) (fun _ _ => rfl))) (blkOk_by (N := nCounted) (sc := defScope sCounted) (by decide +kernel)) (fun _ _ _ _ _ => pg_name (i := 9) scCounted.nd rfl (Or.inl rfl)) (fun _ _ _ _ _ => pts_nil)
          (fun _ _ _ _ _ => pe_cal CL hr (by rfl) pass0 (pa_cons (pv 4) (pa_cons (pv 9) pa_nil))))
        (pss_cons (ps_setLc (i := 5) (own := [("tree", 10)]) (g := gName 10) (tt := tTest (tOp (fun x y H Q => y = .non ∧ Q (.bl (!decide (x = .non))) H) (tVar 10) (tC .non))) (te := tVar 10) rfl scCounted.nd rfl rfl (sw_true rfl rfl rfl (by decide +kernel)) (pi_list (pv 5))
          (blkOk_by (N := nCounted) (sc := defScope sCounted) (by decide +kernel)) (fun _ _ _ _ _ => pg_name (i := 10) scCounted.nd rfl (Or.inl rfl)) (fun _ _ _ _ _ => pts_one (pt_cmpR op_notN (pv 10) pe_non (nomark _))) (fun _ _ _ _ _ => pv 10))
        (pss_one (ps_if (PW.pt (pw_or (pt_cmpR op_ne (pe_callB call_len_seq (by rfl) B.len PySem.boot_len (pa_cons (pv 5) pa_nil)) (pv 3) (nomark _))
          (pw_or (pt_cmpR op_ne (pe_callB (cr_lenSetT hr.units) (by rfl) B.len PySem.boot_len (pa_cons (pe_callTy (cr_setOfT rfl hr.units) (by rfl) B.set (by decide +kernel) (pa_cons (pv 5) pa_nil)) pa_nil)) (pv 3) (nomark _))
          (pw_or1 (pt_not (pt_val (pe_callB (cr_all rfl) (by rfl) B.all (by decide +kernel) (pa_cons
            (pe_lc (own := [("tree", 10)]) (g := gName 10) (tt := tYes) (te := tCall (spIsTree K) [] E0 (tCons (tVar 10) tNil)) rfl scCounted.nd (pi_list (pv 5)) (blkOk_by (N := nCounted) (sc := defScope sCounted) (by decide +kernel)) (fun _ _ _ _ _ => pg_name (i := 10) scCounted.nd rfl (Or.inl rfl)) (fun _ _ _ _ _ => pts_nil)
              (fun _ _ _ _ _ => pe_cal CI hr (by rfl) pass0 (pa_cons (pv 10) pa_nil))) pa_nil))))))))
          (pss_one (ps_ret pe_bl)) pss_nil)))))
      (pss_cons (ps_if (pt_cmpR op_eq (pv 0) pe_int (nomark _)) (pss_one (ps_ret pe_bl)) pss_nil)
      (pss_cons (ps_setLc (i := 6) (own := [("digits", 12)]) (g := gName 12) (tt := tYes) (te := tLess K) rfl scCounted.nd rfl rfl (sw_true rfl rfl rfl (by decide +kernel)) (pi_list (pv 1))
        (blkOk_by (N := nCounted) (sc := defScope sCounted) (by decide +kernel)) (fun _ _ _ _ _ => pg_name (i := 12) scCounted.nd rfl (Or.inl rfl)) (fun _ _ _ _ _ => pts_nil)
        (fun _ _ _ _ _ => pe_callTy call_tuple_of (by rfl) B.tuple (by decide +kernel) (pa_cons (pe_lc (own := [("digit", 11)]) (g := gName 11) (tt := tYes) (te := tOp (rI0 fun i j => .int (i - j)) (tVar 11) (tC (.int 1))) rfl scCounted.nd (pi_tup (pv 12))
          (blkOk_by (N := nCounted) (sc := scpTuples) (by decide +kernel)) (fun _ _ _ _ _ => pg_name (i := 11) scCounted.nd rfl (Or.inl rfl)) (fun _ _ _ _ _ => pts_nil) (fun _ _ _ _ _ => pe_op op_sub (pv 11) pe_int)) pa_nil)))
      (pss_one (ps_ret (pe_cmpR op_eq (pe_callB call_len_seq (by rfl) B.len PySem.boot_len (pa_cons
        (pe_lc (own := [("told", 9)]) (g := gName 9) (tt := tB (tCall (spIsTree K) [] E0 (tCons (tVar 9) tNil))) (te := tVar 9) rfl scCounted.nd (pi_list (pv 6)) (blkOk_by (N := nCounted) (sc := defScope sCounted) (by decide +kernel)) (fun _ _ _ _ _ => pg_name (i := 9) scCounted.nd rfl (Or.inl rfl))
          (fun _ _ _ _ _ => pts_one (pt_val (pe_cal CI hr (by rfl) pass0 (pa_cons (pv 9) pa_nil)))) (fun _ _ _ _ _ => pv 9)) pa_nil)) (pv 3) (nomark _))))))))), ?_⟩
    have p5 := pow5 hn
    have p2 := pow2 hn
    have b5 : (0 : Int) ≤ ((5 ^ n : Nat) : Int) ∧ ((5 ^ n : Nat) : Int) ≤ 3125 := ⟨Int.natCast_nonneg _, Int.ofNat_le.mpr p5⟩
    have b2 : (0 : Int) ≤ ((2 ^ (2 * n) : Nat) : Int) ∧ ((2 ^ (2 * n) : Nat) : Int) ≤ 1024 := ⟨Int.natCast_nonneg _, Int.ofNat_le.mpr p2⟩
    -- codes
    refine ⟨.int n, rfl, n, rfl, hn, ((5 ^ n : Nat) : Int), rfl, Int.le_trans (by decide) b5.1, Int.lt_of_le_of_lt b5.2 (by decide), fun c nc => ?_⟩
    rw [Int.toNat_natCast]
    refine lc_range (lo := 0) (n := 5 ^ n) (fun i H' => ∃ ks : List (Addr × List Int), Same H H' ∧ H' c = some (.lst (ks.map fun p => V.ref p.1)) ∧ (∀ p ∈ ks, H' p.1 = some (.tup (p.2.map V.int))) ∧ ks.map (·.2) = (List.range i).map fun (c : Nat) => digits (c : Int) n)
      ⟨[], same_upd nc, upd_same, (fun _ h => nomatch h), rfl⟩ ?_ ?_
    · rintro i H' hi ⟨ks, sm, hD, hk, he⟩
      have kl : ks.length = i := by
        have := congrArg List.length he
        rwa [List.length_map, List.length_map, List.length_range] at this
      refine ⟨rfl, ?_⟩
      refine ⟨.int (0 + (i : Int)), rfl, .int n, rfl, 0 + (i : Int), n, rfl, hn, fun H2 p s2 np hp => ?_⟩
      refine ⟨_, s2 _ _ hD, ?_, ks ++ [(p, digits (0 + (i : Int)) n)], same_put (sm.trans s2) nc, ?_, fun y hy => ?_, ?_⟩
      · rw [List.length_map, kl]
        exact size_small (by omega)
      · rw [upd_same, List.map_append]
        rfl
      · have hy2 : H2 y.1 = some (.tup (y.2.map V.int)) := by
          rcases List.mem_append.mp hy with z | z
          · exact s2 _ _ (hk y z)
          · rw [List.mem_singleton.mp z]
            exact hp
        rw [upd_ne (ne_of hy2 (s2 _ _ hD) (fun z => by cases z))]
        exact hy2
      · rw [List.map_append, he, List.range_succ, List.map_append, Int.zero_add]
        rfl
    rintro H1 ⟨ks, s1, hc, hk, he⟩
    have he : ks.map (·.2) = codes n := he
    -- texts
    have ej : (1 : Int) * 2 ^ (2 * (n : Int)).toNat = ((2 ^ (2 * n) : Nat) : Int) := by
      rw [Int.one_mul, show (2 * (n : Int)).toNat = 2 * n by omega, Int.natCast_pow]
      rfl
    refine ⟨.int n, rfl, 2, n, rfl, rfl, .inl ⟨by decide, by decide⟩, 1, 2 * (n : Int), rfl, rfl, ⟨by omega, by omega, by decide⟩, ((2 ^ (2 * n) : Nat) : Int), ?_, Int.le_trans (by decide) b2.1, Int.lt_of_le_of_lt b2.2 (by decide), fun x nx => ?_⟩
    · show [V.int (1 * 2 ^ (2 * (n : Int)).toNat)] = _
      rw [ej]
    rw [Int.toNat_natCast]
    have nx' : H x = none := s1.free nx
    refine lc_range (lo := 0) (n := 2 ^ (2 * n)) (fun i H' => Same H1 H' ∧ H' x = some (.lst (((List.range i).map fun (c : Nat) => text (c : Int) (2 * n)).map fun bs => V.str (brS bs)))) ⟨same_upd nx, upd_same⟩ ?_ ?_
    · rintro i H' hi ⟨sm, hx⟩
      refine ⟨rfl, ?_⟩
      refine ⟨⟨_, rfl⟩, .int n, rfl, 2, n, rfl, rfl, .inl ⟨by decide, by decide⟩, ((2 * n : Nat) : Int), ?_, by omega, by omega, fun D nD => ?_⟩
      · rw [Int.natCast_mul]
        rfl
      rw [Int.toNat_natCast]
      refine lc_range (lo := 0) (n := 2 * n) (fun m H2 => H2 = upd H' D (.lst ((List.range m).map fun (k : Nat) => V.str (brS [bitOf (i : Int) k])))) rfl ?_ ?_
      · rintro m H2 hm rfl
        have bv := bit_val i m
        refine ⟨rfl, ?_⟩
        refine ⟨.int (0 + (i : Int)), rfl, .int (0 + (m : Int)), rfl, _, _, rfl, rfl, (by show (0 : Int) ≤ 0 + (m : Int); omega), _, 1, rfl, rfl, _, Builtin.bitAnd ((0 + (i : Int)) / 2 ^ (0 + (m : Int)).toNat) 1, brC (bitOf (i : Int) m), rfl, rfl, ?_, ?_, ?_, ?_, _, upd_same, ?_, ?_⟩
        · rw [bv]; split <;> decide
        · rw [bv]; split <;> decide
        · rw [bv]
          have : (Str.ofString "()").length = 2 := by decide +kernel
          rw [this]
          split <;> decide
        · rw [bv]
          exact sign_at _
        · rw [List.length_map, List.length_range]
          exact size_small (by omega)
        · rw [upd_upd, List.range_succ, List.map_append]
          rfl
      · rintro H2 rfl
        have ej : Txt.join (Str.ofString "") ((List.range (2 * n)).map fun (k : Nat) => brS [bitOf (i : Int) k]) = brS (text (i : Int) (2 * n)) := by
          have := join_brS ((List.range (2 * n)).map fun (k : Nat) => [bitOf (i : Int) k])
          rw [List.map_map, flat_single] at this
          exact this
        have es := strs_sum (fun k => bitOf (i : Int) k) (List.range (2 * n))
        rw [List.length_range] at es
        refine ⟨_, D, (List.range (2 * n)).map fun (k : Nat) => brS [bitOf (i : Int) k], rfl, rfl, .inl (SqL.of ?_), ?_, ?_⟩
        · rw [upd_same, List.map_map]
          rfl
        · rw [es, brS_nil, len_brS]
          show 2 * n + _ * 0 ≤ _
          omega
        · rw [ej]
          refine ⟨_, (same_upd nD) _ _ hx, ?_, same_put (sm.trans (same_upd nD)) nx, ?_⟩
          · rw [List.length_map, List.length_map, List.length_range]
            exact size_small (by omega)
          · rw [upd_same, List.range_succ, List.map_append, List.map_append]
            rfl
    rintro H2 ⟨s2, hx⟩
    have hx : H2 x = some (.lst ((texts n).map fun bs => V.str (brS bs))) := hx
    -- due
    refine ⟨fun σ' H' => σ' = [some (.int n), some (.ref c), some (.ref x), some (.int (due n)), none, none, none, none, none, none, none, none, none] ∧ Same H2 H', ⟨.int n, rfl, n, rfl, hn, fun H3 s3 => ⟨rfl, s3⟩⟩, ?_⟩
    rintro σ' H3 ⟨rfl, s3⟩
    have sm3 := (s1.trans s2).trans s3
    have hc3 := (s2.trans s3) _ _ hc
    have hk3 := fun p hp => (s2.trans s3) _ _ (hk p hp)
    have hx3 := s3 _ _ hx
    have kl : ks.length = 5 ^ n := by rw [← codes_len, ← he, List.length_map]
    have d42 := cat_bd n
    have d42 : 0 ≤ due n ∧ due n ≤ 42 := d42
    clear hc hk hx s1 s2 s3 nx nc nx'
    refine ⟨3, rfl, by decide, by decide, for_range (lo := 0) (n := 3) (fun i σ H' => ∃ y4 y5, σ = [some (.int n), some (.ref c), some (.ref x), some (.int (due n)), y4, y5, none, none, none, none, none, none, none] ∧ Same H3 H') ⟨none, none, rfl, Same.refl _⟩ ?_ ?_⟩
    · rintro i σ H' hi ⟨y4, y5, rfl, sm⟩
      obtain ⟨src, xs, rs, h1, h2, h3, h4, h5, h6⟩ := waySrc (K := K) hn hi (sm _ _ hc3) (fun p hp => sm _ _ (hk3 p hp)) he (sm _ _ hx3)
      obtain ⟨t1, t2, t3⟩ := okTrees_of h6
      refine ⟨.ref c, rfl, .ref c, rfl, .ref x, rfl, size_le (by show 3 ≤ 1000000; decide), fun T nT => ?_⟩
      have sT := same_upd (o := HO.tup [.ref c, .ref c, .ref x]) nT
      refine ⟨.int (0 + (i : Int)), rfl, T, _, 0 + (i : Int), .ref src, rfl, rfl, SqT.of upd_same, L2.at_of (j := i) (by omega) h1, src, rfl, ⟨_, SqL.of (sT _ _ h2)⟩, fun D nD => ?_⟩
      refine lc_list (K := K) (a := src) (xs := xs) (fun j H4 => ∃ us : List (Option (Addr × List Int)), Same (upd H' T (.tup [.ref c, .ref c, .ref x])) H4 ∧ H4 D = some (.lst (us.map toV)) ∧ (∀ p, some p ∈ us → H4 p.1 = some (.tup (p.2.map V.int)) ∧ p.2.length ≤ 40) ∧
        us.map (Option.map (·.2)) = rs.take j) ⟨[], same_upd nD, upd_same, (fun _ h => nomatch h), rfl⟩ (fun j H4 _ ⟨_, s4, _⟩ => SqL.of (s4 _ _ (sT _ _ h2))) ?_ ?_
      · rintro j v H4 hv ⟨us, s4, hD, hu, he4⟩
        have hj : j < xs.length := (List.getElem?_eq_some_iff.mp hv).1
        have hj2 : j < rs.length := by omega
        have hL := h5 j v _ hv (List.getElem?_eq_getElem hj2)
        have ul : us.length = j := by
          have := congrArg List.length he4
          rw [List.length_map, List.length_take] at this
          omega
        have keep : ∀ (H5 : Hp) (o : HO) (s5 : Same H4 H5), ∀ p, some p ∈ us → (upd H5 D o) p.1 = some (.tup (p.2.map V.int)) ∧ p.2.length ≤ 40 := fun H5 o s5 p hp => by
          have := s5 _ _ (hu p hp).1
          rw [upd_ne (ne_of this (s5 _ _ hD) (fun z => by cases z))]
          exact ⟨this, (hu p hp).2⟩
        refine ⟨rfl, ?_⟩
        refine ⟨.int (0 + (i : Int)), rfl, v, rfl, i, v, rs[j], by rw [Int.zero_add]; rfl, hL.same (sT.trans s4), fun H5 s5 e => ?_, fun H5 p ts s5 np e hp => ?_⟩
        · refine ⟨_, s5 _ _ hD, ?_, us ++ [none], same_put (s4.trans s5) nD, ?_, fun p hp => ?_, ?_⟩
          · rw [List.length_map, ul]
            exact size_small (by omega)
          · rw [upd_same, List.map_append]
            rfl
          · rcases List.mem_append.mp hp with z | z
            · exact keep H5 _ s5 p z
            · cases List.mem_singleton.mp z
          · rw [List.map_append, he4, List.take_succ_eq_append_getElem hj2, e]
            rfl
        · refine ⟨_, s5 _ _ hD, ?_, us ++ [some (p, ts)], same_put (s4.trans s5) nD, ?_, fun p2 hp2 => ?_, ?_⟩
          · rw [List.length_map, ul]
            exact size_small (by omega)
          · rw [upd_same, List.map_append]
            rfl
          · rcases List.mem_append.mp hp2 with z | z
            · exact keep H5 _ s5 p2 z
            · have z' : p2 = (p, ts) := Option.some.inj (List.mem_singleton.mp z)
              subst z'
              rw [upd_ne (ne_of hp (s5 _ _ hD) (fun z => by cases z))]
              rw [e] at hL
              exact ⟨hp, hL.len⟩
          · rw [List.map_append, he4, List.take_succ_eq_append_getElem hj2, e]
            rfl
      rintro H4 ⟨us, s4, hD, hu, he4⟩
      rw [h3, List.take_length] at he4
      have ul : us.length ≤ 3125 := by
        have := congrArg List.length he4
        rw [List.length_map] at this
        omega
      refine ⟨.ref D, rfl, D, rfl, ⟨_, SqL.of hD⟩, fun D2 nD2 => ?_⟩
      have sD2 := fun o => same_upd (o := o) nD2
      refine lc_list (K := K) (a := D) (xs := us.map toV) (fun j H5 => H5 = upd H4 D2 (.lst (((us.take j).filterMap id).map fun p => V.ref p.1))) rfl ?_ ?_ ?_
      · rintro j H5 _ rfl
        exact SqL.of (sD2 _ _ _ hD)
      · rintro j v H5 hv rfl
        rw [List.getElem?_map] at hv
        cases e : us[j]? with
        | none => rw [e] at hv; cases hv
        | some u =>
          rw [e] at hv
          obtain ⟨hj, e2⟩ := List.getElem?_eq_some_iff.mp e
          have ev : v = toV u := (Option.some.inj hv).symm
          subst ev
          refine ⟨rfl, ?_⟩
          refine ⟨_, rfl, rfl, _, rfl, ite2 (fun z => ?_) (fun z => ?_)⟩
          · cases u with
            | none => exact absurd z (by decide)
            | some p =>
              refine ⟨_, rfl, _, upd_same, ?_, ?_⟩
              · rw [List.length_map]
                have l1 := List.length_filterMap_le id (us.take j)
                have l2 : (us.take j).length ≤ us.length := List.length_take_le' _ _
                exact size_small (by omega)
              · rw [upd_upd, List.take_succ_eq_append_getElem hj, e2, List.filterMap_append, List.map_append]
                rfl
          · cases u with
            | none =>
              show upd H4 D2 _ = upd H4 D2 _
              rw [List.take_succ_eq_append_getElem hj, e2, List.filterMap_append]
              show _ = upd H4 D2 (.lst ((List.filterMap id (us.take j) ++ []).map fun (p : Addr × List Int) => V.ref p.1))
              rw [List.append_nil]
            | some p => exact absurd (by rw [decide_eq_false (fun z => by cases z)]; rfl) z
      rintro H5 rfl
      rw [List.length_map, List.take_length]
      have hk2 : ∀ p ∈ us.filterMap id, (upd H4 D2 (.lst ((us.filterMap id).map fun p => V.ref p.1))) p.1 = some (.tup (p.2.map V.int)) ∧ p.2.length ≤ 40 := fun p hp => by
        obtain ⟨u, hu1, hu2⟩ := List.mem_filterMap.mp hp
        have hu3 : u = some p := hu2
        subst hu3
        exact ⟨sD2 _ _ _ (hu p hu1).1, (hu p hu1).2⟩
      have e2 : (us.filterMap id).map (·.2) = rs.filterMap id := by rw [map_snd, he4]
      rw [← e2] at t1 t2 t3
      rw [List.length_map] at t1
      clear he4 e2 hu ul h6 h5
      generalize us.filterMap id = ks2 at hk2 t1 t2 t3 ⊢
      have l64 : ks2.length < 64 := by omega
      refine ⟨.ref D2, rfl, D2, _, rfl, .inl (SqL.of upd_same), .int (due n), rfl, rfl, _, rfl, ite2 (fun z => absurd z (ne_false (by rw [List.length_map, t1]))) (fun _ => ?_)⟩
      refine ⟨.ref D2, rfl, D2, ks2, rfl, SqL.of upd_same, fun p hp => SqT.of (hk2 p hp).1, l64, fun a L na hs ha => ?_⟩
      have sa := same_upd (o := SetTO P w a L) na
      refine ⟨a, L, rfl, upd_same, fun p hp => SqT.of (sa _ _ (hk2 p (hs p hp)).1), fun nL => ?_⟩
      have ll := set_len hs ha nL t2
      refine ⟨.int (due n), rfl, rfl, _, rfl, ite2 (fun z => absurd z (ne_false (by rw [ll, t1]))) (fun _ => ?_)⟩
      refine ⟨.ref D2, rfl, D2, rfl, ⟨_, SqL.of (sa _ _ upd_same)⟩, fun D3 nD3 => ?_⟩
      refine lc_list (K := K) (a := D2) (xs := ks2.map fun p => V.ref p.1) (fun j H6 => Same (upd (upd H4 D2 (.lst (ks2.map fun p => V.ref p.1))) a (SetTO P w a L)) H6 ∧ H6 D3 = some (.lst (((ks2.take j).map fun p => isTree p.2).map V.bl)))
        ⟨same_upd nD3, upd_same⟩ (fun j H6 _ ⟨s6, _⟩ => SqL.of (s6 _ _ (sa _ _ upd_same))) ?_ ?_
      · rintro j v H6 hv ⟨s6, hD3⟩
        obtain ⟨hj, rfl⟩ := mapRef_at hv
        have hm : ks2[j] ∈ ks2 := List.getElem_mem hj
        refine ⟨rfl, ?_⟩
        refine ⟨_, rfl, _, ks2[j].2, rfl, SqT.of (s6 _ _ (sa _ _ (hk2 _ hm).1)), (hk2 _ hm).2, fun H7 s7 => ⟨_, s7 _ _ hD3, ?_, same_put (s6.trans s7) nD3, ?_⟩⟩
        · rw [List.length_map, List.length_map]
          have : (ks2.take j).length ≤ ks2.length := List.length_take_le' _ _
          exact size_small (by omega)
        · rw [upd_same, List.take_succ_eq_append_getElem hj, List.map_append, List.map_append]
          rfl
      · rintro H6 ⟨s6, hD3⟩
        rw [List.length_map, List.take_length] at hD3
        refine ⟨D3, _, rfl, SqL.of hD3, _, rfl, ite2 (fun z => ?_) (fun _ => ?_)⟩
        · exfalso
          have : (ks2.map fun p => isTree p.2).all id = true := List.all_eq_true.mpr fun b hb => by
            obtain ⟨p, hp, rfl⟩ := List.mem_map.mp hb
            exact t3 p.2 (List.mem_map.mpr ⟨p, hp, rfl⟩)
          rw [this] at z
          cases z
        · exact ⟨_, _, rfl, ((((sm.trans sT).trans s4).trans (sD2 _)).trans sa).trans s6⟩
    · rintro σ H' ⟨y4, y5, rfl, sm⟩
      refine ⟨.int n, rfl, rfl, _, rfl, ite2 (fun z => ?_) (fun z => ?_)⟩
      · exact q H' (sm3.trans sm)
      · have n4 : n ≤ 4 := by
          have : ¬ n = 5 := fun e => z (decide_eq_true (by rw [e]; rfl))
          omega
        have ot := okTuples_all n4
        have hc' := sm _ _ hc3
        refine ⟨.ref c, rfl, c, rfl, ⟨_, SqL.of hc'⟩, fun D nD => ?_⟩
        refine lc_list (K := K) (a := c) (xs := ks.map fun p => V.ref p.1) (fun j H4 => ∃ ls : List (Addr × List Int), Same H' H4 ∧ H4 D = some (.lst (ls.map fun p => V.ref p.1)) ∧ (∀ p ∈ ls, H4 p.1 = some (.tup (p.2.map V.int)) ∧ p.2.length ≤ 40) ∧
          ls.map (·.2) = (ks.take j).map fun p => less p.2) ⟨[], same_upd nD, upd_same, (fun _ h => nomatch h), rfl⟩ (fun j H4 _ ⟨_, s4, _⟩ => SqL.of (s4 _ _ hc')) ?_ ?_
        · rintro j v H4 hv ⟨ls, s4, hD, hl, el⟩
          obtain ⟨hj, rfl⟩ := mapRef_at hv
          have hm : ks[j] ∈ ks := List.getElem_mem hj
          have hp := (sm.trans s4) _ _ (hk3 _ hm)
          have pl : ks[j].2.length = n := by
            have : (codes n)[j]? = some ks[j].2 := by rw [← he, List.getElem?_map, List.getElem?_eq_getElem hj]; rfl
            exact codes_at this
          have lj : ls.length = j := by
            have := congrArg List.length el
            rw [List.length_map, List.length_map, List.length_take] at this
            omega
          refine ⟨rfl, ?_⟩
          refine ⟨_, rfl, _, rfl, ⟨_, SqT.of hp⟩, fun D2 nD2 => ?_⟩
          refine lc_tup (K := K) (a := ks[j].1) (xs := ks[j].2.map V.int) (fun m H5 => H5 = upd H4 D2 (.lst ((less (ks[j].2.take m)).map V.int))) rfl ?_ ?_ ?_
          · rintro m H5 _ rfl
            exact SqT.of ((same_upd nD2) _ _ hp)
          · rintro m v H5 hv2 rfl
            obtain ⟨hm2, rfl⟩ := getI_eq hv2
            refine ⟨rfl, ?_⟩
            refine ⟨_, rfl, _, 1, rfl, rfl, _, upd_same, ?_, ?_⟩
            · unfold less
              rw [List.length_map, List.length_map]
              have : (ks[j].2.take m).length ≤ ks[j].2.length := List.length_take_le' _ _
              exact size_small (by omega)
            · have e : ks[j].2.getD m 0 = ks[j].2[m] := by rw [List.getD_eq_getElem?_getD, List.getElem?_eq_getElem hm2]; rfl
              rw [upd_upd, List.take_succ_eq_append_getElem hm2, e]
              unfold less
              rw [List.map_append, List.map_append]
              rfl
          · rintro H5 rfl
            rw [List.length_map, List.take_length]
            have s2 := fun o => same_upd (o := o) nD2
            refine ⟨D2, _, rfl, .inl ⟨SqL.of upd_same, fun l nl => ?_⟩⟩
            have s3 := fun o => same_upd (o := o) nl
            have hDl := s3 (.tup ((less ks[j].2).map V.int)) _ _ (s2 _ _ _ hD)
            refine ⟨_, hDl, ?_, ls ++ [(l, less ks[j].2)], same_put ((s4.trans (s2 _)).trans (s3 _)) nD, ?_, fun p hp2 => ?_, ?_⟩
            · rw [List.length_map, lj]
              exact size_small (by omega)
            · rw [upd_same, List.map_append]
              rfl
            · rcases List.mem_append.mp hp2 with z | z
              · have h1 := s3 (.tup ((less ks[j].2).map V.int)) _ _ (s2 (.lst ((less ks[j].2).map V.int)) _ _ (hl p z).1)
                rw [upd_ne (ne_of h1 hDl (fun z => by cases z))]
                exact ⟨h1, (hl p z).2⟩
              · have z' := List.mem_singleton.mp z
                subst z'
                rw [upd_ne (ne_of upd_same hDl (fun z => by cases z)), upd_same]
                refine ⟨rfl, ?_⟩
                show (less ks[j].2).length ≤ 40
                unfold less
                rw [List.length_map]
                omega
            · rw [List.map_append, el, List.take_succ_eq_append_getElem hj, List.map_append]
              rfl
        rintro H4 ⟨ls, s4, hD, hl, el⟩
        rw [List.length_map, List.take_length] at el
        have el2 : ls.map (·.2) = (codes n).map less := by
          rw [el, ← he, List.map_map]
          rfl
        have lsl : ls.length ≤ 3125 := by
          have := congrArg List.length el
          rw [List.length_map, List.length_map] at this
          omega
        refine ⟨.ref D, rfl, D, rfl, ⟨_, SqL.of hD⟩, fun D3 nD3 => ?_⟩
        refine lc_list (K := K) (a := D) (xs := ls.map fun p => V.ref p.1) (fun j H5 => ∃ ms : List (Addr × List Int), Same H4 H5 ∧ H5 D3 = some (.lst (ms.map fun p => V.ref p.1)) ∧ ms.length ≤ j ∧ ms.map (·.2) = ((ls.take j).map (·.2)).filter isTree)
          ⟨[], same_upd nD3, upd_same, Nat.le_refl _, rfl⟩ (fun j H5 _ ⟨_, s5, _⟩ => SqL.of (s5 _ _ hD)) ?_ ?_
        · rintro j v H5 hv ⟨ms, s5, hD3, ml, em⟩
          obtain ⟨hj, rfl⟩ := mapRef_at hv
          have hm : ls[j] ∈ ls := List.getElem_mem hj
          refine ⟨rfl, ?_⟩
          refine ⟨_, rfl, _, ls[j].2, rfl, SqT.of (s5 _ _ (hl _ hm).1), (hl _ hm).2, fun H6 s6 => ⟨_, rfl, ite2 (fun z => ?_) (fun z => ?_)⟩⟩
          · refine ⟨_, rfl, _, s6 _ _ hD3, ?_, ms ++ [ls[j]], same_put (s5.trans s6) nD3, ?_, ?_, ?_⟩
            · rw [List.length_map]
              exact size_small (by omega)
            · rw [upd_same, List.map_append]
              rfl
            · rw [List.length_append]
              show ms.length + 1 ≤ j + 1
              omega
            · rw [List.map_append, em, List.take_succ_eq_append_getElem hj, List.map_append, List.filter_append]
              congr 1
              show [ls[j].2] = [ls[j].2].filter isTree
              rw [List.filter_cons_of_pos z]
              rfl
          · refine ⟨ms, s5.trans s6, s6 _ _ hD3, by omega, ?_⟩
            rw [em, List.take_succ_eq_append_getElem hj, List.map_append, List.filter_append]
            show _ = _ ++ [ls[j].2].filter isTree
            rw [List.filter_cons_of_neg z]
            exact (List.append_nil _).symm
        · rintro H5 ⟨ms, s5, hD3, ml, em⟩
          rw [List.length_map, List.take_length, el2] at em
          have ml2 : ms.length = (due n).toNat := by
            have := congrArg List.length em
            rw [List.length_map] at this
            rw [this]
            exact of_decide_eq_true ot
          refine ⟨D3, _, rfl, .inl (SqL.of hD3), .int (due n), rfl, rfl, ?_⟩
          have e3 : V.int ((((ms.map fun p => V.ref p.1).length : Nat)) : Int) = V.int (due n) := by
            rw [List.length_map, ml2, Int.toNat_of_nonneg d42.1]
          rw [decide_eq_true e3]
          exact q H5 (((sm3.trans sm).trans s4).trans s5)
end
end Dk

/-! Dk12: _law_text, law. -/
namespace Dk
open PySem PySem.Spec PyProof.Rows L2 TL
/-! ### plain facts -/
theorem cnt_opens : ∀ bs : List Bool, cnt 40 (bs.map brC) = (opens bs : Int)
  | [] => rfl
  | b :: r => by
    rw [List.map_cons, cnt_cons, cnt_opens r]
    cases b
    · show (if (40 : Nat) = 40 then (1 : Int) else 0) + _ = _
      rw [if_pos rfl]
      show (1 : Int) + (opens r : Int) = ((opens (false :: r) : Nat) : Int)
      have : opens (false :: r) = opens r + 1 := by unfold opens; rw [List.countP_cons_of_pos rfl]
      omega
    · show (if (41 : Nat) = 40 then (1 : Int) else 0) + _ = _
      rw [if_neg (by decide)]
      have : opens (true :: r) = opens r := by unfold opens; rw [List.countP_cons_of_neg (by decide)]
      omega
theorem cnt_shuts : ∀ bs : List Bool, cnt 41 (bs.map brC) = (shuts bs : Int)
  | [] => rfl
  | b :: r => by
    rw [List.map_cons, cnt_cons, cnt_shuts r]
    cases b
    · show (if (40 : Nat) = 41 then (1 : Int) else 0) + _ = _
      rw [if_neg (by decide)]
      have : shuts (false :: r) = shuts r := by unfold shuts; rw [List.countP_cons_of_neg (by decide)]
      omega
    · show (if (41 : Nat) = 41 then (1 : Int) else 0) + _ = _
      rw [if_pos rfl]
      have : shuts (true :: r) = shuts r + 1 := by unfold shuts; rw [List.countP_cons_of_pos rfl]
      omega
theorem count_open (bs : List Bool) : Txt.count (brS bs) (Str.ofString "(") = (opens bs : Int) := by
  rw [brS_open, ← cnt_opens]
  have := count_is (brS bs) 40
  rw [← tl_brS]
  exact this
theorem count_shut (bs : List Bool) : Txt.count (brS bs) (Str.ofString ")") = (shuts bs : Int) := by
  rw [brS_shut, ← cnt_shuts]
  have := count_is (brS bs) 41
  rw [← tl_brS]
  exact this
theorem allGood_open {n f : Nat} {bs : List Bool} (h : allGood n (f + 1) bs = true) (c : opens bs < n) : allGood n f (bs ++ [false]) = true := by
  unfold allGood at h
  rw [Bool.and_eq_true] at h
  have h1 := h.1
  rw [decide_eq_true c] at h1
  exact h1
theorem allGood_shut {n f : Nat} {bs : List Bool} (h : allGood n (f + 1) bs = true) (c : ¬ (opens bs < n ∧ opens bs = shuts bs)) : allGood n f (bs ++ [true]) = true := by
  unfold allGood at h
  rw [Bool.and_eq_true] at h
  have h2 := h.2
  have e : (decide (opens bs < n) && decide (opens bs = shuts bs)) = false := by
    by_cases c1 : opens bs < n
    · have c2 : ¬ opens bs = shuts bs := fun z => c ⟨c1, z⟩
      rw [decide_eq_false c2, Bool.and_false]
    · rw [decide_eq_false c1, Bool.false_and]
  rw [e, Bool.false_or] at h2
  exact h2
theorem good_of {bs : List Bool} (h : good bs = true) : ∃ t, byBr bs = some t ∧ isTree t = true ∧ brOf (dropsOf t) = bs := by
  unfold good at h
  split at h
  · cases h
  · rename_i t ht
    rw [Bool.and_eq_true] at h
    exact ⟨t, ht, h.1, by simpa using h.2⟩
section
variable {P : Program} {w : World} {K : PySem.W.Frag} {mg : Str → Option Value} {base : Heap}
/-! ### _law_text -/
theorem scText : FnScope ["pot", "many", "text", "opened"] ["pot"] (defScope sText) := ⟨rfl, rfl, rfl, by decide +kernel, rfl, by decide +kernel, by decide +kernel⟩
def spText : Sp := fun vs H Q _ => ∃ (p : Addr) (g : Int), vs = [.ref p] ∧ H p = some (.lst [.int g]) ∧ ∀ (g' : Int) bs, good bs = true → bs.length ≤ 16 → Q (.str (brS bs)) (upd H p (.lst [.int g']))
def WText (H : Hp) (p : Addr) (m : Int) (M k : Nat) (σ : L2.St) (H' : Hp) : Prop := ∃ (bs : List Bool) (g : Int) (y : Option V), k = 2 * M - bs.length ∧ bs.length ≤ 2 * M ∧ allGood M k bs = true ∧ σ = [some (.ref p), some (.int m), some (.str (brS bs)), y] ∧ H' = upd H p (.lst [.int g])
theorem ok_text {f : Addr} {fd : FuncData} (F : Fun K "_law_text" "_law_text" sText f fd) (B : Blt mg) (CT : Cal P w K mg base CX0 1 "_law_take" ["pot", "many"] spTake) : FnOk P w K mg base CX0 2 f fd ["pot"] spText := by
  refine F.ok (k := 1) scText (fun vs H Q E h => ?_) (fun cdv A outer s H vs Q E hr h => ?_)
  · obtain ⟨p, g, rfl, _⟩ := h
    rfl
  · obtain ⟨p, g, rfl, hp, q⟩ := h
    refine ⟨_, pss_cons (ps_set (i := 1) scText.nd rfl (.inl rfl) (pe_op op_add pe_int (pe_cal CT hr (by rfl) pass0 (pa_cons (pv 0) (pa_cons pe_int pa_nil)))))
      (pss_cons (ps_set (i := 2) scText.nd rfl (.inl rfl) pe_str)
      (pss_cons (ps_while PassesOwn.never (pt_cmpR op_lt (pe_callB call_len_str (by rfl) B.len PySem.boot_len (pa_cons (pv 2) pa_nil)) (pe_op op_mul pe_int (pv 1)) (nomark _))
        (pss_cons (ps_set (i := 3) scText.nd rfl (.inl rfl) (pe_op op_sub (pe_m1 PySem.F.slot_str_count PySem.F.type_str_count mt_count (pv 2) pe_str) (pe_m1 PySem.F.slot_str_count PySem.F.type_str_count mt_count (pv 2) pe_str)))
        (pss_one (ps_if (PW.pt (pw_and (pt_cmpR op_lt (pe_m1 PySem.F.slot_str_count PySem.F.type_str_count mt_count (pv 2) pe_str) (pv 1) (nomark _))
            (pw_and1 (PW.pt (pw_or (pt_cmpR op_eq (pv 3) pe_int (nomark _)) (pw_or1 (pt_cmpR op_eq (pe_cal CT hr (by rfl) pass0 (pa_cons (pv 0) (pa_cons pe_int pa_nil))) pe_int (nomark _))))))))
          (pss_one (ps_set (i := 2) scText.nd rfl (.inl rfl) (pe_op op_add_str (pv 2) pe_str))) (pss_one (ps_set (i := 2) scText.nd rfl (.inl rfl) (pe_op op_add_str (pv 2) pe_str)))))))
      (pss_one (ps_ret (pv 2))))), ?_⟩
    refine ⟨.ref p, rfl, p, g, 4, rfl, hp, by decide, by decide, 5, g % 4, rfl, rfl, ?_⟩
    obtain ⟨M, hM, h5, h8⟩ : ∃ M : Nat, 5 + g % 4 = (M : Int) ∧ 5 ≤ M ∧ M ≤ 8 := by
      have b0 : 0 ≤ g % 4 := Int.emod_nonneg _ (by decide)
      have b1 : g % 4 < 4 := Int.emod_lt_of_pos _ (by decide)
      exact ⟨(5 + g % 4).toNat, by omega, by omega, by omega⟩
    have st : allGood M (2 * M - ([] : List Bool).length) [] = true := by
      have : M = 5 ∨ M = 6 ∨ M = 7 ∨ M = 8 := by omega
      rcases this with e | e | e | e
      · rw [e]; exact g5
      · rw [e]; exact g6
      · rw [e]; exact g7
      · rw [e]; exact g8
    refine ⟨WText H p (5 + g % 4) M, ⟨_, [], _, none, rfl, Nat.zero_le _, st, by rw [brS_nil]; rfl, rfl⟩, ?_⟩
    rintro k σ H' ⟨bs, g1, y, hk, hl, hG, rfl, rfl⟩
    have hp1 : (upd H p (.lst [.int g1])) p = some (.lst [.int g1]) := upd_same
    refine ⟨_, rfl, _, rfl, ?_, _, rfl, 2, 5 + g % 4, rfl, rfl, .inl ⟨by decide, by decide⟩, _, _, rfl, rfl, _, rfl, ite2 (fun c => ?_) (fun c => ?_)⟩
    · rw [len_brS]
      exact size_le (by omega)
    · have c1 : bs.length < 2 * M := by
        have := of_decide_eq_true c
        rw [len_brS] at this
        omega
      obtain ⟨k', rfl⟩ : ∃ k', k = k' + 1 := ⟨k - 1, by omega⟩
      refine ⟨WText H p (5 + g % 4) M k', fun σ' H' h => ⟨k', Nat.lt_succ_self _, h⟩, ?_⟩
      -- the two ways on
      have onF : ∀ (g2 : Int), opens bs < M → WText H p (5 + g % 4) M k' [some (.ref p), some (.int (5 + g % 4)), some (.str (brS bs ++ Str.ofString "(")), some (.int (Txt.count (brS bs) (Str.ofString "(") - Txt.count (brS bs) (Str.ofString ")")))] (upd H p (.lst [.int g2])) := fun g2 c2 => by
        refine ⟨bs ++ [false], g2, _, ?_, ?_, allGood_open hG c2, by rw [← brS_app, ← brS_open], rfl⟩
        · rw [List.length_append]
          show k' = 2 * M - (bs.length + 1)
          omega
        · rw [List.length_append]
          show bs.length + 1 ≤ _
          omega
      have onT : ∀ (g2 : Int), ¬ (opens bs < M ∧ opens bs = shuts bs) → WText H p (5 + g % 4) M k' [some (.ref p), some (.int (5 + g % 4)), some (.str (brS bs ++ Str.ofString ")")), some (.int (Txt.count (brS bs) (Str.ofString "(") - Txt.count (brS bs) (Str.ofString ")")))] (upd H p (.lst [.int g2])) := fun g2 c2 => by
        refine ⟨bs ++ [true], g2, _, ?_, ?_, allGood_shut hG c2, by rw [← brS_app, ← brS_shut], rfl⟩
        · rw [List.length_append]
          show k' = 2 * M - (bs.length + 1)
          omega
        · rw [List.length_append]
          show bs.length + 1 ≤ _
          omega
      have szF : (brS bs).length + (Str.ofString "(").length ≤ sizeLine := by
        rw [brS_open, len_brS, len_brS]
        exact size_le (by show _ + 1 ≤ 1000000; omega)
      have szT : (brS bs).length + (Str.ofString ")").length ≤ sizeLine := by
        rw [brS_shut, len_brS, len_brS]
        exact size_le (by show _ + 1 ≤ 1000000; omega)
      refine ⟨_, rfl, ⟨_, rfl⟩, _, _, rfl, rfl, _, rfl, ⟨_, rfl⟩, _, _, rfl, rfl, _, _, rfl, rfl, ?_⟩
      refine ⟨_, rfl, ⟨_, rfl⟩, _, _, rfl, rfl, _, rfl, _, _, rfl, rfl, _, rfl, ite2 (fun c2 => ?_) (fun c2 => ?_)⟩
      · have c2' : opens bs < M := by
          have := of_decide_eq_true c2
          rw [count_open] at this
          omega
        refine ⟨_, rfl, rfl, _, rfl, ite2 (fun c3 => ?_) (fun c3 => ?_)⟩
        · refine ⟨_, rfl, _, _, rfl, rfl, szF, ?_⟩
          exact onF g1 c2'
        · have c3' : ¬ opens bs = shuts bs := fun z => c3 (decide_eq_true (by
            show V.int (Txt.count (brS bs) (Str.ofString "(") - Txt.count (brS bs) (Str.ofString ")")) = V.int 0
            rw [count_open, count_shut, z, Int.sub_self]))
          refine ⟨.ref p, rfl, p, g1, 2, rfl, hp1, by decide, by decide, rfl, _, rfl, ite2 (fun c4 => ?_) (fun c4 => ?_)⟩
          · refine ⟨_, rfl, _, _, rfl, rfl, szF, ?_⟩
            rw [upd_upd]
            exact onF _ c2'
          · refine ⟨_, rfl, _, _, rfl, rfl, szT, ?_⟩
            rw [upd_upd]
            exact onT _ fun z => c3' z.2
      · have c2' : ¬ opens bs < M := fun z => c2 (decide_eq_true (by rw [count_open]; omega))
        refine ⟨_, rfl, _, _, rfl, rfl, szT, ?_⟩
        exact onT g1 fun z => c2' z.1
    · have c1 : ¬ bs.length < 2 * M := fun z => c (decide_eq_true (by rw [len_brS]; omega))
      have e0 : k = 0 := by omega
      subst e0
      exact ⟨_, rfl, q g1 bs hG (by omega)⟩
end
end Dk

/-! Dk13: law; what the top has written. -/
namespace Dk
open PySem PySem.Spec PyProof.Rows L2 TL
/-! ### the law's own walk -/
section
variable {P : Program} {w : World} {K : PySem.W.Frag} {mg : Str → Option Value} {base : Heap}
theorem scLaw : FnScope ["script", "many", "k", "pot", "one", "other"] ["script"] (defScope sLaw) := ⟨rfl, rfl, rfl, by decide +kernel, rfl, by decide +kernel, by decide +kernel⟩
def spLaw (K : PySem.W.Frag) : Sp := fun vs H Q _ => ∃ (a : Addr) (ns : List Int), vs = [.ref a] ∧ SqL K H a (ns.map V.int) ∧ ns.length ≤ 63 ∧ ∀ H', Q (.bl true) H'
theorem ok_law {f C : Addr} {fd : FuncData} (F : Fun K "law" "law" sLaw f fd) (B : Blt mg) (CT : Cal P w K mg base CX0 1 "_law_take" ["pot", "many"] spTake) (CPt : Cal P w K mg base CX0 1 "_law_pot" ["script", "k"] (spPot K))
    (CC : Cal P w K mg base CX0 4 "_law_counted" ["many"] spCounted) (CX : Cal P w K mg base CX0 2 "_law_text" ["pot"] spText) (CB : Cal P w K mg base (L2.CX P w) 2 "by_brackets" ["text"] (spByBr C)) (CS : Cal P w K mg base CX0 7 "brackets_of" ["tree"] (spBrackets K)) :
    FnOk P w K mg base CX0 8 f fd ["script"] (spLaw K) := by
  refine F.ok (k := 7) scLaw (fun vs H Q E h => ?_) (fun cdv A outer s H vs Q E hr h => ?_)
  · obtain ⟨a, ns, rfl, _⟩ := h
    rfl
  · obtain ⟨a, ns, rfl, hS, hn, q⟩ := h
    have hr1 := hr.mono (show 1 ≤ 7 by decide)
    have hr2 := hr.mono (show 2 ≤ 7 by decide)
    have hr4 := hr.mono (show 4 ≤ 7 by decide)
    refine ⟨_, pss_cons (ps_set (i := 1) scLaw.nd rfl (.inl rfl) (pe_cal CT hr1 (by rfl) pass0 (pa_cons (pe_cal CPt hr1 (by rfl) pass0 (pa_cons (pv 0) (pa_cons pe_int pa_nil))) (pa_cons pe_int pa_nil))))
      (pss_cons (ps_if (pt_not (pt_val (pe_cal CC hr4 (by rfl) pass0 (pa_cons (pv 1) pa_nil)))) (pss_one (ps_ret pe_bl)) pss_nil)
      (pss_cons (ps_for PassesOwn.never rfl (pi_range1 (by rfl) B.range (pa_cons (pe_callB (call_max2 rfl) (by rfl) B.max (by decide +kernel) (pa_cons pe_int (pa_cons (pe_callB (call_min2 rfl) (by rfl) B.min (by decide +kernel)
          (pa_cons (pe_callB call_len_seq (by rfl) B.len PySem.boot_len (pa_cons (pv 0) pa_nil)) (pa_cons pe_int pa_nil))) pa_nil))) pa_nil)) (pg_name (i := 2) scLaw.nd rfl (.inl rfl))
        (pss_cons (ps_set (i := 3) scLaw.nd rfl (.inl rfl) (pe_cal CPt hr1 (by rfl) pass0 (pa_cons (pv 0) (pa_cons (pv 2) pa_nil))))
        (pss_cons (ps_set (i := 4) scLaw.nd rfl (.inl rfl) (pe_cal CX hr2 (by rfl) pass0 (pa_cons (pv 3) pa_nil)))
        (pss_cons (ps_set (i := 5) scLaw.nd rfl (.inl rfl) (pe_cal CX hr2 (by rfl) pass0 (pa_cons (pv 3) pa_nil)))
        (pss_cons (ps_if (PW.pt (pw_or (pt_cmpR op_ne (pe_cmpR (op_eqT hr.units) (pe_cal CB hr2 (by rfl) passL (pa_cons (pv 4) pa_nil)) (pe_cal CB hr2 (by rfl) passL (pa_cons (pv 5) pa_nil)) (nomark _)) (pe_cmpR op_eq (pv 4) (pv 5) (nomark _)) (nomark _))
            (pw_or1 (pt_cmpR op_ne (pe_cal CS hr (by rfl) pass0 (pa_cons (pe_cal CB hr2 (by rfl) passL (pa_cons (pv 4) pa_nil)) pa_nil)) (pv 4) (nomark _))))) (pss_one (ps_ret pe_bl)) pss_nil)
        (pss_one (ps_if (pt_cmpR op_ne (pe_cal CS hr (by rfl) pass0 (pa_cons (pe_cal CB hr2 (by rfl) passL (pa_cons (pv 5) pa_nil)) pa_nil)) (pv 5) (nomark _)) (pss_one (ps_ret pe_bl)) pss_nil)))))))
      (pss_one (ps_ret pe_bl)))), ?_⟩
    refine ⟨.ref a, rfl, a, ns, 0, rfl, hS, by decide, fun H1 p g s1 np hp => ?_⟩
    refine ⟨p, g, 6, rfl, hp, by decide, by decide, ?_⟩
    obtain ⟨n, hm, n5⟩ : ∃ n : Nat, g % 6 = (n : Int) ∧ n ≤ 5 := by
      have b0 : 0 ≤ g % 6 := Int.emod_nonneg _ (by decide)
      have b1 : g % 6 < 6 := Int.emod_lt_of_pos _ (by decide)
      exact ⟨(g % 6).toNat, by omega, by omega⟩
    have s2 := same_put (u := .lst [.int (g / 6)]) s1 np
    refine ⟨.int (g % 6), rfl, n, by rw [hm]; rfl, n5, fun H2 s3 => ⟨_, rfl, ite2 (fun z => nomatch z) (fun _ => ?_)⟩⟩
    have s4 := s2.trans s3
    have hS2 := s4.seq hS
    obtain ⟨m, em, m63⟩ : ∃ m : Nat, (if (if (40 : Int) < ((ns.map V.int).length : Nat) then (40 : Int) else ((ns.map V.int).length : Nat)) > 1 then (if (40 : Int) < ((ns.map V.int).length : Nat) then (40 : Int) else ((ns.map V.int).length : Nat)) else 1) = (m : Int) ∧ m ≤ 63 := by
      rw [List.length_map]
      refine ⟨(if (if (40 : Int) < (ns.length : Nat) then (40 : Int) else (ns.length : Nat)) > 1 then (if (40 : Int) < (ns.length : Nat) then (40 : Int) else (ns.length : Nat)) else 1).toNat, ?_, ?_⟩
      · split <;> split <;> omega
      · split <;> split <;> omega
    refine ⟨.ref a, rfl, a, _, rfl, .inl hS2, _, 40, rfl, 1, _, rfl, (m : Int), congrArg (fun z => [V.int z]) em, by omega, by omega, ?_⟩
    rw [Int.toNat_natCast]
    refine for_range (lo := 0) (n := m) (fun i σ H' => ∃ y2 y3 y4 y5, σ = [some (.ref a), some (.int (g % 6)), y2, y3, y4, y5] ∧ Same H H') ⟨none, none, none, none, rfl, s4⟩ ?_ ?_
    · rintro i σ H' hi ⟨y2, y3, y4, y5, rfl, sm⟩
      refine ⟨.ref a, rfl, .int (0 + (i : Int)), rfl, a, ns, i, by rw [Int.zero_add]; rfl, sm.seq hS, by omega, fun H3 p g1 s5 np hp => ?_⟩
      have np' : H p = none := sm.free np
      refine ⟨.ref p, rfl, p, g1, rfl, hp, fun g2 b1 k1 l1 => ?_⟩
      refine ⟨.ref p, rfl, p, g2, rfl, upd_same, fun g3 b2 k2 l2 => ?_⟩
      obtain ⟨t1, r1, i1, o1⟩ := good_of k1
      obtain ⟨t2, r2, i2, o2⟩ := good_of k2
      have len1 : t1.length ≤ 40 := (show LedIn K H 2 (.str (brS b1)) (some t1) from .inr (.inr ⟨b1, rfl, rfl, by omega, r1.symm⟩)).len
      have len2 : t2.length ≤ 40 := (show LedIn K H 2 (.str (brS b2)) (some t2) from .inr (.inr ⟨b2, rfl, rfl, by omega, r2.symm⟩)).len
      have same12 : decide (t1 = t2) = decide (V.str (brS b1) = V.str (brS b2)) := by
        rw [Bool.eq_iff_iff, decide_eq_true_iff, decide_eq_true_iff]
        constructor
        · intro e
          rw [← o1, ← o2, e]
        · intro e
          have e2 := brS_inj (V.str.inj e)
          rw [e2, r2] at r1
          exact (Option.some.inj r1).symm
      have s6 := same_put (u := .lst [.int g3]) (same_put (u := .lst [.int g2]) (sm.trans s5) np') np'
      -- the trees are one just where the texts are
      refine ⟨_, rfl, b1, rfl, by omega, fun H4 _ e => (by rw [r1] at e; cases e), fun H4 q1 ts s7 nq1 e hq1 => ?_⟩
      rw [r1] at e
      cases e
      refine ⟨_, rfl, b2, rfl, by omega, fun H5 _ e => (by rw [r2] at e; cases e), fun H5 q2 ts s8 nq2 e hq2 => ?_⟩
      rw [r2] at e
      cases e
      refine ⟨q1, q2, t1, t2, rfl, rfl, SqT.of (s8 _ _ hq1), SqT.of hq2, _, rfl, _, rfl, rfl, rfl, _, rfl, ite2 (fun z => absurd z (ne_false (congrArg V.bl same12))) (fun _ => ?_)⟩
      -- the one back
      refine ⟨_, rfl, b1, rfl, by omega, fun H6 _ e => (by rw [r1] at e; cases e), fun H6 q3 ts s9 nq3 e hq3 => ?_⟩
      rw [r1] at e
      cases e
      refine ⟨q3, t1, rfl, SqT.of hq3, len1, i1, fun H7 s10 => ?_⟩
      rw [o1]
      refine ⟨_, rfl, rfl, _, rfl, ite2 (fun z => absurd z (ne_false rfl)) (fun _ => ?_)⟩
      -- the other back
      refine ⟨_, rfl, b2, rfl, by omega, fun H8 _ e => (by rw [r2] at e; cases e), fun H8 q4 ts s11 nq4 e hq4 => ?_⟩
      rw [r2] at e
      cases e
      refine ⟨q4, t2, rfl, SqT.of hq4, len2, i2, fun H9 s12 => ?_⟩
      rw [o2]
      refine ⟨_, rfl, rfl, _, rfl, ite2 (fun z => absurd z (ne_false rfl)) (fun _ => ?_)⟩
      exact ⟨_, _, _, _, rfl, (((((s6.trans s7).trans s8).trans s9).trans s10).trans s11).trans s12⟩
    · rintro σ H' ⟨y2, y3, y4, y5, rfl, sm⟩
      exact q H'
end
/-! ### what the top has written -/
structure DefAt (K : PySem.W.Frag) (x : Str) (st : Stmt) : Prop where
  ex : ∃ (f : Addr) (fd : FuncData), PySem.W.nsIn K mainGlobals x = some (some (.ref f)) ∧ Fun K x x st f fd
theorem defAt {K : PySem.W.Frag} {x : Str} {st : Stmt} {f : Addr} {oc : Value} {od an : Option Addr} {osl : Array (Option Value)} {kV doc pm cdv ct : Value} (a : PySem.W.nsIn K mainGlobals x = some (some (.ref f)))
    (l : K.lookup f = some ⟨oc, od, .func (PySem.W.fnOf x x (defArgs st) (defBody st) (defScope st) .none kV doc pm an cdv ct), osl⟩) (c : PySem.W.codeIn K cdv x = true) (k : PySem.W.keepIn K (.ref f) = true) : DefAt K x st := ⟨f, _, a, fun_mk l c k⟩
theorem cal_mk {P : Program} {w : World} {K : PySem.W.Frag} {h : Heap} {mg : Str → Option Value} {base : Heap} {CX : CXT} {k : Nat} {x : Str} {ps : List Str} {sp : Sp} {st : Stmt} {f : Addr} {fd : FuncData} (X : K.In h) (G : h.Ns mainGlobals mg) (a : PySem.W.nsIn K mainGlobals x = some (some (.ref f)))
    (F : Fun K x x st f fd) (b : Binds K fd ps []) (ok : FnOk P w K mg base CX k f fd ps sp) : Cal P w K mg base CX k x ps sp := ⟨f, fd, ok, PySem.W.mg_of X G a, F.kp, b⟩
set_option maxHeartbeats 8000000 in
theorem all_mk {l : PySem.W.OpenLaw} {w : World} {K : PySem.W.Frag} {h : Heap} {mg : Str → Option Value} {fa C : Addr} {tk : Tok} (X : K.In h) (G : h.Ns mainGlobals mg) (hfa : mg "law" = some (.ref fa))
    (d1 : DefAt K "tree_of" sTreeOf) (d2 : DefAt K "way_up" sWayUp) (d3 : DefAt K "flat_numbers" sFlat) (d4 : DefAt K "is_tree" sIsTree) (d5 : DefAt K "look_at_tree" sLook) (d6 : DefAt K "flattest" sFlattest) (d7 : DefAt K "drops_of" sDropsOf) (d8 : DefAt K "brackets_of" sBrackets) (d9 : DefAt K "hung" sHung) (d10 : DefAt K "by_drops" sByDrops) (d11 : DefAt K "drops_by_distances" sDropsDist) (d12 : DefAt K "by_distances" sByDist) (d13 : DefAt K "by_brackets" sByBr) (d14 : DefAt K "_law_pot" sPot) (d15 : DefAt K "_law_take" sTake) (d16 : DefAt K "_law_digits" sDigits) (d17 : DefAt K "_law_power" sPower) (d18 : DefAt K "_law_many" sMany) (d19 : DefAt K "_law_led" sLed) (d20 : DefAt K "_law_counted" sCounted) (d21 : DefAt K "_law_text" sText) (d22 : DefAt K "law" sLaw)
    (hM : PySem.W.nsIn K mainGlobals "MOST_PLACES" = some (some (.int 40 tk))) (eC : PySem.W.nsIn K mainGlobals "NoTelling" = some (some (.ref C)))
    (eX : PySem.W.excIn K C [.type "ValueError", .type "Exception", .type "BaseException", .type "object"] "ValueError.__new__" = true) (eK : PySem.W.keepIn K (.ref C) = true) (eB : PySem.W.subIn K (.ref C) (.type "BaseException") = some true)
    (eT : PySem.W.typeIn K (.ref C) = some (.type "type")) (eI : PySem.W.isClsIn K C = true) (eS : PySem.W.subIn K (.ref C) (.ref C) = some true)
    (z1 : PySem.W.nsIn K mainGlobals "len" = some none) (z2 : PySem.W.nsIn K mainGlobals "range" = some none) (z3 : PySem.W.nsIn K mainGlobals "tuple" = some none) (z4 : PySem.W.nsIn K mainGlobals "enumerate" = some none) (z5 : PySem.W.nsIn K mainGlobals "sum" = some none) (z6 : PySem.W.nsIn K mainGlobals "max" = some none) (z7 : PySem.W.nsIn K mainGlobals "min" = some none) (z8 : PySem.W.nsIn K mainGlobals "set" = some none) (z9 : PySem.W.nsIn K mainGlobals "all" = some none) :
    ∃ fd : FuncData, (∀ (s : Shared) (v : Value), BindsTo s fd ⟨[v], []⟩ [("script", v)]) ∧ ∀ base : Heap, K.In base → base.Ns mainGlobals mg → FnOk l.prog w K mg base CX0 8 fa fd ["script"] (spLaw K) := by
  obtain ⟨f1, fd1, a1, F1⟩ := d1.ex
  obtain ⟨f2, fd2, a2, F2⟩ := d2.ex
  obtain ⟨f3, fd3, a3, F3⟩ := d3.ex
  obtain ⟨f4, fd4, a4, F4⟩ := d4.ex
  obtain ⟨f5, fd5, a5, F5⟩ := d5.ex
  obtain ⟨f6, fd6, a6, F6⟩ := d6.ex
  obtain ⟨f7, fd7, a7, F7⟩ := d7.ex
  obtain ⟨f8, fd8, a8, F8⟩ := d8.ex
  obtain ⟨f9, fd9, a9, F9⟩ := d9.ex
  obtain ⟨f10, fd10, a10, F10⟩ := d10.ex
  obtain ⟨f11, fd11, a11, F11⟩ := d11.ex
  obtain ⟨f12, fd12, a12, F12⟩ := d12.ex
  obtain ⟨f13, fd13, a13, F13⟩ := d13.ex
  obtain ⟨f14, fd14, a14, F14⟩ := d14.ex
  obtain ⟨f15, fd15, a15, F15⟩ := d15.ex
  obtain ⟨f16, fd16, a16, F16⟩ := d16.ex
  obtain ⟨f17, fd17, a17, F17⟩ := d17.ex
  obtain ⟨f18, fd18, a18, F18⟩ := d18.ex
  obtain ⟨f19, fd19, a19, F19⟩ := d19.ex
  obtain ⟨f20, fd20, a20, F20⟩ := d20.ex
  obtain ⟨f21, fd21, a21, F21⟩ := d21.ex
  obtain ⟨f22, fd22, a22, F22⟩ := d22.ex
  have e := hfa.symm.trans (PySem.W.mg_of X G a22)
  cases e
  have B : Blt mg := ⟨PySem.W.mg_none_of X G z1, PySem.W.mg_none_of X G z2, PySem.W.mg_none_of X G z3, PySem.W.mg_none_of X G z4, PySem.W.mg_none_of X G z5, PySem.W.mg_none_of X G z6, PySem.W.mg_none_of X G z7, PySem.W.mg_none_of X G z8, PySem.W.mg_none_of X G z9⟩
  have T : Tell K mg C := ⟨PySem.W.mg_of X G eC, eX, eK, eB, eT, eI, eS⟩
  have hM' := PySem.W.mg_of X G hM
  have b1 := F1.binds (ps := ["row"]) fun _ _ _ _ _ _ us hl => match us, hl with | [_], _ => rfl
  have b2 := F2.binds (ps := ["tree", "place"]) fun _ _ _ _ _ _ us hl => match us, hl with | [_, _], _ => rfl
  have b3 := F3.binds (ps := ["tree"]) fun _ _ _ _ _ _ us hl => match us, hl with | [_], _ => rfl
  have b4 := F4.binds (ps := ["tree"]) fun _ _ _ _ _ _ us hl => match us, hl with | [_], _ => rfl
  have b5 := F5.binds (ps := ["tree"]) fun _ _ _ _ _ _ us hl => match us, hl with | [_], _ => rfl
  have b6 := F6.binds (ps := ["tree"]) fun _ _ _ _ _ _ us hl => match us, hl with | [_], _ => rfl
  have b7 := F7.binds (ps := ["tree"]) fun _ _ _ _ _ _ us hl => match us, hl with | [_], _ => rfl
  have b8 := F8.binds (ps := ["tree"]) fun _ _ _ _ _ _ us hl => match us, hl with | [_], _ => rfl
  have b9 := F9.binds (ps := ["drops"]) fun _ _ _ _ _ _ us hl => match us, hl with | [_], _ => rfl
  have b10 := F10.binds (ps := ["told"]) fun _ _ _ _ _ _ us hl => match us, hl with | [_], _ => rfl
  have b11 := F11.binds (ps := ["told"]) fun _ _ _ _ _ _ us hl => match us, hl with | [_], _ => rfl
  have b12 := F12.binds (ps := ["told"]) fun _ _ _ _ _ _ us hl => match us, hl with | [_], _ => rfl
  have b13 := F13.binds (ps := ["text"]) fun _ _ _ _ _ _ us hl => match us, hl with | [_], _ => rfl
  have b14 := F14.binds (ps := ["script", "k"]) fun _ _ _ _ _ _ us hl => match us, hl with | [_, _], _ => rfl
  have b15 := F15.binds (ps := ["pot", "many"]) fun _ _ _ _ _ _ us hl => match us, hl with | [_, _], _ => rfl
  have b16 := F16.binds (ps := ["code", "base", "many"]) fun _ _ _ _ _ _ us hl => match us, hl with | [_, _, _], _ => rfl
  have b17 := F17.binds (ps := ["base", "many"]) fun _ _ _ _ _ _ us hl => match us, hl with | [_, _], _ => rfl
  have b18 := F18.binds (ps := ["many"]) fun _ _ _ _ _ _ us hl => match us, hl with | [_], _ => rfl
  have b19 := F19.binds (ps := ["way", "told"]) fun _ _ _ _ _ _ us hl => match us, hl with | [_, _], _ => rfl
  have b20 := F20.binds (ps := ["many"]) fun _ _ _ _ _ _ us hl => match us, hl with | [_], _ => rfl
  have b21 := F21.binds (ps := ["pot"]) fun _ _ _ _ _ _ us hl => match us, hl with | [_], _ => rfl
  refine ⟨fd22, ?_, fun base _ _ => ?_⟩
  · obtain ⟨oc, od, kV, doc, pm, an, cdv, ct, osl, rfl, lk, hcd⟩ := F22.ex
    exact fun s v => .of_eq rfl
  · have C1 : Cal l.prog w K mg base CX0 1 "tree_of" ["row"] (spTreeOf K) := cal_mk X G a1 F1 b1 (ok_treeOf F1 B)
    have C2 : Cal l.prog w K mg base CX0 1 "way_up" ["tree", "place"] (spWay K) := cal_mk X G a2 F2 b2 (ok_wayUp F2 B)
    have C3 : Cal l.prog w K mg base CX0 2 "flat_numbers" ["tree"] (spFlat K) := cal_mk X G a3 F3 b3 (ok_flat F3 B C2)
    have C4 : Cal l.prog w K mg base CX0 3 "is_tree" ["tree"] (spIsTree K) := cal_mk X G a4 F4 b4 (ok_isTree F4 B hM' C3 C1)
    have C5 : Cal l.prog w K mg base CX0 4 "look_at_tree" ["tree"] (spLook K) := cal_mk X G a5 F5 b5 (ok_look F5 C4)
    have C6 : Cal l.prog w K mg base CX0 5 "flattest" ["tree"] (spFlattest K) := cal_mk X G a6 F6 b6 (ok_flattest F6 B C5 C3)
    have C7 : Cal l.prog w K mg base CX0 6 "drops_of" ["tree"] (spDropsOf K) := cal_mk X G a7 F7 b7 (ok_dropsOf F7 B C6)
    have C8 : Cal l.prog w K mg base CX0 7 "brackets_of" ["tree"] (spBrackets K) := cal_mk X G a8 F8 b8 (ok_brackets F8 B C7)
    have C9 : Cal l.prog w K mg base CX0 1 "hung" ["drops"] (spHung K) := cal_mk X G a9 F9 b9 (ok_hung F9 B)
    have C10 : Cal l.prog w K mg base (L2.CX l.prog w) 2 "by_drops" ["told"] (spByDrops K C) := cal_mk X G a10 F10 b10 (ok_byDrops F10 B hM' T C9)
    have C11 : Cal l.prog w K mg base CX0 1 "drops_by_distances" ["told"] (spDropsDist K) := cal_mk X G a11 F11 b11 (ok_dropsDist F11 B)
    have C12 : Cal l.prog w K mg base (L2.CX l.prog w) 2 "by_distances" ["told"] (spByDist K C) := cal_mk X G a12 F12 b12 (ok_byDist F12 B hM' T C11 C9)
    have C13 : Cal l.prog w K mg base (L2.CX l.prog w) 2 "by_brackets" ["text"] (spByBr C) := cal_mk X G a13 F13 b13 (ok_byBr F13 B hM' T C9)
    have C14 : Cal l.prog w K mg base CX0 1 "_law_pot" ["script", "k"] (spPot K) := cal_mk X G a14 F14 b14 (ok_pot F14 B)
    have C15 : Cal l.prog w K mg base CX0 1 "_law_take" ["pot", "many"] (spTake) := cal_mk X G a15 F15 b15 (ok_take F15)
    have C16 : Cal l.prog w K mg base CX0 1 "_law_digits" ["code", "base", "many"] (spDigits) := cal_mk X G a16 F16 b16 (ok_digits F16 B)
    have C17 : Cal l.prog w K mg base CX0 1 "_law_power" ["base", "many"] (spPower) := cal_mk X G a17 F17 b17 (ok_power F17 B)
    have C18 : Cal l.prog w K mg base CX0 1 "_law_many" ["many"] (spMany) := cal_mk X G a18 F18 b18 (ok_many F18 B)
    have C19 : Cal l.prog w K mg base CX0 3 "_law_led" ["way", "told"] (spLed K) := cal_mk X G a19 F19 b19 (ok_led F19 T C10 C12 C13)
    have C20 : Cal l.prog w K mg base CX0 4 "_law_counted" ["many"] (spCounted) := cal_mk X G a20 F20 b20 (ok_counted F20 B C17 C16 C18 C19 C4)
    have C21 : Cal l.prog w K mg base CX0 2 "_law_text" ["pot"] (spText) := cal_mk X G a21 F21 b21 (ok_text F21 B C15)
    exact ok_law F22 B C15 C14 C20 C21 C13 C8
end Dk

open PySem PySem.W PyProof.Rows
set_option maxHeartbeats 0 in
theorem PySem.Challenge.cw_dipkin_k14_whole_all_small_trees_holds : PySem.Challenge.rw_dipkin_k14_whole_all_small_trees.Holds := by
  w_on; o_law; k_head; (case hw => w_witness2)
  k_fill
  refine L2.walk_of (l := PySem.Challenge.rw_dipkin_k14_whole_all_small_trees) (n := 63) (k := 8) (x := "script") (CX := fun _ => L2.CX0) (sp := fun w => Dk.spLaw _) rfl (by decide) rfl ⟨rfl, by decide, by decide⟩ (fun w h Y => PySem.W.kIn_of Y) ?F (fun _ _ a ns hl _ hS => ⟨a, ns, rfl, hS, hl, fun _ => rfl⟩) (fun _ _ _ _ _ h => h)
  case F =>
    intro w mg fa h KX G hmg
    refine' Dk.all_mk KX G hmg (Dk.defAt ?a1 ?l1 ?c1 ?k1) (Dk.defAt ?a2 ?l2 ?c2 ?k2) (Dk.defAt ?a3 ?l3 ?c3 ?k3) (Dk.defAt ?a4 ?l4 ?c4 ?k4) (Dk.defAt ?a5 ?l5 ?c5 ?k5) (Dk.defAt ?a6 ?l6 ?c6 ?k6) (Dk.defAt ?a7 ?l7 ?c7 ?k7) (Dk.defAt ?a8 ?l8 ?c8 ?k8) (Dk.defAt ?a9 ?l9 ?c9 ?k9) (Dk.defAt ?a10 ?l10 ?c10 ?k10) (Dk.defAt ?a11 ?l11 ?c11 ?k11) (Dk.defAt ?a12 ?l12 ?c12 ?k12) (Dk.defAt ?a13 ?l13 ?c13 ?k13) (Dk.defAt ?a14 ?l14 ?c14 ?k14) (Dk.defAt ?a15 ?l15 ?c15 ?k15) (Dk.defAt ?a16 ?l16 ?c16 ?k16) (Dk.defAt ?a17 ?l17 ?c17 ?k17) (Dk.defAt ?a18 ?l18 ?c18 ?k18) (Dk.defAt ?a19 ?l19 ?c19 ?k19) (Dk.defAt ?a20 ?l20 ?c20 ?k20) (Dk.defAt ?a21 ?l21 ?c21 ?k21) (Dk.defAt ?a22 ?l22 ?c22 ?k22) ?hM ?eC ?eX ?eK ?eB ?eT ?eI ?eS ?z1 ?z2 ?z3 ?z4 ?z5 ?z6 ?z7 ?z8 ?z9
    (case a1 => k_is); (case l1 => k_is); (case c1 => k_is); (case k1 => k_is); (case a2 => k_is); (case l2 => k_is); (case c2 => k_is); (case k2 => k_is); (case a3 => k_is); (case l3 => k_is); (case c3 => k_is); (case k3 => k_is); (case a4 => k_is); (case l4 => k_is); (case c4 => k_is); (case k4 => k_is); (case a5 => k_is); (case l5 => k_is); (case c5 => k_is); (case k5 => k_is); (case a6 => k_is); (case l6 => k_is); (case c6 => k_is); (case k6 => k_is); (case a7 => k_is); (case l7 => k_is); (case c7 => k_is); (case k7 => k_is); (case a8 => k_is); (case l8 => k_is); (case c8 => k_is); (case k8 => k_is); (case a9 => k_is); (case l9 => k_is); (case c9 => k_is); (case k9 => k_is); (case a10 => k_is); (case l10 => k_is); (case c10 => k_is); (case k10 => k_is); (case a11 => k_is); (case l11 => k_is); (case c11 => k_is); (case k11 => k_is); (case a12 => k_is); (case l12 => k_is); (case c12 => k_is); (case k12 => k_is); (case a13 => k_is); (case l13 => k_is); (case c13 => k_is); (case k13 => k_is); (case a14 => k_is); (case l14 => k_is); (case c14 => k_is); (case k14 => k_is); (case a15 => k_is); (case l15 => k_is); (case c15 => k_is); (case k15 => k_is); (case a16 => k_is); (case l16 => k_is); (case c16 => k_is); (case k16 => k_is); (case a17 => k_is); (case l17 => k_is); (case c17 => k_is); (case k17 => k_is); (case a18 => k_is); (case l18 => k_is); (case c18 => k_is); (case k18 => k_is); (case a19 => k_is); (case l19 => k_is); (case c19 => k_is); (case k19 => k_is); (case a20 => k_is); (case l20 => k_is); (case c20 => k_is); (case k20 => k_is); (case a21 => k_is); (case l21 => k_is); (case c21 => k_is); (case k21 => k_is); (case a22 => k_is); (case l22 => k_is); (case c22 => k_is); (case k22 => k_is); (case hM => k_is); (case eC => k_is); (case eX => k_exc); (case eK => k_is); (case eB => k_is); (case eT => k_is); (case eI => k_is); (case eS => k_is); (case z1 => k_is); (case z2 => k_is); (case z3 => k_is); (case z4 => k_is); (case z5 => k_is); (case z6 => k_is); (case z7 => k_is); (case z8 => k_is); (case z9 => k_is)
