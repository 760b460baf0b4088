import PyProof.Rows.All
import Wide.All
import OpenK.AllK
import Wide.FinOn
import PyProof.EqAt
import PyProof.EqKinds
import PyProof.TupleCall
import Open.SpecLaws
import KE.OsGo
import KE.KDictKeyed
import KE.SortData
import HandS.ForSpec
import HandS.Comp
import HandS.Iter
import HandS.Dict
import HandS.Walk
import HandS.TupAny
import HandS.TupSets
import HandS.NoneIn
import HandS.Codes
import HandS.CallSlots
import KE.KDictZip
import PyProof.ZipIter
import PySem.Challenge.RW_bowlinghall_s01_answers
import KE.KTupSum
set_option Elab.async false
set_option linter.all false
set_option maxRecDepth 100000
set_option maxHeartbeats 4000000
/-! The mirror: what each def of the program computes, over plain lists. -/
namespace Bw
abbrev RL := List Nat
def b2n (b : Bool) : Nat := if b then 1 else 0
/-- how many rolls a tenth frame has in the end -/
def tenNeed (l : RL) : Nat := 2 + b2n (decide (10 ≤ (l.take 2).sum))
def sizeF (k : Nat) (l : RL) : Nat :=
  if k = 9 then min l.length (tenNeed l) else if l.take 1 = [10] then 1 else min l.length 2
def framesF : Nat → Nat → RL → List RL
  | 0, _, _ => []
  | n + 1, k, l => if l = [] then [] else l.take (sizeF k l) :: framesF n (k + 1) (l.drop (sizeF k l))
def framesOf (l : RL) : List RL := framesF l.length 0 l
def isOver (k : Nat) (f : RL) : Bool := if k = 9 then f.length == tenNeed f else (f.length == 2 || f == [10])
def overF : Nat → List RL → Nat
  | _, [] => 0
  | k, f :: r => b2n (isOver k f) + overF (k + 1) r
def framesOver (l : RL) : Nat := overF 0 (framesOf l)
def leftI (f : RL) : Int := f.foldl (fun (left : Int) (r : Nat) => if left - r = 0 then 10 else left - r) 10
def standI (l : RL) : Int := match (framesOf l).getLast? with
  | none => 10
  | some f => if isOver ((framesOf l).length - 1) f then 10 else leftI f
def countG (k : Nat) (f : RL) : Nat := if k = 9 then tenNeed f else if f.sum = 10 then 3 else 2
def scoreAt (all : RL) (k at_ : Nat) (f : RL) : Option Nat :=
  if isOver k f && ((all.drop at_).take (countG k f)).length == countG k f then some ((all.drop at_).take (countG k f)).sum else none
def scoresF (all : RL) : Nat → Nat → List RL → List (Option Nat)
  | _, _, [] => []
  | k, at_, f :: r => scoreAt all k at_ f :: scoresF all (k + 1) (at_ + f.length) r
def frameScores (l : RL) : List (Option Nat) := scoresF l 0 0 (framesOf l)
def scoreSum (l : RL) : Nat := ((frameScores l).map fun x => x.getD 0).sum

/-! ### the counter -/
structure CS where
  n : Nat
  f : RL
  m : Nat
  k : Nat
  deriving DecidableEq
def CS.zero : CS := ⟨0, [], 0, 0⟩
def strikeS (s : CS) (r : Nat) : Bool := decide (s.n < 9) && decide (s.f ++ [r] = [10])
def spareS (s : CS) (r : Nat) : Bool := decide (s.n < 9) && decide ((s.f ++ [r]).sum = 10)
def nextS (s : CS) (r : Nat) : CS :=
  if isOver s.n (s.f ++ [r]) then ⟨s.n + 1, [], s.k + b2n (strikeS s r || spareS s r), b2n (strikeS s r)⟩
  else ⟨s.n, s.f ++ [r], s.k + b2n (strikeS s r || spareS s r), b2n (strikeS s r)⟩
def startStep (x : CS × Nat) (r : Nat) : CS × Nat := (nextS x.1 r, x.2 + r * (1 + x.1.m))
def startF (l : RL) : CS × Nat := l.foldl startStep (CS.zero, 0)
abbrev D := List (Nat × Nat)
def getN (d : D) (k : Nat) : Nat := ((d.find? fun p => p.1 == k).map (·.2)).getD 0
def putN (d : D) (k v : Nat) : D := if (d.any fun p => p.1 == k) = true then d.map (fun p => if p.1 = k then (p.1, v) else p) else d ++ [(k, v)]
def addN (w : Nat) (d : D) (p : Nat × Nat) : D := putN d (w + p.1) (getN d (w + p.1) + p.2)
def mergeN (w : Nat) (found there : D) : D := there.foldl (addN w) found
def leftN (f : RL) : Nat := (leftI f).toNat
def endsD : Nat → CS → D
  | 0, _ => [(0, 1)]
  | n + 1, s => if s.n = 10 then [(0, 1)] else (List.range (leftN s.f + 1)).foldl (fun fd r => mergeN (r * (1 + s.m)) fd (endsD n (nextS s r))) []
/-- how many rolls may still come at most -/
def need (s : CS) : Nat := 3 * (10 - s.n) - s.f.length
def ends (s : CS) : D := endsD (need s) s
def waysD (l : RL) : D := (ends (startF l).1).map fun p => ((startF l).2 + p.1, p.2)

/-! ### groups -/
structure Grp where
  size : Nat
  shoes : Nat
  rolls : List RL
  turns : List Nat
  fin : List (List Nat)
  gone : Bool
  team : Option Nat
  counted : Nat
def Grp.new (size shoes : Nat) : Grp := ⟨size, shoes, List.replicate size [], [], [], false, none, 0⟩
def minL : List Nat → Nat
  | [] => 0
  | [a] => a
  | a :: b :: r => min a (minL (b :: r))
def Grp.overs (g : Grp) : List Nat := g.rolls.map framesOver
def Grp.turn (g : Grp) : Nat := g.overs.idxOf (minL g.overs)
def Grp.row (g : Grp) (p : Nat) : RL := g.rolls.getD p []
def Grp.standing (g : Grp) : Int := standI (g.row g.turn)
def Grp.isFull (g : Grp) : Bool := g.fin.length == 20
def Grp.put (g : Grp) (n : Nat) : List RL := g.rolls.set g.turn (g.row g.turn ++ [n])
def Grp.ends (g : Grp) (n : Nat) : Bool := minL ((g.put n).map framesOver) == 10
def Grp.roll (g : Grp) (n : Nat) : Grp :=
  if g.ends n then { g with rolls := List.replicate g.size [], turns := [], fin := g.fin ++ [(g.put n).map scoreSum] }
  else { g with rolls := g.put n, turns := g.turns ++ [g.turn] }
def Grp.last (g : Grp) : Nat := g.turns.getLastD 0
def Grp.undo (g : Grp) : Grp := { g with rolls := g.rolls.set g.last (g.row g.last).dropLast, turns := g.turns.dropLast }
def Grp.begun (g : Grp) : Nat := (g.rolls.filter fun r => decide (0 < r.length)).length
def Grp.bill (g : Grp) (price lend : Nat) : Nat := price * (g.size * g.fin.length + g.begun) + lend * g.shoes
def Grp.become (g : Grp) (t : Nat) : Grp := { g with team := some t, counted := g.fin.length }
def Grp.hasMatch (g : Grp) : Bool := decide (g.counted + 3 ≤ g.fin.length)
def Grp.matchRows (g : Grp) : List (List Nat) := (List.range g.size).map fun p => ((g.fin.drop g.counted).take 3).map fun x => x.getD p 0
def Grp.take3 (g : Grp) : Grp := { g with counted := g.counted + 3 }

/-! ### the league -/
structure Tm where
  points : Nat
  scores : List (List Nat)
def Tm.new : Tm := ⟨0, List.replicate 3 []⟩
def Tm.row (t : Tm) (p : Nat) : List Nat := t.scores.getD p []
def Tm.average (t : Tm) (p : Nat) : Nat := if (t.row p).length = 0 then 0 else (t.row p).sum / (t.row p).length
def Tm.pins (t : Tm) : Nat := (t.scores.map List.sum).sum
structure Lg where
  teams : List Tm
  base : Nat
  percent : Nat
  played : Nat
def Lg.new (teams base percent : Nat) : Lg := ⟨List.replicate teams Tm.new, base, percent, 0⟩
def Lg.tm (q : Lg) (t : Nat) : Tm := q.teams.getD t Tm.new
def Lg.allowance (q : Lg) (t p : Nat) : Nat := if ((q.tm t).row p).length = 0 then 0 else (q.base - (q.tm t).average p) * q.percent / 100
def Lg.more (q : Lg) (t : Nat) : Nat := ((List.range 3).map fun p => q.allowance t p).sum
def Lg.totals (q : Lg) (t : Nat) (rows : List (List Nat)) : List Nat := (List.range 3).map fun i => q.more t + (rows.map fun r => r.getD i 0).sum
def ptsFor (x y : Nat) : Nat × Nat := if x = y then (1, 1) else (2 * b2n (decide (y < x)), 2 * b2n (decide (x < y)))
def ptsStep (z : Nat × Nat) (xy : Nat × Nat) : Nat × Nat := (z.1 + (ptsFor xy.1 xy.2).1, z.2 + (ptsFor xy.1 xy.2).2)
def ptsOf (a b : List Nat) : Nat × Nat := ((a.zip b) ++ [(a.sum, b.sum)]).foldl ptsStep (0, 0)
def Tm.put (t : Tm) (rows : List (List Nat)) (pts : Nat) : Tm := ⟨t.points + pts, (List.range 3).map fun p => t.row p ++ rows.getD p []⟩
def Lg.put (q : Lg) (t : Nat) (rows : List (List Nat)) (pts : Nat) : Lg := { q with teams := q.teams.set t ((q.tm t).put rows pts) }
def Lg.pts (q : Lg) (a b : Nat) (x y : List (List Nat)) : Nat × Nat := ptsOf (q.totals a x) (q.totals b y)
def Lg.play (q : Lg) (a b : Nat) (x y : List (List Nat)) : Lg :=
  { (q.put a x (q.pts a b x y).1).put b y (q.pts a b x y).2 with played := q.played + 1 }
/-- the rows that are sorted: minus points, minus pins, the number -/
def rowFrom : Nat → List Tm → List (Int × Int × Int)
  | _, [] => []
  | i, t :: r => (-(t.points : Int), -(t.pins : Int), (i : Int)) :: rowFrom (i + 1) r
def rowLe (x y : Int × Int × Int) : Bool := decide (x.1 < y.1) || (x.1 == y.1 && (decide (x.2.1 < y.2.1) || (x.2.1 == y.2.1 && decide (x.2.2 ≤ y.2.2))))
def rowPut (x : Int × Int × Int) : List (Int × Int × Int) → List (Int × Int × Int)
  | [] => [x]
  | y :: l => if rowLe x y then x :: y :: l else y :: rowPut x l
def rowSort (l : List (Int × Int × Int)) : List (Int × Int × Int) := l.foldr rowPut []
def Lg.order (q : Lg) : List Int := (rowSort (rowFrom 0 q.teams)).map fun r => r.2.2

/-! ### the hall -/
structure Hl where
  price : Nat
  lend : Nat
  owners : List (Option Nat)
  broken : List Bool
  groups : List Grp
  line : List Nat
  taken : Nat
  league : Lg
def Hl.new (lanes price lend teams base percent : Nat) : Hl := ⟨price, lend, List.replicate lanes none, List.replicate lanes false, [], [], 0, Lg.new teams base percent⟩
def okNew (lanes price lend teams base percent : Nat) : Bool :=
  (decide (1 ≤ lanes) && decide (lanes ≤ 8) && decide (price ≤ 10000) && decide (lend ≤ 10000)) && (decide (2 ≤ teams) && decide (teams ≤ 8) && decide (100 ≤ base) && decide (base ≤ 300)) && decide (percent ≤ 100)
def Hl.grp (h : Hl) (g : Nat) : Grp := h.groups.getD g (Grp.new 0 0)
def Hl.owner (h : Hl) (k : Nat) : Option Nat := h.owners.getD k none
def Hl.isBroken (h : Hl) (k : Nat) : Bool := h.broken.getD k false
def Hl.freeLanes (h : Hl) : List Nat := (List.range h.owners.length).filter fun k => (h.owner k).isNone && !h.isBroken k
def giveStep (x : List (Option Nat) × List Nat) (k : Nat) : List (Option Nat) × List Nat := match x.2 with
  | [] => x
  | g :: r => (x.1.set k (some g), r)
def Hl.give (h : Hl) : Hl := { h with owners := (h.freeLanes.foldl giveStep (h.owners, h.line)).1, line := (h.freeLanes.foldl giveStep (h.owners, h.line)).2 }
def Hl.come (h : Hl) (size shoes : Nat) : Hl := Hl.give { h with groups := h.groups ++ [Grp.new size shoes], line := h.line ++ [h.groups.length] }
def Hl.laneOf (h : Hl) (g : Nat) : Option Nat := if some g ∈ h.owners then some (h.owners.idxOf (some g)) else none
def Hl.setGrp (h : Hl) (g : Nat) (x : Grp) : Hl := { h with groups := h.groups.set g x }
def Hl.bill (h : Hl) (g : Nat) : Nat := (h.grp g).bill h.price h.lend
def Hl.left (h : Hl) (g : Nat) : Hl := match h.laneOf g with
  | some k => { h with owners := h.owners.set k none }
  | none => h
def Hl.go (h : Hl) (g : Nat) : Hl :=
  Hl.give (Hl.left { h.setGrp g { h.grp g with gone := true } with taken := h.taken + h.bill g, line := h.line.filter fun j => j != g } g)
def Hl.setBroken (h : Hl) (k : Nat) (b : Bool) : Hl :=
  Hl.give (match b, h.owner k with
    | true, some g => { h with broken := h.broken.set k b, line := g :: h.line, owners := h.owners.set k none }
    | _, _ => { h with broken := h.broken.set k b })
def Hl.teamTaken (h : Hl) (t : Nat) : Bool := h.groups.any fun x => !x.gone && x.team == some t

/-! ### the calls: a refusal, or the numbers answered and the hall behind it -/
abbrev Res := Except Int (List Int)
def iL (l : List Nat) : List Int := l.map fun (x : Nat) => (x : Int)
def isHere (h : Hl) (g : Nat) : Bool := decide (g < h.groups.length) && !(h.grp g).gone
/-- of the group on a lane: its number, or the refusal -/
def onLane (h : Hl) (k : Nat) : Except Int Nat := if k < h.owners.length then (match h.owner k with
  | some g => .ok g
  | none => .error (-6)) else .error (-2)
def player (h : Hl) (g p : Nat) : Except Int RL := if g < h.groups.length then (if p < (h.grp g).size then .ok ((h.grp g).row p) else .error (-2)) else .error (-2)
def knownOf (l : RL) : List Nat := ((frameScores l).filter fun x => x.isSome).map fun x => x.getD 0
def frameAns (l : RL) (k : Nat) : Except Int (List Int) := if k < 10 then (match (frameScores l)[k]? with
  | some (some n) => .ok [(n : Int)]
  | _ => .error (-61)) else .error (-22)
def keysOf (d : D) : List Nat := d.map (·.1)
def maxL (l : List Nat) : Nat := l.foldl max 0
/-- the calls that read -/
def readAns (h : Hl) : Nat → List Nat → Except Int (List Int)
  | 5, _ => .ok (iL (h.line.length :: h.line))
  | 6, [k] => if k < h.owners.length then .ok [if h.isBroken k then 1 else 0, match h.owner k with
    | some g => (g : Int) + 1
    | none => 0] else .error (-2)
  | 7, [g] => if g < h.groups.length then .ok (if (h.grp g).gone then [2, 0] else match h.laneOf g with
    | some k => [1, (k : Int)]
    | none => [0, (h.line.idxOf g : Nat)]) else .error (-2)
  | 10, [k] => match onLane h k with
    | .error e => .error e
    | .ok g => .ok [((h.grp g).turn : Int), (h.grp g).standing]
  | 11, [g, p] => match player h g p with
    | .error e => .error e
    | .ok l => .ok [((knownOf l).sum : Int), ((knownOf l).length : Int)]
  | 12, [g, p, k] => match player h g p with
    | .error e => .error e
    | .ok l => frameAns l k
  | 13, [g, p] => match player h g p with
    | .error e => .error e
    | .ok l => .ok [(minL (keysOf (waysD l)) : Int), (maxL (keysOf (waysD l)) : Int)]
  | 14, [g, p, s] => match player h g p with
    | .error e => .error e
    | .ok l => if s ≤ 300 then .ok [0, (getN (waysD l) s : Int)] else .error (-22)
  | 15, [g] => if g < h.groups.length then .ok [((h.grp g).fin.length : Int)] else .error (-2)
  | 16, [g, i, p] => match player h g p with
    | .error e => .error e
    | .ok _ => if i < (h.grp g).fin.length then .ok [(((h.grp g).fin.getD i []).getD p 0 : Nat)] else .error (-61)
  | 17, [g] => if isHere h g then .ok [(h.bill g : Int)] else .error (-2)
  | 18, _ => .ok [(h.taken : Int)]
  | 20, [t, p] => if t < h.league.teams.length then (if p < 3 then .ok [((h.league.tm t).average p : Int), (((h.league.tm t).row p).length : Int)] else .error (-2)) else .error (-2)
  | 21, [t, p] => if t < h.league.teams.length then (if p < 3 then .ok [(h.league.allowance t p : Int)] else .error (-2)) else .error (-2)
  | 22, [t] => if t < h.league.teams.length then .ok [((h.league.tm t).points : Int), ((h.league.tm t).pins : Int)] else .error (-2)
  | 23, _ => .ok ((h.league.teams.length : Int) :: h.league.order)
  | 24, _ => .ok [(h.line.length : Int), (h.groups.length : Int), (h.freeLanes.length : Int), (h.league.played : Int)]
  | _, _ => .ok []
/-- the calls that change the hall -/
def actAns (h : Hl) : Nat → List Nat → Except Int (Hl × List Int)
  | 1, [n, s] => if 1 ≤ n ∧ n ≤ 6 ∧ s ≤ n then (if h.groups.length < 60 then .ok (h.come n s, [(h.groups.length : Int)]) else .error (-28)) else .error (-22)
  | 2, [g, t] => if isHere h g then (if t < h.league.teams.length then (if (h.grp g).size = 3 then (if (h.grp g).team.isNone && !h.teamTaken t then .ok (h.setGrp g ((h.grp g).become t), [0]) else .error (-17)) else .error (-34)) else .error (-22)) else .error (-2)
  | 3, [g] => if isHere h g then .ok (h.go g, [(h.bill g : Int)]) else .error (-2)
  | 4, [k, o] => if k < h.owners.length then (if o ≤ 1 then (if h.isBroken k != (o == 1) then .ok (h.setBroken k (o == 1), [0]) else .error (-17)) else .error (-22)) else .error (-2)
  | 8, [k, n] => match onLane h k with
    | .error e => .error e
    | .ok g => if (n : Int) ≤ (h.grp g).standing then (if (h.grp g).isFull then .error (-28) else .ok (h.setGrp g ((h.grp g).roll n), [((h.grp g).turn : Int), (((h.grp g).roll n).turn : Int), (((h.grp g).roll n).fin.length : Int)])) else .error (-22)
  | 9, [k] => match onLane h k with
    | .error e => .error e
    | .ok g => if (h.grp g).turns = [] then .error (-61) else .ok (h.setGrp g (h.grp g).undo, [((h.grp g).last : Int), (((h.grp g).row (h.grp g).last).getLastD 0 : Nat)])
  | 19, [a, b] => if isHere h a then (if isHere h b then (match (h.grp a).team, (h.grp b).team with
      | some t, some u => if a = b then .error (-22) else if (h.grp a).hasMatch && (h.grp b).hasMatch then (if h.league.played < 200 then
          .ok ({ (h.setGrp a (h.grp a).take3).setGrp b (h.grp b).take3 with league := h.league.play t u (h.grp a).matchRows (h.grp b).matchRows },
            [((h.league.pts t u (h.grp a).matchRows (h.grp b).matchRows).1 : Int), ((h.league.pts t u (h.grp a).matchRows (h.grp b).matchRows).2 : Int)])
          else .error (-28)) else .error (-61)
      | _, _ => .error (-34)) else .error (-2)) else .error (-2)
  | c, l => match readAns h c l with
    | .error e => .error e
    | .ok a => .ok (h, a)
def startAns : List Nat → Except Int Hl
  | [l, p, d, t, b, r] => if okNew l p d t b r then .ok (Hl.new l p d t b r) else .error (-22)
  | _ => .error (-22)
/-- one call at the desk -/
def desk (s : Option Hl) (c : Nat) (l : List Nat) : Option Hl × List Int :=
  if c = 0 then (match startAns l with
    | .ok h => (some h, [0])
    | .error e => (s, [e]))
  else match s with
    | none => (none, [])
    | some h => (match actAns h c l with
      | .ok (h', a) => (some h', a)
      | .error e => (some h, [e]))
end Bw

namespace Bw
theorem foldl_add_nat : ∀ (l : List Nat) (a : Nat), l.foldl (· + ·) a = a + l.sum
  | [], a => by simp
  | x :: l, a => by rw [List.foldl_cons, foldl_add_nat l, List.sum_cons]; omega
theorem ksum (l : List Nat) : Kyp1.sum l = l.sum := by
  unfold Kyp1.sum; rw [foldl_add_nat]; omega

def okTen : RL → Bool
  | [] => true
  | [a] => decide (a ≤ 10)
  | [a, b] => if a = 10 then decide (b ≤ 10) else decide (a + b ≤ 10)
  | [a, b, c] => if a = 10 then (if b = 10 then decide (c ≤ 10) else decide (b + c ≤ 10)) else decide (a + b = 10) && decide (c ≤ 10)
  | _ => false
/-- rolls such as may be, of a game with so many frames left -/
def okRow : Nat → RL → Bool
  | 0, l => l.isEmpty
  | 1, l => okTen l
  | _ + 2, [] => true
  | _ + 2, [a] => decide (a ≤ 10)
  | m + 2, a :: b :: r => if a = 10 then okRow (m + 1) (b :: r) else decide (a + b ≤ 10) && okRow (m + 1) r
abbrev okR (l : RL) : Prop := okRow 10 l = true

def runS (s : CS) (l : RL) : CS := l.foldl nextS s
theorem runS_nil (s : CS) : runS s [] = s := rfl
theorem runS_cons (s : CS) (a : Nat) (l : RL) : runS s (a :: l) = runS (nextS s a) l := rfl
theorem runS_append (s : CS) (l r : RL) : runS s (l ++ r) = runS (runS s l) r := by unfold runS; rw [List.foldl_append]
theorem startF_fst_from : ∀ (l : RL) (x : CS × Nat), (l.foldl startStep x).1 = runS x.1 l
  | [], _ => rfl
  | a :: l, x => by rw [List.foldl_cons, startF_fst_from l]; rfl
theorem startF_fst (l : RL) : (startF l).1 = runS CS.zero l := startF_fst_from l _

theorem tenNeed_one (a : Nat) (h : a ≤ 10) : tenNeed [a] = 2 ∨ tenNeed [a] = 3 := by
  unfold tenNeed b2n; split <;> simp
theorem isOver9_one (a : Nat) : isOver 9 [a] = false := by
  unfold isOver tenNeed b2n; simp; split <;> omega
theorem isOver9_two (a b : Nat) : isOver 9 [a, b] = decide (a + b < 10) := by
  unfold isOver tenNeed b2n
  simp only [if_pos]
  by_cases h : 10 ≤ a + b
  · have h2 : ¬ a + b < 10 := by omega
    simp [h, h2]
  · have h2 : a + b < 10 := by omega
    simp [h, h2]
theorem isOver9_three (a b c : Nat) (h : 10 ≤ a + b) : isOver 9 [a, b, c] = true := by
  unfold isOver tenNeed b2n
  simp [h]
theorem isOver_one {k a : Nat} (hk : k ≠ 9) : isOver k [a] = decide (a = 10) := by
  unfold isOver; rw [if_neg hk]; simp
  by_cases h : a = 10 <;> simp [h]
theorem isOver_two {k a b : Nat} (hk : k ≠ 9) : isOver k [a, b] = true := by
  unfold isOver; rw [if_neg hk]; simp
theorem isOver_nil (k : Nat) : isOver k [] = false := by
  unfold isOver tenNeed b2n
  split <;> simp

/-! ### the frames -/
theorem sizeF_pos {k : Nat} {l : RL} (h : l ≠ []) : 1 ≤ sizeF k l := by
  have hl : 1 ≤ l.length := by cases l <;> simp_all
  unfold sizeF tenNeed
  split
  · omega
  · split <;> omega
theorem framesF_nil (n k : Nat) : framesF n k [] = [] := by cases n <;> simp [framesF]
theorem framesF_ok : ∀ (m k : Nat) (l : RL) (n : Nat), k + m = 10 → 1 ≤ m → okRow m l = true → l.length ≤ n → framesF n k l = Kyp1.frames m l
  | 0, _, _, _, _, h, _, _ => by omega
  | 1, k, l, n, hk, _, ho, hn => by
    have hk9 : k = 9 := by omega
    subst hk9
    cases l with
    | nil => simp [framesF_nil, Kyp1.frames]
    | cons a l =>
      cases n with
      | zero => simp at hn
      | succ n =>
        have hs : sizeF 9 (a :: l) = (a :: l).length := by
          unfold sizeF tenNeed b2n
          rw [if_pos rfl]
          match l, ho with
          | [], _ => simp; split <;> omega
          | [b], _ => simp
          | [b, c], ho =>
            have h10 : 10 ≤ a + b := by
              simp only [okRow, okTen] at ho
              split at ho
              · omega
              · simp at ho; omega
            simp [h10]
          | b :: c :: d :: r, ho => simp [okRow, okTen] at ho
        simp only [framesF]
        rw [if_neg (by simp), hs, List.take_length, List.drop_length, framesF_nil]
        simp [Kyp1.frames]
  | m + 2, k, l, n, hk, _, ho, hn => by
    have hk9 : k ≠ 9 := by omega
    match l, n, ho, hn with
    | [], n, _, _ => simp [framesF_nil, Kyp1.frames]
    | _ :: _, 0, _, hn => simp at hn
    | [a], n + 1, ho, hn =>
      have hs : sizeF k [a] = 1 := by
        unfold sizeF; rw [if_neg hk9]; split <;> simp
      simp only [framesF]
      rw [if_neg (by simp), hs]
      simp [framesF_nil, Kyp1.frames]
    | a :: b :: r, n + 1, ho, hn =>
      simp only [okRow] at ho
      simp only [framesF]
      rw [if_neg (by simp)]
      by_cases ha : a = 10
      · rw [if_pos ha] at ho
        have hs : sizeF k (a :: b :: r) = 1 := by
          unfold sizeF; rw [if_neg hk9, if_pos (by simp [ha])]
        rw [hs]
        have ih := framesF_ok (m + 1) (k + 1) (b :: r) n (by omega) (by omega) ho (by simp at hn ⊢; omega)
        simp only [List.take_succ_cons, List.take_zero, List.drop_succ_cons, List.drop_zero]
        rw [ih]
        simp [Kyp1.frames, ha]
      · rw [if_neg ha] at ho
        have hs : sizeF k (a :: b :: r) = 2 := by
          unfold sizeF; rw [if_neg hk9, if_neg (by simp [ha])]; simp
        rw [hs]
        have ih := framesF_ok (m + 1) (k + 1) r n (by omega) (by omega) (by simp at ho; exact ho.2) (by simp at hn ⊢; omega)
        simp only [List.take_succ_cons, List.take_zero, List.drop_succ_cons, List.drop_zero]
        rw [ih]
        simp [Kyp1.frames, ha]
theorem framesOf_ok {l : RL} (h : okR l) : framesOf l = Kyp1.frames 10 l := framesF_ok 10 0 l _ rfl (by omega) h (Nat.le_refl _)

/-! ### where a game stands -/
structure PosOk (k : Nat) (fs : List RL) (e : CS) : Prop where
  over : overF k fs + k = e.n
  begun : fs.length + k = e.n + (if e.f = [] then 0 else 1)
  last : e.f ≠ [] → fs.getLast? = some e.f
  lastO : e.f = [] → ∀ f, fs.getLast? = some f → isOver (fs.length - 1 + k) f = true
  top : e.n ≤ 10
  tn : e.n = 10 → e.f = []
  part : e.f ≠ [] → isOver e.n e.f = false
theorem overF_cons (k : Nat) (f : RL) (r : List RL) : overF k (f :: r) = b2n (isOver k f) + overF (k + 1) r := rfl
theorem pos_one {k : Nat} {f : RL} {s : CS} (hf : f ≠ []) (h : s = (if isOver k f then ⟨k + 1, [], s.m, s.k⟩ else ⟨k, f, s.m, s.k⟩)) (hk : k < 10) : PosOk k [f] s := by
  by_cases c : isOver k f = true
  · rw [if_pos c] at h
    have hn : s.n = k + 1 := by rw [h]
    have he : s.f = [] := by rw [h]
    refine ⟨?_, ?_, ?_, ?_, ?_, ?_, ?_⟩
    · rw [overF_cons, c, hn]; simp [b2n, overF]; omega
    · rw [he, hn]; simp; omega
    · intro q; exact absurd he q
    · intro _ g hg
      simp at hg
      subst hg
      simpa using c
    · omega
    · intro _; exact he
    · intro q; exact absurd he q
  · rw [if_neg c] at h
    have hn : s.n = k := by rw [h]
    have he : s.f = f := by rw [h]
    have c' : isOver k f = false := by simpa using c
    refine ⟨?_, ?_, ?_, ?_, ?_, ?_, ?_⟩
    · rw [overF_cons, c', hn]; simp [b2n, overF]
    · rw [he, hn, if_neg hf]; simp; omega
    · intro _; rw [he]; rfl
    · intro q; exact absurd (he.symm.trans q) hf
    · omega
    · intro q; omega
    · intro _; rw [he, hn]; exact c'
theorem pos_cons {k : Nat} {f : RL} {fs : List RL} {e : CS} (c : isOver k f = true) (h : PosOk (k + 1) fs e) : PosOk k (f :: fs) e := by
  obtain ⟨h1, h2, h3, h4, h5, h6, h7⟩ := h
  refine ⟨?_, ?_, ?_, ?_, h5, h6, h7⟩
  · rw [overF_cons, c]
    have : b2n true = 1 := rfl
    omega
  · rw [List.length_cons]; omega
  · intro q
    have := h3 q
    cases fs with
    | nil => simp at this
    | cons g r => rw [List.getLast?_cons_cons]; exact this
  · intro q g hg
    cases fs with
    | nil =>
      simp at hg
      subst hg
      simpa using c
    | cons g' r =>
      rw [List.getLast?_cons_cons] at hg
      have := h4 q g hg
      rw [show (f :: g' :: r).length - 1 + k = (g' :: r).length - 1 + (k + 1) by simp; omega]
      exact this
theorem nextS_form (s : CS) (a : Nat) : nextS s a = (if isOver s.n (s.f ++ [a]) then ⟨s.n + 1, [], (nextS s a).m, (nextS s a).k⟩ else ⟨s.n, s.f ++ [a], (nextS s a).m, (nextS s a).k⟩) := by
  unfold nextS
  split <;> rfl
theorem nextS_over {s : CS} {a : Nat} (h : isOver s.n (s.f ++ [a]) = true) : (nextS s a).n = s.n + 1 ∧ (nextS s a).f = [] := by
  unfold nextS; rw [if_pos h]; exact ⟨rfl, rfl⟩
theorem nextS_part {s : CS} {a : Nat} (h : isOver s.n (s.f ++ [a]) = false) : (nextS s a).n = s.n ∧ (nextS s a).f = s.f ++ [a] := by
  unfold nextS; rw [if_neg (by simp [h])]; exact ⟨rfl, rfl⟩
theorem pos_ok : ∀ (m k : Nat) (l : RL) (s : CS), k + m = 10 → 1 ≤ m → okRow m l = true → s.n = k → s.f = [] → PosOk k (Kyp1.frames m l) (runS s l)
  | 0, _, _, _, _, h, _, _, _ => by omega
  | 1, k, l, s, hk, _, ho, hn, hf => by
    have hk9 : k = 9 := by omega
    subst hk9
    match l, ho with
    | [], _ =>
      refine ⟨?_, ?_, ?_, ?_, ?_, ?_, ?_⟩ <;> simp [runS, Kyp1.frames, overF, hn, hf]
    | [a], _ =>
      have q := nextS_form s a
      rw [hn, hf] at q
      exact pos_one (by simp) q (by omega)
    | [a, b], _ =>
      have p1 := nextS_part (s := s) (a := a) (by rw [hn, hf]; exact isOver9_one a)
      have q := nextS_form (nextS s a) b
      rw [p1.1, p1.2, hn, hf] at q
      exact pos_one (f := [a, b]) (by simp) q (by omega)
    | [a, b, c], ho =>
      have h10 : 10 ≤ a + b := by
        simp only [okRow, okTen] at ho
        split at ho
        · omega
        · simp at ho; omega
      have p1 := nextS_part (s := s) (a := a) (by rw [hn, hf]; exact isOver9_one a)
      have p2 := nextS_part (s := nextS s a) (a := b) (by
        rw [p1.1, p1.2, hn, hf]
        show isOver 9 [a, b] = false
        rw [isOver9_two]; simp; omega)
      have q := nextS_form (nextS (nextS s a) b) c
      rw [p2.1, p2.2, p1.1, p1.2, hn, hf] at q
      exact pos_one (f := [a, b, c]) (by simp) q (by omega)
    | a :: b :: c :: d :: r, ho => simp [okRow, okTen] at ho
  | m + 2, k, l, s, hk, _, ho, hn, hf => by
    have hk9 : k ≠ 9 := by omega
    match l, ho with
    | [], _ =>
      refine ⟨?_, ?_, ?_, ?_, ?_, ?_, ?_⟩ <;> simp [runS, Kyp1.frames, overF, hn, hf]
      omega
    | [a], ho =>
      have q := nextS_form s a
      rw [hn, hf] at q
      exact pos_one (f := [a]) (by simp) q (by omega)
    | a :: b :: r, ho =>
      simp only [okRow] at ho
      by_cases ha : a = 10
      · rw [if_pos ha] at ho
        have c1 : isOver k [a] = true := by rw [isOver_one hk9]; simp [ha]
        have p1 := nextS_over (s := s) (a := a) (by rw [hn, hf]; exact c1)
        have ih := pos_ok (m + 1) (k + 1) (b :: r) (nextS s a) (by omega) (by omega) ho (by rw [p1.1, hn]) p1.2
        rw [runS_cons, show Kyp1.frames (m + 2) (a :: b :: r) = [a] :: Kyp1.frames (m + 1) (b :: r) by simp [Kyp1.frames, ha]]
        exact pos_cons c1 ih
      · rw [if_neg ha] at ho
        have c1 : isOver k [a] = false := by rw [isOver_one hk9]; simp [ha]
        have p1 := nextS_part (s := s) (a := a) (by rw [hn, hf]; exact c1)
        have p2 := nextS_over (s := nextS s a) (a := b) (by rw [p1.1, p1.2, hn, hf]; exact isOver_two hk9)
        simp at ho
        have ih := pos_ok (m + 1) (k + 1) r (nextS (nextS s a) b) (by omega) (by omega) ho.2 (by rw [p2.1, p1.1, hn]) p2.2
        rw [runS_cons, runS_cons, show Kyp1.frames (m + 2) (a :: b :: r) = [a, b] :: Kyp1.frames (m + 1) r by simp [Kyp1.frames, ha]]
        exact pos_cons (isOver_two hk9) ih
theorem posOk {l : RL} (h : okR l) : PosOk 0 (Kyp1.frames 10 l) (runS CS.zero l) := pos_ok 10 0 l CS.zero rfl (by omega) h rfl rfl

/-- one more roll -/
theorem okRow_snoc : ∀ (m k : Nat) (l : RL) (s : CS) (n : Nat), k + m = 10 → 1 ≤ m → okRow m l = true → s.n = k → s.f = [] → (runS s l).n < 10 → n ≤ leftN (runS s l).f → okRow m (l ++ [n]) = true
  | 0, _, _, _, _, _, h, _, _, _, _, _ => by omega
  | 1, k, l, s, n, hk, _, ho, hn, hf, h10, hl => by
    have hk9 : k = 9 := by omega
    subst hk9
    match l, ho with
    | [], _ =>
      rw [runS_nil, hf] at hl
      simp [leftN, leftI] at hl
      simp [okRow, okTen, hl]
    | [a], ho =>
      have p1 := nextS_part (s := s) (a := a) (by rw [hn, hf]; exact isOver9_one a)
      rw [runS_cons, runS_nil, p1.2, hf] at hl
      simp [okRow, okTen] at ho ⊢
      simp [leftN, leftI] at hl
      by_cases ha : a = 10
      · subst ha
        simp at hl ⊢
        omega
      · have e : ¬ ((10 : Int) - (a : Int) = 0) := by omega
        simp [e] at hl
        simp [ha]; omega
    | [a, b], ho =>
      have p1 := nextS_part (s := s) (a := a) (by rw [hn, hf]; exact isOver9_one a)
      by_cases c : a + b < 10
      · have p2 := nextS_over (s := nextS s a) (a := b) (by
          rw [p1.1, p1.2, hn, hf]
          show isOver 9 [a, b] = true
          rw [isOver9_two]; simp [c])
        rw [runS_cons, runS_cons, runS_nil, p2.1, p1.1, hn] at h10
        omega
      · have p2 := nextS_part (s := nextS s a) (a := b) (by
          rw [p1.1, p1.2, hn, hf]
          show isOver 9 [a, b] = false
          rw [isOver9_two]; simp [c])
        rw [runS_cons, runS_cons, runS_nil, p2.2, p1.2, hf] at hl
        simp only [okRow, okTen] at ho
        simp only [List.cons_append, List.nil_append, okRow, okTen]
        simp [leftN, leftI] at hl
        by_cases ha : a = 10
        · subst ha
          simp at ho hl ⊢
          by_cases hb : b = 10
          · subst hb
            simp at hl ⊢; omega
          · have e : ¬ ((10 : Int) - (b : Int) = 0) := by omega
            simp [e] at hl
            simp [hb]; omega
        · simp [ha] at ho ⊢
          have e : ¬ ((10 : Int) - (a : Int) = 0) := by omega
          have e2 : (10 : Int) - (a : Int) - (b : Int) = 0 := by omega
          simp [e, e2] at hl
          omega
    | [a, b, c], ho =>
      have h10' : 10 ≤ a + b := by
        simp only [okRow, okTen] at ho
        split at ho
        · omega
        · simp at ho; omega
      have p1 := nextS_part (s := s) (a := a) (by rw [hn, hf]; exact isOver9_one a)
      have p2 := nextS_part (s := nextS s a) (a := b) (by
        rw [p1.1, p1.2, hn, hf]
        show isOver 9 [a, b] = false
        rw [isOver9_two]; simp; omega)
      have p3 := nextS_over (s := nextS (nextS s a) b) (a := c) (by
        rw [p2.1, p2.2, p1.1, p1.2, hn, hf]
        exact isOver9_three a b c h10')
      rw [runS_cons, runS_cons, runS_cons, runS_nil, p3.1, p2.1, p1.1, hn] at h10
      omega
    | a :: b :: c :: d :: r, ho => simp [okRow, okTen] at ho
  | m + 2, k, l, s, n, hk, _, ho, hn, hf, h10, hl => by
    have hk9 : k ≠ 9 := by omega
    match l, ho with
    | [], _ =>
      rw [runS_nil, hf] at hl
      simp [leftN, leftI] at hl
      simp [okRow, hl]
    | [a], ho =>
      simp [okRow] at ho
      simp only [List.cons_append, List.nil_append, okRow]
      by_cases ha : a = 10
      · have c1 : isOver k [a] = true := by rw [isOver_one hk9]; simp [ha]
        have p1 := nextS_over (s := s) (a := a) (by rw [hn, hf]; exact c1)
        rw [runS_cons, runS_nil, p1.2] at hl
        simp [leftN, leftI] at hl
        rw [if_pos ha]
        cases m with
        | zero => simp [okRow, okTen, hl]
        | succ m => simp [okRow, hl]
      · have c1 : isOver k [a] = false := by rw [isOver_one hk9]; simp [ha]
        have p1 := nextS_part (s := s) (a := a) (by rw [hn, hf]; exact c1)
        rw [runS_cons, runS_nil, p1.2, hf] at hl
        simp [leftN, leftI] at hl
        have e : ¬ ((10 : Int) - (a : Int) = 0) := by omega
        simp [e] at hl
        rw [if_neg ha]
        have : okRow (m + 1) [] = true := by cases m <;> rfl
        rw [this]
        simp; omega
    | a :: b :: r, ho =>
      simp only [okRow] at ho
      simp only [List.cons_append, okRow]
      by_cases ha : a = 10
      · rw [if_pos ha] at ho ⊢
        have c1 : isOver k [a] = true := by rw [isOver_one hk9]; simp [ha]
        have p1 := nextS_over (s := s) (a := a) (by rw [hn, hf]; exact c1)
        rw [runS_cons] at h10 hl
        have ih := okRow_snoc (m + 1) (k + 1) (b :: r) (nextS s a) n (by omega) (by omega) ho (by rw [p1.1, hn]) p1.2 h10 hl
        exact ih
      · rw [if_neg ha] at ho ⊢
        have c1 : isOver k [a] = false := by rw [isOver_one hk9]; simp [ha]
        have p1 := nextS_part (s := s) (a := a) (by rw [hn, hf]; exact c1)
        have p2 := nextS_over (s := nextS s a) (a := b) (by rw [p1.1, p1.2, hn, hf]; exact isOver_two hk9)
        simp at ho
        rw [runS_cons, runS_cons] at h10 hl
        have ih := okRow_snoc (m + 1) (k + 1) r (nextS (nextS s a) b) n (by omega) (by omega) ho.2 (by rw [p2.1, p1.1, hn]) p2.2 h10 hl
        simp [ih, ho.1]
theorem okR_snoc {l : RL} {n : Nat} (h : okR l) (h10 : (runS CS.zero l).n < 10) (hn : n ≤ leftN (runS CS.zero l).f) : okR (l ++ [n]) :=
  okRow_snoc 10 0 l CS.zero n rfl (by omega) h rfl rfl h10 hn
end Bw

namespace Bw
/-! ### done, over, standing against the specification -/
theorem length_frame : ∀ (m : Nat) (l : RL) (f : RL), okRow m l = true → 1 ≤ m → f ∈ Kyp1.frames m l → f ≠ [] ∧ (m = 1 → okTen f = true ∧ f = l)
  | 0, _, _, _, h, _ => by omega
  | 1, l, f, ho, _, hf => by
    cases l with
    | nil => simp [Kyp1.frames] at hf
    | cons a r =>
      simp [Kyp1.frames] at hf
      subst hf
      exact ⟨by simp, fun _ => ⟨ho, rfl⟩⟩
  | m + 2, l, f, ho, _, hf => by
    match l, ho, hf with
    | [], _, hf => simp [Kyp1.frames] at hf
    | [a], _, hf =>
      simp [Kyp1.frames] at hf
      subst hf
      exact ⟨by simp, fun h => by omega⟩
    | a :: b :: r, ho, hf =>
      simp only [okRow] at ho
      simp only [Kyp1.frames] at hf
      by_cases ha : a = 10
      · rw [if_pos ha] at hf ho
        rcases List.mem_cons.mp hf with e | hf
        · subst e; exact ⟨by simp, fun h => by omega⟩
        · exact ⟨(length_frame (m + 1) _ f ho (by omega) hf).1, fun h => by omega⟩
      · rw [if_neg ha] at hf ho
        simp at ho
        rcases List.mem_cons.mp hf with e | hf
        · subst e; exact ⟨by simp, fun h => by omega⟩
        · exact ⟨(length_frame (m + 1) _ f ho.2 (by omega) hf).1, fun h => by omega⟩
theorem tenthDone_ok : ∀ {f : RL}, okTen f = true → Kyp1.tenthDone f = isOver 9 f
  | [], _ => by rw [isOver_nil]; rfl
  | [a], _ => by rw [isOver9_one]; rfl
  | [a, b], _ => by rw [isOver9_two]; rfl
  | [a, b, c], ho => by
    have h10 : 10 ≤ a + b := by
      simp only [okTen] at ho
      split at ho
      · omega
      · simp at ho; omega
    rw [isOver9_three a b c h10]; rfl
  | _ :: _ :: _ :: _ :: _, ho => by simp [okTen] at ho
/-- a frame of the specification's list is over there as here -/
theorem frameDone_ok : ∀ (m k : Nat) (l : RL) (i : Nat) (f : RL), k + m = 10 → 1 ≤ m → okRow m l = true → (Kyp1.frames m l)[i]? = some f → Kyp1.frameDone (k + i) f = isOver (k + i) f
  | 0, _, _, _, _, _, h, _, _ => by omega
  | 1, k, l, i, f, hk, _, ho, hi => by
    have hm := List.mem_of_getElem? hi
    have hz := (length_frame 1 l f ho (by omega) hm).2 rfl
    have hi0 : i = 0 := by
      cases l with
      | nil => simp [Kyp1.frames] at hi
      | cons a r =>
        simp [Kyp1.frames] at hi
        cases i with
        | zero => rfl
        | succ i => simp at hi
    have hk9 : k + i = 9 := by omega
    rw [hk9]
    unfold Kyp1.frameDone
    rw [if_pos rfl]
    exact tenthDone_ok hz.1
  | m + 2, k, l, i, f, hk, _, ho, hi => by
    have hk9 : k ≠ 9 := by omega
    match l, ho, hi with
    | [], _, hi => simp [Kyp1.frames] at hi
    | [a], _, hi =>
      simp only [Kyp1.frames] at hi
      cases i with
      | succ i => simp at hi
      | zero =>
        simp at hi
        subst hi
        rw [Nat.add_zero, isOver_one hk9]
        unfold Kyp1.frameDone
        rw [if_neg hk9]
        by_cases ha : a = 10 <;> simp [ha]
    | a :: b :: r, ho, hi =>
      simp only [okRow] at ho
      simp only [Kyp1.frames] at hi
      by_cases ha : a = 10
      · rw [if_pos ha] at hi ho
        cases i with
        | zero =>
          simp at hi
          subst hi
          rw [Nat.add_zero, isOver_one hk9]
          unfold Kyp1.frameDone
          rw [if_neg hk9]
          by_cases ha : a = 10 <;> simp [ha]
        | succ i =>
          rw [List.getElem?_cons_succ] at hi
          have := frameDone_ok (m + 1) (k + 1) (b :: r) i f (by omega) (by omega) ho hi
          rw [show k + (i + 1) = k + 1 + i by omega]
          exact this
      · rw [if_neg ha] at hi ho
        simp at ho
        cases i with
        | zero =>
          simp at hi
          subst hi
          rw [Nat.add_zero, isOver_two hk9]
          unfold Kyp1.frameDone
          rw [if_neg hk9]
        | succ i =>
          rw [List.getElem?_cons_succ] at hi
          have := frameDone_ok (m + 1) (k + 1) r i f (by omega) (by omega) ho.2 hi
          rw [show k + (i + 1) = k + 1 + i by omega]
          exact this
theorem overF_count (P : Nat → RL → Bool) : ∀ (fs : List RL) (k : Nat), (∀ i f, fs[i]? = some f → P (k + i) f = isOver (k + i) f) →
    ((List.range fs.length).filter fun i => P (k + i) (fs.getD i [])).length = overF k fs
  | [], _, _ => rfl
  | f :: fs, k, h => by
    have ih := overF_count P fs (k + 1) fun i g hg => by
      have := h (i + 1) g (by simpa using hg)
      rw [show k + 1 + i = k + (i + 1) by omega]
      exact this
    rw [List.length_cons, List.range_succ_eq_map, List.filter_cons, overF_cons]
    have h0 := h 0 f rfl
    rw [Nat.add_zero] at h0
    have e : (List.filter (fun i => P (k + i) ((f :: fs).getD i [])) ((List.range fs.length).map Nat.succ)).length = overF (k + 1) fs := by
      rw [List.filter_map, List.length_map, ← ih]
      congr 2
      funext i
      simp only [Function.comp]
      rw [show k + i.succ = k + 1 + i by omega]
      rfl
    show (if P (k + 0) ((f :: fs).getD 0 []) = true then _ else _ : List Nat).length = _
    rw [Nat.add_zero, show (f :: fs).getD 0 [] = f from rfl, h0]
    cases isOver k f with
    | true => rw [if_pos rfl, List.length_cons, e]; simp [b2n]; omega
    | false => rw [if_neg (by simp), e]; simp [b2n]
theorem done_ok {l : RL} (h : okR l) : Kyp1.done l = framesOver l := by
  unfold framesOver
  rw [framesOf_ok h]
  have := overF_count (fun k f => Kyp1.frameDone k f) (Kyp1.frames 10 l) 0 fun i f hi => frameDone_ok 10 0 l i f rfl (by omega) h hi
  rw [← this]
  unfold Kyp1.done
  simp only [Nat.zero_add]
theorem done_run {l : RL} (h : okR l) : Kyp1.done l = (runS CS.zero l).n := by
  rw [done_ok h]
  unfold framesOver
  rw [framesOf_ok h]
  exact (posOk h).over
theorem over_run {l : RL} (h : okR l) : Kyp1.over l = ((runS CS.zero l).n == 10) := by
  unfold Kyp1.over; rw [done_run h]
theorem begun_run {l : RL} (h : okR l) : (Kyp1.frames 10 l).length = (runS CS.zero l).n + (if (runS CS.zero l).f = [] then 0 else 1) := (posOk h).begun
theorem standI_run {l : RL} (h : okR l) : standI l = leftI (runS CS.zero l).f := by
  have p := posOk h
  unfold standI
  rw [framesOf_ok h]
  by_cases c : (runS CS.zero l).f = []
  · rw [c]
    cases e : (Kyp1.frames 10 l).getLast? with
    | none => rfl
    | some f =>
      have := p.lastO c f e
      simp only [Nat.add_zero] at this
      show (if isOver ((Kyp1.frames 10 l).length - 1) f = true then (10 : Int) else leftI f) = leftI []
      rw [this]; rfl
  · rw [p.last c]
    have hb := p.begun
    rw [if_neg c] at hb
    rw [show (Kyp1.frames 10 l).length - 1 = (runS CS.zero l).n by omega]
    show (if isOver (runS CS.zero l).n (runS CS.zero l).f = true then (10 : Int) else leftI (runS CS.zero l).f) = leftI (runS CS.zero l).f
    rw [p.part c]
    rfl
/-- frames that are begun have one roll, or, in the tenth, two -/
theorem part_form : ∀ (m k : Nat) (l : RL) (s : CS), k + m = 10 → 1 ≤ m → okRow m l = true → s.n = k → s.f = [] → (runS s l).f = [] ∨ (∃ a, (runS s l).f = [a] ∧ a ≤ 10 ∧ ((runS s l).n ≠ 9 → a < 10)) ∨ (∃ a b, (runS s l).f = [a, b] ∧ (runS s l).n = 9 ∧ ((a = 10 ∧ b ≤ 10) ∨ (a < 10 ∧ a + b = 10)))
  | 0, _, _, _, _, h, _, _, _ => by omega
  | 1, k, l, s, hk, _, ho, hn, hf => by
    have hk9 : k = 9 := by omega
    subst hk9
    match l, ho with
    | [], _ => exact .inl hf
    | [a], ho =>
      have p1 := nextS_part (s := s) (a := a) (by rw [hn, hf]; exact isOver9_one a)
      rw [runS_cons, runS_nil, p1.1, p1.2, hf, hn]
      simp [okRow, okTen] at ho
      exact .inr (.inl ⟨a, rfl, ho, fun h => absurd rfl h⟩)
    | [a, b], ho =>
      have p1 := nextS_part (s := s) (a := a) (by rw [hn, hf]; exact isOver9_one a)
      rw [runS_cons, runS_cons, runS_nil]
      by_cases c : a + b < 10
      · have p2 := nextS_over (s := nextS s a) (a := b) (by
          rw [p1.1, p1.2, hn, hf]
          show isOver 9 [a, b] = true
          rw [isOver9_two]; simp [c])
        exact .inl p2.2
      · have p2 := nextS_part (s := nextS s a) (a := b) (by
          rw [p1.1, p1.2, hn, hf]
          show isOver 9 [a, b] = false
          rw [isOver9_two]; simp [c])
        rw [p2.1, p2.2, p1.1, p1.2, hf, hn]
        refine .inr (.inr ⟨a, b, rfl, rfl, ?_⟩)
        simp only [okRow, okTen] at ho
        split at ho
        · simp at ho; exact .inl ⟨by assumption, ho⟩
        · simp at ho; exact .inr ⟨by omega, by omega⟩
    | [a, b, c], ho =>
      have h10 : 10 ≤ a + b := by
        simp only [okRow, okTen] at ho
        split at ho
        · omega
        · simp at ho; omega
      have p1 := nextS_part (s := s) (a := a) (by rw [hn, hf]; exact isOver9_one a)
      have p2 := nextS_part (s := nextS s a) (a := b) (by
        rw [p1.1, p1.2, hn, hf]
        show isOver 9 [a, b] = false
        rw [isOver9_two]; simp; omega)
      have p3 := nextS_over (s := nextS (nextS s a) b) (a := c) (by
        rw [p2.1, p2.2, p1.1, p1.2, hn, hf]
        exact isOver9_three a b c h10)
      exact .inl p3.2
    | a :: b :: c :: d :: r, ho => simp [okRow, okTen] at ho
  | m + 2, k, l, s, hk, _, ho, hn, hf => by
    have hk9 : k ≠ 9 := by omega
    match l, ho with
    | [], _ => exact .inl hf
    | [a], ho =>
      rw [runS_cons, runS_nil]
      by_cases ha : a = 10
      · have c1 : isOver k [a] = true := by rw [isOver_one hk9]; simp [ha]
        have p1 := nextS_over (s := s) (a := a) (by rw [hn, hf]; exact c1)
        exact .inl p1.2
      · have c1 : isOver k [a] = false := by rw [isOver_one hk9]; simp [ha]
        have p1 := nextS_part (s := s) (a := a) (by rw [hn, hf]; exact c1)
        rw [p1.2, hf]
        simp [okRow] at ho
        exact .inr (.inl ⟨a, rfl, ho, fun _ => by omega⟩)
    | a :: b :: r, ho =>
      simp only [okRow] at ho
      by_cases ha : a = 10
      · rw [if_pos ha] at ho
        have c1 : isOver k [a] = true := by rw [isOver_one hk9]; simp [ha]
        have p1 := nextS_over (s := s) (a := a) (by rw [hn, hf]; exact c1)
        exact part_form (m + 1) (k + 1) (b :: r) (nextS s a) (by omega) (by omega) ho (by rw [p1.1, hn]) p1.2
      · rw [if_neg ha] at ho
        have c1 : isOver k [a] = false := by rw [isOver_one hk9]; simp [ha]
        have p1 := nextS_part (s := s) (a := a) (by rw [hn, hf]; exact c1)
        have p2 := nextS_over (s := nextS s a) (a := b) (by rw [p1.1, p1.2, hn, hf]; exact isOver_two hk9)
        simp at ho
        exact part_form (m + 1) (k + 1) r (nextS (nextS s a) b) (by omega) (by omega) ho.2 (by rw [p2.1, p1.1, hn]) p2.2
theorem partForm {l : RL} (h : okR l) : (runS CS.zero l).f = [] ∨ (∃ a, (runS CS.zero l).f = [a] ∧ a ≤ 10 ∧ ((runS CS.zero l).n ≠ 9 → a < 10)) ∨ (∃ a b, (runS CS.zero l).f = [a, b] ∧ (runS CS.zero l).n = 9 ∧ ((a = 10 ∧ b ≤ 10) ∨ (a < 10 ∧ a + b = 10))) :=
  part_form 10 0 l CS.zero rfl (by omega) h rfl rfl
theorem leftN_one {a : Nat} (h : a ≤ 10) : leftN [a] = if a = 10 then 10 else 10 - a := by
  simp [leftN, leftI]
  by_cases c : a = 10
  · subst c; rfl
  · have e : ¬ ((10 : Int) - (a : Int) = 0) := by omega
    simp [e, c]
theorem leftN_two {a b : Nat} (h : (a = 10 ∧ b ≤ 10) ∨ (a < 10 ∧ a + b = 10)) : leftN [a, b] = if a = 10 then (if b = 10 then 10 else 10 - b) else 10 := by
  simp [leftN, leftI]
  rcases h with ⟨h1, h2⟩ | ⟨h1, h2⟩
  · subst h1
    simp
    by_cases c : b = 10
    · subst c; rfl
    · have e : ¬ ((10 : Int) - (b : Int) = 0) := by omega
      simp [e, c]
  · have e : ¬ ((10 : Int) - (a : Int) = 0) := by omega
    have e2 : (10 : Int) - (a : Int) - (b : Int) = 0 := by omega
    have e3 : ¬ a = 10 := by omega
    simp [e, e2, e3]
theorem leftI_nn {l : RL} (h : okR l) : leftI (runS CS.zero l).f = (leftN (runS CS.zero l).f : Nat) := by
  have nn : 0 ≤ leftI (runS CS.zero l).f := by
    rcases partForm h with e | ⟨a, e, ha, _⟩ | ⟨a, b, e, _, hab⟩
    · rw [e]; simp [leftI]
    · rw [e]; simp [leftI]; split <;> omega
    · rw [e]; simp [leftI]
      rcases hab with ⟨h1, h2⟩ | ⟨h1, h2⟩
      · subst h1; simp; split <;> omega
      · have e1 : ¬ ((10 : Int) - (a : Int) = 0) := by omega
        have e2 : (10 : Int) - (a : Int) - (b : Int) = 0 := by omega
        simp [e1, e2]
  unfold leftN
  omega
theorem standing_ok {l : RL} (h : okR l) : Kyp1.standing l = leftN (runS CS.zero l).f := by
  have p := posOk h
  have hb := p.begun
  simp only [Nat.add_zero] at hb
  show (if Kyp1.done l = (Kyp1.frames 10 l).length then 10 else _) = _
  rw [done_run h]
  by_cases c : (runS CS.zero l).f = []
  · rw [if_pos c] at hb
    rw [if_pos (by omega), c]; rfl
  · rw [if_neg c] at hb
    rw [if_neg (by omega), List.getLastD_eq_getLast?, p.last c]
    rcases partForm h with e | ⟨a, e, ha, _⟩ | ⟨a, b, e, _, hab⟩
    · exact absurd e c
    · rw [e, leftN_one ha]; rfl
    · rw [e, leftN_two hab]; rfl
theorem standI_ok {l : RL} (h : okR l) : standI l = (Kyp1.standing l : Nat) := by
  rw [standI_run h, standing_ok h, leftI_nn h]
end Bw

namespace Bw
/-! ### scores -/
theorem scoresF_cons (all : RL) (k at_ : Nat) (f : RL) (r : List RL) : scoresF all k at_ (f :: r) = scoreAt all k at_ f :: scoresF all (k + 1) (at_ + f.length) r := rfl
theorem scoresF_length (all : RL) : ∀ (fs : List RL) (k at_ : Nat), (scoresF all k at_ fs).length = fs.length
  | [], _, _ => rfl
  | f :: r, k, at_ => by rw [scoresF_cons, List.length_cons, scoresF_length all r, List.length_cons]
theorem scoreAt_single {all : RL} {k at_ a : Nat} (hk : k ≠ 9) (hd : all.drop at_ = [a]) : scoreAt all k at_ [a] = none := by
  unfold scoreAt
  rw [hd, isOver_one hk]
  by_cases c : a = 10
  · have : countG k [a] = 3 := by unfold countG; rw [if_neg hk, if_pos (by simp [c])]
    rw [this]; simp
  · simp [c]
theorem scoreAt_strike {all : RL} {k at_ b : Nat} {r : RL} (hk : k ≠ 9) : all.drop at_ = 10 :: b :: r → scoreAt all k at_ [10] = match r with
    | c :: _ => some (10 + b + c)
    | [] => none := by
  intro hd
  unfold scoreAt
  have : countG k [10] = 3 := by unfold countG; rw [if_neg hk, if_pos (by simp)]
  rw [hd, isOver_one hk, this]
  cases r with
  | nil => simp
  | cons c r => simp; omega
theorem scoreAt_pair {all : RL} {k at_ a b : Nat} {r : RL} (hk : k ≠ 9) : all.drop at_ = a :: b :: r → scoreAt all k at_ [a, b] = if a + b = 10 then (match r with
    | c :: _ => some (10 + c)
    | [] => none) else some (a + b) := by
  intro hd
  unfold scoreAt
  rw [hd, isOver_two hk]
  by_cases h : a + b = 10
  · have : countG k [a, b] = 3 := by unfold countG; rw [if_neg hk, if_pos (by simp [h])]
    rw [this, if_pos h]
    cases r with
    | nil => simp
    | cons c r => simp; omega
  · have : countG k [a, b] = 2 := by unfold countG; rw [if_neg hk, if_neg (by simp [h])]
    rw [this, if_neg h]
    simp
theorem scoreAt_ten {all : RL} {at_ : Nat} {l : RL} (hd : all.drop at_ = l) (ho : okTen l = true) : scoreAt all 9 at_ l = if Kyp1.tenthDone l then some (Kyp1.sum l) else none := by
  unfold scoreAt
  rw [hd, tenthDone_ok ho, ksum]
  unfold countG
  rw [if_pos rfl]
  by_cases c : isOver 9 l = true
  · have e : l.length = tenNeed l := by
      unfold isOver at c
      rw [if_pos rfl] at c
      simpa using c
    have e2 : l.take (tenNeed l) = l := by rw [← e, List.take_length]
    rw [e2, c, e]
    simp
  · have c' : isOver 9 l = false := by simpa using c
    rw [c']; simp
theorem scores_ok (all : RL) : ∀ (m k : Nat) (l : RL) (at_ : Nat), k + m = 10 → 1 ≤ m → okRow m l = true → all.drop at_ = l →
    Kyp1.scores m l = scoresF all k at_ (Kyp1.frames m l) ++ List.replicate (m - (Kyp1.frames m l).length) none
  | 0, _, _, _, _, h, _, _ => by omega
  | 1, k, l, at_, hk, _, ho, hd => by
    have hk9 : k = 9 := by omega
    subst hk9
    cases l with
    | nil => rfl
    | cons a r =>
      show [if Kyp1.tenthDone (a :: r) then some (Kyp1.sum (a :: r)) else none] = [scoreAt all 9 at_ (a :: r)] ++ List.replicate 0 none
      rw [scoreAt_ten hd ho]
      simp
  | m + 2, k, l, at_, hk, _, ho, hd => by
    have hk9 : k ≠ 9 := by omega
    match l, ho, hd with
    | [], _, _ => simp [Kyp1.scores, Kyp1.frames, scoresF]
    | [a], ho, hd =>
      simp only [Kyp1.scores, Kyp1.frames, scoresF, List.length_cons, List.length_nil]
      rw [scoreAt_single hk9 hd, show m + 2 - (0 + 1) = m + 1 by omega]
      simp [List.replicate_succ]
    | a :: b :: r, ho, hd =>
      simp only [okRow] at ho
      simp only [Kyp1.scores, Kyp1.frames]
      by_cases ha : a = 10
      · rw [if_pos ha] at ho ⊢
        subst ha
        rw [if_pos rfl, scoresF_cons, scoreAt_strike hk9 hd]
        have hd' : all.drop (at_ + 1) = b :: r := by rw [← List.drop_drop, hd]; rfl
        rw [scores_ok all (m + 1) (k + 1) (b :: r) (at_ + 1) (by omega) (by omega) ho hd']
        simp only [List.length_cons, List.length_nil, List.cons_append, Nat.add_sub_add_right]
        congr 3
        omega
      · rw [if_neg ha] at ho ⊢
        rw [if_neg ha]
        simp at ho
        rw [scoresF_cons, scoreAt_pair hk9 hd]
        have hd' : all.drop (at_ + 2) = r := by rw [← List.drop_drop, hd]; rfl
        rw [scores_ok all (m + 1) (k + 1) r (at_ + 2) (by omega) (by omega) ho.2 hd']
        simp only [List.length_cons, List.length_nil, List.cons_append, Nat.add_sub_add_right]
        congr 3
        omega
theorem frameScores_ok {l : RL} (h : okR l) : Kyp1.scores 10 l = frameScores l ++ List.replicate (10 - (Kyp1.frames 10 l).length) none := by
  unfold frameScores
  rw [framesOf_ok h]
  exact scores_ok l 10 0 l 0 rfl (by omega) h rfl
theorem getD_append_none {α : Type} : ∀ (a : List (Option α)) (n k : Nat), (a ++ List.replicate n none).getD k none = (a[k]?).getD none
  | a, n, k => by
    rw [List.getD_eq_getElem?_getD]
    by_cases h : k < a.length
    · rw [List.getElem?_append_left h]
    · rw [List.getElem?_append_right (by omega), List.getElem?_eq_none (l := a) (by omega)]
      by_cases h2 : k - a.length < n
      · rw [List.getElem?_replicate, if_pos h2]; rfl
      · rw [List.getElem?_replicate, if_neg h2]
theorem frameAns_ok {l : RL} (h : okR l) (k : Nat) : frameAns l k = if 9 < k then .error (-22) else match (Kyp1.scores 10 l).getD k none with
    | none => .error (-61)
    | some n => .ok [(n : Int)] := by
  unfold frameAns
  rw [frameScores_ok h, getD_append_none]
  by_cases hk : k < 10
  · rw [if_pos hk, if_neg (by omega)]
    cases e : (frameScores l)[k]? with
    | none => rfl
    | some x => cases x <;> rfl
  · rw [if_neg hk, if_pos (by omega)]
/-- behind a score that isn't known none is -/
theorem scores_nones : ∀ (m : Nat), Kyp1.scores m [] = List.replicate m none
  | 0 => rfl
  | 1 => rfl
  | _ + 2 => rfl
theorem scores_one : ∀ (m : Nat) (b : Nat), Kyp1.scores m [b] = List.replicate m none
  | 0, _ => rfl
  | 1, _ => rfl
  | _ + 2, _ => rfl
def PreSome (xs : List (Option Nat)) : Prop := xs.filter (fun x => x.isSome) = xs.takeWhile fun x => x.isSome
theorem preSome_none (n : Nat) : PreSome (none :: List.replicate n none) := by
  unfold PreSome
  simp
theorem preSome_rep (n : Nat) : PreSome (List.replicate n none) := by
  unfold PreSome
  cases n <;> simp [List.replicate_succ]
theorem preSome_some {x : Nat} {xs : List (Option Nat)} (h : PreSome xs) : PreSome (some x :: xs) := by
  unfold PreSome at h ⊢
  simp [h]
theorem scores_pre : ∀ (m : Nat) (l : RL), PreSome (Kyp1.scores m l)
  | 0, _ => rfl
  | 1, l => by
    show PreSome [if Kyp1.tenthDone l then some (Kyp1.sum l) else none]
    split
    · exact preSome_some rfl
    · exact rfl
  | m + 2, [] => preSome_rep _
  | m + 2, [_] => preSome_rep _
  | m + 2, a :: b :: r => by
    simp only [Kyp1.scores]
    split
    · cases r with
      | nil =>
        rw [scores_one]; exact preSome_none _
      | cons c r => exact preSome_some (scores_pre (m + 1) (b :: c :: r))
    · split
      · cases r with
        | nil => rw [scores_nones]; exact preSome_none _
        | cons c r => exact preSome_some (scores_pre (m + 1) (c :: r))
      · exact preSome_some (scores_pre (m + 1) r)
theorem known_ok {l : RL} (h : okR l) : Kyp1.known l = knownOf l := by
  have p := scores_pre 10 l
  unfold PreSome at p
  unfold Kyp1.known knownOf
  rw [← p, frameScores_ok h, List.filter_append]
  have : List.filter (fun x => x.isSome) (List.replicate (10 - (Kyp1.frames 10 l).length) (none : Option Nat)) = [] := by
    rw [List.filter_replicate]; simp
  rw [this, List.append_nil]
theorem score_ok {l : RL} (h : okR l) : Kyp1.score l = (knownOf l).sum := by
  unfold Kyp1.score; rw [known_ok h, ksum]
/-- in a game that's over all is known -/
theorem runS_n_le : ∀ (m k : Nat) (l : RL) (s : CS), k + m = 10 → 1 ≤ m → okRow m l = true → s.n = k → s.f = [] → (runS s l).n = 10 → l ≠ [] := by
  intro m k l s hk hm _ hn _ h e
  subst e
  rw [runS_nil] at h
  omega
theorem all_known (all : RL) : ∀ (m k : Nat) (l : RL) (s : CS) (at_ : Nat), k + m = 10 → 1 ≤ m → okRow m l = true → s.n = k → s.f = [] → (runS s l).n = 10 → all.drop at_ = l →
    ∀ x ∈ scoresF all k at_ (Kyp1.frames m l), x.isSome = true
  | 0, _, _, _, _, _, h, _, _, _, _, _ => by omega
  | 1, k, l, s, at_, hk, _, ho, hn, hf, he, hd => by
    have hk9 : k = 9 := by omega
    subst hk9
    have p := pos_ok 1 9 l s rfl (by omega) ho hn hf
    cases l with
    | nil => rw [runS_nil] at he; omega
    | cons a r =>
      intro x hx
      have hx' : x ∈ [scoreAt all 9 at_ (a :: r)] := hx
      rw [List.mem_singleton] at hx'
      subst hx'
      have hl := p.lastO (p.tn he) (a :: r) rfl
      have hl' : isOver 9 (a :: r) = true := hl
      rw [scoreAt_ten hd ho, tenthDone_ok ho, hl']
      rfl
  | m + 2, k, l, s, at_, hk, _, ho, hn, hf, he, hd => by
    have hk9 : k ≠ 9 := by omega
    match l, ho, hd with
    | [], _, _ => rw [runS_nil] at he; omega
    | [a], ho, hd =>
      rw [runS_cons, runS_nil] at he
      have q := nextS_form s a
      rw [q] at he
      split at he
      · have : s.n + 1 = 10 := he
        omega
      · have : s.n = 10 := he
        omega
    | a :: b :: r, ho, hd =>
      simp only [okRow] at ho
      by_cases ha : a = 10
      · subst ha
        rw [if_pos rfl] at ho
        have c1 : isOver k [10] = true := by rw [isOver_one hk9]; simp
        have p1 := nextS_over (s := s) (a := 10) (by rw [hn, hf]; exact c1)
        have hd' : all.drop (at_ + 1) = b :: r := by rw [← List.drop_drop, hd]; rfl
        rw [runS_cons] at he
        have ih := all_known all (m + 1) (k + 1) (b :: r) (nextS s 10) (at_ + 1) (by omega) (by omega) ho (by rw [p1.1, hn]) p1.2 he hd'
        rw [show Kyp1.frames (m + 2) (10 :: b :: r) = [10] :: Kyp1.frames (m + 1) (b :: r) by simp [Kyp1.frames], scoresF_cons, scoreAt_strike hk9 hd]
        intro x hx
        rcases List.mem_cons.mp hx with e | hx
        · subst e
          cases r with
          | cons c r => rfl
          | nil =>
            exfalso
            cases m with
            | zero =>
              have hk8 : k + 1 = 9 := by omega
              have := ih (scoreAt all (k + 1) (at_ + 1) [b]) (by simp [Kyp1.frames, scoresF])
              rw [hk8, scoreAt_ten hd' ho] at this
              simp [Kyp1.tenthDone] at this
            | succ m =>
              have := ih (scoreAt all (k + 1) (at_ + 1) [b]) (by simp [Kyp1.frames, scoresF])
              rw [scoreAt_single (by omega) hd'] at this
              simp at this
        · exact ih x hx
      · rw [if_neg ha] at ho
        simp at ho
        have c1 : isOver k [a] = false := by rw [isOver_one hk9]; simp [ha]
        have p1 := nextS_part (s := s) (a := a) (by rw [hn, hf]; exact c1)
        have p2 := nextS_over (s := nextS s a) (a := b) (by rw [p1.1, p1.2, hn, hf]; exact isOver_two hk9)
        have hd' : all.drop (at_ + 2) = r := by rw [← List.drop_drop, hd]; rfl
        rw [runS_cons, runS_cons] at he
        have ih := all_known all (m + 1) (k + 1) r (nextS (nextS s a) b) (at_ + 2) (by omega) (by omega) ho.2 (by rw [p2.1, p1.1, hn]) p2.2 he hd'
        rw [show Kyp1.frames (m + 2) (a :: b :: r) = [a, b] :: Kyp1.frames (m + 1) r by simp [Kyp1.frames, ha], scoresF_cons, scoreAt_pair hk9 hd]
        intro x hx
        rcases List.mem_cons.mp hx with e | hx
        · subst e
          split
          · cases r with
            | cons c r => rfl
            | nil =>
              exfalso
              rw [runS_nil, p2.1, p1.1, hn] at he
              omega
          · rfl
        · exact ih x hx
theorem frameScores_all {l : RL} (h : okR l) (he : framesOver l = 10) : ∀ x ∈ frameScores l, x.isSome = true := by
  rw [← done_ok h, done_run h] at he
  unfold frameScores
  rw [framesOf_ok h]
  exact all_known l 10 0 l CS.zero 0 rfl (by omega) h rfl rfl he rfl
theorem scoreSum_ok {l : RL} (h : okR l) (he : framesOver l = 10) : Kyp1.score l = scoreSum l := by
  rw [score_ok h]
  unfold knownOf scoreSum
  rw [List.filter_eq_self.mpr (frameScores_all h he)]
theorem framesOver_le {l : RL} (h : okR l) : framesOver l ≤ 10 := by
  rw [← done_ok h, done_run h]; exact (posOk h).top
/-- how many rolls there are at most -/
theorem okRow_len : ∀ (m : Nat) (l : RL), okRow m l = true → l.length ≤ 2 * m + 1
  | 0, l, h => by simp [okRow] at h; simp [h]
  | 1, l, h => by
    match l, h with
    | [], _ => simp
    | [_], _ => simp
    | [_, _], _ => simp
    | [_, _, _], _ => simp
    | _ :: _ :: _ :: _ :: _, h => simp [okRow, okTen] at h
  | m + 2, [], _ => by simp
  | m + 2, [_], _ => by simp
  | m + 2, a :: b :: r, h => by
    simp only [okRow] at h
    split at h
    · have := okRow_len (m + 1) _ h
      simp at this ⊢; omega
    · simp at h
      have := okRow_len (m + 1) _ h.2
      simp at this ⊢; omega
end Bw

namespace Bw
/-! ### dicts of counts -/
theorem getN_nil (s : Nat) : getN [] s = 0 := rfl
theorem getN_cons (p : Nat × Nat) (d : D) (s : Nat) : getN (p :: d) s = if p.1 = s then p.2 else getN d s := by
  unfold getN
  rw [List.find?_cons]
  by_cases h : p.1 = s
  · have : (p.1 == s) = true := by simp [h]
    rw [this, if_pos h]; rfl
  · have : (p.1 == s) = false := by simp [h]
    rw [this, if_neg h]
theorem getN_notin {d : D} {s : Nat} (h : s ∉ keysOf d) : getN d s = 0 := by
  induction d with
  | nil => rfl
  | cons p d ih =>
    rw [getN_cons]
    unfold keysOf at h ih
    rw [List.map_cons, List.mem_cons, not_or] at h
    rw [if_neg (Ne.symm h.1)]
    exact ih h.2
theorem getN_pos {d : D} {s : Nat} (hp : ∀ p ∈ d, 0 < p.2) (h : s ∈ keysOf d) : 0 < getN d s := by
  induction d with
  | nil => simp [keysOf] at h
  | cons p d ih =>
    rw [getN_cons]
    by_cases e : p.1 = s
    · rw [if_pos e]; exact hp p (by simp)
    · rw [if_neg e]
      refine ih (fun q hq => hp q (by simp [hq])) ?_
      unfold keysOf at h ⊢
      rw [List.map_cons, List.mem_cons] at h
      rcases h with h | h
      · exact absurd h.symm e
      · exact h
theorem getN_map_put (d : D) (k v s : Nat) : getN (d.map fun p => if p.1 = k then (p.1, v) else p) s = if s = k ∧ k ∈ keysOf d then v else getN d s := by
  induction d with
  | nil => simp [keysOf, getN]
  | cons p d ih =>
    rw [List.map_cons, getN_cons, getN_cons, ih]
    unfold keysOf
    rw [List.map_cons]
    by_cases e : p.1 = k
    · rw [if_pos e]
      by_cases q : p.1 = s
      · have : s = k := q.symm.trans e
        simp [this, e]
      · have : ¬ s = k := fun z => q (e.trans z.symm)
        simp [q, this]
    · rw [if_neg e]
      have e' : ¬ k = p.1 := fun z => e z.symm
      by_cases q : p.1 = s
      · have : ¬ s = k := fun z => e (q.trans z)
        simp [q, this]
      · rw [if_neg q, if_neg q]
        by_cases h : s = k ∧ k ∈ List.map (fun x => x.1) d
        · rw [if_pos h, if_pos ⟨h.1, List.mem_cons_of_mem _ h.2⟩]
        · rw [if_neg h, if_neg fun z => h ⟨z.1, (List.mem_cons.mp z.2).resolve_left e'⟩]
theorem any_keys (d : D) (k : Nat) : (d.any fun p => p.1 == k) = true ↔ k ∈ keysOf d := by
  unfold keysOf
  simp [List.mem_map]
theorem getN_append (d : D) (k v s : Nat) (h : k ∉ keysOf d) : getN (d ++ [(k, v)]) s = if s = k then v else getN d s := by
  induction d with
  | nil =>
    rw [List.nil_append, getN_cons]
    by_cases e : k = s
    · simp [e]
    · simp [e, Ne.symm e]
  | cons p d ih =>
    unfold keysOf at h ih
    rw [List.map_cons, List.mem_cons, not_or] at h
    rw [List.cons_append, getN_cons, getN_cons, ih h.2]
    by_cases e : p.1 = s
    · have : ¬ s = k := fun z => h.1 (z.symm.trans e.symm)
      simp [e, this]
    · simp [e]
theorem getN_putN (d : D) (k v s : Nat) : getN (putN d k v) s = if s = k then v else getN d s := by
  unfold putN
  by_cases c : (d.any fun p => p.1 == k) = true
  · rw [if_pos c, getN_map_put]
    have := (any_keys d k).mp c
    simp [this]
  · rw [if_neg c]
    exact getN_append d k v s fun z => c ((any_keys d k).mpr z)
theorem keysOf_putN (d : D) (k v : Nat) : keysOf (putN d k v) = if k ∈ keysOf d then keysOf d else keysOf d ++ [k] := by
  unfold putN
  by_cases c : (d.any fun p => p.1 == k) = true
  · rw [if_pos c, if_pos ((any_keys d k).mp c)]
    unfold keysOf
    rw [List.map_map]
    refine List.map_congr_left fun p _ => ?_
    by_cases e : p.1 = k <;> simp [e]
  · rw [if_neg c, if_neg fun z => c ((any_keys d k).mpr z)]
    unfold keysOf
    simp
structure Rep (d : D) (F : Nat → Nat) : Prop where
  nodup : (keysOf d).Nodup
  pos : ∀ p ∈ d, 0 < p.2
  val : ∀ s, getN d s = F s
theorem Rep.nil : Rep [] fun _ => 0 := ⟨List.nodup_nil, (fun _ h => nomatch h), fun _ => rfl⟩
theorem Rep.putN {d : D} {F : Nat → Nat} (r : Rep d F) {k v : Nat} (hv : 0 < v) : Rep (putN d k v) fun s => if s = k then v else F s := by
  refine ⟨?_, ?_, fun s => ?_⟩
  · rw [keysOf_putN]
    split
    · exact r.nodup
    · rename_i h
      rw [List.nodup_append]
      refine ⟨r.nodup, by simp, ?_⟩
      intro a ha b hb
      simp at hb
      subst hb
      exact fun e => h (e ▸ ha)
  · intro p hp
    unfold Bw.putN at hp
    split at hp
    · obtain ⟨q, hq, e⟩ := List.mem_map.mp hp
      by_cases c : q.1 = k
      · rw [if_pos c] at e; subst e; exact hv
      · rw [if_neg c] at e; subst e; exact r.pos q hq
    · rcases List.mem_append.mp hp with h | h
      · exact r.pos p h
      · simp at h; subst h; exact hv
  · rw [getN_putN, r.val]
theorem Rep.addN {d : D} {F : Nat → Nat} (r : Rep d F) {w : Nat} {p : Nat × Nat} (hv : 0 < p.2) : Rep (addN w d p) fun s => F s + if s = w + p.1 then p.2 else 0 := by
  have q := r.putN (k := w + p.1) (v := getN d (w + p.1) + p.2) (by omega)
  refine ⟨q.nodup, q.pos, fun s => ?_⟩
  have e := q.val s
  unfold Bw.addN
  rw [e]
  by_cases c : s = w + p.1
  · subst c
    rw [if_pos rfl, if_pos rfl, r.val]
  · rw [if_neg c, if_neg c, Nat.add_zero]
theorem Rep.mergeN : ∀ {there : D} {d : D} {F : Nat → Nat} (_ : Rep d F) (w : Nat), (keysOf there).Nodup → (∀ p ∈ there, 0 < p.2) → Rep (mergeN w d there) fun s => F s + if w ≤ s then getN there (s - w) else 0
  | [], d, F, r, w, _, _ => ⟨r.nodup, r.pos, fun s => by
      show getN d s = _
      rw [r.val, getN_nil]; simp⟩
  | p :: there, d, F, r, w, hn, hp => by
    have r1 := r.addN (w := w) (p := p) (hp p (by simp))
    unfold keysOf at hn
    rw [List.map_cons, List.nodup_cons] at hn
    have r2 := Rep.mergeN (there := there) r1 w hn.2 fun q hq => hp q (by simp [hq])
    refine ⟨r2.nodup, r2.pos, fun s => ?_⟩
    have e := r2.val s
    unfold Bw.mergeN at e ⊢
    rw [List.foldl_cons, e]
    show F s + (if s = w + p.1 then p.2 else 0) + (if w ≤ s then getN there (s - w) else 0) = F s + if w ≤ s then getN (p :: there) (s - w) else 0
    by_cases c : w ≤ s
    · rw [if_pos c, if_pos c, getN_cons]
      by_cases c2 : s = w + p.1
      · have c3 : p.1 = s - w := by omega
        rw [if_pos c2, if_pos c3, ← c3]
        have : getN there p.1 = 0 := getN_notin hn.1
        omega
      · have c3 : ¬ p.1 = s - w := by omega
        rw [if_neg c2, if_neg c3]; omega
    · have c2 : ¬ s = w + p.1 := by omega
      rw [if_neg c, if_neg c, if_neg c2]

/-! ### polynomials of the specification -/
def cf (w : Kyp1.Ways) (s : Nat) : Nat := w.getD s 0
theorem cf_nil (s : Nat) : cf [] s = 0 := rfl
theorem cf_shift (n : Nat) (p : Kyp1.Ways) (s : Nat) : cf (Kyp1.shift n p) s = if n ≤ s then cf p (s - n) else 0 := by
  unfold cf Kyp1.shift
  rw [List.getD_eq_getElem?_getD, List.getD_eq_getElem?_getD]
  by_cases h : n ≤ s
  · rw [if_pos h, List.getElem?_append_right (by simpa using h), List.length_replicate]
  · rw [if_neg h, List.getElem?_append_left (by simp; omega), List.getElem?_replicate, if_pos (by omega)]; rfl
theorem shift_shift (n m : Nat) (p : Kyp1.Ways) : Kyp1.shift n (Kyp1.shift m p) = Kyp1.shift (n + m) p := by
  unfold Kyp1.shift
  rw [← List.append_assoc, List.replicate_append_replicate]
theorem shift_zero (p : Kyp1.Ways) : Kyp1.shift 0 p = p := rfl
theorem cf_add : ∀ (p q : Kyp1.Ways) (s : Nat), cf (Kyp1.add p q) s = cf p s + cf q s
  | [], q, s => by
    rw [show Kyp1.add [] q = q by cases q <;> rfl, cf_nil]; omega
  | a :: p, [], s => by
    rw [show Kyp1.add (a :: p) [] = a :: p from rfl, cf_nil]; omega
  | a :: p, b :: q, s => by
    rw [show Kyp1.add (a :: p) (b :: q) = (a + b) :: Kyp1.add p q from rfl]
    cases s with
    | zero => rfl
    | succ s => exact cf_add p q s
theorem cf_foldl_add : ∀ (l : List Kyp1.Ways) (p : Kyp1.Ways) (s : Nat), cf (l.foldl Kyp1.add p) s = cf p s + (l.map fun w => cf w s).sum
  | [], p, s => by simp
  | w :: l, p, s => by
    rw [List.foldl_cons, cf_foldl_add l, cf_add, List.map_cons, List.sum_cons]; omega
theorem cf_addAll (l : List Kyp1.Ways) (s : Nat) : cf (Kyp1.addAll l) s = (l.map fun w => cf w s).sum := by
  unfold Kyp1.addAll
  rw [cf_foldl_add, cf_nil]; omega
theorem sum_map_zero {α : Type} {f : α → Nat} : ∀ {l : List α}, (∀ x ∈ l, f x = 0) → (l.map f).sum = 0
  | [], _ => rfl
  | x :: l, h => by
    rw [List.map_cons, List.sum_cons, h x (by simp), sum_map_zero fun y hy => h y (by simp [hy])]
theorem sum_map_congr {α : Type} {l : List α} {f g : α → Nat} (h : ∀ x ∈ l, f x = g x) : (l.map f).sum = (l.map g).sum := by
  rw [List.map_congr_left h]

/-- the ways on from a state -/
def WS (s : CS) : Kyp1.Ways := match s.f with
  | [] => Kyp1.nth (Kyp1.table (10 - s.n)) (1 + s.m) (1 + s.k)
  | [a] => if s.n = 9 then (if a = 10 then Kyp1.tenthStrike (1 + s.m) else Kyp1.tenthAfter a (1 + s.m)) else Kyp1.frameAfter (Kyp1.table (9 - s.n)) a (1 + s.m)
  | [a, b] => Kyp1.addAll ((List.range (if a = 10 ∧ b ≠ 10 then 11 - b else 11)).map fun c => Kyp1.shift c [1])
  | _ => []
/-- the states that are met -/
inductive Good : CS → Prop
  | new (n m k : Nat) : n ≤ 10 → (m = 0 ∧ k = 0) ∨ (m = 1 ∧ k = 0) ∨ (m = 1 ∧ k = 1) ∨ (m = 2 ∧ k = 1) → Good ⟨n, [], m, k⟩
  | one (n a m : Nat) : n ≤ 9 → a ≤ 10 → (n ≠ 9 → a < 10) → m ≤ 1 → Good ⟨n, [a], m, 0⟩
  | two (a b : Nat) : (a = 10 ∧ b ≤ 10) ∨ (a < 10 ∧ a + b = 10) → Good ⟨9, [a, b], 0, 0⟩
theorem nextS_new9 (m k a : Nat) : nextS ⟨9, [], m, k⟩ a = ⟨9, [a], k, 0⟩ := by
  unfold nextS
  rw [if_neg (by show ¬ isOver 9 [a] = true; rw [isOver9_one]; simp)]
  simp [strikeS, spareS, b2n]
theorem nextS_new (n m k a : Nat) (hn : n < 9) : nextS ⟨n, [], m, k⟩ a = if a = 10 then ⟨n + 1, [], k + 1, 1⟩ else ⟨n, [a], k, 0⟩ := by
  unfold nextS
  by_cases h : a = 10
  · subst h
    rw [if_pos (by show isOver n [10] = true; rw [isOver_one (by omega)]; simp)]
    simp [strikeS, spareS, b2n, hn]
  · rw [if_neg (by show ¬ isOver n [a] = true; rw [isOver_one (by omega)]; simp [h])]
    simp [strikeS, spareS, b2n, hn, h]
theorem nextS_one (n a m b : Nat) (hn : n < 9) : nextS ⟨n, [a], m, 0⟩ b = ⟨n + 1, [], (if a + b = 10 then 1 else 0), 0⟩ := by
  unfold nextS
  rw [if_pos (by show isOver n [a, b] = true; exact isOver_two (by omega))]
  simp [strikeS, spareS, b2n, hn]
  by_cases q : a + b = 10 <;> simp [q]
theorem nextS_one9 (a m b : Nat) : nextS ⟨9, [a], m, 0⟩ b = if a + b < 10 then ⟨10, [], 0, 0⟩ else ⟨9, [a, b], 0, 0⟩ := by
  unfold nextS
  by_cases h : a + b < 10
  · rw [if_pos (by show isOver 9 [a, b] = true; rw [isOver9_two]; simp [h]), if_pos h]
    simp [strikeS, spareS, b2n]
  · rw [if_neg (by show ¬ isOver 9 [a, b] = true; rw [isOver9_two]; simp [h]), if_neg h]
    simp [strikeS, spareS, b2n]
theorem nextS_two (a b c : Nat) (h : 10 ≤ a + b) : nextS ⟨9, [a, b], 0, 0⟩ c = ⟨10, [], 0, 0⟩ := by
  unfold nextS
  rw [if_pos (by show isOver 9 [a, b, c] = true; exact isOver9_three a b c h)]
  simp [strikeS, spareS, b2n]
theorem leftN_nil : leftN [] = 10 := rfl
theorem good_next {s : CS} (g : Good s) (hn : s.n < 10) {r : Nat} (hr : r ≤ leftN s.f) : Good (nextS s r) := by
  cases g with
  | new n m k h1 h2 =>
    have hr' : r ≤ 10 := hr
    by_cases h9 : n = 9
    · subst h9
      rw [nextS_new9]
      exact .one 9 r k (by omega) hr' (fun h => absurd rfl h) (by omega)
    · have h9' : n < 9 := by have : n < 10 := hn; omega
      rw [nextS_new n m k r h9']
      by_cases c : r = 10
      · rw [if_pos c]
        exact .new (n + 1) (k + 1) 1 (by omega) (by omega)
      · rw [if_neg c]
        exact .one n r k (by omega) hr' (fun _ => by omega) (by omega)
  | one n a m h1 h2 h3 h4 =>
    have hr' : r ≤ leftN [a] := hr
    rw [leftN_one h2] at hr'
    by_cases h9 : n = 9
    · subst h9
      rw [nextS_one9]
      by_cases c : a + r < 10
      · rw [if_pos c]; exact .new 10 0 0 (by omega) (by omega)
      · rw [if_neg c]
        refine .two a r ?_
        split at hr' <;> omega
    · have h9' : n < 9 := by omega
      rw [nextS_one n a m r h9']
      refine .new (n + 1) _ 0 (by omega) ?_
      split <;> omega
  | two a b h =>
    rw [nextS_two a b r (by omega)]
    exact .new 10 0 0 (by omega) (by omega)
theorem good_zero : Good CS.zero := .new 0 0 0 (by omega) (by omega)
theorem table_one : Kyp1.table 1 = [Kyp1.tenth 1 1, Kyp1.tenth 2 1, Kyp1.tenth 2 2, Kyp1.tenth 3 2] := by rw [Kyp1.table]
theorem table_more (n : Nat) : Kyp1.table (n + 2) = [Kyp1.frameWays (Kyp1.table (n + 1)) 1 1, Kyp1.frameWays (Kyp1.table (n + 1)) 2 1, Kyp1.frameWays (Kyp1.table (n + 1)) 2 2, Kyp1.frameWays (Kyp1.table (n + 1)) 3 2] := by rw [Kyp1.table]
theorem nth_table_zero (m k : Nat) (h : (m = 0 ∧ k = 0) ∨ (m = 1 ∧ k = 0) ∨ (m = 1 ∧ k = 1) ∨ (m = 2 ∧ k = 1)) : Kyp1.nth (Kyp1.table 0) (1 + m) (1 + k) = [1] := by
  rcases h with ⟨rfl, rfl⟩ | ⟨rfl, rfl⟩ | ⟨rfl, rfl⟩ | ⟨rfl, rfl⟩ <;> rfl
theorem nth_table_one (m k : Nat) (h : (m = 0 ∧ k = 0) ∨ (m = 1 ∧ k = 0) ∨ (m = 1 ∧ k = 1) ∨ (m = 2 ∧ k = 1)) : Kyp1.nth (Kyp1.table 1) (1 + m) (1 + k) = Kyp1.tenth (1 + m) (1 + k) := by
  rcases h with ⟨rfl, rfl⟩ | ⟨rfl, rfl⟩ | ⟨rfl, rfl⟩ | ⟨rfl, rfl⟩ <;> simp [Kyp1.nth, table_one]
theorem nth_table_more (n m k : Nat) (h : (m = 0 ∧ k = 0) ∨ (m = 1 ∧ k = 0) ∨ (m = 1 ∧ k = 1) ∨ (m = 2 ∧ k = 1)) : Kyp1.nth (Kyp1.table (n + 2)) (1 + m) (1 + k) = Kyp1.frameWays (Kyp1.table (n + 1)) (1 + m) (1 + k) := by
  rcases h with ⟨rfl, rfl⟩ | ⟨rfl, rfl⟩ | ⟨rfl, rfl⟩ | ⟨rfl, rfl⟩ <;> simp [Kyp1.nth, table_more]
theorem WS_ten : WS ⟨10, [], 0, 0⟩ = [1] := nth_table_zero 0 0 (by omega)
/-- one roll on -/
theorem WS_step {s : CS} (g : Good s) (hn : s.n < 10) (t : Nat) : cf (WS s) t = ((List.range (leftN s.f + 1)).map fun r => cf (Kyp1.shift (r * (1 + s.m)) (WS (nextS s r))) t).sum := by
  cases g with
  | new n m k h1 h2 =>
    by_cases h9 : n = 9
    · subst h9
      show cf (Kyp1.nth (Kyp1.table 1) (1 + m) (1 + k)) t = _
      rw [nth_table_one m k h2]
      unfold Kyp1.tenth
      rw [cf_addAll, List.map_map]
      refine sum_map_congr fun a ha => ?_
      simp only [Function.comp, nextS_new9]
      rfl
    · have h9' : n < 9 := by have : n < 10 := hn; omega
      obtain ⟨j, hj⟩ : ∃ j, 10 - n = j + 2 := ⟨8 - n, by omega⟩
      show cf (Kyp1.nth (Kyp1.table (10 - n)) (1 + m) (1 + k)) t = _
      rw [hj, nth_table_more j m k h2]
      unfold Kyp1.frameWays
      rw [cf_addAll, List.map_map]
      refine sum_map_congr fun a ha => ?_
      simp only [Function.comp, nextS_new n m k a h9']
      by_cases c : a = 10
      · rw [if_pos c, if_pos c]
        show _ = cf (Kyp1.shift (a * (1 + m)) (Kyp1.nth (Kyp1.table (10 - (n + 1))) (1 + (k + 1)) (1 + 1))) t
        rw [show 10 - (n + 1) = j + 1 by omega, show 1 + (k + 1) = 1 + k + 1 by omega]
      · rw [if_neg c, if_neg c]
        show _ = cf (Kyp1.shift (a * (1 + m)) (if n = 9 then _ else Kyp1.frameAfter (Kyp1.table (9 - n)) a (1 + k))) t
        rw [if_neg h9, show 9 - n = j + 1 by omega]
  | one n a m h1 h2 h3 h4 =>
    by_cases h9 : n = 9
    · subst h9
      show cf (if 9 = 9 then (if a = 10 then Kyp1.tenthStrike (1 + m) else Kyp1.tenthAfter a (1 + m)) else Kyp1.frameAfter (Kyp1.table (9 - 9)) a (1 + m)) t = ((List.range (leftN [a] + 1)).map _).sum
      rw [if_pos rfl, leftN_one h2]
      by_cases c : a = 10
      · subst c
        rw [if_pos rfl, if_pos rfl]
        unfold Kyp1.tenthStrike
        rw [cf_addAll, List.map_map]
        refine sum_map_congr fun b hb => ?_
        have hb' : b ≤ 10 := by have := List.mem_range.mp hb; omega
        simp only [Function.comp, nextS_one9]
        rw [show (if 10 + b < 10 then (⟨10, [], 0, 0⟩ : CS) else ⟨9, [10, b], 0, 0⟩) = ⟨9, [10, b], 0, 0⟩ from if_neg (by omega)]
        show _ = cf (Kyp1.shift (b * (1 + m)) (Kyp1.addAll ((List.range (if 10 = 10 ∧ b ≠ 10 then 11 - b else 11)).map fun c => Kyp1.shift c [1]))) t
        rw [cf_addAll, cf_shift, List.map_map]
        have e : (if 10 = 10 ∧ b ≠ 10 then 11 - b else 11) = if b = 10 then 11 else 11 - b := by
          by_cases q : b = 10 <;> simp [q]
        rw [e]
        by_cases q : b * (1 + m) ≤ t
        · rw [if_pos q, cf_addAll, List.map_map]
          refine sum_map_congr fun c _ => ?_
          simp only [Function.comp]
          rw [← shift_shift, cf_shift, if_pos q]
        · rw [if_neg q]
          refine sum_map_zero fun c _ => ?_
          simp only [Function.comp]
          rw [← shift_shift, cf_shift, if_neg q]
      · rw [if_neg c, if_neg c]
        unfold Kyp1.tenthAfter
        rw [cf_addAll, List.map_map, show 11 - a = 10 - a + 1 by omega]
        refine sum_map_congr fun b hb => ?_
        have hb' : b ≤ 10 - a := by have := List.mem_range.mp hb; omega
        simp only [Function.comp, nextS_one9]
        by_cases q : a + b = 10
        · rw [if_pos q, if_neg (by omega)]
          show _ = cf (Kyp1.shift (b * (1 + m)) (Kyp1.addAll ((List.range (if a = 10 ∧ b ≠ 10 then 11 - b else 11)).map fun c => Kyp1.shift c [1]))) t
          rw [cf_addAll, cf_shift, List.map_map, if_neg (show ¬ (a = 10 ∧ b ≠ 10) from fun z => c z.1)]
          by_cases q : b * (1 + m) ≤ t
          · rw [if_pos q, cf_addAll, List.map_map]
            refine sum_map_congr fun c _ => ?_
            simp only [Function.comp]
            rw [← shift_shift, cf_shift, if_pos q]
          · rw [if_neg q]
            refine sum_map_zero fun c _ => ?_
            simp only [Function.comp]
            rw [← shift_shift, cf_shift, if_neg q]
        · rw [if_neg q, if_pos (by omega), WS_ten]
    · have h9' : n < 9 := by omega
      show cf (if n = 9 then _ else Kyp1.frameAfter (Kyp1.table (9 - n)) a (1 + m)) t = ((List.range (leftN [a] + 1)).map _).sum
      have ha := h3 h9
      rw [if_neg h9, leftN_one h2, if_neg (by omega)]
      unfold Kyp1.frameAfter
      rw [cf_addAll, List.map_map, show 11 - a = 10 - a + 1 by omega]
      refine sum_map_congr fun b hb => ?_
      simp only [Function.comp, nextS_one n a m b h9']
      show _ = cf (Kyp1.shift (b * (1 + m)) (Kyp1.nth (Kyp1.table (10 - (n + 1))) (1 + (if a + b = 10 then 1 else 0)) (1 + 0))) t
      rw [show 10 - (n + 1) = 9 - n by omega]
      by_cases q : a + b = 10
      · rw [if_pos q, if_pos q]
      · rw [if_neg q, if_neg q]
  | two a b h =>
    show cf (Kyp1.addAll ((List.range (if a = 10 ∧ b ≠ 10 then 11 - b else 11)).map fun c => Kyp1.shift c [1])) t = ((List.range (leftN [a, b] + 1)).map _).sum
    rw [leftN_two h, cf_addAll, List.map_map]
    have e : (if a = 10 ∧ b ≠ 10 then 11 - b else 11) = (if a = 10 then (if b = 10 then 10 else 10 - b) else 10) + 1 := by
      by_cases c : a = 10
      · by_cases q : b = 10
        · simp [c, q]
        · simp [c, q]; omega
      · simp [c]
    rw [e]
    refine sum_map_congr fun c _ => ?_
    simp only [Function.comp]
    rw [nextS_two a b c (by omega), WS_ten]
    simp
end Bw

namespace Bw
/-! ### the dict of a state -/
theorem need_next {s : CS} (g : Good s) (hn : s.n < 10) {r : Nat} (hr : r ≤ leftN s.f) : need (nextS s r) < need s := by
  cases g with
  | new n m k h1 h2 =>
    have hn' : n < 10 := hn
    by_cases h9 : n = 9
    · subst h9
      rw [nextS_new9]; simp [need]
    · rw [nextS_new n m k r (by omega)]
      by_cases c : r = 10
      · rw [if_pos c]; simp [need]; omega
      · rw [if_neg c]; simp [need]; omega
  | one n a m h1 h2 h3 h4 =>
    have hn' : n < 10 := hn
    by_cases h9 : n = 9
    · subst h9
      rw [nextS_one9]
      by_cases c : a + r < 10
      · rw [if_pos c]; simp [need]
      · rw [if_neg c]; simp [need]
    · rw [nextS_one n a m r (by omega)]; simp [need]; omega
  | two a b h =>
    rw [nextS_two a b r (by omega)]; simp [need]
theorem need_pos {s : CS} (g : Good s) (hn : s.n < 10) : 1 ≤ need s := by
  have := need_next g hn (r := 0) (by omega)
  omega
theorem endsD_ten {n : Nat} {s : CS} (h : s.n = 10) : endsD n s = [(0, 1)] := by
  cases n with
  | zero => rfl
  | succ n => show (if s.n = 10 then _ else _) = _; rw [if_pos h]
theorem good_le {s : CS} (g : Good s) : s.n ≤ 10 := by
  cases g with
  | new n m k h1 h2 => exact h1
  | one n a m h1 h2 h3 h4 => exact Nat.le_succ_of_le h1
  | two a b h => exact (by omega : (9 : Nat) ≤ 10)
theorem foldl_congr {α β : Type} {f g : β → α → β} : ∀ (l : List α) (b : β), (∀ b, ∀ x ∈ l, f b x = g b x) → l.foldl f b = l.foldl g b
  | [], _, _ => rfl
  | x :: l, b, h => by
    rw [List.foldl_cons, List.foldl_cons, h b x (by simp)]
    exact foldl_congr l _ fun b y hy => h b y (by simp [hy])
theorem need_zero {s : CS} (g : Good s) (h : need s = 0) : s.n = 10 := by
  by_cases c : s.n = 10
  · exact c
  · have := need_pos g (by have := good_le g; omega)
    omega
theorem endsD_any : ∀ (n m : Nat) (s : CS), Good s → need s ≤ n → need s ≤ m → endsD n s = endsD m s
  | 0, m, s, g, h, _ => by
    have c := need_zero g (by omega)
    rw [endsD_ten c, endsD_ten c]
  | n + 1, 0, s, g, _, h => by
    have c := need_zero g (by omega)
    rw [endsD_ten c, endsD_ten c]
  | n + 1, m + 1, s, g, h1, h2 => by
    show (if s.n = 10 then _ else _) = (if s.n = 10 then _ else _)
    by_cases c : s.n = 10
    · rw [if_pos c, if_pos c]
    · have hn : s.n < 10 := by have := good_le g; omega
      rw [if_neg c, if_neg c]
      refine foldl_congr _ _ fun fd r hr => ?_
      have hr' : r ≤ leftN s.f := by have := List.mem_range.mp hr; omega
      have hlt := need_next g hn hr'
      rw [endsD_any n m (nextS s r) (good_next g hn hr') (by omega) (by omega)]
theorem ends_ten {s : CS} (h : s.n = 10) : ends s = [(0, 1)] := endsD_ten h
/-- one turn of the recursion -/
def endsStep (s : CS) (fd : D) (r : Nat) : D := mergeN (r * (1 + s.m)) fd (ends (nextS s r))
theorem ends_step {s : CS} (g : Good s) (hn : s.n < 10) : ends s = (List.range (leftN s.f + 1)).foldl (endsStep s) [] := by
  have hp := need_pos g hn
  obtain ⟨j, hj⟩ : ∃ j, need s = j + 1 := ⟨need s - 1, by omega⟩
  unfold ends
  rw [hj]
  show (if s.n = 10 then _ else _) = _
  rw [if_neg (by omega)]
  refine foldl_congr _ _ fun fd r hr => ?_
  have hr' : r ≤ leftN s.f := by have := List.mem_range.mp hr; omega
  have hlt := need_next g hn hr'
  unfold endsStep ends
  rw [endsD_any j (need (nextS s r)) (nextS s r) (good_next g hn hr') (by omega) (by omega)]
theorem rep_steps {s : CS} (W : Nat → Nat → Nat) : ∀ (l : List Nat) (d : D) (F : Nat → Nat), Rep d F → (∀ r ∈ l, Rep (ends (nextS s r)) (W r)) →
    Rep (l.foldl (endsStep s) d) fun t => F t + (l.map fun r => if r * (1 + s.m) ≤ t then W r (t - r * (1 + s.m)) else 0).sum
  | [], d, F, h, _ => ⟨h.nodup, h.pos, fun t => by rw [List.foldl_nil, h.val]; simp⟩
  | r :: l, d, F, h, hW => by
    have hr := hW r (by simp)
    have h1 := h.mergeN (r * (1 + s.m)) hr.nodup hr.pos
    have h2 := rep_steps W l _ _ h1 fun q hq => hW q (by simp [hq])
    refine ⟨h2.nodup, h2.pos, fun t => ?_⟩
    have e := h2.val t
    rw [List.foldl_cons]
    unfold endsStep at e ⊢
    rw [e, List.map_cons, List.sum_cons, hr.val]
    omega
/-- the dict of a state counts the ways on -/
theorem rep_ends : ∀ (n : Nat) (s : CS), Good s → need s ≤ n → Rep (ends s) (cf (WS s)) := by
  intro n
  induction n with
  | zero =>
    intro s g h
    have c := need_zero g (by omega)
    rw [ends_ten c]
    cases g with
    | new n m k h1 h2 =>
      have c' : n = 10 := c
      subst c'
      have e : WS ⟨10, [], m, k⟩ = [1] := nth_table_zero m k h2
      rw [e]
      refine ⟨by simp [keysOf], by simp, fun t => ?_⟩
      rw [getN_cons]
      cases t with
      | zero => rfl
      | succ t => rfl
    | one n a m h1 h2 h3 h4 => have c' : n = 10 := c; omega
    | two a b h => have c' : (9 : Nat) = 10 := c; omega
  | succ n ih =>
    intro s g h
    by_cases c : s.n = 10
    · rw [ends_ten c]
      cases g with
      | new n m k h1 h2 =>
        have c' : n = 10 := c
        subst c'
        have e : WS ⟨10, [], m, k⟩ = [1] := nth_table_zero m k h2
        rw [e]
        refine ⟨by simp [keysOf], by simp, fun t => ?_⟩
        rw [getN_cons]
        cases t with
        | zero => rfl
        | succ t => rfl
      | one n a m h1 h2 h3 h4 => have c' : n = 10 := c; omega
      | two a b h => have c' : (9 : Nat) = 10 := c; omega
    · have hn : s.n < 10 := by have := good_le g; omega
      rw [ends_step g hn]
      have q := rep_steps (s := s) (fun r => cf (WS (nextS s r))) (List.range (leftN s.f + 1)) [] (fun _ => 0) Rep.nil fun r hr => by
        have hr' : r ≤ leftN s.f := by have := List.mem_range.mp hr; omega
        exact ih (nextS s r) (good_next g hn hr') (by have := need_next g hn hr'; omega)
      refine ⟨q.nodup, q.pos, fun t => ?_⟩
      rw [q.val, WS_step g hn]
      simp only [cf_shift, Nat.zero_add]
theorem repEnds {s : CS} (g : Good s) : Rep (ends s) (cf (WS s)) := rep_ends _ s g (Nat.le_refl _)
/-! ### where a game's rolls lead -/
theorem good_run : ∀ (m k : Nat) (l : RL) (s : CS), k + m = 10 → 1 ≤ m → okRow m l = true → s.n = k → s.f = [] → Good s → Good (runS s l)
  | 0, _, _, _, _, h, _, _, _, _ => by omega
  | 1, k, l, s, hk, _, ho, hn, hf, g => by
    have hk9 : k = 9 := by omega
    subst hk9
    obtain ⟨n, f, m, kk⟩ := s
    have hn' : n = 9 := hn
    have hf' : f = [] := hf
    subst hn' hf'
    match l, ho with
    | [], _ => exact g
    | [a], ho =>
      simp [okRow, okTen] at ho
      exact good_next g (by show (9 : Nat) < 10; omega) ho
    | [a, b], ho =>
      simp only [okRow, okTen] at ho
      have ha : a ≤ 10 := by
        split at ho
        · omega
        · simp at ho; omega
      have g1 := good_next g (by show (9 : Nat) < 10; omega) (r := a) ha
      rw [runS_cons, runS_cons, runS_nil]
      rw [nextS_new9] at g1 ⊢
      refine good_next g1 (by show (9 : Nat) < 10; omega) ?_
      show b ≤ leftN [a]
      rw [leftN_one ha]
      split at ho
      · simp at ho; rw [if_pos (by assumption)]; exact ho
      · simp at ho; rw [if_neg (by assumption)]; omega
    | [a, b, c], ho =>
      simp only [okRow, okTen] at ho
      have ha : a ≤ 10 := by
        split at ho
        · omega
        · simp at ho; omega
      have hab : (a = 10 ∧ b ≤ 10) ∨ (a < 10 ∧ a + b = 10) := by
        split at ho
        · refine .inl ⟨by assumption, ?_⟩
          split at ho
          · omega
          · simp at ho; omega
        · simp at ho; omega
      have g1 := good_next g (by show (9 : Nat) < 10; omega) (r := a) ha
      rw [runS_cons, runS_cons, runS_cons, runS_nil]
      rw [nextS_new9] at g1 ⊢
      have g2 := good_next g1 (by show (9 : Nat) < 10; omega) (r := b) (by
        show b ≤ leftN [a]
        rw [leftN_one ha]
        split <;> omega)
      rw [nextS_one9, if_neg (by omega)] at g2 ⊢
      refine good_next g2 (by show (9 : Nat) < 10; omega) ?_
      show c ≤ leftN [a, b]
      rw [leftN_two hab]
      split at ho
      · rw [if_pos (by assumption)]
        split at ho
        · simp at ho; rw [if_pos (by assumption)]; exact ho
        · simp at ho; rw [if_neg (by assumption)]; omega
      · simp at ho; rw [if_neg (by assumption)]; omega
    | a :: b :: c :: d :: r, ho => simp [okRow, okTen] at ho
  | m + 2, k, l, s, hk, _, ho, hn, hf, g => by
    have hk9 : k ≠ 9 := by omega
    match l, ho with
    | [], _ => exact g
    | [a], ho =>
      simp [okRow] at ho
      exact good_next g (by omega) (by rw [hf]; exact ho)
    | a :: b :: r, ho =>
      simp only [okRow] at ho
      by_cases ha : a = 10
      · rw [if_pos ha] at ho
        have c1 : isOver k [a] = true := by rw [isOver_one hk9]; simp [ha]
        have p1 := nextS_over (s := s) (a := a) (by rw [hn, hf]; exact c1)
        have g1 := good_next g (by omega) (r := a) (by rw [hf, ha]; exact Nat.le_refl 10)
        exact good_run (m + 1) (k + 1) (b :: r) (nextS s a) (by omega) (by omega) ho (by rw [p1.1, hn]) p1.2 g1
      · rw [if_neg ha] at ho
        simp at ho
        have c1 : isOver k [a] = false := by rw [isOver_one hk9]; simp [ha]
        have p1 := nextS_part (s := s) (a := a) (by rw [hn, hf]; exact c1)
        have p2 := nextS_over (s := nextS s a) (a := b) (by rw [p1.1, p1.2, hn, hf]; exact isOver_two hk9)
        have ha' : a ≤ leftN [] := by rw [leftN_nil]; omega
        have g1 := good_next g (by omega) (r := a) (by rw [hf]; exact ha')
        have g2 := good_next g1 (by rw [p1.1]; omega) (r := b) (by
          rw [p1.2, hf]
          show b ≤ leftN [a]
          rw [leftN_one (by omega), if_neg ha]; omega)
        exact good_run (m + 1) (k + 1) r (nextS (nextS s a) b) (by omega) (by omega) ho.2 (by rw [p2.1, p1.1, hn]) p2.2 g2
theorem goodRun {l : RL} (h : okR l) : Good (runS CS.zero l) := good_run 10 0 l CS.zero rfl (by omega) h rfl rfl good_zero
/-- each roll on the way is one that may be -/
def tot (s : CS) (l : RL) : Nat := (l.foldl startStep (s, 0)).2
theorem tot_from : ∀ (l : RL) (s : CS) (t : Nat), (l.foldl startStep (s, t)).2 = t + tot s l
  | [], s, t => by simp [tot]
  | a :: l, s, t => by
    unfold tot
    rw [List.foldl_cons, List.foldl_cons]
    show (l.foldl startStep (nextS s a, t + a * (1 + s.m))).2 = t + (l.foldl startStep (nextS s a, 0 + a * (1 + s.m))).2
    rw [tot_from l, tot_from l]; omega
theorem tot_cons (s : CS) (a : Nat) (l : RL) : tot s (a :: l) = a * (1 + s.m) + tot (nextS s a) l := by
  show (l.foldl startStep (nextS s a, 0 + a * (1 + s.m))).2 = _
  rw [tot_from]; omega
theorem tot_nil (s : CS) : tot s [] = 0 := rfl
theorem ways_from : ∀ (j n m k : Nat) (l : RL), n + j = 10 → 1 ≤ j → okRow j l = true → (m = 0 ∧ k = 0) ∨ (m = 1 ∧ k = 0) ∨ (m = 1 ∧ k = 1) ∨ (m = 2 ∧ k = 1) →
    Kyp1.waysFrom j (1 + m) (1 + k) l = Kyp1.shift (tot ⟨n, [], m, k⟩ l) (WS (runS ⟨n, [], m, k⟩ l))
  | 0, _, _, _, _, _, h, _, _ => by omega
  | 1, n, m, k, l, hn, _, ho, hmk => by
    have h9 : n = 9 := by omega
    subst h9
    match l, ho with
    | [], _ => rfl
    | [a], ho =>
      rw [runS_cons, runS_nil, tot_cons, tot_nil, nextS_new9]
      show Kyp1.shift (a * (1 + m)) (if a = 10 then Kyp1.tenthStrike (1 + k) else Kyp1.tenthAfter a (1 + k)) = Kyp1.shift (a * (1 + m) + 0) (if 9 = 9 then (if a = 10 then Kyp1.tenthStrike (1 + k) else Kyp1.tenthAfter a (1 + k)) else Kyp1.frameAfter (Kyp1.table (9 - 9)) a (1 + k))
      rw [if_pos rfl, Nat.add_zero]
    | [a, b], ho =>
      rw [runS_cons, runS_cons, runS_nil, tot_cons, nextS_new9, tot_cons, tot_nil, nextS_one9]
      show (if a + b < 10 then Kyp1.shift (a * (1 + m) + b * (1 + k)) [1] else Kyp1.shift (a * (1 + m) + b * (1 + k)) (Kyp1.addAll ((List.range (if a = 10 ∧ b ≠ 10 then 11 - b else 11)).map fun c => Kyp1.shift c [1]))) =
        Kyp1.shift (a * (1 + m) + (b * (1 + k) + 0)) (WS (if a + b < 10 then ⟨10, [], 0, 0⟩ else ⟨9, [a, b], 0, 0⟩))
      rw [Nat.add_zero]
      by_cases c : a + b < 10
      · rw [if_pos c, if_pos c, WS_ten]
      · rw [if_neg c, if_neg c]; rfl
    | [a, b, c], ho =>
      have h10 : 10 ≤ a + b := by
        simp only [okRow, okTen] at ho
        split at ho
        · omega
        · simp at ho; omega
      rw [runS_cons, runS_cons, runS_cons, runS_nil, tot_cons, nextS_new9, tot_cons, nextS_one9, if_neg (by omega), tot_cons, tot_nil, nextS_two a b c h10, WS_ten]
      show Kyp1.shift (a * (1 + m) + b * (1 + k) + Kyp1.sum [c]) [1] = Kyp1.shift (a * (1 + m) + (b * (1 + k) + (c * (1 + 0) + 0))) [1]
      rw [ksum]
      congr 1
      simp
      omega
    | a :: b :: c :: d :: r, ho => simp [okRow, okTen] at ho
  | j + 2, n, m, k, l, hn, _, ho, hmk => by
    have h9 : n < 9 := by omega
    match l, ho with
    | [], _ =>
      show Kyp1.nth (Kyp1.table (j + 2)) (1 + m) (1 + k) = Kyp1.shift 0 (Kyp1.nth (Kyp1.table (10 - n)) (1 + m) (1 + k))
      rw [show 10 - n = j + 2 by omega, shift_zero]
    | [a], ho =>
      rw [runS_cons, runS_nil, tot_cons, tot_nil, nextS_new n m k a h9, Nat.add_zero]
      show Kyp1.shift (a * (1 + m)) (if a = 10 then Kyp1.nth (Kyp1.table (j + 1)) (1 + k + 1) 2 else Kyp1.frameAfter (Kyp1.table (j + 1)) a (1 + k)) = Kyp1.shift (a * (1 + m)) (WS (if a = 10 then ⟨n + 1, [], k + 1, 1⟩ else ⟨n, [a], k, 0⟩))
      by_cases c : a = 10
      · rw [if_pos c, if_pos c]
        show _ = Kyp1.shift (a * (1 + m)) (Kyp1.nth (Kyp1.table (10 - (n + 1))) (1 + (k + 1)) (1 + 1))
        rw [show 10 - (n + 1) = j + 1 by omega, show 1 + (k + 1) = 1 + k + 1 by omega]
      · rw [if_neg c, if_neg c]
        show _ = Kyp1.shift (a * (1 + m)) (if n = 9 then (if a = 10 then Kyp1.tenthStrike (1 + k) else Kyp1.tenthAfter a (1 + k)) else Kyp1.frameAfter (Kyp1.table (9 - n)) a (1 + k))
        rw [if_neg (by omega), show 9 - n = j + 1 by omega]
    | a :: b :: r, ho =>
      simp only [okRow] at ho
      by_cases c : a = 10
      · rw [if_pos c] at ho
        have ih := ways_from (j + 1) (n + 1) (k + 1) 1 (b :: r) (by omega) (by omega) ho (by omega)
        rw [runS_cons, tot_cons, nextS_new n m k a h9, if_pos c]
        show (if a = 10 then Kyp1.shift (a * (1 + m)) (Kyp1.waysFrom (j + 1) (1 + k + 1) 2 (b :: r)) else Kyp1.shift (a * (1 + m) + b * (1 + k)) (Kyp1.waysFrom (j + 1) (if a + b = 10 then 2 else 1) 1 r)) = _
        rw [if_pos c, show 1 + k + 1 = 1 + (k + 1) by omega, show (2 : Nat) = 1 + 1 from rfl, ih, shift_shift]
      · rw [if_neg c] at ho
        simp at ho
        have ih := ways_from (j + 1) (n + 1) (if a + b = 10 then 1 else 0) 0 r (by omega) (by omega) ho.2 (by split <;> omega)
        rw [runS_cons, runS_cons, tot_cons, nextS_new n m k a h9, if_neg c, tot_cons, nextS_one n a k b h9]
        show (if a = 10 then Kyp1.shift (a * (1 + m)) (Kyp1.waysFrom (j + 1) (1 + k + 1) 2 (b :: r)) else Kyp1.shift (a * (1 + m) + b * (1 + k)) (Kyp1.waysFrom (j + 1) (if a + b = 10 then 2 else 1) 1 r)) = _
        rw [if_neg c]
        have e : (if a + b = 10 then 2 else 1) = 1 + (if a + b = 10 then 1 else 0) := by split <;> rfl
        rw [e, show (1 : Nat) = 1 + 0 from rfl, ih, shift_shift]
        simp only [Nat.add_zero, Nat.add_assoc]
theorem ways_ok {l : RL} (h : okR l) : Kyp1.ways l = Kyp1.shift (startF l).2 (WS (startF l).1) := by
  rw [startF_fst]
  have := ways_from 10 0 0 0 l rfl (by omega) h (by omega)
  exact this
/-! ### the answers -/
theorem getN_map_add (t : Nat) : ∀ (d : D) (s : Nat), getN (d.map fun p => (t + p.1, p.2)) s = if t ≤ s then getN d (s - t) else 0
  | [], s => by simp [getN]
  | p :: d, s => by
    rw [List.map_cons, getN_cons, getN_cons, getN_map_add t d]
    by_cases c : t ≤ s
    · rw [if_pos c, if_pos c]
      by_cases e : t + p.1 = s
      · rw [if_pos e, if_pos (show p.1 = s - t by omega)]
      · rw [if_neg e, if_neg (show ¬ p.1 = s - t by omega)]
    · rw [if_neg c, if_neg c, if_neg (show ¬ t + p.1 = s by omega)]
theorem rep_ways {l : RL} (h : okR l) : Rep (waysD l) (cf (Kyp1.ways l)) := by
  have g : Good (startF l).1 := by rw [startF_fst]; exact goodRun h
  have r := repEnds g
  refine ⟨?_, ?_, fun s => ?_⟩
  · have e : keysOf (waysD l) = (keysOf (ends (startF l).1)).map fun x => (startF l).2 + x := by
      unfold keysOf waysD; rw [List.map_map, List.map_map]; rfl
    rw [e]
    exact List.Pairwise.map _ (fun a b h z => h (by omega)) r.nodup
  · intro p hp
    obtain ⟨q, hq, e⟩ := List.mem_map.mp hp
    subst e
    exact r.pos q hq
  · unfold waysD
    rw [getN_map_add, ways_ok h, cf_shift, r.val]
theorem waysTo_ok {l : RL} (h : okR l) (s : Nat) : Kyp1.waysTo l s = getN (waysD l) s := ((rep_ways h).val s).symm
theorem mem_keys {l : RL} (h : okR l) (s : Nat) : s ∈ keysOf (waysD l) ↔ s ∈ Kyp1.scoresOf (Kyp1.ways l) := by
  have r := rep_ways h
  unfold Kyp1.scoresOf
  rw [List.mem_filter, List.mem_range]
  constructor
  · intro m
    have p := getN_pos r.pos m
    rw [r.val] at p
    refine ⟨?_, ?_⟩
    · rcases Nat.lt_or_ge s (Kyp1.ways l).length with q | q
      · exact q
      · unfold cf at p
        rw [List.getD_eq_getElem?_getD, List.getElem?_eq_none q] at p
        exact absurd p (by simp)
    · unfold cf at p
      have z : (Kyp1.ways l).getD s 0 ≠ 0 := by omega
      simpa using z
  · rintro ⟨_, q⟩
    rcases Classical.em (s ∈ keysOf (waysD l)) with m | m
    · exact m
    · have z := getN_notin m
      rw [r.val] at z
      unfold cf at z
      rw [z] at q
      simp at q
theorem ends_ne {s : CS} (g : Good s) : ends s ≠ [] := by
  intro e
  have r := repEnds g
  rw [e] at r
  have z : ∀ t, cf (WS s) t = 0 := fun t => (r.val t).symm
  -- the way of no pins more
  suffices h : ∀ (n : Nat) (s : CS), Good s → need s ≤ n → 0 < cf (WS s) 0 by
    have := h _ s g (Nat.le_refl _)
    rw [z 0] at this
    omega
  intro n
  induction n with
  | zero =>
    intro s g h
    have c := need_zero g (by omega)
    cases g with
    | new n m k h1 h2 =>
      have c' : n = 10 := c
      subst c'
      have e : WS ⟨10, [], m, k⟩ = [1] := nth_table_zero m k h2
      rw [e]; simp [cf]
    | one n a m h1 h2 h3 h4 => have c' : n = 10 := c; omega
    | two a b h => have c' : (9 : Nat) = 10 := c; omega
  | succ n ih =>
    intro s g h
    by_cases c : s.n = 10
    · cases g with
      | new n m k h1 h2 =>
        have c' : n = 10 := c
        subst c'
        have e : WS ⟨10, [], m, k⟩ = [1] := nth_table_zero m k h2
        rw [e]; simp [cf]
      | one n a m h1 h2 h3 h4 => have c' : n = 10 := c; omega
      | two a b h => have c' : (9 : Nat) = 10 := c; omega
    · have hn : s.n < 10 := by have := good_le g; omega
      rw [WS_step g hn]
      have q := ih (nextS s 0) (good_next g hn (by omega)) (by have := need_next g hn (r := 0) (by omega); omega)
      rw [List.range_succ_eq_map, List.map_cons, List.sum_cons]
      simp only [Nat.zero_mul, shift_zero]
      omega
theorem keys_ne {l : RL} (h : okR l) : keysOf (waysD l) ≠ [] := by
  have g : Good (startF l).1 := by rw [startF_fst]; exact goodRun h
  intro e
  unfold keysOf waysD at e
  rw [List.map_map] at e
  exact ends_ne g (List.map_eq_nil_iff.mp e)
theorem minL_mem : ∀ {l : List Nat}, l ≠ [] → minL l ∈ l
  | [], h => absurd rfl h
  | [a], _ => by simp [minL]
  | a :: b :: r, _ => by
    have ih := minL_mem (l := b :: r) (by simp)
    simp only [minL]
    rcases Nat.le_total a (minL (b :: r)) with q | q
    · rw [Nat.min_eq_left q]; simp
    · rw [Nat.min_eq_right q]; exact List.mem_cons_of_mem _ ih
theorem minL_le : ∀ {l : List Nat} {x : Nat}, x ∈ l → minL l ≤ x
  | [], _, h => nomatch h
  | [a], x, h => by simp at h; simp [minL, h]
  | a :: b :: r, x, h => by
    simp only [minL]
    rcases List.mem_cons.mp h with e | h
    · subst e; exact Nat.min_le_left _ _
    · exact Nat.le_trans (Nat.min_le_right _ _) (minL_le h)
theorem minL_uniq {l : List Nat} {m : Nat} (h1 : m ∈ l) (h2 : ∀ x ∈ l, m ≤ x) : m = minL l :=
  Nat.le_antisymm (h2 _ (minL_mem (fun e => by rw [e] at h1; exact nomatch h1))) (minL_le h1)
theorem foldl_max_ge : ∀ (l : List Nat) (a : Nat), a ≤ l.foldl max a ∧ ∀ x ∈ l, x ≤ l.foldl max a
  | [], a => ⟨Nat.le_refl _, fun _ h => nomatch h⟩
  | b :: l, a => by
    obtain ⟨h1, h2⟩ := foldl_max_ge l (max a b)
    rw [List.foldl_cons]
    refine ⟨by omega, fun x hx => ?_⟩
    rcases List.mem_cons.mp hx with e | hx
    · subst e; omega
    · exact h2 x hx
theorem foldl_max_mem : ∀ (l : List Nat) (a : Nat), l.foldl max a = a ∨ l.foldl max a ∈ l
  | [], a => .inl rfl
  | b :: l, a => by
    rw [List.foldl_cons]
    rcases foldl_max_mem l (max a b) with h | h
    · rw [h]
      rcases Nat.le_total a b with q | q
      · rw [Nat.max_eq_right q]; exact .inr (by simp)
      · rw [Nat.max_eq_left q]; exact .inl rfl
    · exact .inr (List.mem_cons_of_mem _ h)
theorem maxL_uniq {l : List Nat} {m : Nat} (h1 : m ∈ l) (h2 : ∀ x ∈ l, x ≤ m) : m = maxL l := by
  unfold maxL
  have g := (foldl_max_ge l 0).2 m h1
  rcases foldl_max_mem l 0 with e | e
  · rw [e] at g ⊢; omega
  · exact Nat.le_antisymm g (h2 _ e)
theorem sorted_scores (w : Kyp1.Ways) : (Kyp1.scoresOf w).Pairwise (· < ·) := by
  unfold Kyp1.scoresOf
  exact List.Pairwise.filter _ List.pairwise_lt_range
theorem least_ok {l : RL} (h : okR l) : Kyp1.least l = minL (keysOf (waysD l)) := by
  unfold Kyp1.least
  have s := sorted_scores (Kyp1.ways l)
  cases e : Kyp1.scoresOf (Kyp1.ways l) with
  | nil =>
    exfalso
    have := minL_mem (keys_ne h)
    rw [mem_keys h, e] at this
    exact nomatch this
  | cons a r =>
    rw [e, List.pairwise_cons] at s
    refine minL_uniq ?_ fun x hx => ?_
    · rw [mem_keys h, e]; simp
    · rw [mem_keys h, e] at hx
      rcases List.mem_cons.mp hx with q | q
      · subst q; exact Nat.le_refl _
      · exact Nat.le_of_lt (s.1 x q)
theorem most_ok {l : RL} (h : okR l) : Kyp1.most l = maxL (keysOf (waysD l)) := by
  unfold Kyp1.most
  have s := sorted_scores (Kyp1.ways l)
  have hne : Kyp1.scoresOf (Kyp1.ways l) ≠ [] := by
    intro e
    have := minL_mem (keys_ne h)
    rw [mem_keys h, e] at this
    exact nomatch this
  have e : Kyp1.scoresOf (Kyp1.ways l) = (Kyp1.scoresOf (Kyp1.ways l)).dropLast ++ [(Kyp1.scoresOf (Kyp1.ways l)).getLastD 0] := by
    rw [List.getLastD_eq_getLast?, List.getLast?_eq_some_getLast hne]
    exact (List.dropLast_concat_getLast hne).symm
  refine maxL_uniq ?_ fun x hx => ?_
  · rw [mem_keys h, e]; simp
  · rw [mem_keys h, e] at hx
    rcases List.mem_append.mp hx with q | q
    · rw [e, List.pairwise_append] at s
      exact Nat.le_of_lt (s.2.2 x q _ (by simp))
    · simp at q; subst q; simp
end Bw

namespace Bw
/-! ### bounds for the walk: the dict's size, the memo's size -/
theorem nodup_sub {α : Type} [DecidableEq α] : ∀ (l m : List α), l.Nodup → (∀ x ∈ l, x ∈ m) → l.length ≤ m.length
  | [], _, _, _ => Nat.zero_le _
  | a :: l, m, hn, hs => by
    rw [List.nodup_cons] at hn
    have ha := hs a (by simp)
    have h := nodup_sub l (m.erase a) hn.2 fun x hx => by
      have ne : x ≠ a := fun e => hn.1 (e ▸ hx)
      exact (List.mem_erase_of_ne ne).mpr (hs x (by simp [hx]))
    rw [List.length_erase_of_mem ha] at h
    have : 0 < m.length := List.length_pos_of_mem ha
    rw [List.length_cons]; omega
theorem nodup_range {l : List Nat} {n : Nat} (h : l.Nodup) (hb : ∀ x ∈ l, x < n) : l.length ≤ n := by
  have := nodup_sub l (List.range n) h fun x hx => List.mem_range.mpr (hb x hx)
  rwa [List.length_range] at this
/-- a dict whose keys are small and differ -/
structure DOk (d : D) : Prop where
  nd : (keysOf d).Nodup
  small : ∀ p ∈ d, p.1 ≤ 930
theorem DOk.len {d : D} (h : DOk d) : d.length ≤ 931 := by
  have := nodup_range (n := 931) h.nd fun x hx => by
    obtain ⟨p, hp, rfl⟩ := List.mem_map.mp hx
    have := h.small p hp
    omega
  rwa [keysOf, List.length_map] at this
theorem putN_keys (d : D) (k v b : Nat) (hk : k ≤ b) (h : ∀ p ∈ d, p.1 ≤ b) : ∀ p ∈ putN d k v, p.1 ≤ b := by
  intro p hp
  unfold putN at hp
  split at hp
  · obtain ⟨q, hq, e⟩ := List.mem_map.mp hp
    by_cases c : q.1 = k
    · rw [if_pos c] at e; subst e; exact h q hq
    · rw [if_neg c] at e; subst e; exact h q hq
  · rcases List.mem_append.mp hp with h1 | h1
    · exact h p h1
    · simp at h1; subst h1; exact hk
theorem putN_nodup {d : D} (h : (keysOf d).Nodup) (k v : Nat) : (keysOf (putN d k v)).Nodup := by
  rw [keysOf_putN]
  split
  · exact h
  · rename_i c
    rw [List.nodup_append]
    refine ⟨h, by simp, ?_⟩
    intro a ha b hb
    simp at hb
    subst hb
    exact fun e => c (e ▸ ha)
theorem DOk.nil : DOk [] := ⟨List.nodup_nil, fun p h => by simp at h⟩
theorem DOk.add {d : D} (h : DOk d) {w : Nat} {p : Nat × Nat} (hw : w + p.1 ≤ 930) : DOk (addN w d p) := ⟨putN_nodup h.nd _ _, putN_keys d _ _ 930 hw h.small⟩
theorem DOk.merge {w : Nat} : ∀ {there : D} {d : D}, DOk d → (∀ p ∈ there, w + p.1 ≤ 930) → DOk (mergeN w d there)
  | [], _, h, _ => h
  | p :: there, d, h, hb => DOk.merge (there := there) (h.add (hb p (by simp))) fun q hq => hb q (by simp [hq])
theorem mergeN_keys (w b : Nat) : ∀ (there d : D), (∀ p ∈ d, p.1 ≤ b) → (∀ p ∈ there, w + p.1 ≤ b) → ∀ p ∈ mergeN w d there, p.1 ≤ b
  | [], _, h, _ => h
  | p :: there, d, h, hb => mergeN_keys w b there _ (putN_keys d _ _ b (hb p (by simp)) h) fun q hq => hb q (by simp [hq])
theorem good_m {s : CS} (g : Good s) : s.m ≤ 2 := by
  cases g with
  | new n m k h1 h2 => show m ≤ 2; omega
  | one n a m h1 h2 h3 h4 => show m ≤ 2; omega
  | two a b h => show (0 : Nat) ≤ 2; omega
theorem good_left {s : CS} (g : Good s) : leftI s.f = (leftN s.f : Nat) ∧ leftN s.f ≤ 10 := by
  have h : 0 ≤ leftI s.f ∧ leftI s.f ≤ 10 := by
    cases g with
    | new n m k h1 h2 => show 0 ≤ leftI [] ∧ leftI [] ≤ 10; simp [leftI]
    | one n a m h1 h2 h3 h4 =>
      show 0 ≤ leftI [a] ∧ leftI [a] ≤ 10
      by_cases c : (10 : Int) - (a : Int) = 0
      · simp [leftI, c]
      · simp [leftI, c]
        omega
    | two a b h =>
      show 0 ≤ leftI [a, b] ∧ leftI [a, b] ≤ 10
      rcases h with ⟨h1, h2⟩ | ⟨h1, h2⟩
      · subst h1
        simp [leftI]
        split <;> omega
      · have c : ¬ (10 : Int) - (a : Int) = 0 := by omega
        simp [leftI, c]
        split <;> omega
  unfold leftN
  omega
theorem good_f {s : CS} (g : Good s) : s.f.length ≤ 2 := by
  cases g with
  | new n m k h1 h2 => exact Nat.zero_le _
  | one n a m h1 h2 h3 h4 => exact Nat.le_succ _
  | two a b h => exact Nat.le_refl _
theorem need_le (s : CS) : need s ≤ 30 := by unfold need; omega
theorem worth_le {s : CS} (g : Good s) {r : Nat} (hr : r ≤ leftN s.f) : r * (1 + s.m) ≤ 30 := by
  have h1 := good_m g
  have h2 := (good_left g).2
  have := Nat.mul_le_mul (show r ≤ 10 by omega) (show 1 + s.m ≤ 3 by omega)
  omega
theorem fold_keys {s : CS} (b : Nat) : ∀ (l : List Nat) (d : D), (∀ p ∈ d, p.1 ≤ b) → (∀ r ∈ l, ∀ p ∈ ends (nextS s r), r * (1 + s.m) + p.1 ≤ b) → ∀ p ∈ l.foldl (endsStep s) d, p.1 ≤ b
  | [], _, h, _ => h
  | r :: l, d, h, hb => fold_keys b l _ (mergeN_keys _ b _ _ h (hb r (by simp))) fun q hq => hb q (by simp [hq])
theorem ends_keys : ∀ (n : Nat) (s : CS), Good s → need s ≤ n → ∀ p ∈ ends s, p.1 ≤ 30 * n
  | 0, s, g, h => by
    have c := need_zero g (by omega)
    rw [ends_ten c]
    intro p hp
    simp at hp
    subst hp
    exact Nat.zero_le _
  | n + 1, s, g, h => by
    by_cases c : s.n = 10
    · rw [ends_ten c]
      intro p hp
      simp at hp
      subst hp
      exact Nat.zero_le _
    · have hn : s.n < 10 := by have := good_le g; omega
      rw [ends_step g hn]
      refine fold_keys _ _ _ (fun p hp => by simp at hp) fun r hr p hp => ?_
      have hr' : r ≤ leftN s.f := by have := List.mem_range.mp hr; omega
      have h1 := worth_le g hr'
      have h2 := ends_keys n (nextS s r) (good_next g hn hr') (by have := need_next g hn hr'; omega) p hp
      omega
/-- what a turn of the recursion adds stays small -/
theorem ends_small {s : CS} (g : Good s) (hn : s.n < 10) {r : Nat} (hr : r ≤ leftN s.f) : ∀ p ∈ ends (nextS s r), r * (1 + s.m) + p.1 ≤ 930 := by
  intro p hp
  have h1 := worth_le g hr
  have h2 := ends_keys 30 (nextS s r) (good_next g hn hr) (need_le _) p hp
  omega
theorem ends_DOk {s : CS} (g : Good s) : DOk (ends s) := ⟨(repEnds g).nodup, fun p hp => by have := ends_keys 30 s g (need_le s) p hp; omega⟩
/-- a good state as a number -/
def stCode (s : CS) : Nat := (((s.n * 12 + (match s.f with
  | [] => 0
  | a :: _ => a + 1)) * 12 + (match s.f with
  | _ :: b :: _ => b + 1
  | _ => 0)) * 3 + s.m) * 2 + s.k
theorem stCode_lt {s : CS} (g : Good s) : stCode s < 10000 := by
  cases g with
  | new n m k h1 h2 => simp only [stCode]; omega
  | one n a m h1 h2 h3 h4 => simp only [stCode]; omega
  | two a b h => simp only [stCode]; omega
theorem stCode_inj {s t : CS} (g : Good s) (g' : Good t) (h : stCode s = stCode t) : s = t := by
  cases g with
  | new n m k h1 h2 =>
    cases g' with
    | new n' m' k' h1' h2' =>
      simp only [stCode] at h
      obtain ⟨rfl, rfl, rfl⟩ : n = n' ∧ m = m' ∧ k = k' := by omega
      rfl
    | one n' a m' h1' h2' h3' h4' => simp only [stCode] at h; omega
    | two a b h' => simp only [stCode] at h; omega
  | one n a m h1 h2 h3 h4 =>
    cases g' with
    | new n' m' k' h1' h2' => simp only [stCode] at h; omega
    | one n' a' m' h1' h2' h3' h4' =>
      simp only [stCode] at h
      obtain ⟨rfl, rfl, rfl⟩ : n = n' ∧ a = a' ∧ m = m' := by omega
      rfl
    | two a b h' => simp only [stCode] at h; omega
  | two a b h0 =>
    cases g' with
    | new n' m' k' h1' h2' => simp only [stCode] at h; omega
    | one n' a' m' h1' h2' h3' h4' => simp only [stCode] at h; omega
    | two a' b' h' =>
      simp only [stCode] at h
      obtain ⟨rfl, rfl⟩ : a = a' ∧ b = b' := by omega
      rfl
theorem nodup_map_on {α β : Type} {f : α → β} : ∀ {l : List α}, l.Nodup → (∀ x ∈ l, ∀ y ∈ l, f x = f y → x = y) → (l.map f).Nodup
  | [], _, _ => List.nodup_nil
  | a :: l, h, hf => by
    rw [List.nodup_cons] at h
    rw [List.map_cons, List.nodup_cons]
    refine ⟨fun hm => ?_, nodup_map_on h.2 fun x hx y hy => hf x (by simp [hx]) y (by simp [hy])⟩
    obtain ⟨y, hy, e⟩ := List.mem_map.mp hm
    have := hf y (by simp [hy]) a (by simp) e
    exact h.1 (this ▸ hy)
theorem states_len {l : List CS} (hn : l.Nodup) (hg : ∀ s ∈ l, Good s) : l.length ≤ 10000 := by
  have := nodup_range (n := 10000) (nodup_map_on (f := stCode) hn fun x hx y hy => stCode_inj (hg x hx) (hg y hy)) fun x hx => by
    obtain ⟨s, hs, rfl⟩ := List.mem_map.mp hx
    exact stCode_lt (hg s hs)
  rwa [List.length_map] at this
end Bw

namespace Bw
/-! ### rows in order -/
theorem rowLe_total (x y : Int × Int × Int) : rowLe x y = true ∨ rowLe y x = true := by
  obtain ⟨a, b, c⟩ := x
  obtain ⟨d, e, f⟩ := y
  simp only [rowLe, Bool.or_eq_true, Bool.and_eq_true, decide_eq_true_eq, beq_iff_eq]
  omega
theorem rowLe_trans (x y z : Int × Int × Int) (h1 : rowLe x y = true) (h2 : rowLe y z = true) : rowLe x z = true := by
  obtain ⟨a, b, c⟩ := x
  obtain ⟨d, e, f⟩ := y
  obtain ⟨g, h, i⟩ := z
  simp only [rowLe, Bool.or_eq_true, Bool.and_eq_true, decide_eq_true_eq, beq_iff_eq] at *
  omega
theorem rowLe_anti (x y : Int × Int × Int) (h1 : rowLe x y = true) (h2 : rowLe y x = true) : x = y := by
  obtain ⟨a, b, c⟩ := x
  obtain ⟨d, e, f⟩ := y
  simp only [rowLe, Bool.or_eq_true, Bool.and_eq_true, decide_eq_true_eq, beq_iff_eq] at *
  have h : a = d ∧ b = e ∧ c = f := by omega
  rw [h.1, h.2.1, h.2.2]
theorem rowPut_perm (x : Int × Int × Int) : ∀ l, (rowPut x l).Perm (x :: l)
  | [] => List.Perm.refl _
  | y :: l => by
    unfold rowPut
    split
    · exact List.Perm.refl _
    · exact ((rowPut_perm x l).cons y).trans (List.Perm.swap x y l)
theorem rowSort_perm : ∀ l, (rowSort l).Perm l
  | [] => List.Perm.refl _
  | x :: l => (rowPut_perm x (rowSort l)).trans ((rowSort_perm l).cons x)
theorem rowPut_sorted (x : Int × Int × Int) : ∀ l, l.Pairwise (fun a b => rowLe a b = true) → (rowPut x l).Pairwise fun a b => rowLe a b = true
  | [], _ => by simp [rowPut]
  | y :: l, h => by
    unfold rowPut
    rw [List.pairwise_cons] at h
    by_cases c : rowLe x y = true
    · rw [if_pos c, List.pairwise_cons, List.pairwise_cons]
      refine ⟨fun z hz => ?_, h⟩
      rcases List.mem_cons.mp hz with e | hz
      · rw [e]; exact c
      · exact rowLe_trans x y z c (h.1 z hz)
    · rw [if_neg c, List.pairwise_cons]
      refine ⟨fun z hz => ?_, rowPut_sorted x l h.2⟩
      have hz' := (rowPut_perm x l).mem_iff.mp hz
      rcases List.mem_cons.mp hz' with e | hz'
      · rw [e]; exact (rowLe_total x y).resolve_left c
      · exact h.1 z hz'
theorem rowSort_sorted : ∀ l, (rowSort l).Pairwise fun a b => rowLe a b = true
  | [] => List.Pairwise.nil
  | x :: l => rowPut_sorted x _ (rowSort_sorted l)
theorem sorted_uniq {α : Type} {le : α → α → Prop} (anti : ∀ x y, le x y → le y x → x = y) : ∀ {l m : List α}, l.Perm m → l.Pairwise le → m.Pairwise le → l = m
  | [], m, p, _, _ => (List.nil_perm.mp p).symm
  | x :: l, [], p, _, _ => by have := p.length_eq; simp at this
  | x :: l, y :: m, p, hl, hm => by
    rw [List.pairwise_cons] at hl hm
    have e : x = y := by
      rcases List.mem_cons.mp (p.mem_iff.mp (List.mem_cons_self (a := x))) with h | h
      · exact h
      rcases List.mem_cons.mp (p.mem_iff.mpr (List.mem_cons_self (a := y))) with h2 | h2
      · exact h2.symm
      · exact anti x y (hl.1 y h2) (hm.1 x h)
    subst e
    rw [sorted_uniq anti (List.perm_cons x |>.mp p) hl.2 hm.2]
theorem mergeSort_rows (l : List (Int × Int × Int)) : l.mergeSort rowLe = rowSort l := by
  refine sorted_uniq rowLe_anti ((List.mergeSort_perm l rowLe).trans (rowSort_perm l).symm) ?_ (rowSort_sorted l)
  exact List.pairwise_mergeSort (fun a b c => rowLe_trans a b c) (fun a b => by rw [Bool.or_eq_true]; exact rowLe_total a b) l
theorem rowFrom_len : ∀ (l : List Tm) (i : Nat), (rowFrom i l).length = l.length
  | [], _ => rfl
  | t :: l, i => by show (rowFrom (i + 1) l).length + 1 = _; rw [rowFrom_len l]; rfl
theorem rowFrom_at : ∀ (l : List Tm) (i j : Nat) (t : Tm), l[j]? = some t → (rowFrom i l)[j]? = some (-(t.points : Int), -(t.pins : Int), ((i + j : Nat) : Int))
  | [], _, _, _, h => by simp at h
  | u :: l, i, 0, t, h => by cases h; rfl
  | u :: l, i, j + 1, t, h => by
    have := rowFrom_at l (i + 1) j t h
    show (rowFrom (i + 1) l)[j]? = _
    rw [this, show i + 1 + j = i + (j + 1) by omega]
end Bw

namespace Bw
/-! ### what the walk asks of groups, leagues, halls -/
def RowsOk (g : Grp) : Prop := g.rolls ≠ [] ∧ g.rolls.length ≤ 1000 ∧ ∀ r ∈ g.rolls, r.length ≤ 999
theorem turn_lt {g : Grp} (h : g.rolls ≠ []) : g.turn < g.rolls.length := by
  have hn : g.overs ≠ [] := fun e => h (List.map_eq_nil_iff.mp e)
  have := List.idxOf_lt_length_iff.mpr (minL_mem hn)
  unfold Grp.overs at this
  rw [List.length_map] at this
  exact this
theorem row_at {g : Grp} {p : Nat} (h : p < g.rolls.length) : g.rolls[p]? = some (g.row p) := by
  unfold Grp.row
  rw [List.getD_eq_getElem?_getD, List.getElem?_eq_getElem h]; rfl
def RollOk (g : Grp) (n : Nat) : Prop := RowsOk g ∧ g.turns.length ≤ 1000 ∧ g.fin.length ≤ 1000 ∧ g.size ≤ 1000 ∧ (g.ends n = true → ∀ r ∈ g.put n, ∀ x ∈ frameScores r, x.isSome = true)
structure LgOk (q : Lg) : Prop where
  teams : q.teams.length ≤ 60
  base : q.base ≤ 1000
  percent : q.percent ≤ 1000
  three : ∀ t ∈ q.teams, t.scores.length = 3
  rows : ∀ t ∈ q.teams, ∀ r ∈ t.scores, r.length ≤ 1000
structure GOk (g : Grp) : Prop where
  size : 1 ≤ g.size ∧ g.size ≤ 6
  rolls : g.rolls.length = g.size
  rows : ∀ r ∈ g.rolls, okR r
  going : minL g.overs < 10
  turns : g.turns.length ≤ 900
  last : g.turns ≠ [] → g.last < g.rolls.length ∧ g.row g.last ≠ []
  fin : g.fin.length ≤ 20
  finLen : ∀ r ∈ g.fin, r.length = g.size
structure HOk (h : Hl) : Prop where
  lanes : h.owners.length ≤ 8
  broken : h.broken.length = h.owners.length
  own : ∀ g, some g ∈ h.owners → g < h.groups.length
  line : ∀ g ∈ h.line, g < h.groups.length
  lineLen : h.line.length ≤ 60
  place : ∀ g, g < h.groups.length → (h.grp g).gone = false → h.laneOf g = none → g ∈ h.line
  groups : h.groups.length ≤ 60
  price : h.price ≤ 10000
  lend : h.lend ≤ 10000
  grp : ∀ g ∈ h.groups, GOk g
  lg : LgOk h.league
  rows : ∀ t ∈ h.league.teams, ∀ r ∈ t.scores, r.length ≤ 900
  team : ∀ g ∈ h.groups, ∀ t, g.team = some t → t < h.league.teams.length ∧ g.size = 3
theorem grp_at {h : Hl} {i : Nat} (hi : i < h.groups.length) : h.groups[i]? = some (h.grp i) := by
  unfold Hl.grp; rw [List.getD_eq_getElem?_getD, List.getElem?_eq_getElem hi]; rfl
theorem HOk.at {h : Hl} (x : HOk h) {g : Nat} (hg : g < h.groups.length) : GOk (h.grp g) := x.grp _ (List.mem_of_getElem? (grp_at hg))
theorem okR_len {l : RL} (h : okR l) : l.length ≤ 21 := okRow_len 10 l h
theorem GOk.ne {g : Grp} (x : GOk g) : g.rolls ≠ [] := fun e => by
  have h1 := x.rolls
  have h2 := x.size.1
  rw [e] at h1
  have h3 : 0 = g.size := h1
  omega
theorem GOk.rowsOk {g : Grp} (x : GOk g) : RowsOk g := by
  refine ⟨x.ne, by rw [x.rolls]; have := x.size.2; omega, fun r hr => by have := okR_len (x.rows r hr); omega⟩
theorem okR_ten : ∀ (m : Nat) (l : RL), okRow m l = true → ∀ r ∈ l, r ≤ 10
  | 0, l, h, r, hr => by simp [okRow] at h; subst h; simp at hr
  | 1, [], h, r, hr => by simp at hr
  | 1, [a], h, r, hr => by simp [okRow, okTen] at h; simp at hr; omega
  | 1, [a, b], h, r, hr => by
    simp [okRow, okTen] at h
    simp at hr
    split at h <;> rcases hr with e | e <;> omega
  | 1, [a, b, c], h, r, hr => by
    simp [okRow, okTen] at h
    simp at hr
    split at h
    · split at h <;> rcases hr with e | e | e <;> omega
    · rcases hr with e | e | e <;> omega
  | 1, a :: b :: c :: d :: l, h, r, hr => by simp [okRow, okTen] at h
  | m + 2, [], h, r, hr => by simp at hr
  | m + 2, [a], h, r, hr => by simp [okRow] at h; simp at hr; omega
  | m + 2, a :: b :: l, h, r, hr => by
    simp only [okRow] at h
    by_cases c : a = 10
    · rw [if_pos c] at h
      rcases List.mem_cons.mp hr with e | hr
      · omega
      · exact okR_ten (m + 1) _ h r hr
    · rw [if_neg c, Bool.and_eq_true, decide_eq_true_eq] at h
      rcases List.mem_cons.mp hr with e | hr
      · omega
      rcases List.mem_cons.mp hr with e | hr
      · omega
      · exact okR_ten (m + 1) _ h.2 r hr
theorem okR_goodStart {l : RL} (h : okR l) : Good (startF l).1 := by rw [startF_fst]; exact goodRun h
theorem over_turn {g : Grp} (h : g.rolls ≠ []) : framesOver (g.row g.turn) = minL g.overs := by
  have hn : g.overs ≠ [] := fun e => h (List.map_eq_nil_iff.mp e)
  have lt := List.idxOf_lt_length_iff.mpr (minL_mem hn)
  have e : g.overs[g.turn]? = some (minL g.overs) := by
    rw [show g.turn = g.overs.idxOf (minL g.overs) from rfl, List.getElem?_eq_getElem lt, List.getElem_idxOf]
  have e2 := row_at (turn_lt h)
  unfold Grp.overs at e
  rw [List.getElem?_map, e2] at e
  exact Option.some.inj e
theorem row_ok {g : Grp} (x : GOk g) : okR (g.row g.turn) := x.rows _ (List.mem_of_getElem? (row_at (turn_lt x.ne)))
theorem put_row_ok {g : Grp} (x : GOk g) {n : Nat} (hn : (n : Int) ≤ g.standing) : okR (g.row g.turn ++ [n]) := by
  have ho := row_ok x
  refine okR_snoc ho ?_ ?_
  · rw [← done_run ho, done_ok ho, over_turn x.ne]; exact x.going
  · have : g.standing = leftI (runS CS.zero (g.row g.turn)).f := standI_run ho
    rw [this, leftI_nn ho] at hn
    omega
theorem put_ok {g : Grp} (x : GOk g) {n : Nat} (hn : (n : Int) ≤ g.standing) : ∀ r ∈ g.put n, okR r := fun r hr => by
  rcases List.mem_or_eq_of_mem_set hr with h | h
  · exact x.rows r h
  · rw [h]; exact put_row_ok x hn
theorem roll_ok {g : Grp} (x : GOk g) {n : Nat} (hn : (n : Int) ≤ g.standing) : RollOk g n := by
  refine ⟨x.rowsOk, by have := x.turns; omega, by have := x.fin; omega, by have := x.size.2; omega, fun he r hr => ?_⟩
  have ok := put_ok x hn r hr
  refine frameScores_all ok ?_
  have h1 := framesOver_le ok
  have h2 : minL ((g.put n).map framesOver) = 10 := by
    unfold Grp.ends at he
    exact eq_of_beq he
  have h3 := minL_le (l := (g.put n).map framesOver) (List.mem_map.mpr ⟨r, hr, rfl⟩)
  omega
theorem rowsOk_roll {g : Grp} (x : GOk g) {n : Nat} (hn : (n : Int) ≤ g.standing) : RowsOk (g.roll n) := by
  have hs := x.size
  unfold Grp.roll
  split
  · refine ⟨fun e => ?_, ?_, fun r hr => ?_⟩
    · have : List.replicate g.size ([] : RL) = [] := e
      have := congrArg List.length this
      rw [List.length_replicate, List.length_nil] at this
      omega
    · show (List.replicate g.size ([] : RL)).length ≤ 1000
      rw [List.length_replicate]; omega
    · have : r = [] := List.eq_of_mem_replicate hr
      rw [this]; exact Nat.zero_le _
  · refine ⟨fun e => ?_, ?_, fun r hr => ?_⟩
    · have h1 : g.put n = [] := e
      have h2 := congrArg List.length h1
      unfold Grp.put at h2
      rw [List.length_set, x.rolls, List.length_nil] at h2
      omega
    · show (g.put n).length ≤ 1000
      unfold Grp.put
      rw [List.length_set, x.rolls]; omega
    · have := okR_len (put_ok x hn r hr)
      omega
end Bw

namespace Bw
/-! ### turns: who rolls, who rolled last -/
abbrev St0 (r : RL) : CS := runS CS.zero r
def oversR (rows : List RL) : List Nat := rows.map framesOver
def turnR (rows : List RL) : Nat := (oversR rows).idxOf (minL (oversR rows))
theorem over_n {r : RL} (h : okR r) : framesOver r = (St0 r).n := by rw [← done_ok h, done_run h]
/-- how the rows stand: those before t have m + 1 frames, the others m; t alone may be within one -/
structure TI (rows : List RL) (m t : Nat) : Prop where
  lt : t < rows.length
  ok : ∀ r ∈ rows, okR r
  lo : ∀ i r, rows[i]? = some r → i < t → (St0 r).n = m + 1 ∧ (St0 r).f = []
  at_ : ∀ r, rows[t]? = some r → (St0 r).n = m
  hi : ∀ i r, rows[i]? = some r → t < i → (St0 r).n = m ∧ (St0 r).f = []
theorem TI.get {rows : List RL} {m t : Nat} (x : TI rows m t) : rows[t]? = some (rows.getD t []) := by
  rw [List.getD_eq_getElem?_getD, List.getElem?_eq_getElem x.lt]; rfl
theorem TI.n_ge {rows : List RL} {m t : Nat} (x : TI rows m t) {i : Nat} {r : RL} (h : rows[i]? = some r) : m ≤ (St0 r).n ∧ (St0 r).n ≤ m + 1 := by
  rcases Nat.lt_trichotomy i t with c | c | c
  · have := x.lo i r h c; omega
  · subst c; have := x.at_ r h; omega
  · have := x.hi i r h c; omega
theorem TI.min {rows : List RL} {m t : Nat} (x : TI rows m t) : minL (oversR rows) = m := by
  have hg := x.get
  have hm := List.mem_of_getElem? hg
  refine (minL_uniq (l := oversR rows) ?_ ?_).symm
  · rw [← x.at_ _ hg, ← over_n (x.ok _ hm)]
    exact List.mem_map.mpr ⟨_, hm, rfl⟩
  · intro y hy
    obtain ⟨r, hr, rfl⟩ := List.mem_map.mp hy
    obtain ⟨i, hi⟩ := List.mem_iff_getElem?.mp hr
    rw [over_n (x.ok r hr)]
    exact (x.n_ge hi).1
theorem idxOf_first {l : List Nat} {x t : Nat} (h : l[t]? = some x) (hb : ∀ i y, l[i]? = some y → i < t → y ≠ x) : l.idxOf x = t := by
  have hm := List.mem_of_getElem? h
  have lt := List.idxOf_lt_length_iff.mpr hm
  have e : l[l.idxOf x]? = some x := by rw [List.getElem?_eq_getElem lt, List.getElem_idxOf]
  rcases Nat.lt_trichotomy (l.idxOf x) t with c | c | c
  · exact absurd rfl (hb _ _ e c)
  · exact c
  · have hn := List.not_of_lt_findIdx (p := (· == x)) (xs := l) (i := t) c
    obtain ⟨ht, e2⟩ := List.getElem?_eq_some_iff.mp h
    rw [e2] at hn
    simp at hn
theorem TI.turn {rows : List RL} {m t : Nat} (x : TI rows m t) : turnR rows = t := by
  unfold turnR
  rw [x.min]
  refine idxOf_first ?_ fun i y hy c => ?_
  · unfold oversR
    rw [List.getElem?_map, x.get]
    show some (framesOver _) = _
    rw [over_n (x.ok _ (List.mem_of_getElem? x.get)), x.at_ _ x.get]
  · unfold oversR at hy
    rw [List.getElem?_map] at hy
    obtain ⟨r, hr, rfl⟩ := Option.map_eq_some_iff.mp hy
    rw [over_n (x.ok _ (List.mem_of_getElem? hr)), (x.lo i r hr c).1]
    omega
/-- the specification's turn -/
theorem turnFrom_at : ∀ (rows : List RL) (k t : Nat) (v : Nat) (r : RL), rows[t]? = some r → Kyp1.done r = v → (∀ i r, rows[i]? = some r → i < t → Kyp1.done r ≠ v) → Kyp.turnFrom v k rows = k + t
  | [], _, _, _, _, h, _, _ => by simp at h
  | l :: rows, k, 0, v, r, h, hv, _ => by
    cases h
    unfold Kyp.turnFrom
    rw [if_pos hv]; rfl
  | l :: rows, k, t + 1, v, r, h, hv, hb => by
    unfold Kyp.turnFrom
    rw [if_neg (hb 0 l rfl (Nat.succ_pos t)), turnFrom_at rows (k + 1) t v r h hv fun i r hr c => hb (i + 1) r hr (by omega)]
    omega
theorem fewest_le : ∀ (rows : List RL), Kyp.fewest rows ≤ 10 ∧ ∀ r ∈ rows, Kyp.fewest rows ≤ Kyp1.done r
  | [] => ⟨Nat.le_refl _, fun r h => by simp at h⟩
  | l :: rows => by
    have ih := fewest_le rows
    unfold Kyp.fewest
    refine ⟨by omega, fun r hr => ?_⟩
    rcases List.mem_cons.mp hr with e | hr
    · rw [e]; omega
    · have := ih.2 r hr; omega
theorem fewest_is : ∀ (rows : List RL), Kyp.fewest rows = 10 ∨ ∃ r ∈ rows, Kyp.fewest rows = Kyp1.done r
  | [] => .inl rfl
  | l :: rows => by
    have ih := fewest_is rows
    unfold Kyp.fewest
    rcases Nat.le_total (Kyp1.done l) (Kyp.fewest rows) with c | c
    · exact .inr ⟨l, by simp, by omega⟩
    · rcases ih with e | ⟨r, hr, e⟩
      · exact .inl (by omega)
      · exact .inr ⟨r, by simp [hr], by omega⟩
theorem TI.fewest {rows : List RL} {m t : Nat} (x : TI rows m t) : Kyp.fewest rows = m := by
  have hg := x.get
  have hm := List.mem_of_getElem? hg
  have h1 := (fewest_le rows).2 _ hm
  rw [done_run (x.ok _ hm)] at h1
  have h2 := x.at_ _ hg
  have h10 := (posOk (x.ok _ hm)).top
  rcases fewest_is rows with e | ⟨r, hr, e⟩
  · have : (St0 (rows.getD t [])).n ≤ 10 := h10
    have h1' : Kyp.fewest rows ≤ (St0 (rows.getD t [])).n := h1
    omega
  · obtain ⟨i, hi⟩ := List.mem_iff_getElem?.mp hr
    have := x.n_ge hi
    rw [done_run (x.ok r hr)] at e
    have h1' : Kyp.fewest rows ≤ (St0 (rows.getD t [])).n := h1
    have e' : Kyp.fewest rows = (St0 r).n := e
    omega
theorem TI.kturn {rows : List RL} {m t : Nat} (x : TI rows m t) : Kyp.turn rows = t := by
  unfold Kyp.turn
  rw [x.fewest]
  have hg := x.get
  have := turnFrom_at rows 0 t m _ hg (by rw [done_run (x.ok _ (List.mem_of_getElem? hg))]; exact x.at_ _ hg) fun i r hr c => by
    rw [done_run (x.ok _ (List.mem_of_getElem? hr))]
    have := (x.lo i r hr c).1
    have h' : (runS CS.zero r).n = m + 1 := this
    omega
  rw [this, Nat.zero_add]
theorem runS_snoc (s : CS) (r : RL) (k : Nat) : runS s (r ++ [k]) = nextS (runS s r) k := by rw [runS_append]; rfl
/-- a roll of the one whose turn it is -/
def putR (rows : List RL) (t k : Nat) : List RL := rows.set t (rows.getD t [] ++ [k])
theorem putR_at {rows : List RL} {t k i : Nat} (ht : t < rows.length) {r : RL} (h : (putR rows t k)[i]? = some r) : (i = t ∧ r = rows.getD t [] ++ [k]) ∨ (i ≠ t ∧ rows[i]? = some r) := by
  unfold putR at h
  by_cases c : i = t
  · subst c
    rw [List.getElem?_set_self ht] at h
    cases h
    exact .inl ⟨rfl, rfl⟩
  · rw [List.getElem?_set_ne (Ne.symm c)] at h
    exact .inr ⟨c, h⟩
structure RollAt (rows : List RL) (m t k : Nat) : Prop where
  ti : TI rows m t
  m9 : m < 10
  pins : k ≤ leftN (St0 (rows.getD t [])).f
theorem RollAt.row {rows : List RL} {m t k : Nat} (x : RollAt rows m t k) : okR (rows.getD t [] ++ [k]) := by
  have hg := x.ti.get
  have ho := x.ti.ok _ (List.mem_of_getElem? hg)
  have hm := x.ti.at_ _ hg
  exact okR_snoc ho (by show (St0 _).n < 10; rw [hm]; exact x.m9) x.pins
theorem RollAt.okAll {rows : List RL} {m t k : Nat} (x : RollAt rows m t k) : ∀ r ∈ putR rows t k, okR r := fun r hr => by
  obtain ⟨i, hi⟩ := List.mem_iff_getElem?.mp hr
  rcases putR_at x.ti.lt hi with ⟨_, e⟩ | ⟨_, e⟩
  · rw [e]; exact x.row
  · exact x.ti.ok r (List.mem_of_getElem? e)
/-- the row that grew: within the frame, or it's over -/
theorem RollAt.grew {rows : List RL} {m t k : Nat} (x : RollAt rows m t k) : ((St0 (rows.getD t [] ++ [k])).n = m ∧ (St0 (rows.getD t [] ++ [k])).f ≠ []) ∨ ((St0 (rows.getD t [] ++ [k])).n = m + 1 ∧ (St0 (rows.getD t [] ++ [k])).f = []) := by
  have hm := x.ti.at_ _ x.ti.get
  have e : St0 (rows.getD t [] ++ [k]) = nextS (St0 (rows.getD t [])) k := runS_snoc _ _ _
  rw [e]
  unfold nextS
  split
  · exact .inr ⟨by show (St0 (rows.getD t [])).n + 1 = m + 1; rw [hm], rfl⟩
  · refine .inl ⟨hm, ?_⟩
    show (St0 (rows.getD t [])).f ++ [k] ≠ []
    simp
theorem RollAt.next {rows : List RL} {m t k : Nat} (x : RollAt rows m t k) (hmin : minL (oversR (putR rows t k)) < 10) : ∃ m' t', TI (putR rows t k) m' t' ∧ m' < 10 := by
  have hlen : (putR rows t k).length = rows.length := List.length_set
  rcases x.grew with ⟨h1, h2⟩ | ⟨h1, h2⟩
  · refine ⟨m, t, ⟨by rw [hlen]; exact x.ti.lt, x.okAll, fun i r hr c => ?_, fun r hr => ?_, fun i r hr c => ?_⟩, x.m9⟩
    · rcases putR_at x.ti.lt hr with ⟨e, _⟩ | ⟨_, e⟩
      · omega
      · exact x.ti.lo i r e c
    · rcases putR_at x.ti.lt hr with ⟨_, e⟩ | ⟨e, _⟩
      · rw [e]; exact h1
      · exact absurd rfl e
    · rcases putR_at x.ti.lt hr with ⟨e, _⟩ | ⟨_, e⟩
      · omega
      · exact x.ti.hi i r e c
  · by_cases c : t + 1 < rows.length
    · refine ⟨m, t + 1, ⟨by rw [hlen]; exact c, x.okAll, fun i r hr c2 => ?_, fun r hr => ?_, fun i r hr c2 => ?_⟩, x.m9⟩
      · rcases putR_at x.ti.lt hr with ⟨_, e⟩ | ⟨q, e⟩
        · rw [e]; exact ⟨h1, h2⟩
        · exact x.ti.lo i r e (by omega)
      · rcases putR_at x.ti.lt hr with ⟨e, _⟩ | ⟨_, e⟩
        · omega
        · exact (x.ti.hi (t + 1) r e (by omega)).1
      · rcases putR_at x.ti.lt hr with ⟨e, _⟩ | ⟨_, e⟩
        · omega
        · exact x.ti.hi i r e (by omega)
    · have ht : t + 1 = rows.length := by have := x.ti.lt; omega
      have all : ∀ i r, (putR rows t k)[i]? = some r → (St0 r).n = m + 1 ∧ (St0 r).f = [] := fun i r hr => by
        rcases putR_at x.ti.lt hr with ⟨_, e⟩ | ⟨q, e⟩
        · rw [e]; exact ⟨h1, h2⟩
        · have hi := (List.getElem?_eq_some_iff.mp e).1
          exact x.ti.lo i r e (by omega)
      have ti : TI (putR rows t k) (m + 1) 0 := ⟨by rw [hlen]; omega, x.okAll, fun i r hr c2 => absurd c2 (Nat.not_lt_zero _), fun r hr => (all 0 r hr).1, fun i r hr _ => all i r hr⟩
      refine ⟨m + 1, 0, ti, ?_⟩
      rw [← ti.min]; exact hmin
/-! who rolled last -/
theorem foldl_max_is (f : RL → Nat) : ∀ (rows : List RL) (a v : Nat), a ≤ v → (∀ r ∈ rows, f r ≤ v) → (a = v ∨ ∃ r ∈ rows, f r = v) → rows.foldl (fun n l => max n (f l)) a = v
  | [], a, v, h, _, hx => by
    rcases hx with e | ⟨r, hr, _⟩
    · exact e
    · simp at hr
  | l :: rows, a, v, h, hb, hx => by
    rw [List.foldl_cons]
    have hl := hb l (by simp)
    refine foldl_max_is f rows _ v (by omega) (fun r hr => hb r (by simp [hr])) ?_
    rcases hx with e | ⟨r, hr, e⟩
    · exact .inl (by omega)
    · rcases List.mem_cons.mp hr with z | hr
      · subst z; exact .inl (by omega)
      · exact .inr ⟨r, hr, e⟩
theorem lastFrom_none (most : Nat) : ∀ (rows : List RL) (k : Nat), (∀ r ∈ rows, (Kyp1.frames 10 r).length ≠ most) → Kyp.lastFrom most k rows = none
  | [], _, _ => rfl
  | l :: rows, k, h => by
    unfold Kyp.lastFrom
    rw [lastFrom_none most rows (k + 1) fun r hr => h r (by simp [hr])]
    show (if _ then _ else _) = _
    rw [if_neg (h l (by simp))]
theorem lastFrom_at (most : Nat) : ∀ (rows : List RL) (k t : Nat) (r : RL), rows[t]? = some r → (Kyp1.frames 10 r).length = most → (∀ i r, rows[i]? = some r → t < i → (Kyp1.frames 10 r).length ≠ most) → Kyp.lastFrom most k rows = some (k + t)
  | [], _, _, _, h, _, _ => by simp at h
  | l :: rows, k, 0, r, h, hv, hb => by
    cases h
    unfold Kyp.lastFrom
    rw [lastFrom_none most rows (k + 1) fun r hr => by
      obtain ⟨i, hi⟩ := List.mem_iff_getElem?.mp hr
      exact hb (i + 1) r hi (Nat.succ_pos i)]
    show (if _ then _ else _) = _
    rw [if_pos hv]; rfl
  | l :: rows, k, t + 1, r, h, hv, hb => by
    unfold Kyp.lastFrom
    rw [lastFrom_at most rows (k + 1) t r h hv fun i r hr c => hb (i + 1) r hr (by omega)]
    show some (k + 1 + t) = _
    congr 1
    omega
theorem begun_n {r : RL} (h : okR r) : (Kyp1.frames 10 r).length = (St0 r).n + (if (St0 r).f = [] then 0 else 1) := begun_run h
theorem RollAt.last {rows : List RL} {m t k : Nat} (x : RollAt rows m t k) : Kyp.last (putR rows t k) = some t := by
  have hrow : (putR rows t k)[t]? = some (rows.getD t [] ++ [k]) := by
    unfold putR; rw [List.getElem?_set_self x.ti.lt]
  have bt : (Kyp1.frames 10 (rows.getD t [] ++ [k])).length = m + 1 := by
    rw [begun_n x.row]
    rcases x.grew with ⟨h1, h2⟩ | ⟨h1, h2⟩
    · rw [h1, if_neg h2]
    · rw [h1, if_pos h2]
  have blo : ∀ i r, (putR rows t k)[i]? = some r → i < t → (Kyp1.frames 10 r).length = m + 1 := fun i r hr c => by
    rcases putR_at x.ti.lt hr with ⟨e, _⟩ | ⟨_, e⟩
    · omega
    · have h := x.ti.lo i r e c
      rw [begun_n (x.ti.ok r (List.mem_of_getElem? e)), h.1, if_pos h.2]
  have bhi : ∀ i r, (putR rows t k)[i]? = some r → t < i → (Kyp1.frames 10 r).length = m := fun i r hr c => by
    rcases putR_at x.ti.lt hr with ⟨e, _⟩ | ⟨_, e⟩
    · omega
    · have h := x.ti.hi i r e c
      rw [begun_n (x.ti.ok r (List.mem_of_getElem? e)), h.1, if_pos h.2, Nat.add_zero]
  have hb : Kyp.begunFrames (putR rows t k) = m + 1 := by
    unfold Kyp.begunFrames
    refine foldl_max_is (fun l => (Kyp1.frames 10 l).length) _ 0 (m + 1) (Nat.zero_le _) (fun r hr => ?_) (.inr ⟨_, List.mem_of_getElem? hrow, bt⟩)
    obtain ⟨i, hi⟩ := List.mem_iff_getElem?.mp hr
    rcases Nat.lt_trichotomy i t with c | c | c
    · rw [blo i r hi c]; exact Nat.le_refl _
    · subst c
      rw [hrow] at hi; cases hi
      rw [bt]; exact Nat.le_refl _
    · rw [bhi i r hi c]; omega
  unfold Kyp.last
  rw [hb, if_neg (by omega), lastFrom_at (m + 1) _ 0 t _ hrow bt fun i r hr c => by rw [bhi i r hr c]; omega, Nat.zero_add]
theorem last_fresh (n : Nat) : Kyp.last (List.replicate n []) = none := by
  have hb : Kyp.begunFrames (List.replicate n []) = 0 := by
    unfold Kyp.begunFrames
    refine foldl_max_is (fun l => (Kyp1.frames 10 l).length) _ 0 0 (Nat.le_refl _) (fun r hr => ?_) (.inl rfl)
    rw [List.eq_of_mem_replicate hr]
    exact Nat.le_refl _
  unfold Kyp.last
  rw [hb, if_pos rfl]
/-- how a game came to stand as it does -/
inductive Hist (n : Nat) : List RL → List Nat → Prop where
  | nil : Hist n (List.replicate n []) []
  | snoc {rows : List RL} {turns : List Nat} {t k : Nat} : Hist n rows turns → t = turnR rows → k ≤ leftN (St0 (rows.getD t [])).f → minL (oversR (putR rows t k)) < 10 → Hist n (putR rows t k) (turns ++ [t])
theorem fresh_TI {n : Nat} (h : 0 < n) : TI (List.replicate n []) 0 0 := by
  have e : ∀ i r, (List.replicate n ([] : RL))[i]? = some r → r = [] := fun i r hr => List.eq_of_mem_replicate (List.mem_of_getElem? hr)
  refine ⟨by rw [List.length_replicate]; exact h, fun r hr => ?_, fun i r hr c => absurd c (Nat.not_lt_zero _), fun r hr => ?_, fun i r hr _ => ?_⟩
  · rw [List.eq_of_mem_replicate hr]; rfl
  · rw [e 0 r hr]; rfl
  · rw [e i r hr]; exact ⟨rfl, rfl⟩
theorem Hist.ti {n : Nat} (hn : 0 < n) {rows : List RL} {turns : List Nat} (h : Hist n rows turns) : ∃ m t, TI rows m t ∧ m < 10 := by
  induction h with
  | nil => exact ⟨0, 0, fresh_TI hn, by omega⟩
  | snoc hh ht hk hm ih =>
    obtain ⟨m, t', ti, hm9⟩ := ih
    have e := ti.turn
    rw [← ht] at e
    subst e
    exact (RollAt.mk ti hm9 hk).next hm
theorem Hist.len {n : Nat} {rows : List RL} {turns : List Nat} (h : Hist n rows turns) : rows.length = n := by
  induction h with
  | nil => exact List.length_replicate
  | snoc hh ht hk hm ih => unfold putR; rw [List.length_set]; exact ih
theorem sum_set : ∀ (l : List RL) (t : Nat) (r : RL), t < l.length → ((l.set t r).map List.length).sum + (l.getD t []).length = (l.map List.length).sum + r.length
  | [], _, _, h => absurd h (Nat.not_lt_zero _)
  | x :: l, 0, r, _ => by simp; omega
  | x :: l, t + 1, r, h => by
    have := sum_set l t r (by simpa using h)
    simp only [List.set_cons_succ, List.map_cons, List.sum_cons, List.getD_cons_succ]
    omega
theorem Hist.total {n : Nat} (hn : 0 < n) {rows : List RL} {turns : List Nat} (h : Hist n rows turns) : turns.length = (rows.map List.length).sum := by
  induction h with
  | nil => simp
  | snoc hh ht hk hm ih =>
    rename_i rows turns t k
    obtain ⟨m, t', ti, hm9⟩ := hh.ti hn
    have e := ti.turn
    rw [← ht] at e
    subst e
    have := sum_set rows t (rows.getD t [] ++ [k]) ti.lt
    unfold putR
    rw [List.length_append, List.length_singleton, ih]
    rw [List.length_append, List.length_singleton] at this
    omega
theorem sum_len_le (b : Nat) : ∀ l : List RL, (∀ r ∈ l, r.length ≤ b) → (l.map List.length).sum ≤ l.length * b
  | [], _ => Nat.zero_le _
  | r :: l, h => by
    have h1 := h r (by simp)
    have h2 := sum_len_le b l fun x hx => h x (by simp [hx])
    rw [List.map_cons, List.sum_cons, List.length_cons, Nat.succ_mul]
    omega
/-- the last roll taken back -/
theorem Hist.back {n : Nat} (hn : 0 < n) {rows : List RL} {turns : List Nat} (h : Hist n rows turns) (ne : turns ≠ []) :
    Kyp.last rows = some (turns.getLastD 0) ∧ turns.getLastD 0 < rows.length ∧ rows.getD (turns.getLastD 0) [] ≠ [] ∧ Hist n (rows.set (turns.getLastD 0) (rows.getD (turns.getLastD 0) []).dropLast) turns.dropLast := by
  cases h with
  | nil => exact absurd rfl ne
  | @snoc rows turns t k hh ht hk hm =>
    obtain ⟨m, t', ti, hm9⟩ := hh.ti hn
    have e := ti.turn
    rw [← ht] at e
    subst e
    have x := RollAt.mk ti hm9 hk
    have el : (turns ++ [t]).getLastD 0 = t := by simp
    have eg : (putR rows t k).getD t [] = rows.getD t [] ++ [k] := by
      unfold putR
      rw [List.getD_eq_getElem?_getD, List.getElem?_set_self ti.lt]; rfl
    rw [el, eg]
    refine ⟨x.last, by unfold putR; rw [List.length_set]; exact ti.lt, by simp, ?_⟩
    have e2 : (putR rows t k).set t (rows.getD t [] ++ [k]).dropLast = rows := by
      unfold putR
      rw [List.dropLast_concat, List.set_set]
      refine List.ext_getElem? fun i => ?_
      by_cases c : i = t
      · subst c
        rw [List.getElem?_set_self ti.lt, ti.get]
      · rw [List.getElem?_set_ne (Ne.symm c)]
    rw [e2, List.dropLast_concat]
    exact hh
theorem Hist.last {n : Nat} (hn : 0 < n) {rows : List RL} {turns : List Nat} (h : Hist n rows turns) : Kyp.last rows = if turns = [] then none else some (turns.getLastD 0) := by
  by_cases c : turns = []
  · rw [if_pos c]
    cases h with
    | nil => exact last_fresh n
    | snoc _ _ _ _ => simp at c
  · rw [if_neg c]; exact (h.back hn c).1
theorem allOver_min {rows : List RL} (ne : rows ≠ []) (ok : ∀ r ∈ rows, okR r) : Kyp.allOver rows = (minL (oversR rows) == 10) := by
  have hne : oversR rows ≠ [] := fun e => ne (List.map_eq_nil_iff.mp e)
  rw [Bool.eq_iff_iff, beq_iff_eq]
  unfold Kyp.allOver
  rw [List.all_eq_true]
  constructor
  · intro h
    obtain ⟨r, hr, e⟩ := List.mem_map.mp (minL_mem hne)
    have := h r hr
    unfold Kyp1.over at this
    rw [beq_iff_eq, done_ok (ok r hr)] at this
    show minL (List.map framesOver rows) = 10
    rw [← e]; exact this
  · intro h r hr
    unfold Kyp1.over
    rw [beq_iff_eq, done_ok (ok r hr)]
    have h1 := minL_le (l := oversR rows) (List.mem_map.mpr ⟨r, hr, rfl⟩)
    have h2 := framesOver_le (ok r hr)
    omega
end Bw

namespace Bw
/-! ### a group: the specification's and the mirror's -/
structure RG (x : Kyp.Group) (g : Grp) : Prop where
  size : x.size = g.size
  sz : 1 ≤ g.size ∧ g.size ≤ 6
  shoes : x.shoes = g.shoes
  now : x.now = g.rolls
  hist : Hist g.size g.rolls g.turns
  fin : g.fin = x.games.map fun now => now.map scoreSum
  games : ∀ now ∈ x.games, now.length = g.size ∧ ∀ r ∈ now, okR r ∧ framesOver r = 10
  glen : x.games.length ≤ 20
  team : x.team = g.team
  matched : x.matched = g.counted
  gone : x.gone = g.gone
theorem RG.pos {x : Kyp.Group} {g : Grp} (h : RG x g) : 0 < g.size := h.sz.1
theorem RG.finLen {x : Kyp.Group} {g : Grp} (h : RG x g) : g.fin.length = x.games.length := by rw [h.fin, List.length_map]
theorem RG.turn {x : Kyp.Group} {g : Grp} (h : RG x g) : Kyp.turn x.now = g.turn := by
  obtain ⟨m, t, ti, _⟩ := h.hist.ti h.pos
  rw [h.now, ti.kturn]
  exact ti.turn.symm
theorem RG.ne {x : Kyp.Group} {g : Grp} (h : RG x g) : g.rolls ≠ [] := fun e => by
  have := h.hist.len
  rw [e] at this
  have h2 := h.pos
  have h3 : 0 = g.size := this
  omega
theorem RG.gok {x : Kyp.Group} {g : Grp} (h : RG x g) : GOk g := by
  obtain ⟨m, t, ti, hm⟩ := h.hist.ti h.pos
  have hlen := h.hist.len
  refine ⟨h.sz, hlen, ti.ok, by show minL (oversR g.rolls) < 10; rw [ti.min]; exact hm, ?_, fun ne => ?_, by rw [h.finLen]; exact h.glen, fun r hr => ?_⟩
  · rw [h.hist.total h.pos]
    have := sum_len_le 21 g.rolls fun r hr => okR_len (ti.ok r hr)
    have h6 := h.sz.2
    rw [hlen] at this
    omega
  · have hb := h.hist.back h.pos ne
    exact ⟨hb.2.1, hb.2.2.1⟩
  · rw [h.fin] at hr
    obtain ⟨now, hn, rfl⟩ := List.mem_map.mp hr
    rw [List.length_map]; exact (h.games now hn).1
theorem RG.standing {x : Kyp.Group} {g : Grp} (h : RG x g) : g.standing = (Kyp1.standing (Kyp.rollsOf x.now (Kyp.turn x.now)) : Nat) := by
  have ho := row_ok h.gok
  rw [h.turn, h.now]
  show standI (g.row g.turn) = _
  rw [standI_run ho]
  have : Kyp.rollsOf g.rolls g.turn = g.row g.turn := rfl
  rw [this, standing_ok ho, leftI_nn ho]
theorem RG.put_eq {g : Grp} (n : Nat) : g.put n = putR g.rolls (turnR g.rolls) n := rfl
theorem RG.roll {x : Kyp.Group} {g : Grp} (h : RG x g) {n : Nat} (hn : ¬ Kyp1.standing (Kyp.rollsOf x.now (Kyp.turn x.now)) < n) (h20 : ¬ x.games.length = 20) : RG (Kyp.rolled x n) (g.roll n) := by
  have hgok := h.gok
  have hst : (n : Int) ≤ g.standing := by rw [h.standing]; omega
  have hok := put_ok hgok hst
  have hne : g.put n ≠ [] := fun e => by
    have := congrArg List.length e
    unfold Grp.put at this
    rw [List.length_set, hgok.rolls, List.length_nil] at this
    have := h.pos
    omega
  have hputl : (g.put n).length = g.size := by unfold Grp.put; rw [List.length_set]; exact hgok.rolls
  have e1 : x.now.set (Kyp.turn x.now) (Kyp.rollsOf x.now (Kyp.turn x.now) ++ [n]) = g.put n := by rw [h.turn, h.now]; rfl
  have e2 : Kyp.allOver (g.put n) = g.ends n := allOver_min hne hok
  have e3 : Kyp.rolled x n = if g.ends n = true then { x with games := x.games ++ [g.put n], now := Kyp.fresh x.size } else { x with now := g.put n } := by
    unfold Kyp.rolled
    simp only [e1, e2]
  rw [e3]
  unfold Grp.roll
  by_cases c : g.ends n = true
  · rw [if_pos c, if_pos c]
    refine ⟨h.size, h.sz, h.shoes, ?_, Hist.nil, ?_, fun now hm => ?_, ?_, h.team, h.matched, h.gone⟩
    · show List.replicate x.size [] = List.replicate g.size []
      rw [h.size]
    · show g.fin ++ [(g.put n).map scoreSum] = _
      rw [List.map_append, h.fin]; rfl
    · rcases List.mem_append.mp hm with hm | hm
      · exact h.games now hm
      · rw [List.mem_singleton.mp hm]
        refine ⟨hputl, fun r hr => ⟨hok r hr, ?_⟩⟩
        have h1 : minL (oversR (g.put n)) = 10 := by
          unfold Grp.ends at c
          exact eq_of_beq c
        have h2 := minL_le (l := oversR (g.put n)) (List.mem_map.mpr ⟨r, hr, rfl⟩)
        have h3 := framesOver_le (hok r hr)
        omega
    · show (x.games ++ [g.put n]).length ≤ 20
      rw [List.length_append, List.length_singleton]
      have := h.glen
      omega
  · rw [if_neg c, if_neg c]
    refine ⟨h.size, h.sz, h.shoes, rfl, ?_, h.fin, h.games, h.glen, h.team, h.matched, h.gone⟩
    show Hist g.size (putR g.rolls (turnR g.rolls) n) (g.turns ++ [turnR g.rolls])
    refine Hist.snoc h.hist rfl ?_ ?_
    · have ho := row_ok hgok
      have : g.standing = leftI (runS CS.zero (g.row g.turn)).f := standI_run ho
      rw [this, leftI_nn ho] at hst
      have h2 : n ≤ leftN (runS CS.zero (g.row g.turn)).f := by omega
      exact h2
    · have hle : minL (oversR (g.put n)) ≤ 10 := by
        have hm := minL_mem (l := oversR (g.put n)) (fun e => hne (List.map_eq_nil_iff.mp e))
        obtain ⟨r, hr, e⟩ := List.mem_map.mp hm
        rw [← e]; exact framesOver_le (hok r hr)
      have hn10 : minL (oversR (g.put n)) ≠ 10 := fun e => c (by unfold Grp.ends; rw [beq_iff_eq]; exact e)
      show minL (oversR (g.put n)) < 10
      omega
theorem RG.last {x : Kyp.Group} {g : Grp} (h : RG x g) : Kyp.last x.now = if g.turns = [] then none else some g.last := by rw [h.now]; exact h.hist.last h.pos
theorem RG.undo {x : Kyp.Group} {g : Grp} (h : RG x g) (ne : ¬ g.turns = []) : RG (Kyp.unrolled x g.last) g.undo := by
  have hb := h.hist.back h.pos ne
  refine ⟨h.size, h.sz, h.shoes, ?_, hb.2.2.2, h.fin, h.games, h.glen, h.team, h.matched, h.gone⟩
  show x.now.set g.last (Kyp.rollsOf x.now g.last).dropLast = g.rolls.set g.last (g.row g.last).dropLast
  rw [h.now]; rfl
theorem ksum2 (l : List Nat) : Kyp.sum l = l.sum := by
  unfold Kyp.sum
  suffices h : ∀ (l : List Nat) (a : Nat), l.foldl (· + ·) a = a + l.sum by rw [h]; omega
  intro l
  induction l with
  | nil => intro a; simp
  | cons x l ih => intro a; rw [List.foldl_cons, ih, List.sum_cons]; omega
theorem begun_sum (c : Nat) : ∀ rows : List RL, (((List.range rows.length).map fun p => c + (if (rows.getD p []).isEmpty then 0 else 1)).sum) = rows.length * c + (rows.filter fun r => decide (0 < r.length)).length
  | [] => by simp
  | r :: rows => by
    have ih := begun_sum c rows
    rw [List.length_cons, List.range_succ_eq_map, List.map_cons, List.sum_cons, List.map_map, List.filter_cons]
    have e : (List.map ((fun p => c + if ((r :: rows).getD p []).isEmpty = true then 0 else 1) ∘ Nat.succ) (List.range rows.length)).sum = rows.length * c + (rows.filter fun r => decide (0 < r.length)).length := ih
    rw [e, Nat.succ_mul]
    show c + (if r.isEmpty = true then 0 else 1) + _ = _
    cases r with
    | nil => simp; omega
    | cons a b => simp; omega
theorem RG.bill {x : Kyp.Group} {g : Grp} (h : RG x g) (q : Kyp.Hall) : Kyp.bill q x = g.bill q.price q.lend := by
  unfold Kyp.bill Grp.bill Grp.begun
  rw [ksum2, h.shoes, h.size]
  have hl : g.rolls.length = g.size := h.hist.len
  have e := begun_sum x.games.length g.rolls
  rw [hl] at e
  have e2 : (List.range g.size).map (Kyp.begunGames x) = (List.range g.size).map fun p => x.games.length + (if (g.rolls.getD p []).isEmpty then 0 else 1) := by
    refine List.map_congr_left fun p _ => ?_
    unfold Kyp.begunGames Kyp.rollsOf
    rw [h.now]
  rw [e2, e, h.finLen]
theorem RG.scoreIn {x : Kyp.Group} {g : Grp} (h : RG x g) {i p : Nat} (hi : i < x.games.length) (hp : p < g.size) : Kyp.scoreIn x i p = (g.fin.getD i []).getD p 0 := by
  unfold Kyp.scoreIn Kyp.rollsOf
  have hg : x.games[i]? = some (x.games.getD i []) := by rw [List.getD_eq_getElem?_getD, List.getElem?_eq_getElem hi]; rfl
  have hm := List.mem_of_getElem? hg
  have hgm := h.games _ hm
  have hr : (x.games.getD i [])[p]? = some ((x.games.getD i []).getD p []) := by
    rw [List.getD_eq_getElem?_getD (l := x.games.getD i []), List.getElem?_eq_getElem (by rw [hgm.1]; exact hp)]; rfl
  have hrm := hgm.2 _ (List.mem_of_getElem? hr)
  have ef : g.fin.getD i [] = (x.games.getD i []).map scoreSum := by
    rw [h.fin, List.getD_eq_getElem?_getD, List.getElem?_map, hg]; rfl
  rw [ef, List.getD_eq_getElem?_getD (l := (x.games.getD i []).map scoreSum), List.getElem?_map, hr]
  exact scoreSum_ok hrm.1 hrm.2
theorem RG.three {x : Kyp.Group} {g : Grp} (h : RG x g) (h3 : g.size = 3) (hm : x.matched + 3 ≤ x.games.length) : Kyp.three x = g.matchRows.flatten := by
  unfold Kyp.three Grp.matchRows
  rw [h3]
  have hf : (g.fin.drop g.counted).take 3 = [g.fin.getD g.counted [], g.fin.getD (g.counted + 1) [], g.fin.getD (g.counted + 2) []] := by
    rw [← h.matched]
    have hl := h.finLen
    refine List.ext_getElem? fun i => ?_
    rw [List.getElem?_take]
    by_cases c : i < 3
    · rw [if_pos c, List.getElem?_drop]
      match i, c with
      | 0, _ => simp only [List.getElem?_cons_zero, Nat.add_zero]; rw [List.getD_eq_getElem?_getD, List.getElem?_eq_getElem (by omega)]; rfl
      | 1, _ => simp only [List.getElem?_cons_succ, List.getElem?_cons_zero]; rw [List.getD_eq_getElem?_getD, List.getElem?_eq_getElem (by omega)]; rfl
      | 2, _ => simp only [List.getElem?_cons_succ, List.getElem?_cons_zero]; rw [List.getD_eq_getElem?_getD, List.getElem?_eq_getElem (by omega)]; rfl
    · rw [if_neg c, List.getElem?_eq_none (by simp; omega)]
  rw [hf]
  have hs : ∀ i p, i < 3 → p < 3 → Kyp.scoreIn x (x.matched + i) p = (g.fin.getD (g.counted + i) []).getD p 0 := fun i p hi hp => by
    rw [h.scoreIn (by omega) (by rw [h3]; exact hp), h.matched]
  have hr : List.range 3 = [0, 1, 2] := rfl
  rw [hr]
  simp only [List.flatMap_cons, List.flatMap_nil, List.map_cons, List.map_nil, List.append_nil, List.cons_append, List.nil_append, List.flatten_cons, List.flatten_nil]
  rw [hs 0 0 (by omega) (by omega), hs 1 0 (by omega) (by omega), hs 2 0 (by omega) (by omega), hs 0 1 (by omega) (by omega), hs 1 1 (by omega) (by omega), hs 2 1 (by omega) (by omega), hs 0 2 (by omega) (by omega), hs 1 2 (by omega) (by omega), hs 2 2 (by omega) (by omega)]
  rfl
end Bw

namespace Bw
/-! ### the league: the specification's and the mirror's -/
def rowsOf (l : List Kyp2.Match) (t p : Nat) : List Nat := l.reverse.flatMap fun x => Kyp2.gamesOf x t p
structure RLg (q : Kyp2.League) (l : Lg) : Prop where
  teams : l.teams.length = q.teams
  t8 : q.teams ≤ 8
  base : l.base = q.base
  b300 : q.base ≤ 300
  percent : l.percent = q.percent
  p100 : q.percent ≤ 100
  played : l.played = q.played.length
  most : q.played.length ≤ 200
  pts : ∀ t, t < q.teams → (l.tm t).points = Kyp2.pointsIn q t q.played
  rows : ∀ t, t < q.teams → (l.tm t).scores = [rowsOf q.played t 0, rowsOf q.played t 1, rowsOf q.played t 2]
  nine : ∀ x ∈ q.played, x.l.length = 9 ∧ x.m.length = 9
theorem ksum3 (l : List Nat) : Kyp2.sum l = l.sum := by
  unfold Kyp2.sum
  suffices h : ∀ (l : List Nat) (a : Nat), l.foldl (· + ·) a = a + l.sum by rw [h]; omega
  intro l
  induction l with
  | nil => intro a; simp
  | cons x l ih => intro a; rw [List.foldl_cons, ih, List.sum_cons]; omega
theorem flat_rev (f : Kyp2.Match → List Nat) : ∀ l : List Kyp2.Match, (l.reverse.flatMap f).sum = (l.flatMap f).sum ∧ (l.reverse.flatMap f).length = (l.flatMap f).length
  | [] => ⟨rfl, rfl⟩
  | x :: l => by
    have ih := flat_rev f l
    rw [List.reverse_cons, List.flatMap_append]
    simp only [List.flatMap_cons, List.flatMap_nil, List.append_nil, List.sum_append, List.length_append]
    omega
theorem RLg.row {q : Kyp2.League} {l : Lg} (h : RLg q l) {t p : Nat} (ht : t < q.teams) (hp : p < 3) : (l.tm t).row p = rowsOf q.played t p := by
  unfold Tm.row
  rw [h.rows t ht]
  match p, hp with
  | 0, _ => rfl
  | 1, _ => rfl
  | 2, _ => rfl
theorem RLg.average {q : Kyp2.League} {l : Lg} (h : RLg q l) {t p : Nat} (ht : t < q.teams) (hp : p < 3) : (l.tm t).average p = Kyp2.average q.played t p := by
  unfold Tm.average Kyp2.average Kyp2.allGames
  rw [h.row ht hp, ksum3]
  have f := flat_rev (fun x => Kyp2.gamesOf x t p) q.played
  unfold rowsOf
  rw [f.1, f.2]
  split
  · rename_i c; rw [c, Nat.div_zero]
  · rfl
theorem RLg.rowLen {q : Kyp2.League} {l : Lg} (h : RLg q l) {t p : Nat} (ht : t < q.teams) (hp : p < 3) : ((l.tm t).row p).length = (Kyp2.allGames q.played t p).length := by
  rw [h.row ht hp]
  exact (flat_rev (fun x => Kyp2.gamesOf x t p) q.played).2
theorem RLg.allowance {q : Kyp2.League} {l : Lg} (h : RLg q l) {t p : Nat} (ht : t < q.teams) (hp : p < 3) : l.allowance t p = Kyp2.allowance q q.played t p := by
  unfold Lg.allowance Kyp2.allowance
  rw [h.rowLen ht hp, h.average ht hp, h.base, h.percent]
  cases e : Kyp2.allGames q.played t p with
  | nil => rfl
  | cons a b => rfl
theorem len9 {l : List Nat} (h : l.length = 9) : l = (l.drop 0).take 3 ++ ((l.drop 3).take 3 ++ (l.drop 6).take 3) := by
  match l, h with
  | [a, b, c, d, e, f, g, i, j], _ => rfl
theorem games_sum {x : Kyp2.Match} (h : x.l.length = 9 ∧ x.m.length = 9) (t : Nat) : (Kyp2.gamesOf x t 0).sum + (Kyp2.gamesOf x t 1).sum + (Kyp2.gamesOf x t 2).sum = (Kyp2.scoresOf x t).sum := by
  unfold Kyp2.gamesOf
  have nine : ∀ l : List Nat, l.length = 9 → ((l.drop (3 * 0)).take 3).sum + ((l.drop (3 * 1)).take 3).sum + ((l.drop (3 * 2)).take 3).sum = l.sum := fun l hl => by
    have e := congrArg List.sum (len9 hl)
    rw [List.sum_append, List.sum_append] at e
    show ((l.drop 0).take 3).sum + ((l.drop 3).take 3).sum + ((l.drop 6).take 3).sum = l.sum
    omega
  unfold Kyp2.scoresOf
  split
  · exact nine _ h.1
  · split
    · exact nine _ h.2
    · rfl
theorem RLg.pins {q : Kyp2.League} {l : Lg} (h : RLg q l) {t : Nat} (ht : t < q.teams) : (l.tm t).pins = Kyp2.pins q t := by
  unfold Tm.pins Kyp2.pins
  rw [h.rows t ht, ksum3]
  have f := fun p => (flat_rev (fun x => Kyp2.gamesOf x t p) q.played).1
  show (rowsOf q.played t 0).sum + ((rowsOf q.played t 1).sum + ((rowsOf q.played t 2).sum + 0)) = _
  unfold rowsOf
  rw [f 0, f 1, f 2]
  have hn := h.nine
  generalize q.played = pl at hn
  induction pl with
  | nil => rfl
  | cons x pl ih =>
    have ih := ih fun y hy => hn y (by simp [hy])
    have g := games_sum (hn x (by simp)) t
    simp only [List.flatMap_cons, List.sum_append]
    omega
/-! ### the order -/
def keyOf (q : Kyp2.League) (t : Nat) : Int × Int × Int := (-(Kyp2.points q t : Int), -(Kyp2.pins q t : Int), (t : Int))
theorem before_le (q : Kyp2.League) (t u : Nat) : Kyp2.before q t u = true → rowLe (keyOf q t) (keyOf q u) = true := by
  unfold Kyp2.before keyOf rowLe
  simp only [Bool.or_eq_true, Bool.and_eq_true, decide_eq_true_eq, beq_iff_eq]
  omega
theorem not_before_le (q : Kyp2.League) (t u : Nat) : ¬ Kyp2.before q t u = true → rowLe (keyOf q u) (keyOf q t) = true := by
  unfold Kyp2.before keyOf rowLe
  simp only [Bool.or_eq_true, Bool.and_eq_true, decide_eq_true_eq, beq_iff_eq]
  omega
theorem kput_perm (q : Kyp2.League) (t : Nat) : ∀ l, (Kyp2.put q t l).Perm (t :: l)
  | [] => List.Perm.refl _
  | u :: l => by
    unfold Kyp2.put
    split
    · exact List.Perm.refl _
    · exact ((kput_perm q t l).cons u).trans (List.Perm.swap t u l)
theorem kput_sorted (q : Kyp2.League) (t : Nat) : ∀ l, (l.map (keyOf q)).Pairwise (fun a b => rowLe a b = true) → ((Kyp2.put q t l).map (keyOf q)).Pairwise fun a b => rowLe a b = true
  | [], _ => by simp [Kyp2.put]
  | u :: l, h => by
    unfold Kyp2.put
    rw [List.map_cons, List.pairwise_cons] at h
    by_cases c : Kyp2.before q t u = true
    · rw [if_pos c, List.map_cons, List.map_cons, List.pairwise_cons, List.pairwise_cons]
      refine ⟨fun z hz => ?_, h⟩
      rcases List.mem_cons.mp hz with e | hz
      · rw [e]; exact before_le q t u c
      · exact rowLe_trans _ _ _ (before_le q t u c) (h.1 z hz)
    · rw [if_neg c, List.map_cons, List.pairwise_cons]
      refine ⟨fun z hz => ?_, kput_sorted q t l h.2⟩
      obtain ⟨v, hv, rfl⟩ := List.mem_map.mp hz
      rcases List.mem_cons.mp ((kput_perm q t l).mem_iff.mp hv) with e | hv
      · rw [e]; exact not_before_le q t u c
      · exact h.1 _ (List.mem_map.mpr ⟨v, hv, rfl⟩)
theorem korder : ∀ (q : Kyp2.League) (ts acc : List Nat), (acc.map (keyOf q)).Pairwise (fun a b => rowLe a b = true) →
    ((ts.foldl (fun l t => Kyp2.put q t l) acc).map (keyOf q)).Pairwise (fun a b => rowLe a b = true) ∧ (ts.foldl (fun l t => Kyp2.put q t l) acc).Perm (ts ++ acc)
  | q, [], acc, h => ⟨h, List.Perm.refl _⟩
  | q, t :: ts, acc, h => by
    have ih := korder q ts (Kyp2.put q t acc) (kput_sorted q t acc h)
    refine ⟨ih.1, ih.2.trans ?_⟩
    have p := (List.Perm.append_left ts (kput_perm q t acc))
    exact p.trans List.perm_middle
theorem rowFrom_eq {q : Kyp2.League} {l : Lg} (h : RLg q l) : rowFrom 0 l.teams = (List.range q.teams).map (keyOf q) := by
  refine List.ext_getElem? fun i => ?_
  by_cases c : i < q.teams
  · have ht : l.teams[i]? = some (l.tm i) := by unfold Lg.tm; rw [List.getD_eq_getElem?_getD, List.getElem?_eq_getElem (by rw [h.teams]; exact c)]; rfl
    rw [rowFrom_at l.teams 0 i _ ht, List.getElem?_map, List.getElem?_range c, h.pts i c, h.pins c, Nat.zero_add]
    rfl
  · rw [List.getElem?_eq_none (by rw [rowFrom_len, h.teams]; omega), List.getElem?_eq_none (by rw [List.length_map, List.length_range]; omega)]
theorem RLg.order {q : Kyp2.League} {l : Lg} (h : RLg q l) : l.order = (Kyp2.order q).map fun (t : Nat) => (t : Int) := by
  have k := korder q (List.range q.teams) [] List.Pairwise.nil
  rw [List.append_nil] at k
  have e : rowSort (rowFrom 0 l.teams) = (Kyp2.order q).map (keyOf q) := by
    refine sorted_uniq rowLe_anti ?_ (rowSort_sorted _) k.1
    rw [rowFrom_eq h]
    exact (rowSort_perm _).trans (k.2.map (keyOf q)).symm
  unfold Lg.order
  rw [e, List.map_map]; rfl
/-! ### a match -/
theorem two_pts (x y : Nat) : ptsFor x y = (Kyp2.two x y, Kyp2.two y x) := by
  unfold ptsFor Kyp2.two b2n
  by_cases c : x = y
  · subst c
    rw [if_pos rfl, if_neg (Nat.lt_irrefl x), if_pos rfl]
  · rw [if_neg c]
    by_cases c2 : y < x
    · have n1 : ¬ x < y := by omega
      have n2 : ¬ y = x := fun e => c e.symm
      rw [if_pos c2, decide_eq_true c2, decide_eq_false n1, if_neg n1, if_neg n2]; rfl
    · have c3 : x < y := by omega
      rw [if_neg c2, if_neg c, if_pos c3, decide_eq_false c2, decide_eq_true c3]; rfl
theorem ptsOf_three (a0 a1 a2 b0 b1 b2 : Nat) : ptsOf [a0, a1, a2] [b0, b1, b2] = (Kyp2.two a0 b0 + Kyp2.two a1 b1 + Kyp2.two a2 b2 + Kyp2.two (a0 + a1 + a2) (b0 + b1 + b2), Kyp2.two b0 a0 + Kyp2.two b1 a1 + Kyp2.two b2 a2 + Kyp2.two (b0 + b1 + b2) (a0 + a1 + a2)) := by
  have e : ∀ x y z : Nat, [x, y, z].sum = x + y + z := fun x y z => by simp; omega
  unfold ptsOf
  rw [e, e]
  simp only [List.zip_cons_cons, List.zip_nil_right, List.cons_append, List.nil_append, List.foldl_cons, List.foldl_nil, ptsStep, two_pts]
  simp only [Nat.zero_add]
theorem flat3 {rows : List (List Nat)} (h : rows.length = 3) (h3 : ∀ r ∈ rows, r.length = 3) : rows.flatten.length = 9 ∧ ∀ p, p < 3 → (rows.flatten.drop (3 * p)).take 3 = rows.getD p [] := by
  match rows, h with
  | [x, y, z], _ =>
    have hx := h3 x (by simp)
    have hy := h3 y (by simp)
    have hz := h3 z (by simp)
    match x, hx, y, hy, z, hz with
    | [_, _, _], _, [_, _, _], _, [_, _, _], _ =>
      refine ⟨rfl, fun p hp => ?_⟩
      match p, hp with
      | 0, _ => rfl
      | 1, _ => rfl
      | 2, _ => rfl
theorem RLg.total {q : Kyp2.League} {l : Lg} (h : RLg q l) {t : Nat} (ht : t < q.teams) {x : Kyp2.Match} {rows : List (List Nat)} (hr : rows.length = 3) (hg : ∀ p, p < 3 → Kyp2.gamesOf x t p = rows.getD p []) (i : Nat) :
    l.more t + (rows.map fun r => r.getD i 0).sum = Kyp2.gameTotal q q.played x t i := by
  unfold Kyp2.gameTotal Lg.more
  rw [ksum3]
  match rows, hr with
  | [a, b, c], _ =>
    have r3 : List.range 3 = [0, 1, 2] := rfl
    rw [r3]
    simp only [List.map_cons, List.map_nil, List.sum_cons, List.sum_nil]
    rw [hg 0 (by omega), hg 1 (by omega), hg 2 (by omega), h.allowance ht (p := 0) (by omega), h.allowance ht (p := 1) (by omega), h.allowance ht (p := 2) (by omega)]
    show _ = (a.getD i 0 + _) + ((b.getD i 0 + _) + ((c.getD i 0 + _) + 0))
    omega
theorem RLg.shared {q : Kyp2.League} {l : Lg} (h : RLg q l) {t u : Nat} (ht : t < q.teams) (hu : u < q.teams) {x : Kyp2.Match} {rows rows' : List (List Nat)} (hr : rows.length = 3) (hr' : rows'.length = 3)
    (hg : ∀ p, p < 3 → Kyp2.gamesOf x t p = rows.getD p []) (hg' : ∀ p, p < 3 → Kyp2.gamesOf x u p = rows'.getD p []) : l.pts t u rows rows' = (Kyp2.shared q q.played x t u, Kyp2.shared q q.played x u t) := by
  have e1 : l.totals t rows = [Kyp2.gameTotal q q.played x t 0, Kyp2.gameTotal q q.played x t 1, Kyp2.gameTotal q q.played x t 2] := by
    unfold Lg.totals
    have r3 : List.range 3 = [0, 1, 2] := rfl
    rw [r3]
    simp only [List.map_cons, List.map_nil]
    rw [h.total ht hr hg 0, h.total ht hr hg 1, h.total ht hr hg 2]
  have e2 : l.totals u rows' = [Kyp2.gameTotal q q.played x u 0, Kyp2.gameTotal q q.played x u 1, Kyp2.gameTotal q q.played x u 2] := by
    unfold Lg.totals
    have r3 : List.range 3 = [0, 1, 2] := rfl
    rw [r3]
    simp only [List.map_cons, List.map_nil]
    rw [h.total hu hr' hg' 0, h.total hu hr' hg' 1, h.total hu hr' hg' 2]
  unfold Lg.pts
  rw [e1, e2, ptsOf_three]
  rfl
theorem pointsIn_played (q : Kyp2.League) (pl : List Kyp2.Match) (t : Nat) : ∀ l : List Kyp2.Match, Kyp2.pointsIn { q with played := pl } t l = Kyp2.pointsIn q t l
  | [] => rfl
  | x :: l => by
    unfold Kyp2.pointsIn
    rw [pointsIn_played q pl t l]; rfl
theorem tm_put {l : Lg} {t i : Nat} (ht : t < l.teams.length) (rows : List (List Nat)) (pts : Nat) : (l.put t rows pts).tm i = if i = t then (l.tm t).put rows pts else l.tm i := by
  unfold Lg.put Lg.tm
  show (l.teams.set t _).getD i _ = _
  by_cases c : i = t
  · subst c
    rw [if_pos rfl, List.getD_eq_getElem?_getD, List.getElem?_set_self ht]; rfl
  · rw [if_neg c, List.getD_eq_getElem?_getD, List.getElem?_set_ne (Ne.symm c), ← List.getD_eq_getElem?_getD]
theorem rowsOf_cons (x : Kyp2.Match) (l : List Kyp2.Match) (t p : Nat) : rowsOf (x :: l) t p = rowsOf l t p ++ Kyp2.gamesOf x t p := by
  unfold rowsOf
  rw [List.reverse_cons, List.flatMap_append]
  simp
theorem RLg.play {q : Kyp2.League} {l : Lg} (h : RLg q l) {t u : Nat} (ht : t < q.teams) (hu : u < q.teams) (ne : t ≠ u) {rows rows' : List (List Nat)} (hr : rows.length = 3) (hr' : rows'.length = 3) (h3 : ∀ r ∈ rows, r.length = 3) (h3' : ∀ r ∈ rows', r.length = 3) (hm : ¬ q.played.length = 200) :
    RLg { q with played := ⟨t, u, rows.flatten, rows'.flatten⟩ :: q.played } (l.play t u rows rows') ∧
      l.pts t u rows rows' = (Kyp2.shared q q.played ⟨t, u, rows.flatten, rows'.flatten⟩ t u, Kyp2.shared q q.played ⟨t, u, rows.flatten, rows'.flatten⟩ u t) := by
  have f := flat3 hr h3
  have f' := flat3 hr' h3'
  have hg : ∀ p, p < 3 → Kyp2.gamesOf ⟨t, u, rows.flatten, rows'.flatten⟩ t p = rows.getD p [] := fun p hp => by
    unfold Kyp2.gamesOf Kyp2.scoresOf
    rw [if_pos rfl]; exact f.2 p hp
  have hg' : ∀ p, p < 3 → Kyp2.gamesOf ⟨t, u, rows.flatten, rows'.flatten⟩ u p = rows'.getD p [] := fun p hp => by
    unfold Kyp2.gamesOf Kyp2.scoresOf
    rw [if_neg ne, if_pos rfl]; exact f'.2 p hp
  have hno : ∀ i p, i ≠ t → i ≠ u → Kyp2.gamesOf ⟨t, u, rows.flatten, rows'.flatten⟩ i p = [] := fun i p h1 h2 => by
    unfold Kyp2.gamesOf Kyp2.scoresOf
    rw [if_neg (fun e => h1 e.symm), if_neg (fun e => h2 e.symm)]; simp
  have hs := h.shared ht hu hr hr' hg hg'
  refine ⟨?_, hs⟩
  have htl : t < l.teams.length := by rw [h.teams]; exact ht
  have hul : ∀ rows pts, u < (l.put t rows pts).teams.length := fun rows pts => by
    show u < (l.teams.set t _).length
    rw [List.length_set, h.teams]; exact hu
  have tmEq : ∀ i, (l.play t u rows rows').tm i = if i = u then (l.tm u).put rows' (l.pts t u rows rows').2 else if i = t then (l.tm t).put rows (l.pts t u rows rows').1 else l.tm i := fun i => by
    have e1 : (l.play t u rows rows').tm i = ((l.put t rows (l.pts t u rows rows').1).put u rows' (l.pts t u rows rows').2).tm i := rfl
    rw [e1, tm_put (hul _ _), tm_put htl, tm_put htl, if_neg (Ne.symm ne)]
  refine ⟨?_, h.t8, h.base, h.b300, h.percent, h.p100, ?_, ?_, fun i hi => ?_, fun i hi => ?_, fun x hx => ?_⟩
  · show ((l.teams.set t _).set u _).length = q.teams
    rw [List.length_set, List.length_set]; exact h.teams
  · show l.played + 1 = (_ :: q.played).length
    rw [List.length_cons, h.played]
  · show (_ :: q.played).length ≤ 200
    rw [List.length_cons]
    have := h.most
    omega
  · have hi' : i < q.teams := hi
    rw [tmEq i]
    show _ = Kyp2.pointsIn { q with played := _ } i (_ :: q.played)
    rw [pointsIn_played]
    unfold Kyp2.pointsIn
    by_cases c : i = u
    · subst c
      rw [if_pos rfl, if_neg ne, if_pos rfl]
      show (l.tm i).points + (l.pts t i rows rows').2 = _
      rw [h.pts i hi', hs]
      exact Nat.add_comm _ _
    · rw [if_neg c]
      by_cases c2 : i = t
      · subst c2
        rw [if_pos rfl, if_pos rfl]
        show (l.tm i).points + (l.pts i u rows rows').1 = _
        rw [h.pts i hi', hs]
        exact Nat.add_comm _ _
      · rw [if_neg c2, if_neg (fun e => c2 e.symm), if_neg (fun e => c e.symm), h.pts i hi', Nat.zero_add]
  · have hi' : i < q.teams := hi
    rw [tmEq i]
    show _ = [rowsOf (_ :: q.played) i 0, rowsOf (_ :: q.played) i 1, rowsOf (_ :: q.played) i 2]
    rw [rowsOf_cons, rowsOf_cons, rowsOf_cons]
    have putS : ∀ (j : Nat) (rw_ : List (List Nat)) (pts : Nat), j < q.teams → ((l.tm j).put rw_ pts).scores = [rowsOf q.played j 0 ++ rw_.getD 0 [], rowsOf q.played j 1 ++ rw_.getD 1 [], rowsOf q.played j 2 ++ rw_.getD 2 []] := fun j rw_ pts hj => by
      unfold Tm.put
      have r3 : List.range 3 = [0, 1, 2] := rfl
      show (List.range 3).map (fun p => (l.tm j).row p ++ rw_.getD p []) = _
      rw [r3]
      simp only [List.map_cons, List.map_nil]
      rw [h.row hj (p := 0) (by omega), h.row hj (p := 1) (by omega), h.row hj (p := 2) (by omega)]
    by_cases c : i = u
    · subst c
      rw [if_pos rfl, putS i _ _ hi', hg' 0 (by omega), hg' 1 (by omega), hg' 2 (by omega)]
    · rw [if_neg c]
      by_cases c2 : i = t
      · subst c2
        rw [if_pos rfl, putS i _ _ hi', hg 0 (by omega), hg 1 (by omega), hg 2 (by omega)]
      · rw [if_neg c2, hno i 0 c2 c, hno i 1 c2 c, hno i 2 c2 c, h.rows i hi', List.append_nil, List.append_nil, List.append_nil]
  · have hx' : x ∈ (⟨t, u, rows.flatten, rows'.flatten⟩ : Kyp2.Match) :: q.played := hx
    rcases List.mem_cons.mp hx' with e | hx'
    · rw [e]; exact ⟨f.1, f'.1⟩
    · exact h.nine x hx'
theorem rowsOf_len (l : List Kyp2.Match) (t p : Nat) : (rowsOf l t p).length ≤ 3 * l.length := by
  unfold rowsOf
  rw [(flat_rev (fun x => Kyp2.gamesOf x t p) l).2]
  induction l with
  | nil => simp
  | cons x l ih =>
    rw [List.flatMap_cons, List.length_append, List.length_cons]
    have : (Kyp2.gamesOf x t p).length ≤ 3 := by unfold Kyp2.gamesOf; exact List.length_take_le _ _
    omega
theorem RLg.ok {q : Kyp2.League} {l : Lg} (h : RLg q l) : LgOk l ∧ ∀ t ∈ l.teams, ∀ r ∈ t.scores, r.length ≤ 900 := by
  have each : ∀ t ∈ l.teams, ∃ i, i < q.teams ∧ t = l.tm i := fun t ht => by
    obtain ⟨i, hi, e⟩ := List.mem_iff_getElem.mp ht
    refine ⟨i, by rw [← h.teams]; exact hi, ?_⟩
    unfold Lg.tm
    rw [List.getD_eq_getElem?_getD, List.getElem?_eq_getElem hi, ← e]; rfl
  have rows : ∀ t ∈ l.teams, ∀ r ∈ t.scores, r.length ≤ 900 := fun t ht r hr => by
    obtain ⟨i, hi, rfl⟩ := each t ht
    rw [h.rows i hi] at hr
    have hm := h.most
    have : ∀ p, (rowsOf q.played i p).length ≤ 600 := fun p => by have := rowsOf_len q.played i p; omega
    simp only [List.mem_cons, List.not_mem_nil, or_false] at hr
    rcases hr with e | e | e <;> subst e
    · have := this 0; omega
    · have := this 1; omega
    · have := this 2; omega
  refine ⟨⟨by rw [h.teams]; have := h.t8; omega, by rw [h.base]; have := h.b300; omega, by rw [h.percent]; have := h.p100; omega, fun t ht => ?_, fun t ht r hr => by have := rows t ht r hr; omega⟩, rows⟩
  obtain ⟨i, hi, rfl⟩ := each t ht
  rw [h.rows i hi]; rfl
theorem RLg.new {t b p : Nat} (h8 : t ≤ 8) (hb : b ≤ 300) (hp : p ≤ 100) : RLg (Kyp2.begun t b p) (Lg.new t b p) := by
  have tmn : ∀ i, (Lg.new t b p).tm i = Tm.new := fun i => by
    unfold Lg.new Lg.tm
    show (List.replicate t Tm.new).getD i Tm.new = Tm.new
    rw [List.getD_eq_getElem?_getD, List.getElem?_replicate]
    split <;> rfl
  refine ⟨List.length_replicate, h8, rfl, hb, rfl, hp, rfl, Nat.zero_le _, fun i hi => ?_, fun i hi => ?_, fun x hx => by simp [Kyp2.begun] at hx⟩
  · rw [tmn i]; rfl
  · rw [tmn i]; rfl
end Bw

namespace Bw
/-! ### the hall: the specification's and the mirror's -/
def owned (q : Kyp.Hall) : List Nat := q.lanes.filterMap fun x => x.group
structure RH (q : Kyp.Hall) (h : Hl) : Prop where
  price : h.price = q.price
  pr : q.price ≤ 10000
  lend : h.lend = q.lend
  lr : q.lend ≤ 10000
  owners : h.owners = q.lanes.map fun x => x.group
  broken : h.broken = q.lanes.map fun x => x.broken
  lanes : q.lanes.length ≤ 8
  glen : h.groups.length = q.groups.length
  grp : ∀ i, i < q.groups.length → RG (Kyp.group q i) (h.grp i)
  g60 : q.groups.length ≤ 60
  line : h.line = q.line
  taken : h.taken = q.taken
  lg : RLg q.league h.league
  li : ∀ g ∈ q.line, g < q.groups.length
  lo : ∀ g ∈ owned q, g < q.groups.length
  bn : ∀ x ∈ q.lanes, x.broken = true → x.group = none
  nd : (q.line ++ owned q).Nodup
  pl : ∀ g, g < q.groups.length → (Kyp.group q g).gone = false → g ∈ q.line ++ owned q
  tm : ∀ g t, g < q.groups.length → (Kyp.group q g).team = some t → t < q.league.teams ∧ (Kyp.group q g).size = 3
  td : ∀ i j t, i < q.groups.length → j < q.groups.length → i ≠ j → (Kyp.group q i).gone = false → (Kyp.group q j).gone = false → (Kyp.group q i).team = some t → (Kyp.group q j).team = some t → False
theorem mem_owned {q : Kyp.Hall} {g : Nat} : g ∈ owned q ↔ ∃ x ∈ q.lanes, x.group = some g := by
  unfold owned
  rw [List.mem_filterMap]
theorem RH.mem_owners {q : Kyp.Hall} {h : Hl} (x : RH q h) {g : Nat} : some g ∈ h.owners ↔ g ∈ owned q := by
  rw [x.owners, mem_owned, List.mem_map]
theorem laneOf_none {h : Hl} {g : Nat} (e : h.laneOf g = none) : some g ∉ h.owners := fun hm => by
  unfold Hl.laneOf at e
  rw [if_pos hm] at e; cases e
theorem RH.hok {q : Kyp.Hall} {h : Hl} (x : RH q h) : HOk h := by
  have each : ∀ g ∈ h.groups, ∃ i, i < q.groups.length ∧ g = h.grp i := fun g hg => by
    obtain ⟨i, hi, e⟩ := List.mem_iff_getElem.mp hg
    refine ⟨i, by rw [← x.glen]; exact hi, ?_⟩
    unfold Hl.grp
    rw [List.getD_eq_getElem?_getD, List.getElem?_eq_getElem hi, ← e]; rfl
  have lg := x.lg.ok
  refine ⟨by rw [x.owners, List.length_map]; exact x.lanes, by rw [x.owners, x.broken, List.length_map, List.length_map], fun g hg => by rw [x.glen]; exact x.lo g (x.mem_owners.mp hg), fun g hg => by rw [x.glen]; exact x.li g (by rw [← x.line]; exact hg), ?_, fun g hg hgone hl => ?_, by rw [x.glen]; exact x.g60, by rw [x.price]; exact x.pr, by rw [x.lend]; exact x.lr, fun g hg => ?_, lg.1, lg.2, fun g hg t ht => ?_⟩
  · rw [x.line]
    have n := (List.nodup_append.mp x.nd).1
    exact Nat.le_trans (nodup_range n fun g hg => x.li g hg) x.g60
  · rw [x.glen] at hg
    have hgn : (Kyp.group q g).gone = false := by rw [(x.grp g hg).gone]; exact hgone
    rw [x.line]
    rcases List.mem_append.mp (x.pl g hg hgn) with h1 | h1
    · exact h1
    · exact absurd (x.mem_owners.mpr h1) (laneOf_none hl)
  · obtain ⟨i, hi, rfl⟩ := each g hg
    exact (x.grp i hi).gok
  · obtain ⟨i, hi, rfl⟩ := each g hg
    have r := x.grp i hi
    have := x.tm i t hi (by rw [r.team]; exact ht)
    exact ⟨by rw [x.lg.teams]; exact this.1, by rw [← r.size]; exact this.2⟩
/-! ### who gets a lane -/
def freeFrom : Nat → List Kyp.Lane → List Nat
  | _, [] => []
  | k, x :: l => if Kyp.isFree x = true then k :: freeFrom (k + 1) l else freeFrom (k + 1) l
theorem freeFrom_is : ∀ (l pre : List Kyp.Lane), freeFrom pre.length l = ((List.range l.length).map fun i => pre.length + i).filter fun k => (((pre ++ l).map fun x => x.group).getD k none).isNone && !(((pre ++ l).map fun x => x.broken).getD k false)
  | [], _ => rfl
  | x :: l, pre => by
    have ih := freeFrom_is l (pre ++ [x])
    rw [List.length_append, List.length_singleton, List.append_assoc] at ih
    have e1 : (((pre ++ x :: l).map fun x => x.group).getD pre.length none) = x.group := by
      rw [List.getD_eq_getElem?_getD, List.getElem?_map, List.getElem?_append_right (Nat.le_refl _), Nat.sub_self]; rfl
    have e2 : (((pre ++ x :: l).map fun x => x.broken).getD pre.length false) = x.broken := by
      rw [List.getD_eq_getElem?_getD, List.getElem?_map, List.getElem?_append_right (Nat.le_refl _), Nat.sub_self]; rfl
    unfold freeFrom
    rw [List.length_cons, List.range_succ_eq_map, List.map_cons, List.filter_cons]
    simp only [Nat.add_zero]
    rw [e1, e2, List.map_map]
    have e3 : (List.map ((fun i => pre.length + i) ∘ Nat.succ) (List.range l.length)) = (List.range l.length).map fun i => pre.length + 1 + i := by
      refine List.map_congr_left fun i _ => ?_
      show pre.length + (i + 1) = _
      omega
    rw [e3, ih]
    have e4 : Kyp.isFree x = (x.group.isNone && !x.broken) := by unfold Kyp.isFree; exact Bool.and_comm _ _
    rw [e4]
    rfl
theorem RH.free {q : Kyp.Hall} {h : Hl} (x : RH q h) : h.freeLanes = freeFrom 0 q.lanes := by
  have e := freeFrom_is q.lanes []
  rw [List.length_nil, List.nil_append] at e
  rw [e]
  unfold Hl.freeLanes Hl.owner Hl.isBroken
  rw [x.owners, x.broken, List.length_map]
  congr 1
  rw [show (fun i => 0 + i) = (id : Nat → Nat) from funext fun i => Nat.zero_add i, List.map_id]
theorem give_nil : ∀ (ks : List Nat) (os : List (Option Nat)), ks.foldl giveStep (os, []) = (os, [])
  | [], _ => rfl
  | k :: ks, os => give_nil ks os
theorem filled_is : ∀ (l pre : List Kyp.Lane) (line : List Nat), (freeFrom pre.length l).foldl giveStep ((pre ++ l).map (fun x : Kyp.Lane => x.group), line) = ((pre ++ (Kyp.filled line l).2).map (fun x : Kyp.Lane => x.group), (Kyp.filled line l).1)
  | [], pre, [] => rfl
  | [], pre, g :: line => rfl
  | x :: l, pre, [] => by rw [give_nil]; rfl
  | x :: l, pre, g :: line => by
    unfold freeFrom Kyp.filled
    by_cases c : Kyp.isFree x = true
    · rw [if_pos c, if_pos c, List.foldl_cons]
      have ih := filled_is l (pre ++ [{ x with group := some g }]) line
      rw [List.length_append, List.length_singleton, List.append_assoc, List.append_assoc] at ih
      have e : giveStep ((pre ++ x :: l).map (fun x : Kyp.Lane => x.group), g :: line) pre.length = ((pre ++ ([{ x with group := some g }] ++ l)).map (fun x : Kyp.Lane => x.group), line) := by
        show (((pre ++ x :: l).map fun x : Kyp.Lane => x.group).set pre.length (some g), line) = _
        congr 1
        rw [List.map_append, List.map_append, List.set_append_right _ _ (by rw [List.length_map]; exact Nat.le_refl _), List.length_map, Nat.sub_self]; rfl
      rw [e, ih]; rfl
    · rw [if_neg c, if_neg c]
      have ih := filled_is l (pre ++ [x]) (g :: line)
      rw [List.length_append, List.length_singleton, List.append_assoc, List.append_assoc] at ih
      exact ih
theorem filled_broken : ∀ (line : List Nat) (l : List Kyp.Lane), (Kyp.filled line l).2.map (fun x : Kyp.Lane => x.broken) = l.map fun x : Kyp.Lane => x.broken
  | [], [] => rfl
  | _ :: _, [] => rfl
  | [], x :: l => rfl
  | g :: line, x :: l => by
    unfold Kyp.filled
    split
    · show x.broken :: _ = _
      rw [filled_broken line l]; rfl
    · show x.broken :: _ = _
      rw [filled_broken (g :: line) l]; rfl
theorem filled_perm : ∀ (line : List Nat) (l : List Kyp.Lane), ((Kyp.filled line l).1 ++ (Kyp.filled line l).2.filterMap fun x : Kyp.Lane => x.group).Perm (line ++ l.filterMap fun x : Kyp.Lane => x.group)
  | [], [] => List.Perm.refl _
  | _ :: _, [] => List.Perm.refl _
  | [], x :: l => List.Perm.refl _
  | g :: line, x :: l => by
    unfold Kyp.filled
    split
    · rename_i c
      have hx : x.group = none := by
        unfold Kyp.isFree at c
        rw [Bool.and_eq_true] at c
        exact Option.isNone_iff_eq_none.mp c.2
      have ih := filled_perm line l
      show ((Kyp.filled line l).1 ++ List.filterMap (fun x : Kyp.Lane => x.group) ({ x with group := some g } :: (Kyp.filled line l).2)).Perm _
      rw [List.filterMap_cons_some (f := fun x : Kyp.Lane => x.group) (b := g) rfl, List.filterMap_cons_none (f := fun x : Kyp.Lane => x.group) hx]
      exact List.perm_middle.trans (ih.cons g)
    · have ih := filled_perm (g :: line) l
      show ((Kyp.filled (g :: line) l).1 ++ List.filterMap (fun x : Kyp.Lane => x.group) (x :: (Kyp.filled (g :: line) l).2)).Perm _
      cases e : x.group with
      | none => rw [List.filterMap_cons_none (f := fun x : Kyp.Lane => x.group) e, List.filterMap_cons_none (f := fun x : Kyp.Lane => x.group) e]; exact ih
      | some j =>
        rw [List.filterMap_cons_some (f := fun x : Kyp.Lane => x.group) e, List.filterMap_cons_some (f := fun x : Kyp.Lane => x.group) e]
        exact List.perm_middle.trans ((ih.cons j).trans List.perm_middle.symm)
theorem filled_bn : ∀ (line : List Nat) (l : List Kyp.Lane), (∀ x ∈ l, x.broken = true → x.group = none) → ∀ x ∈ (Kyp.filled line l).2, x.broken = true → x.group = none
  | [], [], h => h
  | _ :: _, [], h => h
  | [], x :: l, h => h
  | g :: line, x :: l, h => by
    unfold Kyp.filled
    split
    · rename_i c
      intro y hy hb
      rcases List.mem_cons.mp hy with e | hy
      · rw [e] at hb
        unfold Kyp.isFree at c
        rw [Bool.and_eq_true] at c
        have hb' : x.broken = true := hb
        rw [hb'] at c
        exact absurd c.1 (by simp)
      · exact filled_bn line l (fun z hz => h z (by simp [hz])) y hy hb
    · intro y hy hb
      rcases List.mem_cons.mp hy with e | hy
      · rw [e] at hb ⊢; exact h x (by simp) hb
      · exact filled_bn (g :: line) l (fun z hz => h z (by simp [hz])) y hy hb
theorem filled_len : ∀ (line : List Nat) (l : List Kyp.Lane), (Kyp.filled line l).2.length = l.length := fun line l => by
  have := congrArg List.length (filled_broken line l)
  rw [List.length_map, List.length_map] at this
  exact this
theorem RH.fill {q : Kyp.Hall} {h : Hl} (x : RH q h) : RH (Kyp.fill q) h.give := by
  have f := filled_is q.lanes [] q.line
  rw [List.length_nil, List.nil_append, List.nil_append, ← x.free, ← x.owners, ← x.line] at f
  have p := filled_perm q.line q.lanes
  have pm : ∀ g, g ∈ (Kyp.filled q.line q.lanes).1 ++ owned (Kyp.fill q) ↔ g ∈ q.line ++ owned q := fun g => p.mem_iff
  rw [x.line] at f
  refine ⟨x.price, x.pr, x.lend, x.lr, ?_, ?_, ?_, x.glen, x.grp, x.g60, ?_, x.taken, x.lg, fun g hg => ?_, fun g hg => ?_, filled_bn _ _ x.bn, ?_, fun g hg hn => (pm g).mpr (x.pl g hg hn), x.tm, x.td⟩
  · show (h.freeLanes.foldl giveStep (h.owners, h.line)).1 = _
    rw [x.line, f]; rfl
  · show h.broken = (Kyp.filled q.line q.lanes).2.map fun x => x.broken
    rw [filled_broken]; exact x.broken
  · show (Kyp.filled q.line q.lanes).2.length ≤ 8
    rw [filled_len]; exact x.lanes
  · show (h.freeLanes.foldl giveStep (h.owners, h.line)).2 = _
    rw [x.line, f]; rfl
  · have := (pm g).mp (List.mem_append_left _ hg)
    rcases List.mem_append.mp this with h1 | h1
    · exact x.li g h1
    · exact x.lo g h1
  · have := (pm g).mp (List.mem_append_right _ hg)
    rcases List.mem_append.mp this with h1 | h1
    · exact x.li g h1
    · exact x.lo g h1
  · exact p.nodup_iff.mpr x.nd
end Bw

namespace Bw
/-! ### one call -/
def StepOk (q : Kyp.Hall) (h : Hl) (c : Nat) (l : List Nat) (r : Option (Option Kyp.Hall × Kyp.Ans)) : Prop := ∃ q' a h', r = some (some q', a) ∧ desk (some h) c l = (some h', a.value :: iL a.out) ∧ RH q' h'
theorem step_ok {q q' : Kyp.Hall} {h h' : Hl} {c : Nat} {l : List Nat} {a : Kyp.Ans} {out : List Int} (hc : c ≠ 0) (e : actAns h c l = .ok (h', out)) (R : RH q' h') (eo : out = a.value :: iL a.out) : StepOk q h c l (some (some q', a)) := by
  refine ⟨q', a, h', rfl, ?_, R⟩
  unfold desk
  rw [if_neg hc]
  show (match actAns h c l with
    | .ok (h', a) => (some h', a)
    | .error e => (some h, [e])) = _
  rw [e, eo]
theorem step_err {q : Kyp.Hall} {h : Hl} {c : Nat} {l : List Nat} {v : Int} (hc : c ≠ 0) (e : actAns h c l = .error v) (R : RH q h) : StepOk q h c l (some (some q, Kyp.say v)) := by
  refine ⟨q, _, h, rfl, ?_, R⟩
  unfold desk
  rw [if_neg hc]
  show (match actAns h c l with
    | .ok (h', a) => (some h', a)
    | .error e => (some h, [e])) = _
  rw [e]; rfl
theorem RH.here {q : Kyp.Hall} {h : Hl} (x : RH q h) (g : Nat) : Kyp.there q g = isHere h g := by
  unfold Kyp.there isHere
  rw [x.glen]
  by_cases c : g < q.groups.length
  · rw [(x.grp g c).gone]
  · rw [decide_eq_false c]; rfl
theorem group_set {q : Kyp.Hall} {g i : Nat} (hg : g < q.groups.length) (y : Kyp.Group) : Kyp.group (Kyp.setGroup q g y) i = if i = g then y else Kyp.group q i := by
  unfold Kyp.group Kyp.setGroup
  show (q.groups.set g y).getD i _ = _
  by_cases c : i = g
  · subst c
    rw [if_pos rfl, List.getD_eq_getElem?_getD, List.getElem?_set_self hg]; rfl
  · rw [if_neg c, List.getD_eq_getElem?_getD, List.getElem?_set_ne (Ne.symm c), ← List.getD_eq_getElem?_getD]
theorem grp_set {h : Hl} {g i : Nat} (hg : g < h.groups.length) (y : Grp) : (h.setGrp g y).grp i = if i = g then y else h.grp i := by
  unfold Hl.grp Hl.setGrp
  show (h.groups.set g y).getD i _ = _
  by_cases c : i = g
  · subst c
    rw [if_pos rfl, List.getD_eq_getElem?_getD, List.getElem?_set_self hg]; rfl
  · rw [if_neg c, List.getD_eq_getElem?_getD, List.getElem?_set_ne (Ne.symm c), ← List.getD_eq_getElem?_getD]
/-- a group's game or what's counted of it changes -/
theorem RH.setSame {q : Kyp.Hall} {h : Hl} (x : RH q h) {g : Nat} (hg : g < q.groups.length) {y : Kyp.Group} {y' : Grp} (r : RG y y') (e1 : y.gone = (Kyp.group q g).gone) (e2 : y.team = (Kyp.group q g).team) (e3 : y.size = (Kyp.group q g).size) : RH (Kyp.setGroup q g y) (h.setGrp g y') := by
  have hg' : g < h.groups.length := by rw [x.glen]; exact hg
  have hl : (Kyp.setGroup q g y).groups.length = q.groups.length := by unfold Kyp.setGroup; exact List.length_set
  have gone : ∀ i, (Kyp.group (Kyp.setGroup q g y) i).gone = (Kyp.group q i).gone := fun i => by
    rw [group_set hg]
    split
    · rename_i c; rw [c]; exact e1
    · rfl
  have team : ∀ i, (Kyp.group (Kyp.setGroup q g y) i).team = (Kyp.group q i).team := fun i => by
    rw [group_set hg]
    split
    · rename_i c; rw [c]; exact e2
    · rfl
  have size : ∀ i, (Kyp.group (Kyp.setGroup q g y) i).size = (Kyp.group q i).size := fun i => by
    rw [group_set hg]
    split
    · rename_i c; rw [c]; exact e3
    · rfl
  refine ⟨x.price, x.pr, x.lend, x.lr, x.owners, x.broken, x.lanes, ?_, fun i hi => ?_, by rw [hl]; exact x.g60, x.line, x.taken, x.lg, fun i hi => by rw [hl]; exact x.li i hi, fun i hi => by rw [hl]; exact x.lo i hi, x.bn, x.nd, fun i hi hn => ?_, fun i t hi ht => ?_, fun i j t hi hj ne g1 g2 t1 t2 => ?_⟩
  · rw [hl]
    show (h.groups.set g y').length = _
    rw [List.length_set]; exact x.glen
  · rw [hl] at hi
    rw [group_set hg, grp_set hg']
    split
    · exact r
    · exact x.grp i hi
  · rw [hl] at hi
    rw [gone i] at hn
    exact x.pl i hi hn
  · rw [hl] at hi
    rw [team i] at ht
    rw [size i]
    exact x.tm i t hi ht
  · rw [hl] at hi hj
    rw [gone i] at g1
    rw [gone j] at g2
    rw [team i] at t1
    rw [team j] at t2
    exact x.td i j t hi hj ne g1 g2 t1 t2
/-! #### lanes -/
theorem RH.olen {q : Kyp.Hall} {h : Hl} (x : RH q h) : h.owners.length = q.lanes.length := by rw [x.owners, List.length_map]
theorem lane_at {q : Kyp.Hall} {k : Nat} (hk : k < q.lanes.length) : q.lanes[k]? = some (Kyp.lane q k) := by
  unfold Kyp.lane; rw [List.getD_eq_getElem?_getD, List.getElem?_eq_getElem hk]; rfl
theorem RH.owner {q : Kyp.Hall} {h : Hl} (x : RH q h) {k : Nat} (hk : k < q.lanes.length) : h.owner k = (Kyp.lane q k).group := by
  unfold Hl.owner
  rw [x.owners, List.getD_eq_getElem?_getD, List.getElem?_map, lane_at hk]; rfl
theorem RH.isBroken {q : Kyp.Hall} {h : Hl} (x : RH q h) {k : Nat} (hk : k < q.lanes.length) : h.isBroken k = (Kyp.lane q k).broken := by
  unfold Hl.isBroken
  rw [x.broken, List.getD_eq_getElem?_getD, List.getElem?_map, lane_at hk]; rfl
theorem RH.onLane {q : Kyp.Hall} {h : Hl} (x : RH q h) (k : Nat) : Bw.onLane h k = (match Kyp.onLane q k with
    | .inl v => .error v
    | .inr g => .ok g) ∧ ∀ g, Kyp.onLane q k = .inr g → g < q.groups.length := by
  unfold Bw.onLane Kyp.onLane
  rw [x.olen]
  by_cases c : k < q.lanes.length
  · rw [if_pos c, if_neg (by omega), x.owner c]
    cases e : (Kyp.lane q k).group with
    | none => exact ⟨rfl, fun g hg => by cases hg⟩
    | some g =>
      refine ⟨rfl, fun j hj => ?_⟩
      cases hj
      exact x.lo g (mem_owned.mpr ⟨_, List.mem_of_getElem? (lane_at c), e⟩)
  · rw [if_neg c, if_pos (by omega)]
    exact ⟨rfl, fun g hg => by cases hg⟩
theorem RH.laneOf {q : Kyp.Hall} {h : Hl} (x : RH q h) (g : Nat) : Kyp.laneOf q g = h.laneOf g := by
  have p : ∀ k, k < q.lanes.length → (match (Kyp.lane q k).group with
      | some j => j == g
      | none => false) = decide (h.owners[k]? = some (some g)) := fun k hk => by
    rw [x.owners, List.getElem?_map, lane_at hk]
    show _ = decide (some (Kyp.lane q k).group = some (some g))
    cases (Kyp.lane q k).group with
    | none => simp
    | some j =>
      rw [Bool.eq_iff_iff, decide_eq_true_iff]
      simp
  unfold Kyp.laneOf Hl.laneOf
  by_cases c : some g ∈ h.owners
  · rw [if_pos c, List.find?_range_eq_some]
    have lt := List.idxOf_lt_length_iff.mpr c
    have lt' : h.owners.idxOf (some g) < q.lanes.length := by rw [← x.olen]; exact lt
    refine ⟨?_, List.mem_range.mpr lt', fun j hj => ?_⟩
    · refine Eq.trans (p _ lt') ?_
      rw [decide_eq_true_iff, List.getElem?_eq_getElem lt, List.getElem_idxOf]
    · refine Eq.trans (congrArg (fun b => !b) (p j (by omega))) ?_
      show (!decide (h.owners[j]? = some (some g))) = true
      have hj2 : j < h.owners.length := by omega
      have := List.not_of_lt_findIdx (p := (· == some g)) (xs := h.owners) (i := j) hj
      have this2 : ¬ (h.owners[j] == some g) = true := by
        have t : (h.owners[j] == some g) = false := this
        rw [t]; simp
      rw [beq_iff_eq] at this2
      rw [List.getElem?_eq_getElem hj2, decide_eq_false fun e => this2 (Option.some.inj e)]; rfl
  · rw [if_neg c, List.find?_eq_none]
    intro k hk hh
    have e := (p k (List.mem_range.mp hk)).symm.trans hh
    rw [decide_eq_true_iff] at e
    exact c (List.mem_of_getElem? e)
theorem placeIn_is (g : Nat) : ∀ l : List Nat, Kyp.placeIn l g = l.idxOf g
  | [] => rfl
  | y :: l => by
    have ih := placeIn_is g l
    unfold Kyp.placeIn at ih ⊢
    rw [List.takeWhile_cons, List.idxOf_cons]
    by_cases c : y = g
    · subst c; simp
    · have : (y == g) = false := by simp [c]
      rw [this]
      simp [c, ih]
/-! #### readings -/
theorem RH.player {q : Kyp.Hall} {h : Hl} (x : RH q h) (g p : Nat) : (q.groups.length ≤ g ∨ (Kyp.group q g).size ≤ p) ∧ Bw.player h g p = .error (-2) ∨
    ¬ (q.groups.length ≤ g ∨ (Kyp.group q g).size ≤ p) ∧ g < q.groups.length ∧ p < (h.grp g).size ∧ Bw.player h g p = .ok ((h.grp g).row p) ∧ Kyp.rollsOf (Kyp.group q g).now p = (h.grp g).row p ∧ okR ((h.grp g).row p) := by
  unfold Bw.player
  rw [x.glen]
  by_cases c : g < q.groups.length
  · have r := x.grp g c
    by_cases c2 : p < (h.grp g).size
    · right
      refine ⟨by rw [r.size]; omega, c, c2, by rw [if_pos c, if_pos c2], by rw [r.now]; rfl, ?_⟩
      exact r.gok.rows _ (List.mem_of_getElem? (row_at (by rw [r.gok.rolls]; exact c2)))
    · left
      exact ⟨.inr (by rw [r.size]; omega), by rw [if_pos c, if_neg c2]⟩
  · left
    exact ⟨.inl (by omega), by rw [if_neg c]⟩
theorem RH.freeN {q : Kyp.Hall} {h : Hl} (x : RH q h) : h.freeLanes.length = (q.lanes.filter Kyp.isFree).length := by
  rw [x.free]
  suffices e : ∀ (l : List Kyp.Lane) (k : Nat), (freeFrom k l).length = (l.filter Kyp.isFree).length from e _ _
  intro l
  induction l with
  | nil => intro k; rfl
  | cons y l ih =>
    intro k
    unfold freeFrom
    rw [List.filter_cons]
    split
    · rw [List.length_cons, List.length_cons, ih]
    · exact ih _
theorem iL_ints (l : List Nat) : iL l = l.map fun (x : Nat) => (x : Int) := rfl
theorem read_step {q : Kyp.Hall} {h : Hl} (x : RH q h) : ∀ (k : Kyp.Call) (c : Nat) (l : List Nat), (match k with
    | .line => c = 5 ∧ l = []
    | .lane a => c = 6 ∧ l = [a]
    | .where_ a => c = 7 ∧ l = [a]
    | .turn a => c = 10 ∧ l = [a]
    | .score a b => c = 11 ∧ l = [a, b]
    | .frame a b d => c = 12 ∧ l = [a, b, d]
    | .range a b => c = 13 ∧ l = [a, b]
    | .ways a b d => c = 14 ∧ l = [a, b, d]
    | .games a => c = 15 ∧ l = [a]
    | .game a b d => c = 16 ∧ l = [a, b, d]
    | .bill a => c = 17 ∧ l = [a]
    | .taken => c = 18 ∧ l = []
    | .average a b => c = 20 ∧ l = [a, b]
    | .allowance a b => c = 21 ∧ l = [a, b]
    | .points a => c = 22 ∧ l = [a]
    | .order => c = 23 ∧ l = []
    | .state => c = 24 ∧ l = []
    | _ => False) → StepOk q h c l (Kyp.acts (some q) k) := by
  intro k c l hk
  cases k with
  | line =>
    obtain ⟨rfl, rfl⟩ := hk
    refine step_ok (h' := h) (by decide) (by simp only [actAns, readAns] <;> rfl) x ?_
    rw [x.line]; rfl
  | lane a =>
    obtain ⟨rfl, rfl⟩ := hk
    by_cases c : a < q.lanes.length
    · have e : Kyp.acts (some q) (.lane a) = some (some q, ⟨if (Kyp.lane q a).broken then 1 else 0, [match (Kyp.lane q a).group with
        | some g => g + 1
        | none => 0]⟩) := by simp only [Kyp.acts, Option.map_some, if_neg (show ¬ q.lanes.length ≤ a by omega)] <;> rfl
      rw [e]
      have co : a < h.owners.length := by rw [x.olen]; exact c
      refine step_ok (h' := h) (by decide) (by simp only [actAns, readAns, co, if_true] <;> rfl) x ?_
      rw [x.isBroken c, x.owner c]
      cases (Kyp.lane q a).group <;> rfl
    · have e : Kyp.acts (some q) (.lane a) = some (some q, Kyp.say (-2)) := by simp only [Kyp.acts, Option.map_some, if_pos (show q.lanes.length ≤ a by omega)] <;> rfl
      rw [e]
      have co : ¬ a < h.owners.length := by rw [x.olen]; exact c
      exact step_err (by decide) (by simp only [actAns, readAns, co, if_false] <;> rfl) x
  | where_ a =>
    obtain ⟨rfl, rfl⟩ := hk
    by_cases c : a < q.groups.length
    · have r := x.grp a c
      have co : a < h.groups.length := by rw [x.glen]; exact c
      have cn : ¬ q.groups.length ≤ a := by omega
      cases eg : (Kyp.group q a).gone with
      | true =>
        have eg' : (h.grp a).gone = true := by rw [← r.gone]; exact eg
        have e : Kyp.acts (some q) (.where_ a) = some (some q, ⟨2, [0]⟩) := by simp only [Kyp.acts, Option.map_some, cn, eg, if_false, if_true] <;> rfl
        rw [e]
        exact step_ok (h' := h) (by decide) (by simp only [actAns, readAns, co, eg', if_true] <;> rfl) x rfl
      | false =>
        have eg' : (h.grp a).gone = false := by rw [← r.gone]; exact eg
        cases el : h.laneOf a with
        | none =>
          have e : Kyp.acts (some q) (.where_ a) = some (some q, ⟨0, [Kyp.placeIn q.line a]⟩) := by simp only [Kyp.acts, Option.map_some, cn, eg, if_false, Bool.false_eq_true, x.laneOf, el] <;> rfl
          rw [e]
          refine step_ok (h' := h) (by decide) (by simp only [actAns, readAns, co, eg', el, if_true, if_false, Bool.false_eq_true] <;> rfl) x ?_
          rw [placeIn_is, x.line]; rfl
        | some k =>
          have e : Kyp.acts (some q) (.where_ a) = some (some q, ⟨1, [k]⟩) := by simp only [Kyp.acts, Option.map_some, cn, eg, if_false, Bool.false_eq_true, x.laneOf, el] <;> rfl
          rw [e]
          exact step_ok (h' := h) (by decide) (by simp only [actAns, readAns, co, eg', el, if_true, if_false, Bool.false_eq_true] <;> rfl) x rfl
    · have e : Kyp.acts (some q) (.where_ a) = some (some q, Kyp.say (-2)) := by simp only [Kyp.acts, Option.map_some, if_pos (show q.groups.length ≤ a by omega)] <;> rfl
      rw [e]
      have co : ¬ a < h.groups.length := by rw [x.glen]; exact c
      exact step_err (by decide) (by simp only [actAns, readAns, co, if_false] <;> rfl) x
  | turn a =>
    obtain ⟨rfl, rfl⟩ := hk
    have ol := x.onLane a
    cases e : Kyp.onLane q a with
    | inl v =>
      rw [e] at ol
      have e2 : Kyp.acts (some q) (.turn a) = some (some q, Kyp.say v) := by simp only [Kyp.acts, Option.map_some, e] <;> rfl
      rw [e2]
      exact step_err (by decide) (by simp only [actAns, readAns, ol.1] <;> rfl) x
    | inr g =>
      rw [e] at ol
      have r := x.grp g (ol.2 g rfl)
      have e2 : Kyp.acts (some q) (.turn a) = some (some q, ⟨(Kyp.turn (Kyp.group q g).now : Nat), [Kyp1.standing (Kyp.rollsOf (Kyp.group q g).now (Kyp.turn (Kyp.group q g).now))]⟩) := by simp only [Kyp.acts, Option.map_some, e] <;> rfl
      rw [e2]
      refine step_ok (h' := h) (by decide) (by simp only [actAns, readAns, ol.1] <;> rfl) x ?_
      rw [r.standing, r.turn]; rfl
  | score a b =>
    obtain ⟨rfl, rfl⟩ := hk
    rcases x.player a b with ⟨c, e⟩ | ⟨c, hg, hp, e, er, okl⟩
    · have e2 : Kyp.acts (some q) (.score a b) = some (some q, Kyp.say (-2)) := by simp only [Kyp.acts, Option.map_some, Kyp.ofPlayer, if_pos c] <;> rfl
      rw [e2]
      exact step_err (by decide) (by simp only [actAns, readAns, e] <;> rfl) x
    · have e2 : Kyp.acts (some q) (.score a b) = some (some q, ⟨(Kyp1.score (Kyp.rollsOf (Kyp.group q a).now b) : Nat), [(Kyp1.known (Kyp.rollsOf (Kyp.group q a).now b)).length]⟩) := by simp only [Kyp.acts, Option.map_some, Kyp.ofPlayer, if_neg c] <;> rfl
      rw [e2]
      refine step_ok (h' := h) (by decide) (by simp only [actAns, readAns, e] <;> rfl) x ?_
      rw [er, score_ok okl, known_ok okl]; rfl
  | frame a b d =>
    obtain ⟨rfl, rfl⟩ := hk
    rcases x.player a b with ⟨c, e⟩ | ⟨c, hg, hp, e, er, okl⟩
    · have e2 : Kyp.acts (some q) (.frame a b d) = some (some q, Kyp.say (-2)) := by simp only [Kyp.acts, Option.map_some, Kyp.ofPlayer, if_pos c] <;> rfl
      rw [e2]
      exact step_err (by decide) (by simp only [actAns, readAns, e] <;> rfl) x
    · have fa := frameAns_ok okl d
      by_cases c9 : 9 < d
      · have e2 : Kyp.acts (some q) (.frame a b d) = some (some q, Kyp.say (-22)) := by simp only [Kyp.acts, Option.map_some, Kyp.ofPlayer, if_neg c, if_pos c9] <;> rfl
        rw [e2]
        rw [if_pos c9] at fa
        exact step_err (by decide) (by simp only [actAns, readAns, e, fa] <;> rfl) x
      · rw [if_neg c9] at fa
        cases es : (Kyp1.scores 10 ((h.grp a).row b)).getD d none with
        | none =>
          rw [es] at fa
          have e2 : Kyp.acts (some q) (.frame a b d) = some (some q, Kyp.say (-61)) := by simp only [Kyp.acts, Option.map_some, Kyp.ofPlayer, if_neg c, if_neg c9, er, es] <;> rfl
          rw [e2]
          exact step_err (by decide) (by simp only [actAns, readAns, e, fa] <;> rfl) x
        | some n =>
          rw [es] at fa
          have e2 : Kyp.acts (some q) (.frame a b d) = some (some q, Kyp.say (n : Nat)) := by simp only [Kyp.acts, Option.map_some, Kyp.ofPlayer, if_neg c, if_neg c9, er, es] <;> rfl
          rw [e2]
          exact step_ok (h' := h) (by decide) (by simp only [actAns, readAns, e, fa] <;> rfl) x rfl
  | range a b =>
    obtain ⟨rfl, rfl⟩ := hk
    rcases x.player a b with ⟨c, e⟩ | ⟨c, hg, hp, e, er, okl⟩
    · have e2 : Kyp.acts (some q) (.range a b) = some (some q, Kyp.say (-2)) := by simp only [Kyp.acts, Option.map_some, Kyp.ofPlayer, if_pos c] <;> rfl
      rw [e2]
      exact step_err (by decide) (by simp only [actAns, readAns, e] <;> rfl) x
    · have e2 : Kyp.acts (some q) (.range a b) = some (some q, ⟨(Kyp1.least (Kyp.rollsOf (Kyp.group q a).now b) : Nat), [Kyp1.most (Kyp.rollsOf (Kyp.group q a).now b)]⟩) := by simp only [Kyp.acts, Option.map_some, Kyp.ofPlayer, if_neg c] <;> rfl
      rw [e2]
      refine step_ok (h' := h) (by decide) (by simp only [actAns, readAns, e] <;> rfl) x ?_
      rw [er, least_ok okl, most_ok okl]; rfl
  | ways a b d =>
    obtain ⟨rfl, rfl⟩ := hk
    rcases x.player a b with ⟨c, e⟩ | ⟨c, hg, hp, e, er, okl⟩
    · have e2 : Kyp.acts (some q) (.ways a b d) = some (some q, Kyp.say (-2)) := by simp only [Kyp.acts, Option.map_some, Kyp.ofPlayer, if_pos c] <;> rfl
      rw [e2]
      exact step_err (by decide) (by simp only [actAns, readAns, e] <;> rfl) x
    · by_cases c3 : 300 < d
      · have e2 : Kyp.acts (some q) (.ways a b d) = some (some q, Kyp.say (-22)) := by simp only [Kyp.acts, Option.map_some, Kyp.ofPlayer, if_neg c, if_pos c3] <;> rfl
        rw [e2]
        have c4 : ¬ d ≤ 300 := by omega
        exact step_err (by decide) (by simp only [actAns, readAns, e, c4, if_false] <;> rfl) x
      · have e2 : Kyp.acts (some q) (.ways a b d) = some (some q, ⟨0, [Kyp1.waysTo (Kyp.rollsOf (Kyp.group q a).now b) d]⟩) := by simp only [Kyp.acts, Option.map_some, Kyp.ofPlayer, if_neg c, if_neg c3] <;> rfl
        rw [e2]
        have c4 : d ≤ 300 := by omega
        refine step_ok (h' := h) (by decide) (by simp only [actAns, readAns, e, c4, if_true] <;> rfl) x ?_
        rw [er, waysTo_ok okl]; rfl
  | games a =>
    obtain ⟨rfl, rfl⟩ := hk
    by_cases c : a < q.groups.length
    · have r := x.grp a c
      have co : a < h.groups.length := by rw [x.glen]; exact c
      have e : Kyp.acts (some q) (.games a) = some (some q, Kyp.say ((Kyp.group q a).games.length : Nat)) := by simp only [Kyp.acts, Option.map_some, if_neg (show ¬ q.groups.length ≤ a by omega)] <;> rfl
      rw [e]
      refine step_ok (h' := h) (by decide) (by simp only [actAns, readAns, co, if_true] <;> rfl) x ?_
      rw [r.finLen]; rfl
    · have e : Kyp.acts (some q) (.games a) = some (some q, Kyp.say (-2)) := by simp only [Kyp.acts, Option.map_some, if_pos (show q.groups.length ≤ a by omega)] <;> rfl
      rw [e]
      have co : ¬ a < h.groups.length := by rw [x.glen]; exact c
      exact step_err (by decide) (by simp only [actAns, readAns, co, if_false] <;> rfl) x
  | game a b d =>
    obtain ⟨rfl, rfl⟩ := hk
    rcases x.player a d with ⟨c, e⟩ | ⟨c, hg, hp, e, er, okl⟩
    · have e2 : Kyp.acts (some q) (.game a b d) = some (some q, Kyp.say (-2)) := by simp only [Kyp.acts, Option.map_some, Kyp.ofPlayer, if_pos c] <;> rfl
      rw [e2]
      exact step_err (by decide) (by simp only [actAns, readAns, e] <;> rfl) x
    · have r := x.grp a hg
      by_cases c2 : b < (Kyp.group q a).games.length
      · have e2 : Kyp.acts (some q) (.game a b d) = some (some q, Kyp.say (Kyp.scoreIn (Kyp.group q a) b d : Nat)) := by simp only [Kyp.acts, Option.map_some, Kyp.ofPlayer, if_neg c, if_neg (show ¬ (Kyp.group q a).games.length ≤ b by omega)] <;> rfl
        rw [e2]
        have c4 : b < (h.grp a).fin.length := by rw [r.finLen]; exact c2
        refine step_ok (h' := h) (by decide) (by simp only [actAns, readAns, e, c4, if_true] <;> rfl) x ?_
        rw [r.scoreIn c2 hp]; rfl
      · have e2 : Kyp.acts (some q) (.game a b d) = some (some q, Kyp.say (-61)) := by simp only [Kyp.acts, Option.map_some, Kyp.ofPlayer, if_neg c, if_pos (show (Kyp.group q a).games.length ≤ b by omega)] <;> rfl
        rw [e2]
        have c4 : ¬ b < (h.grp a).fin.length := by rw [r.finLen]; exact c2
        exact step_err (by decide) (by simp only [actAns, readAns, e, c4, if_false] <;> rfl) x
  | bill a =>
    obtain ⟨rfl, rfl⟩ := hk
    cases ct : Kyp.there q a with
    | true =>
      have ch : isHere h a = true := by rw [← x.here]; exact ct
      have hg : a < q.groups.length := by
        unfold Kyp.there at ct
        rw [Bool.and_eq_true, decide_eq_true_eq] at ct
        exact ct.1
      have r := x.grp a hg
      have e : Kyp.acts (some q) (.bill a) = some (some q, Kyp.say (Kyp.bill q (Kyp.group q a) : Nat)) := by simp only [Kyp.acts, Option.map_some, ct, Bool.true_eq_false, if_false] <;> rfl
      rw [e]
      refine step_ok (h' := h) (by decide) (by simp only [actAns, readAns, ch, if_true] <;> rfl) x ?_
      rw [r.bill]
      unfold Hl.bill
      rw [x.price, x.lend]; rfl
    | false =>
      have ch : isHere h a = false := by rw [← x.here]; exact ct
      have e : Kyp.acts (some q) (.bill a) = some (some q, Kyp.say (-2)) := by simp only [Kyp.acts, Option.map_some, ct, if_true] <;> rfl
      rw [e]
      exact step_err (by decide) (by simp only [actAns, readAns, ch, if_false, Bool.false_eq_true] <;> rfl) x
  | taken =>
    obtain ⟨rfl, rfl⟩ := hk
    refine step_ok (h' := h) (by decide) (by simp only [actAns, readAns] <;> rfl) x ?_
    rw [x.taken]; rfl
  | average a b =>
    obtain ⟨rfl, rfl⟩ := hk
    by_cases c : q.league.teams ≤ a ∨ 2 < b
    · have e : Kyp.acts (some q) (.average a b) = some (some q, Kyp.say (-2)) := by simp only [Kyp.acts, Option.map_some, if_pos c] <;> rfl
      rw [e]
      by_cases c1 : a < h.league.teams.length
      · have c2 : ¬ b < 3 := by rw [x.lg.teams] at c1; omega
        exact step_err (by decide) (by simp only [actAns, readAns, c1, c2, if_true, if_false] <;> rfl) x
      · exact step_err (by decide) (by simp only [actAns, readAns, c1, if_false] <;> rfl) x
    · have e : Kyp.acts (some q) (.average a b) = some (some q, ⟨(Kyp2.average q.league.played a b : Nat), [(Kyp2.allGames q.league.played a b).length]⟩) := by simp only [Kyp.acts, Option.map_some, if_neg c] <;> rfl
      rw [e]
      have c1 : a < h.league.teams.length := by rw [x.lg.teams]; omega
      have c2 : b < 3 := by omega
      refine step_ok (h' := h) (by decide) (by simp only [actAns, readAns, c1, c2, if_true] <;> rfl) x ?_
      rw [x.lg.average (by omega) c2, x.lg.rowLen (by omega) c2]; rfl
  | allowance a b =>
    obtain ⟨rfl, rfl⟩ := hk
    by_cases c : q.league.teams ≤ a ∨ 2 < b
    · have e : Kyp.acts (some q) (.allowance a b) = some (some q, Kyp.say (-2)) := by simp only [Kyp.acts, Option.map_some, if_pos c] <;> rfl
      rw [e]
      by_cases c1 : a < h.league.teams.length
      · have c2 : ¬ b < 3 := by rw [x.lg.teams] at c1; omega
        exact step_err (by decide) (by simp only [actAns, readAns, c1, c2, if_true, if_false] <;> rfl) x
      · exact step_err (by decide) (by simp only [actAns, readAns, c1, if_false] <;> rfl) x
    · have e : Kyp.acts (some q) (.allowance a b) = some (some q, Kyp.say (Kyp2.allowance q.league q.league.played a b : Nat)) := by simp only [Kyp.acts, Option.map_some, if_neg c] <;> rfl
      rw [e]
      have c1 : a < h.league.teams.length := by rw [x.lg.teams]; omega
      have c2 : b < 3 := by omega
      refine step_ok (h' := h) (by decide) (by simp only [actAns, readAns, c1, c2, if_true] <;> rfl) x ?_
      rw [x.lg.allowance (by omega) c2]; rfl
  | points a =>
    obtain ⟨rfl, rfl⟩ := hk
    by_cases c : a < q.league.teams
    · have e : Kyp.acts (some q) (.points a) = some (some q, ⟨(Kyp2.points q.league a : Nat), [Kyp2.pins q.league a]⟩) := by simp only [Kyp.acts, Option.map_some, if_neg (show ¬ q.league.teams ≤ a by omega)] <;> rfl
      rw [e]
      have c1 : a < h.league.teams.length := by rw [x.lg.teams]; exact c
      refine step_ok (h' := h) (by decide) (by simp only [actAns, readAns, c1, if_true] <;> rfl) x ?_
      rw [x.lg.pts a c, x.lg.pins c]; rfl
    · have e : Kyp.acts (some q) (.points a) = some (some q, Kyp.say (-2)) := by simp only [Kyp.acts, Option.map_some, if_pos (show q.league.teams ≤ a by omega)] <;> rfl
      rw [e]
      have c1 : ¬ a < h.league.teams.length := by rw [x.lg.teams]; exact c
      exact step_err (by decide) (by simp only [actAns, readAns, c1, if_false] <;> rfl) x
  | order =>
    obtain ⟨rfl, rfl⟩ := hk
    refine step_ok (h' := h) (by decide) (by simp only [actAns, readAns] <;> rfl) x ?_
    rw [x.lg.order, x.lg.teams]; rfl
  | state =>
    obtain ⟨rfl, rfl⟩ := hk
    refine step_ok (h' := h) (by decide) (by simp only [actAns, readAns] <;> rfl) x ?_
    rw [x.line, x.glen, x.freeN, x.lg.played]; rfl
  | start _ _ _ _ _ _ => exact hk.elim
  | come _ _ => exact hk.elim
  | team _ _ => exact hk.elim
  | go _ => exact hk.elim
  | broken _ _ => exact hk.elim
  | roll _ _ => exact hk.elim
  | undo _ => exact hk.elim
  | match_ _ _ => exact hk.elim
end Bw

namespace Bw
/-! ### the calls that change the hall -/
theorem there_lt {q : Kyp.Hall} {g : Nat} (c : Kyp.there q g = true) : g < q.groups.length ∧ (Kyp.group q g).gone = false := by
  unfold Kyp.there at c
  rw [Bool.and_eq_true, decide_eq_true_eq] at c
  exact ⟨c.1, by simpa using c.2⟩
theorem roll_same (x : Kyp.Group) (n : Nat) : (Kyp.rolled x n).gone = x.gone ∧ (Kyp.rolled x n).team = x.team ∧ (Kyp.rolled x n).size = x.size := by
  unfold Kyp.rolled
  simp only
  split <;> exact ⟨rfl, rfl, rfl⟩
theorem RH.come {q : Kyp.Hall} {h : Hl} (x : RH q h) {n s : Nat} (hn : 1 ≤ n ∧ n ≤ 6) (h60 : ¬ q.groups.length = 60) :
    RH (Kyp.fill { q with groups := q.groups ++ [⟨n, s, [], Kyp.fresh n, none, 0, false⟩], line := q.line ++ [q.groups.length] }) (h.come n s) := by
  have e : h.come n s = Hl.give { h with groups := h.groups ++ [Grp.new n s], line := h.line ++ [h.groups.length] } := rfl
  rw [e]
  refine RH.fill ?_
  have gq : ∀ i, Kyp.group { q with groups := q.groups ++ [⟨n, s, [], Kyp.fresh n, none, 0, false⟩], line := q.line ++ [q.groups.length] } i = if i = q.groups.length then ⟨n, s, [], Kyp.fresh n, none, 0, false⟩ else Kyp.group q i := fun i => by
    unfold Kyp.group
    show (q.groups ++ [_]).getD i _ = _
    rw [List.getD_eq_getElem?_getD]
    rcases Nat.lt_trichotomy i q.groups.length with c | c | c
    · rw [List.getElem?_append_left c, if_neg (by omega), List.getD_eq_getElem?_getD]
    · subst c
      rw [List.getElem?_append_right (Nat.le_refl _), Nat.sub_self, if_pos rfl]; rfl
    · rw [List.getElem?_eq_none (by rw [List.length_append, List.length_singleton]; omega), if_neg (by omega), List.getD_eq_getElem?_getD, List.getElem?_eq_none (by omega)]
  have gh : ∀ i, i < q.groups.length → Hl.grp { h with groups := h.groups ++ [Grp.new n s], line := h.line ++ [h.groups.length] } i = h.grp i := fun i hi => by
    unfold Hl.grp
    show (h.groups ++ [_]).getD i _ = _
    rw [List.getD_eq_getElem?_getD, List.getElem?_append_left (by rw [x.glen]; exact hi), ← List.getD_eq_getElem?_getD]
  have gn : Hl.grp { h with groups := h.groups ++ [Grp.new n s], line := h.line ++ [h.groups.length] } q.groups.length = Grp.new n s := by
    unfold Hl.grp
    show (h.groups ++ [_]).getD _ _ = _
    rw [List.getD_eq_getElem?_getD, ← x.glen, List.getElem?_append_right (Nat.le_refl _), Nat.sub_self]; rfl
  have len : ({ q with groups := q.groups ++ [⟨n, s, [], Kyp.fresh n, none, 0, false⟩], line := q.line ++ [q.groups.length] } : Kyp.Hall).groups.length = q.groups.length + 1 := List.length_append
  have own : owned { q with groups := q.groups ++ [⟨n, s, [], Kyp.fresh n, none, 0, false⟩], line := q.line ++ [q.groups.length] } = owned q := rfl
  have h1 := x.g60
  refine ⟨x.price, x.pr, x.lend, x.lr, x.owners, x.broken, x.lanes, ?_, fun i hi => ?_, by rw [len]; omega, ?_, x.taken, x.lg, fun g hg => ?_, fun g hg => ?_, x.bn, ?_, fun g hg hgn => ?_, fun g t hg ht => ?_, fun i j t hi hj ne g1 g2 t1 t2 => ?_⟩
  · show (h.groups ++ [_]).length = (q.groups ++ [_]).length
    rw [List.length_append, List.length_append, x.glen]; rfl
  · rw [len] at hi
    rw [gq i]
    by_cases c : i = q.groups.length
    · rw [if_pos c, c, gn]
      exact ⟨rfl, hn, rfl, rfl, Hist.nil, rfl, fun now hm => by simp at hm, Nat.zero_le _, rfl, rfl, rfl⟩
    · rw [if_neg c, gh i (by omega)]
      exact x.grp i (by omega)
  · show h.line ++ [h.groups.length] = q.line ++ [q.groups.length]
    rw [x.line, x.glen]
  · rw [len]
    rcases List.mem_append.mp hg with c | c
    · have := x.li g c; omega
    · rw [List.mem_singleton.mp c]; exact Nat.lt_succ_self _
  · rw [len]
    have := x.lo g hg
    omega
  · show ((q.line ++ [q.groups.length]) ++ owned q).Nodup
    have nd := x.nd
    rw [List.append_assoc]
    have p : (q.line ++ ([q.groups.length] ++ owned q)).Perm (q.groups.length :: (q.line ++ owned q)) := List.perm_middle
    rw [p.nodup_iff, List.nodup_cons]
    refine ⟨fun hm => ?_, nd⟩
    rcases List.mem_append.mp hm with c | c
    · exact absurd (x.li _ c) (Nat.lt_irrefl _)
    · exact absurd (x.lo _ c) (Nat.lt_irrefl _)
  · rw [len] at hg
    show g ∈ (q.line ++ [q.groups.length]) ++ owned q
    by_cases c : g = q.groups.length
    · rw [c]; simp
    · rw [gq g, if_neg c] at hgn
      rcases List.mem_append.mp (x.pl g (by omega) hgn) with d | d
      · simp [d]
      · simp [d]
  · rw [len] at hg
    rw [gq g] at ht ⊢
    by_cases c : g = q.groups.length
    · rw [if_pos c] at ht; cases ht
    · rw [if_neg c] at ht ⊢
      exact x.tm g t (by omega) ht
  · rw [len] at hi hj
    rw [gq i] at g1 t1
    rw [gq j] at g2 t2
    by_cases c : i = q.groups.length
    · rw [if_pos c] at t1; cases t1
    by_cases c2 : j = q.groups.length
    · rw [if_pos c2] at t2; cases t2
    rw [if_neg c] at g1 t1
    rw [if_neg c2] at g2 t2
    exact x.td i j t (by omega) (by omega) ne g1 g2 t1 t2
def anyTeam (q : Kyp.Hall) (t : Nat) : Bool := q.groups.any fun y => !y.gone && (match y.team with
    | some u => u == t
    | none => false)
theorem RH.taken' {q : Kyp.Hall} {h : Hl} (x : RH q h) (t : Nat) : anyTeam q t = h.teamTaken t := by
  unfold Hl.teamTaken anyTeam
  rw [Bool.eq_iff_iff, List.any_eq_true, List.any_eq_true]
  have key : ∀ i, i < q.groups.length → ((!(Kyp.group q i).gone && (match (Kyp.group q i).team with
      | some u => u == t
      | none => false)) = (!(h.grp i).gone && (h.grp i).team == some t)) := fun i hi => by
    have r := x.grp i hi
    rw [r.gone, r.team]
    cases (h.grp i).team with
    | none => rfl
    | some u => rfl
  constructor
  · rintro ⟨y, hy, hp⟩
    obtain ⟨i, hi, e⟩ := List.mem_iff_getElem.mp hy
    have eg : Kyp.group q i = y := by unfold Kyp.group; rw [List.getD_eq_getElem?_getD, List.getElem?_eq_getElem hi, e]; rfl
    refine ⟨h.grp i, List.mem_of_getElem? (grp_at (by rw [x.glen]; exact hi)), ?_⟩
    rw [← key i hi, eg]; exact hp
  · rintro ⟨y, hy, hp⟩
    obtain ⟨i, hi, e⟩ := List.mem_iff_getElem.mp hy
    have hi' : i < q.groups.length := by rw [← x.glen]; exact hi
    have eg : h.grp i = y := by unfold Hl.grp; rw [List.getD_eq_getElem?_getD, List.getElem?_eq_getElem hi, e]; rfl
    have em : q.groups[i]? = some (Kyp.group q i) := by unfold Kyp.group; rw [List.getD_eq_getElem?_getD, List.getElem?_eq_getElem hi']; rfl
    refine ⟨Kyp.group q i, List.mem_of_getElem? em, ?_⟩
    exact (key i hi').trans (by rw [eg]; exact hp)
theorem RH.become {q : Kyp.Hall} {h : Hl} (x : RH q h) {g t : Nat} (hg : g < q.groups.length) (ht : t < q.league.teams) (h3 : (Kyp.group q g).size = 3) (hfree : h.teamTaken t = false) :
    RH (Kyp.setGroup q g { Kyp.group q g with team := some t, matched := (Kyp.group q g).games.length }) (h.setGrp g ((h.grp g).become t)) := by
  have r := x.grp g hg
  have hg' : g < h.groups.length := by rw [x.glen]; exact hg
  have hl : (Kyp.setGroup q g { Kyp.group q g with team := some t, matched := (Kyp.group q g).games.length }).groups.length = q.groups.length := by unfold Kyp.setGroup; exact List.length_set
  have rn : RG { Kyp.group q g with team := some t, matched := (Kyp.group q g).games.length } ((h.grp g).become t) :=
    ⟨r.size, r.sz, r.shoes, r.now, r.hist, r.fin, r.games, r.glen, rfl, r.finLen.symm, r.gone⟩
  have gone : ∀ i, (Kyp.group (Kyp.setGroup q g { Kyp.group q g with team := some t, matched := (Kyp.group q g).games.length }) i).gone = (Kyp.group q i).gone := fun i => by
    rw [group_set hg]
    split
    · rename_i c; rw [c]
    · rfl
  have no : ∀ i, i < q.groups.length → (Kyp.group q i).gone = false → (Kyp.group q i).team = some t → False := fun i hi hn hteam => by
    rw [← x.taken' t] at hfree
    unfold anyTeam at hfree
    rw [List.any_eq_false] at hfree
    have em : q.groups[i]? = some (Kyp.group q i) := by unfold Kyp.group; rw [List.getD_eq_getElem?_getD, List.getElem?_eq_getElem hi]; rfl
    have := hfree _ (List.mem_of_getElem? em)
    rw [hn, hteam] at this
    simp at this
  refine ⟨x.price, x.pr, x.lend, x.lr, x.owners, x.broken, x.lanes, ?_, fun i hi => ?_, by rw [hl]; exact x.g60, x.line, x.taken, x.lg, fun i hi => by rw [hl]; exact x.li i hi, fun i hi => by rw [hl]; exact x.lo i hi, x.bn, x.nd, fun i hi hn => ?_, fun i u hi hu => ?_, fun i j u hi hj ne g1 g2 t1 t2 => ?_⟩
  · rw [hl]
    show (h.groups.set g _).length = _
    rw [List.length_set]; exact x.glen
  · rw [hl] at hi
    rw [group_set hg, grp_set hg']
    split
    · exact rn
    · exact x.grp i hi
  · rw [hl] at hi
    rw [gone i] at hn
    exact x.pl i hi hn
  · rw [hl] at hi
    rw [group_set hg] at hu ⊢
    by_cases c : i = g
    · rw [if_pos c] at hu ⊢
      cases hu
      exact ⟨ht, h3⟩
    · rw [if_neg c] at hu ⊢
      exact x.tm i u hi hu
  · rw [hl] at hi hj
    rw [gone i] at g1
    rw [gone j] at g2
    rw [group_set hg] at t1 t2
    by_cases c : i = g
    · rw [if_pos c] at t1
      cases t1
      rw [if_neg (by omega)] at t2
      exact no j hj g2 t2
    · rw [if_neg c] at t1
      by_cases c2 : j = g
      · rw [if_pos c2] at t2
        cases t2
        exact no i hi g1 t1
      · rw [if_neg c2] at t2
        exact x.td i j u hi hj ne g1 g2 t1 t2
/-! #### who goes -/
theorem left_group (g : Nat) (y : Kyp.Lane) : (Kyp.left g y).group = if y.group = some g then none else y.group := by
  unfold Kyp.left
  cases e : y.group with
  | none => simp [e]
  | some j =>
    by_cases c : j = g
    · subst c; simp
    · simp [c, e]
theorem left_broken (g : Nat) (y : Kyp.Lane) : (Kyp.left g y).broken = y.broken := by
  unfold Kyp.left
  cases y.group with
  | none => rfl
  | some j =>
    show (if j = g then { y with group := none } else y).broken = _
    split <;> rfl
theorem owned_left (g : Nat) : ∀ l : List Kyp.Lane, (l.map (Kyp.left g)).filterMap (fun y : Kyp.Lane => y.group) = (l.filterMap fun y : Kyp.Lane => y.group).filter fun j => j != g
  | [] => rfl
  | y :: l => by
    have ih := owned_left g l
    rw [List.map_cons]
    cases e : y.group with
    | none =>
      have e2 : (Kyp.left g y).group = none := by rw [left_group, e]; rfl
      rw [List.filterMap_cons_none (f := fun y : Kyp.Lane => y.group) e2, List.filterMap_cons_none (f := fun y : Kyp.Lane => y.group) e, ih]
    | some j =>
      rw [List.filterMap_cons_some (f := fun y : Kyp.Lane => y.group) e, List.filter_cons]
      by_cases c : j = g
      · have e2 : (Kyp.left g y).group = none := by rw [left_group, e, c, if_pos rfl]
        rw [List.filterMap_cons_none (f := fun y : Kyp.Lane => y.group) e2, ih, if_neg (by simp [c])]
      · have e2 : (Kyp.left g y).group = some j := by rw [left_group, e, if_neg (fun z => c (Option.some.inj z))]
        rw [List.filterMap_cons_some (f := fun y : Kyp.Lane => y.group) e2, ih, if_pos (by simp [c])]
/-- the one place of a group among the owners -/
theorem clear_one (g : Nat) : ∀ os : List (Option Nat), (os.filterMap id).Nodup → os.map (fun o => if o = some g then none else o) = if some g ∈ os then os.set (os.idxOf (some g)) none else os
  | [], _ => by simp
  | o :: os, nd => by
    rw [List.map_cons]
    by_cases c : o = some g
    · subst c
      rw [List.filterMap_cons_some (f := id) (b := g) rfl, List.nodup_cons] at nd
      have hn : some g ∉ os := fun hm => nd.1 (List.mem_filterMap.mpr ⟨some g, hm, rfl⟩)
      rw [if_pos rfl, if_pos (by simp), List.idxOf_cons_self, List.set_cons_zero]
      congr 1
      rw [clear_one g os nd.2, if_neg hn]
    · have nd' : (os.filterMap id).Nodup := by
        cases o with
        | none => rwa [List.filterMap_cons_none (f := id) rfl] at nd
        | some j => rw [List.filterMap_cons_some (f := id) (b := j) rfl, List.nodup_cons] at nd; exact nd.2
      rw [if_neg c, clear_one g os nd']
      by_cases m : some g ∈ os
      · rw [if_pos m, if_pos (by simp [m]), List.idxOf_cons]
        have : (o == some g) = false := by simp [c]
        rw [this]; rfl
      · rw [if_neg m, if_neg (by simp only [List.mem_cons, not_or]; exact ⟨fun e => c e.symm, m⟩)]
theorem RH.go {q : Kyp.Hall} {h : Hl} (x : RH q h) {g : Nat} (hg : g < q.groups.length) :
    RH (Kyp.fill { Kyp.setGroup q g { Kyp.group q g with gone := true } with lanes := q.lanes.map (Kyp.left g), line := q.line.filter (fun j => j != g), taken := q.taken + Kyp.bill q (Kyp.group q g) }) (h.go g) := by
  have r := x.grp g hg
  have hg' : g < h.groups.length := by rw [x.glen]; exact hg
  have rn : RG { Kyp.group q g with gone := true } { h.grp g with gone := true } := ⟨r.size, r.sz, r.shoes, r.now, r.hist, r.fin, r.games, r.glen, r.team, r.matched, rfl⟩
  have eo : (owned q) = h.owners.filterMap id := by
    unfold owned
    rw [x.owners, List.filterMap_map]; rfl
  have ndo : (h.owners.filterMap id).Nodup := by rw [← eo]; exact (List.nodup_append.mp x.nd).2.1
  have el : (Hl.left { h.setGrp g { h.grp g with gone := true } with taken := h.taken + h.bill g, line := h.line.filter fun j => j != g } g) = { h.setGrp g { h.grp g with gone := true } with taken := h.taken + h.bill g, line := (h.line.filter fun j => j != g), owners := h.owners.map fun o => if o = some g then none else o } := by
    rw [clear_one g h.owners ndo]
    unfold Hl.left
    have e : Hl.laneOf { h.setGrp g { h.grp g with gone := true } with taken := h.taken + h.bill g, line := h.line.filter fun j => j != g } g = if some g ∈ h.owners then some (h.owners.idxOf (some g)) else none := rfl
    rw [e]
    by_cases c : some g ∈ h.owners
    · rw [if_pos c, if_pos c]; rfl
    · rw [if_neg c, if_neg c]; rfl
  have ego : h.go g = Hl.give (Hl.left { h.setGrp g { h.grp g with gone := true } with taken := h.taken + h.bill g, line := h.line.filter fun j => j != g } g) := rfl
  rw [ego, el]
  refine RH.fill ?_
  have len : (Kyp.setGroup q g { Kyp.group q g with gone := true }).groups.length = q.groups.length := by unfold Kyp.setGroup; exact List.length_set
  have gq : ∀ i, Kyp.group { Kyp.setGroup q g { Kyp.group q g with gone := true } with lanes := q.lanes.map (Kyp.left g), line := q.line.filter (fun j => j != g), taken := q.taken + Kyp.bill q (Kyp.group q g) } i = if i = g then { Kyp.group q g with gone := true } else Kyp.group q i := fun i => group_set hg _
  have own : owned { Kyp.setGroup q g { Kyp.group q g with gone := true } with lanes := q.lanes.map (Kyp.left g), line := q.line.filter (fun j => j != g), taken := q.taken + Kyp.bill q (Kyp.group q g) } = (owned q).filter fun j => j != g := owned_left g q.lanes
  refine ⟨x.price, x.pr, x.lend, x.lr, ?_, ?_, ?_, ?_, fun i hi => ?_, ?_, ?_, ?_, x.lg, fun i hi => ?_, fun i hi => ?_, fun y hy hb => ?_, ?_, fun i hi hn => ?_, fun i t hi ht => ?_, fun i j t hi hj ne g1 g2 t1 t2 => ?_⟩
  · show h.owners.map _ = (q.lanes.map (Kyp.left g)).map fun y => y.group
    rw [x.owners, List.map_map, List.map_map]
    refine List.map_congr_left fun y _ => ?_
    exact (left_group g y).symm
  · show h.broken = (q.lanes.map (Kyp.left g)).map fun y => y.broken
    rw [x.broken, List.map_map]
    refine List.map_congr_left fun y _ => ?_
    exact (left_broken g y).symm
  · show (q.lanes.map (Kyp.left g)).length ≤ 8
    rw [List.length_map]; exact x.lanes
  · show (h.groups.set g _).length = (Kyp.setGroup q g _).groups.length
    rw [len, List.length_set]; exact x.glen
  · have hi' : i < q.groups.length := by rw [← len]; exact hi
    rw [gq i]
    have gs : Hl.grp { h.setGrp g { h.grp g with gone := true } with taken := h.taken + h.bill g, line := (h.line.filter fun j => j != g), owners := h.owners.map fun o => if o = some g then none else o } i = if i = g then { h.grp g with gone := true } else h.grp i := grp_set hg' _
    rw [gs]
    split
    · exact rn
    · exact x.grp i hi'
  · show (Kyp.setGroup q g _).groups.length ≤ 60
    rw [len]; exact x.g60
  · show h.line.filter _ = q.line.filter _
    rw [x.line]
  · show h.taken + h.bill g = q.taken + Kyp.bill q (Kyp.group q g)
    rw [x.taken, r.bill]
    unfold Hl.bill
    rw [x.price, x.lend]
  · have hi' : i ∈ q.line.filter fun j => j != g := hi
    show i < (Kyp.setGroup q g _).groups.length
    rw [len]
    exact x.li i (List.mem_filter.mp hi').1
  · rw [own] at hi
    show i < (Kyp.setGroup q g _).groups.length
    rw [len]
    exact x.lo i (List.mem_filter.mp hi).1
  · have hy' : y ∈ q.lanes.map (Kyp.left g) := hy
    obtain ⟨z, hz, rfl⟩ := List.mem_map.mp hy'
    rw [left_broken] at hb
    rw [left_group, x.bn z hz hb]; rfl
  · show (q.line.filter (fun j => j != g) ++ owned _).Nodup
    rw [own, ← List.filter_append]
    exact x.nd.filter _
  · have hi' : i < q.groups.length := by rw [← len]; exact hi
    rw [gq i] at hn
    by_cases c : i = g
    · rw [if_pos c] at hn; cases hn
    · rw [if_neg c] at hn
      show i ∈ q.line.filter (fun j => j != g) ++ owned _
      rw [own, ← List.filter_append, List.mem_filter]
      exact ⟨x.pl i hi' hn, by simp [c]⟩
  · have hi' : i < q.groups.length := by rw [← len]; exact hi
    rw [gq i] at ht ⊢
    by_cases c : i = g
    · rw [if_pos c] at ht ⊢
      rw [c] at hi'
      exact x.tm g t hi' ht
    · rw [if_neg c] at ht ⊢
      exact x.tm i t hi' ht
  · have hi' : i < q.groups.length := by rw [← len]; exact hi
    have hj' : j < q.groups.length := by rw [← len]; exact hj
    rw [gq i] at g1 t1
    rw [gq j] at g2 t2
    by_cases c : i = g
    · rw [if_pos c] at g1; cases g1
    by_cases c2 : j = g
    · rw [if_pos c2] at g2; cases g2
    rw [if_neg c] at g1 t1
    rw [if_neg c2] at g2 t2
    exact x.td i j t hi' hj' ne g1 g2 t1 t2
/-! #### broken lanes -/
theorem owned_set (v : Bool) : ∀ (l : List Kyp.Lane) (k : Nat) (y : Kyp.Lane), l[k]? = some y → (Kyp.whose y ++ (l.set k ⟨v, none⟩).filterMap fun y : Kyp.Lane => y.group).Perm (l.filterMap fun y : Kyp.Lane => y.group)
  | [], _, _, h => by simp at h
  | z :: l, 0, y, h => by
    cases h
    rw [List.set_cons_zero, List.filterMap_cons_none (f := fun y : Kyp.Lane => y.group) rfl]
    unfold Kyp.whose
    cases e : z.group with
    | none => rw [List.filterMap_cons_none (f := fun y : Kyp.Lane => y.group) e]; exact List.Perm.refl _
    | some j => rw [List.filterMap_cons_some (f := fun y : Kyp.Lane => y.group) e]; exact List.Perm.refl _
  | z :: l, k + 1, y, h => by
    have ih := owned_set v l k y h
    rw [List.set_cons_succ]
    cases e : z.group with
    | none => rw [List.filterMap_cons_none (f := fun y : Kyp.Lane => y.group) e, List.filterMap_cons_none (f := fun y : Kyp.Lane => y.group) e]; exact ih
    | some j =>
      rw [List.filterMap_cons_some (f := fun y : Kyp.Lane => y.group) e, List.filterMap_cons_some (f := fun y : Kyp.Lane => y.group) e]
      exact List.perm_middle.trans (ih.cons j)
theorem RH.setBroken {q : Kyp.Hall} {h : Hl} (x : RH q h) {k : Nat} {v : Bool} (hk : k < q.lanes.length) (hv : (Kyp.lane q k).broken ≠ v) :
    RH (Kyp.fill { q with lanes := q.lanes.set k ⟨v, none⟩, line := Kyp.whose (Kyp.lane q k) ++ q.line }) (h.setBroken k v) := by
  have hat := lane_at hk
  have hmem := List.mem_of_getElem? hat
  -- the mirror's step in one form
  have em : h.setBroken k v = Hl.give { h with broken := h.broken.set k v, line := Kyp.whose (Kyp.lane q k) ++ h.line, owners := h.owners.set k none } := by
    unfold Hl.setBroken
    rw [x.owner hk]
    unfold Kyp.whose
    have same : (Kyp.lane q k).group = none → h.owners.set k none = h.owners := fun e => by
      refine List.ext_getElem? fun i => ?_
      by_cases c : i = k
      · subst c
        rw [List.getElem?_set_self (by rw [x.olen]; exact hk), x.owners, List.getElem?_map, hat]
        show some none = some (Kyp.lane q i).group
        rw [e]
      · rw [List.getElem?_set_ne (Ne.symm c)]
    cases v with
    | true =>
      cases e : (Kyp.lane q k).group with
      | none => rw [same e]; rfl
      | some j => rfl
    | false =>
      have hb : (Kyp.lane q k).broken = true := by
        cases e : (Kyp.lane q k).broken with
        | true => rfl
        | false => exact absurd e hv
      have e := x.bn _ hmem hb
      rw [e, same e]; rfl
  rw [em]
  refine RH.fill ?_
  have p := owned_set v q.lanes k _ hat
  have own : owned { q with lanes := q.lanes.set k ⟨v, none⟩, line := Kyp.whose (Kyp.lane q k) ++ q.line } = (q.lanes.set k ⟨v, none⟩).filterMap fun y : Kyp.Lane => y.group := rfl
  have pp : ((Kyp.whose (Kyp.lane q k) ++ q.line) ++ owned { q with lanes := q.lanes.set k ⟨v, none⟩, line := Kyp.whose (Kyp.lane q k) ++ q.line }).Perm (q.line ++ owned q) := by
    rw [own]
    have e1 : ((Kyp.whose (Kyp.lane q k) ++ q.line) ++ (q.lanes.set k ⟨v, none⟩).filterMap fun y : Kyp.Lane => y.group).Perm ((q.line ++ Kyp.whose (Kyp.lane q k)) ++ (q.lanes.set k ⟨v, none⟩).filterMap fun y : Kyp.Lane => y.group) := List.Perm.append_right _ List.perm_append_comm
    refine e1.trans ?_
    rw [List.append_assoc]
    exact List.Perm.append_left _ p
  have pm : ∀ g, g ∈ (Kyp.whose (Kyp.lane q k) ++ q.line) ++ owned { q with lanes := q.lanes.set k ⟨v, none⟩, line := Kyp.whose (Kyp.lane q k) ++ q.line } ↔ g ∈ q.line ++ owned q := fun g => pp.mem_iff
  have lt : ∀ g, g ∈ q.line ++ owned q → g < q.groups.length := fun g hg => by
    rcases List.mem_append.mp hg with c | c
    · exact x.li g c
    · exact x.lo g c
  refine ⟨x.price, x.pr, x.lend, x.lr, ?_, ?_, ?_, x.glen, x.grp, x.g60, ?_, x.taken, x.lg, fun g hg => lt g ((pm g).mp (List.mem_append_left _ hg)), fun g hg => lt g ((pm g).mp (List.mem_append_right _ hg)), fun y hy hb => ?_, pp.nodup_iff.mpr x.nd, fun g hg hn => (pm g).mpr (x.pl g hg hn), x.tm, x.td⟩
  · show h.owners.set k none = (q.lanes.set k ⟨v, none⟩).map fun y => y.group
    rw [List.map_set, x.owners]
  · show h.broken.set k v = (q.lanes.set k ⟨v, none⟩).map fun y => y.broken
    rw [List.map_set, x.broken]
  · show (q.lanes.set k _).length ≤ 8
    rw [List.length_set]; exact x.lanes
  · show Kyp.whose (Kyp.lane q k) ++ h.line = Kyp.whose (Kyp.lane q k) ++ q.line
    rw [x.line]
  · rcases List.mem_or_eq_of_mem_set hy with c | c
    · exact x.bn y c hb
    · rw [c]
end Bw

namespace Bw
theorem RH.matched {q : Kyp.Hall} {h : Hl} (x : RH q h) {a b t u : Nat} (ha : a < q.groups.length) (hb : b < q.groups.length) (na : (Kyp.group q a).gone = false) (nb : (Kyp.group q b).gone = false) (ne : a ≠ b) (et : (Kyp.group q a).team = some t) (eu : (Kyp.group q b).team = some u)
    (ma : (Kyp.group q a).matched + 3 ≤ (Kyp.group q a).games.length) (mb : (Kyp.group q b).matched + 3 ≤ (Kyp.group q b).games.length) (hp : ¬ q.league.played.length = 200) :
    RH { Kyp.setGroup (Kyp.setGroup q a { Kyp.group q a with matched := (Kyp.group q a).matched + 3 }) b { Kyp.group q b with matched := (Kyp.group q b).matched + 3 } with league := { q.league with played := ⟨t, u, Kyp.three (Kyp.group q a), Kyp.three (Kyp.group q b)⟩ :: q.league.played } }
      { (h.setGrp a (h.grp a).take3).setGrp b (h.grp b).take3 with league := h.league.play t u (h.grp a).matchRows (h.grp b).matchRows } ∧
    h.league.pts t u (h.grp a).matchRows (h.grp b).matchRows = (Kyp2.shared q.league q.league.played ⟨t, u, Kyp.three (Kyp.group q a), Kyp.three (Kyp.group q b)⟩ t u, Kyp2.shared q.league q.league.played ⟨t, u, Kyp.three (Kyp.group q a), Kyp.three (Kyp.group q b)⟩ u t) := by
  have ra := x.grp a ha
  have rb := x.grp b hb
  have ta := x.tm a t ha et
  have tb := x.tm b u hb eu
  have sa : (h.grp a).size = 3 := by rw [← ra.size]; exact ta.2
  have sb : (h.grp b).size = 3 := by rw [← rb.size]; exact tb.2
  have ntu : t ≠ u := fun e => x.td a b t ha hb ne na nb et (by rw [e]; exact eu)
  have e3 := ra.three sa ma
  have e3' := rb.three sb mb
  have hma : (h.grp a).hasMatch = true := by unfold Grp.hasMatch; exact decide_eq_true (by rw [ra.finLen, ← ra.matched]; exact ma)
  have hmb : (h.grp b).hasMatch = true := by unfold Grp.hasMatch; exact decide_eq_true (by rw [rb.finLen, ← rb.matched]; exact mb)
  have mr3 : ∀ (g : Grp), g.hasMatch = true → ∀ r ∈ g.matchRows, r.length = 3 := fun g hm r hr => by
    unfold Grp.matchRows at hr
    obtain ⟨p, _, rfl⟩ := List.mem_map.mp hr
    unfold Grp.hasMatch at hm
    have := of_decide_eq_true hm
    rw [List.length_map, List.length_take, List.length_drop]
    omega
  have ml : ∀ (g : Grp), g.matchRows.length = g.size := fun g => by unfold Grp.matchRows; rw [List.length_map, List.length_range]
  have pl := x.lg.play ta.1 tb.1 ntu (by rw [ml]; exact sa) (by rw [ml]; exact sb) (mr3 _ hma) (mr3 _ hmb) hp
  rw [e3, e3']
  refine ⟨?_, pl.2⟩
  have x1 := x.setSame ha (y := { Kyp.group q a with matched := (Kyp.group q a).matched + 3 }) (y' := (h.grp a).take3) ⟨ra.size, ra.sz, ra.shoes, ra.now, ra.hist, ra.fin, ra.games, ra.glen, ra.team, by show (Kyp.group q a).matched + 3 = (h.grp a).counted + 3; rw [ra.matched], ra.gone⟩ rfl rfl rfl
  have len1 : (Kyp.setGroup q a { Kyp.group q a with matched := (Kyp.group q a).matched + 3 }).groups.length = q.groups.length := by unfold Kyp.setGroup; exact List.length_set
  have gb : Kyp.group (Kyp.setGroup q a { Kyp.group q a with matched := (Kyp.group q a).matched + 3 }) b = Kyp.group q b := by rw [group_set ha, if_neg (Ne.symm ne)]
  have x2 := x1.setSame (g := b) (by rw [len1]; exact hb) (y := { Kyp.group q b with matched := (Kyp.group q b).matched + 3 }) (y' := (h.grp b).take3) ⟨rb.size, rb.sz, rb.shoes, rb.now, rb.hist, rb.fin, rb.games, rb.glen, rb.team, by show (Kyp.group q b).matched + 3 = (h.grp b).counted + 3; rw [rb.matched], rb.gone⟩ (by rw [gb]) (by rw [gb]) (by rw [gb])
  exact ⟨x2.price, x2.pr, x2.lend, x2.lr, x2.owners, x2.broken, x2.lanes, x2.glen, x2.grp, x2.g60, x2.line, x2.taken, pl.1, x2.li, x2.lo, x2.bn, x2.nd, x2.pl, x2.tm, x2.td⟩
theorem bne_not : ∀ {a b : Bool}, (a != b) = true → ¬ (a == b) = true := by decide
theorem not_bne : ∀ {a b : Bool}, ¬ (a != b) = true → (a == b) = true := by decide
theorem act_step {q : Kyp.Hall} {h : Hl} (x : RH q h) : ∀ (k : Kyp.Call) (c : Nat) (l : List Nat), (match k with
    | .come a b => c = 1 ∧ l = [a, b]
    | .team a b => c = 2 ∧ l = [a, b]
    | .go a => c = 3 ∧ l = [a]
    | .broken a b => c = 4 ∧ l = [a, b]
    | .roll a b => c = 8 ∧ l = [a, b]
    | .undo a => c = 9 ∧ l = [a]
    | .match_ a b => c = 19 ∧ l = [a, b]
    | _ => False) → StepOk q h c l (Kyp.acts (some q) k) := by
  intro k c l hk
  cases k with
  | come a b =>
    obtain ⟨rfl, rfl⟩ := hk
    by_cases c : a < 1 ∨ 6 < a ∨ a < b
    · have e : Kyp.acts (some q) (.come a b) = some (some q, Kyp.say (-22)) := by simp only [Kyp.acts, Option.map_some, if_pos c]
      rw [e]
      have c2 : ¬ (1 ≤ a ∧ a ≤ 6 ∧ b ≤ a) := by omega
      exact step_err (by decide) (by simp only [actAns, c2, if_false] <;> rfl) x
    · have c2 : (1 ≤ a ∧ a ≤ 6 ∧ b ≤ a) := by omega
      by_cases c3 : q.groups.length = 60
      · have e : Kyp.acts (some q) (.come a b) = some (some q, Kyp.say (-28)) := by simp only [Kyp.acts, Option.map_some, if_neg c, if_pos c3]
        rw [e]
        have c4 : ¬ h.groups.length < 60 := by rw [x.glen]; omega
        exact step_err (by decide) (by rw [show actAns h 1 [a, b] = (if 1 ≤ a ∧ a ≤ 6 ∧ b ≤ a then (if h.groups.length < 60 then .ok (h.come a b, [(h.groups.length : Int)]) else .error (-28)) else .error (-22)) from rfl, if_pos c2, if_neg c4]) x
      · have e : Kyp.acts (some q) (.come a b) = some (some (Kyp.fill { q with groups := q.groups ++ [⟨a, b, [], Kyp.fresh a, none, 0, false⟩], line := q.line ++ [q.groups.length] }), Kyp.say (q.groups.length : Nat)) := by simp only [Kyp.acts, Option.map_some, if_neg c, if_neg c3]
        rw [e]
        have c4 : h.groups.length < 60 := by rw [x.glen]; have := x.g60; omega
        refine step_ok (h' := h.come a b) (out := [(h.groups.length : Int)]) (by decide) ?_ (x.come ⟨c2.1, c2.2.1⟩ c3) ?_
        · rw [show actAns h 1 [a, b] = (if 1 ≤ a ∧ a ≤ 6 ∧ b ≤ a then (if h.groups.length < 60 then .ok (h.come a b, [(h.groups.length : Int)]) else .error (-28)) else .error (-22)) from rfl, if_pos c2, if_pos c4]
        · rw [x.glen]; rfl
  | team a b =>
    obtain ⟨rfl, rfl⟩ := hk
    cases ct : Kyp.there q a with
    | false =>
      have ch : isHere h a = false := by rw [← x.here]; exact ct
      have e : Kyp.acts (some q) (.team a b) = some (some q, Kyp.say (-2)) := by simp only [Kyp.acts, Option.map_some, ct, if_true]
      rw [e]
      exact step_err (by decide) (by simp only [actAns, ch, if_false, Bool.false_eq_true]) x
    | true =>
      have ch : isHere h a = true := by rw [← x.here]; exact ct
      obtain ⟨hg, hn⟩ := there_lt ct
      have r := x.grp a hg
      by_cases c1 : q.league.teams ≤ b
      · have e : Kyp.acts (some q) (.team a b) = some (some q, Kyp.say (-22)) := by simp only [Kyp.acts, Option.map_some, ct, Bool.true_eq_false, if_false, if_pos c1]
        rw [e]
        have c2 : ¬ b < h.league.teams.length := by rw [x.lg.teams]; omega
        exact step_err (by decide) (by simp only [actAns, ch, c2, if_true, if_false]) x
      · have c2 : b < h.league.teams.length := by rw [x.lg.teams]; omega
        by_cases c3 : (Kyp.group q a).size = 3
        · have c4 : (h.grp a).size = 3 := by rw [← r.size]; exact c3
          have c3' : ¬ (Kyp.group q a).size ≠ 3 := fun z => z c3
          by_cases c5 : ((h.grp a).team.isNone && !h.teamTaken b) = true
          · have c5' := c5
            rw [Bool.and_eq_true] at c5'
            have hfree : h.teamTaken b = false := by simpa using c5'.2
            have hnone : (Kyp.group q a).team.isSome = false := by rw [r.team]; cases e : (h.grp a).team with
              | none => rfl
              | some v => rw [e] at c5'; exact absurd c5'.1 (by simp)
            have c6 : ¬ ((Kyp.group q a).team.isSome = true ∨ anyTeam q b = true) := by
              rw [hnone, x.taken' b, hfree]; simp
            have e : Kyp.acts (some q) (.team a b) = some (some (Kyp.setGroup q a { Kyp.group q a with team := some b, matched := (Kyp.group q a).games.length }), Kyp.say 0) := by
              show some (if Kyp.there q a = false then _ else if q.league.teams ≤ b then _ else if (Kyp.group q a).size ≠ 3 then _ else if _ then _ else _) = _
              rw [if_neg (by rw [ct]; simp), if_neg c1, if_neg c3']
              exact congrArg some (if_neg c6)
            rw [e]
            exact step_ok (h' := h.setGrp a ((h.grp a).become b)) (out := [0]) (by decide) (by simp only [actAns, ch, c2, c4, c5, if_true]) (x.become hg (by omega) c3 hfree) rfl
          · have c6 : ((Kyp.group q a).team.isSome = true ∨ anyTeam q b = true) := by
              rw [x.taken' b, r.team]
              cases e1 : (h.grp a).team with
              | some v => exact .inl rfl
              | none =>
                right
                rw [e1] at c5
                simpa using c5
            have e : Kyp.acts (some q) (.team a b) = some (some q, Kyp.say (-17)) := by
              show some (if Kyp.there q a = false then _ else if q.league.teams ≤ b then _ else if (Kyp.group q a).size ≠ 3 then _ else if _ then _ else _) = _
              rw [if_neg (by rw [ct]; simp), if_neg c1, if_neg c3']
              exact congrArg some (if_pos c6)
            rw [e]
            have c5' : ((h.grp a).team.isNone && !h.teamTaken b) = false := by simpa using c5
            exact step_err (by decide) (by simp only [actAns, ch, c2, c4, c5', if_true, if_false, Bool.false_eq_true]) x
        · have c4 : ¬ (h.grp a).size = 3 := by rw [← r.size]; exact c3
          have e : Kyp.acts (some q) (.team a b) = some (some q, Kyp.say (-34)) := by
            show some (if Kyp.there q a = false then _ else if q.league.teams ≤ b then _ else if (Kyp.group q a).size ≠ 3 then _ else _) = _
            rw [if_neg (by rw [ct]; simp), if_neg c1, if_pos c3]
          rw [e]
          exact step_err (by decide) (by simp only [actAns, ch, c2, c4, if_true, if_false]) x
  | go a =>
    obtain ⟨rfl, rfl⟩ := hk
    cases ct : Kyp.there q a with
    | false =>
      have ch : isHere h a = false := by rw [← x.here]; exact ct
      have e : Kyp.acts (some q) (.go a) = some (some q, Kyp.say (-2)) := by simp only [Kyp.acts, Option.map_some, ct, if_true]
      rw [e]
      exact step_err (by decide) (by simp only [actAns, ch, if_false, Bool.false_eq_true]) x
    | true =>
      have ch : isHere h a = true := by rw [← x.here]; exact ct
      obtain ⟨hg, hn⟩ := there_lt ct
      have r := x.grp a hg
      have e : Kyp.acts (some q) (.go a) = some (some (Kyp.fill { Kyp.setGroup q a { Kyp.group q a with gone := true } with lanes := q.lanes.map (Kyp.left a), line := q.line.filter (fun j => j != a), taken := q.taken + Kyp.bill q (Kyp.group q a) }), Kyp.say (Kyp.bill q (Kyp.group q a) : Nat)) := by
        show some (if Kyp.there q a = false then _ else _) = _
        rw [if_neg (by rw [ct]; simp)]
      rw [e]
      refine step_ok (h' := h.go a) (out := [(h.bill a : Int)]) (by decide) (by simp only [actAns, ch, if_true]) (x.go hg) ?_
      rw [r.bill]
      unfold Hl.bill
      rw [x.price, x.lend]; rfl
  | broken a b =>
    obtain ⟨rfl, rfl⟩ := hk
    by_cases c : a < q.lanes.length
    · have co : a < h.owners.length := by rw [x.olen]; exact c
      have cn : ¬ q.lanes.length ≤ a := by omega
      by_cases c1 : b ≤ 1
      · have c1' : ¬ 1 < b := by omega
        by_cases c2 : (h.isBroken a != (b == 1)) = true
        · have c3 : ¬ ((Kyp.lane q a).broken == (b == 1)) = true := by
            rw [← x.isBroken c]
            exact bne_not c2
          have e : Kyp.acts (some q) (.broken a b) = some (some (Kyp.fill { q with lanes := q.lanes.set a ⟨b == 1, none⟩, line := Kyp.whose (Kyp.lane q a) ++ q.line }), Kyp.say 0) := by simp only [Kyp.acts, Option.map_some, if_neg cn, if_neg c1', if_neg c3]
          rw [e]
          refine step_ok (h' := h.setBroken a (b == 1)) (out := [0]) (by decide) (by simp only [actAns, co, c1, c2, if_true]) (x.setBroken c fun z => c3 ?_) rfl
          rw [z]; simp
        · have c3 : ((Kyp.lane q a).broken == (b == 1)) = true := by
            rw [← x.isBroken c]
            exact not_bne c2
          have e : Kyp.acts (some q) (.broken a b) = some (some q, Kyp.say (-17)) := by simp only [Kyp.acts, Option.map_some, if_neg cn, if_neg c1', if_pos c3]
          rw [e]
          exact step_err (by decide) (by simp only [actAns, co, c1, if_true, if_neg c2]) x
      · have e : Kyp.acts (some q) (.broken a b) = some (some q, Kyp.say (-22)) := by simp only [Kyp.acts, Option.map_some, if_neg cn, if_pos (show 1 < b by omega)]
        rw [e]
        exact step_err (by decide) (by simp only [actAns, co, c1, if_true, if_false]) x
    · have co : ¬ a < h.owners.length := by rw [x.olen]; exact c
      have e : Kyp.acts (some q) (.broken a b) = some (some q, Kyp.say (-2)) := by simp only [Kyp.acts, Option.map_some, if_pos (show q.lanes.length ≤ a by omega)]
      rw [e]
      exact step_err (by decide) (by simp only [actAns, co, if_false]) x
  | roll a b =>
    obtain ⟨rfl, rfl⟩ := hk
    have ol := x.onLane a
    cases e : Kyp.onLane q a with
    | inl v =>
      rw [e] at ol
      have e2 : Kyp.acts (some q) (.roll a b) = some (some q, Kyp.say v) := by simp only [Kyp.acts, Option.map_some, e]
      rw [e2]
      exact step_err (by decide) (by simp only [actAns, ol.1]) x
    | inr g =>
      rw [e] at ol
      have hg := ol.2 g rfl
      have r := x.grp g hg
      by_cases c1 : Kyp1.standing (Kyp.rollsOf (Kyp.group q g).now (Kyp.turn (Kyp.group q g).now)) < b
      · have e2 : Kyp.acts (some q) (.roll a b) = some (some q, Kyp.say (-22)) := by simp only [Kyp.acts, Option.map_some, e, if_pos c1]
        rw [e2]
        have c2 : ¬ (b : Int) ≤ (h.grp g).standing := by rw [r.standing]; omega
        exact step_err (by decide) (by simp only [actAns, ol.1, c2, if_false]) x
      · have c2 : (b : Int) ≤ (h.grp g).standing := by rw [r.standing]; omega
        by_cases c3 : (Kyp.group q g).games.length = 20
        · have e2 : Kyp.acts (some q) (.roll a b) = some (some q, Kyp.say (-28)) := by simp only [Kyp.acts, Option.map_some, e, if_neg c1, if_pos c3]
          rw [e2]
          have c4 : (h.grp g).isFull = true := by unfold Grp.isFull; rw [r.finLen, c3]; rfl
          exact step_err (by decide) (by simp only [actAns, ol.1, c2, c4, if_true]) x
        · have c4 : (h.grp g).isFull = false := by unfold Grp.isFull; rw [r.finLen]; simp [c3]
          have rr := r.roll c1 c3
          have e2 : Kyp.acts (some q) (.roll a b) = some (some (Kyp.setGroup q g (Kyp.rolled (Kyp.group q g) b)), ⟨(Kyp.turn (Kyp.group q g).now : Nat), [Kyp.turn (Kyp.rolled (Kyp.group q g) b).now, (Kyp.rolled (Kyp.group q g) b).games.length]⟩) := by simp only [Kyp.acts, Option.map_some, e, if_neg c1, if_neg c3]
          rw [e2]
          have sm := roll_same (Kyp.group q g) b
          refine step_ok (h' := h.setGrp g ((h.grp g).roll b)) (by decide) (by simp only [actAns, ol.1, c2, c4, if_true, if_false, Bool.false_eq_true] <;> rfl) (x.setSame hg rr sm.1 sm.2.1 sm.2.2) ?_
          rw [r.turn, rr.turn, rr.finLen]; rfl
  | undo a =>
    obtain ⟨rfl, rfl⟩ := hk
    have ol := x.onLane a
    cases e : Kyp.onLane q a with
    | inl v =>
      rw [e] at ol
      have e2 : Kyp.acts (some q) (.undo a) = some (some q, Kyp.say v) := by simp only [Kyp.acts, Option.map_some, e]
      rw [e2]
      exact step_err (by decide) (by simp only [actAns, ol.1]) x
    | inr g =>
      rw [e] at ol
      have hg := ol.2 g rfl
      have r := x.grp g hg
      have rl := r.last
      by_cases c : (h.grp g).turns = []
      · rw [if_pos c] at rl
        have e2 : Kyp.acts (some q) (.undo a) = some (some q, Kyp.say (-61)) := by simp only [Kyp.acts, Option.map_some, e, rl]
        rw [e2]
        exact step_err (by decide) (by simp only [actAns, ol.1, c, if_true]) x
      · rw [if_neg c] at rl
        have e2 : Kyp.acts (some q) (.undo a) = some (some (Kyp.setGroup q g (Kyp.unrolled (Kyp.group q g) (h.grp g).last)), ⟨((h.grp g).last : Nat), [(Kyp.rollsOf (Kyp.group q g).now (h.grp g).last).getLastD 0]⟩) := by simp only [Kyp.acts, Option.map_some, e, rl]
        rw [e2]
        refine step_ok (h' := h.setGrp g (h.grp g).undo) (by decide) (by simp only [actAns, ol.1, c, if_false] <;> rfl) (x.setSame hg (r.undo c) rfl rfl rfl) ?_
        rw [r.now]; rfl
  | match_ a b =>
    obtain ⟨rfl, rfl⟩ := hk
    cases ct : Kyp.there q a with
    | false =>
      have ch : isHere h a = false := by rw [← x.here]; exact ct
      have e : Kyp.acts (some q) (.match_ a b) = some (some q, Kyp.say (-2)) := by simp only [Kyp.acts, Option.map_some, ct, true_or, if_true]
      rw [e]
      exact step_err (by decide) (by simp only [actAns, ch, if_false, Bool.false_eq_true]) x
    | true =>
      have ch : isHere h a = true := by rw [← x.here]; exact ct
      obtain ⟨ha, na⟩ := there_lt ct
      cases ct2 : Kyp.there q b with
      | false =>
        have ch2 : isHere h b = false := by rw [← x.here]; exact ct2
        have e : Kyp.acts (some q) (.match_ a b) = some (some q, Kyp.say (-2)) := by simp only [Kyp.acts, Option.map_some, ct2, or_true, if_true]
        rw [e]
        exact step_err (by decide) (by simp only [actAns, ch, ch2, if_true, if_false, Bool.false_eq_true]) x
      | true =>
        have ch2 : isHere h b = true := by rw [← x.here]; exact ct2
        obtain ⟨hb, nb⟩ := there_lt ct2
        have ra := x.grp a ha
        have rb := x.grp b hb
        have nn : ¬ (Kyp.there q a = false ∨ Kyp.there q b = false) := by rw [ct, ct2]; simp
        cases et : (Kyp.group q a).team with
        | none =>
          have et' : (h.grp a).team = none := by rw [← ra.team]; exact et
          have e : Kyp.acts (some q) (.match_ a b) = some (some q, Kyp.say (-34)) := by simp only [Kyp.acts, Option.map_some, if_neg nn, et]
          rw [e]
          exact step_err (by decide) (by simp only [actAns, ch, ch2, et', if_true]) x
        | some t =>
          have et' : (h.grp a).team = some t := by rw [← ra.team]; exact et
          cases eu : (Kyp.group q b).team with
          | none =>
            have eu' : (h.grp b).team = none := by rw [← rb.team]; exact eu
            have e : Kyp.acts (some q) (.match_ a b) = some (some q, Kyp.say (-34)) := by simp only [Kyp.acts, Option.map_some, if_neg nn, et, eu]
            rw [e]
            exact step_err (by decide) (by simp only [actAns, ch, ch2, et', eu', if_true]) x
          | some u =>
            have eu' : (h.grp b).team = some u := by rw [← rb.team]; exact eu
            by_cases c : a = b
            · have e : Kyp.acts (some q) (.match_ a b) = some (some q, Kyp.say (-22)) := by simp only [Kyp.acts, Option.map_some, if_neg nn, et, eu, if_pos c]
              rw [e]
              exact step_err (by decide) (by simp only [actAns, ch, ch2, et', eu', if_pos c, if_true]) x
            · have hm : ((h.grp a).hasMatch && (h.grp b).hasMatch) = decide (¬ ((Kyp.group q a).games.length < (Kyp.group q a).matched + 3 ∨ (Kyp.group q b).games.length < (Kyp.group q b).matched + 3)) := by
                unfold Grp.hasMatch
                rw [ra.finLen, rb.finLen, ← ra.matched, ← rb.matched, Bool.eq_iff_iff, Bool.and_eq_true, decide_eq_true_iff, decide_eq_true_iff, decide_eq_true_iff]
                omega
              by_cases c2 : (Kyp.group q a).games.length < (Kyp.group q a).matched + 3 ∨ (Kyp.group q b).games.length < (Kyp.group q b).matched + 3
              · have e : Kyp.acts (some q) (.match_ a b) = some (some q, Kyp.say (-61)) := by simp only [Kyp.acts, Option.map_some, if_neg nn, et, eu, if_neg c, if_pos c2]
                rw [e]
                have hm' : ((h.grp a).hasMatch && (h.grp b).hasMatch) = false := by rw [hm]; exact decide_eq_false fun z => z c2
                exact step_err (by decide) (by simp only [actAns, ch, ch2, et', eu', if_neg c, hm', if_true, if_false, Bool.false_eq_true]) x
              · have hm' : ((h.grp a).hasMatch && (h.grp b).hasMatch) = true := by rw [hm]; exact decide_eq_true c2
                by_cases c3 : q.league.played.length = Kyp2.most
                · have e : Kyp.acts (some q) (.match_ a b) = some (some q, Kyp.say (-28)) := by simp only [Kyp.acts, Option.map_some, if_neg nn, et, eu, if_neg c, if_neg c2, if_pos c3]
                  rw [e]
                  have c4 : ¬ h.league.played < 200 := by rw [x.lg.played, c3]; exact Nat.lt_irrefl _
                  exact step_err (by decide) (by simp only [actAns, ch, ch2, et', eu', if_neg c, hm', c4, if_true, if_false]) x
                · have c4 : h.league.played < 200 := by
                    rw [x.lg.played]
                    have h1 := x.lg.most
                    have h2 : q.league.played.length ≠ 200 := c3
                    omega
                  have mm := x.matched ha hb na nb c et eu (by omega) (by omega) c3
                  have e : Kyp.acts (some q) (.match_ a b) = some (some { Kyp.setGroup (Kyp.setGroup q a { Kyp.group q a with matched := (Kyp.group q a).matched + 3 }) b { Kyp.group q b with matched := (Kyp.group q b).matched + 3 } with league := { q.league with played := ⟨t, u, Kyp.three (Kyp.group q a), Kyp.three (Kyp.group q b)⟩ :: q.league.played } },
                      ⟨(Kyp2.shared q.league q.league.played ⟨t, u, Kyp.three (Kyp.group q a), Kyp.three (Kyp.group q b)⟩ t u : Nat), [Kyp2.shared q.league q.league.played ⟨t, u, Kyp.three (Kyp.group q a), Kyp.three (Kyp.group q b)⟩ u t]⟩) := by simp only [Kyp.acts, Option.map_some, if_neg nn, et, eu, if_neg c, if_neg c2, if_neg c3]
                  rw [e]
                  refine step_ok (by decide) (by simp only [actAns, ch, ch2, et', eu', if_neg c, hm', c4, if_true] <;> rfl) mm.1 ?_
                  rw [mm.2]; rfl
  | start _ _ _ _ _ _ => exact hk.elim
  | line => exact hk.elim
  | lane _ => exact hk.elim
  | where_ _ => exact hk.elim
  | turn _ => exact hk.elim
  | score _ _ => exact hk.elim
  | frame _ _ _ => exact hk.elim
  | range _ _ => exact hk.elim
  | ways _ _ _ => exact hk.elim
  | games _ => exact hk.elim
  | game _ _ _ => exact hk.elim
  | bill _ => exact hk.elim
  | taken => exact hk.elim
  | average _ _ => exact hk.elim
  | allowance _ _ => exact hk.elim
  | points _ => exact hk.elim
  | order => exact hk.elim
  | state => exact hk.elim
theorem RH.new {l p d t b r : Nat} (h : okNew l p d t b r = true) : RH ⟨p, d, List.replicate l ⟨false, none⟩, [], [], 0, Kyp2.begun t b r⟩ (Hl.new l p d t b r) := by
  unfold okNew at h
  simp only [Bool.and_eq_true, decide_eq_true_eq] at h
  have own : owned ⟨p, d, List.replicate l ⟨false, none⟩, [], [], 0, Kyp2.begun t b r⟩ = [] := by
    unfold owned
    rw [List.filterMap_eq_nil_iff]
    intro y hy
    rw [List.eq_of_mem_replicate hy]
  refine ⟨rfl, by show p ≤ 10000; omega, rfl, by show d ≤ 10000; omega, ?_, ?_, by show (List.replicate l _).length ≤ 8; rw [List.length_replicate]; omega, rfl, fun i hi => absurd hi (Nat.not_lt_zero _), Nat.zero_le _, rfl, rfl, RLg.new (by omega) (by omega) (by omega), fun g hg => by simp at hg, fun g hg => by rw [own] at hg; simp at hg, fun y hy hb => ?_, by rw [own]; simp, fun g hg => absurd hg (Nat.not_lt_zero _), fun g t hg => absurd hg (Nat.not_lt_zero _), fun i j t hi => absurd hi (Nat.not_lt_zero _)⟩
  · show List.replicate l none = (List.replicate l ⟨false, none⟩).map fun y : Kyp.Lane => y.group
    rw [List.map_replicate]
  · show List.replicate l false = (List.replicate l ⟨false, none⟩).map fun y : Kyp.Lane => y.broken
    rw [List.map_replicate]
  · rw [List.eq_of_mem_replicate hy]
theorem okHall_new (l p d t b r : Nat) : Kyp.okHall l p d t b r = okNew l p d t b r := by
  unfold Kyp.okHall okNew Kyp2.okTeams
  rw [Bool.eq_iff_iff]
  simp only [Bool.and_eq_true, decide_eq_true_eq]
  omega
end Bw

namespace Bw
/-! ### the calls in a row -/
/-- how many numbers a call has -/
def many (c : Nat) : Nat := [6, 2, 2, 1, 2, 0, 1, 1, 2, 1, 1, 2, 3, 2, 3, 1, 3, 1, 0, 2, 2, 2, 1, 0, 0].getD c 0
/-- calls that may come, one behind another, from a state; and what is answered -/
inductive RunOk : Option Hl → List Nat → List Int → Prop where
  | nil (s : Option Hl) : RunOk s [] []
  | cons {s : Option Hl} {c : Nat} {l r : List Nat} {out : List Int} : c < 25 → l.length = many c → (s = none → c = 0) → (∀ h, s = some h → HOk h) → RunOk (desk s c l).1 r out → RunOk s (c :: (l ++ r)) (((desk s c l).2.length : Int) :: ((desk s c l).2 ++ out))
def cI (l : List Nat) : List Int := l.map fun (x : Nat) => (x : Int)
theorem shape_is {p : Int} {n k : Nat} (h : PyKyp.shape p = some (n, k)) : k = 0 ∧ ∃ c : Nat, c < 25 ∧ p = (c : Int) ∧ n = many c := by
  unfold PyKyp.shape at h
  by_cases c0 : p = 0
  · rw [if_pos c0] at h; cases h; exact ⟨rfl, 0, by decide, c0, rfl⟩
  rw [if_neg c0] at h
  by_cases c1 : p = 1
  · rw [if_pos c1] at h; cases h; exact ⟨rfl, 1, by decide, c1, rfl⟩
  rw [if_neg c1] at h
  by_cases c2 : p = 2
  · rw [if_pos c2] at h; cases h; exact ⟨rfl, 2, by decide, c2, rfl⟩
  rw [if_neg c2] at h
  by_cases c3 : p = 3
  · rw [if_pos c3] at h; cases h; exact ⟨rfl, 3, by decide, c3, rfl⟩
  rw [if_neg c3] at h
  by_cases c4 : p = 4
  · rw [if_pos c4] at h; cases h; exact ⟨rfl, 4, by decide, c4, rfl⟩
  rw [if_neg c4] at h
  by_cases c5 : p = 5
  · rw [if_pos c5] at h; cases h; exact ⟨rfl, 5, by decide, c5, rfl⟩
  rw [if_neg c5] at h
  by_cases c6 : p = 6
  · rw [if_pos c6] at h; cases h; exact ⟨rfl, 6, by decide, c6, rfl⟩
  rw [if_neg c6] at h
  by_cases c7 : p = 7
  · rw [if_pos c7] at h; cases h; exact ⟨rfl, 7, by decide, c7, rfl⟩
  rw [if_neg c7] at h
  by_cases c8 : p = 8
  · rw [if_pos c8] at h; cases h; exact ⟨rfl, 8, by decide, c8, rfl⟩
  rw [if_neg c8] at h
  by_cases c9 : p = 9
  · rw [if_pos c9] at h; cases h; exact ⟨rfl, 9, by decide, c9, rfl⟩
  rw [if_neg c9] at h
  by_cases c10 : p = 10
  · rw [if_pos c10] at h; cases h; exact ⟨rfl, 10, by decide, c10, rfl⟩
  rw [if_neg c10] at h
  by_cases c11 : p = 11
  · rw [if_pos c11] at h; cases h; exact ⟨rfl, 11, by decide, c11, rfl⟩
  rw [if_neg c11] at h
  by_cases c12 : p = 12
  · rw [if_pos c12] at h; cases h; exact ⟨rfl, 12, by decide, c12, rfl⟩
  rw [if_neg c12] at h
  by_cases c13 : p = 13
  · rw [if_pos c13] at h; cases h; exact ⟨rfl, 13, by decide, c13, rfl⟩
  rw [if_neg c13] at h
  by_cases c14 : p = 14
  · rw [if_pos c14] at h; cases h; exact ⟨rfl, 14, by decide, c14, rfl⟩
  rw [if_neg c14] at h
  by_cases c15 : p = 15
  · rw [if_pos c15] at h; cases h; exact ⟨rfl, 15, by decide, c15, rfl⟩
  rw [if_neg c15] at h
  by_cases c16 : p = 16
  · rw [if_pos c16] at h; cases h; exact ⟨rfl, 16, by decide, c16, rfl⟩
  rw [if_neg c16] at h
  by_cases c17 : p = 17
  · rw [if_pos c17] at h; cases h; exact ⟨rfl, 17, by decide, c17, rfl⟩
  rw [if_neg c17] at h
  by_cases c18 : p = 18
  · rw [if_pos c18] at h; cases h; exact ⟨rfl, 18, by decide, c18, rfl⟩
  rw [if_neg c18] at h
  by_cases c19 : p = 19
  · rw [if_pos c19] at h; cases h; exact ⟨rfl, 19, by decide, c19, rfl⟩
  rw [if_neg c19] at h
  by_cases c20 : p = 20
  · rw [if_pos c20] at h; cases h; exact ⟨rfl, 20, by decide, c20, rfl⟩
  rw [if_neg c20] at h
  by_cases c21 : p = 21
  · rw [if_pos c21] at h; cases h; exact ⟨rfl, 21, by decide, c21, rfl⟩
  rw [if_neg c21] at h
  by_cases c22 : p = 22
  · rw [if_pos c22] at h; cases h; exact ⟨rfl, 22, by decide, c22, rfl⟩
  rw [if_neg c22] at h
  by_cases c23 : p = 23
  · rw [if_pos c23] at h; cases h; exact ⟨rfl, 23, by decide, c23, rfl⟩
  rw [if_neg c23] at h
  by_cases c24 : p = 24
  · rw [if_pos c24] at h; cases h; exact ⟨rfl, 24, by decide, c24, rfl⟩
  rw [if_neg c24] at h
  cases h
theorem whole_id (c : List (List Int)) : PyKyp.whole c = c := by
  unfold PyKyp.whole
  split <;> rfl
theorem ln1 {l : List Nat} (h : l.length = 1) : ∃ x, l = [x] := by
  match l, h with
  | [x], _ => exact ⟨x, rfl⟩
theorem ln2 {l : List Nat} (h : l.length = 2) : ∃ x y, l = [x, y] := by
  match l, h with
  | [x, y], _ => exact ⟨x, y, rfl⟩
theorem ln3 {l : List Nat} (h : l.length = 3) : ∃ x y z, l = [x, y, z] := by
  match l, h with
  | [x, y, z], _ => exact ⟨x, y, z, rfl⟩
theorem ln6 {l : List Nat} (h : l.length = 6) : ∃ x y z u v w, l = [x, y, z, u, v, w] := by
  match l, h with
  | [x, y, z, u, v, w], _ => exact ⟨x, y, z, u, v, w, rfl⟩
/-- a call behind the start -/
theorem call_step (c : Nat) (hc : c ≠ 0) (h25 : c < 25) (l : List Nat) (hl : l.length = many c) : ∃ k, KypNeutral.callOf [(c : Int) :: cI l] = some k ∧ Kyp.acts none k = none ∧ ∀ q h, RH q h → StepOk q h c l (Kyp.acts (some q) k) := by
  match c, hc, h25, hl with
  | 1, _, _, hl => obtain ⟨x, y, rfl⟩ := ln2 hl; exact ⟨.come x y, rfl, rfl, fun q h r => act_step r _ _ _ ⟨rfl, rfl⟩⟩
  | 2, _, _, hl => obtain ⟨x, y, rfl⟩ := ln2 hl; exact ⟨.team x y, rfl, rfl, fun q h r => act_step r _ _ _ ⟨rfl, rfl⟩⟩
  | 3, _, _, hl => obtain ⟨x, rfl⟩ := ln1 hl; exact ⟨.go x, rfl, rfl, fun q h r => act_step r _ _ _ ⟨rfl, rfl⟩⟩
  | 4, _, _, hl => obtain ⟨x, y, rfl⟩ := ln2 hl; exact ⟨.broken x y, rfl, rfl, fun q h r => act_step r _ _ _ ⟨rfl, rfl⟩⟩
  | 5, _, _, hl => obtain rfl := List.length_eq_zero_iff.mp hl; exact ⟨.line, rfl, rfl, fun q h r => read_step r _ _ _ ⟨rfl, rfl⟩⟩
  | 6, _, _, hl => obtain ⟨x, rfl⟩ := ln1 hl; exact ⟨.lane x, rfl, rfl, fun q h r => read_step r _ _ _ ⟨rfl, rfl⟩⟩
  | 7, _, _, hl => obtain ⟨x, rfl⟩ := ln1 hl; exact ⟨.where_ x, rfl, rfl, fun q h r => read_step r _ _ _ ⟨rfl, rfl⟩⟩
  | 8, _, _, hl => obtain ⟨x, y, rfl⟩ := ln2 hl; exact ⟨.roll x y, rfl, rfl, fun q h r => act_step r _ _ _ ⟨rfl, rfl⟩⟩
  | 9, _, _, hl => obtain ⟨x, rfl⟩ := ln1 hl; exact ⟨.undo x, rfl, rfl, fun q h r => act_step r _ _ _ ⟨rfl, rfl⟩⟩
  | 10, _, _, hl => obtain ⟨x, rfl⟩ := ln1 hl; exact ⟨.turn x, rfl, rfl, fun q h r => read_step r _ _ _ ⟨rfl, rfl⟩⟩
  | 11, _, _, hl => obtain ⟨x, y, rfl⟩ := ln2 hl; exact ⟨.score x y, rfl, rfl, fun q h r => read_step r _ _ _ ⟨rfl, rfl⟩⟩
  | 12, _, _, hl => obtain ⟨x, y, z, rfl⟩ := ln3 hl; exact ⟨.frame x y z, rfl, rfl, fun q h r => read_step r _ _ _ ⟨rfl, rfl⟩⟩
  | 13, _, _, hl => obtain ⟨x, y, rfl⟩ := ln2 hl; exact ⟨.range x y, rfl, rfl, fun q h r => read_step r _ _ _ ⟨rfl, rfl⟩⟩
  | 14, _, _, hl => obtain ⟨x, y, z, rfl⟩ := ln3 hl; exact ⟨.ways x y z, rfl, rfl, fun q h r => read_step r _ _ _ ⟨rfl, rfl⟩⟩
  | 15, _, _, hl => obtain ⟨x, rfl⟩ := ln1 hl; exact ⟨.games x, rfl, rfl, fun q h r => read_step r _ _ _ ⟨rfl, rfl⟩⟩
  | 16, _, _, hl => obtain ⟨x, y, z, rfl⟩ := ln3 hl; exact ⟨.game x y z, rfl, rfl, fun q h r => read_step r _ _ _ ⟨rfl, rfl⟩⟩
  | 17, _, _, hl => obtain ⟨x, rfl⟩ := ln1 hl; exact ⟨.bill x, rfl, rfl, fun q h r => read_step r _ _ _ ⟨rfl, rfl⟩⟩
  | 18, _, _, hl => obtain rfl := List.length_eq_zero_iff.mp hl; exact ⟨.taken, rfl, rfl, fun q h r => read_step r _ _ _ ⟨rfl, rfl⟩⟩
  | 19, _, _, hl => obtain ⟨x, y, rfl⟩ := ln2 hl; exact ⟨.match_ x y, rfl, rfl, fun q h r => act_step r _ _ _ ⟨rfl, rfl⟩⟩
  | 20, _, _, hl => obtain ⟨x, y, rfl⟩ := ln2 hl; exact ⟨.average x y, rfl, rfl, fun q h r => read_step r _ _ _ ⟨rfl, rfl⟩⟩
  | 21, _, _, hl => obtain ⟨x, y, rfl⟩ := ln2 hl; exact ⟨.allowance x y, rfl, rfl, fun q h r => read_step r _ _ _ ⟨rfl, rfl⟩⟩
  | 22, _, _, hl => obtain ⟨x, rfl⟩ := ln1 hl; exact ⟨.points x, rfl, rfl, fun q h r => read_step r _ _ _ ⟨rfl, rfl⟩⟩
  | 23, _, _, hl => obtain rfl := List.length_eq_zero_iff.mp hl; exact ⟨.order, rfl, rfl, fun q h r => read_step r _ _ _ ⟨rfl, rfl⟩⟩
  | 24, _, _, hl => obtain rfl := List.length_eq_zero_iff.mp hl; exact ⟨.state, rfl, rfl, fun q h r => read_step r _ _ _ ⟨rfl, rfl⟩⟩
  | n + 25, _, h, _ => exact absurd h (by omega)
/-- the two states -/
def SR : Option Kyp.Hall → Option Hl → Prop
  | none, none => True
  | some q, some h => RH q h
  | _, _ => False
theorem SR.hok {s : Option Kyp.Hall} {m : Option Hl} (r : SR s m) : ∀ h, m = some h → HOk h := fun h e => by
  subst e
  cases s with
  | none => exact r.elim
  | some q => exact RH.hok r
theorem start_rel {s : Option Kyp.Hall} {m : Option Hl} (r : SR s m) (x0 x1 x2 x3 x4 x5 : Nat) : SR (KypNeutral.step s [(0 : Nat) :: cI [x0, x1, x2, x3, x4, x5]]).1 (desk m 0 [x0, x1, x2, x3, x4, x5]).1 ∧ (KypNeutral.step s [(0 : Nat) :: cI [x0, x1, x2, x3, x4, x5]]).2 = (desk m 0 [x0, x1, x2, x3, x4, x5]).2 := by
  have ec : KypNeutral.callOf [((0 : Nat) : Int) :: cI [x0, x1, x2, x3, x4, x5]] = some (.start x0 x1 x2 x3 x4 x5) := rfl
  unfold KypNeutral.step
  rw [ec]
  by_cases c : okNew x0 x1 x2 x3 x4 x5 = true
  · have ea : Kyp.acts s (.start x0 x1 x2 x3 x4 x5) = some (some ⟨x1, x2, List.replicate x0 ⟨false, none⟩, [], [], 0, Kyp2.begun x3 x4 x5⟩, Kyp.say 0) := by
      show some (if Kyp.okHall x0 x1 x2 x3 x4 x5 = false then _ else _) = _
      rw [okHall_new, if_neg (by rw [c]; simp)]
    have ed : desk m 0 [x0, x1, x2, x3, x4, x5] = (some (Hl.new x0 x1 x2 x3 x4 x5), [0]) := by simp only [desk, startAns, c, if_true]
    show SR (match (some (Kyp.Call.start x0 x1 x2 x3 x4 x5)).bind (Kyp.acts s) with | none => (s, []) | some (t, a) => (t, a.value :: KypNeutral.ints a.out)).1 _ ∧ (match (some (Kyp.Call.start x0 x1 x2 x3 x4 x5)).bind (Kyp.acts s) with | none => (s, []) | some (t, a) => (t, a.value :: KypNeutral.ints a.out)).2 = _
    rw [Option.bind_some, ea, ed]
    exact ⟨RH.new c, rfl⟩
  · have ea : Kyp.acts s (.start x0 x1 x2 x3 x4 x5) = some (s, Kyp.say (-22)) := by
      show some (if Kyp.okHall x0 x1 x2 x3 x4 x5 = false then _ else _) = _
      rw [okHall_new, if_pos (by simpa using c)]
    have c' : okNew x0 x1 x2 x3 x4 x5 = false := by simpa using c
    have ed : desk m 0 [x0, x1, x2, x3, x4, x5] = (m, [-22]) := by simp only [desk, startAns, c', if_true, if_false, Bool.false_eq_true]
    show SR (match (some (Kyp.Call.start x0 x1 x2 x3 x4 x5)).bind (Kyp.acts s) with | none => (s, []) | some (t, a) => (t, a.value :: KypNeutral.ints a.out)).1 _ ∧ (match (some (Kyp.Call.start x0 x1 x2 x3 x4 x5)).bind (Kyp.acts s) with | none => (s, []) | some (t, a) => (t, a.value :: KypNeutral.ints a.out)).2 = _
    rw [Option.bind_some, ea, ed]
    exact ⟨r, rfl⟩
theorem step_rel {s : Option Kyp.Hall} {m : Option Hl} (r : SR s m) {c : Nat} (h25 : c < 25) {l : List Nat} (hl : l.length = many c) (ne : (KypNeutral.step s [(c : Int) :: cI l]).2 ≠ []) :
    (m = none → c = 0) ∧ SR (KypNeutral.step s [(c : Int) :: cI l]).1 (desk m c l).1 ∧ (KypNeutral.step s [(c : Int) :: cI l]).2 = (desk m c l).2 := by
  by_cases c0 : c = 0
  · subst c0
    obtain ⟨x0, x1, x2, x3, x4, x5, rfl⟩ := ln6 hl
    exact ⟨fun _ => rfl, start_rel r _ _ _ _ _ _⟩
  · obtain ⟨k, ek, en, es⟩ := call_step c c0 h25 l hl
    have e1 : KypNeutral.step s [(c : Int) :: cI l] = (match Kyp.acts s k with
      | none => (s, [])
      | some (t, a) => (t, a.value :: KypNeutral.ints a.out)) := by
      unfold KypNeutral.step
      rw [ek]; rfl
    cases s with
    | none =>
      rw [en] at e1
      rw [e1] at ne
      exact absurd rfl ne
    | some q =>
      cases m with
      | none => exact r.elim
      | some h =>
        obtain ⟨q', a, h', ea, ed, rr⟩ := es q h r
        rw [ea] at e1
        rw [e1, ed]
        exact ⟨fun z => (nomatch z), rr, rfl⟩
theorem cI_toNat (l : List Int) (hn : ∀ x ∈ l, 0 ≤ x) : cI (l.map Int.toNat) = l := by
  unfold cI
  rw [List.map_map]
  conv => rhs; rw [← List.map_id l]
  refine List.map_congr_left fun x hx => ?_
  show ((x.toNat : Nat) : Int) = x
  exact Int.toNat_of_nonneg (hn x hx)
theorem run_go : ∀ (f : Nat) (l : List Int) (s : Option Kyp.Hall) (m : Option Hl) (cs : List (List (List Int))), PyFlat.calls PyKyp.shape f l = some cs → (∀ x ∈ l, 0 ≤ x) → KypNeutral.may s cs = true → SR s m →
    RunOk m (l.map Int.toNat) (PyFlat.told (PyFlat.played KypNeutral.step s cs))
  | f, [], s, m, cs, h, _, _, _ => by
    have e : cs = [] := by
      cases f <;> exact (Option.some.inj h).symm
    subst e
    exact RunOk.nil m
  | 0, p :: r, s, m, cs, h, _, _, _ => by cases h
  | f + 1, p :: r, s, m, cs, h, hn, hm, hr => by
    unfold PyFlat.calls at h
    cases ec : PyFlat.call PyKyp.shape (p :: r) with
    | none => rw [ec] at h; cases h
    | some ct =>
      obtain ⟨c, t⟩ := ct
      rw [ec] at h
      have h2 : (match PyFlat.calls PyKyp.shape f t with
        | none => none
        | some cs => some (c :: cs)) = some cs := h
      cases et : PyFlat.calls PyKyp.shape f t with
      | none => rw [et] at h2; cases h2
      | some cs' =>
        rw [et] at h2
        have e : cs = c :: cs' := (Option.some.inj h2).symm
        subst e
        -- the call's own numbers
        cases es : PyKyp.shape p with
        | none =>
          have ec2 : PyFlat.call PyKyp.shape (p :: r) = none := by simp only [PyFlat.call, es]
          rw [ec2] at ec; cases ec
        | some nk =>
          obtain ⟨n, k⟩ := nk
          obtain ⟨rfl, cn, h25, rfl, rfl⟩ := shape_is es
          by_cases hlt : r.length < many cn
          · have ec2 : PyFlat.call PyKyp.shape ((cn : Int) :: r) = none := by simp only [PyFlat.call, es, hlt, if_true]
            rw [ec2] at ec; cases ec
          · have ec2 : PyFlat.call PyKyp.shape ((cn : Int) :: r) = some (((cn : Int) :: r.take (many cn)) :: [], r.drop (many cn)) := by simp only [PyFlat.call, es, hlt, if_false, PyFlat.rows]
            rw [ec2] at ec
            cases ec
            have hn' : ∀ x ∈ r, 0 ≤ x := fun x hx => hn x (by simp [hx])
            have ht : cI ((r.take (many cn)).map Int.toNat) = r.take (many cn) := cI_toNat _ fun x hx => hn' x (List.mem_of_mem_take hx)
            have hl : ((r.take (many cn)).map Int.toNat).length = many cn := by rw [List.length_map, List.length_take]; omega
            unfold KypNeutral.may at hm
            rw [Bool.and_eq_true] at hm
            have ne : (KypNeutral.step s [(cn : Int) :: cI ((r.take (many cn)).map Int.toNat)]).2 ≠ [] := fun z => by
              have := hm.1
              rw [ht] at z
              rw [z] at this
              cases this
            have st := step_rel hr h25 hl ne
            rw [ht] at st
            have ih := run_go f (r.drop (many cn)) (KypNeutral.step s [(cn : Int) :: r.take (many cn)]).1 (desk m cn ((r.take (many cn)).map Int.toNat)).1 cs' et (fun x hx => hn' x (List.mem_of_mem_drop hx)) hm.2 st.2.1
            have run := RunOk.cons (s := m) (c := cn) (l := (r.take (many cn)).map Int.toNat) h25 hl st.1 hr.hok ih
            have e1 : ((cn : Int) :: r).map Int.toNat = cn :: ((r.take (many cn)).map Int.toNat ++ (r.drop (many cn)).map Int.toNat) := by
              rw [List.map_cons, ← List.map_append, List.take_append_drop]; rfl
            rw [e1]
            have e2 : PyFlat.told (PyFlat.played KypNeutral.step s ([(cn : Int) :: r.take (many cn)] :: cs')) = ((desk m cn ((r.take (many cn)).map Int.toNat)).2.length : Int) :: ((desk m cn ((r.take (many cn)).map Int.toNat)).2 ++ PyFlat.told (PyFlat.played KypNeutral.step (KypNeutral.step s [(cn : Int) :: r.take (many cn)]).1 cs')) := by
              rw [← st.2.2]; rfl
            rw [e2]
            exact run
theorem run_all (l : List Int) (h : PyKyp.answers_asked l = true) (hn : ∀ x ∈ l, 0 ≤ x) : RunOk none (l.map Int.toNat) (PyKyp.answers l) := by
  unfold PyKyp.answers_asked at h
  unfold PyKyp.answers PyKyp.calls
  cases ec : PyFlat.calls PyKyp.shape l.length l with
  | none => rw [ec] at h; cases h
  | some cs =>
    rw [ec] at h
    simp only [Bool.and_eq_true] at h
    have ew : cs.map PyKyp.whole = cs := by
      rw [show (PyKyp.whole : List (List Int) → List (List Int)) = id from funext whole_id, List.map_id]
    have ha := h.1.2
    rw [ew] at ha
    unfold KypNeutral.asked at ha
    rw [Bool.and_eq_true] at ha
    show RunOk none _ (PyFlat.told (PyFlat.played KypNeutral.step KypNeutral.start (cs.map PyKyp.whole)))
    rw [ew]
    exact run_go l.length l none none cs ec hn ha.2 trivial
end Bw

/-! rules of our own: the memo, a dict whose keys are tuples with tuples in them -/
namespace Bw
open PySem PySem.Spec PyProof.Rows L2
def nV (n : Nat) : V := .int (n : Int)
def nL (l : List Nat) : List V := l.map nV
/-- an entry of the memo: the state, where its key lies, where its dict lies -/
structure Ent where
  st : CS
  ka : Addr
  va : Addr
def nkOf (s : CS) : NestedKey := .tup [.num (s.n : Int), .tup (s.f.map fun (x : Nat) => .num (x : Int)), .num (s.m : Int), .num (s.k : Int)]
theorem nkNums_inj : ∀ {a b : List Nat}, (a.map fun (x : Nat) => NestedKey.num (x : Int)) = (b.map fun (x : Nat) => NestedKey.num (x : Int)) → a = b
  | [], [], _ => rfl
  | [], _ :: _, h => nomatch h
  | _ :: _, [], h => nomatch h
  | x :: a, y :: b, h => by
    rw [List.map_cons, List.map_cons] at h
    injection h with h1 h2
    injection h1 with h1
    rw [nkNums_inj h2, Int.ofNat_inj.mp h1]
theorem nkOf_inj {a b : CS} (h : nkOf a = nkOf b) : a = b := by
  obtain ⟨n, f, m, k⟩ := a
  obtain ⟨n', f', m', k'⟩ := b
  unfold nkOf at h
  injection h with h
  injection h with h1 h
  injection h with h2 h
  injection h with h3 h
  injection h with h4 h
  injection h1 with h1
  injection h2 with h2
  injection h3 with h3
  injection h4 with h4
  have e1 := Int.ofNat_inj.mp h1
  have e3 := Int.ofNat_inj.mp h3
  have e4 := Int.ofNat_inj.mp h4
  have e2 := nkNums_inj h2
  subst e1 e2 e3 e4
  rfl
def rawE (e : Ent) : NestedKey × Addr × Value := (nkOf e.st, e.ka, .ref e.va)
def memGet (l : List Ent) (s : CS) : Option Addr := (l.find? fun e => decide (e.st = s)).map (·.va)
theorem memGet_nil (s : CS) : memGet [] s = none := rfl
theorem memGet_cons (e : Ent) (l : List Ent) (s : CS) : memGet (e :: l) s = if e.st = s then some e.va else memGet l s := by
  unfold memGet
  rw [List.find?_cons]
  by_cases h : e.st = s
  · rw [decide_eq_true h, if_pos h]; rfl
  · rw [decide_eq_false h, if_neg h]
theorem atKey_mem (l : List Ent) (s : CS) : (atKey (l.map rawE) (nkOf s)).map (·.2) = (memGet l s).map Value.ref := by
  induction l with
  | nil => rfl
  | cons e l ih =>
    rw [memGet_cons, List.map_cons]
    by_cases h : e.st = s
    · rw [if_pos h]
      have : (rawE e).1 = nkOf s := by rw [← h]; rfl
      simp [atKey, this]
      rfl
    · rw [if_neg h]
      have : ¬ (rawE e).1 = nkOf s := fun z => h (nkOf_inj z)
      have q : atKey (rawE e :: l.map rawE) (nkOf s) = atKey (l.map rawE) (nkOf s) := by simp [atKey, this]
      rw [q, ih]
theorem atKey_some (l : List Ent) (s : CS) : (atKey (l.map rawE) (nkOf s)).isSome = (memGet l s).isSome := by
  have := atKey_mem l s
  cases h : atKey (l.map rawE) (nkOf s) with
  | none =>
    rw [h] at this
    cases h2 : memGet l s with
    | none => rfl
    | some v => rw [h2] at this; cases this
  | some p =>
    rw [h] at this
    cases h2 : memGet l s with
    | none => rw [h2] at this; cases this
    | some v => rfl
section
variable (P : Program) (w : World)
def memP (a : Addr) (l : List Ent) (h : Heap) : Prop := (a == sysModules) = false ∧ l.length ≤ sizeLine ∧
  ∃ o es ep, h.get? a = some o ∧ o.ExactDict ∧ o.data = .dict es ep ∧ es.toList = (l.map rawE).map (entryOfKey (nestedKind P w)) ∧ ((l.map rawE).map (·.1)).Nodup
/-- what the memo at a holds -/
def memO (a : Addr) (l : List Ent) : HO := .ext (memP P w a l)
end
theorem memP_ok {P : Program} {w : World} {H : Hp} {h : Heap} {a : Addr} {l : List Ent} (x : memP P w a l h) : ObjOk P w H h a (memO P w a l) := by
  obtain ⟨x1, x2, o, es, ep, e, r⟩ := id x
  refine ⟨x, ⟨o, e⟩, ?_⟩
  rintro h1 h2 ⟨y1, y2, o', es', ep', e', r'⟩ k
  exact ⟨y1, y2, o', es', ep', k o' e', r'⟩
/-- the tuple of a state lies at ka -/
def StateAt (H : Hp) (ka : Addr) (s : CS) : Prop := ∃ fa, H ka = some (.tup [nV s.n, .ref fa, nV s.m, nV s.k]) ∧ H fa = some (.tup (nL s.f))
theorem StateAt.same {H H' : Hp} {ka : Addr} {s : CS} (x : StateAt H ka s) (h : ∀ b xs, H b = some (.tup xs) → H' b = some (.tup xs)) : StateAt H' ka s := by
  obtain ⟨fa, h1, h2⟩ := x
  exact ⟨fa, h _ _ h1, h _ _ h2⟩
theorem nested_nums {h : Heap} : ∀ {l : List Nat} {us : List Value}, Vals (nL l) us → NestedAll h (l.map fun (x : Nat) => .num (x : Int)) us
  | [], us, r => by cases r; exact .nil
  | x :: l, us, r => by
    cases r with
    | cons r t =>
      obtain ⟨k, rfl⟩ := r
      exact .cons (.int _ _) (nested_nums t)
theorem depth_nums : ∀ l : List Nat, NestedKey.depthAll (l.map fun (x : Nat) => NestedKey.num (x : Int)) = 0
  | [] => by simp [NestedKey.depthAll]
  | x :: l => by rw [List.map_cons, NestedKey.depthAll, depth_nums l]; simp [NestedKey.depth]
section
variable {X : Cx} {pins : List (Addr × Obj)} {σ : L2.St} {H : Hp} {s : Shared} {a ka : Addr} {l : List Ent} {st : CS} {A : Around} {E : Value → Shared → Prop}
theorem state_is (I : Inv X pins σ H s) (x : StateAt H ka st) : (nestedKind X.prog X.w).is s.heap (nkOf st) ka := by
  obtain ⟨fa, h1, h2⟩ := x
  obtain ⟨_, its, r, o, e, c, n, d⟩ := I.hok _ _ h1
  obtain ⟨_, its2, r2, o2, e2, c2, n2, d2⟩ := I.hok _ _ h2
  refine ⟨?_, ?_⟩
  · refine NestedIs.tup e c d ?_
    show NestedAll _ _ its.toArray.toList
    cases r with
    | cons ra r =>
      cases r with
      | cons rb r =>
        cases r with
        | cons rc r =>
          cases r with
          | cons rd r =>
            cases r
            obtain ⟨ta, rfl⟩ := ra
            cases rb
            obtain ⟨tc, rfl⟩ := rc
            obtain ⟨td, rfl⟩ := rd
            refine .cons (.int _ _) (.cons ?_ (.cons (.int _ _) (.cons (.int _ _) .nil)))
            exact NestedIs.tup e2 c2 d2 (by simpa using nested_nums r2)
  · unfold nkOf
    simp only [NestedKey.depth, NestedKey.depthAll, depth_nums]
    decide
theorem mem_dict (I : Inv X pins σ H s) (e : H a = some (memO X.prog X.w a l)) (hl : ∀ x ∈ l, StateAt H x.ka x.st) : (a == sysModules) = false ∧ l.length ≤ sizeLine ∧ s.heap.DictOfH (nestedKind X.prog X.w) a (l.map rawE) := by
  obtain ⟨⟨h1, h2, o, es, ep, e1, e2, e3, e4, e5⟩, _⟩ := I.hok _ _ e
  refine ⟨h1, h2, o, es, ep, e1, e2, e3, e4, ?_, e5⟩
  intro x hx
  obtain ⟨y, hy, rfl⟩ := List.mem_map.mp hx
  exact state_is I (hl y hy)
end
/-- the memo's keys lie there -/
def KeysAt (H : Hp) (l : List Ent) : Prop := ∀ x ∈ l, StateAt H x.ka x.st
def tMemNotIn (P : Program) (w : World) (ty td : TE) : TE := fun σ H Q => ty σ H fun y H1 => td σ H1 fun x H2 => ∃ a ka l st, x = .ref a ∧ y = .ref ka ∧ H2 a = some (memO P w a l) ∧ KeysAt H2 l ∧ StateAt H2 ka st ∧ Q (.bl (!(memGet l st).isSome)) H2
def tMemGet (P : Program) (w : World) (td ty : TE) : TE := fun σ H Q => td σ H fun x H1 => ty σ H1 fun y H2 => ∃ a ka l st va, x = .ref a ∧ y = .ref ka ∧ H2 a = some (memO P w a l) ∧ KeysAt H2 l ∧ StateAt H2 ka st ∧ memGet l st = some va ∧ Q (.ref va) H2
def sMemPut (P : Program) (w : World) (td ty tv : TE) : TS := fun D σ H => tv σ H fun v H1 => td σ H1 fun x H2 => ty σ H2 fun y H3 => ∃ a ka l st va, x = .ref a ∧ y = .ref ka ∧ v = .ref va ∧ H3 a = some (memO P w a l) ∧ KeysAt H3 l ∧ StateAt H3 ka st ∧
  memGet l st = none ∧ l.length < sizeLine ∧ D.nx σ (upd H3 a (memO P w a (l ++ [⟨st, ka, va⟩])))
def tMemNew (P : Program) (w : World) : TE := fun _ H Q => ∀ p, H p = none → Q (.ref p) (upd H p (memO P w p []))
section
variable {X : Cx} {o i value : Expr} {pos pos' : Pos} {td ty tv : TE}
theorem mem_room {A : Around} (hu : A.units + 64 < cLine) : (nestedKind X.prog X.w).room A.in1 := by
  show A.units + 1 + 8 < cLine
  omega
theorem pe_memNew : PE X (.Dict [] [] pos) (tMemNew X.prog X.w) := ⟨fun pins s σ H Q I h =>
  wpAny_Dict_empty ⟨.ref s.heap.objs.size, _, I.laid (a := s.heap.objs.size) (o := memO X.prog X.w s.heap.objs.size []) (t' := s.toks) (fun _ _ q => Heap.get?_push_of_some _ q) (Nat.le_refl _)
    (memP_ok ⟨beq_eq_false_iff_ne.mpr (Ne.symm (Nat.ne_of_lt I.big)), Nat.zero_le _, _, #[], 0, Heap.get?_push_size _ rfl, ⟨rfl, rfl, rfl⟩, rfl, rfl, List.nodup_nil⟩), rfl, h _ (I.hok.fresh (Nat.le_refl _))⟩⟩
theorem pc_memNotIn (hu : X.A.units + 64 < cLine) (hi : PE X i ty) (ho : PE X o td) : PC X .NotIn i o (tMemNotIn X.prog X.w ty td) := by
  refine ⟨fun pins s σ H Q I h => ?_⟩
  refine thn (hi.run pins s σ H _ I h) fun iv s1 ⟨y, H1, I1, ry, q1⟩ => thn (ho.run pins s1 σ H1 _ I1 q1) fun u s2 ⟨x, H2, I2, rx, a, ka, l, st, ex, ey, e, hk, hs, q2⟩ => ?_
  subst ex ey
  obtain rfl : u = Value.ref a := rx
  obtain rfl : iv = Value.ref ka := ry
  obtain ⟨d1, d2, dd⟩ := mem_dict I2 e hk
  refine wpAny_notIn_heap (mem_room (X := X) hu) (state_is I2 hs) d1 dd ?_
  rw [atKey_some]
  exact ⟨.bl _, H2, I2.tok _, rfl, q2⟩
theorem pe_memGet (hu : X.A.units + 64 < cLine) (ho : PE X o td) (hi : PE X i ty) (hs : NoSl i) : PE X (.Subscript o i pos) (tMemGet X.prog X.w td ty) := by
  refine ⟨fun pins s σ H Q I h => ?_⟩
  refine subD_of PySem.F.slot_dict_getitem.lookup hs (thn (ho.run pins s σ H _ I h) fun u s1 ⟨x, H1, I1, rx, q1⟩ => thn (hi.run pins s1 σ H1 _ I1 q1) fun iv s2 ⟨y, H2, I2, ry, a, ka, l, st, va, ex, ey, e, hk, hst, g, q2⟩ => ?_)
  subst ex ey
  obtain rfl : u = Value.ref a := rx
  obtain rfl : iv = Value.ref ka := ry
  obtain ⟨d1, d2, dd⟩ := mem_dict I2 e hk
  have am := atKey_mem l st
  rw [g] at am
  obtain ⟨p, hp, hp2⟩ := Option.map_eq_some_iff.mp am
  refine ⟨dd.typeIs, wpAny_getItem_heap (mem_room (X := X) hu) (state_is I2 hst) dd hp ?_⟩
  rw [hp2]
  exact ⟨.ref va, H2, I2.tok _, rfl, q2⟩
theorem ps_memPut (hu : X.A.units + 64 < cLine) (ho : PE X o td) (hi : PE X i ty) (hv : PE X value tv) (hs : swapsWith value (some (.Subscript o i pos')) pos.line X.env = pure false) :
    PS X (.Assign [.Subscript o i pos'] value pos) (sMemPut X.prog X.w td ty tv) := by
  refine ⟨fun pins s σ H D I h => ?_⟩
  refine wpAny_Assign_Subscript (thn (hv.run pins s σ H _ I h) fun r s1 ⟨v, H1, I1, rv, q1⟩ => thn (ho.run pins s1 σ H1 _ I1 q1) fun u s2 ⟨x, H2, I2, rx, q2⟩ => thn (hi.run pins s2 σ H2 _ I2 q2) fun iv s3 ⟨y, H3, I3, ry, a, ka, l, st, va, ex, ey, ev, e, hk, hst, g, hz, q3⟩ => ?_) hs
  subst ex ey ev
  obtain rfl : u = Value.ref a := rx
  obtain rfl : iv = Value.ref ka := ry
  obtain rfl : r = Value.ref va := rv
  obtain ⟨d1, d2, dd⟩ := mem_dict I3 e hk
  refine wpAny_setItem_heap (hsz := by rw [List.length_map]; exact d2) (mem_room (X := X) hu) (state_is I3 hst) dd fun h' dd' hsb => ?_
  have hn : atKey (l.map rawE) (nkOf st) = none := by
    have := atKey_some l st
    rw [g] at this
    cases q : atKey (l.map rawE) (nkOf st) with
    | none => rfl
    | some p => rw [q] at this; cases this
  rw [storedH_new hn] at dd'
  obtain ⟨o1, es, ep, h1, h2, h3, h4, h5, h6⟩ := id dd'
  have he : ∃ q, h'.get? a = some q := ⟨_, h1⟩
  have e2 : l.map rawE ++ [(nkOf st, ka, Value.ref va)] = (l ++ [(⟨st, ka, va⟩ : Ent)]).map rawE := by rw [List.map_append]; rfl
  rw [e2] at h4 h6
  refine ⟨σ, _, d_write I3 (by rw [e]; exact True.intro) hsb he (memP_ok ⟨d1, by rw [List.length_append]; exact hz, o1, es, ep, h1, h2, h3, h4, h6⟩), q3⟩
end
end Bw

/-! rules of our own: max of a dict's keys; sorted rows of three numbers; list(zip(a, b)) -/
namespace Bw
open PySem PySem.Spec PyProof.Rows L2
section
variable {X : Cx}
/-- max(d), d a dict with int keys -/
def rMaxK : List V → Hp → VK → Prop := fun vs H Q => ∃ (a : Addr) (kvs : List (Key × V)) (is : List Int), vs = [V.ref a] ∧ H a = some (.dK kvs) ∧
  kvs.map (·.1) = is.map Sum.inl ∧ is ≠ [] ∧ ∀ m, m ∈ is → (∀ j ∈ is, j ≤ m) → Q (.int m) H
theorem cr_maxK (hc : X.calm = true) : CallR X (.builtin "max") rMaxK := by
  intro pins s σ H vs us Q I r ⟨a, kvs, is, hvs, ha, hks, hne, q⟩
  subst hvs
  rw [Vals.ref1 r]
  obtain ⟨_, hsys, ws, rel, dof⟩ := dk_of I.hok ha
  obtain ⟨ep, dat⟩ := dof.dictAt
  obtain ⟨ob, es, ho, _, _, _, _, _⟩ := id dat
  have low : a < s.heap.objs.size := Heap.lt_size ho
  have hk2 : ws.map (·.1) = is.map Sum.inl := (KV.keys rel).symm.trans hks
  have hl : ws.length = is.length := by simpa using congrArg List.length hk2
  have pos : 0 < is.length := List.length_pos_iff.mpr hne
  let f : Nat → Int := fun i => is.getD i 0
  have val : ∀ (i : Nat) (v : Value), (∃ k x, ws[i]? = some (k, x) ∧ (mixKind X.prog X.w).is k v = true) → ∃ t, v = Value.int (f i) t := by
    rintro i v ⟨k, x, hk, hv⟩
    have e1 : (ws.map (·.1))[i]? = some k := by rw [List.getElem?_map, hk]; rfl
    rw [hk2, List.getElem?_map] at e1
    obtain ⟨j, hj, rfl⟩ := Option.map_eq_some_iff.mp e1
    obtain ⟨t, e3⟩ := Value.isInt_shape (k := j) (v := v) hv
    have : f i = j := by show is.getD i 0 = j; rw [List.getD_eq_getElem?_getD, hj]; rfl
    exact ⟨t, by rw [e3, this]⟩
  refine call_max_walk (wpAny_pyIter_dict (knd := mixKind X.prog X.w) hsys dat ?_)
  refine ⟨s.heap.objs.size, _, _, _, _, _, _, rfl, Walks.dictKeys (knd := mixKind X.prog X.w) (A := X.A.in1) (I.ok.hd hc) s.heap.objs.size a (Nat.ne_of_lt low) ws ep, ?_, ?_, by omega, CmpOf.ints_gt f val, ?_⟩
  · exact ⟨⟨_, Heap.get?_push_size _ rfl, rfl, rfl⟩, dat.keep fun b u e => Heap.get?_push_of_some _ e⟩
  · intro b hb
    show b < (s.heap.push _).objs.size
    rw [Heap.size_push]
    simp only [List.mem_cons, List.not_mem_nil, or_false] at hb
    rcases hb with e | e
    · rw [e]; exact Nat.lt_succ_self _
    · rw [e]; exact Nat.lt_succ_of_lt low
  · intro v h' tk hv hk
    obtain ⟨t, rfl⟩ := val _ v hv
    obtain ⟨b1, b2⟩ := argBest_gt f (ws.length - 1)
    refine ⟨.int _, H, I.kept (t' := tk) (fun b u e => hk b u (fun hm => ?_) (Heap.get?_push_of_some _ e)), ⟨t, rfl⟩, q _ ?_ ?_⟩
    · have e1 : b = s.heap.objs.size := by simpa using hm
      have e2 := Heap.lt_size e
      rw [e1] at e2
      exact absurd e2 (Nat.lt_irrefl _)
    · have hb : argBest (fun i j => decide (f i > f j)) (ws.length - 1) < is.length := by omega
      show is.getD _ 0 ∈ is
      rw [List.getD_eq_getElem?_getD, List.getElem?_eq_getElem hb]
      exact List.getElem_mem hb
    · intro j hj
      obtain ⟨i, hi, e⟩ := List.mem_iff_getElem.mp hj
      have e2 : f i = j := by show is.getD i 0 = j; rw [List.getD_eq_getElem?_getD, List.getElem?_eq_getElem hi, ← e]; rfl
      rw [← e2]
      exact b2 i (by omega)
end
/-! ### sorted rows -/
abbrev Row3 := Int × Int × Int
def encR (b : Addr × Row3) : PyData := .tuple [.int b.2.1, .int b.2.2.1, .int b.2.2.2]
abbrev leR : Addr × Row3 → Addr × Row3 → Bool := PySem.W.dataLe false encR
def rSortRows (K : PySem.W.Frag) : List V → Hp → VK → Prop := fun vs H Q => ∃ (a : Addr) (bs : List (Addr × Row3)), vs = [V.ref a] ∧ SqL K H a (bs.map fun b => V.ref b.1) ∧
  (∀ b ∈ bs, SqT K H b.1 [.int b.2.1, .int b.2.2.1, .int b.2.2.2]) ∧ ∀ p, H p = none → Q (.ref p) (upd H p (.lst ((bs.mergeSort leR).map fun b => V.ref b.1)))
theorem vals_each {α : Type} (f : α → Addr) : ∀ {bs : List α} {us : List Value}, Vals (bs.map fun b => V.ref (f b)) us → PySem.W.EachIs (fun v b => v = Value.ref (f b)) us bs
  | [], us, h => by cases h; exact .nil
  | b :: bs, us, h => by
    cases h with
    | cons r t => exact .cons r (vals_each f t)
theorem each_vals {α : Type} (f : α → Addr) : ∀ {bs : List α} {us : List Value}, PySem.W.EachIs (fun v b => v = Value.ref (f b)) us bs → Vals (bs.map fun b => V.ref (f b)) us
  | [], us, h => by cases h; exact .nil
  | b :: bs, us, h => by
    cases h with
    | cons r t => exact .cons r (each_vals f t)
theorem each_of {α : Type} {R S : Value → α → Prop} : ∀ {bs : List α} {us : List Value}, PySem.W.EachIs R us bs → (∀ v, ∀ b ∈ bs, R v b → S v b) → PySem.W.EachIs S us bs
  | [], us, h, _ => by cases h; exact .nil
  | b :: bs, us, h, f => by
    cases h with
    | cons r t => exact .cons (f _ b (by simp) r) (each_of t fun v c hc => f v c (by simp [hc]))
section
variable {X : Cx}
theorem cr_sortRows (hu : X.A.units + 64 < cLine) : CallR X (.builtin "sorted") (rSortRows X.K) := by
  intro pins s σ H vs us Q I r ⟨a, bs, hvs, hs, ht, q⟩
  subst hvs
  obtain ⟨its, rv, hl, hz⟩ := I.list hs
  rw [Vals.ref1 r]
  have e0 := vals_each (fun b : Addr × Row3 => b.1) rv
  rw [List.length_map] at hz
  refine PySem.W.sorted_data (enc := encR) (bs := bs) (R := fun v b => v = Value.ref b.1) hl.isList e0 (each_of e0 fun v b hb e => ?_) ?_ ?_ hz (fun b _ => ?_) fun out ho eo => ?_
  · subst e
    obtain ⟨its3, r3, ⟨o, e1, e2, n, e3⟩, _⟩ := I.tuple (ht b hb)
    cases r3 with
    | cons ra r3 =>
      cases r3 with
      | cons rb r3 =>
        cases r3 with
        | cons rc r3 =>
          cases r3
          obtain ⟨ta, rfl⟩ := ra
          obtain ⟨tb, rfl⟩ := rb
          obtain ⟨tc, rfl⟩ := rc
          refine ⟨[] ++ ([] ++ ([] ++ [])), .tuple e1 e2 e3 ?_⟩
          show ReadsAll s.heap [_, _, _] _ _
          exact .cons (.int _ _) (.cons (.int _ _) (.cons (.int _ _) .nil))
  · refine PySem.W.AllAlike.of fun b b' => ?_
    simp [encR, PySem.W.alike, PySem.W.alikeAll]
  · exact PySem.W.Sortable.tuples fun b => ⟨_, _, rfl⟩
  · have : (encR b).depth = 1 := by simp [encR, PyData.depth, PyData.depthAll]
    rw [this]; omega
  · obtain ⟨ep, he'⟩ := PyProof.Rows.sortedAll_at s.heap its out.toArray
    have hlen : (bs.mergeSort leR).length = bs.length := List.length_mergeSort _
    refine ⟨.ref _, upd H (s.heap.objs.size + 1) (.lst ((bs.mergeSort leR).map fun b => V.ref b.1)), I.laid (t' := s.toks) (fun _ _ => PyProof.Rows.sortedAll_old) (Nat.le_succ _) ⟨?_, out, ep, each_vals (fun b : Addr × Row3 => b.1) eo, he'⟩, rfl, q _ (I.hok.fresh (Nat.le_succ _))⟩
    rw [List.length_map, hlen]
    exact hz
end
theorem lex_one_int (x y : Int) : PyProof.Rows.lexLt PyProof.Rows.itemOrd (PySem.W.keyToksAll [.int x]) (PySem.W.keyToksAll [.int y]) = decide (x < y) := by
  by_cases h : x = y
  · subst h
    rw [PySem.W.dataLt_all_yes (by simp only [PySem.W.alike]) (by simp [PyData.eqv])]
    simp [PySem.W.keyToksAll, PyProof.Rows.lexLt, PyProof.Rows.itemLt]
  · rw [PySem.W.dataLt_all_no (by simp only [PySem.W.alike]) (by simp [PyData.eqv, h]), PySem.W.dataLt_int]
theorem lex_int_cons (x y : Int) (xs ys : List PyData) : PyProof.Rows.lexLt PyProof.Rows.itemOrd (PySem.W.keyToksAll (.int x :: xs)) (PySem.W.keyToksAll (.int y :: ys)) =
    if x = y then PyProof.Rows.lexLt PyProof.Rows.itemOrd (PySem.W.keyToksAll xs) (PySem.W.keyToksAll ys) else decide (x < y) := by
  by_cases h : x = y
  · subst h
    rw [if_pos rfl, PySem.W.dataLt_all_yes (by simp only [PySem.W.alike]) (by simp [PyData.eqv])]
  · rw [if_neg h, PySem.W.dataLt_all_no (by simp only [PySem.W.alike]) (by simp [PyData.eqv, h]), PySem.W.dataLt_int]
theorem row_le (x1 x2 x3 y1 y2 y3 : Int) : (!(if y1 = x1 then (if y2 = x2 then decide (y3 < x3) else decide (y2 < x2)) else decide (y1 < x1))) = rowLe (x1, x2, x3) (y1, y2, y3) := by
  unfold rowLe
  by_cases h1 : y1 = x1
  · subst h1
    rw [if_pos rfl]
    by_cases h2 : y2 = x2
    · subst h2
      rw [if_pos rfl]
      by_cases h3 : y3 < x3
      · have h4 : ¬ x3 ≤ y3 := by omega
        simp [h3, h4]
      · have h4 : x3 ≤ y3 := by omega
        simp [h4]
    · rw [if_neg h2]
      by_cases h3 : y2 < x2
      · have h4 : ¬ x2 < y2 := by omega
        have h5 : ¬ x2 = y2 := by omega
        simp [h3, h4, h5]
      · have h4 : x2 < y2 := by omega
        simp [h3, h4]
  · rw [if_neg h1]
    by_cases h3 : y1 < x1
    · have h4 : ¬ x1 < y1 := by omega
      have h5 : ¬ x1 = y1 := by omega
      simp [h3, h4, h5]
    · have h4 : x1 < y1 := by omega
      simp [h3, h4]
theorem leR_eq (a b : Addr × Row3) : leR a b = rowLe a.2 b.2 := by
  unfold leR
  rw [PySem.W.dataLe_eq]
  show (!PySem.W.dataLt (encR b) (encR a)) = _
  unfold encR
  rw [PySem.W.dataLt_tuple, lex_int_cons, lex_int_cons, lex_one_int]
  exact row_le _ _ _ _ _ _
end Bw

/-! list(zip(a, b)) of two lists -/
namespace Bw
open PySem PySem.Spec PyProof.Rows L2
theorem zip_no_len : typeLookup (.type "zip") "__len__" = pure none := am_miss_of_fast (by decide +kernel)
theorem zip_no_hint : typeLookup (.type "zip") "__length_hint__" = pure none := am_miss_of_fast (by decide +kernel)
structure ZSt (h : Heap) (z TI TO i1 i2 l1 l2 S : Addr) (xs ys : Array Value) (k : Nat) : Prop where
  ti : IsPair h TI (.ref i1) (.ref i2)
  h1 : h.IsListIter i1 l1 k
  h2 : h.IsListIter i2 l2 k
  hl1 : h.IsList l1 xs
  hl2 : h.IsList l2 ys
  own : (IsZip h z TI TO .none ∧ ∃ a b, IsPair h TO a b) ∨ ∃ T f oT, IsZipHeld h z TI TO T f ∧ h.get? T = some oT ∧ T ≠ z ∧ T ≠ i1 ∧ T ≠ i2 ∧ T ≠ S
/-- the list S stands apart from what zip turns -/
structure ZOff (z TI TO i1 i2 l1 l2 S : Addr) : Prop where
  z : z ≠ S
  TI : TI ≠ S
  TO : TO ≠ S
  i1 : i1 ≠ S
  i2 : i2 ≠ S
  l1 : l1 ≠ S
  l2 : l2 ≠ S
theorem ZSt.zip {h : Heap} {z TI TO i1 i2 l1 l2 S : Addr} {xs ys : Array Value} {k : Nat} (x : ZSt h z TI TO i1 i2 l1 l2 S xs ys k) : ∃ f0 f1, h.get? z = some { cls := .type "zip", dict := none, data := .fields #[f0, f1, .bool false, .ref TI, .ref TO], slots := #[] } := by
  rcases x.own with ⟨e, _⟩ | ⟨T, f, oT, e, _⟩
  · exact ⟨_, _, e⟩
  · exact ⟨_, _, e⟩
/-- where S alone changes -/
theorem ZSt.but {h h' : Heap} {z TI TO i1 i2 l1 l2 S : Addr} {xs ys : Array Value} {k : Nat} (x : ZSt h z TI TO i1 i2 l1 l2 S xs ys k) (F : ZOff z TI TO i1 i2 l1 l2 S) (kp : ∀ b o, b ≠ S → h.get? b = some o → h'.get? b = some o) : ZSt h' z TI TO i1 i2 l1 l2 S xs ys k := by
  obtain ⟨ti, h1, h2, hl1, hl2, own⟩ := x
  refine ⟨kp _ _ F.TI ti, h1.at fun o e => kp _ o F.i1 e, h2.at fun o e => kp _ o F.i2 e, hl1.at fun o e => kp _ o F.l1 e, hl2.at fun o e => kp _ o F.l2 e, ?_⟩
  rcases own with ⟨e, a, b, e2⟩ | ⟨T, f, oT, e, e2, q⟩
  · exact .inl ⟨kp _ _ F.z e, a, b, kp _ _ F.TO e2⟩
  · exact .inr ⟨T, f, oT, kp _ _ F.z e, kp _ _ q.2.2.2 e2, q⟩
section
variable {prog : Program} {w : World} {A : Around} {E : Value → Shared → Prop} {s : Shared} {z TI TO i1 i2 l1 l2 S : Addr} {xs ys : Array Value} {k : Nat}
theorem zs_next {u v : Value} {Q : Option Value → Shared → Prop} (D : ZipApart z TI TO i1 i2 l1 l2) (hS : S < s.heap.objs.size) (x : ZSt s.heap z TI TO i1 i2 l1 l2 S xs ys k) (hx : xs[k]? = some u) (hy : ys[k]? = some v)
    (hQ : ∀ h', ZSt h' z TI TO i1 i2 l1 l2 S xs ys (k + 1) → IsPair h' s.heap.objs.size u v → h'.objs.size = s.heap.objs.size + 1 →
      (∀ c o, c ≠ z → c ≠ TO → c ≠ i1 → c ≠ i2 → s.heap.get? c = some o → h'.get? c = some o) → Q (some (.ref s.heap.objs.size)) { s with heap := h' }) :
    wpAny (model prog w) A (pyNext (.ref z)) Q E s := by
  obtain ⟨ti, h1, h2, hl1, hl2, own⟩ := x
  have n1 : s.heap.objs.size ≠ i1 := by obtain ⟨_, e, _⟩ := h1; exact Nat.ne_of_gt (Heap.lt_size e)
  have n2 : s.heap.objs.size ≠ i2 := by obtain ⟨_, e, _⟩ := h2; exact Nat.ne_of_gt (Heap.lt_size e)
  have nS : s.heap.objs.size ≠ S := Nat.ne_of_gt hS
  rcases own with ⟨hz, a, b, hTO⟩ | ⟨T, f, oT, hz, hT, t1, t2, t3, t4⟩
  · refine wpAny_pyNext_zip_item D hz ti hTO h1 h2 hl1 hl2 hx hy fun h' a1 a2 a3 a4 a5 a6 kp => ?_
    refine hQ h' ⟨kp _ _ D.TIz D.TITO D.TIi1 D.TIi2 ti, a3, a4, hl1.at fun o e => kp _ o D.l1z D.l1TO D.l1i1 D.l1i2 e, hl2.at fun o e => kp _ o D.l2z D.l2TO D.l2i1 D.l2i2 e, .inr ⟨_, false, _, a1, a5, ?_, n1, n2, nS⟩⟩ a5 a6 kp
    exact Nat.ne_of_gt (Heap.lt_size hz)
  · refine wpAny_pyNext_zip_item_held D hz hT ti h1 h2 hl1 hl2 hx hy fun h' a1 a3 a4 a5 a6 kp => ?_
    exact hQ h' ⟨kp _ _ D.TIz D.TIi1 D.TIi2 ti, a3, a4, hl1.at fun o e => kp _ o D.l1z D.l1i1 D.l1i2 e, hl2.at fun o e => kp _ o D.l2z D.l2i1 D.l2i2 e, .inr ⟨T, true, oT, a1, kp _ _ t1 t2 t3 hT, t1, t2, t3, t4⟩⟩ a5 a6
      fun c o c1 _ c3 c4 e => kp c o c1 c3 c4 e
theorem zs_end {Q : Option Value → Shared → Prop} (hh : A.handled = none) (D : ZipApart z TI TO i1 i2 l1 l2) (x : ZSt s.heap z TI TO i1 i2 l1 l2 S xs ys k) (he : xs[k]? = none ∨ ys[k]? = none)
    (hQ : ∀ h', (∀ c o, c ≠ z → c ≠ TO → c ≠ i1 → c ≠ i2 → s.heap.get? c = some o → h'.get? c = some o) → Q none { s with heap := h' }) :
    wpAny (model prog w) A (pyNext (.ref z)) Q E s := by
  obtain ⟨ti, h1, h2, hl1, hl2, own⟩ := x
  rcases own with ⟨hz, a, b, hTO⟩ | ⟨T, f, oT, hz, hT, t1, t2, t3, t4⟩
  · exact wpAny_pyNext_zip_end hh D hz ti hTO h1 h2 hl1 hl2 he hQ
  · exact wpAny_pyNext_zip_end_held hh D hz hT ti h1 h2 hl1 hl2 he fun h' kp => hQ h' fun c o c1 _ c3 c4 e => kp c o c1 c3 c4 e
end
/-- the tuples made so far -/
structure ZMade (lo : Addr) (xs ys : Array Value) (h : Heap) (ts : List Addr) : Prop where
  nd : ts.Nodup
  above : ∀ a ∈ ts, lo ≤ a
  pairs : ∀ (j : Nat) (a : Addr), ts[j]? = some a → ∃ u v, xs[j]? = some u ∧ ys[j]? = some v ∧ IsPair h a u v
theorem ZMade.there {lo : Addr} {xs ys : Array Value} {h : Heap} {ts : List Addr} (g : ZMade lo xs ys h ts) {a : Addr} (ha : a ∈ ts) : a < h.objs.size := by
  obtain ⟨j, hj⟩ := List.mem_iff_getElem?.mp ha
  obtain ⟨_, _, _, _, e⟩ := g.pairs j a hj
  exact Heap.lt_size e
section
variable {prog : Program} {w : World} {A : Around} {s : Shared} {R : Result → Shared → Prop} {z TI TO i1 i2 l1 l2 S lo : Addr} {xs ys : Array Value} {n : Nat}
theorem zs_loop (hh : A.handled = none) (D : ZipApart z TI TO i1 i2 l1 l2) (F : ZOff z TI TO i1 i2 l1 l2 S) (hn : n = min xs.size ys.size) (hz : n ≤ sizeLine) (b1 : z < lo) (b2 : TO < lo) (b3 : i1 < lo) (b4 : i2 < lo) (b5 : S < lo) (res : Value) {h₁ : Heap}
    (hR : ∀ h' tk acc c ts, (∀ b o, b ≠ S → b ≠ z → b ≠ TO → b ≠ i1 → b ≠ i2 → h₁.get? b = some o → h'.get? b = some o) → h'.get? S = some { cls := .type "list", dict := none, data := .seq acc c, slots := #[] } → ts.length = n → ZMade lo xs ys h' ts →
      acc.toList = ts.map Value.ref → R (.ok (.ret res)) { s with heap := h', toks := tk }) :
    ∀ (j k : Nat) (h : Heap) (tk c : Nat) (acc : Array Value) (ts : List Addr), n - k = j → k ≤ n → ZSt h z TI TO i1 i2 l1 l2 S xs ys k → (∀ b o, b ≠ S → b ≠ z → b ≠ TO → b ≠ i1 → b ≠ i2 → h₁.get? b = some o → h.get? b = some o) →
      h.get? S = some { cls := .type "list", dict := none, data := .seq acc c, slots := #[] } → acc.toList = ts.map Value.ref → ts.length = k → ZMade lo xs ys h ts → lo ≤ h.objs.size →
      codeAny (model prog w) A (.builtin "list.extend.loop" ⟨[.ref S, .ref z, res], []⟩) R { s with heap := h, toks := tk } := by
  intro j
  induction j with
  | zero =>
    intro k h tk c acc ts hj hk hst kp hS hacc hl G hlo
    refine codeAny_builtin PySem.F.entry_extend_loop ?_
    rw [Around.under_plainId PySem.F.plain_extend_loop _]
    show wpAny _ A.in1 (pyNext (.ref z) >>= _) _ _ _
    have he : xs[k]? = none ∨ ys[k]? = none := by
      rcases Nat.le_total xs.size ys.size with q | q
      · exact .inl (Array.getElem?_eq_none (by omega))
      · exact .inr (Array.getElem?_eq_none (by omega))
    refine wpAny_bind (zs_end (s := { s with heap := h, toks := tk }) (A := A.in1) hh D hst he fun h' kp' => ?_)
    refine wpAny_pure (hR h' tk acc c ts (fun b o c0 c1 c2 c3 c4 e => kp' b o c1 c2 c3 c4 (kp b o c0 c1 c2 c3 c4 e)) (kp' S _ F.z.symm F.TO.symm F.i1.symm F.i2.symm hS) (by omega) ⟨G.nd, G.above, fun i a hi => ?_⟩ hacc)
    obtain ⟨u, v, e1, e2, e3⟩ := G.pairs i a hi
    have la := G.above a (List.mem_of_getElem? hi)
    exact ⟨u, v, e1, e2, kp' a _ (Nat.ne_of_gt (Nat.lt_of_lt_of_le b1 la)) (Nat.ne_of_gt (Nat.lt_of_lt_of_le b2 la)) (Nat.ne_of_gt (Nat.lt_of_lt_of_le b3 la)) (Nat.ne_of_gt (Nat.lt_of_lt_of_le b4 la)) e3⟩
  | succ j ih =>
    intro k h tk c acc ts hj hk hst kp hS hacc hl G hlo
    have hlt : k < n := by omega
    have hsz : acc.size = k := by rw [← Array.length_toList, hacc, List.length_map, hl]
    have hx : xs[k]? = some (xs[k]'(by omega)) := Array.getElem?_eq_getElem _
    have hy : ys[k]? = some (ys[k]'(by omega)) := Array.getElem?_eq_getElem _
    have hSl : S < h.objs.size := Heap.lt_size hS
    refine codeAny_builtin PySem.F.entry_extend_loop ?_
    rw [Around.under_plainId PySem.F.plain_extend_loop _]
    show wpAny _ A.in1 (pyNext (.ref z) >>= _) _ _ _
    refine wpAny_bind (zs_next (s := { s with heap := h, toks := tk }) D hSl hst hx hy fun h' hst' hp hs1 kp' => ?_)
    dsimp only at hp hs1 kp' ⊢
    have hS' := kp' S _ F.z.symm F.TO.symm F.i1.symm F.i2.symm hS
    have up : ∀ b o, b ≠ S → h'.get? b = some o → (h'.update S (Obj.mapSeq (·.push (Value.ref h.objs.size)))).get? b = some o := fun b o hb e => (Heap.get?_update_other _ _ (Ne.symm hb)).trans e
    show wpAny _ A.in1 (updateSeq S (·.push (Value.ref h.objs.size)) >>= _) _ _ _
    refine wpAny_bind ?_
    have nS : h.objs.size ≠ S := Nat.ne_of_gt hSl
    have G' : ZMade lo xs ys (h'.update S (Obj.mapSeq (·.push (Value.ref h.objs.size)))) (ts ++ [h.objs.size]) := by
      refine ⟨?_, ?_, ?_⟩
      · rw [List.nodup_append]
        refine ⟨G.nd, by simp, fun a ha b hb e => ?_⟩
        rw [List.mem_singleton] at hb
        subst hb
        subst e
        exact absurd (G.there ha) (Nat.lt_irrefl _)
      · intro a ha
        rcases List.mem_append.mp ha with ha | ha
        · exact G.above a ha
        · rw [List.mem_singleton.mp ha]; exact hlo
      · intro i a hi
        rcases Nat.lt_or_ge i ts.length with q | q
        · rw [List.getElem?_append_left q] at hi
          obtain ⟨u, v, e1, e2, e3⟩ := G.pairs i a hi
          have la := G.above a (List.mem_of_getElem? hi)
          exact ⟨u, v, e1, e2, up a _ (Nat.ne_of_gt (Nat.lt_of_lt_of_le b5 la)) (kp' a _ (Nat.ne_of_gt (Nat.lt_of_lt_of_le b1 la)) (Nat.ne_of_gt (Nat.lt_of_lt_of_le b2 la)) (Nat.ne_of_gt (Nat.lt_of_lt_of_le b3 la)) (Nat.ne_of_gt (Nat.lt_of_lt_of_le b4 la)) e3)⟩
        · rw [List.getElem?_append_right q] at hi
          have i0 : i - ts.length = 0 := by
            rcases Nat.eq_zero_or_pos (i - ts.length) with q2 | q2
            · exact q2
            · rw [List.getElem?_eq_none (by simp; omega)] at hi
              cases hi
          rw [i0] at hi
          have ea : h.objs.size = a := Option.some.inj hi
          subst ea
          have ik : i = k := by omega
          subst ik
          exact ⟨_, _, hx, hy, up _ _ nS hp⟩
    refine wpAny_updateSeq hS' rfl (wpAny_pure ⟨plainId_quiet PySem.F.plain_extend_loop _, ih (k + 1) _ tk _ (acc.push (Value.ref h.objs.size)) (ts ++ [h.objs.size]) (by omega) hlt (hst'.but F up)
      (fun b o c0 c1 c2 c3 c4 e => up b o c0 (kp' b o c1 c2 c3 c4 (kp b o c0 c1 c2 c3 c4 e))) (Heap.get?_update_self _ hS' rfl) (by rw [Array.toList_push, hacc, List.map_append]; rfl) (by rw [List.length_append, hl]; rfl) G' ?_⟩) (by rw [hsz]; omega)
      (by show (acc.push (Value.ref h.objs.size)).size ≤ sizeLine + 1; rw [Array.size_push, hsz]; omega)
    have e := G'.there (List.mem_append_right _ (List.mem_singleton.mpr rfl))
    exact Nat.le_trans hlo (Nat.le_of_lt e)
end
section
variable {prog : Program} {w : World} {A : Around} {E : Value → Shared → Prop} {s : Shared} {z TI TO i1 i2 l1 l2 : Addr} {xs ys : Array Value}
/-- list(z), z a fresh zip of two lists -/
theorem call_list_zip {Q : Value → Shared → Prop} (hh : A.handled = none) (D : ZipApart z TI TO i1 i2 l1 l2) (hz : IsZip s.heap z TI TO .none) (hTI : IsPair s.heap TI (.ref i1) (.ref i2)) {a0 b0 : Value} (hTO : IsPair s.heap TO a0 b0)
    (h1 : s.heap.IsListIter i1 l1 0) (h2 : s.heap.IsListIter i2 l2 0) (hl1 : s.heap.IsList l1 xs) (hl2 : s.heap.IsList l2 ys) (hn : min xs.size ys.size ≤ sizeLine)
    (hQ : ∀ h' tk acc c ts, (∀ b o, b ≠ z → b ≠ TO → b ≠ i1 → b ≠ i2 → s.heap.get? b = some o → h'.get? b = some o) → h'.get? s.heap.objs.size = some { cls := .type "list", dict := none, data := .seq acc c, slots := #[] } → ts.length = min xs.size ys.size →
      ZMade (s.heap.objs.size + 1) xs ys h' ts → acc.toList = ts.map Value.ref → Q (.ref s.heap.objs.size) { s with heap := h', toks := tk }) :
    wpAny (model prog w) A (call (.type "list") [.ref z]) Q E s := by
  have lz : z < s.heap.objs.size := Heap.lt_size hz
  have lTI : TI < s.heap.objs.size := Heap.lt_size hTI
  have lTO : TO < s.heap.objs.size := Heap.lt_size hTO
  have li1 : i1 < s.heap.objs.size := by obtain ⟨_, e, _⟩ := h1; exact Heap.lt_size e
  have li2 : i2 < s.heap.objs.size := by obtain ⟨_, e, _⟩ := h2; exact Heap.lt_size e
  have ll1 : l1 < s.heap.objs.size := by obtain ⟨_, e, _⟩ := hl1; exact Heap.lt_size e
  have ll2 : l2 < s.heap.objs.size := by obtain ⟨_, e, _⟩ := hl2; exact Heap.lt_size e
  have FF : ZOff z TI TO i1 i2 l1 l2 s.heap.objs.size := ⟨Nat.ne_of_lt lz, Nat.ne_of_lt lTI, Nat.ne_of_lt lTO, Nat.ne_of_lt li1, Nat.ne_of_lt li2, Nat.ne_of_lt ll1, Nat.ne_of_lt ll2⟩
  refine callType_codes (Q₁ := fun obj s₁ => obj = .ref s.heap.objs.size ∧ s₁ = { s with heap := s.heap.push { cls := .type "list", data := .seq #[] } }) PySem.F.called_list (PySem.F.typeCall_list_1 _) PySem.F.entry_list_init
    (code_list_new _ ⟨rfl, rfl⟩) fun obj s₁ h₁ => ?_
  obtain ⟨rfl, rfl⟩ := h₁
  have hS : (s.heap.push { cls := .type "list", data := .seq #[] }).get? s.heap.objs.size = some { cls := .type "list", data := .seq #[] } := Heap.get?_push_size _ rfl
  have st0 : ZSt s.heap z TI TO i1 i2 l1 l2 s.heap.objs.size xs ys 0 := ⟨hTI, h1, h2, hl1, hl2, .inl ⟨hz, a0, b0, hTO⟩⟩
  refine ⟨⟨_, hS, rfl⟩, PySem.F.args_list_init_2 _ _, ?_⟩
  show wpAny _ _ (do let old ← Builtin.List.listItems (.ref s.heap.objs.size); Builtin.List.listUpdate (.ref s.heap.objs.size) (fun _ => #[]); letGo old.toList.reverse; Builtin.List.listExtendWith (.ref s.heap.objs.size) (.ref z) .none) _ _ _
  refine wpAny_bind ?_
  unfold Builtin.List.listItems
  refine wpAny_bind (wpAny_seqItems hS rfl (wpAny_pure ?_))
  show wpAny _ _ (updateSeq s.heap.objs.size (fun _ => #[]) >>= fun _ => letGo (#[] : Array Value).toList.reverse >>= fun _ => Builtin.List.listExtendWith (.ref s.heap.objs.size) (.ref z) .none) _ _ _
  refine wpAny_bind (wpAny_updateSeq hS rfl ?_)
  have hS₂ := Heap.get?_update_self (Obj.mapSeq (fun _ => (#[] : Array Value))) hS rfl
  have k2 : ∀ b o, s.heap.get? b = some o → ((s.heap.push { cls := .type "list", data := .seq #[] }).update s.heap.objs.size (Obj.mapSeq (fun _ => (#[] : Array Value)))).get? b = some o := fun b o e =>
    (Heap.get?_update_other _ _ (Nat.ne_of_gt (Heap.lt_size e))).trans (Heap.get?_push_of_some _ e)
  generalize (s.heap.push { cls := .type "list", data := .seq #[] }).update s.heap.objs.size (Obj.mapSeq (fun _ => (#[] : Array Value))) = g2 at hS₂ k2 ⊢
  refine wpAny_bind (wpAny_letGo ?_)
  unfold Builtin.List.listExtendWith
  refine wpAny_bind (wpAny_typeOf (T := "zip") ⟨_, k2 _ _ hz, rfl⟩ ?_)
  have q1 : Builtin.List.listSameRef (.ref s.heap.objs.size) (.ref z) = false := by simp [Builtin.List.listSameRef, Ne.symm FF.z]
  have q2 : (Value.type "zip" == Value.type "list") = false := by decide
  have q3 : (Value.type "zip" == Value.type "tuple") = false := by decide
  simp only [q1, q2, q3, Bool.or_false, Bool.false_eq_true, if_false]
  refine wpAny_bind (wpAny_pyIter_zip (k2 _ _ hz) ?_)
  refine wpAny_bind (wpAny_holding ?_)
  unfold Builtin.List.listLengthHint
  have tz : ∀ g : Heap, (∀ b o, s.heap.get? b = some o → g.get? b = some o) → ∀ tk, ({ s with heap := g, toks := tk } : Shared).TypeIs (.ref z) "zip" := fun g kg tk => ⟨_, kg _ _ hz, rfl⟩
  refine wpAny_bind (wpAny_specialOf (tz _ k2 _) zip_no_len ?_)
  show wpAny _ _ (specialOf (Value.ref z) (Str.ofString "__length_hint__") >>= _) _ _ _
  refine wpAny_bind (wpAny_specialOf (tz _ k2 _) zip_no_hint ?_)
  refine wpAny_pure ?_
  show wpAny _ _ (rule "list.extend.makes-room" >>= fun _ => Builtin.List.listTouch (.ref s.heap.objs.size) >>= fun _ =>
    again (.builtin "list.extend.loop" ⟨[.ref s.heap.objs.size, .ref z, .none], []⟩)) _ _ _
  refine wpAny_bind (wpAny_rule ?_)
  refine wpAny_bind ?_
  show wpAny _ _ (updateSeq s.heap.objs.size (·.push .none) >>= fun _ => updateSeq s.heap.objs.size (·.pop)) _ _ _
  refine wpAny_bind (wpAny_updateSeq hS₂ rfl ?_)
  have hS₃ := Heap.get?_update_self (Obj.mapSeq (·.push Value.none)) hS₂ rfl
  refine wpAny_updateSeq (hz := by seq_fits) hS₃ rfl ?_
  have hS₄ := Heap.get?_update_self (Obj.mapSeq (·.pop)) hS₃ rfl
  have k4 : ∀ b o, s.heap.get? b = some o → ((g2.update s.heap.objs.size (Obj.mapSeq (·.push Value.none))).update s.heap.objs.size (Obj.mapSeq (·.pop))).get? b = some o := fun b o e =>
    (Heap.get?_update_other _ _ (Nat.ne_of_gt (Heap.lt_size e))).trans ((Heap.get?_update_other _ _ (Nat.ne_of_gt (Heap.lt_size e))).trans (k2 b o e))
  have lo4 : s.heap.objs.size + 1 ≤ ((g2.update s.heap.objs.size (Obj.mapSeq (·.push Value.none))).update s.heap.objs.size (Obj.mapSeq (·.pop))).objs.size := Heap.lt_size hS₄
  have key := zs_loop (prog := prog) (w := w) (A := A.in1) (R := fun q s' => q = .ok (.ret .none) ∧ Q (.ref s.heap.objs.size) s') (s := s) (h₁ := s.heap) (n := min xs.size ys.size) (lo := s.heap.objs.size + 1) hh D FF rfl hn (Nat.lt_succ_of_lt lz) (Nat.lt_succ_of_lt lTO) (Nat.lt_succ_of_lt li1) (Nat.lt_succ_of_lt li2) (Nat.lt_succ_self _) .none
    (fun h' tk acc c ts kp hS' hl G hacc => ⟨rfl, hQ h' tk acc c ts (fun b o c1 c2 c3 c4 e => kp b o (Nat.ne_of_lt (Heap.lt_size e)) c1 c2 c3 c4 e) hS' hl G hacc⟩) _ 0 ((g2.update s.heap.objs.size (Obj.mapSeq (·.push Value.none))).update s.heap.objs.size (Obj.mapSeq (·.pop))) s.toks _ #[] [] (Nat.sub_zero _) (Nat.zero_le _)
    (st0.but FF fun b o _ e => k4 b o e) (fun b o _ _ _ _ _ e => k4 b o e) hS₄ rfl rfl ⟨List.nodup_nil, (fun _ h => nomatch h), fun j a h => by simp at h⟩ lo4
  refine wpAny_pure ⟨plainId_quiet PySem.F.plain_extend_loop _, codeAny_mono key fun q s' hq => ?_⟩
  obtain ⟨rfl, hq⟩ := hq
  exact ⟨rfl, hq⟩
end
end Bw

/-! several new objects at once; list(zip(a, b)) as an expression -/
namespace Bw
open PySem PySem.Spec PyProof.Rows L2
def putH (H : Hp) : List (Addr × HO) → Hp
  | [] => H
  | p :: L => upd (putH H L) p.1 p.2
theorem putH_off {H : Hp} {b : Addr} : ∀ {L : List (Addr × HO)}, b ∉ L.map Prod.fst → putH H L b = H b
  | [], _ => rfl
  | p :: L, h => by
    rw [List.map_cons, List.mem_cons, not_or] at h
    show upd (putH H L) p.1 p.2 b = H b
    rw [upd_ne h.1, putH_off h.2]
theorem putH_at {H : Hp} : ∀ {L : List (Addr × HO)} {p : Addr × HO}, (L.map Prod.fst).Nodup → p ∈ L → putH H L p.1 = some p.2
  | q :: L, p, nd, h => by
    rw [List.map_cons, List.nodup_cons] at nd
    show upd (putH H L) q.1 q.2 p.1 = some p.2
    rcases List.mem_cons.mp h with e | h
    · subst e; exact upd_same
    · have ne : p.1 ≠ q.1 := fun e => nd.1 (by rw [← e]; exact List.mem_map.mpr ⟨p, h, rfl⟩)
      rw [upd_ne ne]
      exact putH_at nd.2 h
section
variable {X : Cx} {pins : List (Addr × Obj)} {σ : L2.St} {H : Hp} {s : Shared} {h' : Heap} {t' : Nat}
theorem laidL {L : List (Addr × HO)} (I : Inv X pins σ H s) (k : ∀ b o, s.heap.get? b = some o → h'.get? b = some o) (nd : (L.map Prod.fst).Nodup) (hp : ∀ p ∈ L, s.heap.objs.size ≤ p.1)
    (new : ∀ p ∈ L, ObjOk X.prog X.w (putH H L) h' p.1 p.2) : Inv X pins σ (putH H L) { s with heap := h', toks := t' } := by
  have low : ∀ b o, s.heap.get? b = some o → b ∉ L.map Prod.fst := fun b o e hm => by
    obtain ⟨p, h1, h2⟩ := List.mem_map.mp hm
    have := hp p h1
    rw [h2] at this
    exact absurd (Nat.lt_of_lt_of_le (Heap.lt_size e) this) (Nat.lt_irrefl _)
  have lowH : ∀ b u, H b = some u → b ∉ L.map Prod.fst := fun b u e hm => by
    obtain ⟨p, h1, h2⟩ := List.mem_map.mp hm
    have := hp p h1
    rw [h2] at this
    exact absurd (Nat.lt_of_lt_of_le (I.hok.lt e) this) (Nat.lt_irrefl _)
  have kp : ∀ b u, H b = some u → putH H L b = some u := fun b u e => by rw [putH_off (lowH b u e)]; exact e
  refine I.call' (ch := []) rfl ⟨fun b o q _ _ _ => k b o q, fun b o q _ _ _ => ⟨o.slots, k b o q⟩, fun b o q n _ => ?_, fun b o q _ => ⟨o, k b o q⟩, fun b xs q => kp b _ q, fun b o u q => kp b _ q, fun b ps q => ⟨#[], by rw [kp b _ q]; simp⟩⟩ (fun b u q => ?_) I.bare fun b z => by simp at z
  · rw [putH_off (low b o q)]; exact n
  · by_cases hb : b ∈ L.map Prod.fst
    · obtain ⟨p, h1, h2⟩ := List.mem_map.mp hb
      subst h2
      rw [putH_at nd h1] at q
      cases q
      exact new p h1
    · rw [putH_off hb] at q
      exact (I.hok b u q).stay (fun c v _ z => k c v z) (fun c z => kp c _ z) fun c xs z => kp c _ z
end
theorem vals_refs2 : ∀ as : List Addr, Vals (as.map V.ref) (as.map Value.ref)
  | [] => .nil
  | _ :: as => .cons rfl (vals_refs2 as)
structure LtA (a n : Nat) : Prop where
  lt : a < n
theorem LtA.ne_add {a n : Nat} (h : LtA a n) (k : Nat) : a ≠ n + k := by have := h.lt; omega
theorem ne_nat {a b : Nat} (h : a < b ∨ b < a) : a ≠ b := by omega
theorem apart5 {n a b : Nat} (h1 : a < n) (h2 : b < n) : ZipApart (n + 4) (n + 2) (n + 3) n (n + 1) a b := by
  constructor <;> exact ne_nat (by omega)
def tLZ (K : PySem.W.Frag) (t : TA) : TE := fun σ H Q => t σ H fun vs H2 => ∃ (a b : Addr) (xs ys : List V), vs = [.ref a, .ref b] ∧ SqL K H2 a xs ∧ SqL K H2 b ys ∧
  ∀ (H' : Hp) (p : Addr) (ts : List Addr), Same H2 H' → H2 p = none → ts.length = min xs.length ys.length → H' p = some (.lst (ts.map V.ref)) →
    (∀ (j : Nat) (t : Addr), ts[j]? = some t → ∃ u v, xs[j]? = some u ∧ ys[j]? = some v ∧ H' t = some (.tup [u, v])) → Q (.ref p) H'
theorem boot_zip2 : bootBuiltins "zip" = some (.type "zip") := by decide +kernel
theorem boot_list2 : bootBuiltins "list" = some (.type "list") := by decide +kernel
section
variable {X : Cx} {p1 p2 pos pos2 : Pos} {e1 e2 : Expr} {t : TA}
theorem pe_listZip (hc : X.calm = true) (hg1 : Gl X "list") (hm1 : X.mg "list" = none) (hg2 : Gl X "zip") (hm2 : X.mg "zip" = none) (ha : PA X [e1, e2] t)
    (hs1 : starEach [.Call (.Name "zip" p2) [e1, e2] [] pos2] X.env = (false, eval (.Call (.Name "zip" p2) [e1, e2] [] pos2) X.env) :: starEach [] X.env := by rfl) (hpl1 : (backTo pos (starEach [] X.env)).any (·.1) = false := by rfl)
    (hs2 : starEach [e1, e2] X.env = (false, eval e1 X.env) :: starEach [e2] X.env := by rfl) (hpl2 : (backTo pos2 (starEach [e2] X.env)).any (·.1) = false := by rfl) :
    PE X (.Call (.Name "list" p1) [.Call (.Name "zip" p2) [e1, e2] [] pos2] [] pos) (tLZ X.K t) := by
  refine ⟨fun pins s σ H Q I h => ?_⟩
  refine wpAny_Call_Name_kw (ld_blt I hg1 hm1 boot_list2 ?_ (by decide) (by decide))
  refine PyProof.Rows.callWith_type1 ?_ hs1 hpl1
  rw [hs1]
  show wpAny _ _ (spliced ((false, eval (.Call (.Name "zip" p2) [e1, e2] [] pos2) X.env) :: backTo pos (starEach [] X.env))) _ _ s
  refine Calls.spliced_cons (wpAny_Call_Name_kw (ld_blt I hg2 hm2 boot_zip2 ?_ (by decide) (by decide)))
  refine PyProof.Rows.callWith_type1 (thn (ha.run pos2 pins s σ H _ I h) fun us s1 hh => ?_) hs2 hpl2
  obtain ⟨vs, H2, I2, r, a, b, xs, ys, ev, sa, sb, q⟩ := hh
  subst ev
  obtain ⟨u1, u2, rfl, r1, r2⟩ := vals2 r
  obtain rfl : u1 = Value.ref a := r1
  obtain rfl : u2 = Value.ref b := r2
  obtain ⟨its, va, pa, za⟩ := I2.list sa
  obtain ⟨its2, vb, pb, zb⟩ := I2.list sb
  have l1 : a < s1.heap.objs.size := by obtain ⟨_, _, e, _⟩ := pa; exact Heap.lt_size e
  have l2 : b < s1.heap.objs.size := by obtain ⟨_, _, e, _⟩ := pb; exact Heap.lt_size e
  have len1 := va.length
  have len2 := vb.length
  refine call_zip_2 pa.isList pb.isList fun h' hz hTI hTO h1 h2 hsz kp => ?_
  refine Calls.spliced_nil ?_
  have D : ZipApart (s1.heap.objs.size + 4) (s1.heap.objs.size + 2) (s1.heap.objs.size + 3) s1.heap.objs.size (s1.heap.objs.size + 1) a b := by
    exact apart5 l1 l2
  have hl1 : h'.IsList a its.toArray := pa.isList.at fun o e => kp a o e
  have hl2 : h'.IsList b its2.toArray := pb.isList.at fun o e => kp b o e
  refine call_list_zip (s := { s1 with heap := h' }) (I2.ok.hd hc) D hz hTI hTO h1 h2 hl1 hl2 (by rw [List.size_toArray, List.size_toArray]; omega) fun h'' tk acc c ts kp' hS hl G hacc => ?_
  have hS1 : h''.get? h'.objs.size = some { cls := .type "list", dict := none, data := .seq acc c, slots := #[] } := hS
  have G1 : ZMade (h'.objs.size + 1) its.toArray its2.toArray h'' ts := G
  have hl1' : ts.length = min its.toArray.size its2.toArray.size := hl
  rw [List.size_toArray, List.size_toArray] at hl1'
  -- the tuples' contents
  have got : ∀ (j : Nat) (t : Addr), ts[j]? = some t → ∃ x y u v, xs[j]? = some x ∧ ys[j]? = some y ∧ RelV x u ∧ RelV y v ∧ IsPair h'' t u v := fun j t hj => by
    obtain ⟨u, v, e1, e2, e3⟩ := G1.pairs j t hj
    rw [List.getElem?_toArray] at e1 e2
    have lj1 : j < xs.length := by rw [len1]; exact (List.getElem?_eq_some_iff.mp e1).1
    have lj2 : j < ys.length := by rw [len2]; exact (List.getElem?_eq_some_iff.mp e2).1
    obtain ⟨u', eu, ru⟩ := va.get (List.getElem?_eq_getElem lj1)
    obtain ⟨v', ev, rv⟩ := vb.get (List.getElem?_eq_getElem lj2)
    rw [e1] at eu; cases eu
    rw [e2] at ev; cases ev
    exact ⟨_, _, u, v, List.getElem?_eq_getElem lj1, List.getElem?_eq_getElem lj2, ru, rv, e3⟩
  -- what is laid: the list, the tuples
  let L : List (Addr × HO) := (h'.objs.size, .lst (ts.map V.ref)) :: ts.zipIdx.map fun p => (p.1, .tup [xs.getD p.2 .non, ys.getD p.2 .non])
  have fst : L.map Prod.fst = h'.objs.size :: ts := by
    show h'.objs.size :: ((ts.zipIdx.map fun p => ((p.1, .tup [xs.getD p.2 .non, ys.getD p.2 .non]) : Addr × HO)).map Prod.fst) = _
    rw [List.map_map]
    congr 1
    exact List.zipIdx_map_fst 0 ts
  have abv : ∀ a ∈ ts, h'.objs.size + 1 ≤ a := G1.above
  have nd : (L.map Prod.fst).Nodup := by
    rw [fst, List.nodup_cons]
    exact ⟨fun hm => absurd (abv _ hm) (Nat.not_succ_le_self _), G1.nd⟩
  have big : s1.heap.objs.size ≤ h'.objs.size := by rw [hsz]; exact Nat.le_add_right _ _
  have kp2 : ∀ b o, s1.heap.get? b = some o → h''.get? b = some o := fun c o e => by
    have lc : LtA c s1.heap.objs.size := ⟨Heap.lt_size e⟩
    exact kp' c o (lc.ne_add 4) (lc.ne_add 3) (lc.ne_add 0) (lc.ne_add 1) (kp c o e)
  have sz : ∀ a ∈ L.map Prod.fst, s1.heap.objs.size ≤ a := fun a hm => by
    rw [fst] at hm
    rcases List.mem_cons.mp hm with e | hm
    · rw [e]; exact big
    · exact Nat.le_trans big (Nat.le_of_lt (abv a hm))
  have new : ∀ p ∈ L, ObjOk X.prog X.w (putH H2 L) h'' p.1 p.2 := by
    intro p hp
    rcases List.mem_cons.mp hp with e | hp
    · subst e
      refine ⟨by rw [List.length_map, hl1']; omega, acc.toList, c, by rw [hacc]; exact vals_refs2 ts, ?_⟩
      rw [Array.toArray_toList]
      exact hS1
    · obtain ⟨q, hq, rfl⟩ := List.mem_map.mp hp
      have hj := List.mem_zipIdx_iff_getElem?.mp hq
      obtain ⟨x, y, u, v, g1, g2, g3, g4, g5⟩ := got _ _ hj
      have x1 : xs.getD q.2 .non = x := by rw [List.getD_eq_getElem?_getD, g1]; rfl
      have y1 : ys.getD q.2 .non = y := by rw [List.getD_eq_getElem?_getD, g2]; rfl
      rw [x1, y1]
      exact ⟨by show 2 ≤ sizeLine; decide, [u, v], .cons g3 (.cons g4 .nil), ⟨_, g5, rfl, _, rfl⟩⟩
  have J := laidL (t' := tk) I2 kp2 nd (fun p hp => sz _ (List.mem_map.mpr ⟨p, hp, rfl⟩)) new
  refine ⟨.ref h'.objs.size, putH H2 L, J, rfl, q _ _ ts (fun c u e => ?_) (I2.hok.fresh big) (by rw [hl1', len1, len2]) ?_ fun j t hj => ?_⟩
  · rw [putH_off fun hm => ?_]
    · exact e
    · exact absurd (Nat.lt_of_lt_of_le (I2.hok.lt e) (sz c hm)) (Nat.lt_irrefl _)
  · exact putH_at (p := (h'.objs.size, .lst (ts.map V.ref))) nd List.mem_cons_self
  · obtain ⟨x, y, u, v, g1, g2, g3, g4, g5⟩ := got j t hj
    refine ⟨x, y, g1, g2, ?_⟩
    have hm : ((t, .tup [xs.getD j .non, ys.getD j .non]) : Addr × HO) ∈ L := by
      refine List.mem_cons_of_mem _ (List.mem_map.mpr ⟨(t, j), ?_, rfl⟩)
      exact List.mem_zipIdx_iff_getElem?.mpr hj
    have := putH_at (H := H2) nd hm
    rw [this]
    have x1 : xs.getD j .non = x := by rw [List.getD_eq_getElem?_getD, g1]; rfl
    have y1 : ys.getD j .non = y := by rw [List.getD_eq_getElem?_getD, g2]; rfl
    rw [x1, y1]
end
end Bw

/-! the error Refused with its one field: the block of the worked proof of an own error, turned to this class -/
namespace PySem
namespace LowX
open PySem.W PySem.Calls PyProof.Rows PySem.HandSPX
/-! ### the text of __init__ -/
def iA (p1 p2 : Pos) : Arguments := { posonlyargs := [], args := [{ arg := "self", annotation := none, pos := p1 }, { arg := "refusal", annotation := none, pos := p2 }], vararg := none, kwonlyargs := [], kw_defaults := [], kwarg := none, defaults := [] }
def iB (q1 q2 q3 q4 : Pos) : List Stmt := [.Assign [.Attribute (.Name "self" q1) "refusal" q2] (.Name "refusal" q3) q4]
def iS : Scope := { kind := .function, names := [(PySem.Str.ofString "self", .local), (PySem.Str.ofString "refusal", .local)], isGenerator := false, isCoroutine := false, more := [] }
/-- what the written part says of Low, at C, and of its __init__, at fI -/
structure LowTxt (K : Frag) (mg : Str → Option Value) (C fI : Addr) : Prop where
  gC : mg "Refused" = some (.ref C)
  cls : ∃ nm q N bs bm sn sub ab col dd k0 k1 k2 k3 k5, K.lookup C = some (excClassObj nm q C N bs bm true sn sub ab col dd k0 k1 k2 k3 k5 "ValueError.__new__") ∧ refsVE bm = true
  sa : findIn K (.ref C) "__setattr__" = some (some (.builtin "object.__setattr__"))
  ga : findIn K (.ref C) "__getattribute__" = some (some (.builtin "BaseException.__getattribute__"))
  gg : findIn K (.ref C) "__getattr__" = some none
  noN : findIn K (.ref C) "refusal" = some none
  iC : findIn K (.ref C) "__init__" = some (some (.ref fI))
  tC : typeIn K (.ref fI) = some (.type "function")
  kC : keepIn K (.ref C) = true
  exC : subIn K (.ref C) (.type "BaseException") = some true
  tyC : typeIn K (.ref C) = some (.type "type")
  hdC : hasDictIn K C = true
  te : exmOne K (.ref C) (.ref C) = some true
  fn : ∃ (oc : Value) (od : Option Addr) (doc pm : Value) (an : Option Addr) (cdv ct : Value) (osl : Array (Option Value)) (p1 p2 q1 q2 q3 q4 : Pos),
    K.lookup fI = some ⟨oc, od, .func (fnOf "__init__" "Refused.__init__" (iA p1 p2) (iB q1 q2 q3 q4) iS .none .none doc pm an cdv ct), osl⟩ ∧ codeIn K cdv "Refused.__init__" = true
theorem one_size (v : Value) : [v].length ≤ sizeLine := by
  rw [sizeLine_eq]
  exact (by decide : 1 ≤ 16777216)
theorem kept_but {K : Frag} {h h' : Heap} {x : Addr} (X : K.In h) (hx : K.lookup x = none) (k : ∀ b o, b ≠ x → h.get? b = some o → h'.get? b = some o) : K.In h' := fun a o e =>
  k a o (fun z => by rw [z, hx] at e; cases e) (X a o e)
theorem ldC {M : Model} {s : Shared} {name : Str} {scope : Scope} {L a : Addr} {cd : Value} {m : Str → Option Value} {x : Str} {pos : Pos} {v : Value} {Q : Value → Shared → Prop} {A : Around} {E : Value → Shared → Prop} (hn : s.heap.Ns L m) (hv : m x = some v) (h : Q v s)
    (hk : scope.kind = .function := by rfl) (hl : (envOfC name scope L a cd).kindOf x = some .local := by rfl) (hd : (x == ("__debug__" : Str)) = false := by decide) :
    wpAny M A (eval (.Name x pos) (envOfC name scope L a cd)) Q E s := wpAny_Name (wpAny_loadName_local hk hl hn hv h) hd
/-- what __init__ leaves of a fresh exception at x -/
structure InitEnd (h h' : Heap) (x C dx t1 : Addr) (v : Value) : Prop where
  keep : ∀ b o, b ≠ x → h.get? b = some o → h'.get? b = some o
  obj : h'.get? x = some { cls := .ref C, dict := some dx, data := .fields #[.ref t1, .none, .none, .none, .bool false, .none] }
  dbig : h.objs.size ≤ dx
  dne : dx ≠ x
  ns : h'.Ns1 dx (fun y => if y = "refusal" then some v else none)
/-- a made Low -/
structure OwnMade (h h' : Heap) (e C d : Addr) (v : Value) : Prop where
  keep : ∀ b o, h.get? b = some o → h'.get? b = some o
  new : h.objs.size ≤ e
  obj : ∃ oe vs, h'.get? e = some oe ∧ oe.cls = .ref C ∧ oe.dict = some d ∧ oe.data = .fields vs ∧ vs[1]? = some .none
  dbig : h.objs.size ≤ d
  dne : d ≠ e
  ns : h'.Ns1 d (fun y => if y = "refusal" then some v else none)
section
variable {prog : Program} {w : World} {A : Around} {E : Value → Shared → Prop} {R : Result → Shared → Prop} {s : Shared} {K : Frag} {mg : Str → Option Value} {C fI : Addr}
theorem low_init (T : LowTxt K mg C fI) {x t0 : Addr} {v : Value} (X : K.In s.heap) (hlim : s.heap.NoLimit) (hx : s.heap.get? x = some (excO C t0)) (hnx : K.lookup x = none) (hroom : A.depth < recursionLimit)
    (hq : ∀ h' tk dx, InitEnd s.heap h' x C dx t0 v → R (.ok (.ret .none)) { s with heap := h', toks := tk }) :
    codeAny (model prog w) A (.call (.ref fI) ⟨[.ref x, v], []⟩) R s := by
  obtain ⟨oc, od, doc, pm, an, cdv, ct, osl, p1, p2, q1, q2, q3, q4, ho, hcd⟩ := T.fn
  obtain ⟨nm, q, N, bs, bm, sn, sub, ab, col, dd, k0, k1, k2, k3, k5, hC, hbm⟩ := T.cls
  have hcl : clsIn K C = some { name := nm, bases := bs, mro := .ref C :: bm, ns := N, qualname := q, hasDict := true, slotNames := sn, subclasses := sub, abstract := ab, collection := col, hasDel := false } := by unfold clsIn; rw [hC] <;> rfl
  refine Att.call_fn (binds := [("self", .ref x), ("refusal", v)]) X hlim ho hcd hroom (BindsTo.of_eq (by first | rfl | with_unfolding_all rfl)) (by first | rfl | decide | with_unfolding_all rfl) (fun s₁ IC => ?_) rfl rfl rfl
  obtain ⟨h₁, tk₁, rfl⟩ := IC.toInCall.same
  have k : ∀ b o, s.heap.get? b = some o → h₁.get? b = some o := IC.toInCall.keep
  have hn := IC.toInCall.ns
  have hxL : s.heap.objs.size ≠ x := Nat.ne_of_gt (Heap.lt_size hx)
  have X₁ : K.In h₁ := X.keeps k
  have hx₁ := k _ _ hx
  -- self.by = by
  show wpAny _ _ (execs _ _) _ _ _
  refine wpAny_execs_cons (plainObj_wpAny_Assign_Attribute ?_)
  refine ldC (v := v) hn (by first | rfl | with_unfolding_all rfl | kernel_rfl) (ldC (v := .ref x) hn (by first | rfl | with_unfolding_all rfl | kernel_rfl) ?_)
  refine set_plain X₁ (ox := excO C t0) (od := none) ⟨hx₁, rfl, rfl, trivial⟩ T.sa ?_
  refine exc_osa X₁ hx₁ hcl (show refsVE (.ref C :: bm) = true from hbm) rfl T.noN (fun h₃ tk₃ dx k₃ dn dne hx₃ hn₃ => ?_)
  show wpAny _ _ (execs _ _) _ _ _
  have z : s.heap.objs.size < h₁.objs.size := hn.lt
  exact wpAny_execs_nil (hq h₃ tk₃ dx ⟨fun b o hb e => k₃ b o hb (k b o e), hx₃, Nat.le_of_lt (Nat.lt_of_lt_of_le z dn), dne, hn₃⟩)
theorem low_made (T : LowTxt K mg C fI) {v : Value} (X : K.In s.heap) (hlim : s.heap.NoLimit) (hroom : A.depth + 1 < recursionLimit)
    (hq : ∀ h' tk e d, OwnMade s.heap h' e C d v → R (.ok (.ret (.ref e))) { s with heap := h', toks := tk }) :
    codeAny (model prog w) A (.call (.ref C) ⟨[v], []⟩) R s := by
  obtain ⟨nm, q, N, bs, bm, sn, sub, ab, col, dd, k0, k1, k2, k3, k5, hC, hbm⟩ := T.cls
  obtain ⟨hp, g, dr, tk, os⟩ := s
  have k : ∀ b o, hp.get? b = some o → ((hp.push (kdv_tup [v])).push (excO C hp.objs.size)).get? b = some o := fun b o e => Heap.get?_push_of_some _ (Heap.get?_push_of_some _ e)
  have hget : ((hp.push (kdv_tup [v])).push (excO C hp.objs.size)).get? (hp.objs.size + 1) = some (excO C hp.objs.size) := by heap_get
  have hnx : K.lookup (hp.objs.size + 1) = none := by
    cases e : K.lookup (hp.objs.size + 1) with
    | none => rfl
    | some o =>
      have z : hp.get? (hp.objs.size + 1) = some o := X _ _ e
      exact absurd (Nat.lt_of_succ_lt (Heap.lt_size z)) (Nat.lt_irrefl _)
  refine call_own F.excBase_ValueError (fun X => refsVE_contains X bm hbm) (X _ _ hC) (looks_findIn X T.iC) (fun self => bind_fn X self T.tC) (one_size v) ?_
  refine low_init (s := ⟨(hp.push (kdv_tup [v])).push (excO C hp.objs.size), g, dr, tk, os⟩) T (X.keeps k) (hlim.keeps k) hget hnx ?_ fun h' tk' dx ⟨k', hx, dn, dne, hns⟩ => ?_
  · show A.depth + 1 < recursionLimit
    exact hroom
  · have old : ∀ b o, hp.get? b = some o → h'.get? b = some o := fun b o e => k' b o (Nat.ne_of_lt (Nat.lt_succ_of_lt (Heap.lt_size e))) (k b o e)
    have z : hp.objs.size + 1 + 1 ≤ dx := by
      first
        | (simpa only [Heap.size_push] using dn)
        | exact dn
        | (have q := dn; rw [Heap.size_push, Heap.size_push] at q; exact q)
    exact ⟨rfl, hq h' tk' (hp.objs.size + 1) dx ⟨old, Nat.le_succ _, ⟨_, _, hx, rfl, rfl, rfl, rfl⟩, Nat.le_trans (Nat.le_trans (Nat.le_succ _) (Nat.le_succ _)) z, dne, hns⟩⟩
end
end LowX
end PySem
namespace L2
open PySem PySem.Spec PyProof.Rows
theorem relO_low {v : V} {v' : Value} (r : RelV v v') (f : Str) : RelO (List.lookup f [(("refusal" : Str), v)]) (if f = "refusal" then some v' else none) := by
  by_cases hw : f = "refusal"
  · subst hw
    rw [if_pos rfl]
    have q : List.lookup ("refusal" : Str) [(("refusal" : Str), v)] = some v := by simp [List.lookup]
    rw [q]
    exact r
  · rw [if_neg hw]
    have qw : (f == ("refusal" : Str)) = false := by simpa using hw
    have q2 : List.lookup f [(("refusal" : Str), v)] = none := by simp [List.lookup, qw]
    rw [q2]
    trivial
section
variable {X : Cx} {C fI : Addr}
/-- Low(e) -/
def tMkLow (C : Addr) (ta : TA) : St → Hp → XK → Prop := fun σ H Q => ta σ H fun vs H1 => ∃ v, vs = [v] ∧ ∀ d, H1 d = none → Q (.ref C) (some d) (upd H1 d (.xd [(("refusal" : Str), v)]))
theorem pmk_low {a : Expr} {ta : TA} {p pos : Pos} {k : Nat} (T : PySem.LowX.LowTxt X.K X.mg C fI) (hr : Room k X.A) (ha : PA X [a] ta) (hg : Gl X "Refused" := by rfl)
    (he : starEach (a :: []) X.env = (false, eval a X.env) :: starEach [] X.env := by rfl) (hpl : (backTo pos (starEach [] X.env)).any (·.1) = false := by rfl) :
    PMk X (.Call (.Name "Refused" p) [a] [] pos) (tMkLow C ta) := by
  intro pins s σ H Q I h
  refine wpAny_Call_Name_kw (ld_glob I hg T.gC ?_)
  refine PySem.W.callWith_K (h₀ := X.base) I.ok.mod.kin T.kC (thn (ha.run pos pins s σ H _ I h) fun us s1 hh => ?_) he hpl
  obtain ⟨vs, H1, I1, r1, v, ev, q1⟩ := hh
  subst ev
  refine ⟨I1.kIn, ?_⟩
  cases r1 with
  | cons rv rn =>
    rename_i v' us'
    cases rn
    show wpAny _ _ (call (.ref C) [v']) _ _ _
    have hlim := I1.nolimit
    obtain ⟨hp, g, dr, tk, os⟩ := s1
    refine wpAny_call (PySem.LowX.low_made T I1.kIn hlim (by have := hr.dp; omega) fun h' tk' e d M => ?_)
    show MkP X pins σ Q (.ref e) ⟨h', g, dr, tk', os⟩
    obtain ⟨oe, fv, hoe, hc, hd, hdat, h1⟩ := M.obj
    have hns := M.ns
    obtain ⟨G', g1, g2⟩ := restrict h' fun b => decide (b ≠ e)
    have gk : ∀ b, b ≠ e → G'.get? b = h'.get? b := fun b hb => g1 b (decide_eq_true hb)
    have ge : G'.get? e = none := g2 e (by simp)
    have old : ∀ b o, hp.get? b = some o → G'.get? b = some o := fun b o q => (gk b (Nat.ne_of_lt (Nat.lt_of_lt_of_le (Heap.lt_size q) M.new))).trans (M.keep b o q)
    have ob : ObjOk X.prog X.w (upd H1 d (.xd [(("refusal" : Str), v)])) G' d (.xd [(("refusal" : Str), v)]) :=
      ⟨_, hns.at (fun o q => (gk d M.dne).trans q), fun f => relO_low rv f⟩
    have J : Inv X pins σ (upd H1 d (.xd [(("refusal" : Str), v)])) ⟨G', g, dr, tk', os⟩ := I1.laid (t' := tk') old M.dbig ob
    refine ⟨e, oe, fv, ⟨G', g, dr, tk', os⟩, _, .ref C, some d, rfl, J, fun b o q => ?_, ge, hoe, ⟨hc, hd⟩, hdat, h1, ?_, rfl, I1.bare, raises_own T.exC T.tyC, q1 d (I1.hok.fresh M.dbig)⟩
    · by_cases hb : b = e
      · have q' : G'.get? b = some o := q
        rw [hb, ge] at q'; cases q'
      · exact (gk b hb).symm.trans q
    · rw [upd_ne (Ne.symm M.dne)]
      exact I1.hok.fresh M.new
/-- raise Low(e) -/
def tRaiseLow (C : Addr) (W : WX) (ta : TA) : TS := fun _ σ H => tMkLow C ta σ H fun cls d H' => W cls d σ H'
theorem ps_raiseLow {a : Expr} {ta : TA} {W : WX} {p pos pos2 : Pos} {k : Nat} (hc : X.calm = true) (T : PySem.LowX.LowTxt X.K X.mg C fI) (hr : Room k X.A) (tk : Takes X W) (ha : PA X [a] ta) (hg : Gl X "Refused" := by rfl)
    (he : starEach (a :: []) X.env = (false, eval a X.env) :: starEach [] X.env := by rfl) (hpl : (backTo pos (starEach [] X.env)).any (·.1) = false := by rfl) :
    PS X (.Raise (some (.Call (.Name "Refused" p) [a] [] pos)) none pos2) (tRaiseLow C W ta) := ps_raise hc tk (pmk_low T hr ha hg he hpl)
/-- low.by, low the exception that the suite holds (at a; its class cls, its dict d) -/
def tByLow (C : Addr) (a : Addr) (cls : Value) (d : Option Addr) (te : TE) : TE := fun σ H Q => te σ H fun x H1 => x = .ref a ∧ cls = .ref C ∧ ∃ (dd : Addr) (v : V), d = some dd ∧ H1 dd = some (.xd [(("refusal" : Str), v)]) ∧ Q v H1
theorem pe_byLow {a : Addr} {oe : Obj} {cls : Value} {d : Option Addr} {pn : List (Addr × Obj)} {e : Expr} {te : TE} {pos : Pos} (T : PySem.LowX.LowTxt X.K X.mg C fI) (hz : Zc cls d oe) (hf : ∃ vs, oe.data = .fields vs) (he : PE (X.suite a ((a, oe) :: pn)) e te)
    (hb : attributeBase e "refusal" X.env (eval e X.env) = eval e X.env := by rfl) :
    PE (X.suite a ((a, oe) :: pn)) (.Attribute e "refusal" pos) (tByLow C a cls d te) := by
  refine ⟨fun pins s σ H Q I h => ?_⟩
  refine attr_of hb (thn (he.run pins s σ H _ I h) fun u s1 hh => ?_)
  obtain ⟨x, H1, I1, rx, ex, ec, dd, v, ed, ea, q⟩ := hh
  subst ex
  obtain rfl : u = Value.ref a := rx
  subst ec
  subst ed
  obtain ⟨ha, _⟩ := I1.pin (a, oe) (List.mem_append_left _ List.mem_cons_self)
  obtain ⟨vs, hd⟩ := hf
  have hx : ObjOk X.prog X.w H1 s1.heap dd (.xd [(("refusal" : Str), v)]) := I1.hok dd _ ea
  obtain ⟨mA, hns, hr⟩ := hx
  obtain ⟨od, ho, hl⟩ := lookIn_ns hns
  have l : List.lookup ("refusal" : Str) [(("refusal" : Str), v)] = some v := by simp [List.lookup]
  obtain ⟨u, hu, ru⟩ := RelO.some_of (v := v) (o := mA "refusal") (by rw [← l]; exact hr "refusal")
  have J : PySem.W.InstAt s1.heap a oe C (some od) := ⟨ha, hz.1, by unfold PySem.W.notCls; rw [hd] <;> rfl, by rw [hz.2]; exact ho⟩
  exact HandSPX.exc_get I1.kIn J T.ga T.gg T.exC (PySem.W.findObj_own T.hdC T.noN rfl (by rw [hl, hu])) (handed_of ru) ⟨v, H1, I1.tok _, ru, q⟩
end
end L2

namespace L2
open PySem PySem.Spec PyProof.Rows
/-- an if whose test is known -/
theorem if_true_of {c : Bool} {A B : Prop} (hc : c = true) (h : A) : if c = true then A else B := by
  rw [if_pos hc]
  exact h
theorem if_false_of {c : Bool} {A B : Prop} (hc : c = false) (h : B) : if c = true then A else B := by
  rw [hc, if_neg Bool.false_ne_true]
  exact h
end L2

/-! defs, methods, classes as they are called; small lemmas of lists and heaps -/
namespace Bw
open PySem PySem.Spec PyProof.Rows L2
def top (i : Nat) : Stmt := PySem.Challenge.pw_bowlinghall_s01_answers.main.body.getD i (.Pass ⟨0, 0, 0, 0⟩)
/-- a def of the top, as it stands -/
structure DefA (K : PySem.W.Frag) (mg : Str → Option Value) (x : Str) (st : Stmt) (ps : List Str) : Prop where
  ex : ∃ (f : Addr) (fd : FuncData), Fun K x x st f fd ∧ mg x = some (.ref f) ∧ Binds K fd ps []
/-- a method of the class at C -/
structure MethA (K : PySem.W.Frag) (C : Addr) (x q : Str) (st : Stmt) (ps : List Str) : Prop where
  ex : ∃ (f : Addr) (fd : FuncData), Fun K x q st f fd ∧ Cls K C ∧ Meth K C x f ∧ Binds K fd ps []
/-- the class at C, of the name c, with its __init__ -/
structure InitA (K : PySem.W.Frag) (mg : Str → Option Value) (c : Str) (C : Addr) (q : Str) (st : Stmt) (ps : List Str) : Prop where
  ex : ∃ (f : Addr) (fd : FuncData), Fun K "__init__" q st f fd ∧ Mk K C f ∧ mg c = some (.ref C) ∧ Binds K fd ps []
section
variable (P : Program) (w : World) (K : PySem.W.Frag) (mg : Str → Option Value) (base : Heap) (CX : CXT) (k : Nat)
/-- what is called by a name and keeps a promise -/
structure CalB (x : Str) (sp : Sp) : Prop where
  ex : ∃ (f : Addr) (fd : FuncData) (ps : List Str), FnOk P w K mg base CX k f fd ps sp ∧ mg x = some (.ref f) ∧ PySem.W.keepIn K (.ref f) = true ∧ Binds K fd ps []
structure MetB (C : Addr) (x : Str) (sp : Sp) : Prop where
  ex : ∃ (f : Addr) (fd : FuncData) (ps : List Str), FnOk P w K mg base CX k f fd ps sp ∧ Cls K C ∧ Meth K C x f ∧ Binds K fd ps []
structure MakB (c : Str) (C : Addr) (sp : Sp) : Prop where
  ex : ∃ (f : Addr) (fd : FuncData) (ps : List Str), FnOk P w K mg base CX k f fd ps sp ∧ Mk K C f ∧ mg c = some (.ref C) ∧ Binds K fd ps []
end
section
variable {P : Program} {w : World} {K : PySem.W.Frag} {mg : Str → Option Value} {base : Heap} {k : Nat} {x q c : Str} {C : Addr} {st : Stmt} {N ps : List Str} {sp : Sp}
/-- what a body must show; where nothing leaves -/
def Body0 (P : Program) (w : World) (K : PySem.W.Frag) (mg : Str → Option Value) (base : Heap) (N : List Str) (q : Str) (st : Stmt) (k : Nat) (sp : Sp) : Prop :=
  ∀ (f : Addr) (cdv : Value) (A : Around) (outer : List Env) (s : Shared) (H : Hp) (vs : List V) (Q : VK) (E : XK), Room k (A.deeper (envOfC q (defScope st) s.heap.objs.size f cdv)) → sp vs H Q E →
    ∃ t, PSs (cxOf CX0 P w K mg base N q (defScope st) f cdv A outer s H E).nox (defBody st) t ∧ t { nx := fun _ H' => Q .non H', rt := Q } (start N vs) H
/-- where an error may leave -/
def BodyX (P : Program) (w : World) (K : PySem.W.Frag) (mg : Str → Option Value) (base : Heap) (N : List Str) (q : Str) (st : Stmt) (k : Nat) (sp : Sp) : Prop :=
  ∀ (f : Addr) (cdv : Value) (A : Around) (outer : List Env) (s : Shared) (H : Hp) (vs : List V) (Q : VK) (E : XK), Room k (A.deeper (envOfC q (defScope st) s.heap.objs.size f cdv)) → sp vs H Q E →
    ∃ t, PSs (cxOf (L2.CX P w) P w K mg base N q (defScope st) f cdv A outer s H E) (defBody st) t ∧ t { nx := fun _ H' => Q .non H', rt := Q } (start N vs) H
theorem CalB.mk0 (d : DefA K mg x st ps) (S : FnScope N ps (defScope st)) (len : ∀ vs H Q E, sp vs H Q E → vs.length = ps.length) (b : Body0 P w K mg base N x st k sp) : CalB P w K mg base CX0 (k + 1) x sp := by
  obtain ⟨f, fd, F, hm, hb⟩ := d.ex
  exact ⟨f, fd, ps, F.ok S len (b f), hm, F.kp, hb⟩
theorem CalB.mkX (d : DefA K mg x st ps) (S : FnScope N ps (defScope st)) (len : ∀ vs H Q E, sp vs H Q E → vs.length = ps.length) (b : BodyX P w K mg base N x st k sp) : CalB P w K mg base (L2.CX P w) (k + 1) x sp := by
  obtain ⟨f, fd, F, hm, hb⟩ := d.ex
  exact ⟨f, fd, ps, F.okX S len (b f), hm, F.kp, hb⟩
theorem MetB.mk0 (d : MethA K C x q st ps) (S : FnScope N ps (defScope st)) (len : ∀ vs H Q E, sp vs H Q E → vs.length = ps.length) (b : Body0 P w K mg base N q st k sp) : MetB P w K mg base CX0 (k + 1) C x sp := by
  obtain ⟨f, fd, F, hc, hm, hb⟩ := d.ex
  exact ⟨f, fd, ps, F.ok S len (b f), hc, hm, hb⟩
theorem MetB.mkX (d : MethA K C x q st ps) (S : FnScope N ps (defScope st)) (len : ∀ vs H Q E, sp vs H Q E → vs.length = ps.length) (b : BodyX P w K mg base N q st k sp) : MetB P w K mg base (L2.CX P w) (k + 1) C x sp := by
  obtain ⟨f, fd, F, hc, hm, hb⟩ := d.ex
  exact ⟨f, fd, ps, F.okX S len (b f), hc, hm, hb⟩
theorem MakB.mk0 (d : InitA K mg c C q st ps) (S : FnScope N ps (defScope st)) (len : ∀ vs H Q E, sp vs H Q E → vs.length = ps.length) (b : Body0 P w K mg base N q st k sp) : MakB P w K mg base CX0 (k + 1) c C sp := by
  obtain ⟨f, fd, F, hm, hg, hb⟩ := d.ex
  exact ⟨f, fd, ps, F.ok S len (b f), hm, hg, hb⟩
theorem MakB.mkX (d : InitA K mg c C q st ps) (S : FnScope N ps (defScope st)) (len : ∀ vs H Q E, sp vs H Q E → vs.length = ps.length) (b : BodyX P w K mg base N q st k sp) : MakB P w K mg base (L2.CX P w) (k + 1) c C sp := by
  obtain ⟨f, fd, F, hm, hg, hb⟩ := d.ex
  exact ⟨f, fd, ps, F.okX S len (b f), hm, hg, hb⟩
end
/-! ### calls -/
section
variable {X : Cx} {CX : CXT} {k j : Nat} {C : Addr} {x m : Str} {sp : Sp} {E : XK} {p pos apos : Pos} {e o : Expr} {es : List Expr} {ta : TE} {t : TA}
theorem pc (c : CalB X.prog X.w X.K X.mg X.base CX k x sp) (hr : Room j X.A) (hk : k ≤ j) (hx : Passes CX X E) (hg : Gl X x) (ha : PA X (e :: es) t)
    (hdb : (x == ("__debug__" : Str)) = false := by decide) (he : starEach (e :: es) X.env = (false, eval e X.env) :: starEach es X.env := by rfl) (hpl : (backTo pos (starEach es X.env)).any (·.1) = false := by rfl) :
    PE X (.Call (.Name x p) (e :: es) [] pos) (tCall sp [] E t) := by
  obtain ⟨f, fd, ps, F, hm, kp, b⟩ := c.ex
  exact pe_call F (hr.mono hk) hg hm kp b .nil hx ha hdb he hpl
theorem pm {pl : Sem Bool} (c : MetB X.prog X.w X.K X.mg X.base CX k C m sp) (hr : Room j X.A) (hk : k ≤ j) (hx : Passes CX X E) (he : PE X o ta) (ha : PA X (e :: es) t)
    (hst : starEach (e :: es) X.env = (false, eval e X.env) :: starEach es X.env := by rfl) (hpl : (backTo pos (starEach es X.env)).any (·.1) = false := by rfl)
    (ht : eval (.Call (.Attribute o m apos) (e :: es) [] pos) X.env = (do
      let ov ← eval o X.env
      standAt apos.atName
      let (f, first) ← holding [ov] (getMethod ov m pl)
      callWith pos f first (backTo pos (starEach (e :: es) X.env)) (backToKw pos (keywordEach [] X.env))) := by rfl) :
    PE X (.Call (.Attribute o m apos) (e :: es) [] pos) (tMeth C m sp [] E ta t) := by
  obtain ⟨f, fd, ps, F, hc, hm, b⟩ := c.ex
  exact pe_meth (pl := pl) he hc hm F (hr.mono hk) b .nil hx ha hst hpl ht
theorem pm0 {pl : Sem Bool} (c : MetB X.prog X.w X.K X.mg X.base CX k C m sp) (hr : Room j X.A) (hk : k ≤ j) (hx : Passes CX X E) (he : PE X o ta)
    (ht : eval (.Call (.Attribute o m apos) [] [] pos) X.env = (do
      let ov ← eval o X.env
      standAt apos.atName
      let (f, first) ← holding [ov] (getMethod ov m pl)
      callWith pos f first (backTo pos (starEach [] X.env)) (backToKw pos (keywordEach [] X.env))) := by rfl) :
    PE X (.Call (.Attribute o m apos) [] [] pos) (tMeth C m sp [] E ta tNil) := by
  obtain ⟨f, fd, ps, F, hc, hm, b⟩ := c.ex
  exact pe_meth0 (pl := pl) he hc hm F (hr.mono hk) b .nil hx ht
theorem pk (c : MakB X.prog X.w X.K X.mg X.base CX k x C sp) (hr : Room j X.A) (hk : k + 1 ≤ j) (hx : Passes CX X E) (hg : Gl X x) (ha : PA X (e :: es) t)
    (hdb : (x == ("__debug__" : Str)) = false := by decide) (he : starEach (e :: es) X.env = (false, eval e X.env) :: starEach es X.env := by rfl) (hpl : (backTo pos (starEach es X.env)).any (·.1) = false := by rfl) :
    PE X (.Call (.Name x p) (e :: es) [] pos) (tMake C sp [] E t) := by
  obtain ⟨f, fd, ps, F, M, hm, b⟩ := c.ex
  exact pe_make M F (hr.mono hk) hg hm b .nil hx ha hdb he hpl
theorem pk0 (c : MakB X.prog X.w X.K X.mg X.base CX k x C sp) (hr : Room j X.A) (hk : k + 1 ≤ j) (hx : Passes CX X E) (hg : Gl X x)
    (hdb : (x == ("__debug__" : Str)) = false := by decide) : PE X (.Call (.Name x p) [] [] pos) (tMake C sp [] E tNil) := by
  obtain ⟨f, fd, ps, F, M, hm, b⟩ := c.ex
  exact pe_make0 M F (hr.mono hk) hg hm b .nil hx hdb
/-- a constant of the module -/
theorem pgi {v : Int} {pos : Pos} (h : ∃ t, X.mg x = some (.int v t)) (hg : Gl X x) (hd : (x == ("__debug__" : Str)) = false := by decide) : PE X (.Name x pos) (tC (.int v)) := by
  obtain ⟨t, h⟩ := h
  exact pe_glob hg h ⟨t, rfl⟩ hd
end
/-- an error of a callee leaves this def -/
theorem passX {P : Program} {w : World} {K : PySem.W.Frag} {mg : Str → Option Value} {base : Heap} {N : List Str} {q : Str} {sc : Scope} {f : Addr} {cdv : Value} {A : Around} {outer : List Env} {s : Shared} {H : Hp} {E : XK} :
    Passes (L2.CX P w) (cxOf (L2.CX P w) P w K mg base N q sc f cdv A outer s H E) E := passes_call (takes_of rfl rfl rfl rfl) fun _ _ _ _ h => h
/-! ### small lemmas -/
theorem cutV_to (xs : List V) (n : Nat) : cutV xs none (some (n : Int)) = xs.take n := by
  unfold cutV
  rw [HT.sIx_none, HT.sIx_nat]
  simp only [List.drop_zero, Nat.sub_zero]
  rcases Nat.le_total n xs.length with h | h
  · rw [Nat.min_eq_left h]
  · rw [Nat.min_eq_right h, List.take_length, List.take_of_length_le h]
theorem cutV_from (xs : List V) (n : Nat) : cutV xs (some (n : Int)) none = xs.drop n := by
  unfold cutV
  rw [HT.sIx_none, HT.sIx_nat]
  rcases Nat.le_total n xs.length with h | h
  · rw [Nat.min_eq_left h, List.take_of_length_le (by rw [List.length_drop]; omega)]
  · rw [Nat.min_eq_right h, List.drop_length, List.drop_of_length_le h]; simp
theorem cutV_mid (xs : List V) (n m : Nat) : cutV xs (some (n : Int)) (some ((n + m : Nat) : Int)) = (xs.drop n).take m := by
  unfold cutV
  rw [HT.sIx_nat, HT.sIx_nat]
  rcases Nat.le_total n xs.length with h | h
  · rw [Nat.min_eq_left h]
    rcases Nat.le_total (n + m) xs.length with h2 | h2
    · rw [Nat.min_eq_left h2, Nat.add_sub_cancel_left]
    · rw [Nat.min_eq_right h2, List.take_of_length_le (by rw [List.length_drop]; omega), List.take_of_length_le (by rw [List.length_drop]; omega)]
  · rw [Nat.min_eq_right h, List.drop_length, List.drop_of_length_le h]; simp
theorem nL_take (l : List Nat) (n : Nat) : (nL l).take n = nL (l.take n) := by unfold nL; rw [List.map_take]
theorem nL_drop (l : List Nat) (n : Nat) : (nL l).drop n = nL (l.drop n) := by unfold nL; rw [List.map_drop]
theorem nL_length (l : List Nat) : (nL l).length = l.length := List.length_map _
theorem nL_ints (l : List Nat) : nL l = (l.map fun (x : Nat) => (x : Int)).map V.int := by unfold nL nV; rw [List.map_map]; rfl
theorem sum_ints : ∀ l : List Nat, (l.map fun (x : Nat) => (x : Int)).sum = (l.sum : Nat)
  | [] => rfl
  | a :: l => by rw [List.map_cons, List.sum_cons, sum_ints l, List.sum_cons]; omega
theorem nL_append (a b : List Nat) : nL (a ++ b) = nL a ++ nL b := List.map_append
theorem same_upd {H : Hp} {p : Addr} {o : HO} (h : H p = none) : Same H (upd H p o) := fun b u e => by rw [upd_ne (ne_of_none e h)]; exact e
/-- the data of a list of numbers -/
theorem dp_ints {K : PySem.W.Frag} {H : Hp} : ∀ l : List Nat, DpAll K H (nL l) (l.map fun (x : Nat) => PyData.int (x : Int))
  | [] => .nil
  | x :: l => .cons (.int _) (dp_ints l)
theorem eqvAll_ints : ∀ a b : List Nat, PyData.eqvAll (a.map fun (x : Nat) => PyData.int (x : Int)) (b.map fun (x : Nat) => PyData.int (x : Int)) = decide (a = b)
  | [], [] => by simp [PyData.eqvAll]
  | [], _ :: _ => by simp [PyData.eqvAll]
  | _ :: _, [] => by simp [PyData.eqvAll]
  | x :: a, y :: b => by
    rw [List.map_cons, List.map_cons, PyData.eqvAll, eqvAll_ints a b]
    by_cases h : x = y
    · subst h; simp [PyData.eqv]
    · have : ¬ (x : Int) = (y : Int) := by omega
      simp [PyData.eqv, h, this]
end Bw

/-! what the top has written; the readings' names -/
namespace Bw
open PySem PySem.Spec PyProof.Rows L2
def rAddI : R2 := rI0 fun i j => .int (i + j)
def rSubI : R2 := rI0 fun i j => .int (i - j)
def rMulI : R2 := rI CMul fun i j => .int (i * j)
def rDivI : R2 := rI CDiv fun i j => .int (i / j)
def rLtI : R2 := rI0 fun i j => .bl (decide (i < j))
def rLeI : R2 := rI0 fun i j => .bl (decide (i ≤ j))
def rGtI : R2 := rI0 fun i j => .bl (decide (j < i))
def rGeI : R2 := rI0 fun i j => .bl (decide (j ≤ i))
def rNegI : V → Hp → VK → Prop := rU fun i => .int (-i)
def ipAdd : TIp := ipI fun i j => i + j
def ipSub : TIp := ipI fun i j => i - j
def rLenB (K : PySem.W.Frag) : List V → Hp → VK → Prop := fun xs H Q => ∃ x n, xs = [x] ∧ LenV K x H n ∧ Q (.int n) H
def rMin2 : List V → Hp → VK → Prop := fun xs H Q => ∃ i j, xs = [.int i, .int j] ∧ Q (.int (if j < i then j else i)) H
def rMax2 : List V → Hp → VK → Prop := fun xs H Q => ∃ i j, xs = [.int i, .int j] ∧ Q (.int (if j > i then j else i)) H
def rInt1 : List V → Hp → VK → Prop := fun xs H Q => (∃ i, xs = [.int i] ∧ Q (.int i) H) ∨ ∃ k, xs = [.bl k] ∧ Q (.int (if k then 1 else 0)) H
def rListOf (K : PySem.W.Frag) : List V → Hp → VK → Prop := fun xs H Q => ∃ p ys, xs = [.ref p] ∧ (SqL K H p ys ∨ SqT K H p ys) ∧ ∀ l, H l = none → Q (.ref l) (upd H l (.lst ys))
def rDictP (K : PySem.W.Frag) : List V → Hp → VK → Prop := fun xs H Q => ∃ (a : Addr) (ps : List Addr) (kvs : List (Key × V)), xs = [.ref a] ∧ SqL K H a (ps.map V.ref) ∧
  Paired (fun p kv => SqT K H p [kV kv.1, kv.2]) ps kvs ∧ ∀ p, H p = none → Q (.ref p) (upd H p (.dK (mergeK [] kvs)))
theorem boot_sum2 : bootBuiltins "sum" = some (.builtin "sum") := by decide +kernel
theorem boot_sorted2 : bootBuiltins "sorted" = some (.builtin "sorted") := by decide +kernel
theorem boot_min2 : bootBuiltins "min" = some (.builtin "min") := by decide +kernel
theorem boot_max2 : bootBuiltins "max" = some (.builtin "max") := by decide +kernel
theorem boot_int2 : bootBuiltins "int" = some (.type "int") := by decide +kernel
theorem boot_dict2 : bootBuiltins "dict" = some (.type "dict") := by decide +kernel
/-- where the top's classes and its tuple lie -/
structure Ad where
  CCounter : Addr
  CGroup : Addr
  CTeam : Addr
  CLeague : Addr
  CR : Addr
  CHall : Addr
  CDesk : Addr
  fR : Addr
  MANY_NUMBERS : Addr
/-- what the top has written -/
structure Txt (K : PySem.W.Frag) (mg : Str → Option Value) (a : Ad) : Prop where
  low : PySem.LowX.LowTxt K mg a.CR a.fR
  g_PINS : ∃ t, mg "PINS" = some (.int (10) t)
  g_FRAMES : ∃ t, mg "FRAMES" = some (.int (10) t)
  g_LAST : ∃ t, mg "LAST" = some (.int (9) t)
  g_MOST_GAMES : ∃ t, mg "MOST_GAMES" = some (.int (20) t)
  g_MATCH_GAMES : ∃ t, mg "MATCH_GAMES" = some (.int (3) t)
  g_PLAYERS : ∃ t, mg "PLAYERS" = some (.int (3) t)
  g_GAMES : ∃ t, mg "GAMES" = some (.int (3) t)
  g_HUNDRED : ∃ t, mg "HUNDRED" = some (.int (100) t)
  g_MOST_LANES : ∃ t, mg "MOST_LANES" = some (.int (8) t)
  g_MOST_PRICE : ∃ t, mg "MOST_PRICE" = some (.int (10000) t)
  g_MOST_GROUPS : ∃ t, mg "MOST_GROUPS" = some (.int (60) t)
  g_MOST_SIZE : ∃ t, mg "MOST_SIZE" = some (.int (6) t)
  g_LEAST_TEAMS : ∃ t, mg "LEAST_TEAMS" = some (.int (2) t)
  g_MOST_TEAMS : ∃ t, mg "MOST_TEAMS" = some (.int (8) t)
  g_LEAST_BASE : ∃ t, mg "LEAST_BASE" = some (.int (100) t)
  g_MOST_BASE : ∃ t, mg "MOST_BASE" = some (.int (300) t)
  g_MOST_PERCENT : ∃ t, mg "MOST_PERCENT" = some (.int (100) t)
  g_WRONG : ∃ t, mg "WRONG" = some (.int (-22) t)
  g_FULL : ∃ t, mg "FULL" = some (.int (-28) t)
  g_MOST_MATCHES : ∃ t, mg "MOST_MATCHES" = some (.int (200) t)
  g_GREATEST_SCORE : ∃ t, mg "GREATEST_SCORE" = some (.int (300) t)
  g_NO_SUCH : ∃ t, mg "NO_SUCH" = some (.int (-2) t)
  g_NOBODYS : ∃ t, mg "NOBODYS" = some (.int (-6) t)
  g_IS_SO : ∃ t, mg "IS_SO" = some (.int (-17) t)
  g_OTHER_SIZE : ∃ t, mg "OTHER_SIZE" = some (.int (-34) t)
  g_NOT_THERE : ∃ t, mg "NOT_THERE" = some (.int (-61) t)
  g_MANY_NUMBERS : mg "MANY_NUMBERS" = some (.ref a.MANY_NUMBERS)
  q_MANY_NUMBERS : ∀ H : Hp, SqT K H a.MANY_NUMBERS [.int 6, .int 2, .int 2, .int 1, .int 2, .int 0, .int 1, .int 1, .int 2, .int 1, .int 1, .int 2, .int 3, .int 2, .int 3, .int 1, .int 3, .int 1, .int 0, .int 2, .int 2, .int 2, .int 1, .int 0, .int 0]
  n_len : mg "len" = none
  n_min : mg "min" = none
  n_max : mg "max" = none
  n_int : mg "int" = none
  n_sum : mg "sum" = none
  n_range : mg "range" = none
  n_enumerate : mg "enumerate" = none
  n_zip : mg "zip" = none
  n_list : mg "list" = none
  n_dict : mg "dict" = none
  n_sorted : mg "sorted" = none
  c_Counter : Cls K a.CCounter
  a_Counter_known : NoAttr K a.CCounter "known"
  c_Group : Cls K a.CGroup
  a_Group_size : NoAttr K a.CGroup "size"
  a_Group_shoes : NoAttr K a.CGroup "shoes"
  a_Group_rolls : NoAttr K a.CGroup "rolls"
  a_Group_turns : NoAttr K a.CGroup "turns"
  a_Group_finished : NoAttr K a.CGroup "finished"
  a_Group_is_gone : NoAttr K a.CGroup "is_gone"
  a_Group_team : NoAttr K a.CGroup "team"
  a_Group_counted : NoAttr K a.CGroup "counted"
  c_Team : Cls K a.CTeam
  a_Team_points : NoAttr K a.CTeam "points"
  a_Team_scores : NoAttr K a.CTeam "scores"
  c_League : Cls K a.CLeague
  a_League_teams : NoAttr K a.CLeague "teams"
  a_League_base : NoAttr K a.CLeague "base"
  a_League_percent : NoAttr K a.CLeague "percent"
  a_League_matches : NoAttr K a.CLeague "matches"
  c_Hall : Cls K a.CHall
  a_Hall_price : NoAttr K a.CHall "price"
  a_Hall_lend : NoAttr K a.CHall "lend"
  a_Hall_owners : NoAttr K a.CHall "owners"
  a_Hall_broken : NoAttr K a.CHall "broken"
  a_Hall_groups : NoAttr K a.CHall "groups"
  a_Hall_line : NoAttr K a.CHall "line"
  a_Hall_taken : NoAttr K a.CHall "taken"
  a_Hall_league : NoAttr K a.CHall "league"
  a_Hall_counter : NoAttr K a.CHall "counter"
  c_Desk : Cls K a.CDesk
  a_Desk_hall : NoAttr K a.CDesk "hall"
  f_size_of_frame : DefA K mg "size_of_frame" (top 4) ["number", "rolls"]
  f_frames_of : DefA K mg "frames_of" (top 5) ["rolls"]
  f_is_over : DefA K mg "is_over" (top 6) ["number", "frame"]
  f_frames_over : DefA K mg "frames_over" (top 7) ["rolls"]
  f_left_of : DefA K mg "left_of" (top 8) ["frame"]
  f_standing : DefA K mg "standing" (top 9) ["rolls"]
  f_counting : DefA K mg "counting" (top 10) ["number", "frame"]
  f_frame_scores : DefA K mg "frame_scores" (top 11) ["rolls"]
  f_Counter_init : InitA K mg "Counter" a.CCounter "Counter.__init__" (inClass (top 12) 0) ["self"]
  f_Counter_start_of : MethA K a.CCounter "start_of" "Counter.start_of" (inClass (top 12) 1) ["self", "rolls"]
  f_Counter_endings : MethA K a.CCounter "endings" "Counter.endings" (inClass (top 12) 2) ["self", "state"]
  f_Counter_ways : MethA K a.CCounter "ways" "Counter.ways" (inClass (top 12) 3) ["self", "rolls"]
  f_next_state : DefA K mg "next_state" (top 13) ["state", "roll"]
  f_Group_init : InitA K mg "Group" a.CGroup "Group.__init__" (inClass (top 17) 0) ["self", "size", "shoes"]
  f_Group_turn : MethA K a.CGroup "turn" "Group.turn" (inClass (top 17) 1) ["self"]
  f_Group_pins_standing : MethA K a.CGroup "pins_standing" "Group.pins_standing" (inClass (top 17) 2) ["self"]
  f_Group_is_full : MethA K a.CGroup "is_full" "Group.is_full" (inClass (top 17) 3) ["self"]
  f_Group_roll : MethA K a.CGroup "roll" "Group.roll" (inClass (top 17) 4) ["self", "pins"]
  f_Group_undo : MethA K a.CGroup "undo" "Group.undo" (inClass (top 17) 5) ["self"]
  f_Group_bill : MethA K a.CGroup "bill" "Group.bill" (inClass (top 17) 6) ["self", "price", "lend"]
  f_Group_become : MethA K a.CGroup "become" "Group.become" (inClass (top 17) 7) ["self", "team"]
  f_Group_has_match : MethA K a.CGroup "has_match" "Group.has_match" (inClass (top 17) 8) ["self"]
  f_Group_take_match : MethA K a.CGroup "take_match" "Group.take_match" (inClass (top 17) 9) ["self"]
  f_Team_init : InitA K mg "Team" a.CTeam "Team.__init__" (inClass (top 22) 0) ["self"]
  f_Team_average : MethA K a.CTeam "average" "Team.average" (inClass (top 22) 1) ["self", "player"]
  f_Team_pins : MethA K a.CTeam "pins" "Team.pins" (inClass (top 22) 2) ["self"]
  f_points_for : DefA K mg "points_for" (top 23) ["one", "other"]
  f_League_init : InitA K mg "League" a.CLeague "League.__init__" (inClass (top 24) 0) ["self", "teams", "base", "percent"]
  f_League_allowance : MethA K a.CLeague "allowance" "League.allowance" (inClass (top 24) 1) ["self", "team", "player"]
  f_League_totals : MethA K a.CLeague "totals" "League.totals" (inClass (top 24) 2) ["self", "team", "scores"]
  f_League_play : MethA K a.CLeague "play" "League.play" (inClass (top 24) 3) ["self", "one", "other", "scores", "others"]
  f_League_put : MethA K a.CLeague "put" "League.put" (inClass (top 24) 4) ["self", "team", "scores", "points"]
  f_League_order : MethA K a.CLeague "order" "League.order" (inClass (top 24) 5) ["self"]
  f_ask : DefA K mg "ask" (top 38) ["good", "refusal"]
  f_Hall_init : InitA K mg "Hall" a.CHall "Hall.__init__" (inClass (top 39) 0) ["self", "numbers"]
  f_Hall_free_lanes : MethA K a.CHall "free_lanes" "Hall.free_lanes" (inClass (top 39) 1) ["self"]
  f_Hall_give_lanes : MethA K a.CHall "give_lanes" "Hall.give_lanes" (inClass (top 39) 2) ["self"]
  f_Hall_come : MethA K a.CHall "come" "Hall.come" (inClass (top 39) 3) ["self", "size", "shoes"]
  f_Hall_bill : MethA K a.CHall "bill" "Hall.bill" (inClass (top 39) 4) ["self", "number"]
  f_Hall_go : MethA K a.CHall "go" "Hall.go" (inClass (top 39) 5) ["self", "number"]
  f_Hall_lane_of : MethA K a.CHall "lane_of" "Hall.lane_of" (inClass (top 39) 6) ["self", "number"]
  f_Hall_set_broken : MethA K a.CHall "set_broken" "Hall.set_broken" (inClass (top 39) 7) ["self", "lane", "is_broken"]
  f_Hall_is_team_taken : MethA K a.CHall "is_team_taken" "Hall.is_team_taken" (inClass (top 39) 8) ["self", "team"]
  f_need_group : DefA K mg "need_group" (top 49) ["hall", "number"]
  f_need_here : DefA K mg "need_here" (top 50) ["hall", "number"]
  f_need_player : DefA K mg "need_player" (top 51) ["hall", "number", "player"]
  f_ask_lane : DefA K mg "ask_lane" (top 52) ["hall", "lane"]
  f_need_owner : DefA K mg "need_owner" (top 53) ["hall", "lane"]
  f_become_team : DefA K mg "become_team" (top 54) ["hall", "number", "team"]
  f_go : DefA K mg "go" (top 55) ["hall", "number"]
  f_set_broken : DefA K mg "set_broken" (top 56) ["hall", "lane", "on"]
  f_tell_lane : DefA K mg "tell_lane" (top 57) ["hall", "lane"]
  f_where : DefA K mg "where" (top 58) ["hall", "number"]
  f_roll : DefA K mg "roll" (top 59) ["hall", "lane", "pins"]
  f_undo : DefA K mg "undo" (top 60) ["hall", "lane"]
  f_turn : DefA K mg "turn" (top 61) ["hall", "lane"]
  f_score : DefA K mg "score" (top 62) ["hall", "number", "player"]
  f_frame : DefA K mg "frame" (top 63) ["hall", "number", "player", "k"]
  f_score_range : DefA K mg "score_range" (top 64) ["hall", "number", "player"]
  f_ways : DefA K mg "ways" (top 65) ["hall", "number", "player", "wanted"]
  f_game : DefA K mg "game" (top 66) ["hall", "number", "i", "player"]
  f_match : DefA K mg "match" (top 67) ["hall", "one", "other"]
  f_need_team : DefA K mg "need_team" (top 68) ["hall", "team"]
  f_average : DefA K mg "average" (top 69) ["hall", "team", "player"]
  f_allowance : DefA K mg "allowance" (top 70) ["hall", "team", "player"]
  f_points : DefA K mg "points" (top 71) ["hall", "team"]
  f_of_hall : DefA K mg "of_hall" (top 72) ["hall", "call", "numbers"]
  f_of_games : DefA K mg "of_games" (top 73) ["hall", "call", "numbers"]
  f_of_league : DefA K mg "of_league" (top 74) ["hall", "call", "numbers"]
  f_Desk_init : InitA K mg "Desk" a.CDesk "Desk.__init__" (inClass (top 75) 0) ["self"]
  f_Desk_answer : MethA K a.CDesk "answer" "Desk.answer" (inClass (top 75) 1) ["self", "call", "numbers"]
  f_answered : DefA K mg "answered" (top 76) ["desk", "call", "numbers"]
  f_answers : DefA K mg "answers" (top 77) ["calls"]
end Bw

/-! how the mirror's data lie in the heap -/
namespace Bw
open PySem PySem.Spec PyProof.Rows L2
def optV : Option Nat → V
  | none => .non
  | some n => nV n
theorem val_of {Q : VK} {v v' : V} {H : Hp} (e : v = v') (q : Q v' H) : Q v H := by
  rw [e]; exact q
theorem hp_of {Q : VK} {v : V} {H H' : Hp} (e : H = H') (q : Q v H') : Q v H := by
  rw [e]; exact q
theorem ite_true_of {c A B : Prop} [Decidable c] (hc : c) (h : A) : if c then A else B := by
  rw [if_pos hc]; exact h
theorem ite_false_of {c A B : Prop} [Decidable c] (hc : ¬ c) (h : B) : if c then A else B := by
  rw [if_neg hc]; exact h
/-- a test by a Bool -/
theorem ite_b {c : Bool} {A B : Prop} (h1 : c = true → A) (h2 : c = false → B) : if c = true then A else B := by
  cases c with
  | true => rw [if_pos rfl]; exact h1 rfl
  | false => rw [if_neg (by simp)]; exact h2 rfl
theorem ite_d {p : Prop} [Decidable p] {A B : Prop} (h1 : p → A) (h2 : ¬ p → B) : if decide p = true then A else B := by
  by_cases c : p
  · rw [decide_eq_true c, if_pos rfl]; exact h1 c
  · rw [decide_eq_false c, if_neg (by simp)]; exact h2 c
theorem nV_inj {a b : Nat} : nV a = nV b ↔ a = b := by
  unfold nV
  rw [V.int.injEq]
  omega
theorem nV_lit (a : Nat) (n : Nat) : (nV a = V.int (n : Int)) = (a = n) := by
  unfold nV
  rw [V.int.injEq]
  exact propext (by omega)
theorem ref_inj {a b : Addr} (h : V.ref a = V.ref b) : a = b := V.ref.inj h
/-- lists of numbers at several addresses -/
structure RowsAt (H : Hp) (as : List Addr) (ls : List (List Nat)) : Prop where
  len : as.length = ls.length
  at_ : ∀ (i : Nat) (a : Addr) (l : List Nat), as[i]? = some a → ls[i]? = some l → H a = some (.lst (nL l))
theorem RowsAt.nil (H : Hp) : RowsAt H [] [] := ⟨rfl, fun i a l h => by simp at h⟩
theorem RowsAt.get {H : Hp} {as : List Addr} {ls : List (List Nat)} (r : RowsAt H as ls) {i : Nat} {a : Addr} (h : as[i]? = some a) : ∃ l, ls[i]? = some l ∧ H a = some (.lst (nL l)) := by
  have hi : i < ls.length := by
    rw [← r.len]
    exact (List.getElem?_eq_some_iff.mp h).1
  exact ⟨_, List.getElem?_eq_getElem hi, r.at_ i a _ h (List.getElem?_eq_getElem hi)⟩
theorem RowsAt.get' {H : Hp} {as : List Addr} {ls : List (List Nat)} (r : RowsAt H as ls) {i : Nat} {l : List Nat} (h : ls[i]? = some l) : ∃ a, as[i]? = some a ∧ H a = some (.lst (nL l)) := by
  have hi : i < as.length := by
    rw [r.len]
    exact (List.getElem?_eq_some_iff.mp h).1
  exact ⟨_, List.getElem?_eq_getElem hi, r.at_ i _ l (List.getElem?_eq_getElem hi) h⟩
theorem RowsAt.same {H H' : Hp} {as : List Addr} {ls : List (List Nat)} (r : RowsAt H as ls) (h : ∀ a ∈ as, ∀ o, H a = some o → H' a = some o) : RowsAt H' as ls :=
  ⟨r.len, fun i a l h1 h2 => h a (List.mem_of_getElem? h1) _ (r.at_ i a l h1 h2)⟩
theorem RowsAt.there {H : Hp} {as : List Addr} {ls : List (List Nat)} (r : RowsAt H as ls) {a : Addr} (h : a ∈ as) : ∃ l, H a = some (.lst (nL l)) := by
  obtain ⟨i, hi⟩ := List.mem_iff_getElem?.mp h
  obtain ⟨l, _, e⟩ := r.get hi
  exact ⟨l, e⟩
theorem RowsAt.snoc {H : Hp} {as : List Addr} {ls : List (List Nat)} (r : RowsAt H as ls) {a : Addr} {l : List Nat} (h : H a = some (.lst (nL l))) : RowsAt H (as ++ [a]) (ls ++ [l]) := by
  refine ⟨by rw [List.length_append, List.length_append, r.len]; rfl, fun i b m h1 h2 => ?_⟩
  rcases Nat.lt_or_ge i as.length with q | q
  · rw [List.getElem?_append_left q] at h1
    rw [List.getElem?_append_left (by rw [← r.len]; exact q)] at h2
    exact r.at_ i b m h1 h2
  · rw [List.getElem?_append_right q] at h1
    rw [List.getElem?_append_right (by rw [← r.len]; exact q), ← r.len] at h2
    cases e : i - as.length with
    | zero =>
      rw [e] at h1 h2
      cases h1
      cases h2
      exact h
    | succ j =>
      rw [e] at h1
      simp at h1
theorem getElem?_map_some {α β : Type} {f : α → β} {l : List α} {i : Nat} {y : β} (h : (l.map f)[i]? = some y) : ∃ x, l[i]? = some x ∧ y = f x := by
  rw [List.getElem?_map] at h
  obtain ⟨x, h1, h2⟩ := Option.map_eq_some_iff.mp h
  exact ⟨x, h1, h2.symm⟩
theorem take_snoc {α : Type} {l : List α} {i : Nat} {x : α} (h : l[i]? = some x) : l.take (i + 1) = l.take i ++ [x] := by
  obtain ⟨hi, e⟩ := List.getElem?_eq_some_iff.mp h
  rw [List.take_succ, h]; rfl
theorem drop_at {α : Type} {l : List α} {i : Nat} {x : α} (h : l[i]? = some x) : l.drop i = x :: l.drop (i + 1) := by
  obtain ⟨hi, e⟩ := List.getElem?_eq_some_iff.mp h
  rw [List.drop_eq_getElem_cons hi, e]
theorem seqL {K : PySem.W.Frag} {H H' : Hp} {a : Addr} {xs : List V} (h : SqL K H a xs) (s : Same H H') : SqL K H' a xs := s.seq h
theorem small_line {n : Nat} (h : n ≤ 1000000) : n < sizeLine := Nat.lt_of_le_of_lt h (by rw [sizeLine_eq]; decide)
theorem small_line' {n : Nat} (h : n ≤ 1000000) : n ≤ sizeLine := Nat.le_of_lt (small_line h)
/-- an error Refused with the number r may leave -/
def Ref (a : Ad) (H : Hp) (E : XK) (r : Int) : Prop := ∀ (H' : Hp) (d : Addr), Same H H' → H d = none → H' d = some (.xd [(("refusal" : Str), .int r)]) → E (.ref a.CR) (some d) H'
theorem Ref.mono {a : Ad} {H H1 : Hp} {E : XK} {r : Int} (x : Ref a H E r) (s : Same H H1) : Ref a H1 E r := fun H' d s' hd e => x H' d (s.trans s') (s.free hd) e
theorem framesF_fuel : ∀ (n m k : Nat) (l : RL), l.length ≤ n → l.length ≤ m → framesF n k l = framesF m k l
  | 0, m, k, l, h1, _ => by
    have : l = [] := List.length_eq_zero_iff.mp (by omega)
    subst this
    cases m <;> simp [framesF]
  | n + 1, 0, k, l, _, h2 => by
    have : l = [] := List.length_eq_zero_iff.mp (by omega)
    subst this
    simp [framesF]
  | n + 1, m + 1, k, l, h1, h2 => by
    simp only [framesF]
    by_cases c : l = []
    · rw [if_pos c, if_pos c]
    · rw [if_neg c, if_neg c]
      have hp : 1 ≤ sizeF k l := by
        have hl : 1 ≤ l.length := by cases l <;> simp_all
        unfold sizeF tenNeed
        split
        · omega
        · split <;> omega
      have hl : 1 ≤ l.length := by cases l <;> simp_all
      rw [framesF_fuel n m (k + 1) (l.drop (sizeF k l)) (by rw [List.length_drop]; omega) (by rw [List.length_drop]; omega)]
end Bw

/-! a rule of our own: the sum of a tuple -/
namespace Bw
open PySem PySem.Spec PyProof.Rows L2
def rSumT (K : PySem.W.Frag) : List V → Hp → VK → Prop := fun vs H Q => ∃ (a : Addr) (ns : List Int), vs = [V.ref a] ∧ SqT K H a (ns.map V.int) ∧ Q (.int ns.sum) H
theorem cr_sumT {X : Cx} (hc : X.calm = true) : CallR X (.builtin "sum") (rSumT X.K) := by
  intro pins s σ H vs us Q I r h
  obtain ⟨a, ns, rfl, hs, q⟩ := h
  obtain ⟨its, rv, hl, _⟩ := I.tuple hs
  rw [Vals.ref1 r]
  have hi := rv.ints
  obtain ⟨xs, e⟩ := hi.allInts.items
  have hn : numsOf (intItems xs).toList = ns := by rw [← e]; exact hi.numsOf
  rw [nums_intItems] at hn
  rw [e] at hl
  refine PySem.W.ktm_sumG (I.ok.hd hc) hl fun h' tk t' hk => ?_
  refine ⟨.int _, H, I.kept hk, ⟨_, rfl⟩, ?_⟩
  rw [preSum_eq, List.take_of_length_le (by simp), hn]; exact q
end Bw

/-! the walk: pins, part one -/
namespace Bw
open PySem PySem.Spec PyProof.Rows L2
theorem nvl {k n : Nat} {i : Int} (h : (n : Int) = i) : (nV k = V.int i) ↔ k = n := by
  rw [← h]; exact nV_inj
theorem bq {a b : Nat} : (a == b) = decide (a = b) := rfl
theorem bqL {a b : List Nat} : (a == b) = decide (a = b) := by
  rw [Bool.eq_iff_iff, decide_eq_true_iff]
  exact beq_iff_eq
section
variable {K : PySem.W.Frag} {H : Hp} {Q : VK}
theorem lp {l : Addr} {xs : List V} (h : H l = some (.lst xs)) : SqL K H l xs := .inl (.inl h)
theorem lpn {p : Addr} {xs : List V} : SqL K (upd H p (.lst xs)) p xs := .inl (.inl upd_same)
theorem tpn {p : Addr} {xs : List V} : SqT K (upd H p (.tup xs)) p xs := .inl (.inl upd_same)
theorem sqi {l : Addr} {ns : RL} (hl : SqL K H l (nL ns)) : SqL K H l ((ns.map fun (x : Nat) => (x : Int)).map V.int) := by rw [← nL_ints]; exact hl
theorem r_to {l : Addr} {ns : RL} {n : Nat} {i : Int} (e : (n : Int) = i) (hl : SqL K H l (nL ns)) (q : ∀ p, H p = none → Q (.ref p) (upd H p (.lst (nL (ns.take n))))) : rSlL K (.ref l) none (some i) H Q :=
  ⟨l, _, rfl, hl, fun p hp => by rw [← e, cutV_to, nL_take]; exact q p hp⟩
theorem r_from {l : Addr} {ns : RL} {n : Nat} (hl : SqL K H l (nL ns)) (q : ∀ p, H p = none → Q (.ref p) (upd H p (.lst (nL (ns.drop n))))) : rSlL K (.ref l) (some (n : Int)) none H Q :=
  ⟨l, _, rfl, hl, fun p hp => by rw [cutV_from, nL_drop]; exact q p hp⟩
theorem r_mid {l : Addr} {ns : RL} {n m : Nat} {i : Int} (e : ((n + m : Nat) : Int) = i) (hl : SqL K H l (nL ns)) (q : ∀ p, H p = none → Q (.ref p) (upd H p (.lst (nL ((ns.drop n).take m))))) : rSlL K (.ref l) (some (n : Int)) (some i) H Q :=
  ⟨l, _, rfl, hl, fun p hp => by rw [← e, cutV_mid, nL_drop, nL_take]; exact q p hp⟩
theorem ten_eq (l : RL) : (2 : Int) + (if decide ((10 : Int) ≤ ((l.take 2).sum : Nat)) = true then 1 else 0) = ((tenNeed l : Nat) : Int) := by
  unfold tenNeed b2n
  by_cases h : 10 ≤ (l.take 2).sum
  · rw [decide_eq_true h, decide_eq_true (show (10 : Int) ≤ _ by omega)]; rfl
  · rw [decide_eq_false h, decide_eq_false (show ¬ (10 : Int) ≤ _ by omega)]; rfl
theorem ten_run {σ : L2.St} {l : Addr} {ns : RL} (h1 : σ[1]? = some (some (.ref l))) (hl : SqL K H l (nL ns)) (q : ∀ H', Same H H' → Q (nV (tenNeed ns)) H') :
    (tOp rAddI (tC (.int 2)) (tCB rInt1 (tCons (tOp rGeI (tCB (rSum K) (tCons (tSl (rSlL K) (tVar 1) tNoPart (tPart (tC (.int 2)))) tNil)) (tC (.int (10)))) tNil))) σ H Q := by
  refine ⟨_, h1, 2, rfl, r_to (n := 2) rfl hl fun p hp => ?_⟩
  refine ⟨p, _, rfl, sqi lpn, ?_⟩
  rw [sum_ints]
  refine ⟨_, _, rfl, rfl, .inr ⟨_, rfl, _, _, rfl, rfl, ?_⟩⟩
  exact val_of (congrArg V.int (ten_eq ns)) (q _ (same_upd hp))
theorem shaped_nats (l : RL) : SeqAt.shaped (.list (l.map fun (x : Nat) => PyData.int (x : Int))) = true := by
  have h := PySem.W.shaped_ints (l.map fun (x : Nat) => (x : Int))
  rw [List.map_map] at h
  exact h
theorem shaped_natsT (l : RL) : SeqAt.shaped (.tuple (l.map fun (x : Nat) => PyData.int (x : Int))) = true := by
  have h1 := PySem.W.depthAll_ints (l.map fun (x : Nat) => (x : Int))
  have h2 := PySem.W.canLayAll0_ints (l.map fun (x : Nat) => (x : Int))
  rw [List.map_map] at h1 h2
  have h3 : PyData.depth (.tuple (l.map fun (x : Nat) => PyData.int (x : Int))) ≤ 64 := by
    rw [PyData.depth]
    exact Nat.le_trans (Nat.add_le_add_right h1 1) (show 1 + 1 ≤ 64 by decide)
  show (PyData.canLay0 (.tuple (l.map fun (x : Nat) => PyData.int (x : Int))) && decide (PyData.depth (.tuple (l.map fun (x : Nat) => PyData.int (x : Int))) ≤ 64)) = true
  rw [Bool.and_eq_true]
  exact ⟨by simp only [PyData.canLay0]; exact h2, decide_eq_true h3⟩
theorem isTen {l : Addr} {ns : RL} {p : Addr} (hl : SqL K H l (nL ns)) (hp : SqL K H p [.int 10]) (q : Q (.bl (decide (ns = [10]))) H) : rEqD K (.ref l) (.ref p) H Q := by
  refine ⟨_, _, .lst hl (dp_ints ns), .lst hp (.cons (.int 10) .nil), ?_, rfl, ?_⟩
  · exact shaped_nats ns
  · have := eqvAll_ints ns [10]
    exact val_of (congrArg V.bl this) q
end
/-- size_of_frame(number, rolls) -/
def sp_size_of_frame (P : Program) (w : World) (K : PySem.W.Frag) (a : Ad) : Sp := fun vs H Q _ => ∃ (k : Nat) (l : Addr) (ns : List Nat), vs = [nV k, .ref l] ∧ SqL K H l (nL ns) ∧ ∀ H', Same H H' → Q (nV (sizeF k ns)) H'
theorem l_size_of_frame {P : Program} {w : World} {K : PySem.W.Frag} {a : Ad} : ∀ vs H Q E, sp_size_of_frame P w K a vs H Q E → vs.length = 2 := by
  rintro vs H Q E ⟨k, l, ns, rfl, _⟩; rfl
abbrev s_size_of_frame : Stmt := top 4
abbrev N_size_of_frame : List Str := ["number", "rolls"]
theorem sc_size_of_frame : FnScope N_size_of_frame ["number", "rolls"] (defScope s_size_of_frame) := ⟨rfl, rfl, rfl, by decide +kernel, rfl, by decide +kernel, by decide +kernel⟩
def t_size_of_frame (P : Program) (w : World) (K : PySem.W.Frag) (a : Ad) (E : XK) : TS :=
  (tSeq (tIfS (tTest (tOp rEq (tVar 0) (tC (.int (9))))) (tRet (tCB rMin2 (tCons (tCB (rLenB K) (tCons (tVar 1) tNil)) (tCons (tOp rAddI (tC (.int 2)) (tCB rInt1 (tCons (tOp rGeI (tCB (rSum K) (tCons (tSl (rSlL K) (tVar 1) tNoPart (tPart (tC (.int 2)))) tNil)) (tC (.int (10)))) tNil))) tNil)))) tNext)
  (tSeq (tIfS (tTest (tOp (rEqD K) (tSl (rSlL K) (tVar 1) tNoPart (tPart (tC (.int 1)))) (tLst (tCons (tC (.int (10))) tNil)))) (tRet (tC (.int 1))) tNext)
  (tRet (tCB rMin2 (tCons (tCB (rLenB K) (tCons (tVar 1) tNil)) (tCons (tC (.int 2)) tNil))))))
theorem d_size_of_frame {P : Program} {w : World} {K : PySem.W.Frag} {mg : Str → Option Value} {base : Heap} {a : Ad} (T : Txt K mg a)  {f : Addr} {cdv : Value} {A : Around} {outer : List Env} {s : Shared} {H : Hp} {E : XK}
    (hr : Room 0 (A.deeper (envOfC "size_of_frame" (defScope s_size_of_frame) s.heap.objs.size f cdv))) : PSs (cxOf CX0 P w K mg base N_size_of_frame "size_of_frame" (defScope s_size_of_frame) f cdv A outer s H E).nox (defBody s_size_of_frame) (t_size_of_frame P w K a E) :=
  (pss_cons (ps_if (pt_cmpR op_eq (pv 0) (pgi T.g_LAST rfl) (nomark _)) (pss_one (ps_ret (pe_callB (call_min2 rfl) (by rfl) T.n_min boot_min2 (pa_cons (pe_callB call_len (by rfl) T.n_len PySem.boot_len (pa_cons (pv 1) pa_nil)) (pa_cons (pe_op op_add pe_int (pe_callTy call_int1 (by rfl) T.n_int boot_int2 (pa_cons (pe_cmpR op_ge (pe_callB (cr_sum rfl) (by rfl) T.n_sum boot_sum2 (pa_cons (pe_slice sl_list (pv 1) po_none (po_some pe_int)) pa_nil)) (pgi T.g_PINS rfl) (nomark _)) pa_nil))) pa_nil))))) pss_nil)
  (pss_cons (ps_if (pt_cmpR (op_eqD hr.units) (pe_slice sl_list (pv 1) po_none (po_some pe_int)) (pe_lst (pa_cons (pgi T.g_PINS rfl) pa_nil)) (nomark _)) (pss_one (ps_ret pe_int)) pss_nil)
  (pss_one (ps_ret (pe_callB (call_min2 rfl) (by rfl) T.n_min boot_min2 (pa_cons (pe_callB call_len (by rfl) T.n_len PySem.boot_len (pa_cons (pv 1) pa_nil)) (pa_cons pe_int pa_nil)))))))
theorem p_size_of_frame {P : Program} {w : World} {K : PySem.W.Frag} {mg : Str → Option Value} {a : Ad} (T : Txt K mg a) {vs : List V} {H : Hp} {Q : VK} {E : XK} (h : sp_size_of_frame P w K a vs H Q E) :
    t_size_of_frame P w K a E { nx := fun _ H' => Q .non H', rt := Q } (start N_size_of_frame vs) H := by
  obtain ⟨k, l, ns, rfl, hl, q⟩ := h
  refine ⟨_, rfl, rfl, _, rfl, ?_⟩
  refine ite_d (fun c => ?_) (fun c => ?_)
  · have c' : k = 9 := (nvl (n := 9) rfl).mp c
    refine ⟨_, rfl, _, _, rfl, .inl ⟨_, hl, rfl⟩, ?_⟩
    refine ten_run rfl hl fun H' s => ?_
    refine ⟨_, _, rfl, ?_⟩
    refine val_of ?_ (q H' s)
    unfold sizeF nV
    rw [if_pos c', nL_length]
    split <;> congr 1 <;> omega
  · have c' : ¬ k = 9 := fun e => c ((nvl (n := 9) rfl).mpr e)
    refine ⟨_, rfl, 1, rfl, r_to (n := 1) rfl hl fun p hp => ⟨by decide, fun p2 hp2 => ?_⟩⟩
    have n1 : p ≠ p2 := ne_of_none (by rw [upd_same]) hp2
    have s2 : Same H (upd (upd H p (.lst (nL (ns.take 1)))) p2 (.lst [.int 10])) := (same_upd hp).trans (same_upd hp2)
    refine isTen (ns := ns.take 1) (lp ?_) lpn ⟨_, rfl, ?_⟩
    · rw [upd_ne n1, upd_same]
    · refine ite_d (fun c2 => ?_) (fun c2 => ?_)
      · refine val_of ?_ (q _ s2)
        unfold sizeF; rw [if_neg c', if_pos c2]; rfl
      · refine ⟨_, rfl, _, _, rfl, .inl ⟨_, s2.seq hl, rfl⟩, _, _, rfl, ?_⟩
        refine val_of ?_ (q _ s2)
        unfold sizeF nV
        rw [if_neg c', if_neg c2, nL_length]
        split <;> congr 1 <;> omega
theorem ok_size_of_frame {P : Program} {w : World} {K : PySem.W.Frag} {mg : Str → Option Value} {base : Heap} {a : Ad} (T : Txt K mg a) : CalB P w K mg base CX0 1 "size_of_frame" (sp_size_of_frame P w K a) :=
  CalB.mk0 T.f_size_of_frame sc_size_of_frame l_size_of_frame fun f cdv A outer s H vs Q E hr h => ⟨_, d_size_of_frame T  hr, p_size_of_frame T h⟩
/-- is_over(number, frame) -/
def sp_is_over (P : Program) (w : World) (K : PySem.W.Frag) (a : Ad) : Sp := fun vs H Q _ => ∃ (k : Nat) (l : Addr) (ns : List Nat), vs = [nV k, .ref l] ∧ SqL K H l (nL ns) ∧ ∀ H', Same H H' → Q (.bl (isOver k ns)) H'
theorem l_is_over {P : Program} {w : World} {K : PySem.W.Frag} {a : Ad} : ∀ vs H Q E, sp_is_over P w K a vs H Q E → vs.length = 2 := by
  rintro vs H Q E ⟨k, l, ns, rfl, _⟩; rfl
abbrev s_is_over : Stmt := top 6
abbrev N_is_over : List Str := ["number", "frame"]
theorem sc_is_over : FnScope N_is_over ["number", "frame"] (defScope s_is_over) := ⟨rfl, rfl, rfl, by decide +kernel, rfl, by decide +kernel, by decide +kernel⟩
def t_is_over (P : Program) (w : World) (K : PySem.W.Frag) (a : Ad) (E : XK) : TS :=
  (tSeq (tIfS (tTest (tOp rEq (tVar 0) (tC (.int (9))))) (tRet (tOp rEq (tCB (rLenB K) (tCons (tVar 1) tNil)) (tOp rAddI (tC (.int 2)) (tCB rInt1 (tCons (tOp rGeI (tCB (rSum K) (tCons (tSl (rSlL K) (tVar 1) tNoPart (tPart (tC (.int 2)))) tNil)) (tC (.int (10)))) tNil))))) tNext)
  (tRet (tOrV (tOp rEq (tCB (rLenB K) (tCons (tVar 1) tNil)) (tC (.int 2))) (tOp (rEqD K) (tVar 1) (tLst (tCons (tC (.int (10))) tNil))))))
theorem d_is_over {P : Program} {w : World} {K : PySem.W.Frag} {mg : Str → Option Value} {base : Heap} {a : Ad} (T : Txt K mg a)  {f : Addr} {cdv : Value} {A : Around} {outer : List Env} {s : Shared} {H : Hp} {E : XK}
    (hr : Room 0 (A.deeper (envOfC "is_over" (defScope s_is_over) s.heap.objs.size f cdv))) : PSs (cxOf CX0 P w K mg base N_is_over "is_over" (defScope s_is_over) f cdv A outer s H E).nox (defBody s_is_over) (t_is_over P w K a E) :=
  (pss_cons (ps_if (pt_cmpR op_eq (pv 0) (pgi T.g_LAST rfl) (nomark _)) (pss_one (ps_ret (pe_cmpR op_eq (pe_callB call_len (by rfl) T.n_len PySem.boot_len (pa_cons (pv 1) pa_nil)) (pe_op op_add pe_int (pe_callTy call_int1 (by rfl) T.n_int boot_int2 (pa_cons (pe_cmpR op_ge (pe_callB (cr_sum rfl) (by rfl) T.n_sum boot_sum2 (pa_cons (pe_slice sl_list (pv 1) po_none (po_some pe_int)) pa_nil)) (pgi T.g_PINS rfl) (nomark _)) pa_nil))) (nomark _)))) pss_nil)
  (pss_one (ps_ret (pe_or (pe_cmpR op_eq (pe_callB call_len (by rfl) T.n_len PySem.boot_len (pa_cons (pv 1) pa_nil)) pe_int (nomark _)) (pe_one (pe_cmpR (op_eqD hr.units) (pv 1) (pe_lst (pa_cons (pgi T.g_PINS rfl) pa_nil)) (nomark _)))))))
theorem p_is_over {P : Program} {w : World} {K : PySem.W.Frag} {mg : Str → Option Value} {a : Ad} (T : Txt K mg a) {vs : List V} {H : Hp} {Q : VK} {E : XK} (h : sp_is_over P w K a vs H Q E) :
    t_is_over P w K a E { nx := fun _ H' => Q .non H', rt := Q } (start N_is_over vs) H := by
  obtain ⟨k, l, ns, rfl, hl, q⟩ := h
  refine ⟨_, rfl, rfl, _, rfl, ?_⟩
  refine ite_d (fun c => ?_) (fun c => ?_)
  · have c' : k = 9 := (nvl (n := 9) rfl).mp c
    refine ⟨_, rfl, _, _, rfl, .inl ⟨_, hl, rfl⟩, ?_⟩
    refine ten_run rfl hl fun H' s => ?_
    refine ⟨rfl, ?_⟩
    refine val_of ?_ (q H' s)
    unfold isOver
    rw [if_pos c', nL_length]
    congr 1
    show decide (nV ns.length = nV (tenNeed ns)) = _
    rw [bq]
    exact decide_eq_decide.mpr nV_inj
  · have c' : ¬ k = 9 := fun e => c ((nvl (n := 9) rfl).mpr e)
    refine ⟨_, rfl, _, _, rfl, .inl ⟨_, hl, rfl⟩, rfl, _, rfl, ?_⟩
    rw [nL_length]
    have e : decide (nV ns.length = V.int 2) = (ns.length == 2) := by
      rw [bq]
      exact decide_eq_decide.mpr (by rw [show V.int 2 = nV 2 from rfl]; exact nV_inj)
    refine ite_b (fun c2 => ?_) (fun c2 => ?_)
    · refine val_of ?_ (q H (Same.refl H))
      have c3 : (ns.length == 2) = true := e ▸ c2
      unfold isOver; rw [if_neg c', c3]; rfl
    · have c3 : (ns.length == 2) = false := e ▸ c2
      refine ⟨_, rfl, by decide, fun p hp => ?_⟩
      refine isTen (ns := ns) ((same_upd hp).seq hl) (.inl (.inl upd_same)) ?_
      refine val_of ?_ (q _ (same_upd hp))
      unfold isOver; rw [if_neg c', c3, Bool.false_or, bqL]
theorem ok_is_over {P : Program} {w : World} {K : PySem.W.Frag} {mg : Str → Option Value} {base : Heap} {a : Ad} (T : Txt K mg a) : CalB P w K mg base CX0 1 "is_over" (sp_is_over P w K a) :=
  CalB.mk0 T.f_is_over sc_is_over l_is_over fun f cdv A outer s H vs Q E hr h => ⟨_, d_is_over T  hr, p_is_over T h⟩
/-- left_of(frame), of a list -/
def sp_left_of (P : Program) (w : World) (K : PySem.W.Frag) (a : Ad) : Sp := fun vs H Q _ => ∃ (l : Addr) (ns : List Nat), vs = [.ref l] ∧ SqL K H l (nL ns) ∧ Q (.int (leftI ns)) H
theorem l_left_of {P : Program} {w : World} {K : PySem.W.Frag} {a : Ad} : ∀ vs H Q E, sp_left_of P w K a vs H Q E → vs.length = 1 := by
  rintro vs H Q E ⟨l, ns, rfl, _⟩; rfl
def leftStep (left : Int) (r : Nat) : Int := if left - r = 0 then 10 else left - r
theorem leftI_take {ns : RL} {i : Nat} {r : Nat} (h : ns[i]? = some r) : leftI (ns.take (i + 1)) = leftStep (leftI (ns.take i)) r := by
  rw [take_snoc h]; unfold leftI; rw [List.foldl_append]; rfl
abbrev s_left_of : Stmt := top 8
abbrev N_left_of : List Str := ["frame", "left", "roll"]
theorem sc_left_of : FnScope N_left_of ["frame"] (defScope s_left_of) := ⟨rfl, rfl, rfl, by decide +kernel, rfl, by decide +kernel, by decide +kernel⟩
def t_left_of (P : Program) (w : World) (K : PySem.W.Frag) (a : Ad) (E : XK) : TS :=
  (tSeq (tAsg (tC (.int (10))) (gName 1))
  (tSeq (tFor (iList K (tVar 0)) (gName 2) (tSeq (tAug 1 (tVar 2) ipSub)
  (tIfS (tTest (tOp rEq (tVar 1) (tC (.int 0)))) (tAsg (tC (.int (10))) (gName 1)) tNext)))
  (tRet (tVar 1))))
theorem d_left_of {P : Program} {w : World} {K : PySem.W.Frag} {mg : Str → Option Value} {base : Heap} {a : Ad} (T : Txt K mg a)  {f : Addr} {cdv : Value} {A : Around} {outer : List Env} {s : Shared} {H : Hp} {E : XK}
    (hr : Room 0 (A.deeper (envOfC "left_of" (defScope s_left_of) s.heap.objs.size f cdv))) : PSs (cxOf CX0 P w K mg base N_left_of "left_of" (defScope s_left_of) f cdv A outer s H E).nox (defBody s_left_of) (t_left_of P w K a E) :=
  (pss_cons (ps_set (i := 1) sc_left_of.nd rfl (by first | exact Or.inl rfl | exact Or.inr rfl) (pgi T.g_PINS rfl))
  (pss_cons (ps_for (PassesOwn.never) rfl (pi_list (pv 0)) (pg_name (i := 2) sc_left_of.nd rfl (by first | exact Or.inl rfl | exact Or.inr rfl)) (pss_cons (ps_aug (i := 1) sc_left_of.nd rfl (by first | exact Or.inl rfl | exact Or.inr rfl) (pv 2) ip_sub)
  (pss_one (ps_if (pt_cmpR op_eq (pv 1) pe_int (nomark _)) (pss_one (ps_set (i := 1) sc_left_of.nd rfl (by first | exact Or.inl rfl | exact Or.inr rfl) (pgi T.g_PINS rfl))) pss_nil))))
  (pss_one (ps_ret (pv 1)))))
abbrev s_left_of__T : Stmt := top 8
abbrev N_left_of__T : List Str := ["frame", "left", "roll"]
theorem sc_left_of__T : FnScope N_left_of__T ["frame"] (defScope s_left_of__T) := ⟨rfl, rfl, rfl, by decide +kernel, rfl, by decide +kernel, by decide +kernel⟩
def t_left_of__T (P : Program) (w : World) (K : PySem.W.Frag) (a : Ad) (E : XK) : TS :=
  (tSeq (tAsg (tC (.int (10))) (gName 1))
  (tSeq (tFor (iTup K (tVar 0)) (gName 2) (tSeq (tAug 1 (tVar 2) ipSub)
  (tIfS (tTest (tOp rEq (tVar 1) (tC (.int 0)))) (tAsg (tC (.int (10))) (gName 1)) tNext)))
  (tRet (tVar 1))))
theorem d_left_of__T {P : Program} {w : World} {K : PySem.W.Frag} {mg : Str → Option Value} {base : Heap} {a : Ad} (T : Txt K mg a)  {f : Addr} {cdv : Value} {A : Around} {outer : List Env} {s : Shared} {H : Hp} {E : XK}
    (hr : Room 0 (A.deeper (envOfC "left_of" (defScope s_left_of__T) s.heap.objs.size f cdv))) : PSs (cxOf CX0 P w K mg base N_left_of__T "left_of" (defScope s_left_of__T) f cdv A outer s H E).nox (defBody s_left_of__T) (t_left_of__T P w K a E) :=
  (pss_cons (ps_set (i := 1) sc_left_of__T.nd rfl (by first | exact Or.inl rfl | exact Or.inr rfl) (pgi T.g_PINS rfl))
  (pss_cons (ps_for (PassesOwn.never) rfl (pi_tup (pv 0)) (pg_name (i := 2) sc_left_of__T.nd rfl (by first | exact Or.inl rfl | exact Or.inr rfl)) (pss_cons (ps_aug (i := 1) sc_left_of__T.nd rfl (by first | exact Or.inl rfl | exact Or.inr rfl) (pv 2) ip_sub)
  (pss_one (ps_if (pt_cmpR op_eq (pv 1) pe_int (nomark _)) (pss_one (ps_set (i := 1) sc_left_of__T.nd rfl (by first | exact Or.inl rfl | exact Or.inr rfl) (pgi T.g_PINS rfl))) pss_nil))))
  (pss_one (ps_ret (pv 1)))))
theorem left_turn {z : Option V} {ns : RL} {i : Nat} {x : V} {σ : L2.St} {H : Hp} {y : V} {Qn : L2.St → Hp → Prop} {Q : VK} {bk ct : L2.St → Hp → Prop} (hx : (nL ns)[i]? = some x) (e : σ = [some y, some (.int (leftI (ns.take i))), z])
    (q : ∀ z', Qn [some y, some (.int (leftI (ns.take (i + 1)))), z'] H) :
    (tSeq (tAug 1 (tVar 2) ipSub) (tIfS (tTest (tOp rEq (tVar 1) (tC (.int 0)))) (tAsg (tC (.int (10))) (gName 1)) tNext)) { nx := Qn, rt := Q, bk := bk, ct := ct } (σ.set 2 (some x)) H := by
  subst e
  obtain ⟨r, hr, rfl⟩ := getElem?_map_some hx
  refine ⟨_, rfl, _, rfl, _, _, rfl, rfl, _, rfl, rfl, _, rfl, ?_⟩
  rw [leftI_take hr] at q
  unfold leftStep at q
  refine ite_d (fun c => ?_) (fun c => ?_)
  · have c' : leftI (ns.take i) - (r : Int) = 0 := V.int.inj c
    rw [if_pos c'] at q
    exact q _
  · have c' : ¬ leftI (ns.take i) - (r : Int) = 0 := fun e => c (congrArg V.int e)
    rw [if_neg c'] at q
    exact q _
theorem p_left_of {P : Program} {w : World} {K : PySem.W.Frag} {mg : Str → Option Value} {a : Ad} (T : Txt K mg a) {vs : List V} {H : Hp} {Q : VK} {E : XK} (h : sp_left_of P w K a vs H Q E) :
    t_left_of P w K a E { nx := fun _ H' => Q .non H', rt := Q } (start N_left_of vs) H := by
  obtain ⟨l, ns, rfl, hl, q⟩ := h
  refine ⟨_, rfl, l, rfl, ⟨_, hl⟩, ?_⟩
  refine for_list (fun i σ H1 => H1 = H ∧ ∃ z, σ = [some (.ref l), some (.int (leftI (ns.take i))), z]) ⟨rfl, _, rfl⟩ (fun i σ H1 _ p => by rw [p.1]; exact hl) (fun i x σ H1 hx p => ?_) fun σ H1 p => ?_
  · obtain ⟨rfl, z, e⟩ := p
    exact left_turn hx e fun z' => ⟨rfl, _, rfl⟩
  · obtain ⟨rfl, z, rfl⟩ := p
    refine ⟨_, rfl, ?_⟩
    rw [nL_length, List.take_length]
    exact q
theorem ok_left_of {P : Program} {w : World} {K : PySem.W.Frag} {mg : Str → Option Value} {base : Heap} {a : Ad} (T : Txt K mg a) : CalB P w K mg base CX0 1 "left_of" (sp_left_of P w K a) :=
  CalB.mk0 T.f_left_of sc_left_of l_left_of fun f cdv A outer s H vs Q E hr h => ⟨_, d_left_of T  hr, p_left_of T h⟩
/-- left_of(frame), of a tuple -/
def sp_left_of__T (P : Program) (w : World) (K : PySem.W.Frag) (a : Ad) : Sp := fun vs H Q _ => ∃ (l : Addr) (ns : List Nat), vs = [.ref l] ∧ SqT K H l (nL ns) ∧ Q (.int (leftI ns)) H
theorem l_left_of__T {P : Program} {w : World} {K : PySem.W.Frag} {a : Ad} : ∀ vs H Q E, sp_left_of__T P w K a vs H Q E → vs.length = 1 := by
  rintro vs H Q E ⟨l, ns, rfl, _⟩; rfl
theorem p_left_of__T {P : Program} {w : World} {K : PySem.W.Frag} {mg : Str → Option Value} {a : Ad} (T : Txt K mg a) {vs : List V} {H : Hp} {Q : VK} {E : XK} (h : sp_left_of__T P w K a vs H Q E) :
    t_left_of__T P w K a E { nx := fun _ H' => Q .non H', rt := Q } (start N_left_of__T vs) H := by
  obtain ⟨l, ns, rfl, hl, q⟩ := h
  refine ⟨_, rfl, l, rfl, ⟨_, hl⟩, ?_⟩
  refine for_tup (fun i σ H1 => H1 = H ∧ ∃ z, σ = [some (.ref l), some (.int (leftI (ns.take i))), z]) ⟨rfl, _, rfl⟩ (fun i σ H1 _ p => by rw [p.1]; exact hl) (fun i x σ H1 hx p => ?_) fun σ H1 p => ?_
  · obtain ⟨rfl, z, e⟩ := p
    exact left_turn hx e fun z' => ⟨rfl, _, rfl⟩
  · obtain ⟨rfl, z, rfl⟩ := p
    refine ⟨_, rfl, ?_⟩
    rw [nL_length, List.take_length]
    exact q
theorem ok_left_of__T {P : Program} {w : World} {K : PySem.W.Frag} {mg : Str → Option Value} {base : Heap} {a : Ad} (T : Txt K mg a) : CalB P w K mg base CX0 1 "left_of" (sp_left_of__T P w K a) :=
  CalB.mk0 T.f_left_of sc_left_of__T l_left_of__T fun f cdv A outer s H vs Q E hr h => ⟨_, d_left_of__T T  hr, p_left_of__T T h⟩
/-- counting(number, frame) -/
def sp_counting (P : Program) (w : World) (K : PySem.W.Frag) (a : Ad) : Sp := fun vs H Q _ => ∃ (k : Nat) (l : Addr) (ns : List Nat), vs = [nV k, .ref l] ∧ SqL K H l (nL ns) ∧ ∀ H', Same H H' → Q (nV (countG k ns)) H'
theorem l_counting {P : Program} {w : World} {K : PySem.W.Frag} {a : Ad} : ∀ vs H Q E, sp_counting P w K a vs H Q E → vs.length = 2 := by
  rintro vs H Q E ⟨k, l, ns, rfl, _⟩; rfl
abbrev s_counting : Stmt := top 10
abbrev N_counting : List Str := ["number", "frame"]
theorem sc_counting : FnScope N_counting ["number", "frame"] (defScope s_counting) := ⟨rfl, rfl, rfl, by decide +kernel, rfl, by decide +kernel, by decide +kernel⟩
def t_counting (P : Program) (w : World) (K : PySem.W.Frag) (a : Ad) (E : XK) : TS :=
  (tSeq (tIfS (tTest (tOp rEq (tVar 0) (tC (.int (9))))) (tRet (tOp rAddI (tC (.int 2)) (tCB rInt1 (tCons (tOp rGeI (tCB (rSum K) (tCons (tSl (rSlL K) (tVar 1) tNoPart (tPart (tC (.int 2)))) tNil)) (tC (.int (10)))) tNil)))) tNext)
  (tSeq (tIfS (tTest (tOp rEq (tCB (rSum K) (tCons (tVar 1) tNil)) (tC (.int (10))))) (tRet (tC (.int 3))) tNext)
  (tRet (tC (.int 2)))))
theorem d_counting {P : Program} {w : World} {K : PySem.W.Frag} {mg : Str → Option Value} {base : Heap} {a : Ad} (T : Txt K mg a)  {f : Addr} {cdv : Value} {A : Around} {outer : List Env} {s : Shared} {H : Hp} {E : XK}
    (hr : Room 0 (A.deeper (envOfC "counting" (defScope s_counting) s.heap.objs.size f cdv))) : PSs (cxOf CX0 P w K mg base N_counting "counting" (defScope s_counting) f cdv A outer s H E).nox (defBody s_counting) (t_counting P w K a E) :=
  (pss_cons (ps_if (pt_cmpR op_eq (pv 0) (pgi T.g_LAST rfl) (nomark _)) (pss_one (ps_ret (pe_op op_add pe_int (pe_callTy call_int1 (by rfl) T.n_int boot_int2 (pa_cons (pe_cmpR op_ge (pe_callB (cr_sum rfl) (by rfl) T.n_sum boot_sum2 (pa_cons (pe_slice sl_list (pv 1) po_none (po_some pe_int)) pa_nil)) (pgi T.g_PINS rfl) (nomark _)) pa_nil))))) pss_nil)
  (pss_cons (ps_if (pt_cmpR op_eq (pe_callB (cr_sum rfl) (by rfl) T.n_sum boot_sum2 (pa_cons (pv 1) pa_nil)) (pgi T.g_PINS rfl) (nomark _)) (pss_one (ps_ret pe_int)) pss_nil)
  (pss_one (ps_ret pe_int))))
theorem p_counting {P : Program} {w : World} {K : PySem.W.Frag} {mg : Str → Option Value} {a : Ad} (T : Txt K mg a) {vs : List V} {H : Hp} {Q : VK} {E : XK} (h : sp_counting P w K a vs H Q E) :
    t_counting P w K a E { nx := fun _ H' => Q .non H', rt := Q } (start N_counting vs) H := by
  obtain ⟨k, l, ns, rfl, hl, q⟩ := h
  refine ⟨_, rfl, rfl, _, rfl, ?_⟩
  refine ite_d (fun c => ?_) (fun c => ?_)
  · have c' : k = 9 := (nvl (n := 9) rfl).mp c
    refine ten_run rfl hl fun H' s => ?_
    refine val_of ?_ (q H' s)
    unfold countG
    rw [if_pos c']
  · have c' : ¬ k = 9 := fun e => c ((nvl (n := 9) rfl).mpr e)
    refine ⟨_, rfl, l, _, rfl, (by rw [← nL_ints]; exact hl), rfl, _, rfl, ?_⟩
    rw [sum_ints]
    refine ite_d (fun c2 => ?_) (fun c2 => ?_)
    · have c3 : ns.sum = 10 := (nvl (n := 10) rfl).mp c2
      refine val_of ?_ (q H (Same.refl H))
      unfold countG
      rw [if_neg c', if_pos c3]; rfl
    · have c3 : ¬ ns.sum = 10 := fun e => c2 ((nvl (n := 10) rfl).mpr e)
      refine val_of ?_ (q H (Same.refl H))
      unfold countG
      rw [if_neg c', if_neg c3]; rfl
theorem ok_counting {P : Program} {w : World} {K : PySem.W.Frag} {mg : Str → Option Value} {base : Heap} {a : Ad} (T : Txt K mg a) : CalB P w K mg base CX0 1 "counting" (sp_counting P w K a) :=
  CalB.mk0 T.f_counting sc_counting l_counting fun f cdv A outer s H vs Q E hr h => ⟨_, d_counting T  hr, p_counting T h⟩
end Bw

/-! the walk: pins, part two -/
namespace Bw
open PySem PySem.Spec PyProof.Rows L2
theorem same_put {H H1 : Hp} {p : Addr} {o o' : HO} (s : Same H H1) (hp : H p = none) : Same H (upd H1 p o) := fun b u e => by
  rw [upd_ne (ne_of_none e hp)]; exact s b u e
theorem tyL {K : PySem.W.Frag} {H : Hp} {p : Addr} {xs : List V} (h : SqL K H p xs) : tyV K "list" (.ref p) H := .inl ⟨rfl, _, h⟩
theorem tyLp {K : PySem.W.Frag} {H : Hp} {p : Addr} {xs : List V} (h : H p = some (.lst xs)) : tyV K "list" (.ref p) H := tyL (lp h)
theorem ne_new {H : Hp} {a b : Addr} {o o' : HO} (h : H a = some o) (h' : H b = none) : a ≠ b := ne_of_none h h'
/-- a comprehension whose turns change nothing -/
theorem lc_out {J : It} {n : Nat} {G : Hp → Prop} {Y : Nat → Hp → V → Hp → Prop} (w : Walk J n G Y) {g : TG} {tt : TT} {te : TE} {vs : List Nat} {σ : L2.St} {H1 : Hp} {Qd : Addr → Hp → Prop} (out : Nat → List V)
    (hn : n ≤ 1000000) (hY : ∀ i H x H', Y i H x H' → Same H H') (hG : ∀ H', Same H1 H' → G H') (h0 : out 0 = []) (hz : ∀ i, i < n → (out i).length ≤ i)
    (hs : ∀ i x Ha Hb (Qy : VK) (Qn : Hp → Prop), i < n → Same H1 Ha → Y i Ha x Hb → (∀ y H4, Same Hb H4 → out (i + 1) = out i ++ [y] → Qy y H4) → (∀ H3, Same Hb H3 → out (i + 1) = out i → Qn H3) →
      g x (wipe σ vs) Hb fun σ2 H2 => wipe σ2 vs = wipe σ vs ∧ tt σ2 H2 fun b H3 => if b = true then te σ2 H3 Qy else Qn H3)
    (hd : ∀ H' D, Same H1 H' → H1 D = none → H' D = some (.lst (out n)) → Qd D H') :
    ∀ D, H1 D = none → ∃ W : Nat → Nat → Hp → Prop, (∃ m, W 0 m (upd H1 D (.lst []))) ∧ ∀ i m H, W i m H →
      (J.stop i H ∧ Qd D H) ∨ (J.go i H ∧ ∃ Nx : Hp → Prop, (∀ H', Nx H' → ∃ m', m' < m ∧ W (i + 1) m' H') ∧ ∀ x H', J.yld i H x H' → g x (wipe σ vs) H' fun σ2 H2 => wipe σ2 vs = wipe σ vs ∧ tt σ2 H2 fun b H3 =>
        if b = true then te σ2 H3 fun y H4 => ∃ acc, H4 D = some (.lst acc) ∧ acc.length < sizeLine ∧ Nx (upd H4 D (.lst (acc ++ [y]))) else Nx H3) := by
  intro D hD
  refine lc_it w (fun i H => Same H1 H ∧ H D = some (.lst (out i))) ⟨same_upd hD, by rw [h0]; exact upd_same⟩ (fun i H _ p => hG H p.1) (fun i x Ha Hb hi p y => ?_) fun H p => hd H D p.1 hD p.2
  refine hs i x Ha Hb _ _ hi p.1 y (fun y4 H4 s e => ?_) fun H3 s e => ?_
  · have sD := s _ _ (hY _ _ _ _ y _ _ p.2)
    refine ⟨out i, sD, Nat.lt_of_le_of_lt (Nat.le_trans (hz i hi) (Nat.le_of_lt hi)) (Nat.lt_of_le_of_lt hn (small_line (Nat.le_refl _))), ?_, ?_⟩
    · exact same_put (o' := .lst []) ((p.1.trans (hY _ _ _ _ y)).trans s) hD
    · rw [upd_same, e]
  · exact ⟨(p.1.trans (hY _ _ _ _ y)).trans s, by rw [e]; exact s _ _ (hY _ _ _ _ y _ _ p.2)⟩
theorem yat_same {xs : List V} : ∀ i H x H', YAt xs i H x H' → Same H H' := fun i H x H' y => by rw [y.1]; exact Same.refl H
theorem yfn_same {f : Nat → V} : ∀ i H x H', YFn f i H x H' → Same H H' := fun i H x H' y => by rw [y.1]; exact Same.refl H
theorem ypair_same {xs ys : Nat → Option V} : ∀ i H x H', YPair xs ys i H x H' → Same H H' := fun i H x H' ⟨T, u, v, _, hT, e, _⟩ => by rw [e]; exact same_upd hT
/-- what a filter leaves, by the turns -/
def filt (p : Nat → Bool) (f : Nat → V) (i : Nat) : List V := ((List.range i).filter p).map f
theorem filt_zero (p : Nat → Bool) (f : Nat → V) : filt p f 0 = [] := rfl
theorem filt_yes {p : Nat → Bool} {f : Nat → V} {i : Nat} (h : p i = true) : filt p f (i + 1) = filt p f i ++ [f i] := by
  unfold filt; rw [List.range_succ, List.filter_append, List.filter_cons, if_pos h, List.map_append]; rfl
theorem filt_no {p : Nat → Bool} {f : Nat → V} {i : Nat} (h : p i = false) : filt p f (i + 1) = filt p f i := by
  unfold filt; rw [List.range_succ, List.filter_append, List.filter_cons, if_neg (by rw [h]; simp), List.filter_nil, List.append_nil]
theorem filt_len (p : Nat → Bool) (f : Nat → V) (i : Nat) : (filt p f i).length ≤ i := by
  unfold filt; rw [List.length_map]; exact Nat.le_trans (List.length_filter_le _ _) (by rw [List.length_range]; exact Nat.le_refl _)
theorem atI_end {xs : List V} {v : V} (h : xs.getLast? = some v) : atI xs (-1) = some v := by
  obtain ⟨ys, rfl⟩ := List.getLast?_eq_some_iff.mp h
  exact atI_last ys v
theorem getLast_at {α : Type} {l : List α} {i : Nat} (h : i + 1 = l.length) : l.getLast? = l[i]? := by
  rw [List.getLast?_eq_getElem?, ← h]; rfl
/-! ### frames_of -/
def sp_frames_of (P : Program) (w : World) (K : PySem.W.Frag) (a : Ad) : Sp := fun vs H Q _ => ∃ (l : Addr) (ns : List Nat), vs = [.ref l] ∧ SqL K H l (nL ns) ∧ ns.length ≤ 1000 ∧
  ∀ H' p as, Same H H' → H p = none → H' p = some (.lst (as.map V.ref)) → RowsAt H' as (framesOf ns) → Q (.ref p) H'
theorem l_frames_of {P : Program} {w : World} {K : PySem.W.Frag} {a : Ad} : ∀ vs H Q E, sp_frames_of P w K a vs H Q E → vs.length = 1 := by
  rintro vs H Q E ⟨l, ns, rfl, _⟩; rfl
abbrev s_frames_of : Stmt := top 5
abbrev N_frames_of : List Str := ["rolls", "found", "at", "size"]
theorem sc_frames_of : FnScope N_frames_of ["rolls"] (defScope s_frames_of) := ⟨rfl, rfl, rfl, by decide +kernel, rfl, by decide +kernel, by decide +kernel⟩
def t_frames_of (P : Program) (w : World) (K : PySem.W.Frag) (a : Ad) (E : XK) : TS :=
  (tSeq (tAsg (tLst tNil) (gName 1))
  (tSeq (tAsg (tC (.int 0)) (gName 2))
  (tSeq (tWhile (tTest (tOp rLtI (tVar 2) (tCB (rLenB K) (tCons (tVar 0) tNil)))) (tSeq (tAsg (tCall (sp_size_of_frame P w K a) [] E0 (tCons (tCB (rLenB K) (tCons (tVar 1) tNil)) (tCons (tSl (rSlL K) (tVar 0) (tPart (tVar 2)) tNoPart) tNil))) (gName 3))
  (tSeq (tDrop (tBM K "list" rAppend (tVar 1) (tCons (tSl (rSlL K) (tVar 0) (tPart (tVar 2)) (tPart (tOp rAddI (tVar 2) (tVar 3)))) tNil)))
  (tAug 2 (tVar 3) ipAdd))))
  (tRet (tVar 1)))))
theorem d_frames_of {P : Program} {w : World} {K : PySem.W.Frag} {mg : Str → Option Value} {base : Heap} {a : Ad} (T : Txt K mg a) (c_size_of_frame : CalB P w K mg base CX0 1 "size_of_frame" (sp_size_of_frame P w K a)) {f : Addr} {cdv : Value} {A : Around} {outer : List Env} {s : Shared} {H : Hp} {E : XK}
    (hr : Room 1 (A.deeper (envOfC "frames_of" (defScope s_frames_of) s.heap.objs.size f cdv))) : PSs (cxOf CX0 P w K mg base N_frames_of "frames_of" (defScope s_frames_of) f cdv A outer s H E).nox (defBody s_frames_of) (t_frames_of P w K a E) :=
  (pss_cons (ps_set (i := 1) sc_frames_of.nd rfl (by first | exact Or.inl rfl | exact Or.inr rfl) (pe_lst pa_nil))
  (pss_cons (ps_set (i := 2) sc_frames_of.nd rfl (by first | exact Or.inl rfl | exact Or.inr rfl) pe_int)
  (pss_cons (ps_while (PassesOwn.never) (pt_cmpR op_lt (pv 2) (pe_callB call_len (by rfl) T.n_len PySem.boot_len (pa_cons (pv 0) pa_nil)) (nomark _)) (pss_cons (ps_set (i := 3) sc_frames_of.nd rfl (by first | exact Or.inl rfl | exact Or.inr rfl) (pc c_size_of_frame hr (by decide) pass0 rfl (pa_cons (pe_callB call_len (by rfl) T.n_len PySem.boot_len (pa_cons (pv 1) pa_nil)) (pa_cons (pe_slice sl_list (pv 0) (po_some (pv 2)) po_none) pa_nil))))
  (pss_cons (ps_expr (pe_bm PySem.F.plainAttrs_list PySem.F.slot_list_append PySem.F.type_list_append mt_append (pv 1) (pa_cons (pe_slice sl_list (pv 0) (po_some (pv 2)) (po_some (pe_op op_add (pv 2) (pv 3)))) pa_nil)))
  (pss_one (ps_aug (i := 2) sc_frames_of.nd rfl (by first | exact Or.inl rfl | exact Or.inr rfl) (pv 3) ip_add)))))
  (pss_one (ps_ret (pv 1))))))
theorem sizeF_le (k : Nat) (l : RL) (h : l ≠ []) : 1 ≤ sizeF k l ∧ sizeF k l ≤ l.length := by
  have hl : 1 ≤ l.length := by cases l with
    | nil => exact absurd rfl h
    | cons x y => rw [List.length_cons]; omega
  unfold sizeF tenNeed
  split
  · omega
  · split <;> omega
theorem framesF_step {ns : RL} {n : Nat} (k : Nat) (h : n < ns.length) : framesF ns.length k (ns.drop n) = (ns.drop n).take (sizeF k (ns.drop n)) :: framesF ns.length (k + 1) (ns.drop (n + sizeF k (ns.drop n))) := by
  have hne : ns.drop n ≠ [] := fun e => by
    have := congrArg List.length e
    rw [List.length_drop, List.length_nil] at this
    omega
  obtain ⟨m, hm⟩ : ∃ m, ns.length = m + 1 := ⟨ns.length - 1, by omega⟩
  have e : framesF ns.length k (ns.drop n) = framesF (m + 1) k (ns.drop n) := by rw [hm]
  rw [e]
  show (if ns.drop n = [] then [] else _) = _
  rw [if_neg hne, List.drop_drop]
  have hs := sizeF_le k (ns.drop n) hne
  congr 1
  refine framesF_fuel _ _ _ _ ?_ ?_ <;> rw [List.length_drop] <;> omega
theorem p_frames_of {P : Program} {w : World} {K : PySem.W.Frag} {mg : Str → Option Value} {a : Ad} (T : Txt K mg a) {vs : List V} {H : Hp} {Q : VK} {E : XK} (h : sp_frames_of P w K a vs H Q E) :
    t_frames_of P w K a E { nx := fun _ H' => Q .non H', rt := Q } (start N_frames_of vs) H := by
  obtain ⟨l, ns, rfl, hl, hz, q⟩ := h
  refine ⟨by decide, fun p hp => ?_⟩
  refine while_by (fun σ H1 => ∃ (n : Nat) (as : List Addr) (z : Option V) (done : List RL), σ = [some (.ref l), some (.ref p), some (nV n), z] ∧ Same H H1 ∧ H1 p = some (.lst (as.map V.ref)) ∧ RowsAt H1 as done ∧ p ∉ as ∧ n ≤ ns.length ∧ done.length ≤ n ∧
      framesOf ns = done ++ framesF ns.length done.length (ns.drop n))
    (fun σ _ => match σ with
      | [_, _, some (.int n), _] => ns.length - n.toNat
      | _ => 0)
    ⟨0, [], _, [], rfl, same_upd hp, upd_same, RowsAt.nil _, by simp, Nat.zero_le _, Nat.zero_le _, by rw [List.drop_zero]; rfl⟩ (fun σ H1 g => ?_)
    (fun σ H Q Q' h ⟨v, e1, v2, e2, x, n, e3, e4, i, j, e5, e6, k, e7, q⟩ => ⟨v, e1, v2, e2, x, n, e3, e4, i, j, e5, e6, k, e7, h _ _ q⟩)
  obtain ⟨n, as, z, done, rfl, s1, hp1, hr, hpn, hn, hd, hf⟩ := g
  refine ⟨_, rfl, _, rfl, _, _, rfl, .inl ⟨_, s1.seq hl, rfl⟩, _, _, rfl, rfl, _, rfl, ?_⟩
  rw [nL_length]
  refine ite_d (fun c => ?_) (fun c => ?_)
  · have hlt : n < ns.length := Int.ofNat_lt.mp c
    refine ⟨_, rfl, _, _, rfl, .inl ⟨_, lp hp1, rfl⟩, _, rfl, _, rfl, n, rfl, l, _, rfl, s1.seq hl, ?_⟩
    rw [cutV_from, nL_drop]
    intro p2 hp2
    have n2 : p ≠ p2 := ne_of_none hp1 hp2
    have s2 := s1.trans (same_upd (o := .lst (nL (ns.drop n))) hp2)
    refine ⟨done.length, p2, ns.drop n, ?_, lpn, fun H3 s3 => ?_⟩
    · rw [List.length_map, hr.len]; rfl
    have hp3 : H3 p = some (.lst (as.map V.ref)) := s3 _ _ (by rw [upd_ne n2]; exact hp1)
    have s4 := s2.trans s3
    refine ⟨_, rfl, tyLp hp3, _, rfl, _, rfl, n, rfl, _, rfl, _, rfl, _, _, rfl, rfl, _, rfl, r_mid (n := n) (m := sizeF done.length (ns.drop n)) (by omega) (s4.seq hl) fun p5 hp5 => ?_⟩
    have n5 : p ≠ p5 := ne_of_none hp3 hp5
    have hne : ns.drop n ≠ [] := fun e => by
      have := congrArg List.length e
      rw [List.length_drop, List.length_nil] at this
      omega
    have hs := sizeF_le done.length (ns.drop n) hne
    rw [List.length_drop] at hs
    refine ⟨_, _, _, rfl, rfl, (by rw [upd_ne n5]; exact hp3), ?_, ?_⟩
    · rw [List.length_map, hr.len]; exact small_line (by omega)
    refine ⟨_, rfl, _, rfl, _, _, rfl, rfl, ?_⟩
    have hs6 : Same H3 (upd H3 p5 (.lst (nL ((ns.drop n).take (sizeF done.length (ns.drop n)))))) := same_upd hp5
    refine ⟨⟨n + sizeF done.length (ns.drop n), as ++ [p5], _, done ++ [(ns.drop n).take (sizeF done.length (ns.drop n))], rfl, ?_, ?_, ?_, ?_, ?_, ?_, ?_⟩, ?_⟩
    · exact same_put (o' := .lst []) (s4.trans hs6) hp
    · rw [upd_same, List.map_append]; rfl
    · have r6 : RowsAt H3 as done := hr.same fun b hb o e => by
        have nb : b ≠ p2 := ne_of_none e hp2
        exact s3 _ _ (by rw [upd_ne nb]; exact e)
      have r7 : RowsAt (upd H3 p5 (.lst (nL ((ns.drop n).take (sizeF done.length (ns.drop n)))))) as done := r6.same fun b _ o e => hs6 b o e
      have r8 := r7.snoc (a := p5) (l := (ns.drop n).take (sizeF done.length (ns.drop n))) upd_same
      refine r8.same fun b hb o e => ?_
      by_cases hbp : b = p
      · exfalso
        subst hbp
        rcases List.mem_append.mp hb with hb | hb
        · exact hpn hb
        · exact n5 (List.mem_singleton.mp hb)
      · rw [upd_ne hbp]; exact e
    · intro hb
      rcases List.mem_append.mp hb with hb | hb
      · exact hpn hb
      · exact n5 (List.mem_singleton.mp hb)
    · omega
    · rw [List.length_append]; show done.length + 1 ≤ _; omega
    · rw [hf, framesF_step done.length hlt, List.append_assoc, List.length_append]; rfl
    · show ns.length - ((n : Int) + _).toNat < ns.length - ((n : Int)).toNat
      omega
  · have hge : n = ns.length := by
      have : ¬ n < ns.length := fun h => c (Int.ofNat_lt.mpr h)
      omega
    refine ⟨_, rfl, q H1 p as s1 hp hp1 ?_⟩
    have : framesOf ns = done := by
      rw [hf, hge, List.drop_length]
      cases ns.length <;> simp [framesF]
    rw [this]; exact hr
theorem ok_frames_of {P : Program} {w : World} {K : PySem.W.Frag} {mg : Str → Option Value} {base : Heap} {a : Ad} (T : Txt K mg a) : CalB P w K mg base CX0 2 "frames_of" (sp_frames_of P w K a) :=
  CalB.mk0 T.f_frames_of sc_frames_of l_frames_of fun f cdv A outer s H vs Q E hr h => ⟨_, d_frames_of T (ok_size_of_frame T) hr, p_frames_of T h⟩
end Bw

/-! the walk: pins, part three -/
namespace Bw
open PySem PySem.Spec PyProof.Rows L2
theorem overF_filter : ∀ (fs : List RL) (k : Nat), overF k fs = ((List.range fs.length).filter fun j => isOver (k + j) (fs.getD j [])).length
  | [], _ => rfl
  | f :: fs, k => by
    rw [overF, overF_filter fs (k + 1), List.length_cons, List.range_succ_eq_map, List.filter_cons]
    have e : (List.filter (fun j => isOver (k + j) ((f :: fs).getD j [])) (List.map Nat.succ (List.range fs.length))).length = ((List.range fs.length).filter fun j => isOver (k + 1 + j) (fs.getD j [])).length := by
      rw [List.filter_map, List.length_map]
      congr 1
      refine List.filter_congr fun j _ => ?_
      show isOver (k + (j + 1)) ((f :: fs).getD (j + 1) []) = _
      rw [show k + (j + 1) = k + 1 + j by omega]; rfl
    show b2n (isOver k f) + _ = (if isOver k f = true then _ else _ : List Nat).length
    cases h : isOver k f with
    | true => rw [if_pos rfl, List.length_cons, e]; show 1 + _ = _; omega
    | false => rw [if_neg (by simp), e]; show 0 + _ = _; omega
theorem framesOf_len (ns : RL) : (framesOf ns).length ≤ ns.length := by
  unfold framesOf
  suffices h : ∀ (n k : Nat) (l : RL), (framesF n k l).length ≤ n from h _ _ _
  intro n
  induction n with
  | zero => intro k l; exact Nat.zero_le _
  | succ n ih =>
    intro k l
    unfold framesF
    split
    · exact Nat.zero_le _
    · rw [List.length_cons]; exact Nat.succ_le_succ (ih _ _)
theorem getD_of {α : Type} {l : List α} {i : Nat} {x d : α} (h : l[i]? = some x) : l.getD i d = x := by
  rw [List.getD_eq_getElem?_getD, h]; rfl
/-! ### frames_over -/
def sp_frames_over (P : Program) (w : World) (K : PySem.W.Frag) (a : Ad) : Sp := fun vs H Q _ => ∃ (l : Addr) (ns : List Nat), vs = [.ref l] ∧ SqL K H l (nL ns) ∧ ns.length ≤ 1000 ∧ ∀ H', Same H H' → Q (nV (framesOver ns)) H'
theorem l_frames_over {P : Program} {w : World} {K : PySem.W.Frag} {a : Ad} : ∀ vs H Q E, sp_frames_over P w K a vs H Q E → vs.length = 1 := by
  rintro vs H Q E ⟨l, ns, rfl, _⟩; rfl
abbrev s_frames_over : Stmt := top 7
abbrev N_frames_over : List Str := ["rolls", "number", "frame"]
theorem sc_frames_over : FnScope N_frames_over ["rolls"] (defScope s_frames_over) := ⟨rfl, rfl, rfl, by decide +kernel, rfl, by decide +kernel, by decide +kernel⟩
def t_frames_over (P : Program) (w : World) (K : PySem.W.Frag) (a : Ad) (E : XK) : TS :=
  (tRet (tCB (rLenB K) (tCons (tLc (iEnum K (tCons (tCall (sp_frames_of P w K a) [] E0 (tCons (tVar 0) tNil)) tNil)) (gTup K 2 (gCons (gName 1) (gCons (gName 2) gNil))) (tB (tCall (sp_is_over P w K a) [] E0 (tCons (tVar 1) (tCons (tVar 2) tNil)))) (tVar 2) [1, 2]) tNil)))
theorem d_frames_over {P : Program} {w : World} {K : PySem.W.Frag} {mg : Str → Option Value} {base : Heap} {a : Ad} (T : Txt K mg a) (c_frames_of : CalB P w K mg base CX0 2 "frames_of" (sp_frames_of P w K a)) (c_is_over : CalB P w K mg base CX0 1 "is_over" (sp_is_over P w K a)) {f : Addr} {cdv : Value} {A : Around} {outer : List Env} {s : Shared} {H : Hp} {E : XK}
    (hr : Room 2 (A.deeper (envOfC "frames_over" (defScope s_frames_over) s.heap.objs.size f cdv))) : PSs (cxOf CX0 P w K mg base N_frames_over "frames_over" (defScope s_frames_over) f cdv A outer s H E).nox (defBody s_frames_over) (t_frames_over P w K a E) :=
  (pss_one (ps_ret (pe_callB call_len (by rfl) T.n_len PySem.boot_len (pa_cons (pe_lc (own := [("number", 1), ("frame", 2)]) (g := (gTup K 2 (gCons (gName 1) (gCons (gName 2) gNil)))) (tt := (tB (tCall (sp_is_over P w K a) [] E0 (tCons (tVar 1) (tCons (tVar 2) tNil))))) (te := (tVar 2)) rfl sc_frames_over.nd (pi_enum rfl T.n_enumerate (pa_cons (pc c_frames_of hr (by decide) pass0 rfl (pa_cons (pv 0) pa_nil)) pa_nil)) (blkOk_by (N := N_frames_over) (sc := (defScope s_frames_over)) (by decide +kernel)) (fun _ _ _ _ _ => (pg_tup rfl (pgs_cons (pg_name (i := 1) sc_frames_over.nd rfl (by first | exact Or.inl rfl | exact Or.inr rfl)) (pgs_cons (pg_name (i := 2) sc_frames_over.nd rfl (by first | exact Or.inl rfl | exact Or.inr rfl)) pgs_nil)))) (fun _ _ _ _ _ => (pts_one (pt_val (pc c_is_over hr (by decide) pass0 rfl (pa_cons (pv 1) (pa_cons (pv 2) pa_nil)))))) (fun _ _ _ _ _ => (pv 2))) pa_nil))))
theorem enum_pair {H Hb : Hp} {as : List Addr} {i : Nat} {x : V} (y : YPair (fun i => some (.int (i : Nat))) (fun i => (as.map V.ref)[i]?) i H x Hb) :
    ∃ T b, x = .ref T ∧ H T = none ∧ Hb = upd H T (.tup [nV i, .ref b]) ∧ as[i]? = some b := by
  obtain ⟨T, u, v, rfl, hT, rfl, e1, e2⟩ := y
  cases e1
  obtain ⟨b, hb, rfl⟩ := getElem?_map_some e2
  exact ⟨T, b, rfl, hT, rfl, hb⟩
theorem p_frames_over {P : Program} {w : World} {K : PySem.W.Frag} {mg : Str → Option Value} {a : Ad} (T : Txt K mg a) {vs : List V} {H : Hp} {Q : VK} {E : XK} (h : sp_frames_over P w K a vs H Q E) :
    t_frames_over P w K a E { nx := fun _ H' => Q .non H', rt := Q } (start N_frames_over vs) H := by
  obtain ⟨l, ns, rfl, hl, hz, q⟩ := h
  refine ⟨_, rfl, l, ns, rfl, hl, hz, fun H1 p as s1 hp0 hp hr => ?_⟩
  refine ⟨p, _, rfl, lp hp, ?_⟩
  have hlen : (as.map V.ref).length = (framesOf ns).length := by rw [List.length_map]; exact hr.len
  refine lc_out (walk_enum (K := K) (a := p) (xs := as.map V.ref)) (filt (fun j => isOver (0 + j) ((framesOf ns).getD j [])) fun j => .ref (as.getD j 0)) ?_ ypair_same (fun H' s => lp (s _ _ hp)) rfl (fun i _ => filt_len _ _ _)
    (fun i x Ha Hb Qy Qn hi s y qy qn => ?_) fun H' D s hD e => ?_
  · rw [hlen]; exact Nat.le_trans (framesOf_len ns) (by omega)
  · obtain ⟨T, b, rfl, hT, rfl, hb⟩ := enum_pair y
    obtain ⟨f, hf, e⟩ := hr.get hb
    have sb : Same Ha (upd Ha T (.tup [nV i, .ref b])) := same_upd hT
    refine ⟨T, _, rfl, tpn, rfl, _, _, rfl, _, _, rfl, rfl, rfl, ?_⟩
    refine ⟨_, rfl, _, rfl, i, b, f, rfl, lp (sb _ _ (s _ _ e)), fun H3 s3 => ⟨_, rfl, ?_⟩⟩
    have ef : (framesOf ns).getD i [] = f := getD_of hf
    refine ite_b (fun c => ?_) (fun c => ?_)
    · refine ⟨_, rfl, qy _ _ s3 ?_⟩
      rw [filt_yes (by rw [Nat.zero_add, ef]; exact c), getD_of hb]
    · exact qn _ s3 (filt_no (by rw [Nat.zero_add, ef]; exact c))
  · refine ⟨_, _, rfl, .inl ⟨_, lp e, rfl⟩, ?_⟩
    refine val_of ?_ (q H' (s1.trans s))
    unfold framesOver filt
    rw [overF_filter, List.length_map, hlen]; rfl
theorem ok_frames_over {P : Program} {w : World} {K : PySem.W.Frag} {mg : Str → Option Value} {base : Heap} {a : Ad} (T : Txt K mg a) : CalB P w K mg base CX0 3 "frames_over" (sp_frames_over P w K a) :=
  CalB.mk0 T.f_frames_over sc_frames_over l_frames_over fun f cdv A outer s H vs Q E hr h => ⟨_, d_frames_over T (ok_frames_of T) (ok_is_over T) hr, p_frames_over T h⟩
/-! ### standing -/
def sp_standing (P : Program) (w : World) (K : PySem.W.Frag) (a : Ad) : Sp := fun vs H Q _ => ∃ (l : Addr) (ns : List Nat), vs = [.ref l] ∧ SqL K H l (nL ns) ∧ ns.length ≤ 1000 ∧ ∀ H', Same H H' → Q (.int (standI ns)) H'
theorem l_standing {P : Program} {w : World} {K : PySem.W.Frag} {a : Ad} : ∀ vs H Q E, sp_standing P w K a vs H Q E → vs.length = 1 := by
  rintro vs H Q E ⟨l, ns, rfl, _⟩; rfl
abbrev s_standing : Stmt := top 9
abbrev N_standing : List Str := ["rolls", "frames"]
theorem sc_standing : FnScope N_standing ["rolls"] (defScope s_standing) := ⟨rfl, rfl, rfl, by decide +kernel, rfl, by decide +kernel, by decide +kernel⟩
def t_standing (P : Program) (w : World) (K : PySem.W.Frag) (a : Ad) (E : XK) : TS :=
  (tSeq (tAsg (tCall (sp_frames_of P w K a) [] E0 (tCons (tVar 0) tNil)) (gName 1))
  (tSeq (tIfS (tOr (tTest (tOp rEq (tCB (rLenB K) (tCons (tVar 1) tNil)) (tC (.int 0)))) (tB (tCall (sp_is_over P w K a) [] E0 (tCons (tOp rSubI (tCB (rLenB K) (tCons (tVar 1) tNil)) (tC (.int 1))) (tCons (tOp (rIxL K) (tVar 1) (tUn rNegI (tC (.int 1)))) tNil))))) (tRet (tC (.int (10)))) tNext)
  (tRet (tCall (sp_left_of P w K a) [] E0 (tCons (tOp (rIxL K) (tVar 1) (tUn rNegI (tC (.int 1)))) tNil)))))
theorem d_standing {P : Program} {w : World} {K : PySem.W.Frag} {mg : Str → Option Value} {base : Heap} {a : Ad} (T : Txt K mg a) (c_frames_of : CalB P w K mg base CX0 2 "frames_of" (sp_frames_of P w K a)) (c_is_over : CalB P w K mg base CX0 1 "is_over" (sp_is_over P w K a)) (c_left_of : CalB P w K mg base CX0 1 "left_of" (sp_left_of P w K a)) {f : Addr} {cdv : Value} {A : Around} {outer : List Env} {s : Shared} {H : Hp} {E : XK}
    (hr : Room 2 (A.deeper (envOfC "standing" (defScope s_standing) s.heap.objs.size f cdv))) : PSs (cxOf CX0 P w K mg base N_standing "standing" (defScope s_standing) f cdv A outer s H E).nox (defBody s_standing) (t_standing P w K a E) :=
  (pss_cons (ps_set (i := 1) sc_standing.nd rfl (by first | exact Or.inl rfl | exact Or.inr rfl) (pc c_frames_of hr (by decide) pass0 rfl (pa_cons (pv 0) pa_nil)))
  (pss_cons (ps_if (PW.pt (pw_or (pt_cmpR op_eq (pe_callB call_len (by rfl) T.n_len PySem.boot_len (pa_cons (pv 1) pa_nil)) pe_int (nomark _)) (pw_or1 (pt_val (pc c_is_over hr (by decide) pass0 rfl (pa_cons (pe_op op_sub (pe_callB call_len (by rfl) T.n_len PySem.boot_len (pa_cons (pv 1) pa_nil)) pe_int) (pa_cons (pe_ix ix_list (pv 1) (pe_un un_neg pe_int) (fun _ _ => rfl)) pa_nil))))))) (pss_one (ps_ret (pgi T.g_PINS rfl))) pss_nil)
  (pss_one (ps_ret (pc c_left_of hr (by decide) pass0 rfl (pa_cons (pe_ix ix_list (pv 1) (pe_un un_neg pe_int) (fun _ _ => rfl)) pa_nil))))))
theorem standI_none {ns : RL} (h : framesOf ns = []) : standI ns = 10 := by unfold standI; rw [h]; rfl
theorem standI_some {ns : RL} {f : RL} {k : Nat} (h : (framesOf ns)[k]? = some f) (hk : k + 1 = (framesOf ns).length) : standI ns = if isOver k f then 10 else leftI f := by
  unfold standI
  rw [getLast_at hk, h, ← hk]; rfl
theorem p_standing {P : Program} {w : World} {K : PySem.W.Frag} {mg : Str → Option Value} {a : Ad} (T : Txt K mg a) {vs : List V} {H : Hp} {Q : VK} {E : XK} (h : sp_standing P w K a vs H Q E) :
    t_standing P w K a E { nx := fun _ H' => Q .non H', rt := Q } (start N_standing vs) H := by
  obtain ⟨l, ns, rfl, hl, hz, q⟩ := h
  refine ⟨_, rfl, l, ns, rfl, hl, hz, fun H1 p as s1 hp0 hp hr => ?_⟩
  refine ⟨_, rfl, _, _, rfl, .inl ⟨_, lp hp, rfl⟩, rfl, _, rfl, ?_⟩
  have hlen : (as.map V.ref).length = (framesOf ns).length := by rw [List.length_map]; exact hr.len
  rw [hlen]
  refine ite_d (fun c => ?_) (fun c => ?_)
  · have e : framesOf ns = [] := List.length_eq_zero_iff.mp ((nvl (n := 0) rfl).mp c)
    exact val_of (by rw [standI_none e]) (q H1 s1)
  · have hne : (framesOf ns).length ≠ 0 := fun e => c ((nvl (n := 0) rfl).mpr e)
    obtain ⟨k, hk⟩ : ∃ k, k + 1 = (framesOf ns).length := ⟨(framesOf ns).length - 1, by omega⟩
    obtain ⟨f, hf⟩ : ∃ f, (framesOf ns)[k]? = some f := ⟨_, List.getElem?_eq_getElem (by omega)⟩
    obtain ⟨b, hb, e⟩ := hr.get' hf
    have hlast : (as.map V.ref).getLast? = some (.ref b) := by
      rw [getLast_at (i := k) (by rw [hlen]; exact hk), List.getElem?_map, hb]; rfl
    refine ⟨_, rfl, _, _, rfl, .inl ⟨_, lp hp, rfl⟩, _, _, rfl, rfl, _, rfl, _, rfl, p, _, _, _, rfl, rfl, lp hp, atI_end hlast, k, b, f, ?_, lp e, fun H2 s2 => ⟨_, rfl, ?_⟩⟩
    · rw [hlen]
      show [V.int (((framesOf ns).length : Nat) - 1 : Int), _] = _
      rw [← hk]
      show [V.int (((k + 1 : Nat) : Int) - 1), _] = [V.int (k : Int), _]
      rw [show ((k + 1 : Nat) : Int) - 1 = (k : Int) by omega]
    have si := standI_some hf hk
    refine ite_b (fun c2 => ?_) (fun c2 => ?_)
    · rw [c2, if_pos rfl] at si
      exact val_of (by rw [si]) (q H2 (s1.trans s2))
    · rw [c2, if_neg (by simp)] at si
      refine ⟨_, rfl, _, rfl, p, _, _, _, rfl, rfl, s2.seq (lp hp), atI_end hlast, b, f, rfl, s2.seq (lp e), ?_⟩
      exact val_of (by rw [si]) (q H2 (s1.trans s2))
theorem ok_standing {P : Program} {w : World} {K : PySem.W.Frag} {mg : Str → Option Value} {base : Heap} {a : Ad} (T : Txt K mg a) : CalB P w K mg base CX0 3 "standing" (sp_standing P w K a) :=
  CalB.mk0 T.f_standing sc_standing l_standing fun f cdv A outer s H vs Q E hr h => ⟨_, d_standing T (ok_frames_of T) (ok_is_over T) (ok_left_of T) hr, p_standing T h⟩
/-! ### frame_scores -/
def sp_frame_scores (P : Program) (w : World) (K : PySem.W.Frag) (a : Ad) : Sp := fun vs H Q _ => ∃ (l : Addr) (ns : List Nat), vs = [.ref l] ∧ SqL K H l (nL ns) ∧ ns.length ≤ 1000 ∧
  ∀ H' p, Same H H' → H' p = some (.lst ((frameScores ns).map optV)) → Q (.ref p) H'
theorem l_frame_scores {P : Program} {w : World} {K : PySem.W.Frag} {a : Ad} : ∀ vs H Q E, sp_frame_scores P w K a vs H Q E → vs.length = 1 := by
  rintro vs H Q E ⟨l, ns, rfl, _⟩; rfl
abbrev s_frame_scores : Stmt := top 11
abbrev N_frame_scores : List Str := ["rolls", "found", "at", "number", "frame", "row", "score"]
theorem sc_frame_scores : FnScope N_frame_scores ["rolls"] (defScope s_frame_scores) := ⟨rfl, rfl, rfl, by decide +kernel, rfl, by decide +kernel, by decide +kernel⟩
def t_frame_scores (P : Program) (w : World) (K : PySem.W.Frag) (a : Ad) (E : XK) : TS :=
  (tSeq (tAsg (tLst tNil) (gName 1))
  (tSeq (tAsg (tC (.int 0)) (gName 2))
  (tSeq (tFor (iEnum K (tCons (tCall (sp_frames_of P w K a) [] E0 (tCons (tVar 0) tNil)) tNil)) (gTup K 2 (gCons (gName 3) (gCons (gName 4) gNil))) (tSeq (tAsg (tSl (rSlL K) (tVar 0) (tPart (tVar 2)) (tPart (tOp rAddI (tVar 2) (tCall (sp_counting P w K a) [] E0 (tCons (tVar 3) (tCons (tVar 4) tNil)))))) (gName 5))
  (tSeq (tAsg (tC .non) (gName 6))
  (tSeq (tIfS (tAnd (tB (tCall (sp_is_over P w K a) [] E0 (tCons (tVar 3) (tCons (tVar 4) tNil)))) (tTest (tOp rEq (tCB (rLenB K) (tCons (tVar 5) tNil)) (tCall (sp_counting P w K a) [] E0 (tCons (tVar 3) (tCons (tVar 4) tNil)))))) (tAsg (tCB (rSum K) (tCons (tVar 5) tNil)) (gName 6)) tNext)
  (tSeq (tDrop (tBM K "list" rAppend (tVar 1) (tCons (tVar 6) tNil)))
  (tAug 2 (tCB (rLenB K) (tCons (tVar 4) tNil)) ipAdd))))))
  (tRet (tVar 1)))))
theorem d_frame_scores {P : Program} {w : World} {K : PySem.W.Frag} {mg : Str → Option Value} {base : Heap} {a : Ad} (T : Txt K mg a) (c_frames_of : CalB P w K mg base CX0 2 "frames_of" (sp_frames_of P w K a)) (c_counting : CalB P w K mg base CX0 1 "counting" (sp_counting P w K a)) (c_is_over : CalB P w K mg base CX0 1 "is_over" (sp_is_over P w K a)) {f : Addr} {cdv : Value} {A : Around} {outer : List Env} {s : Shared} {H : Hp} {E : XK}
    (hr : Room 2 (A.deeper (envOfC "frame_scores" (defScope s_frame_scores) s.heap.objs.size f cdv))) : PSs (cxOf CX0 P w K mg base N_frame_scores "frame_scores" (defScope s_frame_scores) f cdv A outer s H E).nox (defBody s_frame_scores) (t_frame_scores P w K a E) :=
  (pss_cons (ps_set (i := 1) sc_frame_scores.nd rfl (by first | exact Or.inl rfl | exact Or.inr rfl) (pe_lst pa_nil))
  (pss_cons (ps_set (i := 2) sc_frame_scores.nd rfl (by first | exact Or.inl rfl | exact Or.inr rfl) pe_int)
  (pss_cons (ps_for (PassesOwn.never) rfl (pi_enum rfl T.n_enumerate (pa_cons (pc c_frames_of hr (by decide) pass0 rfl (pa_cons (pv 0) pa_nil)) pa_nil)) (pg_tup rfl (pgs_cons (pg_name (i := 3) sc_frame_scores.nd rfl (by first | exact Or.inl rfl | exact Or.inr rfl)) (pgs_cons (pg_name (i := 4) sc_frame_scores.nd rfl (by first | exact Or.inl rfl | exact Or.inr rfl)) pgs_nil))) (pss_cons (ps_set (i := 5) sc_frame_scores.nd rfl (by first | exact Or.inl rfl | exact Or.inr rfl) (pe_slice sl_list (pv 0) (po_some (pv 2)) (po_some (pe_op op_add (pv 2) (pc c_counting hr (by decide) pass0 rfl (pa_cons (pv 3) (pa_cons (pv 4) pa_nil)))))))
  (pss_cons (ps_set (i := 6) sc_frame_scores.nd rfl (by first | exact Or.inl rfl | exact Or.inr rfl) pe_non)
  (pss_cons (ps_if (PW.pt (pw_and (pt_val (pc c_is_over hr (by decide) pass0 rfl (pa_cons (pv 3) (pa_cons (pv 4) pa_nil)))) (pw_and1 (pt_cmpR op_eq (pe_callB call_len (by rfl) T.n_len PySem.boot_len (pa_cons (pv 5) pa_nil)) (pc c_counting hr (by decide) pass0 rfl (pa_cons (pv 3) (pa_cons (pv 4) pa_nil))) (nomark _))))) (pss_one (ps_set (i := 6) sc_frame_scores.nd rfl (by first | exact Or.inl rfl | exact Or.inr rfl) (pe_callB (cr_sum rfl) (by rfl) T.n_sum boot_sum2 (pa_cons (pv 5) pa_nil)))) pss_nil)
  (pss_cons (ps_expr (pe_bm PySem.F.plainAttrs_list PySem.F.slot_list_append PySem.F.type_list_append mt_append (pv 1) (pa_cons (pv 6) pa_nil)))
  (pss_one (ps_aug (i := 2) sc_frame_scores.nd rfl (by first | exact Or.inl rfl | exact Or.inr rfl) (pe_callB call_len (by rfl) T.n_len PySem.boot_len (pa_cons (pv 4) pa_nil)) ip_add)))))))
  (pss_one (ps_ret (pv 1))))))
theorem framesF_ne : ∀ (n k : Nat) (l : RL), ∀ f ∈ framesF n k l, f ≠ []
  | 0, _, _, f, h => by simp [framesF] at h
  | n + 1, k, l, f, h => by
    unfold framesF at h
    by_cases c : l = []
    · rw [if_pos c] at h; simp at h
    · rw [if_neg c] at h
      rcases List.mem_cons.mp h with e | h
      · have := sizeF_le k l c
        intro e2
        rw [e] at e2
        have e3 := congrArg List.length e2
        rw [List.length_take, List.length_nil] at e3
        omega
      · exact framesF_ne n (k + 1) _ f h
theorem framesOf_ne {ns : RL} : ∀ f ∈ framesOf ns, f ≠ [] := framesF_ne _ _ _
def lensTo (fs : List RL) (i : Nat) : Nat := ((fs.take i).map List.length).sum
theorem lensTo_succ {fs : List RL} {i : Nat} {f : RL} (h : fs[i]? = some f) : lensTo fs (i + 1) = lensTo fs i + f.length := by
  unfold lensTo; rw [take_snoc h, List.map_append, List.sum_append]; simp
theorem scoresF_at (all : RL) : ∀ (fs : List RL) (k at_ i : Nat) (f : RL), fs[i]? = some f → (scoresF all k at_ fs)[i]? = some (scoreAt all (k + i) (at_ + lensTo fs i) f)
  | [], _, _, _, _, h => by simp at h
  | g :: fs, k, at_, 0, f, h => by
    cases h
    rfl
  | g :: fs, k, at_, i + 1, f, h => by
    have := scoresF_at all fs (k + 1) (at_ + g.length) i f h
    show (scoresF all (k + 1) (at_ + g.length) fs)[i]? = _
    rw [this, show k + 1 + i = k + (i + 1) by omega]
    unfold lensTo
    rw [List.take_succ_cons, List.map_cons, List.sum_cons, Nat.add_assoc]
theorem scoresF_len (all : RL) : ∀ (fs : List RL) (k at_ : Nat), (scoresF all k at_ fs).length = fs.length
  | [], _, _ => rfl
  | f :: fs, k, at_ => by show (scoresF all (k + 1) (at_ + f.length) fs).length + 1 = _; rw [scoresF_len all fs]; rfl
theorem p_frame_scores {P : Program} {w : World} {K : PySem.W.Frag} {mg : Str → Option Value} {a : Ad} (T : Txt K mg a) {vs : List V} {H : Hp} {Q : VK} {E : XK} (h : sp_frame_scores P w K a vs H Q E) :
    t_frame_scores P w K a E { nx := fun _ H' => Q .non H', rt := Q } (start N_frame_scores vs) H := by
  obtain ⟨l, ns, rfl, hl, hz, q⟩ := h
  refine ⟨by decide, fun p hp => ?_⟩
  have s0 : Same H (upd H p (.lst [])) := same_upd hp
  refine ⟨_, rfl, l, ns, rfl, s0.seq hl, hz, fun H1 pf as s1 hpf0 hpf hr => ?_⟩
  have hp1 := s1 p _ upd_same
  have s01 := s0.trans s1
  have hlen : (as.map V.ref).length = (framesOf ns).length := by rw [List.length_map]; exact hr.len
  have hfz := framesOf_len ns
  have npf : pf ≠ p := fun e => absurd (ne_of_none (upd_same (H := H) (a := p) (o := .lst [])) hpf0) (by rw [e]; simp)
  refine ⟨pf, _, rfl, lp hpf, ?_⟩
  have bp : ∀ (i : Nat) {b : Addr}, as[i]? = some b → b ≠ p := fun i b hb e2 => by
    obtain ⟨f, hf, e⟩ := hr.get hb
    have ne := framesOf_ne f (List.mem_of_getElem? hf)
    rw [e2, hp1] at e
    have e3 := congrArg List.length (HO.lst.inj (Option.some.inj e))
    rw [nL_length] at e3
    exact ne (List.length_eq_zero_iff.mp e3.symm)
  refine for_it (walk_enum (K := K) (a := pf) (xs := as.map V.ref)) (fun i σ H2 => ∃ z1 z2 z3 z4, σ = [some (.ref l), some (.ref p), some (nV (lensTo (framesOf ns) i)), z1, z2, z3, z4] ∧ (∀ b o, H1 b = some o → b ≠ p → H2 b = some o) ∧
      H2 p = some (.lst (((frameScores ns).take i).map optV)))
    ⟨_, _, _, _, rfl, fun b o e _ => e, hp1⟩ (fun i σ H2 _ ⟨_, _, _, _, _, g, _⟩ => lp (g _ _ hpf npf)) (fun i x σ Ha Hb hi g y => ?_) fun σ H2 g => ?_
  · obtain ⟨z1, z2, z3, z4, rfl, g, gp⟩ := g
    obtain ⟨T, b, rfl, hT, rfl, hb⟩ := enum_pair y
    obtain ⟨f, hf, e⟩ := hr.get hb
    have nT : p ≠ T := ne_of_none gp hT
    have gT : ∀ c o, H1 c = some o → c ≠ p → upd Ha T (.tup [nV i, .ref b]) c = some o := fun c o e2 n2 => same_upd hT c o (g c o e2 n2)
    have gpT : upd Ha T (.tup [nV i, .ref b]) p = some (.lst (((frameScores ns).take i).map optV)) := by rw [upd_ne nT]; exact gp
    have lT : SqL K (upd Ha T (.tup [nV i, .ref b])) b (nL f) := lp (gT _ _ e (fun e2 => bp _ hb e2))
    have rT : SqL K (upd Ha T (.tup [nV i, .ref b])) l (nL ns) := by
      rcases hl with hl | hl
      · rcases hl with hl | ⟨o, hl⟩
        · exact .inl (.inl (gT _ _ (s01 _ _ hl) (ne_of_none hl hp)))
        · exact .inl (.inr ⟨o, gT _ _ (s01 _ _ hl) (ne_of_none hl hp)⟩)
      · exact .inr hl
    refine ⟨T, _, rfl, tpn, rfl, _, _, rfl, _, _, rfl, rfl, ?_⟩
    refine ⟨_, rfl, _, rfl, _, rfl, _, rfl, _, rfl, _, rfl, i, b, f, rfl, lT, fun H3 s3 => ?_⟩
    refine ⟨_, _, rfl, rfl, _, rfl, r_mid (n := lensTo (framesOf ns) i) (m := countG i f) (by omega) (s3.seq rT) fun pr hpr => ?_⟩
    have s4 := s3.trans (same_upd (o := .lst (nL ((ns.drop (lensTo (framesOf ns) i)).take (countG i f)))) hpr)
    refine ⟨_, rfl, _, rfl, i, b, f, rfl, s4.seq lT, fun H5 s5 => ⟨_, rfl, ?_⟩⟩
    have hpr5 : H5 pr = some (.lst (nL ((ns.drop (lensTo (framesOf ns) i)).take (countG i f)))) := s5 _ _ upd_same
    have s45 := s4.trans s5
    -- what is left of the turn
    have rest : ∀ (v : V) (H7 : Hp), Same H5 H7 → v = optV (scoreAt ns i (lensTo (framesOf ns) i) f) →
        (tSeq (tDrop (tBM K "list" rAppend (tVar 1) (tCons (tVar 6) tNil))) (tAug 2 (tCB (rLenB K) (tCons (tVar 4) tNil)) ipAdd))
          { nx := fun σ H2 => ∃ z1 z2 z3 z4, σ = [some (.ref l), some (.ref p), some (nV (lensTo (framesOf ns) (i + 1))), z1, z2, z3, z4] ∧ (∀ b o, H1 b = some o → b ≠ p → H2 b = some o) ∧
              H2 p = some (.lst (((frameScores ns).take (i + 1)).map optV)), ct := fun σ H2 => ∃ z1 z2 z3 z4, σ = [some (.ref l), some (.ref p), some (nV (lensTo (framesOf ns) (i + 1))), z1, z2, z3, z4] ∧ (∀ b o, H1 b = some o → b ≠ p → H2 b = some o) ∧
              H2 p = some (.lst (((frameScores ns).take (i + 1)).map optV)), rt := Q, bk := fun σ' H' => tRet (tVar 1) { nx := fun _ H' => Q .non H', rt := Q } σ' H' }
          [some (.ref l), some (.ref p), some (nV (lensTo (framesOf ns) i)), some (nV i), some (.ref b), some (.ref pr), some v] H7 := by
      intro v H7 s7 ev
      have s47 := s45.trans s7
      have gp7 := s47 _ _ gpT
      refine ⟨_, rfl, tyLp gp7, _, rfl, _, _, _, rfl, rfl, gp7, ?_, ?_⟩
      · rw [List.length_map, List.length_take]
        exact small_line (Nat.le_trans (Nat.min_le_left _ _) (by rw [hlen] at hi; omega))
      have nb : b ≠ p := fun e2 => bp _ hb e2
      refine ⟨_, rfl, _, rfl, _, _, rfl, .inl ⟨_, lp (xs := nL f) ?_, rfl⟩, _, _, rfl, rfl, some (nV i), some (.ref b), some (.ref pr), some v, ?_, ?_, ?_⟩
      · rw [upd_ne nb]
        exact s47 _ _ (gT _ _ e nb)
      · rw [lensTo_succ hf, nL_length]; rfl
      · intro c o e2 n2
        rw [upd_ne n2]
        exact s47 _ _ (gT _ _ e2 n2)
      · rw [upd_same]
        have es : (frameScores ns)[i]? = some (scoreAt ns i (lensTo (framesOf ns) i) f) := by
          have := scoresF_at ns (framesOf ns) 0 0 i f hf
          rw [Nat.zero_add, Nat.zero_add] at this
          exact this
        rw [take_snoc es, List.map_append, ev]; rfl
    refine ite_b (fun c => ?_) (fun c => ?_)
    · refine ⟨_, rfl, _, _, rfl, .inl ⟨_, lp hpr5, rfl⟩, _, rfl, _, rfl, i, b, f, rfl, s45.seq lT, fun H6 s6 => ⟨rfl, _, rfl, ?_⟩⟩
      rw [nL_length]
      refine ite_d (fun c2 => ?_) (fun c2 => ?_)
      · have c3 := nV_inj.mp c2
        refine ⟨_, rfl, pr, _, rfl, sqi (s6.seq (lp hpr5)), ?_⟩
        rw [sum_ints]
        refine rest _ H6 s6 ?_
        unfold scoreAt
        rw [c, c3, beq_self_eq_true, Bool.and_self, if_pos rfl]; rfl
      · have c3 : ¬ _ = _ := fun e => c2 (nV_inj.mpr e)
        refine rest _ H6 s6 ?_
        unfold scoreAt
        rw [c, Bool.true_and, if_neg (by rw [beq_iff_eq]; exact c3)]; rfl
    · refine ite_false_of Bool.false_ne_true (rest _ H5 (Same.refl _) ?_)
      unfold scoreAt
      rw [c, Bool.false_and, if_neg (by simp)]; rfl
  · obtain ⟨z1, z2, z3, z4, rfl, g, gp⟩ := g
    refine ⟨_, rfl, q H2 p ?_ ?_⟩
    · intro b o e
      exact g b o (s01 b o e) (ne_of_none e hp)
    · rw [gp, hlen, List.take_of_length_le]
      unfold frameScores; rw [scoresF_len]; exact Nat.le_refl _
theorem ok_frame_scores {P : Program} {w : World} {K : PySem.W.Frag} {mg : Str → Option Value} {base : Heap} {a : Ad} (T : Txt K mg a) : CalB P w K mg base CX0 3 "frame_scores" (sp_frame_scores P w K a) :=
  CalB.mk0 T.f_frame_scores sc_frame_scores l_frame_scores fun f cdv A outer s H vs Q E hr h => ⟨_, d_frame_scores T (ok_frames_of T) (ok_counting T) (ok_is_over T) hr, p_frame_scores T h⟩
end Bw

/-! the walk: the counter, part one -/
namespace Bw
open PySem PySem.Spec PyProof.Rows L2
theorem le1 : 1 ≤ sizeLine := by decide
theorem le2 : 2 ≤ sizeLine := by decide
theorem le3 : 3 ≤ sizeLine := by decide
theorem le4 : 4 ≤ sizeLine := by decide
theorem sqT {K : PySem.W.Frag} {H : Hp} {l : Addr} {xs : List V} (h : H l = some (.tup xs)) : SqT K H l xs := .inl (.inl h)
theorem sqiT {K : PySem.W.Frag} {H : Hp} {l : Addr} {ns : RL} (hl : SqT K H l (nL ns)) : SqT K H l ((ns.map fun (x : Nat) => (x : Int)).map V.int) := by rw [← nL_ints]; exact hl
theorem StateAt.up {H H' : Hp} {ka : Addr} {s : CS} (x : StateAt H ka s) (h : Same H H') : StateAt H' ka s := x.same fun b xs e => h b _ e
/-! ### next_state -/
def sp_next_state (P : Program) (w : World) (K : PySem.W.Frag) (a : Ad) : Sp := fun vs H Q _ => ∃ (ka : Addr) (s : CS) (r : Nat), vs = [.ref ka, nV r] ∧ StateAt H ka s ∧ s.f.length ≤ 1000 ∧
  ∀ H' kb, Same H H' → StateAt H' kb (nextS s r) → Q (.ref kb) H'
theorem l_next_state {P : Program} {w : World} {K : PySem.W.Frag} {a : Ad} : ∀ vs H Q E, sp_next_state P w K a vs H Q E → vs.length = 2 := by
  rintro vs H Q E ⟨k, l, ns, rfl, _⟩; rfl
abbrev s_next_state : Stmt := top 13
abbrev N_next_state : List Str := ["state", "roll", "number", "frame", "more", "later", "behind"]
theorem sc_next_state : FnScope N_next_state ["state", "roll"] (defScope s_next_state) := ⟨rfl, rfl, rfl, by decide +kernel, rfl, by decide +kernel, by decide +kernel⟩
def t_next_state (P : Program) (w : World) (K : PySem.W.Frag) (a : Ad) (E : XK) : TS :=
  (tSeq (tAsg (tVar 0) (gTup K 4 (gCons (gName 2) (gCons (gName 3) (gCons (gName 4) (gCons (gName 5) gNil))))))
  (tSeq (tAsg (tOp (rCatA K) (tVar 3) (tTup (tCons (tVar 1) tNil))) (gName 3))
  (tSeq (tAsg (tC (.int 0)) (gName 6))
  (tSeq (tIfS (tAnd (tTest (tOp rLtI (tVar 2) (tC (.int (9))))) (tTest (tOp (rEqD K) (tVar 3) (tTup (tCons (tC (.int (10))) tNil))))) (tSeq (tAug 5 (tC (.int 1)) ipAdd)
  (tAsg (tC (.int 1)) (gName 6))) (tIfS (tAnd (tTest (tOp rLtI (tVar 2) (tC (.int (9))))) (tTest (tOp rEq (tCB (rSumT K) (tCons (tVar 3) tNil)) (tC (.int (10)))))) (tAug 5 (tC (.int 1)) ipAdd) tNext))
  (tSeq (tIfS (tB (tCall (sp_is_over P w K a) [] E0 (tCons (tVar 2) (tCons (tCB (rListOf K) (tCons (tVar 3) tNil)) tNil)))) (tRet (tTup (tCons (tOp rAddI (tVar 2) (tC (.int 1))) (tCons (tTup tNil) (tCons (tVar 5) (tCons (tVar 6) tNil)))))) tNext)
  (tRet (tTup (tCons (tVar 2) (tCons (tVar 3) (tCons (tVar 5) (tCons (tVar 6) tNil)))))))))))
theorem d_next_state {P : Program} {w : World} {K : PySem.W.Frag} {mg : Str → Option Value} {base : Heap} {a : Ad} (T : Txt K mg a) (c_is_over : CalB P w K mg base CX0 1 "is_over" (sp_is_over P w K a)) {f : Addr} {cdv : Value} {A : Around} {outer : List Env} {s : Shared} {H : Hp} {E : XK}
    (hr : Room 1 (A.deeper (envOfC "next_state" (defScope s_next_state) s.heap.objs.size f cdv))) : PSs (cxOf CX0 P w K mg base N_next_state "next_state" (defScope s_next_state) f cdv A outer s H E).nox (defBody s_next_state) (t_next_state P w K a E) :=
  (pss_cons (ps_asg (pv 0) (pg_tup rfl (pgs_cons (pg_name (i := 2) sc_next_state.nd rfl (by first | exact Or.inl rfl | exact Or.inr rfl)) (pgs_cons (pg_name (i := 3) sc_next_state.nd rfl (by first | exact Or.inl rfl | exact Or.inr rfl)) (pgs_cons (pg_name (i := 4) sc_next_state.nd rfl (by first | exact Or.inl rfl | exact Or.inr rfl)) (pgs_cons (pg_name (i := 5) sc_next_state.nd rfl (by first | exact Or.inl rfl | exact Or.inr rfl)) pgs_nil))))))
  (pss_cons (ps_set (i := 3) sc_next_state.nd rfl (by first | exact Or.inl rfl | exact Or.inr rfl) (pe_op op_catA (pv 3) (pe_tup (pa_cons (pv 1) pa_nil))))
  (pss_cons (ps_set (i := 6) sc_next_state.nd rfl (by first | exact Or.inl rfl | exact Or.inr rfl) pe_int)
  (pss_cons (ps_if (PW.pt (pw_and (pt_cmpR op_lt (pv 2) (pgi T.g_LAST rfl) (nomark _)) (pw_and1 (pt_cmpR (op_eqD hr.units) (pv 3) (pe_tup (pa_cons (pgi T.g_PINS rfl) pa_nil)) (nomark _))))) (pss_cons (ps_aug (i := 5) sc_next_state.nd rfl (by first | exact Or.inl rfl | exact Or.inr rfl) pe_int ip_add)
  (pss_one (ps_set (i := 6) sc_next_state.nd rfl (by first | exact Or.inl rfl | exact Or.inr rfl) pe_int))) (pss_one (ps_if (PW.pt (pw_and (pt_cmpR op_lt (pv 2) (pgi T.g_LAST rfl) (nomark _)) (pw_and1 (pt_cmpR op_eq (pe_callB (cr_sumT rfl) (by rfl) T.n_sum boot_sum2 (pa_cons (pv 3) pa_nil)) (pgi T.g_PINS rfl) (nomark _))))) (pss_one (ps_aug (i := 5) sc_next_state.nd rfl (by first | exact Or.inl rfl | exact Or.inr rfl) pe_int ip_add)) pss_nil)))
  (pss_cons (ps_if (pt_val (pc c_is_over hr (by decide) pass0 rfl (pa_cons (pv 2) (pa_cons (pe_callTy call_list_of (by rfl) T.n_list boot_list2 (pa_cons (pv 3) pa_nil)) pa_nil)))) (pss_one (ps_ret (pe_tup (pa_cons (pe_op op_add (pv 2) pe_int) (pa_cons (pe_tup pa_nil) (pa_cons (pv 5) (pa_cons (pv 6) pa_nil))))))) pss_nil)
  (pss_one (ps_ret (pe_tup (pa_cons (pv 2) (pa_cons (pv 3) (pa_cons (pv 5) (pa_cons (pv 6) pa_nil))))))))))))
theorem isTenT {K : PySem.W.Frag} {H : Hp} {Q : VK} {l : Addr} {ns : RL} {p : Addr} (hl : SqT K H l (nL ns)) (hp : SqT K H p [.int 10]) (q : Q (.bl (decide (ns = [10]))) H) : rEqD K (.ref l) (.ref p) H Q := by
  refine ⟨_, _, .tup hl (dp_ints ns), .tup hp (.cons (.int 10) .nil), ?_, rfl, ?_⟩
  · exact shaped_natsT ns
  · have := eqvAll_ints ns [10]
    exact val_of (congrArg V.bl this) q
theorem p_next_state {P : Program} {w : World} {K : PySem.W.Frag} {mg : Str → Option Value} {a : Ad} (T : Txt K mg a) {vs : List V} {H : Hp} {Q : VK} {E : XK} (h : sp_next_state P w K a vs H Q E) :
    t_next_state P w K a E { nx := fun _ H' => Q .non H', rt := Q } (start N_next_state vs) H := by
  obtain ⟨ka, s, r, rfl, ⟨fa, hk, hfa⟩, hz, q⟩ := h
  refine ⟨_, rfl, ka, _, rfl, sqT hk, rfl, _, _, rfl, _, _, rfl, _, _, rfl, _, _, rfl, rfl, ?_⟩
  -- the end: two returns
  have tail : ∀ (fb : Addr) (b : Bool) (c : Bool) (H3 : Hp), Same H H3 → H3 fb = some (.tup (nL (s.f ++ [r]))) → strikeS s r = c → (strikeS s r || spareS s r) = b →
      (tSeq (tIfS (tB (tCall (sp_is_over P w K a) [] E0 (tCons (tVar 2) (tCons (tCB (rListOf K) (tCons (tVar 3) tNil)) tNil)))) (tRet (tTup (tCons (tOp rAddI (tVar 2) (tC (.int 1))) (tCons (tTup tNil) (tCons (tVar 5) (tCons (tVar 6) tNil)))))) tNext)
  (tRet (tTup (tCons (tVar 2) (tCons (tVar 3) (tCons (tVar 5) (tCons (tVar 6) tNil))))))) { nx := fun _ H' => Q .non H', rt := Q }
        [some (.ref ka), some (nV r), some (nV s.n), some (.ref fb), some (nV s.m), some (nV (s.k + b2n b)), some (nV (b2n c))] H3 := by
    intro fb b c H3 s3 hfb ec eb
    refine ⟨_, rfl, _, rfl, fb, _, rfl, .inr (sqT hfb), fun l hl => ?_⟩
    refine ⟨s.n, l, s.f ++ [r], rfl, lpn, fun H4 s4 => ⟨_, rfl, ?_⟩⟩
    have s34 := (same_upd (o := .lst (nL (s.f ++ [r]))) hl).trans s4
    have s04 := s3.trans s34
    have nx : nextS s r = if isOver s.n (s.f ++ [r]) then ⟨s.n + 1, [], s.k + b2n (strikeS s r || spareS s r), b2n (strikeS s r)⟩ else ⟨s.n, s.f ++ [r], s.k + b2n (strikeS s r || spareS s r), b2n (strikeS s r)⟩ := rfl
    rw [eb, ec] at nx
    refine ite_b (fun c2 => ?_) (fun c2 => ?_)
    · rw [c2, if_pos rfl] at nx
      refine ⟨_, rfl, _, _, rfl, rfl, by decide, fun p1 hp1 => ⟨_, rfl, _, rfl, le4, fun p2 hp2 => ?_⟩⟩
      have n12 : p1 ≠ p2 := ne_of_none (upd_same (o := .tup [])) hp2
      refine q _ p2 ((s04.trans (same_upd hp1)).trans (same_upd hp2)) ?_
      rw [nx]
      refine ⟨p1, ?_, ?_⟩
      · rw [upd_same]; rfl
      · rw [upd_ne n12, upd_same]; rfl
    · rw [c2, if_neg (by simp)] at nx
      refine ⟨_, rfl, _, rfl, _, rfl, _, rfl, le4, fun p2 hp2 => ?_⟩
      have n12 : fb ≠ p2 := ne_of_none (s34 _ _ hfb) hp2
      refine q _ p2 (s04.trans (same_upd hp2)) ?_
      rw [nx]
      refine ⟨fb, ?_, ?_⟩
      · rw [upd_same]
      · rw [upd_ne n12]; exact s34 _ _ hfb
  -- the tuple with the roll
  have rest : ∀ (fb : Addr) (H2 : Hp), Same H H2 → H2 fb = some (.tup (nL (s.f ++ [r]))) →
      (tSeq (tAsg (tC (.int 0)) (gName 6))
  (tSeq (tIfS (tAnd (tTest (tOp rLtI (tVar 2) (tC (.int (9))))) (tTest (tOp (rEqD K) (tVar 3) (tTup (tCons (tC (.int (10))) tNil))))) (tSeq (tAug 5 (tC (.int 1)) ipAdd)
  (tAsg (tC (.int 1)) (gName 6))) (tIfS (tAnd (tTest (tOp rLtI (tVar 2) (tC (.int (9))))) (tTest (tOp rEq (tCB (rSumT K) (tCons (tVar 3) tNil)) (tC (.int (10)))))) (tAug 5 (tC (.int 1)) ipAdd) tNext))
  (tSeq (tIfS (tB (tCall (sp_is_over P w K a) [] E0 (tCons (tVar 2) (tCons (tCB (rListOf K) (tCons (tVar 3) tNil)) tNil)))) (tRet (tTup (tCons (tOp rAddI (tVar 2) (tC (.int 1))) (tCons (tTup tNil) (tCons (tVar 5) (tCons (tVar 6) tNil)))))) tNext)
  (tRet (tTup (tCons (tVar 2) (tCons (tVar 3) (tCons (tVar 5) (tCons (tVar 6) tNil))))))))) { nx := fun _ H' => Q .non H', rt := Q }
        [some (.ref ka), some (nV r), some (nV s.n), some (.ref fb), some (nV s.m), some (nV s.k), none] H2 := by
    intro fb H2 s2 hfb
    refine ⟨_, rfl, _, _, rfl, rfl, _, rfl, ?_⟩
    refine ite_d (fun c1 => ?_) (fun c1 => ?_)
    · have c1' : s.n < 9 := Int.ofNat_lt.mp c1
      refine ⟨_, rfl, by decide, fun p hp => ?_⟩
      have sp := same_upd (o := .tup [.int 10]) hp
      refine isTenT (ns := s.f ++ [r]) (sqT (sp _ _ hfb)) tpn ⟨_, rfl, ?_⟩
      refine ite_d (fun c2 => ?_) (fun c2 => ?_)
      · have st : strikeS s r = true := by unfold strikeS; rw [decide_eq_true c1', decide_eq_true c2]; rfl
        refine ⟨_, rfl, _, _, rfl, rfl, ?_⟩
        exact tail fb true true _ (s2.trans sp) (sp _ _ hfb) st (by rw [st]; rfl)
      · have st : strikeS s r = false := by unfold strikeS; rw [decide_eq_false c2, Bool.and_false]
        refine ⟨_, rfl, _, _, rfl, rfl, _, rfl, ?_⟩
        refine ite_d (fun _ => ?_) (fun c3 => absurd c1 c3)
        refine ⟨_, rfl, fb, _, rfl, sqiT (sqT (sp _ _ hfb)), rfl, _, rfl, ?_⟩
        rw [sum_ints]
        refine ite_d (fun c3 => ?_) (fun c3 => ?_)
        · have c4 : (s.f ++ [r]).sum = 10 := (nvl (n := 10) rfl).mp c3
          have sq : spareS s r = true := by unfold spareS; rw [decide_eq_true c1', decide_eq_true c4]; rfl
          refine ⟨_, rfl, _, _, rfl, rfl, ?_⟩
          exact tail fb true false _ (s2.trans sp) (sp _ _ hfb) st (by rw [st, sq]; rfl)
        · have c4 : ¬ (s.f ++ [r]).sum = 10 := fun e => c3 ((nvl (n := 10) rfl).mpr e)
          have sq : spareS s r = false := by unfold spareS; rw [decide_eq_false c4, Bool.and_false]
          exact tail fb false false _ (s2.trans sp) (sp _ _ hfb) st (by rw [st, sq]; rfl)
    · have c1' : ¬ s.n < 9 := fun e => c1 (Int.ofNat_lt.mpr e)
      have st : strikeS s r = false := by unfold strikeS; rw [decide_eq_false c1', Bool.false_and]
      have sq : spareS s r = false := by unfold spareS; rw [decide_eq_false c1', Bool.false_and]
      refine ite_false_of Bool.false_ne_true ?_
      refine ⟨_, rfl, _, _, rfl, rfl, _, rfl, ?_⟩
      refine ite_d (fun c3 => absurd c3 c1) (fun _ => ?_)
      refine ite_false_of Bool.false_ne_true ?_
      exact tail fb false false _ s2 hfb st (by rw [st, sq]; rfl)
  refine ⟨_, rfl, _, rfl, le1, fun p hp => ⟨fa, p, nL s.f, [nV r], rfl, rfl, ?_, tpn, ?_, fun e => ?_, fun _ e => absurd e (by simp), fun _ _ p2 hp2 => ?_⟩⟩
  · exact sqT (same_upd hp _ _ hfa)
  · rw [nL_length]; exact small_line' (by show s.f.length + 1 ≤ _; omega)
  · have e2 : s.f = [] := by
      have := congrArg List.length e
      rw [nL_length] at this
      exact List.length_eq_zero_iff.mp this
    exact rest p _ (same_upd hp) (by rw [upd_same, e2]; rfl)
  · refine rest p2 _ ((same_upd hp).trans (same_upd hp2)) ?_
    rw [upd_same, nL_append]; rfl
theorem ok_next_state {P : Program} {w : World} {K : PySem.W.Frag} {mg : Str → Option Value} {base : Heap} {a : Ad} (T : Txt K mg a) : CalB P w K mg base CX0 2 "next_state" (sp_next_state P w K a) :=
  CalB.mk0 T.f_next_state sc_next_state l_next_state fun f cdv A outer s H vs Q E hr h => ⟨_, d_next_state T (ok_is_over T) hr, p_next_state T h⟩
end Bw

/-! the walk: the counter, part two -/
namespace Bw
open PySem PySem.Spec PyProof.Rows L2
def isTup : HO → Bool
  | .tup _ => true
  | _ => false
/-- what lies outside T, and every tuple, is as it was -/
def Kept (T : Addr → Prop) (H H' : Hp) : Prop := ∀ b o, H b = some o → (T b → isTup o = true) → H' b = some o
theorem Kept.refl (T : Addr → Prop) (H : Hp) : Kept T H H := fun _ _ h _ => h
theorem Kept.of {T : Addr → Prop} {H H' : Hp} (s : Same H H') : Kept T H H' := fun b o h _ => s b o h
theorem Kept.trans {T : Addr → Prop} {H H1 H2 : Hp} (x : Kept T H H1) (y : Kept T H1 H2) : Kept T H H2 := fun b o h t => y b o (x b o h t) t
theorem Kept.mono {T T' : Addr → Prop} {H H' : Hp} (x : Kept T H H') (h : ∀ b, T b → T' b) : Kept T' H H' := fun b o e t => x b o e fun z => t (h b z)
theorem Kept.put {T : Addr → Prop} {H H1 : Hp} {x : Addr} {o o' : HO} (k : Kept T H H1) (t : T x) (e : H1 x = some o) (n : isTup o = false) : Kept T H (upd H1 x o') := fun b u h z => by
  have h1 := k b u h z
  have ne : b ≠ x := fun e2 => by
    subst e2
    rw [h1] at e
    cases e
    rw [z t] at n
    cases n
  rw [upd_ne ne]; exact h1
theorem Kept.new {T : Addr → Prop} {H H1 : Hp} {x : Addr} {o' : HO} (k : Kept T H H1) (n : H1 x = none) : Kept T H (upd H1 x o') := k.trans (Kept.of (same_upd n))
/-- an address that was free at the start may be written -/
theorem Kept.own {T : Addr → Prop} {H H1 : Hp} {x : Addr} {o' : HO} (k : Kept T H H1) (n : H x = none) : Kept T H (upd H1 x o') := fun b u h z => by
  rw [upd_ne (ne_of_none h n)]; exact k b u h z
theorem Kept.state {T : Addr → Prop} {H H' : Hp} {ka : Addr} {s : CS} (k : Kept T H H') (x : StateAt H ka s) : StateAt H' ka s := x.same fun b xs e => k b _ e fun _ => rfl
theorem Kept.free {T : Addr → Prop} {H H' : Hp} {x : Addr} (k : Kept T H H') (t : ∀ b, T b → (H' b).isSome = true) (n : H' x = none) : H x = none := by
  cases e : H x with
  | none => rfl
  | some o =>
    have h : (H' x).isSome = true := by
      by_cases c : T x
      · exact t x c
      · rw [k x o e fun z => absurd z c]; rfl
    rw [n] at h; cases h
theorem upd_self {H : Hp} {p : Addr} {o : HO} (h : H p = some o) : upd H p o = H := by
  funext b
  by_cases c : b = p
  · subst c; rw [upd_same, h]
  · rw [upd_ne c]
theorem upd_upd {H : Hp} {p : Addr} {o o' : HO} : upd (upd H p o) p o' = upd H p o' := by
  funext b
  by_cases c : b = p
  · subst c; rw [upd_same, upd_same]
  · rw [upd_ne c, upd_ne c, upd_ne c]
theorem upd_back {H : Hp} {p v : Addr} {o f u : HO} (h : H v = some u) (n : v ≠ p) : upd (upd (upd H v f) p o) v u = upd H p o := by
  funext b
  by_cases c : b = v
  · subst c; rw [upd_same, upd_ne n, h]
  · rw [upd_ne c]
    by_cases c2 : b = p
    · subst c2; rw [upd_same, upd_same]
    · rw [upd_ne c2, upd_ne c, upd_ne c2]
/-! ### dicts of numbers -/
def dKV (d : D) : List (Key × V) := d.map fun p => (Sum.inl (p.1 : Int), nV p.2)
theorem dKV_len (d : D) : (dKV d).length = d.length := List.length_map _
theorem key_nat {a b : Nat} : (Sum.inl (a : Int) : Key) = Sum.inl (b : Int) ↔ a = b := by
  rw [Sum.inl.injEq]; omega
theorem valV_dKV (d : D) (k : Nat) : (valV (dKV d) (Sum.inl (k : Int))).getD (.int 0) = nV (getN d k) := by
  induction d with
  | nil => rfl
  | cons p d ih =>
    rw [getN_cons]
    show (valV ((Sum.inl (p.1 : Int), nV p.2) :: dKV d) _).getD _ = _
    by_cases c : p.1 = k
    · rw [valV_pos (show (Sum.inl (p.1 : Int) : Key) = Sum.inl (k : Int) from key_nat.mpr c), if_pos c]; rfl
    · rw [valV_neg (show ¬ (Sum.inl (p.1 : Int) : Key) = Sum.inl (k : Int) from fun e => c (key_nat.mp e)), if_neg c, ih]
theorem valV_at {d : D} (hn : (keysOf d).Nodup) {p : Nat × Nat} (h : p ∈ d) : valV (dKV d) (Sum.inl (p.1 : Int)) = some (nV p.2) := by
  induction d with
  | nil => simp at h
  | cons q d ih =>
    unfold keysOf at hn
    rw [List.map_cons, List.nodup_cons] at hn
    show valV ((Sum.inl (q.1 : Int), nV q.2) :: dKV d) _ = _
    rcases List.mem_cons.mp h with e | h
    · subst e
      rw [valV_pos rfl]
    · have ne : q.1 ≠ p.1 := fun e => hn.1 (by rw [e]; exact List.mem_map.mpr ⟨p, h, rfl⟩)
      rw [valV_neg (show ¬ (Sum.inl (q.1 : Int) : Key) = Sum.inl (p.1 : Int) from fun e => ne (key_nat.mp e))]
      exact ih hn.2 h
theorem putK_dKV (d : D) (k v : Nat) : putK (dKV d) (Sum.inl (k : Int)) (nV v) = dKV (putN d k v) := by
  have e : ((dKV d).any fun kv => decide (kv.1 = (Sum.inl (k : Int) : Key))) = d.any fun p => p.1 == k := by
    unfold dKV
    rw [List.any_map]
    congr 1
    funext p
    show decide ((Sum.inl (p.1 : Int) : Key) = Sum.inl (k : Int)) = (p.1 == k)
    rw [bq]
    exact decide_eq_decide.mpr key_nat
  unfold putK putN
  rw [e]
  split
  · unfold dKV
    rw [List.map_map, List.map_map]
    refine List.map_congr_left fun p _ => ?_
    show (if (Sum.inl (p.1 : Int) : Key) = Sum.inl (k : Int) then _ else _) = _
    by_cases c : p.1 = k
    · rw [if_pos (key_nat.mpr c)]
      show (Sum.inl (p.1 : Int), nV v) = (Sum.inl ((if p.1 = k then (p.1, v) else p).1 : Int), nV (if p.1 = k then (p.1, v) else p).2)
      rw [if_pos c]
    · rw [if_neg fun z => c (key_nat.mp z)]
      show _ = (Sum.inl ((if p.1 = k then (p.1, v) else p).1 : Int), nV (if p.1 = k then (p.1, v) else p).2)
      rw [if_neg c]
  · unfold dKV
    rw [List.map_append]; rfl
/-! ### the counter in the heap -/
structure CntAt (P : Program) (w : World) (a : Ad) (H : Hp) (c m dx : Addr) (l : List Ent) : Prop where
  self : H c = some (.ins a.CCounter dx [("known", .ref m)])
  memo : H m = some (memO P w m l)
  keys : KeysAt H l
  vals : ∀ e ∈ l, H e.va = some (.dK (dKV (ends e.st)))
  good : ∀ e ∈ l, Good e.st
  nd : (l.map (·.st)).Nodup
section
variable {P : Program} {w : World} {K : PySem.W.Frag} {mg : Str → Option Value} {base : Heap} {a : Ad} {H H' : Hp} {c m dx : Addr} {l : List Ent}
theorem CntAt.keep (x : CntAt P w a H c m dx l) (k : ∀ b o, H b = some o → (b = c ∨ b = m ∨ (∃ e ∈ l, b = e.va) ∨ isTup o = true) → H' b = some o) : CntAt P w a H' c m dx l :=
  ⟨k _ _ x.self (.inl rfl), k _ _ x.memo (.inr (.inl rfl)), fun e he => (x.keys e he).same fun b xs h => k b _ h (.inr (.inr (.inr rfl))), fun e he => k _ _ (x.vals e he) (.inr (.inr (.inl ⟨e, he, rfl⟩))), x.good, x.nd⟩
theorem CntAt.up (x : CntAt P w a H c m dx l) (s : Same H H') : CntAt P w a H' c m dx l := x.keep fun b o h _ => s b o h
theorem CntAt.len (x : CntAt P w a H c m dx l) : l.length < sizeLine := by
  have := states_len x.nd fun s hs => by
    obtain ⟨e, he, rfl⟩ := List.mem_map.mp hs
    exact x.good e he
  rw [List.length_map] at this
  exact small_line (by omega)
theorem memGet_some {l : List Ent} {s : CS} {v : Addr} (h : memGet l s = some v) : ∃ e ∈ l, e.st = s ∧ e.va = v := by
  unfold memGet at h
  obtain ⟨e, h1, h2⟩ := Option.map_eq_some_iff.mp h
  exact ⟨e, List.mem_of_find?_eq_some h1, by simpa using List.find?_some h1, h2⟩
theorem memGet_none {l : List Ent} {s : CS} : memGet l s = none ↔ ∀ e ∈ l, e.st ≠ s := by
  unfold memGet
  rw [Option.map_eq_none_iff, List.find?_eq_none]
  simp
theorem memGet_new {l : List Ent} {s : CS} {ka p : Addr} (h : memGet l s = none) : memGet (l ++ [⟨s, ka, p⟩]) s = some p := by
  unfold memGet at h ⊢
  rw [Option.map_eq_none_iff] at h
  rw [List.find?_append, h]
  simp
/-! ### Counter() -/
def sp_Counter_init (P : Program) (w : World) (K : PySem.W.Frag) (a : Ad) : Sp := fun vs H Q _ => ∃ x dx, vs = [.ref x] ∧ H x = some (.ins a.CCounter dx []) ∧
  ∀ H' m, CntAt P w a H' x m dx [] → Kept (fun b => b = x) H H' → H m = none → Q .non H'
theorem l_Counter_init : ∀ vs H Q E, sp_Counter_init P w K a vs H Q E → vs.length = 1 := by
  rintro vs H Q E ⟨x, dx, rfl, _⟩; rfl
abbrev s_Counter_init : Stmt := inClass (top 12) 0
abbrev N_Counter_init : List Str := ["self"]
theorem sc_Counter_init : FnScope N_Counter_init ["self"] (defScope s_Counter_init) := ⟨rfl, rfl, rfl, by decide +kernel, rfl, by decide +kernel, by decide +kernel⟩
def t_Counter_init (P : Program) (w : World) (K : PySem.W.Frag) (a : Ad) (E : XK) : TS :=
  (sFld K (tVar 0) (tMemNew P w) "known")
theorem d_Counter_init {P : Program} {w : World} {K : PySem.W.Frag} {mg : Str → Option Value} {base : Heap} {a : Ad} (T : Txt K mg a)  {f : Addr} {cdv : Value} {A : Around} {outer : List Env} {s : Shared} {H : Hp} {E : XK}
    (hr : Room 0 (A.deeper (envOfC "Counter.__init__" (defScope s_Counter_init) s.heap.objs.size f cdv))) : PSs (cxOf CX0 P w K mg base N_Counter_init "Counter.__init__" (defScope s_Counter_init) f cdv A outer s H E).nox (defBody s_Counter_init) (t_Counter_init P w K a E) :=
  (pss_one (ps_fld (pv 0) pe_memNew rfl))
theorem p_Counter_init (T : Txt K mg a) {vs : List V} {Q : VK} {E : XK} (h : sp_Counter_init P w K a vs H Q E) :
    t_Counter_init P w K a E { nx := fun _ H' => Q .non H', rt := Q } (start N_Counter_init vs) H := by
  obtain ⟨x, dx, rfl, hx, q⟩ := h
  intro m hm
  have n : x ≠ m := ne_of_none hx hm
  have hx' : upd H m (memO P w m []) x = some (.ins a.CCounter dx []) := by rw [upd_ne n]; exact hx
  refine ⟨_, rfl, x, _, dx, [], rfl, hx', T.c_Counter, T.a_Counter_known, by decide, ?_⟩
  refine q _ m ⟨upd_same, ?_, fun e he => by simp at he, fun e he => by simp at he, fun e he => by simp at he, List.nodup_nil⟩ ?_ hm
  · rw [upd_ne (Ne.symm n), upd_same]
  · exact ((Kept.refl _ H).new hm).put rfl hx' rfl
theorem ok_Counter_init {P : Program} {w : World} {K : PySem.W.Frag} {mg : Str → Option Value} {base : Heap} {a : Ad} (T : Txt K mg a) : MakB P w K mg base CX0 1 "Counter" a.CCounter (sp_Counter_init P w K a) :=
  MakB.mk0 T.f_Counter_init sc_Counter_init l_Counter_init fun f cdv A outer s H vs Q E hr h => ⟨_, d_Counter_init T  hr, p_Counter_init T h⟩
/-! ### start_of -/
def sp_Counter_start_of (P : Program) (w : World) (K : PySem.W.Frag) (a : Ad) : Sp := fun vs H Q _ => ∃ (c l : Addr) (ns : List Nat), vs = [.ref c, .ref l] ∧ SqL K H l (nL ns) ∧ ns.length ≤ 1000 ∧ (∀ r ∈ ns, r ≤ 10) ∧
  ∀ H' t kb, Same H H' → H' t = some (.tup [.ref kb, nV (startF ns).2]) → StateAt H' kb (startF ns).1 → Q (.ref t) H'
theorem l_Counter_start_of : ∀ vs H Q E, sp_Counter_start_of P w K a vs H Q E → vs.length = 2 := by
  rintro vs H Q E ⟨x, dx, ns, rfl, _⟩; rfl
abbrev s_Counter_start_of : Stmt := inClass (top 12) 1
abbrev N_Counter_start_of : List Str := ["self", "rolls", "state", "total", "roll"]
theorem sc_Counter_start_of : FnScope N_Counter_start_of ["self", "rolls"] (defScope s_Counter_start_of) := ⟨rfl, rfl, rfl, by decide +kernel, rfl, by decide +kernel, by decide +kernel⟩
def t_Counter_start_of (P : Program) (w : World) (K : PySem.W.Frag) (a : Ad) (E : XK) : TS :=
  (tSeq (tAsg (tTup (tCons (tC (.int 0)) (tCons (tTup tNil) (tCons (tC (.int 0)) (tCons (tC (.int 0)) tNil))))) (gName 2))
  (tSeq (tAsg (tC (.int 0)) (gName 3))
  (tSeq (tFor (iList K (tVar 1)) (gName 4) (tSeq (tAug 3 (tOp rMulI (tVar 4) (tOp rAddI (tC (.int 1)) (tOp (rIxT K) (tVar 2) (tC (.int 2))))) ipAdd)
  (tAsg (tCall (sp_next_state P w K a) [] E0 (tCons (tVar 2) (tCons (tVar 4) tNil))) (gName 2))))
  (tRet (tTup (tCons (tVar 2) (tCons (tVar 3) tNil)))))))
theorem d_Counter_start_of {P : Program} {w : World} {K : PySem.W.Frag} {mg : Str → Option Value} {base : Heap} {a : Ad} (T : Txt K mg a) (c_next_state : CalB P w K mg base CX0 2 "next_state" (sp_next_state P w K a)) {f : Addr} {cdv : Value} {A : Around} {outer : List Env} {s : Shared} {H : Hp} {E : XK}
    (hr : Room 2 (A.deeper (envOfC "Counter.start_of" (defScope s_Counter_start_of) s.heap.objs.size f cdv))) : PSs (cxOf CX0 P w K mg base N_Counter_start_of "Counter.start_of" (defScope s_Counter_start_of) f cdv A outer s H E).nox (defBody s_Counter_start_of) (t_Counter_start_of P w K a E) :=
  (pss_cons (ps_set (i := 2) sc_Counter_start_of.nd rfl (by first | exact Or.inl rfl | exact Or.inr rfl) (pe_tup (pa_cons pe_int (pa_cons (pe_tup pa_nil) (pa_cons pe_int (pa_cons pe_int pa_nil))))))
  (pss_cons (ps_set (i := 3) sc_Counter_start_of.nd rfl (by first | exact Or.inl rfl | exact Or.inr rfl) pe_int)
  (pss_cons (ps_for (PassesOwn.never) rfl (pi_list (pv 1)) (pg_name (i := 4) sc_Counter_start_of.nd rfl (by first | exact Or.inl rfl | exact Or.inr rfl)) (pss_cons (ps_aug (i := 3) sc_Counter_start_of.nd rfl (by first | exact Or.inl rfl | exact Or.inr rfl) (pe_op op_mul (pv 4) (pe_op op_add pe_int (pe_ix ix_tup (pv 2) pe_int (fun _ _ => rfl)))) ip_add)
  (pss_one (ps_set (i := 2) sc_Counter_start_of.nd rfl (by first | exact Or.inl rfl | exact Or.inr rfl) (pc c_next_state hr (by decide) pass0 rfl (pa_cons (pv 2) (pa_cons (pv 4) pa_nil)))))))
  (pss_one (ps_ret (pe_tup (pa_cons (pv 2) (pa_cons (pv 3) pa_nil))))))))
theorem startF_take {ns : RL} {i r : Nat} (h : ns[i]? = some r) : startF (ns.take (i + 1)) = startStep (startF (ns.take i)) r := by
  unfold startF; rw [take_snoc h, List.foldl_append]; rfl
theorem nextS_len (s : CS) (r : Nat) : (nextS s r).f.length ≤ s.f.length + 1 := by
  unfold nextS
  split
  · exact Nat.zero_le _
  · show (s.f ++ [r]).length ≤ _; rw [List.length_append]; exact Nat.le_refl _
theorem startF_len (ns : RL) : ∀ i, i ≤ ns.length → (startF (ns.take i)).1.f.length ≤ i
  | 0, _ => Nat.le_refl 0
  | i + 1, h => by
    rw [startF_take (List.getElem?_eq_getElem (by omega))]
    exact Nat.le_trans (nextS_len _ _) (Nat.succ_le_succ (startF_len ns i (by omega)))
theorem p_Counter_start_of (T : Txt K mg a) {vs : List V} {Q : VK} {E : XK} (h : sp_Counter_start_of P w K a vs H Q E) :
    t_Counter_start_of P w K a E { nx := fun _ H' => Q .non H', rt := Q } (start N_Counter_start_of vs) H := by
  obtain ⟨c, l, ns, rfl, hl, hz, hr, q⟩ := h
  refine ⟨by decide, fun fa hfa => ⟨le4, fun ka hka => ?_⟩⟩
  have nf : fa ≠ ka := ne_of_none (upd_same (H := H) (o := .tup [])) hka
  have s0 : Same H (upd (upd H fa (.tup [])) ka (.tup [.int 0, .ref fa, .int 0, .int 0])) := (same_upd hfa).trans (same_upd hka)
  refine ⟨_, rfl, l, rfl, ⟨_, s0.seq hl⟩, ?_⟩
  refine for_list (fun i σ H1 => ∃ z kb, σ = [some (.ref c), some (.ref l), some (.ref kb), some (nV (startF (ns.take i)).2), z] ∧ Same H H1 ∧ StateAt H1 kb (startF (ns.take i)).1)
    ⟨_, ka, rfl, s0, fa, upd_same, ?_⟩ (fun i σ H1 _ ⟨_, _, _, s1, _⟩ => s1.seq hl) (fun i x σ H1 hx g => ?_) fun σ H1 g => ?_
  · rw [upd_ne nf, upd_same]; rfl
  · obtain ⟨z, kb, rfl, s1, hst⟩ := g
    obtain ⟨r, hi, rfl⟩ := getElem?_map_some hx
    obtain ⟨fb, hk, hfb⟩ := id hst
    have hi' : i < ns.length := (List.getElem?_eq_some_iff.mp hi).1
    have hr10 := hr r (List.mem_of_getElem? hi)
    refine ⟨_, rfl, _, rfl, _, rfl, kb, _, 2, _, rfl, rfl, sqT hk, atI_nat (j := 2) rfl, _, _, rfl, rfl, _, _, rfl, rfl, .inl ⟨by omega, by omega⟩, _, _, rfl, rfl, ?_⟩
    refine ⟨_, rfl, _, rfl, kb, _, r, rfl, hst, Nat.le_trans (startF_len ns i (Nat.le_of_lt hi')) (by omega), fun H2 kb2 s2 hst2 => ?_⟩
    refine ⟨some (nV r), kb2, ?_, s1.trans s2, ?_⟩
    · rw [startF_take hi]
      show [_, _, _, _, _] = [_, _, _, some (nV ((startF (ns.take i)).2 + r * (1 + (startF (ns.take i)).1.m))), _]
      unfold nV
      rw [Int.natCast_add, Int.natCast_mul, Int.natCast_add]; rfl
    · rw [startF_take hi]; exact hst2
  · obtain ⟨z, kb, rfl, s1, hst⟩ := g
    rw [nL_length, List.take_length] at *
    refine ⟨_, rfl, _, rfl, le2, fun t ht => ?_⟩
    exact q _ t kb (s1.trans (same_upd ht)) upd_same (hst.up (same_upd ht))
theorem ok_Counter_start_of {P : Program} {w : World} {K : PySem.W.Frag} {mg : Str → Option Value} {base : Heap} {a : Ad} (T : Txt K mg a) : MetB P w K mg base CX0 3 a.CCounter "start_of" (sp_Counter_start_of P w K a) :=
  MetB.mk0 T.f_Counter_start_of sc_Counter_start_of l_Counter_start_of fun f cdv A outer s H vs Q E hr h => ⟨_, d_Counter_start_of T (ok_next_state T) hr, p_Counter_start_of T h⟩
end
end Bw

/-! the walk: the counter's recursion -/
namespace Bw
open PySem PySem.Spec PyProof.Rows L2
section
variable {P : Program} {w : World} {K : PySem.W.Frag} {mg : Str → Option Value} {base : Heap} {a : Ad} {H H' : Hp} {c m dx : Addr} {l : List Ent}
def sp_Counter_endings (P : Program) (w : World) (K : PySem.W.Frag) (a : Ad) (d : Nat) : Sp := fun vs H Q _ => ∃ (c ka : Addr) (s : CS) (m dx : Addr) (l : List Ent), vs = [.ref c, .ref ka] ∧ need s < d ∧ Good s ∧ StateAt H ka s ∧ CntAt P w a H c m dx l ∧
  ∀ H' va l', CntAt P w a H' c m dx l' → Kept (fun b => b = m) H H' → H' va = some (.dK (dKV (ends s))) → (∃ e ∈ l', e.va = va) → (∀ e ∈ l', e ∈ l ∨ (need e.st ≤ need s ∧ H e.va = none)) → Q (.ref va) H'
theorem l_Counter_endings {d : Nat} : ∀ vs H Q E, sp_Counter_endings P w K a d vs H Q E → vs.length = 2 := by
  rintro vs H Q E ⟨x, y, s, m, dx, l, rfl, _⟩; rfl
abbrev s_Counter_endings : Stmt := inClass (top 12) 2
abbrev N_Counter_endings : List Str := ["self", "state", "found", "roll", "worth", "there", "more"]
theorem sc_Counter_endings : FnScope N_Counter_endings ["self", "state"] (defScope s_Counter_endings) := ⟨rfl, rfl, rfl, by decide +kernel, rfl, by decide +kernel, by decide +kernel⟩
def t_Counter_endings (P : Program) (w : World) (K : PySem.W.Frag) (a : Ad) (d : Nat) (E : XK) : TS :=
  (tSeq (tIfS (tB (tMemNotIn P w (tVar 1) (tFld K (tVar 0) "known"))) (tSeq (tAsg tDNewK (gName 2))
  (tSeq (tIfS (tTest (tOp rEq (tOp (rIxT K) (tVar 1) (tC (.int 0))) (tC (.int (10))))) (sDPut (tVar 2) (tC (.int 0)) (tC (.int 1))) (tFor (iRng1 (tCons (tOp rAddI (tCall (sp_left_of__T P w K a) [] E0 (tCons (tOp (rIxT K) (tVar 1) (tC (.int 1))) tNil)) (tC (.int 1))) tNil)) (gName 3) (tSeq (tAsg (tOp rMulI (tVar 3) (tOp rAddI (tC (.int 1)) (tOp (rIxT K) (tVar 1) (tC (.int 2))))) (gName 4))
  (tSeq (tAsg (tMeth a.CCounter "endings" (sp_Counter_endings P w K a d) [] E0 (tVar 0) (tCons (tCall (sp_next_state P w K a) [] E0 (tCons (tVar 1) (tCons (tVar 3) tNil))) tNil)) (gName 5))
  (tLock (tFor (iKeys (tVar 5)) (gName 6) (sDPut (tVar 2) (tOp rAddI (tVar 4) (tVar 6)) (tOp rAddI (tDGet2 (tVar 2) (tOp rAddI (tVar 4) (tVar 6)) (tC (.int 0))) (tDGet (tVar 5) (tVar 6))))))))))
  (sMemPut P w (tFld K (tVar 0) "known") (tVar 1) (tVar 2)))) tNext)
  (tRet (tMemGet P w (tFld K (tVar 0) "known") (tVar 1))))
theorem d_Counter_endings {P : Program} {w : World} {K : PySem.W.Frag} {mg : Str → Option Value} {base : Heap} {a : Ad} {d : Nat} (T : Txt K mg a) (c_left_of__T : CalB P w K mg base CX0 1 "left_of" (sp_left_of__T P w K a)) (c_Counter_endings : MetB P w K mg base CX0 (d + 4) a.CCounter "endings" (sp_Counter_endings P w K a d)) (c_next_state : CalB P w K mg base CX0 2 "next_state" (sp_next_state P w K a)) {f : Addr} {cdv : Value} {A : Around} {outer : List Env} {s : Shared} {H : Hp} {E : XK}
    (hr : Room (d + 4) (A.deeper (envOfC "Counter.endings" (defScope s_Counter_endings) s.heap.objs.size f cdv))) : PSs (cxOf CX0 P w K mg base N_Counter_endings "Counter.endings" (defScope s_Counter_endings) f cdv A outer s H E).nox (defBody s_Counter_endings) (t_Counter_endings P w K a d E) :=
  (pss_cons (ps_if (pt_cmp (pc_memNotIn hr.units (pv 1) (pe_fld (pv 0) rfl)) rfl) (pss_cons (ps_set (i := 2) sc_Counter_endings.nd rfl (by first | exact Or.inl rfl | exact Or.inr rfl) pe_dnewK)
  (pss_cons (ps_if (pt_cmpR op_eq (pe_ix ix_tup (pv 1) pe_int (fun _ _ => rfl)) (pgi T.g_FRAMES rfl) (nomark _)) (pss_one (ps_dput (hu_of hr) (pv 2) pe_int pe_int rfl)) (pss_one (ps_for (PassesOwn.never) rfl (pi_range1 rfl T.n_range (pa_cons (pe_op op_add (pc c_left_of__T hr (by omega) pass0 rfl (pa_cons (pe_ix ix_tup (pv 1) pe_int (fun _ _ => rfl)) pa_nil)) pe_int) pa_nil)) (pg_name (i := 3) sc_Counter_endings.nd rfl (by first | exact Or.inl rfl | exact Or.inr rfl)) (pss_cons (ps_set (i := 4) sc_Counter_endings.nd rfl (by first | exact Or.inl rfl | exact Or.inr rfl) (pe_op op_mul (pv 3) (pe_op op_add pe_int (pe_ix ix_tup (pv 1) pe_int (fun _ _ => rfl)))))
  (pss_cons (ps_set (i := 5) sc_Counter_endings.nd rfl (by first | exact Or.inl rfl | exact Or.inr rfl) (pm c_Counter_endings hr (by omega) pass0 (pv 0) (pa_cons (pc c_next_state hr (by omega) pass0 rfl (pa_cons (pv 1) (pa_cons (pv 3) pa_nil))) pa_nil)))
  (pss_one (ps_lock (ps_for (PassesOwn.never) rfl (pi_keys (pv 5)) (pg_name (i := 6) sc_Counter_endings.nd rfl (by first | exact Or.inl rfl | exact Or.inr rfl)) (pss_one (ps_dput (hu_of hr) (pv 2) (pe_op op_add (pv 4) (pv 6)) (pe_op op_add (pe_dget2 (hu_of hr) (pv 2) (pe_op op_add (pv 4) (pv 6)) pe_int ⟨rfl, rfl, rfl, rfl⟩) (pe_dget (hu_of hr) (pv 5) (pv 6) (fun _ _ => rfl))) rfl))))))))))
  (pss_one (ps_memPut hr.units (pe_fld (pv 0) rfl) (pv 1) (pv 2) rfl)))) pss_nil)
  (pss_one (ps_ret (pe_memGet hr.units (pe_fld (pv 0) rfl) (pv 1) (fun _ _ => rfl)))))
theorem CntAt.ne_va {l : List Ent} (x : CntAt P w a H c m dx l) {e : Ent} (h : e ∈ l) : e.va ≠ c ∧ e.va ≠ m := by
  have v := x.vals e h
  constructor
  · intro z; rw [z, x.self] at v; cases v
  · intro z
    rw [z, x.memo] at v
    simp [memO] at v
theorem p_Counter_endings {d : Nat} (T : Txt K mg a) {vs : List V} {Q : VK} {E : XK} (h : sp_Counter_endings P w K a (d + 1) vs H Q E) :
    t_Counter_endings P w K a d E { nx := fun _ H' => Q .non H', rt := Q } (start N_Counter_endings vs) H := by
  obtain ⟨c, ka, s, m, dx, l, rfl, hd, g, hk, hc, q⟩ := h
  -- the end
  have fin : ∀ (σ : L2.St) (H2 : Hp) (l2 : List Ent) (va : Addr), σ[0]? = some (some (.ref c)) → σ[1]? = some (some (.ref ka)) → CntAt P w a H2 c m dx l2 → Kept (fun b => b = m) H H2 → memGet l2 s = some va →
      (∀ e ∈ l2, e ∈ l ∨ (need e.st ≤ need s ∧ H e.va = none)) → (tRet (tMemGet P w (tFld K (tVar 0) "known") (tVar 1))) { nx := fun _ H' => Q .non H', rt := Q } σ H2 := by
    intro σ H2 l2 va e0 e1 hc2 kp hg hn
    obtain ⟨e, he, es, ev⟩ := memGet_some hg
    refine ⟨_, e0, c, _, _, _, _, rfl, hc2.self, T.c_Counter, T.a_Counter_known, rfl, _, e1, m, ka, l2, s, va, rfl, rfl, hc2.memo, hc2.keys, kp.state hk, hg, ?_⟩
    refine q H2 va l2 hc2 kp ?_ ⟨e, he, ev⟩ hn
    have := hc2.vals e he
    rw [ev, es] at this
    exact this
  refine ⟨_, rfl, _, rfl, c, _, _, _, _, rfl, hc.self, T.c_Counter, T.a_Counter_known, rfl, m, ka, l, s, rfl, rfl, hc.memo, hc.keys, hk, _, rfl, ?_⟩
  cases hg : memGet l s with
  | some va => exact ite_false_of (by simp) (fin _ H l va rfl rfl hc (Kept.refl _ H) hg fun e he => .inl he)
  | none =>
    refine ite_true_of (by rfl) ?_
    intro p hp
    have hng := memGet_none.mp hg
    have s0 : Same H (upd H p (.dK [])) := same_upd hp
    have k0 : Kept (fun b => b = m) H (upd H p (.dK [])) := Kept.of s0
    -- the new dict goes into the memo
    have put : ∀ (σ : L2.St) (H2 : Hp) (l2 : List Ent), σ[0]? = some (some (.ref c)) → σ[1]? = some (some (.ref ka)) → σ[2]? = some (some (.ref p)) → CntAt P w a H2 c m dx l2 → Kept (fun b => b = m) H H2 → H2 p = some (.dK (dKV (ends s))) →
        (∀ e ∈ l2, e ∈ l ∨ (need e.st < need s ∧ H e.va = none)) →
        (sMemPut P w (tFld K (tVar 0) "known") (tVar 1) (tVar 2)) { nx := fun σ' H' => (tRet (tMemGet P w (tFld K (tVar 0) "known") (tVar 1))) { nx := fun _ H' => Q .non H', rt := Q } σ' H', rt := Q } σ H2 := by
      intro σ H2 l2 e0 e1 e2 hc2 kp hpe hn
      have hno : memGet l2 s = none := memGet_none.mpr fun e he z => by
        rcases hn e he with h1 | ⟨h1, _⟩
        · exact hng e h1 z
        · rw [z] at h1; exact Nat.lt_irrefl _ h1
      refine ⟨_, e2, _, e0, c, _, _, _, _, rfl, hc2.self, T.c_Counter, T.a_Counter_known, rfl, _, e1, m, ka, l2, s, p, rfl, rfl, rfl, hc2.memo, hc2.keys, kp.state hk, hno, hc2.len, ?_⟩
      have nm : ∀ b o, H2 b = some o → b ≠ m → upd H2 m (memO P w m (l2 ++ [⟨s, ka, p⟩])) b = some o := fun b o e n => by rw [upd_ne n]; exact e
      have ncm : c ≠ m := fun z => by
        have := hc2.memo
        rw [← z, hc2.self] at this
        simp [memO] at this
      have npm : p ≠ m := fun z => by
        have := hc2.memo
        rw [← z, hpe] at this
        simp [memO] at this
      have ntm : ∀ b xs, H2 b = some (.tup xs) → b ≠ m := fun b xs e z => by
        rw [z, hc2.memo] at e
        simp [memO] at e
      refine fin _ _ (l2 ++ [⟨s, ka, p⟩]) p e0 e1 ⟨nm _ _ hc2.self ncm, upd_same, ?_, ?_, ?_, ?_⟩ (kp.put rfl hc2.memo rfl) (memGet_new hno) ?_
      · intro e he
        rcases List.mem_append.mp he with he | he
        · exact (hc2.keys e he).same fun b xs e => nm _ _ e (ntm b xs e)
        · rw [List.mem_singleton.mp he]
          exact (kp.state hk).same fun b xs e => nm _ _ e (ntm b xs e)
      · intro e he
        rcases List.mem_append.mp he with he | he
        · exact nm _ _ (hc2.vals e he) (hc2.ne_va he).2
        · rw [List.mem_singleton.mp he]
          exact nm _ _ hpe npm
      · intro e he
        rcases List.mem_append.mp he with he | he
        · exact hc2.good e he
        · rw [List.mem_singleton.mp he]; exact g
      · rw [List.map_append, List.nodup_append]
        refine ⟨hc2.nd, by simp, ?_⟩
        intro x hx y hy
        obtain ⟨e, he, rfl⟩ := List.mem_map.mp hx
        simp at hy
        rw [hy]
        exact memGet_none.mp hno e he
      · intro e he
        rcases List.mem_append.mp he with he | he
        · rcases hn e he with h1 | ⟨h1, h2⟩
          · exact .inl h1
          · exact .inr ⟨Nat.le_of_lt h1, h2⟩
        · rw [List.mem_singleton.mp he]
          exact .inr ⟨Nat.le_refl _, hp⟩
    obtain ⟨fa, hka, hfa⟩ := k0.state hk
    refine ⟨_, rfl, ka, _, 0, _, rfl, rfl, sqT hka, atI_nat (j := 0) rfl, rfl, _, rfl, ?_⟩
    refine ite_d (fun c10 => ?_) (fun c10 => ?_)
    · have c10' : s.n = 10 := (nvl (n := 10) rfl).mp c10
      refine ⟨_, rfl, p, _, rfl, .inl ⟨[], .inl 0, upd_same, rfl, by decide, rfl⟩, ?_⟩
      refine put _ _ l rfl rfl rfl ?_ ?_ ?_ fun e he => .inl he
      · rw [upd_upd]; exact hc.up (same_upd hp)
      · rw [upd_upd]; exact Kept.of (same_upd hp)
      · rw [upd_same, ends_ten c10']; rfl
    · have hn10 : s.n < 10 := by
        have h1 := good_le g
        have h2 : ¬ s.n = 10 := fun e => c10 ((nvl (n := 10) rfl).mpr e)
        omega
      have hleft := good_left g
      refine ⟨_, rfl, ka, _, 1, _, rfl, rfl, sqT hka, atI_nat (j := 1) rfl, fa, s.f, rfl, sqT hfa, _, _, rfl, rfl, _, rfl, by omega, by omega, ?_⟩
      have et : (leftI s.f + 1).toNat = leftN s.f + 1 := by omega
      rw [et]
      refine for_range (fun i σ Hi => ∃ z3 z4 z5 z6 li, σ = [some (.ref c), some (.ref ka), some (.ref p), z3, z4, z5, z6] ∧ CntAt P w a Hi c m dx li ∧ Kept (fun b => b = m) H Hi ∧ Hi p = some (.dK (dKV ((List.range i).foldl (endsStep s) []))) ∧
          (∀ e ∈ li, e ∈ l ∨ (need e.st < need s ∧ H e.va = none)) ∧ (∀ e ∈ li, e.va ≠ p) ∧ DOk ((List.range i).foldl (endsStep s) []))
        ⟨_, _, _, _, l, rfl, hc.up s0, k0, upd_same, fun e he => .inl he, fun e he => ne_of_none (hc.vals e he) hp, DOk.nil⟩ (fun i σ Hi hi gi => ?_) fun σ Hi gi => ?_
      · obtain ⟨z3, z4, z5, z6, li, rfl, hci, ki, hpi, hni, hvi, hdi⟩ := gi
        have hr' : i ≤ leftN s.f := by omega
        have hki := ki.state hk
        obtain ⟨fi, hkai, hfi⟩ := id hki
        have hm2 := good_m g
        rw [Int.zero_add]
        refine ⟨_, rfl, _, rfl, ka, _, 2, _, rfl, rfl, sqT hkai, atI_nat (j := 2) rfl, _, _, rfl, rfl, _, _, rfl, rfl, .inl ⟨by omega, by omega⟩, ?_⟩
        have ew : ((i : Int) * (1 + (s.m : Int))) = ((i * (1 + s.m) : Nat) : Int) := by rw [Int.natCast_mul, Int.natCast_add]; rfl
        refine ⟨_, rfl, c, dx, _, rfl, hci.self, rfl, _, rfl, _, rfl, ka, s, i, rfl, hki, Nat.le_trans (good_f g) (by omega), fun Hn kb sn hkb => ?_⟩
        have hlt := need_next g hn10 hr'
        refine ⟨c, kb, nextS s i, m, dx, li, rfl, by omega, good_next g hn10 hr', hkb, hci.up sn, fun H2 va l2 hc2 kp2 hva hin hnew => ?_⟩
        have hg' := good_next g hn10 hr'
        have hpn : Hn p = some (.dK (dKV ((List.range i).foldl (endsStep s) []))) := sn _ _ hpi
        have npm : p ≠ m := fun z => by
          have := hci.memo
          rw [← z, hpi] at this
          simp [memO] at this
        have hp2 : H2 p = some (.dK (dKV ((List.range i).foldl (endsStep s) []))) := kp2 _ _ hpn fun z => absurd z npm
        have hv2 : ∀ e ∈ l2, e.va ≠ p := fun e he => by
          rcases hnew e he with h1 | ⟨_, h1⟩
          · exact hvi e h1
          · intro z
            rw [z, hpn] at h1; cases h1
        obtain ⟨ev, hev, rfl⟩ := hin
        have nvp : ev.va ≠ p := hv2 ev hev
        refine ⟨ev.va, _, hva, trivial, fun od => ?_⟩
        refine ⟨_, rfl, ev.va, od, rfl, .inl ⟨_, upd_same, ?_⟩⟩
        have hp3 : upd H2 ev.va (.frz od (.dK (dKV (ends (nextS s i))))) p = some (.dK (dKV ((List.range i).foldl (endsStep s) []))) := by rw [upd_ne (Ne.symm nvp)]; exact hp2
        have hdok : ∀ j, DOk (mergeN (i * (1 + s.m)) ((List.range i).foldl (endsStep s) []) ((ends (nextS s i)).take j)) := fun j => hdi.merge fun q hq => ends_small g hn10 hr' q (List.mem_of_mem_take hq)
        refine for_it (walk_keys (d := ev.va) (o := od) (kvs := dKV (ends (nextS s i)))) (fun j σ Hj => ∃ z6, σ = [some (.ref c), some (.ref ka), some (.ref p), some (.int (i : Int)), some (nV (i * (1 + s.m))), some (.ref ev.va), z6] ∧
            Hj = upd (upd H2 ev.va (.frz od (.dK (dKV (ends (nextS s i)))))) p (.dK (dKV (mergeN (i * (1 + s.m)) ((List.range i).foldl (endsStep s) []) ((ends (nextS s i)).take j)))))
          ⟨z6, ?_, ?_⟩ (fun j σ Hj _ ⟨_, _, e⟩ => by rw [e, upd_ne nvp]; exact upd_same) (fun j x σ Hj Hj' hj gj y => ?_) fun σ Hj gj => ?_
        · show [_, _, _, _, some (V.int ((i : Int) * (1 + (s.m : Int)))), _, _] = [_, _, _, _, some (V.int ((i * (1 + s.m) : Nat) : Int)), _, _]
          rw [ew]
        · exact (upd_self hp3).symm
        · obtain ⟨z, rfl, rfl⟩ := gj
          obtain ⟨rfl, k, v, hkv, rfl⟩ := y
          obtain ⟨pr, hpr, ekv⟩ := getElem?_map_some hkv
          cases ekv
          have hmem := List.mem_of_getElem? hpr
          have hvv := valV_at (ends_DOk hg').nd hmem
          refine ⟨_, rfl, p, rfl, .inl ⟨_, .inl upd_same⟩, _, rfl, _, rfl, _, _, rfl, rfl, _, .inl ⟨_, .inl ((i * (1 + s.m) + pr.1 : Nat) : Int), .inl upd_same, ?_, rfl⟩, ?_⟩
          · show V.int _ = V.int _
            rw [Int.natCast_add]
          rw [valV_dKV]
          refine ⟨_, rfl, _, rfl, ev.va, nV pr.2, rfl, .inl ⟨_, .inl (pr.1 : Int), .inr ⟨od, ?_⟩, rfl, hvv.symm⟩, _, _, rfl, rfl, ?_⟩
          · rw [upd_ne nvp]; exact upd_same
          refine ⟨_, rfl, _, rfl, _, rfl, _, _, rfl, rfl, p, _, rfl, .inl ⟨_, .inl ((i * (1 + s.m) + pr.1 : Nat) : Int), upd_same, ?_, ?_, rfl⟩, some (nV pr.1), rfl, ?_⟩
          · show V.int _ = V.int _
            rw [Int.natCast_add]
          · rw [dKV_len]
            exact Nat.lt_of_le_of_lt (hdok j).len (by decide)
          · rw [upd_upd, take_snoc hpr]
            congr 1
            congr 1
            have := putK_dKV (mergeN (i * (1 + s.m)) ((List.range i).foldl (endsStep s) []) ((ends (nextS s i)).take j)) (i * (1 + s.m) + pr.1) (getN (mergeN (i * (1 + s.m)) ((List.range i).foldl (endsStep s) []) ((ends (nextS s i)).take j)) (i * (1 + s.m) + pr.1) + pr.2)
            refine Eq.trans ?_ (this.trans ?_)
            · congr 1
            · unfold mergeN
              rw [List.foldl_append]; rfl
        · obtain ⟨z, rfl, rfl⟩ := gj
          refine ⟨by rw [upd_ne nvp]; exact upd_same, ?_⟩
          rw [upd_back hva nvp, dKV_len, List.take_length]
          have es : mergeN (i * (1 + s.m)) ((List.range i).foldl (endsStep s) []) (ends (nextS s i)) = (List.range (i + 1)).foldl (endsStep s) [] := by
            rw [List.range_succ, List.foldl_append]; rfl
          rw [es]
          have kp12 : Kept (fun b => b = m) H H2 := (ki.trans (Kept.of sn)).trans kp2
          refine ⟨_, _, _, _, l2, rfl, ?_, kp12.own hp, upd_same, ?_, hv2, ?_⟩
          · refine hc2.keep fun b o e hb => ?_
            have nb : b ≠ p := by
              rcases hb with rfl | rfl | ⟨e2, he2, rfl⟩ | hb
              · intro z; rw [← z, hc2.self] at hp2; cases hp2
              · exact Ne.symm npm
              · exact hv2 e2 he2
              · intro z; rw [z, hp2] at e; cases e; cases hb
            rw [upd_ne nb]; exact e
          · intro e he
            rcases hnew e he with h1 | ⟨h1, h2⟩
            · exact hni e h1
            · refine .inr ⟨by omega, ?_⟩
              refine (ki.trans (Kept.of sn)).free (fun b hb => ?_) h2
              show (Hn b).isSome = true
              have : b = m := hb
              rw [this, sn _ _ hci.memo]; rfl
          · rw [← es]
            have := hdok (ends (nextS s i)).length
            rw [List.take_length] at this
            exact this
      · obtain ⟨z3, z4, z5, z6, li, rfl, hci, ki, hpi, hni, hvi, hdi⟩ := gi
        refine put _ _ li rfl rfl rfl hci ki ?_ hni
        rw [hpi, ends_step g hn10]
theorem ok_Counter_endings (T : Txt K mg a) : ∀ d : Nat, MetB P w K mg base CX0 (d + 4) a.CCounter "endings" (sp_Counter_endings P w K a d)
  | 0 => MetB.mk0 (k := 3) T.f_Counter_endings sc_Counter_endings l_Counter_endings fun f cdv A outer s H vs Q E hr h => by
      obtain ⟨_, _, _, _, _, _, _, h, _⟩ := h
      exact absurd h (Nat.not_lt_zero _)
  | d + 1 => MetB.mk0 (k := d + 4) T.f_Counter_endings sc_Counter_endings l_Counter_endings fun f cdv A outer s H vs Q E hr h => ⟨_, d_Counter_endings T (ok_left_of__T T) (ok_Counter_endings T d) (ok_next_state T) hr, p_Counter_endings T h⟩
/-! ### ways -/
def sp_Counter_ways (P : Program) (w : World) (K : PySem.W.Frag) (a : Ad) : Sp := fun vs H Q _ => ∃ (c r : Addr) (ns : List Nat) (m dx : Addr) (l : List Ent), vs = [.ref c, .ref r] ∧ SqL K H r (nL ns) ∧ ns.length ≤ 1000 ∧ (∀ x ∈ ns, x ≤ 10) ∧ Good (startF ns).1 ∧ CntAt P w a H c m dx l ∧
  ∀ H' p l', CntAt P w a H' c m dx l' → Kept (fun b => b = m) H H' → H' p = some (.dK (dKV (waysD ns))) → (∀ e ∈ l', e ∈ l ∨ H e.va = none) → Q (.ref p) H'
theorem l_Counter_ways : ∀ vs H Q E, sp_Counter_ways P w K a vs H Q E → vs.length = 2 := by
  rintro vs H Q E ⟨x, y, s, m, dx, l, rfl, _⟩; rfl
abbrev s_Counter_ways : Stmt := inClass (top 12) 3
abbrev N_Counter_ways : List Str := ["self", "rolls", "state", "total", "there", "more"]
theorem sc_Counter_ways : FnScope N_Counter_ways ["self", "rolls"] (defScope s_Counter_ways) := ⟨rfl, rfl, rfl, by decide +kernel, rfl, by decide +kernel, by decide +kernel⟩
def t_Counter_ways (P : Program) (w : World) (K : PySem.W.Frag) (a : Ad) (E : XK) : TS :=
  (tSeq (tAsg (tMeth a.CCounter "start_of" (sp_Counter_start_of P w K a) [] E0 (tVar 0) (tCons (tVar 1) tNil)) (gTup K 2 (gCons (gName 2) (gCons (gName 3) gNil))))
  (tSeq (tAsg (tMeth a.CCounter "endings" (sp_Counter_endings P w K a 31) [] E0 (tVar 0) (tCons (tVar 2) tNil)) (gName 4))
  (tRet (tCB (rDictP K) (tCons (tLockE (tLc (iKeys (tVar 4)) (gName 5) tYes (tTup (tCons (tOp rAddI (tVar 3) (tVar 5)) (tCons (tDGet (tVar 4) (tVar 5)) tNil))) [5])) tNil)))))
theorem d_Counter_ways {P : Program} {w : World} {K : PySem.W.Frag} {mg : Str → Option Value} {base : Heap} {a : Ad} (T : Txt K mg a) (c_Counter_start_of : MetB P w K mg base CX0 3 a.CCounter "start_of" (sp_Counter_start_of P w K a)) (c_Counter_endings : MetB P w K mg base CX0 35 a.CCounter "endings" (sp_Counter_endings P w K a 31)) {f : Addr} {cdv : Value} {A : Around} {outer : List Env} {s : Shared} {H : Hp} {E : XK}
    (hr : Room 35 (A.deeper (envOfC "Counter.ways" (defScope s_Counter_ways) s.heap.objs.size f cdv))) : PSs (cxOf CX0 P w K mg base N_Counter_ways "Counter.ways" (defScope s_Counter_ways) f cdv A outer s H E).nox (defBody s_Counter_ways) (t_Counter_ways P w K a E) :=
  (pss_cons (ps_asg (pm c_Counter_start_of hr (by decide) pass0 (pv 0) (pa_cons (pv 1) pa_nil)) (pg_tup rfl (pgs_cons (pg_name (i := 2) sc_Counter_ways.nd rfl (by first | exact Or.inl rfl | exact Or.inr rfl)) (pgs_cons (pg_name (i := 3) sc_Counter_ways.nd rfl (by first | exact Or.inl rfl | exact Or.inr rfl)) pgs_nil))))
  (pss_cons (ps_set (i := 4) sc_Counter_ways.nd rfl (by first | exact Or.inl rfl | exact Or.inr rfl) (pm c_Counter_endings hr (by decide) pass0 (pv 0) (pa_cons (pv 2) pa_nil)))
  (pss_one (ps_ret (pe_callTy (call_dictP rfl) (by rfl) T.n_dict boot_dict2 (pa_cons (pe_lock (pe_lc (own := [("more", 5)]) (g := (gName 5)) (tt := tYes) (te := (tTup (tCons (tOp rAddI (tVar 3) (tVar 5)) (tCons (tDGet (tVar 4) (tVar 5)) tNil)))) rfl sc_Counter_ways.nd (pi_keys (pv 4)) (blkOk_by (N := N_Counter_ways) (sc := (defScope s_Counter_ways)) (by decide +kernel)) (fun _ _ _ _ _ => (pg_name (i := 5) sc_Counter_ways.nd rfl (by first | exact Or.inl rfl | exact Or.inr rfl))) (fun _ _ _ _ _ => pts_nil) (fun _ _ _ _ _ => (pe_tup (pa_cons (pe_op op_add (pv 3) (pv 5)) (pa_cons (pe_dget (hu_of hr) (pv 4) (pv 5) (fun _ _ => rfl)) pa_nil)))))) pa_nil))))))
theorem mergeK_new : ∀ (d fd : D), (keysOf (fd ++ d)).Nodup → mergeK (dKV fd) (dKV d) = dKV (fd ++ d)
  | [], fd, _ => by rw [List.append_nil]; rfl
  | p :: d, fd, h => by
    have hn : p.1 ∉ keysOf fd := by
      unfold keysOf at h ⊢
      rw [List.map_append, List.nodup_append] at h
      exact fun z => h.2.2 _ z _ (by simp) rfl
    have e : putK (dKV fd) (Sum.inl (p.1 : Int)) (nV p.2) = dKV (fd ++ [p]) := by
      rw [putK_dKV]
      unfold putN
      rw [if_neg fun z => hn ((any_keys fd p.1).mp z)]
    show mergeK (putK (dKV fd) (Sum.inl (p.1 : Int)) (nV p.2)) (dKV d) = _
    rw [e, mergeK_new d (fd ++ [p]) (by rw [List.append_assoc]; exact h), List.append_assoc]; rfl
theorem p_Counter_ways (T : Txt K mg a) {vs : List V} {Q : VK} {E : XK} (h : sp_Counter_ways P w K a vs H Q E) :
    t_Counter_ways P w K a E { nx := fun _ H' => Q .non H', rt := Q } (start N_Counter_ways vs) H := by
  obtain ⟨c, r, ns, m, dx, l, rfl, hl, hz, hr, g, hc, q⟩ := h
  refine ⟨_, rfl, c, dx, _, rfl, hc.self, rfl, _, rfl, c, r, ns, rfl, hl, hz, hr, fun H1 t kb s1 ht hst => ?_⟩
  refine ⟨t, _, rfl, sqT ht, rfl, _, _, rfl, _, _, rfl, rfl, ?_⟩
  have hc1 := hc.up s1
  refine ⟨_, rfl, c, dx, _, rfl, hc1.self, rfl, _, rfl, c, kb, _, m, dx, l, rfl, by have := need_le (startF ns).1; omega, g, hst, hc1, fun H2 va l2 hc2 kp2 hva hin hnew => ?_⟩
  obtain ⟨ev, hev, rfl⟩ := hin
  refine ⟨ev.va, _, hva, trivial, fun od => ?_⟩
  refine ⟨_, rfl, ev.va, od, rfl, .inl ⟨_, upd_same, ?_⟩⟩
  let H3 : Hp := upd H2 ev.va (.frz od (.dK (dKV (ends (startF ns).1))))
  have e3 : H3 = upd H2 ev.va (.frz od (.dK (dKV (ends (startF ns).1)))) := rfl
  rw [← e3]
  have hv3 : H3 ev.va = some (.frz od (.dK (dKV (ends (startF ns).1)))) := upd_same
  intro Dn hD
  have nD : ev.va ≠ Dn := ne_of_none hv3 hD
  refine lc_it (walk_keys (d := ev.va) (o := od) (kvs := dKV (ends (startF ns).1))) (fun i Hi => ∃ ps : List Addr, Kept (fun b => False) H3 Hi ∧ Hi Dn = some (.lst (ps.map V.ref)) ∧ ps.length = i ∧
      ∀ (j : Nat) (p : Addr) (q : Nat × Nat), ps[j]? = some p → (ends (startF ns).1)[j]? = some q → Hi p = some (.tup [nV ((startF ns).2 + q.1), nV q.2]))
    ⟨[], (Kept.refl _ _).new hD, upd_same, rfl, fun j p q h => by simp at h⟩ (fun i Hi _ ⟨_, k, _⟩ => k _ _ hv3 fun z => z.elim) (fun i x Hi Hi' hi gi y => ?_) fun Hi gi => ?_
  · obtain ⟨ps, k, hDi, hlen, hps⟩ := gi
    obtain ⟨rfl, k1, v, hkv, rfl⟩ := y
    obtain ⟨pr, hpr, ekv⟩ := getElem?_map_some hkv
    cases ekv
    have hmem := List.mem_of_getElem? hpr
    have hvv := valV_at (ends_DOk g).nd hmem
    have hvi := k _ _ hv3 fun z => z.elim
    refine ⟨rfl, _, rfl, _, rfl, _, _, rfl, rfl, _, rfl, _, rfl, ev.va, nV pr.2, rfl, .inl ⟨_, .inl (pr.1 : Int), .inr ⟨od, hvi⟩, rfl, hvv.symm⟩, le2, fun p hp => ?_⟩
    have nDp : Dn ≠ p := ne_of_none hDi hp
    refine ⟨ps.map V.ref, by rw [upd_ne nDp]; exact hDi, ?_, ps ++ [p], ?_, ?_, ?_, ?_⟩
    · rw [List.length_map, hlen]
      rw [dKV_len] at hi
      have := (ends_DOk g).len
      exact small_line (by omega)
    · exact (k.new hp).own (x := Dn) hD
    · rw [upd_same, List.map_append]; rfl
    · rw [List.length_append, hlen]; rfl
    · intro j p1 q1 h1 h2
      rcases Nat.lt_or_ge j ps.length with hj | hj
      · rw [List.getElem?_append_left hj] at h1
        have h3 := hps j p1 q1 h1 h2
        have n1 : p1 ≠ Dn := fun z => by rw [z, hDi] at h3; cases h3
        have n2 : p1 ≠ p := ne_of_none h3 hp
        rw [upd_ne n1, upd_ne n2]; exact h3
      · rw [List.getElem?_append_right hj] at h1
        have hj2 : j - ps.length = 0 := by
          cases e : j - ps.length with
          | zero => rfl
          | succ n => rw [e] at h1; simp at h1
        rw [hj2] at h1
        cases h1
        have hji : j = i := by omega
        rw [hji, hpr] at h2
        cases h2
        rw [upd_ne (Ne.symm nDp), upd_same]
        show some (HO.tup [V.int _, _]) = some (HO.tup [V.int _, _])
        rw [Int.natCast_add]
  · obtain ⟨ps, k, hDi, hlen, hps⟩ := gi
    have hvi := k _ _ hv3 fun z => z.elim
    refine ⟨hvi, ?_⟩
    rw [dKV_len] at hlen
    have nDv : Dn ≠ ev.va := Ne.symm nD
    have nt : ∀ p xs, Hi p = some (.tup xs) → p ≠ ev.va := fun p xs h z => by rw [z, hvi] at h; cases h
    refine ⟨Dn, ps, (waysD ns).map fun p => (Sum.inl (p.1 : Int), nV p.2), rfl, lp (by rw [upd_ne nDv]; exact hDi), ?_, fun p hp => ?_⟩
    · suffices h : ∀ (ds : D) (ps : List Addr), ps.length = ds.length → (∀ (j : Nat) (p : Addr) (q : Nat × Nat), ps[j]? = some p → ds[j]? = some q → Hi p = some (.tup [nV ((startF ns).2 + q.1), nV q.2])) →
          Paired (fun p kv => SqT K (upd Hi ev.va (.dK (dKV (ends (startF ns).1)))) p [kV kv.1, kv.2]) ps ((ds.map fun p => ((startF ns).2 + p.1, p.2)).map fun p => ((Sum.inl (p.1 : Int) : Key), nV p.2)) from h _ ps hlen hps
      intro ds
      induction ds with
      | nil =>
        intro ps hl _
        rw [List.length_eq_zero_iff.mp hl]
        exact .nil
      | cons d ds ih =>
        intro ps hl hp
        cases ps with
        | nil => cases hl
        | cons p ps =>
          have h0 := hp 0 p d rfl rfl
          refine .cons (sqT ?_) (ih ps (by rw [List.length_cons, List.length_cons] at hl; omega) fun j p q h1 h2 => hp (j + 1) p q h1 h2)
          rw [upd_ne (nt _ _ h0)]; exact h0
    · have em : mergeK [] (dKV (waysD ns)) = dKV (waysD ns) := by
        have h1 : (keysOf (waysD ns)).Nodup := by
          unfold waysD keysOf
          rw [List.map_map]
          have := (ends_DOk g).nd
          unfold keysOf at this
          have e : ((fun x : Nat × Nat => x.1) ∘ fun p : Nat × Nat => ((startF ns).2 + p.1, p.2)) = (fun n => (startF ns).2 + n) ∘ fun p : Nat × Nat => p.1 := rfl
          rw [e, ← List.map_map]
          exact nodup_map_on this fun x _ y _ h => by have h' : (startF ns).2 + x = (startF ns).2 + y := h; omega
        have := mergeK_new (waysD ns) [] h1
        exact this
      show Q (V.ref p) (upd (upd Hi ev.va (.dK (dKV (ends (startF ns).1)))) p (.dK (mergeK [] (dKV (waysD ns)))))
      rw [em]
      have ks : ∀ b o, H2 b = some o → upd (upd Hi ev.va (.dK (dKV (ends (startF ns).1)))) p (.dK (dKV (waysD ns))) b = some o := by
        intro b o e
        by_cases c1 : b = ev.va
        · rw [c1] at e ⊢
          have n1 : ev.va ≠ p := ne_of_none (upd_same (H := Hi)) hp
          rw [upd_ne n1, upd_same, ← e, hva]
        · have h3 : H3 b = some o := by rw [e3, upd_ne c1]; exact e
          have h4 : upd Hi ev.va (.dK (dKV (ends (startF ns).1))) b = some o := by rw [upd_ne c1]; exact k _ _ h3 fun z => z.elim
          rw [upd_ne (ne_of_none h4 hp)]; exact h4
      refine q _ p l2 (hc2.up ks) (((Kept.of s1).trans kp2).trans (Kept.of ks)) upd_same fun e he => ?_
      rcases hnew e he with h1 | ⟨_, h1⟩
      · exact .inl h1
      · exact .inr (s1.free h1)
theorem ok_Counter_ways (T : Txt K mg a) : MetB P w K mg base CX0 36 a.CCounter "ways" (sp_Counter_ways P w K a) :=
  MetB.mk0 T.f_Counter_ways sc_Counter_ways l_Counter_ways fun f cdv A outer s H vs Q E hr h => ⟨_, d_Counter_ways T (ok_Counter_start_of T) (ok_Counter_endings T 31) hr, p_Counter_ways T h⟩
end
end Bw

/-! the walk: groups, part one -/
namespace Bw
open PySem PySem.Spec PyProof.Rows L2
/-- where a group lies -/
structure GL where
  self : Addr
  dx : Addr
  rolls : Addr
  turns : Addr
  fin : Addr
  rows : List Addr
  frows : List Addr
def GL.ls (L : GL) : List Addr := L.rolls :: L.turns :: L.fin :: (L.rows ++ L.frows)
def GL.fp (L : GL) : List Addr := L.self :: L.ls
def gF (L : GL) (g : Grp) : List (Str × V) := [("size", nV g.size), ("shoes", nV g.shoes), ("rolls", .ref L.rolls), ("turns", .ref L.turns), ("finished", .ref L.fin), ("is_gone", .bl g.gone), ("team", optV g.team), ("counted", nV g.counted)]
structure GroupAt (a : Ad) (H : Hp) (L : GL) (g : Grp) : Prop where
  self : H L.self = some (.ins a.CGroup L.dx (gF L g))
  rolls : H L.rolls = some (.lst (L.rows.map V.ref))
  rows : RowsAt H L.rows g.rolls
  turns : H L.turns = some (.lst (nL g.turns))
  fin : H L.fin = some (.lst (L.frows.map V.ref))
  frows : RowsAt H L.frows g.fin
  nd : L.ls.Nodup
section
variable {P : Program} {w : World} {K : PySem.W.Frag} {mg : Str → Option Value} {base : Heap} {a : Ad} {H H' : Hp} {L : GL} {g : Grp}
theorem GroupAt.keep (x : GroupAt a H L g) (k : ∀ b ∈ L.fp, ∀ o, H b = some o → H' b = some o) : GroupAt a H' L g := by
  have k2 : ∀ b ∈ L.ls, ∀ o, H b = some o → H' b = some o := fun b hb => k b (List.mem_cons_of_mem _ hb)
  refine ⟨k _ List.mem_cons_self _ x.self, k2 _ (by simp [GL.ls]) _ x.rolls, x.rows.same fun b hb => k2 b (by simp [GL.ls, hb]), k2 _ (by simp [GL.ls]) _ x.turns, k2 _ (by simp [GL.ls]) _ x.fin, x.frows.same fun b hb => k2 b (by simp [GL.ls, hb]), x.nd⟩
theorem GroupAt.up (x : GroupAt a H L g) (s : Same H H') : GroupAt a H' L g := x.keep fun b _ o h => s b o h
/-- what lies at a group's addresses: its own object, or a list -/
theorem GroupAt.what (x : GroupAt a H L g) {b : Addr} (h : b ∈ L.fp) : ∃ o, H b = some o ∧ isTup o = false ∧ (b ≠ L.self → ∃ xs, o = .lst xs) := by
  rcases List.mem_cons.mp h with e | h
  · exact ⟨_, by rw [e]; exact x.self, rfl, fun n => absurd e n⟩
  have lst : ∀ xs, H b = some (.lst xs) → ∃ o, H b = some o ∧ isTup o = false ∧ (b ≠ L.self → ∃ xs, o = .lst xs) := fun xs e => ⟨_, e, rfl, fun _ => ⟨xs, rfl⟩⟩
  rcases List.mem_cons.mp h with e | h
  · exact lst _ (by rw [e]; exact x.rolls)
  rcases List.mem_cons.mp h with e | h
  · exact lst _ (by rw [e]; exact x.turns)
  rcases List.mem_cons.mp h with e | h
  · exact lst _ (by rw [e]; exact x.fin)
  rcases List.mem_append.mp h with h | h
  · obtain ⟨l, e⟩ := x.rows.there h
    exact lst _ e
  · obtain ⟨l, e⟩ := x.frows.there h
    exact lst _ e
theorem GroupAt.none_not (x : GroupAt a H L g) {b : Addr} (h : H b = none) : b ∉ L.fp := fun hb => by
  obtain ⟨o, e, _⟩ := x.what hb
  rw [h] at e; cases e
theorem GroupAt.self_not (x : GroupAt a H L g) : L.self ∉ L.ls := fun hb => by
  have h : L.self ∈ L.fp := List.mem_cons_self
  have e := x.self
  rcases List.mem_cons.mp hb with z | hb
  · rw [z, x.rolls] at e; cases e
  rcases List.mem_cons.mp hb with z | hb
  · rw [z, x.turns] at e; cases e
  rcases List.mem_cons.mp hb with z | hb
  · rw [z, x.fin] at e; cases e
  rcases List.mem_append.mp hb with hb | hb
  · obtain ⟨l, e2⟩ := x.rows.there hb
    rw [e] at e2; cases e2
  · obtain ⟨l, e2⟩ := x.frows.there hb
    rw [e] at e2; cases e2
/-- fields alone change -/
theorem GroupAt.field (x : GroupAt a H L g) {g' : Grp} (e1 : g'.rolls = g.rolls) (e2 : g'.turns = g.turns) (e3 : g'.fin = g.fin) : GroupAt a (upd H L.self (.ins a.CGroup L.dx (gF L g'))) L g' := by
  have n : ∀ b ∈ L.ls, ∀ o, H b = some o → upd H L.self (.ins a.CGroup L.dx (gF L g')) b = some o := fun b hb o e => by
    rw [upd_ne fun z => x.self_not (by rw [z] at hb; exact hb)]; exact e
  refine ⟨upd_same, n _ (by simp [GL.ls]) _ x.rolls, ?_, ?_, n _ (by simp [GL.ls]) _ x.fin, ?_, x.nd⟩
  · rw [e1]; exact x.rows.same fun b hb => n b (by simp [GL.ls, hb])
  · rw [e2]; exact n _ (by simp [GL.ls]) _ x.turns
  · rw [e3]; exact x.frows.same fun b hb => n b (by simp [GL.ls, hb])
/-! ### Group.turn -/
/-- the index of a number in a list of numbers -/
theorem r_indexN {l : Addr} {ns : RL} {x : Nat} {Q : VK} (hl : SqL K H l (nL ns)) (hx : x ∈ ns) (q : Q (nV (ns.idxOf x)) H) : rIndex K (.ref l) [nV x] H Q := by
  have lt := List.idxOf_lt_length_iff.mpr hx
  have at_ : ns[ns.idxOf x]? = some x := by rw [List.getElem?_eq_getElem lt, List.getElem_idxOf]
  refine ⟨l, nL ns, nV x, ns.idxOf x, nV x, rfl, rfl, hl, rfl, ?_, ?_, ?_, fun m z' hm hz => ?_, q⟩
  · rw [List.all_eq_true]; intro v hv; obtain ⟨n, _, rfl⟩ := List.mem_map.mp hv; rfl
  · unfold nL; rw [List.getElem?_map, at_]; rfl
  · exact beq_self_eq_true _
  · obtain ⟨y, hy, rfl⟩ := getElem?_map_some hz
    have hne : y ≠ x := fun e => by
      subst e
      obtain ⟨hm2, e2⟩ := List.getElem?_eq_some_iff.mp hy
      have := List.not_of_lt_findIdx (p := (· == y)) (xs := ns) (i := m) hm
      rw [e2] at this
      simp at this
    show ((y : Int) == (x : Int)) = false
    rw [beq_eq_false_iff_ne]
    omega
/-- the least of a list of numbers -/
theorem min_nat {ns : RL} {m : Int} (h1 : m ∈ ns.map fun (x : Nat) => (x : Int)) (h2 : ∀ y ∈ ns.map fun (x : Nat) => (x : Int), m ≤ y) : m = (minL ns : Nat) := by
  obtain ⟨x, hx, rfl⟩ := List.mem_map.mp h1
  congr 1
  refine minL_uniq hx fun y hy => ?_
  have := h2 _ (List.mem_map.mpr ⟨y, hy, rfl⟩)
  omega
theorem nL_take_succ {l : RL} {i x : Nat} (h : l[i]? = some x) : nL (l.take (i + 1)) = nL (l.take i) ++ [nV x] := by rw [take_snoc h, nL_append]; rfl
theorem overs_len : (g.rolls.map framesOver).length = g.rolls.length := List.length_map _
theorem yes_if {σ : L2.St} {A B : Hp → Prop} (h : A H) : tYes σ H fun b H3 => if b = true then A H3 else B H3 := by
  show (if true = true then A H else B H)
  rw [if_pos rfl]; exact h
/-- [frames_over(row) for row in self.rolls] -/
theorem overs_run {j : Nat} {σ : L2.St} {Q : VK} {lr : Addr} {as : List Addr} {rolls : List RL} (hr : H lr = some (.lst (as.map V.ref))) (hrows : RowsAt H as rolls) (hz : rolls.length ≤ 1000) (hlen : ∀ r ∈ rolls, r.length ≤ 1000)
    (hw : ∀ x : Option V, wipe ((wipe σ [j]).set j x) [j] = wipe σ [j]) (hj : ∀ x : V, ((wipe σ [j]).set j (some x))[j]? = some (some x))
    (q : ∀ H' p, Same H H' → H p = none → H' p = some (.lst (nL (rolls.map framesOver))) → Q (.ref p) H') {ti : TE} (hti : ∀ R : VK, R (.ref lr) H → ti σ H R) :
    tLc (iList K ti) (gName j) tYes (tCall (sp_frames_over P w K a) [] E0 (tCons (tVar j) tNil)) [j] σ H Q := by
  refine hti _ ⟨lr, rfl, ⟨_, lp hr⟩, ?_⟩
  have hl : (as.map V.ref).length = rolls.length := by rw [List.length_map]; exact hrows.len
  refine lc_out (walk_list (K := K) (a := lr) (xs := as.map V.ref)) (fun i => nL ((rolls.map framesOver).take i)) (by rw [hl]; omega) yat_same (fun H' s => lp (s _ _ hr)) rfl (fun i _ => by rw [nL_length]; exact List.length_take_le _ _) (fun i x Ha Hb Qy Qn hi s y qy qn => ?_) fun H' D s hD e => ?_
  · obtain ⟨rfl, hx⟩ := y
    obtain ⟨b, hb, rfl⟩ := getElem?_map_some hx
    obtain ⟨r, hri, e⟩ := hrows.get hb
    refine ⟨hw _, yes_if ⟨_, hj _, b, r, rfl, lp (s _ _ e), hlen r (List.mem_of_getElem? hri), fun H3 s3 => qy _ H3 s3 ?_⟩⟩
    exact nL_take_succ (by rw [List.getElem?_map, hri]; rfl)
  · refine q H' D s hD ?_
    rw [e, hl, ← overs_len (g := ⟨0, 0, rolls, [], [], false, none, 0⟩), List.take_length]
def sp_Group_turn (P : Program) (w : World) (K : PySem.W.Frag) (a : Ad) : Sp := fun vs H Q _ => ∃ (L : GL) (g : Grp), vs = [.ref L.self] ∧ GroupAt a H L g ∧ RowsOk g ∧ ∀ H', Same H H' → Q (nV g.turn) H'
theorem l_Group_turn : ∀ vs H Q E, sp_Group_turn P w K a vs H Q E → vs.length = 1 := by
  rintro vs H Q E ⟨x, y, rfl, _⟩; rfl
abbrev s_Group_turn : Stmt := inClass (top 17) 1
abbrev N_Group_turn : List Str := ["self", "over", "row"]
theorem sc_Group_turn : FnScope N_Group_turn ["self"] (defScope s_Group_turn) := ⟨rfl, rfl, rfl, by decide +kernel, rfl, by decide +kernel, by decide +kernel⟩
def t_Group_turn (P : Program) (w : World) (K : PySem.W.Frag) (a : Ad) (E : XK) : TS :=
  (tSeq (tAsg (tLc (iList K (tFld K (tVar 0) "rolls")) (gName 2) tYes (tCall (sp_frames_over P w K a) [] E0 (tCons (tVar 2) tNil)) [2]) (gName 1))
  (tRet (tBM K "list" (rIndex K) (tVar 1) (tCons (tCB (rMin K) (tCons (tVar 1) tNil)) tNil))))
theorem d_Group_turn {P : Program} {w : World} {K : PySem.W.Frag} {mg : Str → Option Value} {base : Heap} {a : Ad} (T : Txt K mg a) (c_frames_over : CalB P w K mg base CX0 3 "frames_over" (sp_frames_over P w K a)) {f : Addr} {cdv : Value} {A : Around} {outer : List Env} {s : Shared} {H : Hp} {E : XK}
    (hr : Room 3 (A.deeper (envOfC "Group.turn" (defScope s_Group_turn) s.heap.objs.size f cdv))) : PSs (cxOf CX0 P w K mg base N_Group_turn "Group.turn" (defScope s_Group_turn) f cdv A outer s H E).nox (defBody s_Group_turn) (t_Group_turn P w K a E) :=
  (pss_cons (ps_setLc (i := 1) (own := [("row", 2)]) (g := (gName 2)) (tt := tYes) (te := (tCall (sp_frames_over P w K a) [] E0 (tCons (tVar 2) tNil))) rfl sc_Group_turn.nd rfl rfl (sw_true rfl rfl rfl (by decide +kernel)) (pi_list (pe_fld (pv 0) rfl)) (blkOk_by (N := N_Group_turn) (sc := (defScope s_Group_turn)) (by decide +kernel)) (fun _ _ _ _ _ => (pg_name (i := 2) sc_Group_turn.nd rfl (by first | exact Or.inl rfl | exact Or.inr rfl))) (fun _ _ _ _ _ => pts_nil) (fun _ _ _ _ _ => (pc c_frames_over hr (by decide) pass0 rfl (pa_cons (pv 2) pa_nil))))
  (pss_one (ps_ret (pe_bm PySem.F.plainAttrs_list PySem.F.slot_list_index PySem.F.type_list_index mt_index (pv 1) (pa_cons (pe_callB (cr_min rfl) (by rfl) T.n_min boot_min2 (pa_cons (pv 1) pa_nil)) pa_nil)))))
theorem p_Group_turn (T : Txt K mg a) {vs : List V} {Q : VK} {E : XK} (h : sp_Group_turn P w K a vs H Q E) :
    t_Group_turn P w K a E { nx := fun _ H' => Q .non H', rt := Q } (start N_Group_turn vs) H := by
  obtain ⟨L, g, rfl, hg, ⟨hne, hz, hr⟩, q⟩ := h
  unfold t_Group_turn tSeq tAsg
  refine overs_run (j := 2) hg.rolls hg.rows hz (fun r h => Nat.le_trans (hr r h) (by omega)) (fun _ => rfl) (fun _ => rfl) (fun H1 p s1 hp0 hp => ?_) fun R h => ⟨_, rfl, _, _, _, _, _, rfl, hg.self, T.c_Group, T.a_Group_rolls, rfl, h⟩
  have hne2 : g.overs ≠ [] := fun e => hne (List.map_eq_nil_iff.mp e)
  refine ⟨_, rfl, tyLp hp, _, rfl, p, _, rfl, sqi (lp hp), ?_, fun m h1 h2 => ?_⟩
  · rw [List.length_map]; exact List.length_pos_iff.mpr hne2
  · rw [min_nat h1 h2]
    exact r_indexN (lp hp) (minL_mem hne2) (q H1 s1)
theorem ok_Group_turn {P : Program} {w : World} {K : PySem.W.Frag} {mg : Str → Option Value} {base : Heap} {a : Ad} (T : Txt K mg a) : MetB P w K mg base CX0 4 a.CGroup "turn" (sp_Group_turn P w K a) :=
  MetB.mk0 T.f_Group_turn sc_Group_turn l_Group_turn fun f cdv A outer s H vs Q E hr h => ⟨_, d_Group_turn T (ok_frames_over T) hr, p_Group_turn T h⟩
/-! ### Group.pins_standing -/
def sp_Group_pins_standing (P : Program) (w : World) (K : PySem.W.Frag) (a : Ad) : Sp := fun vs H Q _ => ∃ (L : GL) (g : Grp), vs = [.ref L.self] ∧ GroupAt a H L g ∧ RowsOk g ∧ ∀ H', Same H H' → Q (.int g.standing) H'
theorem l_Group_pins_standing : ∀ vs H Q E, sp_Group_pins_standing P w K a vs H Q E → vs.length = 1 := by
  rintro vs H Q E ⟨x, y, rfl, _⟩; rfl
abbrev s_Group_pins_standing : Stmt := inClass (top 17) 2
abbrev N_Group_pins_standing : List Str := ["self"]
theorem sc_Group_pins_standing : FnScope N_Group_pins_standing ["self"] (defScope s_Group_pins_standing) := ⟨rfl, rfl, rfl, by decide +kernel, rfl, by decide +kernel, by decide +kernel⟩
def t_Group_pins_standing (P : Program) (w : World) (K : PySem.W.Frag) (a : Ad) (E : XK) : TS :=
  (tRet (tCall (sp_standing P w K a) [] E0 (tCons (tOp (rIxL K) (tFld K (tVar 0) "rolls") (tMeth a.CGroup "turn" (sp_Group_turn P w K a) [] E0 (tVar 0) tNil)) tNil)))
theorem d_Group_pins_standing {P : Program} {w : World} {K : PySem.W.Frag} {mg : Str → Option Value} {base : Heap} {a : Ad} (T : Txt K mg a) (c_standing : CalB P w K mg base CX0 3 "standing" (sp_standing P w K a)) (c_Group_turn : MetB P w K mg base CX0 4 a.CGroup "turn" (sp_Group_turn P w K a)) {f : Addr} {cdv : Value} {A : Around} {outer : List Env} {s : Shared} {H : Hp} {E : XK}
    (hr : Room 4 (A.deeper (envOfC "Group.pins_standing" (defScope s_Group_pins_standing) s.heap.objs.size f cdv))) : PSs (cxOf CX0 P w K mg base N_Group_pins_standing "Group.pins_standing" (defScope s_Group_pins_standing) f cdv A outer s H E).nox (defBody s_Group_pins_standing) (t_Group_pins_standing P w K a E) :=
  (pss_one (ps_ret (pc c_standing hr (by decide) pass0 rfl (pa_cons (pe_ix ix_list (pe_fld (pv 0) rfl) (pm0 c_Group_turn hr (by decide) pass0 (pv 0)) (fun _ _ => rfl)) pa_nil))))
theorem p_Group_pins_standing (T : Txt K mg a) {vs : List V} {Q : VK} {E : XK} (h : sp_Group_pins_standing P w K a vs H Q E) :
    t_Group_pins_standing P w K a E { nx := fun _ H' => Q .non H', rt := Q } (start N_Group_pins_standing vs) H := by
  obtain ⟨L, g, rfl, hg, hok, q⟩ := h
  refine ⟨_, rfl, _, _, _, _, _, rfl, hg.self, T.c_Group, T.a_Group_rolls, rfl, _, rfl, L.self, _, _, rfl, hg.self, rfl, L, g, rfl, hg, hok, fun H1 s1 => ?_⟩
  have lt := turn_lt hok.1
  have hrow := row_at lt
  obtain ⟨b, hb, e⟩ := hg.rows.get' hrow
  refine ⟨L.rolls, _, _, _, rfl, rfl, lp (s1 _ _ hg.rolls), atI_nat (j := g.turn) ?_, b, _, rfl, lp (s1 _ _ e), ?_, fun H2 s2 => q H2 (s1.trans s2)⟩
  · exact (by rw [List.getElem?_map, hb]; rfl)
  · exact Nat.le_trans (hok.2.2 _ (List.mem_of_getElem? hrow)) (by omega)
theorem ok_Group_pins_standing {P : Program} {w : World} {K : PySem.W.Frag} {mg : Str → Option Value} {base : Heap} {a : Ad} (T : Txt K mg a) : MetB P w K mg base CX0 5 a.CGroup "pins_standing" (sp_Group_pins_standing P w K a) :=
  MetB.mk0 T.f_Group_pins_standing sc_Group_pins_standing l_Group_pins_standing fun f cdv A outer s H vs Q E hr h => ⟨_, d_Group_pins_standing T (ok_standing T) (ok_Group_turn T) hr, p_Group_pins_standing T h⟩
/-! ### Group.is_full -/
def sp_Group_is_full (P : Program) (w : World) (K : PySem.W.Frag) (a : Ad) : Sp := fun vs H Q _ => ∃ (L : GL) (g : Grp), vs = [.ref L.self] ∧ GroupAt a H L g ∧ Q (.bl g.isFull) H
theorem l_Group_is_full : ∀ vs H Q E, sp_Group_is_full P w K a vs H Q E → vs.length = 1 := by
  rintro vs H Q E ⟨x, y, rfl, _⟩; rfl
abbrev s_Group_is_full : Stmt := inClass (top 17) 3
abbrev N_Group_is_full : List Str := ["self"]
theorem sc_Group_is_full : FnScope N_Group_is_full ["self"] (defScope s_Group_is_full) := ⟨rfl, rfl, rfl, by decide +kernel, rfl, by decide +kernel, by decide +kernel⟩
def t_Group_is_full (P : Program) (w : World) (K : PySem.W.Frag) (a : Ad) (E : XK) : TS :=
  (tRet (tOp rEq (tCB (rLenB K) (tCons (tFld K (tVar 0) "finished") tNil)) (tC (.int (20)))))
theorem d_Group_is_full {P : Program} {w : World} {K : PySem.W.Frag} {mg : Str → Option Value} {base : Heap} {a : Ad} (T : Txt K mg a)  {f : Addr} {cdv : Value} {A : Around} {outer : List Env} {s : Shared} {H : Hp} {E : XK}
    (hr : Room 0 (A.deeper (envOfC "Group.is_full" (defScope s_Group_is_full) s.heap.objs.size f cdv))) : PSs (cxOf CX0 P w K mg base N_Group_is_full "Group.is_full" (defScope s_Group_is_full) f cdv A outer s H E).nox (defBody s_Group_is_full) (t_Group_is_full P w K a E) :=
  (pss_one (ps_ret (pe_cmpR op_eq (pe_callB call_len (by rfl) T.n_len PySem.boot_len (pa_cons (pe_fld (pv 0) rfl) pa_nil)) (pgi T.g_MOST_GAMES rfl) (nomark _))))
theorem p_Group_is_full (T : Txt K mg a) {vs : List V} {Q : VK} {E : XK} (h : sp_Group_is_full P w K a vs H Q E) :
    t_Group_is_full P w K a E { nx := fun _ H' => Q .non H', rt := Q } (start N_Group_is_full vs) H := by
  obtain ⟨L, g, rfl, hg, q⟩ := h
  refine ⟨_, rfl, _, _, _, _, _, rfl, hg.self, T.c_Group, T.a_Group_finished, rfl, _, _, rfl, .inl ⟨_, lp hg.fin, rfl⟩, rfl, ?_⟩
  refine val_of ?_ q
  rw [List.length_map, hg.frows.len]
  congr 1
  unfold Grp.isFull
  rw [bq]
  exact decide_eq_decide.mpr (nvl (n := 20) rfl)
theorem ok_Group_is_full {P : Program} {w : World} {K : PySem.W.Frag} {mg : Str → Option Value} {base : Heap} {a : Ad} (T : Txt K mg a) : MetB P w K mg base CX0 1 a.CGroup "is_full" (sp_Group_is_full P w K a) :=
  MetB.mk0 T.f_Group_is_full sc_Group_is_full l_Group_is_full fun f cdv A outer s H vs Q E hr h => ⟨_, d_Group_is_full T  hr, p_Group_is_full T h⟩
/-! ### Group.undo -/
def sp_Group_undo (P : Program) (w : World) (K : PySem.W.Frag) (a : Ad) : Sp := fun vs H Q _ => ∃ (L : GL) (g : Grp), vs = [.ref L.self] ∧ GroupAt a H L g ∧ g.turns ≠ [] ∧ g.last < g.rolls.length ∧ g.row g.last ≠ [] ∧
  ∀ H' p, GroupAt a H' L g.undo → Kept (fun b => b ∈ L.fp) H H' → H p = none → H' p = some (.lst (nL [g.last, (g.row g.last).getLastD 0])) → Q (.ref p) H'
theorem l_Group_undo : ∀ vs H Q E, sp_Group_undo P w K a vs H Q E → vs.length = 1 := by
  rintro vs H Q E ⟨x, y, rfl, _⟩; rfl
abbrev s_Group_undo : Stmt := inClass (top 17) 5
abbrev N_Group_undo : List Str := ["self", "player"]
theorem sc_Group_undo : FnScope N_Group_undo ["self"] (defScope s_Group_undo) := ⟨rfl, rfl, rfl, by decide +kernel, rfl, by decide +kernel, by decide +kernel⟩
def t_Group_undo (P : Program) (w : World) (K : PySem.W.Frag) (a : Ad) (E : XK) : TS :=
  (tSeq (tAsg (tBM0 K "list" rPop (tFld K (tVar 0) "turns")) (gName 1))
  (tRet (tLst (tCons (tVar 1) (tCons (tBM0 K "list" rPop (tOp (rIxL K) (tFld K (tVar 0) "rolls") (tVar 1))) tNil)))))
theorem d_Group_undo {P : Program} {w : World} {K : PySem.W.Frag} {mg : Str → Option Value} {base : Heap} {a : Ad} (T : Txt K mg a)  {f : Addr} {cdv : Value} {A : Around} {outer : List Env} {s : Shared} {H : Hp} {E : XK}
    (hr : Room 0 (A.deeper (envOfC "Group.undo" (defScope s_Group_undo) s.heap.objs.size f cdv))) : PSs (cxOf CX0 P w K mg base N_Group_undo "Group.undo" (defScope s_Group_undo) f cdv A outer s H E).nox (defBody s_Group_undo) (t_Group_undo P w K a E) :=
  (pss_cons (ps_set (i := 1) sc_Group_undo.nd rfl (by first | exact Or.inl rfl | exact Or.inr rfl) (pe_bm0 PySem.F.plainAttrs_list PySem.F.slot_list_pop PySem.F.type_list_pop mt_pop (pe_fld (pv 0) rfl)))
  (pss_one (ps_ret (pe_lst (pa_cons (pv 1) (pa_cons (pe_bm0 PySem.F.plainAttrs_list PySem.F.slot_list_pop PySem.F.type_list_pop mt_pop (pe_ix ix_list (pe_fld (pv 0) rfl) (pv 1) (fun _ _ => rfl))) pa_nil))))))
theorem last_at {l : List Nat} (h : l ≠ []) : l[l.length - 1]? = some (l.getLastD 0) := by
  rw [List.getLastD_eq_getLast?, ← List.getLast?_eq_getElem?, List.getLast?_eq_some_getLast h]; rfl
theorem nL_dropLast (l : List Nat) : (nL l).dropLast = nL l.dropLast := by unfold nL; rw [List.map_dropLast]
theorem RowsAt.set {H : Hp} {as : List Addr} {ls : List (List Nat)} (r : RowsAt H as ls) (nd : as.Nodup) {i : Nat} {b : Addr} {l : List Nat} (h : as[i]? = some b) : RowsAt (upd H b (.lst (nL l))) as (ls.set i l) := by
  refine ⟨by rw [List.length_set]; exact r.len, fun j c m h1 h2 => ?_⟩
  by_cases e : j = i
  · subst e
    rw [h] at h1; cases h1
    rw [List.getElem?_set_self (by rw [← r.len]; exact (List.getElem?_eq_some_iff.mp h).1)] at h2
    cases h2
    exact upd_same
  · rw [List.getElem?_set_ne (Ne.symm e)] at h2
    have ne : c ≠ b := fun z => by
      subst z
      exact e ((List.getElem?_inj (List.getElem?_eq_some_iff.mp h1).1 nd).mp (h1.trans h.symm))
    rw [upd_ne ne]
    exact r.at_ j c m h1 h2
theorem GL.nd_rows {L : GL} (h : L.ls.Nodup) : L.rows.Nodup ∧ L.frows.Nodup ∧ (∀ b ∈ L.rows, b ≠ L.rolls ∧ b ≠ L.turns ∧ b ≠ L.fin ∧ b ∉ L.frows) ∧ L.turns ≠ L.rolls ∧ L.fin ≠ L.rolls ∧ L.fin ≠ L.turns ∧ (∀ b ∈ L.frows, b ≠ L.rolls ∧ b ≠ L.turns ∧ b ≠ L.fin) := by
  unfold GL.ls at h
  rw [List.nodup_cons, List.nodup_cons, List.nodup_cons, List.nodup_append] at h
  obtain ⟨h1, h2, h3, h4, h5, h6⟩ := h
  simp only [List.mem_cons, List.mem_append, not_or] at h1 h2 h3
  refine ⟨h4, h5, fun b hb => ⟨fun e => h1.2.2.1 (e ▸ hb), fun e => h2.2.1 (e ▸ hb), fun e => h3.1 (e ▸ hb), fun hf => h6 b hb b hf rfl⟩, fun e => h1.1 e.symm, fun e => h1.2.1 e.symm, fun e => h2.1 e.symm, fun b hb => ⟨fun e => h1.2.2.2 (e ▸ hb), fun e => h2.2.2 (e ▸ hb), fun e => h3.2 (e ▸ hb)⟩⟩
theorem p_Group_undo (T : Txt K mg a) {vs : List V} {Q : VK} {E : XK} (h : sp_Group_undo P w K a vs H Q E) :
    t_Group_undo P w K a E { nx := fun _ H' => Q .non H', rt := Q } (start N_Group_undo vs) H := by
  obtain ⟨L, g, rfl, hg, hne, hlt, hrow, q⟩ := h
  obtain ⟨n1, n2, n3, n4, n5, n6, n7⟩ := GL.nd_rows hg.nd
  have hra := row_at hlt
  obtain ⟨b, hb, e⟩ := hg.rows.get' hra
  have hbm := List.mem_of_getElem? hb
  obtain ⟨b1, b2, b3, b4⟩ := n3 b hbm
  have hsn := hg.self_not
  have nst : L.self ≠ L.turns := fun z => hsn (by simp [GL.ls, z])
  have nsb : L.self ≠ b := fun z => hsn (by simp [GL.ls, z, hbm])
  refine ⟨_, rfl, _, _, _, _, _, rfl, hg.self, T.c_Group, T.a_Group_turns, rfl, tyLp hg.turns, L.turns, _, nV g.last, rfl, rfl, hg.turns, ?_, ?_⟩
  · rw [nL_length]
    unfold nL
    rw [List.getElem?_map, last_at hne]; rfl
  have hs1 : upd H L.turns (.lst (nL g.turns).dropLast) L.self = some (.ins a.CGroup L.dx (gF L g)) := by rw [upd_ne nst]; exact hg.self
  have hr1 : upd H L.turns (.lst (nL g.turns).dropLast) L.rolls = some (.lst (L.rows.map V.ref)) := by rw [upd_ne (Ne.symm n4)]; exact hg.rolls
  have hb1 : upd H L.turns (.lst (nL g.turns).dropLast) b = some (.lst (nL (g.row g.last))) := by rw [upd_ne b2]; exact e
  refine ⟨_, rfl, _, rfl, _, _, _, _, _, rfl, hs1, T.c_Group, T.a_Group_rolls, rfl, _, rfl, L.rolls, _, (g.last : Int), _, rfl, rfl, lp hr1, atI_nat (j := g.last) (by rw [List.getElem?_map, hb]; rfl), tyLp hb1, b, _, nV ((g.row g.last).getLastD 0), rfl, rfl, hb1, ?_, le2, fun p hp => ?_⟩
  · rw [nL_length]
    unfold nL
    rw [List.getElem?_map, last_at hrow]; rfl
  rw [nL_dropLast, nL_dropLast] at *
  -- the group as it is now
  have fin : GroupAt a (upd (upd H L.turns (.lst (nL g.turns.dropLast))) b (.lst (nL (g.row g.last).dropLast))) L g.undo := by
    have k : ∀ c o, H c = some o → c ≠ L.turns → c ≠ b → upd (upd H L.turns (.lst (nL g.turns.dropLast))) b (.lst (nL (g.row g.last).dropLast)) c = some o := fun c o h z1 z2 => by rw [upd_ne z2, upd_ne z1]; exact h
    refine ⟨k _ _ hg.self nst nsb, k _ _ hg.rolls (Ne.symm n4) (Ne.symm b1), ?_, ?_, k _ _ hg.fin n6 (Ne.symm b3), ?_, hg.nd⟩
    · refine RowsAt.set (H := upd H L.turns (.lst (nL g.turns.dropLast))) (hg.rows.same fun c hc o h => ?_) n1 hb
      rw [upd_ne (n3 c hc).2.1]; exact h
    · rw [upd_ne (Ne.symm b2), upd_same]; rfl
    · exact hg.frows.same fun c hc o h => k c o h (n7 c hc).2.1 fun z => b4 (z ▸ hc)
  have kp : Kept (fun c => c ∈ L.fp) H (upd (upd H L.turns (.lst (nL g.turns.dropLast))) b (.lst (nL (g.row g.last).dropLast))) :=
    ((Kept.refl _ H).put (by simp [GL.fp, GL.ls]) hg.turns rfl).put (by simp [GL.fp, GL.ls, hbm]) (by rw [upd_ne b2]; exact e) rfl
  exact q _ p (fin.up (same_upd hp)) (kp.new hp) (kp.free (fun c hc => by obtain ⟨o, e2, _⟩ := fin.what hc; rw [e2]; rfl) hp) upd_same
theorem ok_Group_undo {P : Program} {w : World} {K : PySem.W.Frag} {mg : Str → Option Value} {base : Heap} {a : Ad} (T : Txt K mg a) : MetB P w K mg base CX0 1 a.CGroup "undo" (sp_Group_undo P w K a) :=
  MetB.mk0 T.f_Group_undo sc_Group_undo l_Group_undo fun f cdv A outer s H vs Q E hr h => ⟨_, d_Group_undo T  hr, p_Group_undo T h⟩
end
end Bw

/-! the walk: groups, part two -/
namespace Bw
open PySem PySem.Spec PyProof.Rows L2
section
variable {P : Program} {w : World} {K : PySem.W.Frag} {mg : Str → Option Value} {base : Heap} {a : Ad} {H H' : Hp} {L : GL} {g : Grp}
/-- [.. for x in range(n)], a new list of numbers at each turn -/
theorem lc_rows {j : Nat} {σ : L2.St} {Q : VK} {ti : TA} {te : TE} (rows : List (List Nat)) (hn : rows.length ≤ 1000) (hti : ∀ R : List V → Hp → Prop, R [nV rows.length] H → ti σ H R)
    (hw : ∀ x : Option V, wipe ((wipe σ [j]).set j x) [j] = wipe σ [j])
    (hs : ∀ (i : Nat) (row : List Nat) (Ha : Hp) (Qy : VK), rows[i]? = some row → Same H Ha → (∀ H4 p, Same Ha H4 → Ha p = none → H4 p = some (.lst (nL row)) → Qy (.ref p) H4) → te ((wipe σ [j]).set j (some (nV i))) Ha Qy)
    (q : ∀ H' p as, Same H H' → H' p = some (.lst (as.map V.ref)) → RowsAt H' as rows → (p :: as).Nodup → (∀ b ∈ p :: as, H b = none) → Q (.ref p) H') :
    tLc (iRng1 ti) (gName j) tYes te [j] σ H Q := by
  refine hti _ ⟨_, rfl, by omega, by omega, ?_⟩
  rw [Int.toNat_natCast]
  intro Dn hD
  refine lc_range (fun i H1 => ∃ as : List Addr, Same H H1 ∧ H1 Dn = some (.lst (as.map V.ref)) ∧ RowsAt H1 as (rows.take i) ∧ (Dn :: as).Nodup ∧ ∀ b ∈ as, H b = none) ⟨[], same_upd hD, upd_same, RowsAt.nil _, by simp, by simp⟩ (fun i H1 hi gi => ?_) fun H1 gi => ?_
  · obtain ⟨as, s1, hd, hr, nd, fr⟩ := gi
    have hrow : rows[i]? = some rows[i] := List.getElem?_eq_getElem hi
    rw [Int.zero_add]
    refine ⟨hw _, yes_if (hs i rows[i] H1 _ hrow s1 fun H4 p s4 hp0 hp => ?_)⟩
    have nDp : Dn ≠ p := ne_of_none hd hp0
    have hp0' : H p = none := s1.free hp0
    have npas : p ∉ as := fun hm => by
      obtain ⟨l, e⟩ := hr.there hm
      rw [hp0] at e; cases e
    have hlen : as.length = i := by rw [hr.len, List.length_take]; omega
    refine ⟨as.map V.ref, s4 _ _ hd, by rw [List.length_map, hlen]; exact small_line (by omega), as ++ [p], ?_, ?_, ?_, ?_, ?_⟩
    · exact same_put (o' := .lst []) (s1.trans s4) hD
    · rw [upd_same, List.map_append]; rfl
    · rw [take_snoc hrow]
      refine RowsAt.snoc (hr.same fun b hb o e => ?_) ?_
      · have nb : b ≠ Dn := fun z => (List.nodup_cons.mp nd).1 (z ▸ hb)
        rw [upd_ne nb]; exact s4 _ _ e
      · rw [upd_ne (Ne.symm nDp)]; exact hp
    · rw [List.nodup_cons] at nd ⊢
      refine ⟨fun hm => ?_, ?_⟩
      · rcases List.mem_append.mp hm with hm | hm
        · exact nd.1 hm
        · exact nDp (List.mem_singleton.mp hm)
      · rw [List.nodup_append]
        refine ⟨nd.2, by simp, ?_⟩
        intro x hx y hy z
        rw [List.mem_singleton.mp hy] at z
        exact npas (z ▸ hx)
    · intro b hb
      rcases List.mem_append.mp hb with hb | hb
      · exact fr b hb
      · rw [List.mem_singleton.mp hb]; exact hp0'
  · obtain ⟨as, s1, hd, hr, nd, fr⟩ := gi
    rw [List.take_length] at hr
    refine q H1 Dn as s1 hd hr nd fun b hb => ?_
    rcases List.mem_cons.mp hb with e | hb
    · rw [e]; exact hD
    · exact fr b hb
theorem empties_run {j n : Nat} {σ : L2.St} {Q : VK} {ti : TA} (hn : n ≤ 1000) (hti : ∀ R : List V → Hp → Prop, R [nV n] H → ti σ H R) (hw : ∀ x : Option V, wipe ((wipe σ [j]).set j x) [j] = wipe σ [j])
    (q : ∀ H' p as, Same H H' → H' p = some (.lst (as.map V.ref)) → RowsAt H' as (List.replicate n []) → (p :: as).Nodup → (∀ b ∈ p :: as, H b = none) → Q (.ref p) H') :
    tLc (iRng1 ti) (gName j) tYes (tLst tNil) [j] σ H Q := by
  refine lc_rows (List.replicate n []) (by rw [List.length_replicate]; exact hn) (by rw [List.length_replicate]; exact hti) hw (fun i row Ha Qy hi s qy => ?_) q
  have e : row = [] := List.eq_of_mem_replicate (List.mem_of_getElem? hi)
  subst e
  exact ⟨by decide, fun p hp => qy _ p (same_upd hp) hp upd_same⟩
/-! ### Group(size, shoes) -/
def sp_Group_init (P : Program) (w : World) (K : PySem.W.Frag) (a : Ad) : Sp := fun vs H Q _ => ∃ (x dx : Addr) (size shoes : Nat), vs = [.ref x, nV size, nV shoes] ∧ size ≤ 1000 ∧ H x = some (.ins a.CGroup dx []) ∧
  ∀ H' L, GroupAt a H' L (Grp.new size shoes) → L.self = x → Kept (fun b => b = x) H H' → (∀ b ∈ L.ls, H b = none) → Q .non H'
theorem l_Group_init : ∀ vs H Q E, sp_Group_init P w K a vs H Q E → vs.length = 3 := by
  rintro vs H Q E ⟨x, y, _, _, rfl, _⟩; rfl
abbrev s_Group_init : Stmt := inClass (top 17) 0
abbrev N_Group_init : List Str := ["self", "size", "shoes", "player"]
theorem sc_Group_init : FnScope N_Group_init ["self", "size", "shoes"] (defScope s_Group_init) := ⟨rfl, rfl, rfl, by decide +kernel, rfl, by decide +kernel, by decide +kernel⟩
def t_Group_init (P : Program) (w : World) (K : PySem.W.Frag) (a : Ad) (E : XK) : TS :=
  (tSeq (sFld K (tVar 0) (tVar 1) "size")
  (tSeq (sFld K (tVar 0) (tVar 2) "shoes")
  (tSeq (sFld K (tVar 0) (tLc (iRng1 (tCons (tVar 1) tNil)) (gName 3) tYes (tLst tNil) [3]) "rolls")
  (tSeq (sFld K (tVar 0) (tLst tNil) "turns")
  (tSeq (sFld K (tVar 0) (tLst tNil) "finished")
  (tSeq (sFld K (tVar 0) (tC (.bl false)) "is_gone")
  (tSeq (sFld K (tVar 0) (tC .non) "team")
  (sFld K (tVar 0) (tC (.int 0)) "counted"))))))))
theorem d_Group_init {P : Program} {w : World} {K : PySem.W.Frag} {mg : Str → Option Value} {base : Heap} {a : Ad} (T : Txt K mg a)  {f : Addr} {cdv : Value} {A : Around} {outer : List Env} {s : Shared} {H : Hp} {E : XK}
    (hr : Room 0 (A.deeper (envOfC "Group.__init__" (defScope s_Group_init) s.heap.objs.size f cdv))) : PSs (cxOf CX0 P w K mg base N_Group_init "Group.__init__" (defScope s_Group_init) f cdv A outer s H E).nox (defBody s_Group_init) (t_Group_init P w K a E) :=
  (pss_cons (ps_fld (pv 0) (pv 1) rfl)
  (pss_cons (ps_fld (pv 0) (pv 2) rfl)
  (pss_cons (ps_fld (pv 0) (pe_lc (own := [("player", 3)]) (g := (gName 3)) (tt := tYes) (te := (tLst tNil)) rfl sc_Group_init.nd (pi_range1 rfl T.n_range (pa_cons (pv 1) pa_nil)) (blkOk_by (N := N_Group_init) (sc := (defScope s_Group_init)) (by decide +kernel)) (fun _ _ _ _ _ => (pg_name (i := 3) sc_Group_init.nd rfl (by first | exact Or.inl rfl | exact Or.inr rfl))) (fun _ _ _ _ _ => pts_nil) (fun _ _ _ _ _ => (pe_lst pa_nil))) rfl)
  (pss_cons (ps_fld (pv 0) (pe_lst pa_nil) rfl)
  (pss_cons (ps_fld (pv 0) (pe_lst pa_nil) rfl)
  (pss_cons (ps_fld (pv 0) pe_bl rfl)
  (pss_cons (ps_fld (pv 0) pe_non rfl)
  (pss_one (ps_fld (pv 0) pe_int rfl)))))))))
theorem p_Group_init (T : Txt K mg a) {vs : List V} {Q : VK} {E : XK} (h : sp_Group_init P w K a vs H Q E) :
    t_Group_init P w K a E { nx := fun _ H' => Q .non H', rt := Q } (start N_Group_init vs) H := by
  obtain ⟨x, dx, size, shoes, rfl, hz, hx, q⟩ := h
  refine ⟨_, rfl, _, rfl, x, _, dx, _, rfl, hx, T.c_Group, T.a_Group_size, (by decide : 0 < 1000), ?_⟩
  refine ⟨_, rfl, _, rfl, x, _, dx, _, rfl, upd_same, T.c_Group, T.a_Group_shoes, (by decide : 1 < 1000), ?_⟩
  rw [upd_upd]
  have k1 : Kept (fun b => b = x) H (upd H x (.ins a.CGroup dx (putF "shoes" (nV shoes) (putF "size" (nV size) [])))) := (Kept.refl _ H).put rfl hx rfl
  show tSeq (sFld K (tVar 0) (tLc (iRng1 (tCons (tVar 1) tNil)) (gName 3) tYes (tLst tNil) [3]) "rolls") _ _ _ _
  unfold tSeq sFld
  refine empties_run (j := 3) (n := size) hz (fun R h => ⟨_, rfl, h⟩) (fun _ => rfl) fun H2 pr as s2 hpr hr nd fr => ?_
  have x2 := s2 _ _ upd_same
  refine ⟨_, rfl, x, _, dx, _, rfl, x2, T.c_Group, T.a_Group_rolls, (by decide : 2 < 1000), by decide, fun pt hpt => ?_⟩
  have npt : x ≠ pt := ne_of_none upd_same hpt
  refine ⟨_, rfl, x, _, dx, _, rfl, (upd_ne npt).trans upd_same, T.c_Group, T.a_Group_turns, (by decide : 3 < 1000), by decide, fun pf hpf => ?_⟩
  have npf : x ≠ pf := ne_of_none upd_same hpf
  refine ⟨_, rfl, x, _, dx, _, rfl, (upd_ne npf).trans upd_same, T.c_Group, T.a_Group_finished, (by decide : 4 < 1000), ?_⟩
  refine ⟨_, rfl, x, _, dx, _, rfl, upd_same, T.c_Group, T.a_Group_is_gone, (by decide : 5 < 1000), ?_⟩
  refine ⟨_, rfl, x, _, dx, _, rfl, upd_same, T.c_Group, T.a_Group_team, (by decide : 6 < 1000), ?_⟩
  refine ⟨_, rfl, x, _, dx, _, rfl, upd_same, T.c_Group, T.a_Group_counted, (by decide : 7 < 1000), ?_⟩
  rw [upd_upd, upd_upd, upd_upd]
  -- what lies where
  have nx : ∀ b ∈ pr :: as, b ≠ x := fun b hb z => by
    have := fr b hb
    rw [z, upd_same] at this; cases this
  have there : ∀ b ∈ pr :: as, ∃ o, H2 b = some o := fun b hb => by
    rcases List.mem_cons.mp hb with e | hb
    · exact ⟨_, by rw [e]; exact hpr⟩
    · obtain ⟨l, e⟩ := hr.there hb
      exact ⟨_, e⟩
  have npt2 : ∀ b ∈ pr :: as, b ≠ pt := fun b hb z => by
    obtain ⟨o, e⟩ := there b hb
    rw [upd_ne (Ne.symm npt), ← z, e] at hpt; cases hpt
  have npf2 : ∀ b ∈ pr :: as, b ≠ pf := fun b hb z => by
    obtain ⟨o, e⟩ := there b hb
    rw [upd_ne (Ne.symm npf), ← z, upd_ne (npt2 b hb), upd_ne (nx b hb), e] at hpf; cases hpf
  have nptf : pt ≠ pf := fun z => by
    rw [upd_ne (Ne.symm npf), ← z, upd_same] at hpf; cases hpf
  have keep : ∀ b ∈ pr :: as, ∀ o, H2 b = some o → ∀ fs1 fs2 fs3, upd (upd (upd (upd (upd H2 x fs1) pt (.lst [])) x fs2) pf (.lst [])) x fs3 b = some o := fun b hb o e fs1 fs2 fs3 => by
    rw [upd_ne (nx b hb), upd_ne (npf2 b hb), upd_ne (nx b hb), upd_ne (npt2 b hb), upd_ne (nx b hb)]; exact e
  refine q _ ⟨x, dx, pr, pt, pf, as, []⟩ ⟨upd_same, keep pr List.mem_cons_self _ hpr _ _ _, hr.same fun b hb o e => keep b (List.mem_cons_of_mem _ hb) o e _ _ _, ?_, ?_, RowsAt.nil _, ?_⟩ rfl ?_ ?_
  · rw [upd_ne (Ne.symm npt), upd_ne nptf, upd_ne (Ne.symm npt), upd_same]; rfl
  · rw [upd_ne (Ne.symm npf), upd_same]; rfl
  · show (pr :: pt :: pf :: (as ++ [])).Nodup
    rw [List.append_nil]
    rw [List.nodup_cons] at nd
    rw [List.nodup_cons, List.nodup_cons, List.nodup_cons]
    refine ⟨?_, ?_, ?_, nd.2⟩
    · simp only [List.mem_cons, not_or]
      exact ⟨npt2 pr List.mem_cons_self, npf2 pr List.mem_cons_self, nd.1⟩
    · simp only [List.mem_cons, not_or]
      exact ⟨nptf, fun hm => npt2 pt (List.mem_cons_of_mem _ hm) rfl⟩
    · exact fun hm => npf2 pf (List.mem_cons_of_mem _ hm) rfl
  · have k2 := ((k1.trans (Kept.of s2)).put rfl x2 rfl (o' := .ins a.CGroup dx (putF "rolls" (.ref pr) (putF "shoes" (nV shoes) (putF "size" (nV size) []))))).new hpt (o' := .lst [])
    have k3 := (k2.put rfl (by rw [upd_ne npt, upd_same]) rfl (o' := .ins a.CGroup dx (putF "turns" (.ref pt) (putF "rolls" (.ref pr) (putF "shoes" (nV shoes) (putF "size" (nV size) [])))))).new hpf (o' := .lst [])
    exact k3.put rfl (by rw [upd_ne npf, upd_same]) rfl
  · intro b hb
    have hb' : b ∈ pr :: pt :: pf :: (as ++ []) := hb
    rw [List.append_nil] at hb'
    have fr2 : ∀ b ∈ pr :: as, H b = none := fun b hb => by
      have := fr b hb
      rw [upd_ne (nx b hb)] at this; exact this
    have fr3 : ∀ b, b ≠ x → H2 b = none → H b = none := fun b n e => by
      have := s2.free e
      rw [upd_ne n] at this; exact this
    have hpt2 : H2 pt = none := by rw [upd_ne (Ne.symm npt)] at hpt; exact hpt
    have hpf2 : H2 pf = none := by rw [upd_ne (Ne.symm npf), upd_ne (Ne.symm nptf), upd_ne (Ne.symm npf)] at hpf; exact hpf
    rcases List.mem_cons.mp hb' with e | hb'
    · exact fr2 b (by rw [e]; exact List.mem_cons_self)
    rcases List.mem_cons.mp hb' with e | hb'
    · rw [e]; exact fr3 _ (Ne.symm npt) hpt2
    rcases List.mem_cons.mp hb' with e | hb'
    · rw [e]; exact fr3 _ (Ne.symm npf) hpf2
    · exact fr2 b (List.mem_cons_of_mem _ hb')
theorem ok_Group_init {P : Program} {w : World} {K : PySem.W.Frag} {mg : Str → Option Value} {base : Heap} {a : Ad} (T : Txt K mg a) : MakB P w K mg base CX0 1 "Group" a.CGroup (sp_Group_init P w K a) :=
  MakB.mk0 T.f_Group_init sc_Group_init l_Group_init fun f cdv A outer s H vs Q E hr h => ⟨_, d_Group_init T  hr, p_Group_init T h⟩
/-! ### Group.bill -/
def sp_Group_bill (P : Program) (w : World) (K : PySem.W.Frag) (a : Ad) : Sp := fun vs H Q _ => ∃ (L : GL) (g : Grp) (price lend : Nat), vs = [.ref L.self, nV price, nV lend] ∧ GroupAt a H L g ∧ price ≤ 10000 ∧ lend ≤ 10000 ∧ g.size ≤ 1000 ∧ g.rolls.length ≤ 1000 ∧
  ∀ H', Same H H' → Q (nV (g.bill price lend)) H'
theorem l_Group_bill : ∀ vs H Q E, sp_Group_bill P w K a vs H Q E → vs.length = 3 := by
  rintro vs H Q E ⟨x, y, _, _, rfl, _⟩; rfl
abbrev s_Group_bill : Stmt := inClass (top 17) 6
abbrev N_Group_bill : List Str := ["self", "price", "lend", "begun", "row"]
theorem sc_Group_bill : FnScope N_Group_bill ["self", "price", "lend"] (defScope s_Group_bill) := ⟨rfl, rfl, rfl, by decide +kernel, rfl, by decide +kernel, by decide +kernel⟩
def t_Group_bill (P : Program) (w : World) (K : PySem.W.Frag) (a : Ad) (E : XK) : TS :=
  (tSeq (tAsg (tCB (rLenB K) (tCons (tLc (iList K (tFld K (tVar 0) "rolls")) (gName 4) (tTest (tOp rGtI (tCB (rLenB K) (tCons (tVar 4) tNil)) (tC (.int 0)))) (tVar 4) [4]) tNil)) (gName 3))
  (tRet (tOp rAddI (tOp rMulI (tVar 1) (tOp rAddI (tOp rMulI (tFld K (tVar 0) "size") (tCB (rLenB K) (tCons (tFld K (tVar 0) "finished") tNil))) (tVar 3))) (tOp rMulI (tVar 2) (tFld K (tVar 0) "shoes")))))
theorem d_Group_bill {P : Program} {w : World} {K : PySem.W.Frag} {mg : Str → Option Value} {base : Heap} {a : Ad} (T : Txt K mg a)  {f : Addr} {cdv : Value} {A : Around} {outer : List Env} {s : Shared} {H : Hp} {E : XK}
    (hr : Room 0 (A.deeper (envOfC "Group.bill" (defScope s_Group_bill) s.heap.objs.size f cdv))) : PSs (cxOf CX0 P w K mg base N_Group_bill "Group.bill" (defScope s_Group_bill) f cdv A outer s H E).nox (defBody s_Group_bill) (t_Group_bill P w K a E) :=
  (pss_cons (ps_set (i := 3) sc_Group_bill.nd rfl (by first | exact Or.inl rfl | exact Or.inr rfl) (pe_callB call_len (by rfl) T.n_len PySem.boot_len (pa_cons (pe_lc (own := [("row", 4)]) (g := (gName 4)) (tt := (tTest (tOp rGtI (tCB (rLenB K) (tCons (tVar 4) tNil)) (tC (.int 0))))) (te := (tVar 4)) rfl sc_Group_bill.nd (pi_list (pe_fld (pv 0) rfl)) (blkOk_by (N := N_Group_bill) (sc := (defScope s_Group_bill)) (by decide +kernel)) (fun _ _ _ _ _ => (pg_name (i := 4) sc_Group_bill.nd rfl (by first | exact Or.inl rfl | exact Or.inr rfl))) (fun _ _ _ _ _ => (pts_one (pt_cmpR op_gt (pe_callB call_len (by rfl) T.n_len PySem.boot_len (pa_cons (pv 4) pa_nil)) pe_int (nomark _)))) (fun _ _ _ _ _ => (pv 4))) pa_nil)))
  (pss_one (ps_ret (pe_op op_add (pe_op op_mul (pv 1) (pe_op op_add (pe_op op_mul (pe_fld (pv 0) rfl) (pe_callB call_len (by rfl) T.n_len PySem.boot_len (pa_cons (pe_fld (pv 0) rfl) pa_nil))) (pv 3))) (pe_op op_mul (pv 2) (pe_fld (pv 0) rfl))))))
theorem begun_filt : ∀ (rolls : List RL) (f : Nat → V), (filt (fun j => decide (0 < (rolls.getD j []).length)) f rolls.length).length = (rolls.filter fun r => decide (0 < r.length)).length := by
  intro rolls f
  unfold filt
  rw [List.length_map]
  induction rolls with
  | nil => rfl
  | cons r rs ih =>
    rw [List.length_cons, List.range_succ_eq_map, List.filter_cons, List.filter_cons, List.filter_map]
    show (if decide (0 < r.length) = true then _ else _ : List Nat).length = (if decide (0 < r.length) = true then _ else _ : List RL).length
    split
    · rw [List.length_cons, List.length_cons, List.length_map]; congr 1
    · rw [List.length_map]; exact ih
theorem p_Group_bill (T : Txt K mg a) {vs : List V} {Q : VK} {E : XK} (h : sp_Group_bill P w K a vs H Q E) :
    t_Group_bill P w K a E { nx := fun _ H' => Q .non H', rt := Q } (start N_Group_bill vs) H := by
  obtain ⟨L, g, price, lend, rfl, hg, hp, hl, hs, hz, q⟩ := h
  refine ⟨_, rfl, _, _, _, _, _, rfl, hg.self, T.c_Group, T.a_Group_rolls, rfl, L.rolls, rfl, ⟨_, lp hg.rolls⟩, ?_⟩
  have hlen : (L.rows.map V.ref).length = g.rolls.length := by rw [List.length_map]; exact hg.rows.len
  refine lc_out (walk_list (K := K) (a := L.rolls) (xs := L.rows.map V.ref)) (filt (fun j => decide (0 < (g.rolls.getD j []).length)) fun j => .ref (L.rows.getD j 0)) (by rw [hlen]; omega) yat_same (fun H' s => lp (s _ _ hg.rolls)) rfl (fun i _ => filt_len _ _ _) (fun i x Ha Hb Qy Qn hi s y qy qn => ?_) fun H' D s hD e => ?_
  · obtain ⟨rfl, hx⟩ := y
    obtain ⟨b, hb, rfl⟩ := getElem?_map_some hx
    obtain ⟨r, hri, e⟩ := hg.rows.get hb
    refine ⟨rfl, _, rfl, _, _, rfl, .inl ⟨_, lp (s _ _ e), rfl⟩, _, _, rfl, rfl, _, rfl, ?_⟩
    rw [nL_length]
    have er : g.rolls.getD i [] = r := getD_of hri
    refine ite_d (fun c => ?_) (fun c => ?_)
    · refine ⟨_, rfl, qy _ _ (Same.refl _) ?_⟩
      rw [filt_yes (by rw [er]; exact decide_eq_true (Int.ofNat_lt.mp c)), getD_of hb]
    · exact qn _ (Same.refl _) (filt_no (by rw [er]; exact decide_eq_false fun z => c (Int.ofNat_lt.mpr z)))
  · refine ⟨_, _, rfl, .inl ⟨_, lp e, rfl⟩, ?_⟩
    have hs2 := s _ _ hg.self
    refine ⟨_, rfl, _, rfl, _, _, _, _, _, rfl, hs2, T.c_Group, T.a_Group_size, rfl, _, rfl, _, _, _, _, _, rfl, hs2, T.c_Group, T.a_Group_finished, rfl, _, _, rfl, .inl ⟨_, lp (s _ _ hg.fin), rfl⟩, ?_⟩
    refine ⟨_, _, rfl, rfl, .inl ⟨by omega, by omega⟩, _, rfl, _, _, rfl, rfl, _, _, rfl, rfl, .inl ⟨by omega, by omega⟩, _, rfl, _, rfl, _, _, _, _, _, rfl, hs2, T.c_Group, T.a_Group_shoes, rfl, _, _, rfl, rfl, .inl ⟨by omega, by omega⟩, _, _, rfl, rfl, ?_⟩
    refine val_of ?_ (q H' s)
    rw [hlen, begun_filt, List.length_map, hg.frows.len]
    show V.int _ = V.int _
    unfold Grp.bill Grp.begun
    rw [Int.natCast_add, Int.natCast_mul, Int.natCast_add, Int.natCast_mul, Int.natCast_mul]
theorem ok_Group_bill {P : Program} {w : World} {K : PySem.W.Frag} {mg : Str → Option Value} {base : Heap} {a : Ad} (T : Txt K mg a) : MetB P w K mg base CX0 1 a.CGroup "bill" (sp_Group_bill P w K a) :=
  MetB.mk0 T.f_Group_bill sc_Group_bill l_Group_bill fun f cdv A outer s H vs Q E hr h => ⟨_, d_Group_bill T  hr, p_Group_bill T h⟩
/-! ### Group.become -/
def sp_Group_become (P : Program) (w : World) (K : PySem.W.Frag) (a : Ad) : Sp := fun vs H Q _ => ∃ (L : GL) (g : Grp) (t : Nat), vs = [.ref L.self, nV t] ∧ GroupAt a H L g ∧
  ∀ H', GroupAt a H' L (g.become t) → Kept (fun b => b ∈ L.fp) H H' → Q .non H'
theorem l_Group_become : ∀ vs H Q E, sp_Group_become P w K a vs H Q E → vs.length = 2 := by
  rintro vs H Q E ⟨x, y, _, rfl, _⟩; rfl
abbrev s_Group_become : Stmt := inClass (top 17) 7
abbrev N_Group_become : List Str := ["self", "team"]
theorem sc_Group_become : FnScope N_Group_become ["self", "team"] (defScope s_Group_become) := ⟨rfl, rfl, rfl, by decide +kernel, rfl, by decide +kernel, by decide +kernel⟩
def t_Group_become (P : Program) (w : World) (K : PySem.W.Frag) (a : Ad) (E : XK) : TS :=
  (tSeq (sFld K (tVar 0) (tVar 1) "team")
  (sFld K (tVar 0) (tCB (rLenB K) (tCons (tFld K (tVar 0) "finished") tNil)) "counted"))
theorem d_Group_become {P : Program} {w : World} {K : PySem.W.Frag} {mg : Str → Option Value} {base : Heap} {a : Ad} (T : Txt K mg a)  {f : Addr} {cdv : Value} {A : Around} {outer : List Env} {s : Shared} {H : Hp} {E : XK}
    (hr : Room 0 (A.deeper (envOfC "Group.become" (defScope s_Group_become) s.heap.objs.size f cdv))) : PSs (cxOf CX0 P w K mg base N_Group_become "Group.become" (defScope s_Group_become) f cdv A outer s H E).nox (defBody s_Group_become) (t_Group_become P w K a E) :=
  (pss_cons (ps_fld (pv 0) (pv 1) rfl)
  (pss_one (ps_fld (pv 0) (pe_callB call_len (by rfl) T.n_len PySem.boot_len (pa_cons (pe_fld (pv 0) rfl) pa_nil)) rfl)))
theorem p_Group_become (T : Txt K mg a) {vs : List V} {Q : VK} {E : XK} (h : sp_Group_become P w K a vs H Q E) :
    t_Group_become P w K a E { nx := fun _ H' => Q .non H', rt := Q } (start N_Group_become vs) H := by
  obtain ⟨L, g, t, rfl, hg, q⟩ := h
  have h1 := hg.field (g' := { g with team := some t }) rfl rfl rfl
  have k1 : Kept (fun b => b ∈ L.fp) H (upd H L.self (.ins a.CGroup L.dx (gF L { g with team := some t }))) := (Kept.refl _ H).put List.mem_cons_self hg.self rfl
  have h2 := h1.field (g' := g.become t) rfl rfl rfl
  refine ⟨_, rfl, _, rfl, L.self, _, L.dx, _, rfl, hg.self, T.c_Group, T.a_Group_team, (by decide : 8 < 1000), ?_⟩
  refine ⟨_, rfl, _, _, _, _, _, rfl, h1.self, T.c_Group, T.a_Group_finished, rfl, _, _, rfl, .inl ⟨_, lp h1.fin, rfl⟩, _, rfl, L.self, _, L.dx, _, rfl, h1.self, T.c_Group, T.a_Group_counted, (by decide : 8 < 1000), ?_⟩
  have hl : (L.frows.map V.ref).length = g.fin.length := by rw [List.length_map]; exact hg.frows.len
  rw [hl]
  exact q _ h2 (k1.put List.mem_cons_self h1.self rfl)
theorem ok_Group_become {P : Program} {w : World} {K : PySem.W.Frag} {mg : Str → Option Value} {base : Heap} {a : Ad} (T : Txt K mg a) : MetB P w K mg base CX0 1 a.CGroup "become" (sp_Group_become P w K a) :=
  MetB.mk0 T.f_Group_become sc_Group_become l_Group_become fun f cdv A outer s H vs Q E hr h => ⟨_, d_Group_become T  hr, p_Group_become T h⟩
/-! ### Group.has_match -/
def sp_Group_has_match (P : Program) (w : World) (K : PySem.W.Frag) (a : Ad) : Sp := fun vs H Q _ => ∃ (L : GL) (g : Grp), vs = [.ref L.self] ∧ GroupAt a H L g ∧ Q (.bl g.hasMatch) H
theorem l_Group_has_match : ∀ vs H Q E, sp_Group_has_match P w K a vs H Q E → vs.length = 1 := by
  rintro vs H Q E ⟨x, y, rfl, _⟩; rfl
abbrev s_Group_has_match : Stmt := inClass (top 17) 8
abbrev N_Group_has_match : List Str := ["self"]
theorem sc_Group_has_match : FnScope N_Group_has_match ["self"] (defScope s_Group_has_match) := ⟨rfl, rfl, rfl, by decide +kernel, rfl, by decide +kernel, by decide +kernel⟩
def t_Group_has_match (P : Program) (w : World) (K : PySem.W.Frag) (a : Ad) (E : XK) : TS :=
  (tRet (tOp rGeI (tOp rSubI (tCB (rLenB K) (tCons (tFld K (tVar 0) "finished") tNil)) (tFld K (tVar 0) "counted")) (tC (.int (3)))))
theorem d_Group_has_match {P : Program} {w : World} {K : PySem.W.Frag} {mg : Str → Option Value} {base : Heap} {a : Ad} (T : Txt K mg a)  {f : Addr} {cdv : Value} {A : Around} {outer : List Env} {s : Shared} {H : Hp} {E : XK}
    (hr : Room 0 (A.deeper (envOfC "Group.has_match" (defScope s_Group_has_match) s.heap.objs.size f cdv))) : PSs (cxOf CX0 P w K mg base N_Group_has_match "Group.has_match" (defScope s_Group_has_match) f cdv A outer s H E).nox (defBody s_Group_has_match) (t_Group_has_match P w K a E) :=
  (pss_one (ps_ret (pe_cmpR op_ge (pe_op op_sub (pe_callB call_len (by rfl) T.n_len PySem.boot_len (pa_cons (pe_fld (pv 0) rfl) pa_nil)) (pe_fld (pv 0) rfl)) (pgi T.g_MATCH_GAMES rfl) (nomark _))))
theorem p_Group_has_match (T : Txt K mg a) {vs : List V} {Q : VK} {E : XK} (h : sp_Group_has_match P w K a vs H Q E) :
    t_Group_has_match P w K a E { nx := fun _ H' => Q .non H', rt := Q } (start N_Group_has_match vs) H := by
  obtain ⟨L, g, rfl, hg, q⟩ := h
  refine ⟨_, rfl, _, _, _, _, _, rfl, hg.self, T.c_Group, T.a_Group_finished, rfl, _, _, rfl, .inl ⟨_, lp hg.fin, rfl⟩, _, rfl, _, _, _, _, _, rfl, hg.self, T.c_Group, T.a_Group_counted, rfl, _, _, rfl, rfl, _, _, rfl, rfl, ?_⟩
  refine val_of ?_ q
  rw [List.length_map, hg.frows.len]
  unfold Grp.hasMatch
  exact congrArg V.bl (decide_eq_decide.mpr <| show ((3 : Int) ≤ (g.fin.length : Int) - (g.counted : Int)) ↔ (g.counted + 3 ≤ g.fin.length) by omega)
theorem ok_Group_has_match {P : Program} {w : World} {K : PySem.W.Frag} {mg : Str → Option Value} {base : Heap} {a : Ad} (T : Txt K mg a) : MetB P w K mg base CX0 1 a.CGroup "has_match" (sp_Group_has_match P w K a) :=
  MetB.mk0 T.f_Group_has_match sc_Group_has_match l_Group_has_match fun f cdv A outer s H vs Q E hr h => ⟨_, d_Group_has_match T  hr, p_Group_has_match T h⟩
end
end Bw

/-! the walk: groups, part three -/
namespace Bw
open PySem PySem.Spec PyProof.Rows L2
section
variable {P : Program} {w : World} {K : PySem.W.Frag} {mg : Str → Option Value} {base : Heap} {a : Ad} {H H' : Hp} {L : GL} {g : Grp}
/-! ### Group.take_match -/
def sp_Group_take_match (P : Program) (w : World) (K : PySem.W.Frag) (a : Ad) : Sp := fun vs H Q _ => ∃ (L : GL) (g : Grp), vs = [.ref L.self] ∧ GroupAt a H L g ∧ g.size ≤ 1000 ∧ g.fin.length ≤ 1000 ∧ (∀ r ∈ g.fin, g.size ≤ r.length) ∧
  ∀ H' p as, GroupAt a H' L g.take3 → Kept (fun b => b ∈ L.fp) H H' → H' p = some (.lst (as.map V.ref)) → RowsAt H' as g.matchRows → (p :: as).Nodup → (∀ b ∈ p :: as, H b = none) → Q (.ref p) H'
theorem l_Group_take_match : ∀ vs H Q E, sp_Group_take_match P w K a vs H Q E → vs.length = 1 := by
  rintro vs H Q E ⟨x, y, rfl, _⟩; rfl
abbrev s_Group_take_match : Stmt := inClass (top 17) 9
abbrev N_Group_take_match : List Str := ["self", "games", "player", "game"]
theorem sc_Group_take_match : FnScope N_Group_take_match ["self"] (defScope s_Group_take_match) := ⟨rfl, rfl, rfl, by decide +kernel, rfl, by decide +kernel, by decide +kernel⟩
def t_Group_take_match (P : Program) (w : World) (K : PySem.W.Frag) (a : Ad) (E : XK) : TS :=
  (tSeq (tAsg (tSl (rSlL K) (tFld K (tVar 0) "finished") (tPart (tFld K (tVar 0) "counted")) (tPart (tOp rAddI (tFld K (tVar 0) "counted") (tC (.int (3)))))) (gName 1))
  (tSeq (sFldAug K (tVar 0) (tC (.int (3))) rAdd "counted")
  (tRet (tLc (iRng1 (tCons (tFld K (tVar 0) "size") tNil)) (gName 2) tYes (tLc (iList K (tVar 1)) (gName 3) tYes (tOp (rIxL K) (tVar 3) (tVar 2)) [3]) [2]))))
theorem d_Group_take_match {P : Program} {w : World} {K : PySem.W.Frag} {mg : Str → Option Value} {base : Heap} {a : Ad} (T : Txt K mg a)  {f : Addr} {cdv : Value} {A : Around} {outer : List Env} {s : Shared} {H : Hp} {E : XK}
    (hr : Room 0 (A.deeper (envOfC "Group.take_match" (defScope s_Group_take_match) s.heap.objs.size f cdv))) : PSs (cxOf CX0 P w K mg base N_Group_take_match "Group.take_match" (defScope s_Group_take_match) f cdv A outer s H E).nox (defBody s_Group_take_match) (t_Group_take_match P w K a E) :=
  (pss_cons (ps_set (i := 1) sc_Group_take_match.nd rfl (by first | exact Or.inl rfl | exact Or.inr rfl) (pe_slice sl_list (pe_fld (pv 0) rfl) (po_some (pe_fld (pv 0) rfl)) (po_some (pe_op op_add (pe_fld (pv 0) rfl) (pgi T.g_MATCH_GAMES rfl)))))
  (pss_cons (ps_fldaug (pv 0) (pgi T.g_MATCH_GAMES rfl) in_add)
  (pss_one (ps_ret (pe_lc (own := [("player", 2)]) (g := (gName 2)) (tt := tYes) (te := (tLc (iList K (tVar 1)) (gName 3) tYes (tOp (rIxL K) (tVar 3) (tVar 2)) [3])) rfl sc_Group_take_match.nd (pi_range1 rfl T.n_range (pa_cons (pe_fld (pv 0) rfl) pa_nil)) (blkOk_by (N := N_Group_take_match) (sc := (defScope s_Group_take_match)) (by decide +kernel)) (fun _ _ _ _ _ => (pg_name (i := 2) sc_Group_take_match.nd rfl (by first | exact Or.inl rfl | exact Or.inr rfl))) (fun _ _ _ _ _ => pts_nil) (fun _ _ _ _ _ => (pe_lc (own := [("game", 3)]) (g := (gName 3)) (tt := tYes) (te := (tOp (rIxL K) (tVar 3) (tVar 2))) rfl sc_Group_take_match.nd (pi_list (pv 1)) (blkOk_by (N := N_Group_take_match) (sc := (relS _ (defScope s_Group_take_match))) (by decide +kernel)) (fun _ _ _ _ _ => (pg_name (i := 3) sc_Group_take_match.nd rfl (by first | exact Or.inl rfl | exact Or.inr rfl))) (fun _ _ _ _ _ => pts_nil) (fun _ _ _ _ _ => (pe_ix ix_list (pv 3) (pv 2) (fun _ _ => rfl))))))))))
theorem matchRows_len (g : Grp) : g.matchRows.length = g.size := by unfold Grp.matchRows; rw [List.length_map, List.length_range]
theorem p_Group_take_match (T : Txt K mg a) {vs : List V} {Q : VK} {E : XK} (h : sp_Group_take_match P w K a vs H Q E) :
    t_Group_take_match P w K a E { nx := fun _ H' => Q .non H', rt := Q } (start N_Group_take_match vs) H := by
  obtain ⟨L, g, rfl, hg, hs, hf, hr, q⟩ := h
  refine ⟨_, rfl, _, _, _, _, _, rfl, hg.self, T.c_Group, T.a_Group_finished, rfl, _, rfl, _, _, _, _, _, rfl, hg.self, T.c_Group, T.a_Group_counted, rfl, (g.counted : Int), rfl, _, rfl, _, _, _, _, _, rfl, hg.self, T.c_Group, T.a_Group_counted, rfl, _, _, rfl, rfl, _, rfl, L.fin, _, rfl, lp hg.fin, fun p hp => ?_⟩
  have ec : cutV (L.frows.map V.ref) (some (g.counted : Int)) (some ((g.counted : Int) + 3)) = ((L.frows.drop g.counted).take 3).map V.ref := by
    have := cutV_mid (L.frows.map V.ref) g.counted 3
    rw [Int.natCast_add] at this
    rw [show (some ((g.counted : Int) + 3)) = some ((g.counted : Int) + ((3 : Nat) : Int)) from rfl, this, List.map_take, List.map_drop]
  have hgp := hg.up (same_upd (o := .lst (cutV (L.frows.map V.ref) (some (g.counted : Int)) (some ((g.counted : Int) + 3)))) hp)
  have kp : Kept (fun b => b ∈ L.fp) H (upd H p (.lst (cutV (L.frows.map V.ref) (some (g.counted : Int)) (some ((g.counted : Int) + 3))))) := Kept.of (same_upd hp)
  refine ⟨_, rfl, L.self, _, L.dx, _, _, rfl, hgp.self, T.c_Group, T.a_Group_counted, rfl, _, _, rfl, rfl, L.dx, _, hgp.self, (by decide : 8 < 1000), ?_⟩
  have hg3 : GroupAt a (upd (upd H p (.lst (cutV (L.frows.map V.ref) (some (g.counted : Int)) (some ((g.counted : Int) + 3))))) L.self (.ins a.CGroup L.dx (gF L g.take3))) L g.take3 := hgp.field rfl rfl rfl
  have kp3 : Kept (fun b => b ∈ L.fp) H (upd (upd H p (.lst (cutV (L.frows.map V.ref) (some (g.counted : Int)) (some ((g.counted : Int) + 3))))) L.self (.ins a.CGroup L.dx (gF L g.take3))) := kp.put List.mem_cons_self hgp.self rfl
  have np : p ≠ L.self := fun z => by rw [z, hg.self] at hp; cases hp
  have hpp : upd (upd H p (.lst (cutV (L.frows.map V.ref) (some (g.counted : Int)) (some ((g.counted : Int) + 3))))) L.self (.ins a.CGroup L.dx (gF L g.take3)) p = some (.lst (((L.frows.drop g.counted).take 3).map V.ref)) := by rw [upd_ne np, upd_same, ec]
  suffices main : ∀ H3 : Hp, GroupAt a H3 L g.take3 → Kept (fun b => b ∈ L.fp) H H3 → H3 p = some (.lst (((L.frows.drop g.counted).take 3).map V.ref)) →
      (tRet (tLc (iRng1 (tCons (tFld K (tVar 0) "size") tNil)) (gName 2) tYes (tLc (iList K (tVar 1)) (gName 3) tYes (tOp (rIxL K) (tVar 3) (tVar 2)) [3]) [2])) { nx := fun _ H' => Q .non H', rt := Q } [some (.ref L.self), some (.ref p), none, none] H3 from main _ hg3 kp3 hpp
  intro H3 hg3 kp3 hpp
  have free3 : ∀ b, H3 b = none → H b = none := fun b e => kp3.free (fun c hc => by obtain ⟨o, e2, _⟩ := hg3.what hc; rw [e2]; rfl) e
  unfold tRet
  refine lc_rows g.matchRows (by rw [matchRows_len]; exact hs) (fun R h => ⟨_, rfl, _, _, _, _, _, rfl, hg3.self, T.c_Group, T.a_Group_size, rfl, (by rw [matchRows_len] at h; exact h)⟩) (fun _ => rfl) (fun i row Ha Qy hi s qy => ?_) fun H4 p4 as s4 h4 hr4 nd fr => ?_
  · have hrow : row = ((g.fin.drop g.counted).take 3).map fun x => x.getD i 0 := by
      unfold Grp.matchRows at hi
      obtain ⟨x, hx, e⟩ := getElem?_map_some hi
      have : x = i := by
        rw [List.getElem?_range] at hx
        · exact (Option.some.inj hx).symm
        · have := (List.getElem?_eq_some_iff.mp hx).1
          rw [List.length_range] at this; exact this
      rw [e, this]
    have hi2 : i < g.size := by
      have := (List.getElem?_eq_some_iff.mp hi).1
      rw [matchRows_len] at this; exact this
    refine ⟨_, rfl, p, rfl, ⟨_, lp (s _ _ hpp)⟩, ?_⟩
    have hlen : (((L.frows.drop g.counted).take 3).map V.ref).length = ((g.fin.drop g.counted).take 3).length := by rw [List.length_map, List.length_take, List.length_take, List.length_drop, List.length_drop, hg.frows.len]
    refine lc_out (walk_list (K := K) (a := p) (xs := ((L.frows.drop g.counted).take 3).map V.ref)) (fun k => nL ((((g.fin.drop g.counted).take 3).map fun x => x.getD i 0).take k)) (by rw [List.length_map]; exact Nat.le_trans (List.length_take_le _ _) (by omega)) yat_same (fun H' s2 => lp (s2 _ _ (s _ _ hpp))) rfl (fun k _ => by rw [nL_length]; exact List.length_take_le _ _) (fun k x Hb Hc Qz Qn hk s2 y qz qn => ?_) fun H5 D s5 hD e => ?_
    · obtain ⟨rfl, hx⟩ := y
      obtain ⟨b, hb, rfl⟩ := getElem?_map_some hx
      have hb2 : L.frows[g.counted + k]? = some b := by
        rw [List.getElem?_take] at hb
        split at hb
        · rw [List.getElem?_drop] at hb; exact hb
        · cases hb
      have hk3 : k < 3 := by
        have := hk
        rw [List.length_map] at this
        exact Nat.lt_of_lt_of_le this (List.length_take_le _ _)
      obtain ⟨r, hr2, e⟩ := hg3.frows.get hb2
      have hr3 : ((g.fin.drop g.counted).take 3)[k]? = some r := by
        rw [List.getElem?_take, if_pos hk3, List.getElem?_drop]; exact hr2
      have hrl := hr r (List.mem_of_getElem? hr2)
      have hri : r[i]? = some (r.getD i 0) := by
        rw [List.getD_eq_getElem?_getD, List.getElem?_eq_getElem (by omega)]; rfl
      refine ⟨rfl, yes_if ⟨_, rfl, _, rfl, b, nL r, (i : Int), nV (r.getD i 0), rfl, rfl, lp (s2 _ _ (s _ _ e)), atI_nat (j := i) ?_, qz _ _ (Same.refl _) ?_⟩⟩
      · unfold nL; rw [List.getElem?_map, hri]; rfl
      · exact nL_take_succ (by rw [List.getElem?_map, hr3]; rfl)
    · refine qy H5 D s5 hD ?_
      rw [e, hrow, hlen, ← List.length_map (f := fun x : List Nat => x.getD i 0), List.take_length]
  · refine q H4 p4 as (hg3.up s4) (kp3.trans (Kept.of s4)) h4 hr4 nd fun b hb => free3 b (fr b hb)
theorem ok_Group_take_match {P : Program} {w : World} {K : PySem.W.Frag} {mg : Str → Option Value} {base : Heap} {a : Ad} (T : Txt K mg a) : MetB P w K mg base CX0 1 a.CGroup "take_match" (sp_Group_take_match P w K a) :=
  MetB.mk0 T.f_Group_take_match sc_Group_take_match l_Group_take_match fun f cdv A outer s H vs Q E hr h => ⟨_, d_Group_take_match T  hr, p_Group_take_match T h⟩
/-! ### Group.roll -/
def sp_Group_roll (P : Program) (w : World) (K : PySem.W.Frag) (a : Ad) : Sp := fun vs H Q _ => ∃ (L : GL) (g : Grp) (n : Nat), vs = [.ref L.self, nV n] ∧ GroupAt a H L g ∧ RollOk g n ∧
  ∀ H' L', GroupAt a H' L' (g.roll n) → L'.self = L.self → Kept (fun b => b ∈ L.fp) H H' → (∀ b ∈ L'.fp, b ∈ L.fp ∨ H b = none) → Q (nV g.turn) H'
theorem l_Group_roll : ∀ vs H Q E, sp_Group_roll P w K a vs H Q E → vs.length = 2 := by
  rintro vs H Q E ⟨x, y, n, rfl, _⟩; rfl
abbrev s_Group_roll : Stmt := inClass (top 17) 4
abbrev N_Group_roll : List Str := ["self", "pins", "player", "other", "row"]
theorem sc_Group_roll : FnScope N_Group_roll ["self", "pins"] (defScope s_Group_roll) := ⟨rfl, rfl, rfl, by decide +kernel, rfl, by decide +kernel, by decide +kernel⟩
def t_Group_roll (P : Program) (w : World) (K : PySem.W.Frag) (a : Ad) (E : XK) : TS :=
  (tSeq (tAsg (tMeth a.CGroup "turn" (sp_Group_turn P w K a) [] E0 (tVar 0) tNil) (gName 2))
  (tSeq (tDrop (tBM K "list" rAppend (tOp (rIxL K) (tFld K (tVar 0) "rolls") (tVar 2)) (tCons (tVar 1) tNil)))
  (tSeq (tDrop (tBM K "list" rAppend (tFld K (tVar 0) "turns") (tCons (tVar 2) tNil)))
  (tSeq (tIfS (tTest (tOp rEq (tCB (rMin K) (tCons (tLc (iList K (tFld K (tVar 0) "rolls")) (gName 4) tYes (tCall (sp_frames_over P w K a) [] E0 (tCons (tVar 4) tNil)) [4]) tNil)) (tC (.int (10))))) (tSeq (tDrop (tBM K "list" rAppend (tFld K (tVar 0) "finished") (tCons (tLc (iList K (tFld K (tVar 0) "rolls")) (gName 4) tYes (tCB (rSum K) (tCons (tCall (sp_frame_scores P w K a) [] E0 (tCons (tVar 4) tNil)) tNil)) [4]) tNil)))
  (tSeq (sFld K (tVar 0) (tLc (iRng1 (tCons (tFld K (tVar 0) "size") tNil)) (gName 3) tYes (tLst tNil) [3]) "rolls")
  (sFld K (tVar 0) (tLst tNil) "turns"))) tNext)
  (tRet (tVar 2))))))
theorem d_Group_roll {P : Program} {w : World} {K : PySem.W.Frag} {mg : Str → Option Value} {base : Heap} {a : Ad} (T : Txt K mg a) (c_Group_turn : MetB P w K mg base CX0 4 a.CGroup "turn" (sp_Group_turn P w K a)) (c_frames_over : CalB P w K mg base CX0 3 "frames_over" (sp_frames_over P w K a)) (c_frame_scores : CalB P w K mg base CX0 3 "frame_scores" (sp_frame_scores P w K a)) {f : Addr} {cdv : Value} {A : Around} {outer : List Env} {s : Shared} {H : Hp} {E : XK}
    (hr : Room 4 (A.deeper (envOfC "Group.roll" (defScope s_Group_roll) s.heap.objs.size f cdv))) : PSs (cxOf CX0 P w K mg base N_Group_roll "Group.roll" (defScope s_Group_roll) f cdv A outer s H E).nox (defBody s_Group_roll) (t_Group_roll P w K a E) :=
  (pss_cons (ps_set (i := 2) sc_Group_roll.nd rfl (by first | exact Or.inl rfl | exact Or.inr rfl) (pm0 c_Group_turn hr (by decide) pass0 (pv 0)))
  (pss_cons (ps_expr (pe_bm PySem.F.plainAttrs_list PySem.F.slot_list_append PySem.F.type_list_append mt_append (pe_ix ix_list (pe_fld (pv 0) rfl) (pv 2) (fun _ _ => rfl)) (pa_cons (pv 1) pa_nil)))
  (pss_cons (ps_expr (pe_bm PySem.F.plainAttrs_list PySem.F.slot_list_append PySem.F.type_list_append mt_append (pe_fld (pv 0) rfl) (pa_cons (pv 2) pa_nil)))
  (pss_cons (ps_if (pt_cmpR op_eq (pe_callB (cr_min rfl) (by rfl) T.n_min boot_min2 (pa_cons (pe_lc (own := [("row", 4)]) (g := (gName 4)) (tt := tYes) (te := (tCall (sp_frames_over P w K a) [] E0 (tCons (tVar 4) tNil))) rfl sc_Group_roll.nd (pi_list (pe_fld (pv 0) rfl)) (blkOk_by (N := N_Group_roll) (sc := (defScope s_Group_roll)) (by decide +kernel)) (fun _ _ _ _ _ => (pg_name (i := 4) sc_Group_roll.nd rfl (by first | exact Or.inl rfl | exact Or.inr rfl))) (fun _ _ _ _ _ => pts_nil) (fun _ _ _ _ _ => (pc c_frames_over hr (by decide) pass0 rfl (pa_cons (pv 4) pa_nil)))) pa_nil)) (pgi T.g_FRAMES rfl) (nomark _)) (pss_cons (ps_expr (pe_bm PySem.F.plainAttrs_list PySem.F.slot_list_append PySem.F.type_list_append mt_append (pe_fld (pv 0) rfl) (pa_cons (pe_lc (own := [("row", 4)]) (g := (gName 4)) (tt := tYes) (te := (tCB (rSum K) (tCons (tCall (sp_frame_scores P w K a) [] E0 (tCons (tVar 4) tNil)) tNil))) rfl sc_Group_roll.nd (pi_list (pe_fld (pv 0) rfl)) (blkOk_by (N := N_Group_roll) (sc := (defScope s_Group_roll)) (by decide +kernel)) (fun _ _ _ _ _ => (pg_name (i := 4) sc_Group_roll.nd rfl (by first | exact Or.inl rfl | exact Or.inr rfl))) (fun _ _ _ _ _ => pts_nil) (fun _ _ _ _ _ => (pe_callB (cr_sum rfl) (by rfl) T.n_sum boot_sum2 (pa_cons (pc c_frame_scores hr (by decide) pass0 rfl (pa_cons (pv 4) pa_nil)) pa_nil)))) pa_nil)))
  (pss_cons (ps_fld (pv 0) (pe_lc (own := [("other", 3)]) (g := (gName 3)) (tt := tYes) (te := (tLst tNil)) rfl sc_Group_roll.nd (pi_range1 rfl T.n_range (pa_cons (pe_fld (pv 0) rfl) pa_nil)) (blkOk_by (N := N_Group_roll) (sc := (defScope s_Group_roll)) (by decide +kernel)) (fun _ _ _ _ _ => (pg_name (i := 3) sc_Group_roll.nd rfl (by first | exact Or.inl rfl | exact Or.inr rfl))) (fun _ _ _ _ _ => pts_nil) (fun _ _ _ _ _ => (pe_lst pa_nil))) rfl)
  (pss_one (ps_fld (pv 0) (pe_lst pa_nil) rfl)))) pss_nil)
  (pss_one (ps_ret (pv 2)))))))
theorem optV_some {l : List (Option Nat)} (h : ∀ x ∈ l, x.isSome = true) : l.map optV = nL (l.map fun x => x.getD 0) := by
  unfold nL
  rw [List.map_map]
  refine List.map_congr_left fun x hx => ?_
  have := h x hx
  cases x with
  | none => cases this
  | some n => rfl
theorem nd_mk {r t f : Addr} {as fs : List Addr} (n1 : (r :: as).Nodup) (n2 : fs.Nodup) (h1 : ∀ b ∈ r :: as, b ≠ t ∧ b ≠ f ∧ b ∉ fs) (h2 : t ≠ f ∧ t ∉ fs) (h3 : f ∉ fs) : (r :: t :: f :: (as ++ fs)).Nodup := by
  rw [List.nodup_cons] at n1
  have hr := h1 r List.mem_cons_self
  have ha : ∀ b ∈ as, b ≠ t ∧ b ≠ f ∧ b ∉ fs := fun b hb => h1 b (List.mem_cons_of_mem _ hb)
  rw [List.nodup_cons, List.nodup_cons, List.nodup_cons, List.nodup_append]
  refine ⟨fun hm => ?_, fun hm => ?_, fun hm => ?_, n1.2, n2, fun x hx y hy z => (ha x hx).2.2 (z ▸ hy)⟩
  · rcases List.mem_cons.mp hm with z | hm
    · exact hr.1 z
    rcases List.mem_cons.mp hm with z | hm
    · exact hr.2.1 z
    rcases List.mem_append.mp hm with hm | hm
    · exact n1.1 hm
    · exact hr.2.2 hm
  · rcases List.mem_cons.mp hm with z | hm
    · exact h2.1 z
    rcases List.mem_append.mp hm with hm | hm
    · exact (ha t hm).1 rfl
    · exact h2.2 hm
  · rcases List.mem_append.mp hm with hm | hm
    · exact (ha f hm).2.1 rfl
    · exact h3 hm
theorem mins_run {j : Nat} {σ : L2.St} {R : Bool → Hp → Prop} {lr : Addr} {as : List Addr} {rolls : List RL} (hr : H lr = some (.lst (as.map V.ref))) (hrows : RowsAt H as rolls) (hz : rolls.length ≤ 1000) (hlen : ∀ r ∈ rolls, r.length ≤ 1000) (hne : rolls.map framesOver ≠ [])
    (hw : ∀ x : Option V, wipe ((wipe σ [j]).set j x) [j] = wipe σ [j]) (hj : ∀ x : V, ((wipe σ [j]).set j (some x))[j]? = some (some x))
    (q : ∀ H', Same H H' → R (decide (nV (minL (rolls.map framesOver)) = .int 10)) H') {ti : TE} (hti : ∀ R : VK, R (.ref lr) H → ti σ H R) :
    (tTest (tOp rEq (tCB (rMin K) (tCons (tLc (iList K ti) (gName j) tYes (tCall (sp_frames_over P w K a) [] E0 (tCons (tVar j) tNil)) [j]) tNil)) (tC (.int (10))))) σ H R := by
  unfold tTest tOp tCB tCons
  refine overs_run (j := j) (rolls := rolls) hr hrows hz hlen hw hj (fun H4 p4 s4 hp40 hp4 => ?_) hti
  refine ⟨p4, _, rfl, sqi (lp hp4), by rw [List.length_map]; exact List.length_pos_iff.mpr hne, fun m h1 h2 => ⟨rfl, _, rfl, ?_⟩⟩
  rw [min_nat h1 h2]
  exact q H4 s4
theorem p_Group_roll (T : Txt K mg a) {vs : List V} {Q : VK} {E : XK} (h : sp_Group_roll P w K a vs H Q E) :
    t_Group_roll P w K a E { nx := fun _ H' => Q .non H', rt := Q } (start N_Group_roll vs) H := by
  obtain ⟨L, g, n, rfl, hg0, ⟨hok, htz, hfz, hsz, hsome⟩, q⟩ := h
  refine ⟨_, rfl, L.self, _, _, rfl, hg0.self, rfl, L, g, rfl, hg0, hok, fun H1 s1 => ?_⟩
  have hg := hg0.up s1
  obtain ⟨n1, n2, n3, n4, n5, n6, n7⟩ := GL.nd_rows hg.nd
  have hlt := turn_lt hok.1
  have hra := row_at hlt
  obtain ⟨b, hb, e⟩ := hg.rows.get' hra
  have hbm := List.mem_of_getElem? hb
  obtain ⟨b1, b2, b3, b4⟩ := n3 b hbm
  have hsn := hg.self_not
  have nst : L.self ≠ L.turns := fun z => hsn (by simp [GL.ls, z])
  have nsb : L.self ≠ b := fun z => hsn (by simp [GL.ls, z, hbm])
  refine ⟨_, rfl, _, _, _, _, _, rfl, hg.self, T.c_Group, T.a_Group_rolls, rfl, _, rfl, L.rolls, _, (g.turn : Int), _, rfl, rfl, lp hg.rolls, atI_nat (j := g.turn) (by rw [List.getElem?_map, hb]; rfl), tyLp e, _, rfl, b, _, _, rfl, rfl, e, ?_, ?_⟩
  · rw [nL_length]
    have := hok.2.2 _ (List.mem_of_getElem? hra)
    exact small_line (by omega)
  have en : nL (g.row g.turn) ++ [nV n] = nL (g.row g.turn ++ [n]) := by rw [nL_append]; rfl
  rw [en]
  have hs2 : upd H1 b (.lst (nL (g.row g.turn ++ [n]))) L.self = some (.ins a.CGroup L.dx (gF L g)) := by rw [upd_ne nsb]; exact hg.self
  have ht2 : upd H1 b (.lst (nL (g.row g.turn ++ [n]))) L.turns = some (.lst (nL g.turns)) := by rw [upd_ne (Ne.symm b2)]; exact hg.turns
  refine ⟨_, rfl, _, _, _, _, _, rfl, hs2, T.c_Group, T.a_Group_turns, rfl, tyLp ht2, _, rfl, L.turns, _, _, rfl, rfl, ht2, ?_, ?_⟩
  · rw [nL_length]; exact small_line (by omega)
  have et : nL g.turns ++ [nV g.turn] = nL (g.turns ++ [g.turn]) := by rw [nL_append]; rfl
  rw [et]
  -- the group with the roll
  have hg1 : GroupAt a (upd (upd H1 b (.lst (nL (g.row g.turn ++ [n])))) L.turns (.lst (nL (g.turns ++ [g.turn])))) L { g with rolls := g.put n, turns := g.turns ++ [g.turn] } := by
    have k : ∀ c o, H1 c = some o → c ≠ L.turns → c ≠ b → upd (upd H1 b (.lst (nL (g.row g.turn ++ [n])))) L.turns (.lst (nL (g.turns ++ [g.turn]))) c = some o := fun c o h z1 z2 => by rw [upd_ne z1, upd_ne z2]; exact h
    refine ⟨k _ _ hg.self nst nsb, k _ _ hg.rolls (Ne.symm n4) (Ne.symm b1), ?_, upd_same, k _ _ hg.fin n6 (Ne.symm b3), ?_, hg.nd⟩
    · exact (hg.rows.set n1 hb).same fun c hc o h => by rw [upd_ne (n3 c hc).2.1]; exact h
    · exact hg.frows.same fun c hc o h => k c o h (n7 c hc).2.1 fun z => b4 (z ▸ hc)
  have k1 : Kept (fun c => c ∈ L.fp) H (upd (upd H1 b (.lst (nL (g.row g.turn ++ [n])))) L.turns (.lst (nL (g.turns ++ [g.turn])))) :=
    ((Kept.of s1).put (by simp [GL.fp, GL.ls, hbm]) e rfl).put (by simp [GL.fp, GL.ls]) ht2 rfl
  generalize upd (upd H1 b (.lst (nL (g.row g.turn ++ [n])))) L.turns (.lst (nL (g.turns ++ [g.turn]))) = H3 at hg1 k1
  have hput : (g.put n).length = g.rolls.length := List.length_set
  have hpl : ∀ r ∈ g.put n, r.length ≤ 1000 := fun r hr => by
    rcases List.mem_or_eq_of_mem_set hr with h | h
    · exact Nat.le_trans (hok.2.2 r h) (by omega)
    · rw [h, List.length_append]
      have := hok.2.2 _ (List.mem_of_getElem? hra)
      show _ + 1 ≤ _
      omega
  show (tSeq (tIfS (tTest (tOp rEq (tCB (rMin K) (tCons (tLc (iList K (tFld K (tVar 0) "rolls")) (gName 4) tYes (tCall (sp_frames_over P w K a) [] E0 (tCons (tVar 4) tNil)) [4]) tNil)) (tC (.int (10))))) _ tNext) _) _ _ _
  unfold tSeq tIfS
  have hne2 : (g.put n).map framesOver ≠ [] := fun e => hok.1 (by
    have := List.map_eq_nil_iff.mp e
    exact List.length_eq_zero_iff.mp (by rw [← hput, this]; rfl))
  refine mins_run (j := 4) (rolls := g.put n) hg1.rolls hg1.rows (by rw [hput]; exact hok.2.1) hpl hne2 (fun _ => rfl) (fun _ => rfl) (fun H4 s4 => ?_) fun R h => ⟨_, rfl, _, _, _, _, _, rfl, hg1.self, T.c_Group, T.a_Group_rolls, rfl, h⟩
  have hg4 := hg1.up s4
  have k4 := k1.trans (Kept.of s4)
  refine ite_d (fun c => ?_) (fun c => ?_)
  · have c' : g.ends n = true := by
      unfold Grp.ends
      rw [bq]
      exact decide_eq_true ((nvl (n := 10) rfl).mp c)
    have hso := hsome c'
    refine ⟨_, rfl, _, _, _, _, _, rfl, hg4.self, T.c_Group, T.a_Group_finished, rfl, tyLp hg4.fin, _, rfl, _, _, _, _, _, rfl, hg4.self, T.c_Group, T.a_Group_rolls, rfl, L.rolls, rfl, ⟨_, lp hg4.rolls⟩, ?_⟩
    have hlen : (L.rows.map V.ref).length = (g.put n).length := by rw [List.length_map]; exact hg1.rows.len
    refine lc_out (walk_list (K := K) (a := L.rolls) (xs := L.rows.map V.ref)) (fun i => nL (((g.put n).map scoreSum).take i)) (by rw [hlen, hput]; have := hok.2.1; omega) yat_same (fun H' s => lp (s _ _ hg4.rolls)) rfl (fun i _ => by rw [nL_length]; exact List.length_take_le _ _) (fun i x Ha Hb Qy Qn hi s y qy qn => ?_) fun H5 D s5 hD e5 => ?_
    · obtain ⟨rfl, hx⟩ := y
      obtain ⟨c1, hc1, rfl⟩ := getElem?_map_some hx
      obtain ⟨r, hri, ec⟩ := hg4.rows.get hc1
      have hrm := List.mem_of_getElem? hri
      refine ⟨rfl, yes_if ⟨_, rfl, c1, r, rfl, lp (s _ _ ec), hpl r hrm, fun H6 p6 s6 h6 => ?_⟩⟩
      rw [optV_some (hso r hrm)] at h6
      refine ⟨p6, _, rfl, sqi (lp h6), ?_⟩
      rw [sum_ints]
      exact qy _ H6 s6 (nL_take_succ (by rw [List.getElem?_map, hri]; rfl))
    · have et : ((g.put n).map scoreSum).take (L.rows.map V.ref).length = (g.put n).map scoreSum := by rw [hlen, ← List.length_map (f := scoreSum), List.take_length]
      rw [et] at e5
      have hg5 := hg4.up s5
      have k5 := k4.trans (Kept.of s5)
      have hfl : L.frows.length = g.fin.length := hg0.frows.len
      refine ⟨L.fin, _, _, rfl, rfl, hg5.fin, by rw [List.length_map, hfl]; exact small_line (by omega), ?_⟩
      have fsn : L.self ≠ L.fin := fun z => hsn (by simp [GL.ls, z])
      have nDall : ∀ c ∈ L.fp, c ≠ D := fun c hc z => hg4.none_not hD (z ▸ hc)
      have nDf : D ≠ L.fin := Ne.symm (nDall _ (by simp [GL.fp, GL.ls]))
      have hs6 : upd H5 L.fin (.lst (L.frows.map V.ref ++ [.ref D])) L.self = some (.ins a.CGroup L.dx (gF L { g with rolls := g.put n, turns := g.turns ++ [g.turn] })) := by rw [upd_ne fsn]; exact hg5.self
      have k6 : Kept (fun c => c ∈ L.fp) H (upd H5 L.fin (.lst (L.frows.map V.ref ++ [.ref D]))) := k5.put (by simp [GL.fp, GL.ls]) hg5.fin rfl
      have hD6 : upd H5 L.fin (.lst (L.frows.map V.ref ++ [.ref D])) D = some (.lst (nL ((g.put n).map scoreSum))) := by rw [upd_ne nDf]; exact e5
      have hf6 : RowsAt (upd H5 L.fin (.lst (L.frows.map V.ref ++ [.ref D]))) (L.frows ++ [D]) (g.fin ++ [(g.put n).map scoreSum]) := by
        refine RowsAt.snoc (hg5.frows.same fun c hc o h => ?_) hD6
        rw [upd_ne (n7 c hc).2.2]; exact h
      have hff6 : upd H5 L.fin (.lst (L.frows.map V.ref ++ [.ref D])) L.fin = some (.lst ((L.frows ++ [D]).map V.ref)) := by rw [upd_same, List.map_append]; rfl
      have free6 : ∀ c, upd H5 L.fin (.lst (L.frows.map V.ref ++ [.ref D])) c = none → H c = none := fun c h => k6.free (fun x hx => by
        by_cases z : x = L.fin
        · rw [z, upd_same]; rfl
        · rw [upd_ne z]
          obtain ⟨o, e2, _⟩ := hg5.what hx
          rw [e2]; rfl) h
      have hD0 : H D = none := by
        refine k4.free (fun x hx => ?_) hD
        obtain ⟨o, e2, _⟩ := hg4.what hx
        rw [e2]; rfl
      generalize upd H5 L.fin (.lst (L.frows.map V.ref ++ [.ref D])) = H6 at hs6 k6 hD6 hf6 hff6 free6
      show (tSeq (sFld K (tVar 0) (tLc (iRng1 (tCons (tFld K (tVar 0) "size") tNil)) (gName 3) tYes (tLst tNil) [3]) "rolls") _) _ _ _
      unfold tSeq sFld
      refine empties_run (j := 3) (n := g.size) hsz (fun R h => ⟨_, rfl, _, _, _, _, _, rfl, hs6, T.c_Group, T.a_Group_size, rfl, h⟩) (fun _ => rfl) fun H7 pr as s7 hpr hr nd fr => ?_
      have hs7 := s7 _ _ hs6
      refine ⟨_, rfl, L.self, _, L.dx, _, rfl, hs7, T.c_Group, T.a_Group_rolls, (by decide : 8 < 1000), by decide, fun pt hpt => ?_⟩
      have nspt : L.self ≠ pt := ne_of_none upd_same hpt
      refine ⟨_, rfl, L.self, _, L.dx, _, rfl, (upd_ne nspt).trans upd_same, T.c_Group, T.a_Group_turns, (by decide : 8 < 1000), ?_⟩
      have k7 := k6.trans (Kept.of s7)
      have hpt7 : H7 pt = none := by rw [upd_ne (Ne.symm nspt)] at hpt; exact hpt
      have nps : ∀ c ∈ pr :: as, c ≠ L.self := fun c hc z => by
        have := fr c hc
        rw [z, hs6] at this; cases this
      have there : ∀ c ∈ pr :: as, ∃ o, H7 c = some o := fun c hc => by
        rcases List.mem_cons.mp hc with e | hc
        · exact ⟨_, by rw [e]; exact hpr⟩
        · obtain ⟨l, e⟩ := hr.there hc
          exact ⟨_, e⟩
      have npt : ∀ c ∈ pr :: as, c ≠ pt := fun c hc z => by
        obtain ⟨o, e⟩ := there c hc
        rw [z, hpt7] at e; cases e
      have fold_ne : ∀ c o, H6 c = some o → c ∉ pr :: as := fun c o h hc => by rw [fr c hc] at h; cases h
      have fptne : ∀ c o, H6 c = some o → c ≠ pt := fun c o h z => by
        have := s7 _ _ h
        rw [z, hpt7] at this; cases this
      have fself : ∀ c xs, H6 c = some (.lst xs) → c ≠ L.self := fun c xs h z => by rw [z, hs6] at h; cases h
      refine ⟨_, rfl, q _ ⟨L.self, L.dx, pr, pt, L.fin, as, L.frows ++ [D]⟩ ?_ rfl ?_ ?_⟩
      · have er : g.roll n = { g with rolls := List.replicate g.size [], turns := [], fin := g.fin ++ [(g.put n).map scoreSum] } := by unfold Grp.roll; rw [if_pos c']
        rw [er]
        have keep : ∀ c o, H7 c = some o → c ≠ L.self → c ≠ pt → ∀ f1 f2, upd (upd (upd H7 L.self f1) pt (.lst [])) L.self f2 c = some o := fun c o h z1 z2 f1 f2 => by rw [upd_ne z1, upd_ne z2, upd_ne z1]; exact h
        refine ⟨upd_same, keep _ _ hpr (nps pr List.mem_cons_self) (npt pr List.mem_cons_self) _ _, hr.same fun c hc o h => keep c o h (nps c (List.mem_cons_of_mem _ hc)) (npt c (List.mem_cons_of_mem _ hc)) _ _, ?_, keep _ _ (s7 _ _ hff6) (Ne.symm fsn) (fptne _ _ hff6) _ _, hf6.same fun c hc o h => ?_, ?_⟩
        · rw [upd_ne (Ne.symm nspt), upd_same]; rfl
        · obtain ⟨l, h6⟩ := hf6.there hc
          rw [h] at h6
          cases h6
          exact keep c _ (s7 _ _ h) (fself _ _ h) (fptne _ _ h) _ _
        · show (pr :: pt :: L.fin :: (as ++ (L.frows ++ [D]))).Nodup
          rw [List.nodup_cons] at nd
          have inold : ∀ c ∈ L.frows ++ [D], ∃ xs, H6 c = some (.lst xs) := fun c hc => by
            obtain ⟨l, e⟩ := hf6.there hc
            exact ⟨_, e⟩
          refine nd_mk (List.nodup_cons.mpr nd) ?_ (fun b hb => ⟨npt b hb, fun z => fold_ne _ _ hff6 (z ▸ hb), fun hm => ?_⟩) ⟨fun z => fptne _ _ hff6 z.symm, fun hm => ?_⟩ fun hm => ?_
          · rw [List.nodup_append]
            refine ⟨n2, by simp, ?_⟩
            intro x hx y hy z
            rw [List.mem_singleton.mp hy] at z
            exact nDall x (by simp [GL.fp, GL.ls, hx]) z
          · obtain ⟨xs, e⟩ := inold _ hm
            exact fold_ne _ _ e hb
          · obtain ⟨xs, e⟩ := inold _ hm
            exact fptne _ _ e rfl
          · rcases List.mem_append.mp hm with hm | hm
            · exact (n7 _ hm).2.2 rfl
            · exact nDf (List.mem_singleton.mp hm).symm
      · exact ((k7.put List.mem_cons_self hs7 rfl).new hpt).put List.mem_cons_self ((upd_ne nspt).trans upd_same) rfl
      · intro c hc
        have hc' : c ∈ L.self :: pr :: pt :: L.fin :: (as ++ (L.frows ++ [D])) := hc
        rcases List.mem_cons.mp hc' with z | hc'
        · exact .inl (by rw [z]; exact List.mem_cons_self)
        rcases List.mem_cons.mp hc' with z | hc'
        · exact .inr (free6 c (fr c (by rw [z]; exact List.mem_cons_self)))
        rcases List.mem_cons.mp hc' with z | hc'
        · rw [z]; exact .inr (free6 _ (s7.free hpt7))
        rcases List.mem_cons.mp hc' with z | hc'
        · exact .inl (by rw [z]; simp [GL.fp, GL.ls])
        rcases List.mem_append.mp hc' with hc' | hc'
        · exact .inr (free6 c (fr c (List.mem_cons_of_mem _ hc')))
        rcases List.mem_append.mp hc' with hc' | hc'
        · exact .inl (by simp [GL.fp, GL.ls, hc'])
        · rw [List.mem_singleton.mp hc']; exact .inr hD0
  · have c' : ¬ g.ends n = true := by
      unfold Grp.ends
      rw [bq]
      exact fun z => c ((nvl (n := 10) rfl).mpr (of_decide_eq_true z))
    have er : g.roll n = { g with rolls := g.put n, turns := g.turns ++ [g.turn] } := by unfold Grp.roll; rw [if_neg c']
    refine ⟨_, rfl, q H4 L ?_ rfl k4 fun b hb => .inl hb⟩
    rw [er]; exact hg4
theorem ok_Group_roll {P : Program} {w : World} {K : PySem.W.Frag} {mg : Str → Option Value} {base : Heap} {a : Ad} (T : Txt K mg a) : MetB P w K mg base CX0 5 a.CGroup "roll" (sp_Group_roll P w K a) :=
  MetB.mk0 T.f_Group_roll sc_Group_roll l_Group_roll fun f cdv A outer s H vs Q E hr h => ⟨_, d_Group_roll T (ok_Group_turn T) (ok_frames_over T) (ok_frame_scores T) hr, p_Group_roll T h⟩
end
end Bw

/-! the walk: teams and the league, part one -/
namespace Bw
open PySem PySem.Spec PyProof.Rows L2
structure TL where
  self : Addr
  dx : Addr
  scores : Addr
  rows : List Addr
def TL.ls (L : TL) : List Addr := L.scores :: L.rows
def TL.fp (L : TL) : List Addr := L.self :: L.ls
def tF (L : TL) (t : Tm) : List (Str × V) := [("points", nV t.points), ("scores", .ref L.scores)]
structure TeamAt (a : Ad) (H : Hp) (L : TL) (t : Tm) : Prop where
  self : H L.self = some (.ins a.CTeam L.dx (tF L t))
  scores : H L.scores = some (.lst (L.rows.map V.ref))
  rows : RowsAt H L.rows t.scores
  nd : L.ls.Nodup
structure LL where
  self : Addr
  dx : Addr
  teams : Addr
  ts : List TL
def lF (L : LL) (q : Lg) : List (Str × V) := [("teams", .ref L.teams), ("base", nV q.base), ("percent", nV q.percent), ("matches", nV q.played)]
def LL.fp (L : LL) : List Addr := L.self :: L.teams :: L.ts.flatMap TL.fp
structure LeagueAt (a : Ad) (H : Hp) (L : LL) (q : Lg) : Prop where
  self : H L.self = some (.ins a.CLeague L.dx (lF L q))
  teams : H L.teams = some (.lst (L.ts.map fun T => .ref T.self))
  len : L.ts.length = q.teams.length
  tm : ∀ (i : Nat) (T : TL) (t : Tm), L.ts[i]? = some T → q.teams[i]? = some t → TeamAt a H T t
  dj : ∀ (i j : Nat) (T U : TL), L.ts[i]? = some T → L.ts[j]? = some U → i ≠ j → ∀ b ∈ T.fp, b ∉ U.fp
  nt : ∀ T ∈ L.ts, L.self ∉ T.fp ∧ L.teams ∉ T.fp
section
variable {P : Program} {w : World} {K : PySem.W.Frag} {mg : Str → Option Value} {base : Heap} {a : Ad} {H H' : Hp} {T0 : TL} {t : Tm} {L : LL} {q : Lg}
theorem TeamAt.keep (x : TeamAt a H T0 t) (k : ∀ b ∈ T0.fp, ∀ o, H b = some o → H' b = some o) : TeamAt a H' T0 t :=
  ⟨k _ List.mem_cons_self _ x.self, k _ (by simp [TL.fp, TL.ls]) _ x.scores, x.rows.same fun b hb => k b (by simp [TL.fp, TL.ls, hb]), x.nd⟩
theorem TeamAt.up (x : TeamAt a H T0 t) (s : Same H H') : TeamAt a H' T0 t := x.keep fun b _ o h => s b o h
theorem TeamAt.what (x : TeamAt a H T0 t) {b : Addr} (h : b ∈ T0.fp) : ∃ o, H b = some o ∧ isTup o = false := by
  rcases List.mem_cons.mp h with e | h
  · exact ⟨_, by rw [e]; exact x.self, rfl⟩
  rcases List.mem_cons.mp h with e | h
  · exact ⟨_, by rw [e]; exact x.scores, rfl⟩
  · obtain ⟨l, e⟩ := x.rows.there h
    exact ⟨_, e, rfl⟩
theorem LL.mem_fp {T : TL} (h : T ∈ L.ts) {b : Addr} (hb : b ∈ T.fp) : b ∈ L.fp := by
  unfold LL.fp
  exact List.mem_cons_of_mem _ (List.mem_cons_of_mem _ (List.mem_flatMap.mpr ⟨T, h, hb⟩))
theorem LeagueAt.get (x : LeagueAt a H L q) {i : Nat} {T : TL} (h : L.ts[i]? = some T) : ∃ t, q.teams[i]? = some t ∧ TeamAt a H T t := by
  have hi : i < q.teams.length := by rw [← x.len]; exact (List.getElem?_eq_some_iff.mp h).1
  exact ⟨_, List.getElem?_eq_getElem hi, x.tm i T _ h (List.getElem?_eq_getElem hi)⟩
theorem LeagueAt.get' (x : LeagueAt a H L q) {i : Nat} {t : Tm} (h : q.teams[i]? = some t) : ∃ T, L.ts[i]? = some T ∧ TeamAt a H T t := by
  have hi : i < L.ts.length := by rw [x.len]; exact (List.getElem?_eq_some_iff.mp h).1
  exact ⟨_, List.getElem?_eq_getElem hi, x.tm i _ t (List.getElem?_eq_getElem hi) h⟩
theorem LeagueAt.what (x : LeagueAt a H L q) {b : Addr} (h : b ∈ L.fp) : ∃ o, H b = some o ∧ isTup o = false := by
  rcases List.mem_cons.mp h with e | h
  · exact ⟨_, by rw [e]; exact x.self, rfl⟩
  rcases List.mem_cons.mp h with e | h
  · exact ⟨_, by rw [e]; exact x.teams, rfl⟩
  · obtain ⟨T, hT, hb⟩ := List.mem_flatMap.mp h
    obtain ⟨i, hi⟩ := List.mem_iff_getElem?.mp hT
    obtain ⟨t, _, ta⟩ := x.get hi
    exact ta.what hb
theorem LeagueAt.keep (x : LeagueAt a H L q) (k : ∀ b ∈ L.fp, ∀ o, H b = some o → H' b = some o) : LeagueAt a H' L q :=
  ⟨k _ (by simp [LL.fp]) _ x.self, k _ (by simp [LL.fp]) _ x.teams, x.len, fun i T t h1 h2 => (x.tm i T t h1 h2).keep fun b hb => k b (LL.mem_fp (List.mem_of_getElem? h1) hb), x.dj, x.nt⟩
theorem LeagueAt.up (x : LeagueAt a H L q) (s : Same H H') : LeagueAt a H' L q := x.keep fun b _ o h => s b o h
theorem tm_at {i : Nat} (h : i < q.teams.length) : q.teams[i]? = some (q.tm i) := by
  unfold Lg.tm; rw [List.getD_eq_getElem?_getD, List.getElem?_eq_getElem h]; rfl
theorem trow_at {p : Nat} (h : p < t.scores.length) : t.scores[p]? = some (t.row p) := by
  unfold Tm.row; rw [List.getD_eq_getElem?_getD, List.getElem?_eq_getElem h]; rfl
/-! ### Team() -/
def sp_Team_init (P : Program) (w : World) (K : PySem.W.Frag) (a : Ad) : Sp := fun vs H Q _ => ∃ (x dx : Addr), vs = [.ref x] ∧ H x = some (.ins a.CTeam dx []) ∧
  ∀ H' L, TeamAt a H' L Tm.new → L.self = x → Kept (fun b => b = x) H H' → (∀ b ∈ L.ls, H b = none) → Q .non H'
theorem l_Team_init : ∀ vs H Q E, sp_Team_init P w K a vs H Q E → vs.length = 1 := by
  rintro vs H Q E ⟨x, y, rfl, _⟩; rfl
abbrev s_Team_init : Stmt := inClass (top 22) 0
abbrev N_Team_init : List Str := ["self", "player"]
theorem sc_Team_init : FnScope N_Team_init ["self"] (defScope s_Team_init) := ⟨rfl, rfl, rfl, by decide +kernel, rfl, by decide +kernel, by decide +kernel⟩
def t_Team_init (P : Program) (w : World) (K : PySem.W.Frag) (a : Ad) (E : XK) : TS :=
  (tSeq (sFld K (tVar 0) (tC (.int 0)) "points")
  (sFld K (tVar 0) (tLc (iRng1 (tCons (tC (.int (3))) tNil)) (gName 1) tYes (tLst tNil) [1]) "scores"))
theorem d_Team_init {P : Program} {w : World} {K : PySem.W.Frag} {mg : Str → Option Value} {base : Heap} {a : Ad} (T : Txt K mg a)  {f : Addr} {cdv : Value} {A : Around} {outer : List Env} {s : Shared} {H : Hp} {E : XK}
    (hr : Room 0 (A.deeper (envOfC "Team.__init__" (defScope s_Team_init) s.heap.objs.size f cdv))) : PSs (cxOf CX0 P w K mg base N_Team_init "Team.__init__" (defScope s_Team_init) f cdv A outer s H E).nox (defBody s_Team_init) (t_Team_init P w K a E) :=
  (pss_cons (ps_fld (pv 0) pe_int rfl)
  (pss_one (ps_fld (pv 0) (pe_lc (own := [("player", 1)]) (g := (gName 1)) (tt := tYes) (te := (tLst tNil)) rfl sc_Team_init.nd (pi_range1 rfl T.n_range (pa_cons (pgi T.g_PLAYERS rfl) pa_nil)) (blkOk_by (N := N_Team_init) (sc := (defScope s_Team_init)) (by decide +kernel)) (fun _ _ _ _ _ => (pg_name (i := 1) sc_Team_init.nd rfl (by first | exact Or.inl rfl | exact Or.inr rfl))) (fun _ _ _ _ _ => pts_nil) (fun _ _ _ _ _ => (pe_lst pa_nil))) rfl)))
theorem p_Team_init (T : Txt K mg a) {vs : List V} {Q : VK} {E : XK} (h : sp_Team_init P w K a vs H Q E) :
    t_Team_init P w K a E { nx := fun _ H' => Q .non H', rt := Q } (start N_Team_init vs) H := by
  obtain ⟨x, dx, rfl, hx, q⟩ := h
  refine ⟨_, rfl, x, _, dx, _, rfl, hx, T.c_Team, T.a_Team_points, (by decide : 0 < 1000), ?_⟩
  have k1 : Kept (fun b => b = x) H (upd H x (.ins a.CTeam dx (putF "points" (.int 0) []))) := (Kept.refl _ H).put rfl hx rfl
  show sFld K (tVar 0) (tLc (iRng1 (tCons (tC (.int (3))) tNil)) (gName 1) tYes (tLst tNil) [1]) "scores" _ _ _
  unfold sFld
  refine empties_run (j := 1) (n := 3) (by decide) (fun R h => h) (fun _ => rfl) fun H2 pr as s2 hpr hr nd fr => ?_
  have x2 := s2 _ _ upd_same
  refine ⟨_, rfl, x, _, dx, _, rfl, x2, T.c_Team, T.a_Team_scores, (by decide : 1 < 1000), ?_⟩
  have nx : ∀ b ∈ pr :: as, b ≠ x := fun b hb z => by
    have := fr b hb
    rw [z, upd_same] at this; cases this
  refine q _ ⟨x, dx, pr, as⟩ ⟨upd_same, ?_, hr.same fun b hb o e => ?_, nd⟩ rfl ((k1.trans (Kept.of s2)).put rfl x2 rfl) fun b hb => ?_
  · show upd H2 x _ pr = _
    rw [upd_ne (nx pr List.mem_cons_self)]; exact hpr
  · rw [upd_ne (nx b (List.mem_cons_of_mem _ hb))]; exact e
  · have := fr b hb
    rw [upd_ne (nx b hb)] at this; exact this
theorem ok_Team_init {P : Program} {w : World} {K : PySem.W.Frag} {mg : Str → Option Value} {base : Heap} {a : Ad} (T : Txt K mg a) : MakB P w K mg base CX0 1 "Team" a.CTeam (sp_Team_init P w K a) :=
  MakB.mk0 T.f_Team_init sc_Team_init l_Team_init fun f cdv A outer s H vs Q E hr h => ⟨_, d_Team_init T  hr, p_Team_init T h⟩
/-! ### Team.average -/
def sp_Team_average (P : Program) (w : World) (K : PySem.W.Frag) (a : Ad) : Sp := fun vs H Q _ => ∃ (L : TL) (t : Tm) (p : Nat), vs = [.ref L.self, nV p] ∧ TeamAt a H L t ∧ p < t.scores.length ∧ (t.row p).length < 1000000 ∧ Q (nV (t.average p)) H
theorem l_Team_average : ∀ vs H Q E, sp_Team_average P w K a vs H Q E → vs.length = 2 := by
  rintro vs H Q E ⟨x, y, p, rfl, _⟩; rfl
abbrev s_Team_average : Stmt := inClass (top 22) 1
abbrev N_Team_average : List Str := ["self", "player"]
theorem sc_Team_average : FnScope N_Team_average ["self", "player"] (defScope s_Team_average) := ⟨rfl, rfl, rfl, by decide +kernel, rfl, by decide +kernel, by decide +kernel⟩
def t_Team_average (P : Program) (w : World) (K : PySem.W.Frag) (a : Ad) (E : XK) : TS :=
  (tSeq (tIfS (tTest (tOp rEq (tCB (rLenB K) (tCons (tOp (rIxL K) (tFld K (tVar 0) "scores") (tVar 1)) tNil)) (tC (.int 0)))) (tRet (tC (.int 0))) tNext)
  (tRet (tOp rDivI (tCB (rSum K) (tCons (tOp (rIxL K) (tFld K (tVar 0) "scores") (tVar 1)) tNil)) (tCB (rLenB K) (tCons (tOp (rIxL K) (tFld K (tVar 0) "scores") (tVar 1)) tNil)))))
theorem d_Team_average {P : Program} {w : World} {K : PySem.W.Frag} {mg : Str → Option Value} {base : Heap} {a : Ad} (T : Txt K mg a)  {f : Addr} {cdv : Value} {A : Around} {outer : List Env} {s : Shared} {H : Hp} {E : XK}
    (hr : Room 0 (A.deeper (envOfC "Team.average" (defScope s_Team_average) s.heap.objs.size f cdv))) : PSs (cxOf CX0 P w K mg base N_Team_average "Team.average" (defScope s_Team_average) f cdv A outer s H E).nox (defBody s_Team_average) (t_Team_average P w K a E) :=
  (pss_cons (ps_if (pt_cmpR op_eq (pe_callB call_len (by rfl) T.n_len PySem.boot_len (pa_cons (pe_ix ix_list (pe_fld (pv 0) rfl) (pv 1) (fun _ _ => rfl)) pa_nil)) pe_int (nomark _)) (pss_one (ps_ret pe_int)) pss_nil)
  (pss_one (ps_ret (pe_op op_fdiv (pe_callB (cr_sum rfl) (by rfl) T.n_sum boot_sum2 (pa_cons (pe_ix ix_list (pe_fld (pv 0) rfl) (pv 1) (fun _ _ => rfl)) pa_nil)) (pe_callB call_len (by rfl) T.n_len PySem.boot_len (pa_cons (pe_ix ix_list (pe_fld (pv 0) rfl) (pv 1) (fun _ _ => rfl)) pa_nil))))))
theorem p_Team_average (T : Txt K mg a) {vs : List V} {Q : VK} {E : XK} (h : sp_Team_average P w K a vs H Q E) :
    t_Team_average P w K a E { nx := fun _ H' => Q .non H', rt := Q } (start N_Team_average vs) H := by
  obtain ⟨L, t, p, rfl, ht, hp, hz, q⟩ := h
  obtain ⟨b, hb, e⟩ := ht.rows.get' (trow_at hp)
  have at_ : atI (L.rows.map V.ref) (p : Int) = some (.ref b) := atI_nat (j := p) (by rw [List.getElem?_map, hb]; rfl)
  refine ⟨_, rfl, _, _, _, _, _, rfl, ht.self, T.c_Team, T.a_Team_scores, rfl, _, rfl, L.scores, _, (p : Int), _, rfl, rfl, lp ht.scores, at_, _, _, rfl, .inl ⟨_, lp e, rfl⟩, rfl, _, rfl, ?_⟩
  rw [nL_length]
  refine ite_d (fun c => ?_) (fun c => ?_)
  · have c' := (nvl (n := 0) rfl).mp c
    refine val_of ?_ q
    unfold Tm.average
    rw [if_pos c']; rfl
  · have c' : ¬ (t.row p).length = 0 := fun z => c ((nvl (n := 0) rfl).mpr z)
    refine ⟨_, rfl, _, _, _, _, _, rfl, ht.self, T.c_Team, T.a_Team_scores, rfl, _, rfl, L.scores, _, (p : Int), _, rfl, rfl, lp ht.scores, at_, b, _, rfl, sqi (lp e), _, rfl, _, _, _, _, _, rfl, ht.self, T.c_Team, T.a_Team_scores, rfl, _, rfl, L.scores, _, (p : Int), _, rfl, rfl, lp ht.scores, at_, _, _, rfl, .inl ⟨_, lp e, rfl⟩, _, _, rfl, rfl, ⟨?_, ?_⟩, ?_⟩
    · rw [nL_length]; omega
    · rw [nL_length]; omega
    · refine val_of ?_ q
      rw [nL_length, sum_ints]
      unfold Tm.average
      rw [if_neg c']
      exact congrArg V.int (Int.natCast_ediv _ _).symm
theorem ok_Team_average {P : Program} {w : World} {K : PySem.W.Frag} {mg : Str → Option Value} {base : Heap} {a : Ad} (T : Txt K mg a) : MetB P w K mg base CX0 1 a.CTeam "average" (sp_Team_average P w K a) :=
  MetB.mk0 T.f_Team_average sc_Team_average l_Team_average fun f cdv A outer s H vs Q E hr h => ⟨_, d_Team_average T  hr, p_Team_average T h⟩
/-! ### Team.pins -/
def sp_Team_pins (P : Program) (w : World) (K : PySem.W.Frag) (a : Ad) : Sp := fun vs H Q _ => ∃ (L : TL) (t : Tm), vs = [.ref L.self] ∧ TeamAt a H L t ∧ t.scores.length ≤ 1000 ∧ ∀ H', Same H H' → Q (nV t.pins) H'
theorem l_Team_pins : ∀ vs H Q E, sp_Team_pins P w K a vs H Q E → vs.length = 1 := by
  rintro vs H Q E ⟨x, y, rfl, _⟩; rfl
abbrev s_Team_pins : Stmt := inClass (top 22) 2
abbrev N_Team_pins : List Str := ["self", "row"]
theorem sc_Team_pins : FnScope N_Team_pins ["self"] (defScope s_Team_pins) := ⟨rfl, rfl, rfl, by decide +kernel, rfl, by decide +kernel, by decide +kernel⟩
def t_Team_pins (P : Program) (w : World) (K : PySem.W.Frag) (a : Ad) (E : XK) : TS :=
  (tRet (tCB (rSum K) (tCons (tLc (iList K (tFld K (tVar 0) "scores")) (gName 1) tYes (tCB (rSum K) (tCons (tVar 1) tNil)) [1]) tNil)))
theorem d_Team_pins {P : Program} {w : World} {K : PySem.W.Frag} {mg : Str → Option Value} {base : Heap} {a : Ad} (T : Txt K mg a)  {f : Addr} {cdv : Value} {A : Around} {outer : List Env} {s : Shared} {H : Hp} {E : XK}
    (hr : Room 0 (A.deeper (envOfC "Team.pins" (defScope s_Team_pins) s.heap.objs.size f cdv))) : PSs (cxOf CX0 P w K mg base N_Team_pins "Team.pins" (defScope s_Team_pins) f cdv A outer s H E).nox (defBody s_Team_pins) (t_Team_pins P w K a E) :=
  (pss_one (ps_ret (pe_callB (cr_sum rfl) (by rfl) T.n_sum boot_sum2 (pa_cons (pe_lc (own := [("row", 1)]) (g := (gName 1)) (tt := tYes) (te := (tCB (rSum K) (tCons (tVar 1) tNil))) rfl sc_Team_pins.nd (pi_list (pe_fld (pv 0) rfl)) (blkOk_by (N := N_Team_pins) (sc := (defScope s_Team_pins)) (by decide +kernel)) (fun _ _ _ _ _ => (pg_name (i := 1) sc_Team_pins.nd rfl (by first | exact Or.inl rfl | exact Or.inr rfl))) (fun _ _ _ _ _ => pts_nil) (fun _ _ _ _ _ => (pe_callB (cr_sum rfl) (by rfl) T.n_sum boot_sum2 (pa_cons (pv 1) pa_nil)))) pa_nil))))
theorem p_Team_pins (T : Txt K mg a) {vs : List V} {Q : VK} {E : XK} (h : sp_Team_pins P w K a vs H Q E) :
    t_Team_pins P w K a E { nx := fun _ H' => Q .non H', rt := Q } (start N_Team_pins vs) H := by
  obtain ⟨L, t, rfl, ht, hz, q⟩ := h
  refine ⟨_, rfl, _, _, _, _, _, rfl, ht.self, T.c_Team, T.a_Team_scores, rfl, L.scores, rfl, ⟨_, lp ht.scores⟩, ?_⟩
  have hlen : (L.rows.map V.ref).length = t.scores.length := by rw [List.length_map]; exact ht.rows.len
  refine lc_out (walk_list (K := K) (a := L.scores) (xs := L.rows.map V.ref)) (fun i => nL ((t.scores.map List.sum).take i)) (by rw [hlen]; omega) yat_same (fun H' s => lp (s _ _ ht.scores)) rfl (fun i _ => by rw [nL_length]; exact List.length_take_le _ _) (fun i x Ha Hb Qy Qn hi s y qy qn => ?_) fun H' D s hD e => ?_
  · obtain ⟨rfl, hx⟩ := y
    obtain ⟨b, hb, rfl⟩ := getElem?_map_some hx
    obtain ⟨r, hri, e⟩ := ht.rows.get hb
    refine ⟨rfl, yes_if ⟨_, rfl, b, _, rfl, sqi (lp (s _ _ e)), ?_⟩⟩
    rw [sum_ints]
    exact qy _ _ (Same.refl _) (nL_take_succ (by rw [List.getElem?_map, hri]; rfl))
  · rw [hlen, ← List.length_map (f := List.sum), List.take_length] at e
    refine ⟨D, _, rfl, sqi (lp e), ?_⟩
    rw [sum_ints]
    exact q H' s
theorem ok_Team_pins {P : Program} {w : World} {K : PySem.W.Frag} {mg : Str → Option Value} {base : Heap} {a : Ad} (T : Txt K mg a) : MetB P w K mg base CX0 1 a.CTeam "pins" (sp_Team_pins P w K a) :=
  MetB.mk0 T.f_Team_pins sc_Team_pins l_Team_pins fun f cdv A outer s H vs Q E hr h => ⟨_, d_Team_pins T  hr, p_Team_pins T h⟩
/-! ### points_for -/
def sp_points_for (P : Program) (w : World) (K : PySem.W.Frag) (a : Ad) : Sp := fun vs H Q _ => ∃ (x y : Nat), vs = [nV x, nV y] ∧ ∀ H' p, Same H H' → H' p = some (.tup [nV (ptsFor x y).1, nV (ptsFor x y).2]) → Q (.ref p) H'
theorem l_points_for : ∀ vs H Q E, sp_points_for P w K a vs H Q E → vs.length = 2 := by
  rintro vs H Q E ⟨x, y, rfl, _⟩; rfl
abbrev s_points_for : Stmt := top 23
abbrev N_points_for : List Str := ["one", "other"]
theorem sc_points_for : FnScope N_points_for ["one", "other"] (defScope s_points_for) := ⟨rfl, rfl, rfl, by decide +kernel, rfl, by decide +kernel, by decide +kernel⟩
def t_points_for (P : Program) (w : World) (K : PySem.W.Frag) (a : Ad) (E : XK) : TS :=
  (tSeq (tIfS (tTest (tOp rEq (tVar 0) (tVar 1))) (tRet (tTup (tCons (tC (.int 1)) (tCons (tC (.int 1)) tNil)))) tNext)
  (tRet (tTup (tCons (tOp rMulI (tC (.int 2)) (tCB rInt1 (tCons (tOp rGtI (tVar 0) (tVar 1)) tNil))) (tCons (tOp rMulI (tC (.int 2)) (tCB rInt1 (tCons (tOp rGtI (tVar 1) (tVar 0)) tNil))) tNil)))))
theorem d_points_for {P : Program} {w : World} {K : PySem.W.Frag} {mg : Str → Option Value} {base : Heap} {a : Ad} (T : Txt K mg a)  {f : Addr} {cdv : Value} {A : Around} {outer : List Env} {s : Shared} {H : Hp} {E : XK}
    (hr : Room 0 (A.deeper (envOfC "points_for" (defScope s_points_for) s.heap.objs.size f cdv))) : PSs (cxOf CX0 P w K mg base N_points_for "points_for" (defScope s_points_for) f cdv A outer s H E).nox (defBody s_points_for) (t_points_for P w K a E) :=
  (pss_cons (ps_if (pt_cmpR op_eq (pv 0) (pv 1) (nomark _)) (pss_one (ps_ret (pe_tup (pa_cons pe_int (pa_cons pe_int pa_nil))))) pss_nil)
  (pss_one (ps_ret (pe_tup (pa_cons (pe_op op_mul pe_int (pe_callTy call_int1 (by rfl) T.n_int boot_int2 (pa_cons (pe_cmpR op_gt (pv 0) (pv 1) (nomark _)) pa_nil))) (pa_cons (pe_op op_mul pe_int (pe_callTy call_int1 (by rfl) T.n_int boot_int2 (pa_cons (pe_cmpR op_gt (pv 1) (pv 0) (nomark _)) pa_nil))) pa_nil))))))
theorem twice_lt (x y : Nat) : (2 : Int) * (if decide ((y : Int) < (x : Int)) = true then 1 else 0) = ((2 * b2n (decide (y < x)) : Nat) : Int) := by
  unfold b2n
  by_cases h : y < x
  · rw [decide_eq_true h, decide_eq_true (show (y : Int) < x by omega)]; rfl
  · rw [decide_eq_false h, decide_eq_false (show ¬ (y : Int) < x by omega)]; rfl
theorem p_points_for (T : Txt K mg a) {vs : List V} {Q : VK} {E : XK} (h : sp_points_for P w K a vs H Q E) :
    t_points_for P w K a E { nx := fun _ H' => Q .non H', rt := Q } (start N_points_for vs) H := by
  obtain ⟨x, y, rfl, q⟩ := h
  refine ⟨_, rfl, _, rfl, rfl, _, rfl, ?_⟩
  refine ite_d (fun c => ?_) (fun c => ?_)
  · have c' : x = y := nV_inj.mp c
    refine ⟨le2, fun p hp => q _ p (same_upd hp) ?_⟩
    unfold ptsFor
    rw [upd_same, if_pos c']; rfl
  · have c' : ¬ x = y := fun z => c (nV_inj.mpr z)
    refine ⟨_, rfl, _, rfl, _, _, rfl, rfl, .inr ⟨_, rfl, _, _, rfl, rfl, .inl ⟨by decide, by decide⟩, _, rfl, _, rfl, _, _, rfl, rfl, .inr ⟨_, rfl, _, _, rfl, rfl, .inl ⟨by decide, by decide⟩, le2, fun p hp => q _ p (same_upd hp) ?_⟩⟩⟩
    unfold ptsFor
    rw [upd_same, if_neg c']
    show some (HO.tup [V.int _, V.int _]) = some (HO.tup [V.int _, V.int _])
    rw [twice_lt, twice_lt]
theorem ok_points_for {P : Program} {w : World} {K : PySem.W.Frag} {mg : Str → Option Value} {base : Heap} {a : Ad} (T : Txt K mg a) : CalB P w K mg base CX0 1 "points_for" (sp_points_for P w K a) :=
  CalB.mk0 T.f_points_for sc_points_for l_points_for fun f cdv A outer s H vs Q E hr h => ⟨_, d_points_for T  hr, p_points_for T h⟩
/-! ### League.allowance -/
def sp_League_allowance (P : Program) (w : World) (K : PySem.W.Frag) (a : Ad) : Sp := fun vs H Q _ => ∃ (L : LL) (q : Lg) (t p : Nat), vs = [.ref L.self, nV t, nV p] ∧ LeagueAt a H L q ∧ LgOk q ∧ t < q.teams.length ∧ p < 3 ∧ Q (nV (q.allowance t p)) H
theorem l_League_allowance : ∀ vs H Q E, sp_League_allowance P w K a vs H Q E → vs.length = 3 := by
  rintro vs H Q E ⟨x, y, t, p, rfl, _⟩; rfl
abbrev s_League_allowance : Stmt := inClass (top 24) 1
abbrev N_League_allowance : List Str := ["self", "team", "player", "there"]
theorem sc_League_allowance : FnScope N_League_allowance ["self", "team", "player"] (defScope s_League_allowance) := ⟨rfl, rfl, rfl, by decide +kernel, rfl, by decide +kernel, by decide +kernel⟩
def t_League_allowance (P : Program) (w : World) (K : PySem.W.Frag) (a : Ad) (E : XK) : TS :=
  (tSeq (tAsg (tOp (rIxL K) (tFld K (tVar 0) "teams") (tVar 1)) (gName 3))
  (tSeq (tIfS (tTest (tOp rEq (tCB (rLenB K) (tCons (tOp (rIxL K) (tFld K (tVar 3) "scores") (tVar 2)) tNil)) (tC (.int 0)))) (tRet (tC (.int 0))) tNext)
  (tRet (tOp rDivI (tOp rMulI (tCB rMax2 (tCons (tC (.int 0)) (tCons (tOp rSubI (tFld K (tVar 0) "base") (tMeth a.CTeam "average" (sp_Team_average P w K a) [] E0 (tVar 3) (tCons (tVar 2) tNil))) tNil))) (tFld K (tVar 0) "percent")) (tC (.int (100)))))))
theorem d_League_allowance {P : Program} {w : World} {K : PySem.W.Frag} {mg : Str → Option Value} {base : Heap} {a : Ad} (T : Txt K mg a) (c_Team_average : MetB P w K mg base CX0 1 a.CTeam "average" (sp_Team_average P w K a)) {f : Addr} {cdv : Value} {A : Around} {outer : List Env} {s : Shared} {H : Hp} {E : XK}
    (hr : Room 1 (A.deeper (envOfC "League.allowance" (defScope s_League_allowance) s.heap.objs.size f cdv))) : PSs (cxOf CX0 P w K mg base N_League_allowance "League.allowance" (defScope s_League_allowance) f cdv A outer s H E).nox (defBody s_League_allowance) (t_League_allowance P w K a E) :=
  (pss_cons (ps_set (i := 3) sc_League_allowance.nd rfl (by first | exact Or.inl rfl | exact Or.inr rfl) (pe_ix ix_list (pe_fld (pv 0) rfl) (pv 1) (fun _ _ => rfl)))
  (pss_cons (ps_if (pt_cmpR op_eq (pe_callB call_len (by rfl) T.n_len PySem.boot_len (pa_cons (pe_ix ix_list (pe_fld (pv 3) rfl) (pv 2) (fun _ _ => rfl)) pa_nil)) pe_int (nomark _)) (pss_one (ps_ret pe_int)) pss_nil)
  (pss_one (ps_ret (pe_op op_fdiv (pe_op op_mul (pe_callB (call_max2 rfl) (by rfl) T.n_max boot_max2 (pa_cons pe_int (pa_cons (pe_op op_sub (pe_fld (pv 0) rfl) (pm c_Team_average hr (by decide) pass0 (pv 3) (pa_cons (pv 2) pa_nil))) pa_nil))) (pe_fld (pv 0) rfl)) (pgi T.g_HUNDRED rfl))))))
theorem max_sub (b v : Nat) : (if (b : Int) - (v : Int) > 0 then (b : Int) - (v : Int) else 0) = ((b - v : Nat) : Int) := by
  split <;> omega
theorem p_League_allowance (T : Txt K mg a) {vs : List V} {Q : VK} {E : XK} (h : sp_League_allowance P w K a vs H Q E) :
    t_League_allowance P w K a E { nx := fun _ H' => Q .non H', rt := Q } (start N_League_allowance vs) H := by
  obtain ⟨L, q, t, p, rfl, hl, ok, ht, hp, qq⟩ := h
  have hta := tm_at ht
  obtain ⟨U, hU, hu⟩ := hl.get' hta
  have hmem := List.mem_of_getElem? hta
  have h3 := ok.three _ hmem
  have hp' : p < (q.tm t).scores.length := by rw [h3]; exact hp
  have hrow := trow_at hp'
  have hz := ok.rows _ hmem _ (List.mem_of_getElem? hrow)
  obtain ⟨b, hb, e⟩ := hu.rows.get' hrow
  have at_ : atI (U.rows.map V.ref) (p : Int) = some (.ref b) := atI_nat (j := p) (by rw [List.getElem?_map, hb]; rfl)
  have atT : atI (L.ts.map fun T => V.ref T.self) (t : Int) = some (.ref U.self) := atI_nat (j := t) (by rw [List.getElem?_map, hU]; rfl)
  refine ⟨_, rfl, _, _, _, _, _, rfl, hl.self, T.c_League, T.a_League_teams, rfl, _, rfl, L.teams, _, (t : Int), _, rfl, rfl, lp hl.teams, atT, ?_⟩
  refine ⟨_, rfl, _, _, _, _, _, rfl, hu.self, T.c_Team, T.a_Team_scores, rfl, _, rfl, U.scores, _, (p : Int), _, rfl, rfl, lp hu.scores, at_, _, _, rfl, .inl ⟨_, lp e, rfl⟩, rfl, _, rfl, ?_⟩
  rw [nL_length]
  refine ite_d (fun c => ?_) (fun c => ?_)
  · have c' := (nvl (n := 0) rfl).mp c
    refine val_of ?_ qq
    unfold Lg.allowance
    rw [if_pos c']; rfl
  · have c' : ¬ ((q.tm t).row p).length = 0 := fun z => c ((nvl (n := 0) rfl).mpr z)
    refine ⟨_, rfl, _, _, _, _, _, rfl, hl.self, T.c_League, T.a_League_base, rfl, _, rfl, U.self, _, _, rfl, hu.self, rfl, _, rfl, U, q.tm t, p, rfl, hu, hp', by omega, _, _, rfl, rfl, _, _, rfl, _, rfl, _, _, _, _, _, rfl, hl.self, T.c_League, T.a_League_percent, rfl, _, _, rfl, rfl, .inr ?_, _, _, rfl, rfl, ⟨by decide, by decide⟩, ?_⟩
    · have := ok.percent
      exact ⟨by omega, by omega⟩
    · refine val_of ?_ qq
      unfold Lg.allowance
      rw [if_neg c']
      show V.int ((if (q.base : Int) - ((q.tm t).average p : Nat) > 0 then (q.base : Int) - ((q.tm t).average p : Nat) else 0) * (q.percent : Int) / 100) = V.int (((q.base - (q.tm t).average p) * q.percent / 100 : Nat) : Int)
      rw [max_sub, Int.natCast_ediv, Int.natCast_mul]; rfl
theorem ok_League_allowance {P : Program} {w : World} {K : PySem.W.Frag} {mg : Str → Option Value} {base : Heap} {a : Ad} (T : Txt K mg a) : MetB P w K mg base CX0 2 a.CLeague "allowance" (sp_League_allowance P w K a) :=
  MetB.mk0 T.f_League_allowance sc_League_allowance l_League_allowance fun f cdv A outer s H vs Q E hr h => ⟨_, d_League_allowance T (ok_Team_average T) hr, p_League_allowance T h⟩
end
end Bw

/-! the walk: the league, part two -/
namespace Bw
open PySem PySem.Spec PyProof.Rows L2
section
variable {P : Program} {w : World} {K : PySem.W.Frag} {mg : Str → Option Value} {base : Heap} {a : Ad} {H H' : Hp} {T0 : TL} {t : Tm} {L : LL} {q : Lg}
/-- what a new instance's making leaves as it was -/
theorem made_kept {T : Addr → Prop} {H H1 : Hp} {x dx C : Addr} (nx : H x = none) (nd : H dx = none) (k : Kept (fun b => b = x) (upd (upd H dx (.own x)) x (.ins C dx [])) H1) : Same H H1 := fun b o e => by
  have h1 : b ≠ x := ne_of_none e nx
  have h2 : b ≠ dx := ne_of_none e nd
  exact k b o (by rw [upd_ne h1, upd_ne h2]; exact e) fun z => absurd z h1
theorem made_free {H : Hp} {x dx C b : Addr} (h : upd (upd H dx (.own x)) x (.ins C dx []) b = none) : H b = none := by
  by_cases c : b = x
  · rw [c, upd_same] at h; cases h
  · rw [upd_ne c] at h
    by_cases c2 : b = dx
    · rw [c2, upd_same] at h; cases h
    · rw [upd_ne c2] at h; exact h
theorem walk_nat {n : Nat} : Walk (Itr 0 n) n (fun _ => True) (YFn nV) := walk_range.mono (fun _ h => h) fun i H x H' _ _ y => ⟨y.1, by rw [y.2]; show V.int (0 + (i : Int)) = V.int (i : Int); rw [Int.zero_add]⟩
/-! ### League(teams, base, percent) -/
def sp_League_init (P : Program) (w : World) (K : PySem.W.Frag) (a : Ad) : Sp := fun vs H Q _ => ∃ (x dx : Addr) (n b r : Nat), vs = [.ref x, nV n, nV b, nV r] ∧ n ≤ 1000 ∧ H x = some (.ins a.CLeague dx []) ∧
  ∀ H' L, LeagueAt a H' L (Lg.new n b r) → L.self = x → Kept (fun b => b = x) H H' → (∀ b ∈ L.fp, b = x ∨ H b = none) → Q .non H'
theorem l_League_init : ∀ vs H Q E, sp_League_init P w K a vs H Q E → vs.length = 4 := by
  rintro vs H Q E ⟨x, y, n, b, r, rfl, _⟩; rfl
abbrev s_League_init : Stmt := inClass (top 24) 0
abbrev N_League_init : List Str := ["self", "teams", "base", "percent", "team"]
theorem sc_League_init : FnScope N_League_init ["self", "teams", "base", "percent"] (defScope s_League_init) := ⟨rfl, rfl, rfl, by decide +kernel, rfl, by decide +kernel, by decide +kernel⟩
def t_League_init (P : Program) (w : World) (K : PySem.W.Frag) (a : Ad) (E : XK) : TS :=
  (tSeq (sFld K (tVar 0) (tLc (iRng1 (tCons (tVar 1) tNil)) (gName 4) tYes (tMake a.CTeam (sp_Team_init P w K a) [] E0 tNil) [4]) "teams")
  (tSeq (sFld K (tVar 0) (tVar 2) "base")
  (tSeq (sFld K (tVar 0) (tVar 3) "percent")
  (sFld K (tVar 0) (tC (.int 0)) "matches"))))
theorem d_League_init {P : Program} {w : World} {K : PySem.W.Frag} {mg : Str → Option Value} {base : Heap} {a : Ad} (T : Txt K mg a) (c_Team_init : MakB P w K mg base CX0 1 "Team" a.CTeam (sp_Team_init P w K a)) {f : Addr} {cdv : Value} {A : Around} {outer : List Env} {s : Shared} {H : Hp} {E : XK}
    (hr : Room 2 (A.deeper (envOfC "League.__init__" (defScope s_League_init) s.heap.objs.size f cdv))) : PSs (cxOf CX0 P w K mg base N_League_init "League.__init__" (defScope s_League_init) f cdv A outer s H E).nox (defBody s_League_init) (t_League_init P w K a E) :=
  (pss_cons (ps_fld (pv 0) (pe_lc (own := [("team", 4)]) (g := (gName 4)) (tt := tYes) (te := (tMake a.CTeam (sp_Team_init P w K a) [] E0 tNil)) rfl sc_League_init.nd (pi_range1 rfl T.n_range (pa_cons (pv 1) pa_nil)) (blkOk_by (N := N_League_init) (sc := (defScope s_League_init)) (by decide +kernel)) (fun _ _ _ _ _ => (pg_name (i := 4) sc_League_init.nd rfl (by first | exact Or.inl rfl | exact Or.inr rfl))) (fun _ _ _ _ _ => pts_nil) (fun _ _ _ _ _ => (pk0 c_Team_init hr (by decide) pass0 rfl))) rfl)
  (pss_cons (ps_fld (pv 0) (pv 2) rfl)
  (pss_cons (ps_fld (pv 0) (pv 3) rfl)
  (pss_one (ps_fld (pv 0) pe_int rfl)))))
theorem p_League_init (T : Txt K mg a) {vs : List V} {Q : VK} {E : XK} (h : sp_League_init P w K a vs H Q E) :
    t_League_init P w K a E { nx := fun _ H' => Q .non H', rt := Q } (start N_League_init vs) H := by
  obtain ⟨x, dx, n, b, r, rfl, hz, hx, q⟩ := h
  refine ⟨_, rfl, _, rfl, by omega, by omega, ?_⟩
  rw [Int.toNat_natCast]
  intro Dn hD
  have nDx : Dn ≠ x := fun z => by rw [z, hx] at hD; cases hD
  refine lc_range (fun i H1 => ∃ ts : List TL, Same H H1 ∧ H1 Dn = some (.lst (ts.map fun T => V.ref T.self)) ∧ ts.length = i ∧ (∀ T ∈ ts, TeamAt a H1 T Tm.new) ∧ (∀ T ∈ ts, ∀ b ∈ T.fp, H b = none ∧ b ≠ Dn) ∧
      ∀ (i j : Nat) (T U : TL), ts[i]? = some T → ts[j]? = some U → i ≠ j → ∀ b ∈ T.fp, b ∉ U.fp) ⟨[], same_upd hD, upd_same, rfl, by simp, by simp, by simp⟩ (fun i H1 hi gi => ?_) fun H1 gi => ?_
  · obtain ⟨ts, s1, hd, hlen, hta, hfr, hdj⟩ := gi
    refine ⟨rfl, yes_if fun y dy hy hdy ndy => ⟨y, dy, rfl, upd_same, fun H2 U hu eU k2 fr2 => ⟨rfl, ?_⟩⟩⟩
    subst eU
    have s2 : Same H1 H2 := made_kept (T := fun _ => False) hy hdy k2
    have hd2 := s2 _ _ hd
    have fU : ∀ b ∈ U.fp, H1 b = none := fun b hb => by
      rcases List.mem_cons.mp hb with e | hb
      · rw [e]; exact hy
      · exact made_free (fr2 b hb)
    have nDU : ∀ b ∈ U.fp, b ≠ Dn := fun b hb z => by
      have := fU b hb
      rw [z, hd] at this; cases this
    refine ⟨_, hd2, by rw [List.length_map, hlen]; exact small_line (by omega), ts ++ [U], same_put (o' := .lst []) (s1.trans s2) hD, ?_, ?_, ?_, ?_, ?_⟩
    · rw [upd_same, List.map_append]; rfl
    · rw [List.length_append, hlen]; rfl
    · intro V1 hV
      rcases List.mem_append.mp hV with hV | hV
      · exact (hta V1 hV).keep fun b hb o e => by rw [upd_ne (hfr V1 hV b hb).2]; exact s2 _ _ e
      · rw [List.mem_singleton.mp hV]
        exact hu.keep fun b hb o e => by rw [upd_ne (nDU b hb)]; exact e
    · intro V1 hV c hc
      rcases List.mem_append.mp hV with hV | hV
      · exact hfr V1 hV c hc
      · rw [List.mem_singleton.mp hV] at hc
        exact ⟨s1.free (fU c hc), nDU c hc⟩
    · -- the new team shares nothing with the earlier ones
      have apart : ∀ V1 ∈ ts, ∀ c ∈ V1.fp, c ∉ U.fp := fun V1 hV c hc hu2 => by
        obtain ⟨o, e, _⟩ := (hta V1 hV).what hc
        rw [fU c hu2] at e; cases e
      intro i2 j2 T U2 h1 h2 hne c hc hc2
      rcases Nat.lt_or_ge i2 ts.length with q1 | q1
      · rw [List.getElem?_append_left q1] at h1
        rcases Nat.lt_or_ge j2 ts.length with q2 | q2
        · rw [List.getElem?_append_left q2] at h2
          exact hdj i2 j2 T U2 h1 h2 hne c hc hc2
        · rw [List.getElem?_append_right q2] at h2
          have := List.mem_of_getElem? h2
          rw [List.mem_singleton.mp this] at hc2
          exact apart T (List.mem_of_getElem? h1) c hc hc2
      · rw [List.getElem?_append_right q1] at h1
        have h1' := List.mem_of_getElem? h1
        rw [List.mem_singleton.mp h1'] at hc
        rcases Nat.lt_or_ge j2 ts.length with q2 | q2
        · rw [List.getElem?_append_left q2] at h2
          exact apart U2 (List.mem_of_getElem? h2) c hc2 hc
        · have b1 : i2 - ts.length = 0 := by
            have := (List.getElem?_eq_some_iff.mp h1).1
            rw [List.length_singleton] at this; omega
          rw [List.getElem?_append_right q2] at h2
          have b2 : j2 - ts.length = 0 := by
            have := (List.getElem?_eq_some_iff.mp h2).1
            rw [List.length_singleton] at this; omega
          omega
  · obtain ⟨ts, s1, hd, hlen, hta, hfr, hdj⟩ := gi
    have x1 := s1 _ _ hx
    refine ⟨_, rfl, x, _, dx, _, rfl, x1, T.c_League, T.a_League_teams, (by decide : 0 < 1000), ?_⟩
    refine ⟨_, rfl, _, rfl, x, _, dx, _, rfl, upd_same, T.c_League, T.a_League_base, (by decide : 1 < 1000), ?_⟩
    refine ⟨_, rfl, _, rfl, x, _, dx, _, rfl, upd_same, T.c_League, T.a_League_percent, (by decide : 2 < 1000), ?_⟩
    refine ⟨_, rfl, x, _, dx, _, rfl, upd_same, T.c_League, T.a_League_matches, (by decide : 3 < 1000), ?_⟩
    rw [upd_upd, upd_upd, upd_upd]
    have nfx : ∀ T ∈ ts, ∀ b ∈ T.fp, b ≠ x := fun T hT b hb z => by
      have := (hfr T hT b hb).1
      rw [z, hx] at this; cases this
    refine q _ ⟨x, dx, Dn, ts⟩ ⟨upd_same, ?_, ?_, ?_, hdj, ?_⟩ rfl ((Kept.of s1).put rfl x1 rfl) ?_
    · rw [upd_ne nDx]; exact hd
    · show ts.length = (List.replicate n Tm.new).length
      rw [hlen, List.length_replicate]
    · intro i T t h1 h2
      have e : t = Tm.new := List.eq_of_mem_replicate (List.mem_of_getElem? h2)
      have hT := List.mem_of_getElem? h1
      rw [e]
      exact (hta T hT).keep fun b hb o e => by rw [upd_ne (nfx T hT b hb)]; exact e
    · exact fun T hT => ⟨fun hb => nfx T hT _ hb rfl, fun hb => (hfr T hT _ hb).2 rfl⟩
    · intro b hb
      rcases List.mem_cons.mp hb with e | hb
      · exact .inl e
      rcases List.mem_cons.mp hb with e | hb
      · rw [e]; exact .inr hD
      · obtain ⟨T, hT, hb⟩ := List.mem_flatMap.mp hb
        exact .inr (hfr T hT b hb).1
theorem ok_League_init {P : Program} {w : World} {K : PySem.W.Frag} {mg : Str → Option Value} {base : Heap} {a : Ad} (T : Txt K mg a) : MakB P w K mg base CX0 3 "League" a.CLeague (sp_League_init P w K a) :=
  MakB.mk0 T.f_League_init sc_League_init l_League_init fun f cdv A outer s H vs Q E hr h => ⟨_, d_League_init T (ok_Team_init T) hr, p_League_init T h⟩
/-! ### League.totals -/
/-- score rows of a match: they lie there, three numbers at least in each -/
structure MatchAt (H : Hp) (s : Addr) (as : List Addr) (rows : List (List Nat)) : Prop where
  lst : H s = some (.lst (as.map V.ref))
  lay : RowsAt H as rows
  len : rows.length ≤ 1000
  three : ∀ r ∈ rows, 3 ≤ r.length
theorem MatchAt.keep {s : Addr} {as : List Addr} {rows : List (List Nat)} (x : MatchAt H s as rows) (k : ∀ b, (b = s ∨ b ∈ as) → ∀ o, H b = some o → H' b = some o) : MatchAt H' s as rows :=
  ⟨k _ (.inl rfl) _ x.lst, x.lay.same fun b hb => k b (.inr hb), x.len, x.three⟩
theorem MatchAt.up {s : Addr} {as : List Addr} {rows : List (List Nat)} (x : MatchAt H s as rows) (z : Same H H') : MatchAt H' s as rows := x.keep fun b _ o h => z b o h
def sp_League_totals (P : Program) (w : World) (K : PySem.W.Frag) (a : Ad) : Sp := fun vs H Q _ => ∃ (L : LL) (q : Lg) (t : Nat) (s : Addr) (as : List Addr) (rows : List (List Nat)), vs = [.ref L.self, nV t, .ref s] ∧ LeagueAt a H L q ∧ LgOk q ∧ t < q.teams.length ∧ MatchAt H s as rows ∧
  ∀ H' p, Same H H' → H' p = some (.lst (nL (q.totals t rows))) → Q (.ref p) H'
theorem l_League_totals : ∀ vs H Q E, sp_League_totals P w K a vs H Q E → vs.length = 3 := by
  rintro vs H Q E ⟨x, y, n, b, r, _, rfl, _⟩; rfl
abbrev s_League_totals : Stmt := inClass (top 24) 2
abbrev N_League_totals : List Str := ["self", "team", "scores", "more", "game", "player", "row"]
theorem sc_League_totals : FnScope N_League_totals ["self", "team", "scores"] (defScope s_League_totals) := ⟨rfl, rfl, rfl, by decide +kernel, rfl, by decide +kernel, by decide +kernel⟩
def t_League_totals (P : Program) (w : World) (K : PySem.W.Frag) (a : Ad) (E : XK) : TS :=
  (tSeq (tAsg (tCB (rSum K) (tCons (tLc (iRng1 (tCons (tC (.int (3))) tNil)) (gName 5) tYes (tMeth a.CLeague "allowance" (sp_League_allowance P w K a) [] E0 (tVar 0) (tCons (tVar 1) (tCons (tVar 5) tNil))) [5]) tNil)) (gName 3))
  (tRet (tLc (iRng1 (tCons (tC (.int (3))) tNil)) (gName 4) tYes (tOp rAddI (tVar 3) (tCB (rSum K) (tCons (tLc (iList K (tVar 2)) (gName 6) tYes (tOp (rIxL K) (tVar 6) (tVar 4)) [6]) tNil))) [4])))
theorem d_League_totals {P : Program} {w : World} {K : PySem.W.Frag} {mg : Str → Option Value} {base : Heap} {a : Ad} (T : Txt K mg a) (c_League_allowance : MetB P w K mg base CX0 2 a.CLeague "allowance" (sp_League_allowance P w K a)) {f : Addr} {cdv : Value} {A : Around} {outer : List Env} {s : Shared} {H : Hp} {E : XK}
    (hr : Room 2 (A.deeper (envOfC "League.totals" (defScope s_League_totals) s.heap.objs.size f cdv))) : PSs (cxOf CX0 P w K mg base N_League_totals "League.totals" (defScope s_League_totals) f cdv A outer s H E).nox (defBody s_League_totals) (t_League_totals P w K a E) :=
  (pss_cons (ps_set (i := 3) sc_League_totals.nd rfl (by first | exact Or.inl rfl | exact Or.inr rfl) (pe_callB (cr_sum rfl) (by rfl) T.n_sum boot_sum2 (pa_cons (pe_lc (own := [("player", 5)]) (g := (gName 5)) (tt := tYes) (te := (tMeth a.CLeague "allowance" (sp_League_allowance P w K a) [] E0 (tVar 0) (tCons (tVar 1) (tCons (tVar 5) tNil)))) rfl sc_League_totals.nd (pi_range1 rfl T.n_range (pa_cons (pgi T.g_PLAYERS rfl) pa_nil)) (blkOk_by (N := N_League_totals) (sc := (defScope s_League_totals)) (by decide +kernel)) (fun _ _ _ _ _ => (pg_name (i := 5) sc_League_totals.nd rfl (by first | exact Or.inl rfl | exact Or.inr rfl))) (fun _ _ _ _ _ => pts_nil) (fun _ _ _ _ _ => (pm c_League_allowance hr (by decide) pass0 (pv 0) (pa_cons (pv 1) (pa_cons (pv 5) pa_nil))))) pa_nil)))
  (pss_one (ps_ret (pe_lc (own := [("game", 4)]) (g := (gName 4)) (tt := tYes) (te := (tOp rAddI (tVar 3) (tCB (rSum K) (tCons (tLc (iList K (tVar 2)) (gName 6) tYes (tOp (rIxL K) (tVar 6) (tVar 4)) [6]) tNil)))) rfl sc_League_totals.nd (pi_range1 rfl T.n_range (pa_cons (pgi T.g_GAMES rfl) pa_nil)) (blkOk_by (N := N_League_totals) (sc := (defScope s_League_totals)) (by decide +kernel)) (fun _ _ _ _ _ => (pg_name (i := 4) sc_League_totals.nd rfl (by first | exact Or.inl rfl | exact Or.inr rfl))) (fun _ _ _ _ _ => pts_nil) (fun _ _ _ _ _ => (pe_op op_add (pv 3) (pe_callB (cr_sum rfl) (by rfl) T.n_sum boot_sum2 (pa_cons (pe_lc (own := [("row", 6)]) (g := (gName 6)) (tt := tYes) (te := (tOp (rIxL K) (tVar 6) (tVar 4))) rfl sc_League_totals.nd (pi_list (pv 2)) (blkOk_by (N := N_League_totals) (sc := (relS _ (defScope s_League_totals))) (by decide +kernel)) (fun _ _ _ _ _ => (pg_name (i := 6) sc_League_totals.nd rfl (by first | exact Or.inl rfl | exact Or.inr rfl))) (fun _ _ _ _ _ => pts_nil) (fun _ _ _ _ _ => (pe_ix ix_list (pv 6) (pv 4) (fun _ _ => rfl)))) pa_nil))))))))
theorem range_take_succ {α : Type} {f : Nat → α} {n i : Nat} (h : i < n) : ((List.range n).map f).take (i + 1) = ((List.range n).map f).take i ++ [f i] := by
  refine take_snoc ?_
  rw [List.getElem?_map, List.getElem?_range h]; rfl
theorem range_take_len {α : Type} {f : Nat → α} {n : Nat} : ((List.range n).map f).take n = (List.range n).map f := by
  rw [List.take_of_length_le (by rw [List.length_map, List.length_range]; exact Nat.le_refl _)]
theorem p_League_totals (T : Txt K mg a) {vs : List V} {Q : VK} {E : XK} (h : sp_League_totals P w K a vs H Q E) :
    t_League_totals P w K a E { nx := fun _ H' => Q .non H', rt := Q } (start N_League_totals vs) H := by
  obtain ⟨L, q, t, s, as, rows, rfl, hl, ok, ht, hm, qq⟩ := h
  refine ⟨3, rfl, by decide, by decide, ?_⟩
  refine lc_out (walk_nat (n := 3)) (fun i => nL (((List.range 3).map fun p => q.allowance t p).take i)) (by decide) yfn_same (fun _ _ => trivial) rfl (fun i _ => by rw [nL_length]; exact List.length_take_le _ _) (fun i x Ha Hb Qy Qn hi sa y qy qn => ?_) fun H1 D s1 hD e1 => ?_
  · obtain ⟨rfl, rfl⟩ := y
    refine ⟨rfl, yes_if ⟨_, rfl, L.self, _, _, rfl, (hl.up sa).self, rfl, _, rfl, _, rfl, L, q, t, i, rfl, hl.up sa, ok, ht, hi, ?_⟩⟩
    refine qy _ _ (Same.refl _) ?_
    rw [range_take_succ hi, nL_append]; rfl
  · rw [range_take_len] at e1
    refine ⟨D, _, rfl, sqi (lp e1), ?_⟩
    rw [sum_ints]
    refine ⟨3, rfl, by decide, by decide, ?_⟩
    have hm1 := hm.up s1
    refine lc_out (walk_nat (n := 3)) (fun i => nL ((q.totals t rows).take i)) (by decide) yfn_same (fun _ _ => trivial) rfl (fun i _ => by rw [nL_length]; exact List.length_take_le _ _) (fun i x Ha Hb Qy Qn hi sa y qy qn => ?_) fun H2 D2 s2 hD2 e2 => ?_
    · obtain ⟨rfl, rfl⟩ := y
      have hma := hm1.up sa
      refine ⟨rfl, yes_if ⟨_, rfl, _, rfl, s, rfl, ⟨_, lp hma.lst⟩, ?_⟩⟩
      have hlen : (as.map V.ref).length = rows.length := by rw [List.length_map]; exact hm.lay.len
      refine lc_out (walk_list (K := K) (a := s) (xs := as.map V.ref)) (fun k => nL ((rows.map fun r => r.getD i 0).take k)) (by rw [hlen]; have := hm.len; omega) yat_same (fun H' z => lp (z _ _ hma.lst)) rfl (fun k _ => by rw [nL_length]; exact List.length_take_le _ _) (fun k x Hc Hd Qz Qn hk sc y qz qn => ?_) fun H3 D3 s3 hD3 e3 => ?_
      · obtain ⟨rfl, hx⟩ := y
        obtain ⟨b, hb, rfl⟩ := getElem?_map_some hx
        obtain ⟨r, hri, e⟩ := hma.lay.get hb
        have hrl := hm.three r (List.mem_of_getElem? hri)
        have hri2 : r[i]? = some (r.getD i 0) := by
          rw [List.getD_eq_getElem?_getD, List.getElem?_eq_getElem (by omega)]; rfl
        refine ⟨rfl, yes_if ⟨_, rfl, _, rfl, b, nL r, (i : Int), nV (r.getD i 0), rfl, rfl, lp (sc _ _ e), atI_nat (j := i) ?_, qz _ _ (Same.refl _) ?_⟩⟩
        · unfold nL; rw [List.getElem?_map, hri2]; rfl
        · exact nL_take_succ (by rw [List.getElem?_map, hri]; rfl)
      · rw [hlen, ← List.length_map (f := fun r : List Nat => r.getD i 0), List.take_length] at e3
        refine ⟨D3, _, rfl, sqi (lp e3), _, _, rfl, rfl, ?_⟩
        rw [sum_ints]
        refine qy _ _ s3 ?_
        unfold Lg.totals
        rw [range_take_succ hi, nL_append]
        refine congrArg _ ?_
        show [V.int ((q.more t + (rows.map fun r => r.getD i 0).sum : Nat) : Int)] = _
        rw [Int.natCast_add]; rfl
    · have e : (q.totals t rows).take 3 = q.totals t rows := range_take_len
      rw [e] at e2
      exact qq H2 D2 (s1.trans s2) e2
theorem ok_League_totals {P : Program} {w : World} {K : PySem.W.Frag} {mg : Str → Option Value} {base : Heap} {a : Ad} (T : Txt K mg a) : MetB P w K mg base CX0 3 a.CLeague "totals" (sp_League_totals P w K a) :=
  MetB.mk0 T.f_League_totals sc_League_totals l_League_totals fun f cdv A outer s H vs Q E hr h => ⟨_, d_League_totals T (ok_League_allowance T) hr, p_League_totals T h⟩
/-! ### League.put -/
theorem LeagueAt.setTm (x : LeagueAt a H L q) {i : Nat} {T : TL} {t : Tm} (h : L.ts[i]? = some T) (ta : TeamAt a H' T t) (k : Kept (fun b => b ∈ T.fp) H H') : LeagueAt a H' L { q with teams := q.teams.set i t } := by
  have hT := List.mem_of_getElem? h
  have n := x.nt T hT
  refine ⟨k _ _ x.self fun z => absurd z n.1, k _ _ x.teams fun z => absurd z n.2, by rw [x.len]; exact List.length_set.symm, fun j U u h1 h2 => ?_, x.dj, x.nt⟩
  by_cases e : j = i
  · subst e
    rw [h] at h1; cases h1
    have h2' : (q.teams.set j t)[j]? = some u := h2
    rw [List.getElem?_set_self (by rw [← x.len]; exact (List.getElem?_eq_some_iff.mp h).1)] at h2'
    cases h2'
    exact ta
  · have h2' : (q.teams.set i t)[j]? = some u := h2
    rw [List.getElem?_set_ne (Ne.symm e)] at h2'
    exact (x.tm j U u h1 h2').keep fun b hb o e2 => k _ _ e2 fun z => absurd z (x.dj j i U T h1 h e b hb)
def sp_League_put (P : Program) (w : World) (K : PySem.W.Frag) (a : Ad) : Sp := fun vs H Q _ => ∃ (L : LL) (q : Lg) (t : Nat) (s : Addr) (as : List Addr) (rows : List (List Nat)) (pts : Nat), vs = [.ref L.self, nV t, .ref s, nV pts] ∧ LeagueAt a H L q ∧ LgOk q ∧ t < q.teams.length ∧
  MatchAt H s as rows ∧ rows.length = 3 ∧ (∀ r ∈ rows, r.length ≤ 1000) ∧ (∀ b, (b = s ∨ b ∈ as) → b ∉ L.fp) ∧ ∀ H', LeagueAt a H' L (q.put t rows pts) → Kept (fun b => b ∈ L.fp) H H' → Q .non H'
theorem l_League_put : ∀ vs H Q E, sp_League_put P w K a vs H Q E → vs.length = 4 := by
  rintro vs H Q E ⟨x, y, n, b, r, _, _, rfl, _⟩; rfl
abbrev s_League_put : Stmt := inClass (top 24) 4
abbrev N_League_put : List Str := ["self", "team", "scores", "points", "there", "player"]
theorem sc_League_put : FnScope N_League_put ["self", "team", "scores", "points"] (defScope s_League_put) := ⟨rfl, rfl, rfl, by decide +kernel, rfl, by decide +kernel, by decide +kernel⟩
def t_League_put (P : Program) (w : World) (K : PySem.W.Frag) (a : Ad) (E : XK) : TS :=
  (tSeq (tAsg (tOp (rIxL K) (tFld K (tVar 0) "teams") (tVar 1)) (gName 4))
  (tSeq (sFldAug K (tVar 4) (tVar 3) rAdd "points")
  (tFor (iRng1 (tCons (tC (.int (3))) tNil)) (gName 5) (tDrop (tBM K "list" rExtend (tOp (rIxL K) (tFld K (tVar 4) "scores") (tVar 5)) (tCons (tOp (rIxL K) (tVar 2) (tVar 5)) tNil))))))
theorem d_League_put {P : Program} {w : World} {K : PySem.W.Frag} {mg : Str → Option Value} {base : Heap} {a : Ad} (T : Txt K mg a)  {f : Addr} {cdv : Value} {A : Around} {outer : List Env} {s : Shared} {H : Hp} {E : XK}
    (hr : Room 0 (A.deeper (envOfC "League.put" (defScope s_League_put) s.heap.objs.size f cdv))) : PSs (cxOf CX0 P w K mg base N_League_put "League.put" (defScope s_League_put) f cdv A outer s H E).nox (defBody s_League_put) (t_League_put P w K a E) :=
  (pss_cons (ps_set (i := 4) sc_League_put.nd rfl (by first | exact Or.inl rfl | exact Or.inr rfl) (pe_ix ix_list (pe_fld (pv 0) rfl) (pv 1) (fun _ _ => rfl)))
  (pss_cons (ps_fldaug (pv 4) (pv 3) in_add)
  (pss_one (ps_for (PassesOwn.never) rfl (pi_range1 rfl T.n_range (pa_cons (pgi T.g_PLAYERS rfl) pa_nil)) (pg_name (i := 5) sc_League_put.nd rfl (by first | exact Or.inl rfl | exact Or.inr rfl)) (pss_one (ps_expr (pe_bm PySem.F.plainAttrs_list PySem.F.slot_list_extend PySem.F.type_list_extend mt_extend (pe_ix ix_list (pe_fld (pv 4) rfl) (pv 5) (fun _ _ => rfl)) (pa_cons (pe_ix ix_list (pv 2) (pv 5) (fun _ _ => rfl)) pa_nil))))))))
def extI (t : Tm) (rows : List (List Nat)) (i : Nat) : List (List Nat) := (List.range 3).map fun p => if p < i then t.row p ++ rows.getD p [] else t.row p
theorem extI_zero (h : t.scores.length = 3) (rows : List (List Nat)) : extI t rows 0 = t.scores := by
  obtain ⟨x, y, z, e⟩ : ∃ x y z, t.scores = [x, y, z] := by
    match t.scores, h with
    | [x, y, z], _ => exact ⟨x, y, z, rfl⟩
  unfold extI Tm.row
  rw [e]; rfl
theorem extI_succ (rows : List (List Nat)) : ∀ {i : Nat}, i < 3 → extI t rows (i + 1) = (extI t rows i).set i (t.row i ++ rows.getD i [])
  | 0, _ => rfl
  | 1, _ => rfl
  | 2, _ => rfl
theorem extI_at (rows : List (List Nat)) {i : Nat} (h : i < 3) : (extI t rows i)[i]? = some (t.row i) := by
  unfold extI
  rw [List.getElem?_map, List.getElem?_range h]
  show some (if i < i then _ else _) = _
  rw [if_neg (Nat.lt_irrefl _)]
theorem p_League_put (T : Txt K mg a) {vs : List V} {Q : VK} {E : XK} (h : sp_League_put P w K a vs H Q E) :
    t_League_put P w K a E { nx := fun _ H' => Q .non H', rt := Q } (start N_League_put vs) H := by
  obtain ⟨L, q, t, s, as, rows, pts, rfl, hl, ok, ht, hm, h3, hz, hap, qq⟩ := h
  have hta := tm_at ht
  obtain ⟨U, hU, hu⟩ := hl.get' hta
  have hUm := List.mem_of_getElem? hU
  have hmem := List.mem_of_getElem? hta
  have t3 := ok.three _ hmem
  have atT : atI (L.ts.map fun T => V.ref T.self) (t : Int) = some (.ref U.self) := atI_nat (j := t) (by rw [List.getElem?_map, hU]; rfl)
  refine ⟨_, rfl, _, _, _, _, _, rfl, hl.self, T.c_League, T.a_League_teams, rfl, _, rfl, L.teams, _, (t : Int), _, rfl, rfl, lp hl.teams, atT, ?_⟩
  refine ⟨_, rfl, U.self, _, U.dx, _, _, rfl, hu.self, T.c_Team, T.a_Team_points, rfl, _, rfl, _, _, rfl, rfl, U.dx, _, hu.self, (by decide : 2 < 1000), ?_⟩
  have ap : ∀ b, (b = s ∨ b ∈ as) → b ∉ U.fp := fun b hb h => hap b hb (LL.mem_fp hUm h)
  have nself : ∀ b ∈ U.ls, b ≠ U.self := fun b hb z => by
    rcases List.mem_cons.mp hb with e | hb
    · have := hu.self
      rw [← z, e, hu.scores] at this; cases this
    · obtain ⟨l, e⟩ := hu.rows.there hb
      rw [z, hu.self] at e; cases e
  refine ⟨3, rfl, by decide, by decide, ?_⟩
  refine for_range (fun i σ Hi => ∃ z, σ = [some (.ref L.self), some (nV t), some (.ref s), some (nV pts), some (.ref U.self), z] ∧ TeamAt a Hi U ⟨(q.tm t).points + pts, extI (q.tm t) rows i⟩ ∧ Kept (fun b => b ∈ U.fp) H Hi)
    ⟨_, rfl, ⟨?_, ?_, ?_, hu.nd⟩, (Kept.refl _ H).put List.mem_cons_self hu.self rfl⟩ (fun i σ Hi hi gi => ?_) fun σ Hi gi => ?_
  · rw [upd_same]
    show some (HO.ins a.CTeam U.dx [("points", V.int (((q.tm t).points : Int) + (pts : Int))), _]) = some (HO.ins a.CTeam U.dx [("points", V.int (((q.tm t).points + pts : Nat) : Int)), _])
    rw [Int.natCast_add]
  · rw [upd_ne (nself _ (by simp [TL.ls]))]; exact hu.scores
  · show RowsAt _ _ (extI (q.tm t) rows 0)
    rw [extI_zero t3]
    exact hu.rows.same fun b hb o e => by rw [upd_ne (nself _ (by simp [TL.ls, hb]))]; exact e
  · obtain ⟨z, rfl, hti, ki⟩ := gi
    rw [Int.zero_add]
    have hmi : MatchAt Hi s as rows := hm.keep fun b hb o e => ki b o e fun z => absurd z (ap b hb)
    obtain ⟨b, hb, e⟩ := hti.rows.get' (extI_at rows hi)
    have hr : rows[i]? = some (rows.getD i []) := by
      rw [List.getD_eq_getElem?_getD, List.getElem?_eq_getElem (by omega)]; rfl
    obtain ⟨c, hc, ec⟩ := hmi.lay.get' hr
    refine ⟨_, rfl, _, _, _, _, _, rfl, hti.self, T.c_Team, T.a_Team_scores, rfl, _, rfl, U.scores, _, (i : Int), _, rfl, rfl, lp hti.scores, atI_nat (j := i) (by rw [List.getElem?_map, hb]; rfl), tyLp e, _, rfl, _, rfl, s, _, (i : Int), .ref c, rfl, rfl, lp hmi.lst, atI_nat (j := i) (by rw [List.getElem?_map, hc]; rfl), ?_⟩
    refine ⟨b, c, _, _, rfl, rfl, e, ec, ?_, ?_⟩
    · rw [nL_length, nL_length]
      have h1 := ok.rows _ hmem _ (List.mem_of_getElem? (trow_at (t := q.tm t) (p := i) (by rw [t3]; exact hi)))
      have h2 := hz _ (List.mem_of_getElem? hr)
      exact small_line' (by omega)
    · rw [← nL_append]
      have hbm := List.mem_of_getElem? hb
      have nd := hti.nd
      unfold TL.ls at nd
      rw [List.nodup_cons] at nd
      have nbs : b ≠ U.scores := fun z => nd.1 (z ▸ hbm)
      have nbself : b ≠ U.self := nself b (by simp [TL.ls, hbm])
      refine ⟨_, rfl, ⟨?_, ?_, ?_, hti.nd⟩, ki.put (by simp [TL.fp, TL.ls, hbm]) e rfl⟩
      · rw [upd_ne (Ne.symm nbself)]; exact hti.self
      · rw [upd_ne (Ne.symm nbs)]; exact hti.scores
      · show RowsAt _ _ (extI (q.tm t) rows (i + 1))
        rw [extI_succ rows hi]
        exact hti.rows.set nd.2 hb
  · obtain ⟨z, rfl, hti, ki⟩ := gi
    refine qq Hi ?_ (ki.mono fun b hb => LL.mem_fp hUm hb)
    have e : q.put t rows pts = { q with teams := q.teams.set t ⟨(q.tm t).points + pts, extI (q.tm t) rows 3⟩ } := by
      unfold Lg.put Tm.put extI
      congr 1
    rw [e]
    exact hl.setTm hU hti ki
theorem ok_League_put {P : Program} {w : World} {K : PySem.W.Frag} {mg : Str → Option Value} {base : Heap} {a : Ad} (T : Txt K mg a) : MetB P w K mg base CX0 1 a.CLeague "put" (sp_League_put P w K a) :=
  MetB.mk0 T.f_League_put sc_League_put l_League_put fun f cdv A outer s H vs Q E hr h => ⟨_, d_League_put T  hr, p_League_put T h⟩
end
end Bw

/-! the walk: the league, part three -/
namespace Bw
open PySem PySem.Spec PyProof.Rows L2
section
variable {P : Program} {w : World} {K : PySem.W.Frag} {mg : Str → Option Value} {base : Heap} {a : Ad} {H H' : Hp} {T0 : TL} {t : Tm} {L : LL} {q : Lg}
/-! ### League.order -/
def sp_League_order (P : Program) (w : World) (K : PySem.W.Frag) (a : Ad) : Sp := fun vs H Q _ => ∃ (L : LL) (q : Lg), vs = [.ref L.self] ∧ LeagueAt a H L q ∧ LgOk q ∧ ∀ H' p, Same H H' → H' p = some (.lst (q.order.map V.int)) → Q (.ref p) H'
theorem l_League_order : ∀ vs H Q E, sp_League_order P w K a vs H Q E → vs.length = 1 := by
  rintro vs H Q E ⟨x, y, rfl, _⟩; rfl
abbrev s_League_order : Stmt := inClass (top 24) 5
abbrev N_League_order : List Str := ["self", "rows", "number", "team", "row"]
theorem sc_League_order : FnScope N_League_order ["self"] (defScope s_League_order) := ⟨rfl, rfl, rfl, by decide +kernel, rfl, by decide +kernel, by decide +kernel⟩
def t_League_order (P : Program) (w : World) (K : PySem.W.Frag) (a : Ad) (E : XK) : TS :=
  (tSeq (tAsg (tLc (iEnum K (tCons (tFld K (tVar 0) "teams") tNil)) (gTup K 2 (gCons (gName 2) (gCons (gName 3) gNil))) tYes (tTup (tCons (tUn rNegI (tFld K (tVar 3) "points")) (tCons (tUn rNegI (tMeth a.CTeam "pins" (sp_Team_pins P w K a) [] E0 (tVar 3) tNil)) (tCons (tVar 2) tNil)))) [2, 3]) (gName 1))
  (tRet (tLc (iList K (tCB (rSortRows K) (tCons (tVar 1) tNil))) (gName 4) tYes (tOp (rIxT K) (tVar 4) (tC (.int 2))) [4])))
theorem d_League_order {P : Program} {w : World} {K : PySem.W.Frag} {mg : Str → Option Value} {base : Heap} {a : Ad} (T : Txt K mg a) (c_Team_pins : MetB P w K mg base CX0 1 a.CTeam "pins" (sp_Team_pins P w K a)) {f : Addr} {cdv : Value} {A : Around} {outer : List Env} {s : Shared} {H : Hp} {E : XK}
    (hr : Room 1 (A.deeper (envOfC "League.order" (defScope s_League_order) s.heap.objs.size f cdv))) : PSs (cxOf CX0 P w K mg base N_League_order "League.order" (defScope s_League_order) f cdv A outer s H E).nox (defBody s_League_order) (t_League_order P w K a E) :=
  (pss_cons (ps_setLc (i := 1) (own := [("number", 2), ("team", 3)]) (g := (gTup K 2 (gCons (gName 2) (gCons (gName 3) gNil)))) (tt := tYes) (te := (tTup (tCons (tUn rNegI (tFld K (tVar 3) "points")) (tCons (tUn rNegI (tMeth a.CTeam "pins" (sp_Team_pins P w K a) [] E0 (tVar 3) tNil)) (tCons (tVar 2) tNil))))) rfl sc_League_order.nd rfl rfl (sw_true rfl rfl rfl (by decide +kernel)) (pi_enum rfl T.n_enumerate (pa_cons (pe_fld (pv 0) rfl) pa_nil)) (blkOk_by (N := N_League_order) (sc := (defScope s_League_order)) (by decide +kernel)) (fun _ _ _ _ _ => (pg_tup rfl (pgs_cons (pg_name (i := 2) sc_League_order.nd rfl (by first | exact Or.inl rfl | exact Or.inr rfl)) (pgs_cons (pg_name (i := 3) sc_League_order.nd rfl (by first | exact Or.inl rfl | exact Or.inr rfl)) pgs_nil)))) (fun _ _ _ _ _ => pts_nil) (fun _ _ _ _ _ => (pe_tup (pa_cons (pe_un un_neg (pe_fld (pv 3) rfl)) (pa_cons (pe_un un_neg (pm0 c_Team_pins hr (by decide) pass0 (pv 3))) (pa_cons (pv 2) pa_nil))))))
  (pss_one (ps_ret (pe_lc (own := [("row", 4)]) (g := (gName 4)) (tt := tYes) (te := (tOp (rIxT K) (tVar 4) (tC (.int 2)))) rfl sc_League_order.nd (pi_list (pe_callB (cr_sortRows hr.units) (by rfl) T.n_sorted boot_sorted2 (pa_cons (pv 1) pa_nil))) (blkOk_by (N := N_League_order) (sc := (defScope s_League_order)) (by decide +kernel)) (fun _ _ _ _ _ => (pg_name (i := 4) sc_League_order.nd rfl (by first | exact Or.inl rfl | exact Or.inr rfl))) (fun _ _ _ _ _ => pts_nil) (fun _ _ _ _ _ => (pe_ix ix_tup (pv 4) pe_int (fun _ _ => rfl)))))))
theorem p_League_order (T : Txt K mg a) {vs : List V} {Q : VK} {E : XK} (h : sp_League_order P w K a vs H Q E) :
    t_League_order P w K a E { nx := fun _ H' => Q .non H', rt := Q } (start N_League_order vs) H := by
  obtain ⟨L, q, rfl, hl, ok, qq⟩ := h
  refine ⟨_, rfl, _, _, _, _, _, rfl, hl.self, T.c_League, T.a_League_teams, rfl, L.teams, _, rfl, lp hl.teams, ?_⟩
  have hlen : (L.ts.map fun T => V.ref T.self).length = q.teams.length := by rw [List.length_map]; exact hl.len
  intro Dn hD
  refine lc_it (walk_enum (K := K) (a := L.teams) (xs := L.ts.map fun T => V.ref T.self)) (fun i H1 => ∃ bs : List (Addr × Row3), Same H H1 ∧ H1 Dn = some (.lst (bs.map fun b => V.ref b.1)) ∧ bs.map Prod.snd = (rowFrom 0 q.teams).take i ∧
      (∀ b ∈ bs, H1 b.1 = some (.tup [.int b.2.1, .int b.2.2.1, .int b.2.2.2]))) ⟨[], same_upd hD, upd_same, by simp, by simp⟩ (fun i H1 _ ⟨_, s, _⟩ => lp (s _ _ hl.teams)) (fun i x Ha Hb hi gi y => ?_) fun H1 gi => ?_
  · obtain ⟨bs, s1, hd, hbs, htp⟩ := gi
    obtain ⟨Tt, u, v, rfl, hT, rfl, e1, e2⟩ := y
    cases e1
    obtain ⟨U, hU, rfl⟩ := getElem?_map_some e2
    obtain ⟨t, ht, hu⟩ := hl.get hU
    have hmem := List.mem_of_getElem? ht
    have h3 := ok.three _ hmem
    have sT : Same Ha (upd Ha Tt (.tup [.int (i : Nat), .ref U.self])) := same_upd hT
    have hub := (hu.up s1).up sT
    refine ⟨Tt, _, rfl, tpn, rfl, _, _, rfl, _, _, rfl, rfl, rfl, yes_if ⟨_, rfl, _, _, _, _, _, rfl, hub.self, T.c_Team, T.a_Team_points, rfl, _, rfl, _, rfl, U.self, _, _, rfl, hub.self, rfl, U, t, rfl, hub, by omega, fun H4 s4 => ⟨_, rfl, _, rfl, le3, fun p hp => ?_⟩⟩⟩
    have s14 := (s1.trans sT).trans s4
    have hd4 := s4 _ _ (sT _ _ hd)
    have nDp : Dn ≠ p := ne_of_none hd4 hp
    have hrow : (rowFrom 0 q.teams)[i]? = some (-(t.points : Int), -(t.pins : Int), (i : Int)) := by
      have := rowFrom_at q.teams 0 i t ht
      rw [Nat.zero_add] at this
      exact this
    refine ⟨bs.map fun b => V.ref b.1, by rw [upd_ne nDp]; exact hd4, ?_, bs ++ [(p, (-(t.points : Int), -(t.pins : Int), (i : Int)))], ?_, ?_, ?_, ?_⟩
    · rw [List.length_map]
      have h1 := congrArg List.length hbs
      rw [List.length_map, List.length_take] at h1
      rw [hlen] at hi
      have h2 := ok.teams
      exact small_line (by omega)
    · exact same_put (o' := .lst []) (s14.trans (same_upd hp)) hD
    · rw [upd_same, List.map_append]; rfl
    · rw [List.map_append, hbs, take_snoc hrow]; rfl
    · intro b hb
      have nD : ∀ xs, upd H4 p (.tup [.int (-(t.points : Int)), .int (-(t.pins : Int)), .int (i : Int)]) b.1 = some (.tup xs) → b.1 ≠ Dn := fun xs e z => by
        rw [z, upd_ne nDp, hd4] at e; cases e
      rcases List.mem_append.mp hb with hb | hb
      · have h4 := s4 _ _ (sT _ _ (htp b hb))
        have h5 : upd H4 p (.tup [.int (-(t.points : Int)), .int (-(t.pins : Int)), .int (i : Int)]) b.1 = some (.tup [.int b.2.1, .int b.2.2.1, .int b.2.2.2]) := by rw [upd_ne (ne_of_none h4 hp)]; exact h4
        show upd (upd H4 p (.tup [.int (-(t.points : Int)), .int (-(t.pins : Int)), .int (i : Int)])) Dn _ b.1 = _
        rw [upd_ne (nD _ h5)]; exact h5
      · rw [List.mem_singleton.mp hb]
        show upd (upd H4 p (.tup [.int (-(t.points : Int)), .int (-(t.pins : Int)), .int (i : Int)])) Dn _ p = _
        rw [upd_ne (Ne.symm nDp), upd_same]
  · obtain ⟨bs, s1, hd, hbs, htp⟩ := gi
    have hbs' : bs.map Prod.snd = rowFrom 0 q.teams := by rw [hbs, hlen, List.take_of_length_le]; rw [rowFrom_len]; exact Nat.le_refl _
    have hbl : bs.length = q.teams.length := by rw [← List.length_map (f := Prod.snd), hbs', rowFrom_len]
    refine ⟨_, rfl, Dn, bs, rfl, lp hd, fun b hb => sqT (htp b hb), fun p hp => ?_⟩
    refine ⟨p, rfl, ⟨_, lpn⟩, ?_⟩
    have ssl : (bs.mergeSort leR).length = q.teams.length := by rw [(List.mergeSort_perm bs leR).length_eq, hbl]
    have sp := same_upd (o := .lst ((bs.mergeSort leR).map fun b => V.ref b.1)) hp
    refine lc_out (walk_list (K := K) (a := p) (xs := (bs.mergeSort leR).map fun b => V.ref b.1)) (fun i => ((bs.mergeSort leR).take i).map fun b => V.int b.2.2.2) (by rw [List.length_map, ssl]; have := ok.teams; omega) yat_same (fun H' s => lp (s _ _ upd_same)) rfl (fun i _ => by rw [List.length_map]; exact List.length_take_le _ _) (fun i x Ha Hb Qy Qn hi s y qy qn => ?_) fun H2 D2 s2 hD2 e2 => ?_
    · obtain ⟨rfl, hx⟩ := y
      obtain ⟨b, hb, rfl⟩ := getElem?_map_some hx
      have hbm : b ∈ bs := (List.mergeSort_perm bs leR).mem_iff.mp (List.mem_of_getElem? hb)
      refine ⟨rfl, yes_if ⟨_, rfl, b.1, _, 2, _, rfl, rfl, sqT (s _ _ (sp _ _ (htp b hbm))), atI_nat (j := 2) rfl, qy _ _ (Same.refl _) ?_⟩⟩
      rw [take_snoc hb, List.map_append]; rfl
    · refine qq H2 D2 ((s1.trans sp).trans s2) ?_
      rw [e2, List.length_map, List.take_length]
      congr 2
      unfold Lg.order
      have e : (bs.mergeSort leR).map Prod.snd = rowSort (rowFrom 0 q.teams) := by
        rw [List.map_mergeSort (s := rowLe) fun x _ y _ => leR_eq x y, hbs', mergeSort_rows]
      rw [← e, List.map_map, List.map_map]; rfl
theorem ok_League_order {P : Program} {w : World} {K : PySem.W.Frag} {mg : Str → Option Value} {base : Heap} {a : Ad} (T : Txt K mg a) : MetB P w K mg base CX0 2 a.CLeague "order" (sp_League_order P w K a) :=
  MetB.mk0 T.f_League_order sc_League_order l_League_order fun f cdv A outer s H vs Q E hr h => ⟨_, d_League_order T (ok_Team_pins T) hr, p_League_order T h⟩
/-! ### League.play -/
def sp_League_play (P : Program) (w : World) (K : PySem.W.Frag) (a : Ad) : Sp := fun vs H Q _ => ∃ (L : LL) (q : Lg) (t u : Nat) (s z : Addr) (as bs : List Addr) (x y : List (List Nat)), vs = [.ref L.self, nV t, nV u, .ref s, .ref z] ∧ LeagueAt a H L q ∧ LgOk q ∧ t < q.teams.length ∧ u < q.teams.length ∧
  LgOk (q.put t x (q.pts t u x y).1) ∧ MatchAt H s as x ∧ x.length = 3 ∧ (∀ r ∈ x, r.length ≤ 1000) ∧ (∀ b, (b = s ∨ b ∈ as) → b ∉ L.fp) ∧ MatchAt H z bs y ∧ y.length = 3 ∧ (∀ r ∈ y, r.length ≤ 1000) ∧ (∀ b, (b = z ∨ b ∈ bs) → b ∉ L.fp) ∧
  ∀ H' p, LeagueAt a H' L (q.play t u x y) → Kept (fun b => b ∈ L.fp) H H' → H p = none → H' p = some (.lst (nL [(q.pts t u x y).1, (q.pts t u x y).2])) → Q (.ref p) H'
theorem l_League_play : ∀ vs H Q E, sp_League_play P w K a vs H Q E → vs.length = 5 := by
  rintro vs H Q E ⟨_, _, _, _, _, _, _, _, _, _, rfl, _⟩; rfl
abbrev s_League_play : Stmt := inClass (top 24) 3
abbrev N_League_play : List Str := ["self", "one", "other", "scores", "others", "totals", "their", "found", "here", "there", "points"]
theorem sc_League_play : FnScope N_League_play ["self", "one", "other", "scores", "others"] (defScope s_League_play) := ⟨rfl, rfl, rfl, by decide +kernel, rfl, by decide +kernel, by decide +kernel⟩
def t_League_play (P : Program) (w : World) (K : PySem.W.Frag) (a : Ad) (E : XK) : TS :=
  (tSeq (tAsg (tMeth a.CLeague "totals" (sp_League_totals P w K a) [] E0 (tVar 0) (tCons (tVar 1) (tCons (tVar 3) tNil))) (gName 5))
  (tSeq (tAsg (tMeth a.CLeague "totals" (sp_League_totals P w K a) [] E0 (tVar 0) (tCons (tVar 2) (tCons (tVar 4) tNil))) (gName 6))
  (tSeq (tAsg (tLst (tCons (tC (.int 0)) (tCons (tC (.int 0)) tNil))) (gName 7))
  (tSeq (tFor (iList K (tOp rCat (tLZ K (tCons (tVar 5) (tCons (tVar 6) tNil))) (tLst (tCons (tTup (tCons (tCB (rSum K) (tCons (tVar 5) tNil)) (tCons (tCB (rSum K) (tCons (tVar 6) tNil)) tNil))) tNil)))) (gTup K 2 (gCons (gName 8) (gCons (gName 9) gNil))) (tSeq (tAsg (tCall (sp_points_for P w K a) [] E0 (tCons (tVar 8) (tCons (tVar 9) tNil))) (gName 10))
  (tAsg (tLst (tCons (tOp rAddI (tOp (rIxL K) (tVar 7) (tC (.int 0))) (tOp (rIxT K) (tVar 10) (tC (.int 0)))) (tCons (tOp rAddI (tOp (rIxL K) (tVar 7) (tC (.int 1))) (tOp (rIxT K) (tVar 10) (tC (.int 1)))) tNil))) (gName 7))))
  (tSeq (tDrop (tMeth a.CLeague "put" (sp_League_put P w K a) [] E0 (tVar 0) (tCons (tVar 1) (tCons (tVar 3) (tCons (tOp (rIxL K) (tVar 7) (tC (.int 0))) tNil)))))
  (tSeq (tDrop (tMeth a.CLeague "put" (sp_League_put P w K a) [] E0 (tVar 0) (tCons (tVar 2) (tCons (tVar 4) (tCons (tOp (rIxL K) (tVar 7) (tC (.int 1))) tNil)))))
  (tSeq (sFldAug K (tVar 0) (tC (.int 1)) rAdd "matches")
  (tRet (tVar 7)))))))))
theorem d_League_play {P : Program} {w : World} {K : PySem.W.Frag} {mg : Str → Option Value} {base : Heap} {a : Ad} (T : Txt K mg a) (c_League_totals : MetB P w K mg base CX0 3 a.CLeague "totals" (sp_League_totals P w K a)) (c_points_for : CalB P w K mg base CX0 1 "points_for" (sp_points_for P w K a)) (c_League_put : MetB P w K mg base CX0 1 a.CLeague "put" (sp_League_put P w K a)) {f : Addr} {cdv : Value} {A : Around} {outer : List Env} {s : Shared} {H : Hp} {E : XK}
    (hr : Room 3 (A.deeper (envOfC "League.play" (defScope s_League_play) s.heap.objs.size f cdv))) : PSs (cxOf CX0 P w K mg base N_League_play "League.play" (defScope s_League_play) f cdv A outer s H E).nox (defBody s_League_play) (t_League_play P w K a E) :=
  (pss_cons (ps_set (i := 5) sc_League_play.nd rfl (by first | exact Or.inl rfl | exact Or.inr rfl) (pm c_League_totals hr (by decide) pass0 (pv 0) (pa_cons (pv 1) (pa_cons (pv 3) pa_nil))))
  (pss_cons (ps_set (i := 6) sc_League_play.nd rfl (by first | exact Or.inl rfl | exact Or.inr rfl) (pm c_League_totals hr (by decide) pass0 (pv 0) (pa_cons (pv 2) (pa_cons (pv 4) pa_nil))))
  (pss_cons (ps_set (i := 7) sc_League_play.nd rfl (by first | exact Or.inl rfl | exact Or.inr rfl) (pe_lst (pa_cons pe_int (pa_cons pe_int pa_nil))))
  (pss_cons (ps_for (PassesOwn.never) rfl (pi_list (pe_op op_cat (pe_listZip rfl rfl T.n_list rfl T.n_zip (pa_cons (pv 5) (pa_cons (pv 6) pa_nil))) (pe_lst (pa_cons (pe_tup (pa_cons (pe_callB (cr_sum rfl) (by rfl) T.n_sum boot_sum2 (pa_cons (pv 5) pa_nil)) (pa_cons (pe_callB (cr_sum rfl) (by rfl) T.n_sum boot_sum2 (pa_cons (pv 6) pa_nil)) pa_nil))) pa_nil)))) (pg_tup rfl (pgs_cons (pg_name (i := 8) sc_League_play.nd rfl (by first | exact Or.inl rfl | exact Or.inr rfl)) (pgs_cons (pg_name (i := 9) sc_League_play.nd rfl (by first | exact Or.inl rfl | exact Or.inr rfl)) pgs_nil))) (pss_cons (ps_set (i := 10) sc_League_play.nd rfl (by first | exact Or.inl rfl | exact Or.inr rfl) (pc c_points_for hr (by decide) pass0 rfl (pa_cons (pv 8) (pa_cons (pv 9) pa_nil))))
  (pss_one (ps_set (i := 7) sc_League_play.nd rfl (by first | exact Or.inl rfl | exact Or.inr rfl) (pe_lst (pa_cons (pe_op op_add (pe_ix ix_list (pv 7) pe_int (fun _ _ => rfl)) (pe_ix ix_tup (pv 10) pe_int (fun _ _ => rfl))) (pa_cons (pe_op op_add (pe_ix ix_list (pv 7) pe_int (fun _ _ => rfl)) (pe_ix ix_tup (pv 10) pe_int (fun _ _ => rfl))) pa_nil)))))))
  (pss_cons (ps_expr (pm c_League_put hr (by decide) pass0 (pv 0) (pa_cons (pv 1) (pa_cons (pv 3) (pa_cons (pe_ix ix_list (pv 7) pe_int (fun _ _ => rfl)) pa_nil)))))
  (pss_cons (ps_expr (pm c_League_put hr (by decide) pass0 (pv 0) (pa_cons (pv 2) (pa_cons (pv 4) (pa_cons (pe_ix ix_list (pv 7) pe_int (fun _ _ => rfl)) pa_nil)))))
  (pss_cons (ps_fldaug (pv 0) pe_int in_add)
  (pss_one (ps_ret (pv 7))))))))))
theorem LeagueAt.none_not (x : LeagueAt a H L q) {b : Addr} (h : H b = none) : b ∉ L.fp := fun hb => by
  obtain ⟨o, e, _⟩ := x.what hb
  rw [h] at e; cases e
def allPairs (m n : List Nat) : List (Nat × Nat) := m.zip n ++ [(m.sum, n.sum)]
theorem totals_len (q : Lg) (t : Nat) (rows : List (List Nat)) : (q.totals t rows).length = 3 := by unfold Lg.totals; rw [List.length_map, List.length_range]
theorem p_League_play (T : Txt K mg a) {vs : List V} {Q : VK} {E : XK} (h : sp_League_play P w K a vs H Q E) :
    t_League_play P w K a E { nx := fun _ H' => Q .non H', rt := Q } (start N_League_play vs) H := by
  obtain ⟨L, q, t, u, s, z, as, bs, x, y, rfl, hl, ok, ht, hu, ok2, hx, x3, xz, xa, hy, y3, yz, ya, qq⟩ := h
  refine ⟨_, rfl, L.self, _, _, rfl, hl.self, rfl, _, rfl, _, rfl, L, q, t, s, as, x, rfl, hl, ok, ht, hx, fun H1 p1 s1 e1 => ?_⟩
  refine ⟨_, rfl, L.self, _, _, rfl, (hl.up s1).self, rfl, _, rfl, _, rfl, L, q, u, z, bs, y, rfl, hl.up s1, ok, hu, hy.up s1, fun H2 p2 s2 e2 => ?_⟩
  refine ⟨le2, fun f0 hf0 => ?_⟩
  have e1' := s2 _ _ e1
  have s3 : Same H2 (upd H2 f0 (.lst [.int 0, .int 0])) := same_upd hf0
  refine ⟨_, rfl, _, rfl, p1, p2, _, _, rfl, lp (s3 _ _ e1'), lp (s3 _ _ e2), fun H4 pz ts s4 hpz0 hts hpz htup => ?_⟩
  have e14 := s4 _ _ (s3 _ _ e1')
  have e24 := s4 _ _ (s3 _ _ e2)
  refine ⟨_, rfl, p1, _, rfl, sqi (lp e14), _, rfl, p2, _, rfl, sqi (lp e24), le2, fun pt hpt => ⟨le1, fun pl hpl => ?_⟩⟩
  rw [sum_ints, sum_ints]
  have s5 := same_upd (o := .tup [.int (q.totals t x).sum, .int (q.totals u y).sum]) hpt
  have s6 := same_upd (o := .lst [.ref pt]) hpl
  rw [nL_length, nL_length, totals_len, totals_len] at hts
  refine ⟨pz, pl, _, _, rfl, rfl, s6 _ _ (s5 _ _ hpz), upd_same, ?_, fun pc hpc => ?_⟩
  · rw [List.length_map, hts]; exact le4
  have s7 := same_upd (o := .lst (ts.map V.ref ++ [.ref pt])) hpc
  have s47 := (s5.trans s6).trans s7
  have hall : ts.map V.ref ++ [V.ref pt] = (ts ++ [pt]).map V.ref := by rw [List.map_append]; rfl
  -- the tuples in the list
  have tups : ∀ (j : Nat) (b : Addr), (ts ++ [pt])[j]? = some b → ∃ pr, (allPairs (q.totals t x) (q.totals u y))[j]? = some pr ∧ upd (upd (upd H4 pt (.tup [.int (q.totals t x).sum, .int (q.totals u y).sum])) pl (.lst [.ref pt])) pc (.lst (ts.map V.ref ++ [.ref pt])) b = some (.tup [nV pr.1, nV pr.2]) := by
    intro j b hj
    have zl : ((q.totals t x).zip (q.totals u y)).length = 3 := by rw [List.length_zip, totals_len, totals_len]; rfl
    have ht3 : ts.length = 3 := by rw [hts]; rfl
    rcases Nat.lt_or_ge j ts.length with hlt | hge
    · rw [List.getElem?_append_left hlt] at hj
      obtain ⟨c, d, hc, hd, e⟩ := htup j b hj
      obtain ⟨c', hc', rfl⟩ := getElem?_map_some hc
      obtain ⟨d', hd', rfl⟩ := getElem?_map_some hd
      refine ⟨(c', d'), ?_, s47 _ _ e⟩
      unfold allPairs
      rw [List.getElem?_append_left (by omega)]
      exact List.getElem?_zip_eq_some.mpr ⟨hc', hd'⟩
    · rw [List.getElem?_append_right hge] at hj
      have hj0 : j - ts.length = 0 := by
        have := (List.getElem?_eq_some_iff.mp hj).1
        rw [List.length_singleton] at this; omega
      rw [hj0] at hj
      cases hj
      refine ⟨((q.totals t x).sum, (q.totals u y).sum), ?_, s7 _ _ (s6 _ _ upd_same)⟩
      unfold allPairs
      rw [List.getElem?_append_right (by omega), zl, ← ht3, hj0]; rfl
  have plen : (ts ++ [pt]).length = (allPairs (q.totals t x) (q.totals u y)).length := by
    unfold allPairs
    rw [List.length_append, List.length_append, List.length_zip, totals_len, totals_len, hts]; rfl
  refine ⟨pc, rfl, ⟨_, lpn⟩, ?_⟩
  have s07 := (((s1.trans s2).trans s3).trans s4).trans s47
  have hpc7 : upd (upd (upd H4 pt (.tup [.int (q.totals t x).sum, .int (q.totals u y).sum])) pl (.lst [.ref pt])) pc (.lst (ts.map V.ref ++ [.ref pt])) pc = some (.lst ((ts ++ [pt]).map V.ref)) := by rw [upd_same, hall]
  have hf7 : upd (upd (upd H4 pt (.tup [.int (q.totals t x).sum, .int (q.totals u y).sum])) pl (.lst [.ref pt])) pc (.lst (ts.map V.ref ++ [.ref pt])) f0 = some (.lst [.int 0, .int 0]) := s47 _ _ (s4 _ _ upd_same)
  rw [hall] at *
  generalize upd (upd (upd H4 pt (.tup [.int (q.totals t x).sum, .int (q.totals u y).sum])) pl (.lst [.ref pt])) pc (.lst ((ts ++ [pt]).map V.ref)) = H7 at *
  refine for_list (fun i σ Hi => ∃ f z8 z9 z10, σ = [some (.ref L.self), some (nV t), some (nV u), some (.ref s), some (.ref z), some (.ref p1), some (.ref p2), some (.ref f), z8, z9, z10] ∧ Same H7 Hi ∧ H f = none ∧
      Hi f = some (.lst [nV (((allPairs (q.totals t x) (q.totals u y)).take i).foldl ptsStep (0, 0)).1, nV (((allPairs (q.totals t x) (q.totals u y)).take i).foldl ptsStep (0, 0)).2]))
    ⟨f0, _, _, _, rfl, Same.refl _, (s1.trans s2).free hf0, hf7⟩ (fun i σ Hi _ ⟨_, _, _, _, _, si, _⟩ => lp (si _ _ hpc7)) (fun i v σ Hi hv gi => ?_) fun σ Hi gi => ?_
  · obtain ⟨f, z8, z9, z10, rfl, si, fnone, hf⟩ := gi
    obtain ⟨b, hb, rfl⟩ := getElem?_map_some hv
    obtain ⟨pr, hpr, etp⟩ := tups i b hb
    have etp' := si _ _ etp
    refine ⟨b, _, rfl, sqT etp', rfl, _, _, rfl, _, _, rfl, rfl, ?_⟩
    refine ⟨_, rfl, _, rfl, pr.1, pr.2, rfl, fun H8 p8 s8 e8 => ?_⟩
    have hf8 := s8 _ _ hf
    refine ⟨_, rfl, f, _, 0, _, rfl, rfl, lp hf8, atI_nat (j := 0) rfl, _, rfl, p8, _, 0, _, rfl, rfl, sqT e8, atI_nat (j := 0) rfl, _, _, rfl, rfl, _, rfl, f, _, 1, _, rfl, rfl, lp hf8, atI_nat (j := 1) rfl, _, rfl, p8, _, 1, _, rfl, rfl, sqT e8, atI_nat (j := 1) rfl, _, _, rfl, rfl, le2, fun f9 hf9 => ?_⟩
    refine ⟨f9, some (nV pr.1), some (nV pr.2), some (.ref p8), rfl, (si.trans s8).trans (same_upd hf9), (s07.trans (si.trans s8)).free hf9, ?_⟩
    rw [upd_same, take_snoc hpr, List.foldl_append]
    show some (HO.lst [V.int _, V.int _]) = some (HO.lst [V.int ((_ + _ : Nat) : Int), V.int ((_ + _ : Nat) : Int)])
    rw [Int.natCast_add, Int.natCast_add]
  · obtain ⟨f, z8, z9, z10, rfl, si, fnone, hf⟩ := gi
    have fnot := hl.none_not fnone
    have epts : ((allPairs (q.totals t x) (q.totals u y)).take ((ts ++ [pt]).map V.ref).length).foldl ptsStep (0, 0) = q.pts t u x y := by
      rw [List.length_map, plen, List.take_length]; rfl
    rw [epts] at hf
    have s0i := s07.trans si
    have hli := hl.up s0i
    refine ⟨_, rfl, L.self, _, _, rfl, hli.self, rfl, _, rfl, _, rfl, _, rfl, f, _, 0, _, rfl, rfl, lp hf, atI_nat (j := 0) rfl, L, q, t, s, as, x, (q.pts t u x y).1, rfl, hli, ok, ht, hx.up s0i, x3, xz, xa, fun H8 hl8 k8 => ?_⟩
    have hf8 := k8 _ _ hf fun z => absurd z fnot
    have hy8 : MatchAt H8 z bs y := (hy.up s0i).keep fun b hb o e => k8 _ _ e fun z => absurd z (ya b hb)
    refine ⟨_, rfl, L.self, _, _, rfl, hl8.self, rfl, _, rfl, _, rfl, _, rfl, f, _, 1, _, rfl, rfl, lp hf8, atI_nat (j := 1) rfl, L, _, u, z, bs, y, (q.pts t u x y).2, rfl, hl8, ok2, by show u < (q.teams.set t _).length; rw [List.length_set]; exact hu, hy8, y3, yz, ya, fun H9 hl9 k9 => ?_⟩
    have hf9 := k9 _ _ hf8 fun z => absurd z fnot
    refine ⟨_, rfl, L.self, _, L.dx, _, _, rfl, hl9.self, T.c_League, T.a_League_matches, rfl, _, _, rfl, rfl, L.dx, _, hl9.self, (by decide : 4 < 1000), ?_⟩
    have nfs : f ≠ L.self := fun z => fnot (by rw [z]; simp [LL.fp])
    refine ⟨_, rfl, qq _ f ⟨?_, ?_, hl9.len, ?_, hl9.dj, hl9.nt⟩ ?_ fnone ?_⟩
    · rw [upd_same]
      show some (HO.ins a.CLeague L.dx [_, _, _, ("matches", V.int ((q.played : Int) + 1))]) = some (HO.ins a.CLeague L.dx [_, _, _, ("matches", V.int ((q.played + 1 : Nat) : Int))])
      rw [Int.natCast_add]; rfl
    · have n : L.teams ≠ L.self := fun z => by
        have := hl9.self
        rw [← z, hl9.teams] at this; cases this
      rw [upd_ne n]; exact hl9.teams
    · intro i U v h1 h2
      refine (hl9.tm i U v h1 h2).keep fun b hb o e => ?_
      have n : b ≠ L.self := fun z => (hl9.nt U (List.mem_of_getElem? h1)).1 (z ▸ hb)
      rw [upd_ne n]; exact e
    · exact (((Kept.of s0i).trans k8).trans k9).put (by simp [LL.fp]) hl9.self rfl
    · rw [upd_ne nfs]; exact hf9
theorem ok_League_play {P : Program} {w : World} {K : PySem.W.Frag} {mg : Str → Option Value} {base : Heap} {a : Ad} (T : Txt K mg a) : MetB P w K mg base CX0 4 a.CLeague "play" (sp_League_play P w K a) :=
  MetB.mk0 T.f_League_play sc_League_play l_League_play fun f cdv A outer s H vs Q E hr h => ⟨_, d_League_play T (ok_League_totals T) (ok_points_for T) (ok_League_put T) hr, p_League_play T h⟩
end
end Bw

/-! the walk: the hall in the heap -/
namespace Bw
open PySem PySem.Spec PyProof.Rows L2
/-- whose an address is: the hall's own, the league's, the counter's, a group's -/
inductive Tag where
  | h
  | l
  | c
  | g (i : Nat)
  deriving DecidableEq
structure HLay where
  self : Addr
  dx : Addr
  owners : Addr
  broken : Addr
  groups : Addr
  line : Addr
  gs : List GL
  lg : LL
  cs : Addr
  cm : Addr
  cdx : Addr
  ents : List Ent
def HLay.own (L : HLay) : List Addr := [L.self, L.owners, L.broken, L.groups, L.line]
def hF (L : HLay) (h : Hl) : List (Str × V) := [("price", nV h.price), ("lend", nV h.lend), ("owners", .ref L.owners), ("broken", .ref L.broken), ("groups", .ref L.groups), ("line", .ref L.line), ("taken", nV h.taken), ("league", .ref L.lg.self), ("counter", .ref L.cs)]
structure OwnAt (a : Ad) (H : Hp) (L : HLay) (h : Hl) : Prop where
  self : H L.self = some (.ins a.CHall L.dx (hF L h))
  owners : H L.owners = some (.lst (h.owners.map optV))
  broken : H L.broken = some (.lst (h.broken.map V.bl))
  groups : H L.groups = some (.lst (L.gs.map fun G => .ref G.self))
  line : H L.line = some (.lst (nL h.line))
  nd : [L.owners, L.broken, L.groups, L.line].Nodup
structure HallAt (P : Program) (w : World) (a : Ad) (H : Hp) (ρ : Addr → Option Tag) (L : HLay) (h : Hl) : Prop where
  own : OwnAt a H L h
  glen : L.gs.length = h.groups.length
  grp : ∀ (i : Nat) (G : GL) (g : Grp), L.gs[i]? = some G → h.groups[i]? = some g → GroupAt a H G g
  lg : LeagueAt a H L.lg h.league
  cnt : CntAt P w a H L.cs L.cm L.cdx L.ents
  th : ∀ b ∈ L.own, ρ b = some .h
  tg : ∀ (i : Nat) (G : GL), L.gs[i]? = some G → ∀ b ∈ G.fp, ρ b = some (.g i)
  tl : ∀ b ∈ L.lg.fp, ρ b = some .l
  tc : ρ L.cs = some .c ∧ ρ L.cm = some .c ∧ ∀ e ∈ L.ents, ρ e.va = some .c
  tr : ∀ b, ρ b ≠ none → H b ≠ none
/-- what becomes of the hall at s: it is h there; what is not the hall's is as it was -/
def StepL (P : Program) (w : World) (a : Ad) (H : Hp) (ρ : Addr → Option Tag) (L : HLay) (h : Hl) (H' : Hp) : Prop :=
  ∃ ρ', HallAt P w a H' ρ' L h ∧ Kept (fun b => ρ b ≠ none) H H' ∧ ∀ b, ρ' b ≠ none → ρ b ≠ none ∨ H b = none
def Step (P : Program) (w : World) (a : Ad) (H : Hp) (ρ : Addr → Option Tag) (s : Addr) (h : Hl) (H' : Hp) : Prop := ∃ L, L.self = s ∧ StepL P w a H ρ L h H'
section
variable {P : Program} {w : World} {K : PySem.W.Frag} {mg : Str → Option Value} {base : Heap} {a : Ad} {H H' H1 : Hp} {ρ : Addr → Option Tag} {L : HLay} {h h' : Hl} {s : Addr}
theorem OwnAt.keep (x : OwnAt a H L h) (k : ∀ b ∈ L.own, ∀ o, H b = some o → H' b = some o) : OwnAt a H' L h :=
  ⟨k _ (by simp [HLay.own]) _ x.self, k _ (by simp [HLay.own]) _ x.owners, k _ (by simp [HLay.own]) _ x.broken, k _ (by simp [HLay.own]) _ x.groups, k _ (by simp [HLay.own]) _ x.line, x.nd⟩
theorem OwnAt.up (x : OwnAt a H L h) (z : Same H H') : OwnAt a H' L h := x.keep fun b _ o e => z b o e
theorem OwnAt.what (x : OwnAt a H L h) {b : Addr} (hb : b ∈ L.own) : ∃ o, H b = some o ∧ isTup o = false := by
  simp only [HLay.own, List.mem_cons, List.not_mem_nil, or_false] at hb
  rcases hb with e | e | e | e | e <;> subst e
  · exact ⟨_, x.self, rfl⟩
  · exact ⟨_, x.owners, rfl⟩
  · exact ⟨_, x.broken, rfl⟩
  · exact ⟨_, x.groups, rfl⟩
  · exact ⟨_, x.line, rfl⟩
theorem OwnAt.apart (x : OwnAt a H L h) : L.self ≠ L.owners ∧ L.self ≠ L.broken ∧ L.self ≠ L.groups ∧ L.self ≠ L.line ∧ L.owners ≠ L.broken ∧ L.owners ≠ L.groups ∧ L.owners ≠ L.line ∧ L.broken ≠ L.groups ∧ L.broken ≠ L.line ∧ L.groups ≠ L.line := by
  have n := x.nd
  simp only [List.nodup_cons, List.mem_cons, List.not_mem_nil, or_false, not_or] at n
  refine ⟨fun z => ?_, fun z => ?_, fun z => ?_, fun z => ?_, n.1.1, n.1.2.1, n.1.2.2, n.2.1.1, n.2.1.2, n.2.2.1⟩
  · have := x.self; rw [z, x.owners] at this; cases this
  · have := x.self; rw [z, x.broken] at this; cases this
  · have := x.self; rw [z, x.groups] at this; cases this
  · have := x.self; rw [z, x.line] at this; cases this
theorem HallAt.gget (x : HallAt P w a H ρ L h) {i : Nat} (hi : i < h.groups.length) : ∃ G, L.gs[i]? = some G ∧ GroupAt a H G (h.grp i) := by
  have hi2 : i < L.gs.length := by rw [x.glen]; exact hi
  have e : h.groups[i]? = some (h.grp i) := by
    unfold Hl.grp; rw [List.getD_eq_getElem?_getD, List.getElem?_eq_getElem hi]; rfl
  exact ⟨_, List.getElem?_eq_getElem hi2, x.grp i _ _ (List.getElem?_eq_getElem hi2) e⟩
theorem HallAt.none_tag (x : HallAt P w a H ρ L h) {b : Addr} (e : H b = none) : ρ b = none := by
  cases q : ρ b with
  | none => rfl
  | some t => exact absurd e (x.tr b (by rw [q]; exact fun z => nomatch z))
/-- the heap's other parts as they were: the hall is the same -/
theorem HallAt.keep (x : HallAt P w a H ρ L h) (k : ∀ b o, H b = some o → (ρ b ≠ none ∨ isTup o = true) → H' b = some o) (t : ∀ b, ρ b ≠ none → H' b ≠ none) : HallAt P w a H' ρ L h := by
  have n : ∀ {b t}, ρ b = some t → ρ b ≠ none := fun e z => by rw [e] at z; cases z
  refine ⟨x.own.keep fun b hb o e => k b o e (.inl (n (x.th b hb))), x.glen, fun i G g h1 h2 => (x.grp i G g h1 h2).keep fun b hb o e => k b o e (.inl (n (x.tg i G h1 b hb))), x.lg.keep fun b hb o e => k b o e (.inl (n (x.tl b hb))), x.cnt.keep fun b o e hb => ?_, x.th, x.tg, x.tl, x.tc, t⟩
  rcases hb with z | z | ⟨e2, he2, z⟩ | z
  · exact k b o e (.inl (by rw [z]; exact n x.tc.1))
  · exact k b o e (.inl (by rw [z]; exact n x.tc.2.1))
  · exact k b o e (.inl (by rw [z]; exact n (x.tc.2.2 e2 he2)))
  · exact k b o e (.inr z)
theorem HallAt.up (x : HallAt P w a H ρ L h) (z : Same H H') : HallAt P w a H' ρ L h := x.keep (fun b o e _ => z b o e) fun b hb e => x.tr b hb (z.free e)
theorem HallAt.stayL (x : HallAt P w a H ρ L h) (z : Same H H') : StepL P w a H ρ L h H' := ⟨ρ, x.up z, Kept.of z, fun b hb => .inl hb⟩
theorem HallAt.stay (x : HallAt P w a H ρ L h) (z : Same H H') : Step P w a H ρ L.self h H' := ⟨L, rfl, x.stayL z⟩
theorem StepL.bind {L1 L2 : HLay} {h1 h2 : Hl} {H2 : Hp} (x : StepL P w a H ρ L1 h1 H1) (y : ∀ ρ1, HallAt P w a H1 ρ1 L1 h1 → StepL P w a H1 ρ1 L2 h2 H2) : StepL P w a H ρ L2 h2 H2 := by
  obtain ⟨ρ1, x1, k1, g1⟩ := x
  obtain ⟨ρ2, x2, k2, g2⟩ := y ρ1 x1
  have g12 : ∀ b, ρ2 b ≠ none → ρ b ≠ none ∨ H b = none := fun b hb => by
    rcases g2 b hb with h | h
    · exact g1 b h
    · cases e : H b with
      | none => exact .inr rfl
      | some o =>
        refine .inl fun z => ?_
        have := k1 b o e fun q => absurd z q
        rw [h] at this; cases this
  refine ⟨ρ2, x2, fun b o e t => ?_, g12⟩
  refine k2 b o (k1 b o e t) fun q => ?_
  rcases g1 b q with h | h
  · exact t h
  · rw [e] at h; cases h
theorem StepL.step (x : StepL P w a H ρ L h H') : Step P w a H ρ L.self h H' := ⟨L, rfl, x⟩
theorem StepL.to (x : StepL P w a H ρ L h H') (e : L.self = s) : Step P w a H ρ s h H' := ⟨L, e, x⟩
theorem Step.bind {h1 h2 : Hl} {H2 : Hp} (x : Step P w a H ρ s h1 H1) (y : ∀ ρ1 L1, L1.self = s → HallAt P w a H1 ρ1 L1 h1 → Step P w a H1 ρ1 s h2 H2) : Step P w a H ρ s h2 H2 := by
  obtain ⟨L1, e1, ρ1, x1, k1, g1⟩ := x
  obtain ⟨L2, e2, y2⟩ := y ρ1 L1 e1 x1
  refine ⟨L2, e2, ?_⟩
  obtain ⟨ρ2, x2, k2, g2⟩ := y2
  refine ⟨ρ2, x2, fun b o e t => ?_, fun b hb => ?_⟩
  · refine k2 b o (k1 b o e t) fun q => ?_
    rcases g1 b q with h | h
    · exact t h
    · rw [e] at h; cases h
  · rcases g2 b hb with h | h
    · exact g1 b h
    · cases e : H b with
      | none => exact .inr rfl
      | some o =>
        refine .inl fun z => ?_
        have := k1 b o e fun q => absurd z q
        rw [h] at this; cases this
theorem Step.up {H2 : Hp} (x : Step P w a H ρ s h H1) (z : Same H1 H2) : Step P w a H ρ s h H2 := x.bind fun ρ1 L1 e x1 => e ▸ x1.stay z
theorem StepL.up {H2 : Hp} (x : StepL P w a H ρ L h H1) (z : Same H1 H2) : StepL P w a H ρ L h H2 := x.bind fun ρ1 x1 => x1.stayL z
/-- after growth of the heap alone -/
theorem StepL.from {L2 : HLay} {h2 : Hl} {H2 : Hp} (z : Same H H1) (y : StepL P w a H1 ρ L2 h2 H2) : StepL P w a H ρ L2 h2 H2 := by
  obtain ⟨ρ2, x2, k2, g2⟩ := y
  refine ⟨ρ2, x2, fun b o e t => k2 b o (z b o e) t, fun b hb => ?_⟩
  rcases g2 b hb with h | h
  · exact .inl h
  · exact .inr (z.free h)
theorem Step.from {h2 : Hl} {H2 : Hp} (z : Same H H1) (y : Step P w a H1 ρ s h2 H2) : Step P w a H ρ s h2 H2 := by
  obtain ⟨L2, e2, y2⟩ := y
  exact ⟨L2, e2, y2.from z⟩
/-- a group changes -/
theorem HallAt.setG (x : HallAt P w a H ρ L h) {i : Nat} {G G' : GL} {g' : Grp} (hG : L.gs[i]? = some G) (y : GroupAt a H' G' g') (es : G'.self = G.self) (k : Kept (fun b => b ∈ G.fp) H H') (gr : ∀ b ∈ G'.fp, b ∈ G.fp ∨ H b = none) :
    StepL P w a H ρ { L with gs := L.gs.set i G' } (h.setGrp i g') H' := by
  have hi : i < L.gs.length := (List.getElem?_eq_some_iff.mp hG).1
  have n : ∀ {b t}, ρ b = some t → t ≠ .g i → b ∉ G.fp := fun e q hb => q (by rw [x.tg i G hG _ hb] at e; exact (Option.some.inj e).symm)
  have n' : ∀ {b t}, ρ b = some t → t ≠ .g i → b ∉ G'.fp := fun e q hb => by
    rcases gr _ hb with h | h
    · exact n e q h
    · exact x.tr _ (by rw [e]; exact fun z => nomatch z) h
  have kp : ∀ {b t o}, ρ b = some t → t ≠ .g i → H b = some o → H' b = some o := fun e q h => k _ _ h fun z => absurd z (n e q)
  refine ⟨fun b => if b ∈ G'.fp then some (.g i) else if b ∈ G.fp then none else ρ b, ⟨?_, ?_, ?_, ?_, ?_, ?_, ?_, ?_, ?_, ?_⟩, ?_, ?_⟩
  · have o : OwnAt a H' L h := x.own.keep fun b hb o e => kp (x.th b hb) (fun z => nomatch z) e
    refine ⟨o.self, o.owners, o.broken, ?_, o.line, o.nd⟩
    show H' L.groups = some (.lst ((L.gs.set i G').map fun G => .ref G.self))
    rw [o.groups]
    congr 2
    rw [List.map_set, es]
    refine (List.ext_getElem? fun j => ?_).symm
    by_cases c : j = i
    · subst c
      rw [List.getElem?_set_self (by rw [List.length_map]; exact hi), List.getElem?_map, hG]; rfl
    · rw [List.getElem?_set_ne (Ne.symm c)]
  · show (L.gs.set i G').length = (h.groups.set i g').length
    rw [List.length_set, List.length_set]; exact x.glen
  · intro j U u h1 h2
    have h1' : (L.gs.set i G')[j]? = some U := h1
    have h2' : (h.groups.set i g')[j]? = some u := h2
    by_cases c : j = i
    · subst c
      rw [List.getElem?_set_self hi] at h1'
      rw [List.getElem?_set_self (by rw [← x.glen]; exact hi)] at h2'
      cases h1'
      cases h2'
      exact y
    · rw [List.getElem?_set_ne (Ne.symm c)] at h1' h2'
      exact (x.grp j U u h1' h2').keep fun b hb o e => kp (x.tg j U h1' b hb) (fun z => c (Tag.g.inj z)) e
  · exact x.lg.keep fun b hb o e => kp (x.tl b hb) (fun z => nomatch z) e
  · refine x.cnt.keep fun b o e hb => ?_
    rcases hb with z | z | ⟨e2, he2, z⟩ | z
    · exact kp (t := .c) (by rw [z]; exact x.tc.1) (fun z => nomatch z) e
    · exact kp (t := .c) (by rw [z]; exact x.tc.2.1) (fun z => nomatch z) e
    · exact kp (t := .c) (by rw [z]; exact x.tc.2.2 e2 he2) (fun z => nomatch z) e
    · exact k b o e fun _ => z
  · intro b hb
    show (if b ∈ G'.fp then _ else _) = _
    rw [if_neg (n' (x.th b hb) fun z => nomatch z), if_neg (n (x.th b hb) fun z => nomatch z)]; exact x.th b hb
  · intro j U h1 b hb
    have h1' : (L.gs.set i G')[j]? = some U := h1
    show (if b ∈ G'.fp then _ else _) = _
    by_cases c : j = i
    · subst c
      rw [List.getElem?_set_self hi] at h1'
      cases h1'
      rw [if_pos hb]
    · rw [List.getElem?_set_ne (Ne.symm c)] at h1'
      rw [if_neg (n' (x.tg j U h1' b hb) fun z => c (Tag.g.inj z)), if_neg (n (x.tg j U h1' b hb) fun z => c (Tag.g.inj z))]; exact x.tg j U h1' b hb
  · intro b hb
    show (if b ∈ G'.fp then _ else _) = _
    rw [if_neg (n' (x.tl b hb) fun z => nomatch z), if_neg (n (x.tl b hb) fun z => nomatch z)]; exact x.tl b hb
  · refine ⟨?_, ?_, fun e he => ?_⟩ <;> show (if _ ∈ G'.fp then _ else _) = _
    · rw [if_neg (n' x.tc.1 fun z => nomatch z), if_neg (n x.tc.1 fun z => nomatch z)]; exact x.tc.1
    · rw [if_neg (n' x.tc.2.1 fun z => nomatch z), if_neg (n x.tc.2.1 fun z => nomatch z)]; exact x.tc.2.1
    · rw [if_neg (n' (x.tc.2.2 e he) fun z => nomatch z), if_neg (n (x.tc.2.2 e he) fun z => nomatch z)]; exact x.tc.2.2 e he
  · intro b hb e
    have hb' : (if b ∈ G'.fp then some (Tag.g i) else if b ∈ G.fp then none else ρ b) ≠ none := hb
    by_cases c : b ∈ G'.fp
    · obtain ⟨o, e2, _⟩ := y.what c
      rw [e] at e2; cases e2
    · rw [if_neg c] at hb'
      by_cases c2 : b ∈ G.fp
      · rw [if_pos c2] at hb'; exact hb' rfl
      · rw [if_neg c2] at hb'
        cases e3 : H b with
        | none => exact x.tr b hb' e3
        | some o => rw [k b o e3 fun z => absurd z c2] at e; cases e
  · exact k.mono fun b hb z => by rw [x.tg i G hG b hb] at z; cases z
  · intro b hb
    have hb' : (if b ∈ G'.fp then some (Tag.g i) else if b ∈ G.fp then none else ρ b) ≠ none := hb
    by_cases c : b ∈ G'.fp
    · rcases gr b c with h | h
      · exact .inl fun z => by rw [x.tg i G hG b h] at z; cases z
      · exact .inr h
    · rw [if_neg c] at hb'
      by_cases c2 : b ∈ G.fp
      · rw [if_pos c2] at hb'; exact absurd rfl hb'
      · rw [if_neg c2] at hb'; exact .inl hb'
/-- the league changes -/
theorem HallAt.setL (x : HallAt P w a H ρ L h) {q : Lg} (y : LeagueAt a H' L.lg q) (k : Kept (fun b => b ∈ L.lg.fp) H H') : StepL P w a H ρ L { h with league := q } H' := by
  have n : ∀ {b t}, ρ b = some t → t ≠ .l → b ∉ L.lg.fp := fun e q hb => q (by rw [x.tl _ hb] at e; exact (Option.some.inj e).symm)
  have kp : ∀ {b o} (t : Tag), ρ b = some t → t ≠ .l → H b = some o → H' b = some o := fun t e q h => k _ _ h fun z => absurd z (n e q)
  refine ⟨ρ, ⟨?_, x.glen, ?_, y, ?_, x.th, x.tg, x.tl, x.tc, ?_⟩, ?_, fun b hb => .inl hb⟩
  · have o : OwnAt a H' L h := x.own.keep fun b hb o e => kp .h (x.th b hb) (fun z => nomatch z) e
    exact ⟨o.self, o.owners, o.broken, o.groups, o.line, o.nd⟩
  · exact fun i G g h1 h2 => (x.grp i G g h1 h2).keep fun b hb o e => kp (.g i) (x.tg i G h1 b hb) (fun z => nomatch z) e
  · refine x.cnt.keep fun b o e hb => ?_
    rcases hb with z | z | ⟨e2, he2, z⟩ | z
    · exact kp .c (by rw [z]; exact x.tc.1) (fun z => nomatch z) e
    · exact kp .c (by rw [z]; exact x.tc.2.1) (fun z => nomatch z) e
    · exact kp .c (by rw [z]; exact x.tc.2.2 e2 he2) (fun z => nomatch z) e
    · exact k b o e fun _ => z
  · intro b hb e
    by_cases c : b ∈ L.lg.fp
    · obtain ⟨o, e2, _⟩ := y.what c
      rw [e] at e2; cases e2
    · cases e3 : H b with
      | none => exact x.tr b hb e3
      | some o => rw [k b o e3 fun z => absurd z c] at e; cases e
  · exact k.mono fun b hb z => by rw [x.tl b hb] at z; cases z
/-- the counter's memo grows -/
theorem HallAt.setC (x : HallAt P w a H ρ L h) {l' : List Ent} (y : CntAt P w a H' L.cs L.cm L.cdx l') (k : Kept (fun b => b = L.cm) H H') (fr : ∀ e ∈ l', e ∈ L.ents ∨ H e.va = none) : StepL P w a H ρ { L with ents := l' } h H' := by
  have n : ∀ {b t}, ρ b = some t → t ≠ .c → b ≠ L.cm := fun e q hb => q (by rw [hb, x.tc.2.1] at e; exact (Option.some.inj e).symm)
  have kp : ∀ {b o} (t : Tag), ρ b = some t → t ≠ .c → H b = some o → H' b = some o := fun t e q h => k _ _ h fun z => absurd z (n e q)
  have nv : ∀ {b t}, ρ b = some t → t ≠ .c → b ∉ l'.map (·.va) := fun e q hb => by
    obtain ⟨e2, he2, z⟩ := List.mem_map.mp hb
    rcases fr e2 he2 with h | h
    · have := x.tc.2.2 e2 h
      rw [z, e] at this
      exact q (Option.some.inj this)
    · exact x.tr _ (by rw [e]; exact fun z => nomatch z) (z ▸ h)
  refine ⟨fun b => if b ∈ l'.map (·.va) then some .c else ρ b, ⟨?_, x.glen, ?_, ?_, y, ?_, ?_, ?_, ?_, ?_⟩, ?_, ?_⟩
  · have o : OwnAt a H' L h := x.own.keep fun b hb o e => kp .h (x.th b hb) (fun z => nomatch z) e
    exact ⟨o.self, o.owners, o.broken, o.groups, o.line, o.nd⟩
  · exact fun i G g h1 h2 => (x.grp i G g h1 h2).keep fun b hb o e => kp (.g i) (x.tg i G h1 b hb) (fun z => nomatch z) e
  · exact x.lg.keep fun b hb o e => kp .l (x.tl b hb) (fun z => nomatch z) e
  · intro b hb
    show (if _ then _ else _) = _
    rw [if_neg (nv (x.th b hb) fun z => nomatch z)]; exact x.th b hb
  · intro i G h1 b hb
    show (if _ then _ else _) = _
    rw [if_neg (nv (x.tg i G h1 b hb) fun z => nomatch z)]; exact x.tg i G h1 b hb
  · intro b hb
    show (if _ then _ else _) = _
    rw [if_neg (nv (x.tl b hb) fun z => nomatch z)]; exact x.tl b hb
  · have cc : ∀ b, ρ b = some .c → (if b ∈ l'.map (·.va) then some Tag.c else ρ b) = some .c := fun b e => by
      split
      · rfl
      · exact e
    exact ⟨cc _ x.tc.1, cc _ x.tc.2.1, fun e he => if_pos (List.mem_map.mpr ⟨e, he, rfl⟩)⟩
  · intro b hb e
    have hb' : (if b ∈ l'.map (·.va) then some Tag.c else ρ b) ≠ none := hb
    by_cases c : b ∈ l'.map (·.va)
    · obtain ⟨e2, he2, z⟩ := List.mem_map.mp c
      rw [← z, y.vals e2 he2] at e; cases e
    · rw [if_neg c] at hb'
      by_cases c2 : b = L.cm
      · rw [c2, y.memo] at e; cases e
      · cases e3 : H b with
        | none => exact x.tr b hb' e3
        | some o => rw [k b o e3 fun z => absurd z c2] at e; cases e
  · exact k.mono fun b hb z => by rw [hb, x.tc.2.1] at z; cases z
  · intro b hb
    have hb' : (if b ∈ l'.map (·.va) then some Tag.c else ρ b) ≠ none := hb
    by_cases c : b ∈ l'.map (·.va)
    · obtain ⟨e2, he2, z⟩ := List.mem_map.mp c
      rcases fr e2 he2 with h | h
      · exact .inl fun q => by rw [← z, x.tc.2.2 e2 h] at q; cases q
      · exact .inr (z ▸ h)
    · rw [if_neg c] at hb'; exact .inl hb'
/-- the hall's own lists and numbers change; the line may be a new list -/
theorem HallAt.setO (x : HallAt P w a H ρ L h) {ln : Addr} (o : OwnAt a H' { L with line := ln } h') (k : Kept (fun b => b ∈ L.own) H H') (fr : ln = L.line ∨ H ln = none) (e1 : h'.groups = h.groups) (e2 : h'.league = h.league) : StepL P w a H ρ { L with line := ln } h' H' := by
  have n : ∀ {b t}, ρ b = some t → t ≠ .h → b ∉ L.own := fun e q hb => q (by rw [x.th _ hb] at e; exact (Option.some.inj e).symm)
  have kp : ∀ {b o} (t : Tag), ρ b = some t → t ≠ .h → H b = some o → H' b = some o := fun t e q h => k _ _ h fun z => absurd z (n e q)
  have ln' : ∀ b ∈ HLay.own { L with line := ln }, b ∈ L.own ∨ (b = ln ∧ H ln = none) := fun b hb => by
    simp only [HLay.own, List.mem_cons, List.not_mem_nil, or_false] at hb ⊢
    rcases hb with z | z | z | z | z
    · exact .inl (.inl z)
    · exact .inl (.inr (.inl z))
    · exact .inl (.inr (.inr (.inl z)))
    · exact .inl (.inr (.inr (.inr (.inl z))))
    · rcases fr with q | q
      · exact .inl (.inr (.inr (.inr (.inr (by rw [z]; exact q)))))
      · exact .inr ⟨z, q⟩
  have no : ∀ {b t}, ρ b = some t → t ≠ .h → b ∉ HLay.own { L with line := ln } := fun e q hb => by
    rcases ln' _ hb with z | ⟨z, q2⟩
    · exact n e q z
    · exact x.tr _ (by rw [e]; exact fun z => nomatch z) (z ▸ q2)
  refine ⟨fun b => if b ∈ HLay.own { L with line := ln } then some .h else if b ∈ L.own then none else ρ b, ⟨o, by rw [e1]; exact x.glen, ?_, ?_, ?_, ?_, ?_, ?_, ?_, ?_⟩, ?_, ?_⟩
  · intro i G g h1 h2
    rw [e1] at h2
    exact (x.grp i G g h1 h2).keep fun b hb o e => kp (.g i) (x.tg i G h1 b hb) (fun z => nomatch z) e
  · rw [e2]; exact x.lg.keep fun b hb o e => kp .l (x.tl b hb) (fun z => nomatch z) e
  · refine x.cnt.keep fun b o e hb => ?_
    rcases hb with z | z | ⟨e2, he2, z⟩ | z
    · exact kp .c (by rw [z]; exact x.tc.1) (fun z => nomatch z) e
    · exact kp .c (by rw [z]; exact x.tc.2.1) (fun z => nomatch z) e
    · exact kp .c (by rw [z]; exact x.tc.2.2 e2 he2) (fun z => nomatch z) e
    · exact k b o e fun _ => z
  · exact fun b hb => if_pos hb
  · intro i G h1 b hb
    have t := x.tg i G h1 b hb
    show (if _ then _ else _) = _
    rw [if_neg (no t fun z => nomatch z), if_neg (n t fun z => nomatch z)]; exact t
  · intro b hb
    have t := x.tl b hb
    show (if _ then _ else _) = _
    rw [if_neg (no t fun z => nomatch z), if_neg (n t fun z => nomatch z)]; exact t
  · have cc : ∀ b, ρ b = some .c → (if b ∈ HLay.own { L with line := ln } then some Tag.h else if b ∈ L.own then none else ρ b) = some .c := fun b t => by
      rw [if_neg (no t fun z => nomatch z), if_neg (n t fun z => nomatch z)]; exact t
    exact ⟨cc _ x.tc.1, cc _ x.tc.2.1, fun e he => cc _ (x.tc.2.2 e he)⟩
  · intro b hb e
    have hb' : (if b ∈ HLay.own { L with line := ln } then some Tag.h else if b ∈ L.own then none else ρ b) ≠ none := hb
    by_cases c : b ∈ HLay.own { L with line := ln }
    · obtain ⟨o2, e3, _⟩ := o.what c
      rw [e] at e3; cases e3
    · rw [if_neg c] at hb'
      by_cases c2 : b ∈ L.own
      · rw [if_pos c2] at hb'; exact hb' rfl
      · rw [if_neg c2] at hb'
        cases e3 : H b with
        | none => exact x.tr b hb' e3
        | some o => rw [k b o e3 fun z => absurd z c2] at e; cases e
  · exact k.mono fun b hb z => by rw [x.th b hb] at z; cases z
  · intro b hb
    have hb' : (if b ∈ HLay.own { L with line := ln } then some Tag.h else if b ∈ L.own then none else ρ b) ≠ none := hb
    by_cases c : b ∈ HLay.own { L with line := ln }
    · rcases ln' b c with z | ⟨z, q⟩
      · exact .inl fun q => by rw [x.th b z] at q; cases q
      · exact .inr (z ▸ q)
    · rw [if_neg c] at hb'
      by_cases c2 : b ∈ L.own
      · rw [if_pos c2] at hb'; exact absurd rfl hb'
      · rw [if_neg c2] at hb'; exact .inl hb'
end
end Bw

/-! the walk: ask; the hall's methods, part one -/
namespace Bw
open PySem PySem.Spec PyProof.Rows L2
section
variable {P : Program} {w : World} {K : PySem.W.Frag} {mg : Str → Option Value} {base : Heap} {a : Ad} {H H' H1 : Hp} {ρ : Addr → Option Tag} {L : HLay} {h h' : Hl} {s : Addr}
/-! ### ask -/
def sp_ask (P : Program) (w : World) (K : PySem.W.Frag) (a : Ad) : Sp := fun vs H Q E => ∃ (b : Bool) (r : Int), vs = [.bl b, .int r] ∧ (b = true → Q .non H) ∧ (b = false → Ref a H E r)
theorem l_ask : ∀ vs H Q E, sp_ask P w K a vs H Q E → vs.length = 2 := by
  rintro vs H Q E ⟨b, r, rfl, _⟩; rfl
abbrev s_ask : Stmt := top 38
abbrev N_ask : List Str := ["good", "refusal"]
theorem sc_ask : FnScope N_ask ["good", "refusal"] (defScope s_ask) := ⟨rfl, rfl, rfl, by decide +kernel, rfl, by decide +kernel, by decide +kernel⟩
def t_ask (P : Program) (w : World) (K : PySem.W.Frag) (a : Ad) (E : XK) : TS :=
  (tIfS (tNot (tB (tVar 0))) (tRaiseLow a.CR (fun cls d _ H => E cls d H) (tCons (tVar 1) tNil)) tNext)
theorem d_ask {P : Program} {w : World} {K : PySem.W.Frag} {mg : Str → Option Value} {base : Heap} {a : Ad} (T : Txt K mg a)  {f : Addr} {cdv : Value} {A : Around} {outer : List Env} {s : Shared} {H : Hp} {E : XK}
    (hr : Room 2 (A.deeper (envOfC "ask" (defScope s_ask) s.heap.objs.size f cdv))) : PSs (cxOf (L2.CX P w) P w K mg base N_ask "ask" (defScope s_ask) f cdv A outer s H E) (defBody s_ask) (t_ask P w K a E) :=
  (pss_one (ps_if (pt_not (pt_val (pv 0))) (pss_one (ps_raiseLow rfl T.low hr (takes_of rfl rfl rfl rfl) (by exact (pa_cons (pv 1) pa_nil)))) pss_nil))
theorem p_ask (T : Txt K mg a) {vs : List V} {Q : VK} {E : XK} (h : sp_ask P w K a vs H Q E) :
    t_ask P w K a E { nx := fun _ H' => Q .non H', rt := Q } (start N_ask vs) H := by
  obtain ⟨b, r, rfl, q1, q2⟩ := h
  refine ⟨_, rfl, b, rfl, ?_⟩
  cases b with
  | true => exact ite_false_of (by simp) (q1 rfl)
  | false => exact ite_true_of rfl ⟨_, rfl, _, rfl, fun d hd => q2 rfl _ _ (same_upd hd) hd upd_same⟩
theorem ok_ask {P : Program} {w : World} {K : PySem.W.Frag} {mg : Str → Option Value} {base : Heap} {a : Ad} (T : Txt K mg a) : CalB P w K mg base (L2.CX P w) 3 "ask" (sp_ask P w K a) :=
  CalB.mkX T.f_ask sc_ask l_ask fun f cdv A outer s H vs Q E hr h => ⟨_, d_ask T  hr, p_ask T h⟩
/-! ### values of an owner -/
theorem optV_non (o : Option Nat) : decide (optV o = V.non) = o.isNone := by
  cases o with
  | none => rfl
  | some n => rfl
theorem optV_inj {a b : Option Nat} (h : optV a = optV b) : a = b := by
  cases a with
  | none => cases b with
    | none => rfl
    | some n => cases h
  | some m => cases b with
    | none => cases h
    | some n => exact congrArg some (nV_inj.mp h)
theorem ixN_nat {n k : Nat} (h : k < n) : ixN n (k : Int) = some k := by
  unfold ixN
  rw [if_pos (by omega), if_pos (by omega), Int.toNat_natCast]
theorem atI_map {α : Type} {f : α → V} {l : List α} {i : Nat} {x : α} (h : l[i]? = some x) : atI (l.map f) (i : Int) = some (f x) := atI_nat (j := i) (by rw [List.getElem?_map, h]; rfl)
theorem owner_at {h : Hl} {k : Nat} (hk : k < h.owners.length) : h.owners[k]? = some (h.owner k) := by
  unfold Hl.owner; rw [List.getD_eq_getElem?_getD, List.getElem?_eq_getElem hk]; rfl
theorem broken_at {h : Hl} {k : Nat} (hk : k < h.broken.length) : h.broken[k]? = some (h.isBroken k) := by
  unfold Hl.isBroken; rw [List.getD_eq_getElem?_getD, List.getElem?_eq_getElem hk]; rfl
/-- what the walk asks of the lanes -/
def LanesOk (h : Hl) : Prop := h.owners.length ≤ 1000 ∧ h.broken.length = h.owners.length
/-! ### Hall.free_lanes -/
def sp_Hall_free_lanes (P : Program) (w : World) (K : PySem.W.Frag) (a : Ad) : Sp := fun vs H Q _ => ∃ (L : HLay) (h : Hl), vs = [.ref L.self] ∧ OwnAt a H L h ∧ LanesOk h ∧ ∀ H' p, Same H H' → H p = none → H' p = some (.lst (nL h.freeLanes)) → Q (.ref p) H'
theorem l_Hall_free_lanes : ∀ vs H Q E, sp_Hall_free_lanes P w K a vs H Q E → vs.length = 1 := by
  rintro vs H Q E ⟨x, y, rfl, _⟩; rfl
abbrev s_Hall_free_lanes : Stmt := inClass (top 39) 1
abbrev N_Hall_free_lanes : List Str := ["self", "k"]
theorem sc_Hall_free_lanes : FnScope N_Hall_free_lanes ["self"] (defScope s_Hall_free_lanes) := ⟨rfl, rfl, rfl, by decide +kernel, rfl, by decide +kernel, by decide +kernel⟩
def t_Hall_free_lanes (P : Program) (w : World) (K : PySem.W.Frag) (a : Ad) (E : XK) : TS :=
  (tRet (tLc (iRng1 (tCons (tCB (rLenB K) (tCons (tFld K (tVar 0) "owners") tNil)) tNil)) (gName 1) (tAnd (tB (tIsN (tOp (rIxL K) (tFld K (tVar 0) "owners") (tVar 1)))) (tNot (tB (tOp (rIxL K) (tFld K (tVar 0) "broken") (tVar 1))))) (tVar 1) [1]))
theorem d_Hall_free_lanes {P : Program} {w : World} {K : PySem.W.Frag} {mg : Str → Option Value} {base : Heap} {a : Ad} (T : Txt K mg a)  {f : Addr} {cdv : Value} {A : Around} {outer : List Env} {s : Shared} {H : Hp} {E : XK}
    (hr : Room 0 (A.deeper (envOfC "Hall.free_lanes" (defScope s_Hall_free_lanes) s.heap.objs.size f cdv))) : PSs (cxOf CX0 P w K mg base N_Hall_free_lanes "Hall.free_lanes" (defScope s_Hall_free_lanes) f cdv A outer s H E).nox (defBody s_Hall_free_lanes) (t_Hall_free_lanes P w K a E) :=
  (pss_one (ps_ret (pe_lc (own := [("k", 1)]) (g := (gName 1)) (tt := (tAnd (tB (tIsN (tOp (rIxL K) (tFld K (tVar 0) "owners") (tVar 1)))) (tNot (tB (tOp (rIxL K) (tFld K (tVar 0) "broken") (tVar 1)))))) (te := (tVar 1)) rfl sc_Hall_free_lanes.nd (pi_range1 rfl T.n_range (pa_cons (pe_callB call_len (by rfl) T.n_len PySem.boot_len (pa_cons (pe_fld (pv 0) rfl) pa_nil)) pa_nil)) (blkOk_by (N := N_Hall_free_lanes) (sc := (defScope s_Hall_free_lanes)) (by decide +kernel)) (fun _ _ _ _ _ => (pg_name (i := 1) sc_Hall_free_lanes.nd rfl (by first | exact Or.inl rfl | exact Or.inr rfl))) (fun _ _ _ _ _ => (pts_one (PW.pt (pw_and (pt_cmp (pc_isN (pe_ix ix_list (pe_fld (pv 0) rfl) (pv 1) (fun _ _ => rfl))) rfl) (pw_and1 (pt_not (pt_val (pe_ix ix_list (pe_fld (pv 0) rfl) (pv 1) (fun _ _ => rfl))))))))) (fun _ _ _ _ _ => (pv 1)))))
theorem p_Hall_free_lanes (T : Txt K mg a) {vs : List V} {Q : VK} {E : XK} (h : sp_Hall_free_lanes P w K a vs H Q E) :
    t_Hall_free_lanes P w K a E { nx := fun _ H' => Q .non H', rt := Q } (start N_Hall_free_lanes vs) H := by
  obtain ⟨L, h, rfl, ho, ⟨hz, hb⟩, q⟩ := h
  have hlen : (h.owners.map optV).length = h.owners.length := List.length_map _
  refine ⟨_, rfl, _, _, _, _, _, rfl, ho.self, T.c_Hall, T.a_Hall_owners, rfl, _, _, rfl, .inl ⟨_, lp ho.owners, rfl⟩, _, rfl, by rw [hlen]; omega, by rw [hlen]; omega, ?_⟩
  rw [hlen, Int.toNat_natCast]
  refine lc_out (walk_nat (n := h.owners.length)) (filt (fun j => (h.owner j).isNone && !h.isBroken j) nV) (by omega) yfn_same (fun _ _ => trivial) rfl (fun i _ => filt_len _ _ _) (fun i x Ha Hb Qy Qn hi sa y qy qn => ?_) fun H1 D s1 hD e1 => q H1 D s1 hD e1
  obtain ⟨rfl, rfl⟩ := y
  have hoa := ho.up sa
  refine ⟨rfl, _, rfl, _, _, _, _, _, rfl, hoa.self, T.c_Hall, T.a_Hall_owners, rfl, _, rfl, L.owners, _, (i : Int), _, rfl, rfl, lp hoa.owners, atI_map (owner_at hi), _, rfl, ?_⟩
  rw [optV_non]
  refine ite_b (fun c => ?_) (fun c => ?_)
  · refine ⟨_, rfl, _, _, _, _, _, rfl, hoa.self, T.c_Hall, T.a_Hall_broken, rfl, _, rfl, L.broken, _, (i : Int), _, rfl, rfl, lp hoa.broken, atI_map (broken_at (by rw [hb]; exact hi)), _, rfl, ?_⟩
    refine ite_b (fun c2 => ?_) (fun c2 => ?_)
    · exact ⟨_, rfl, qy _ _ (Same.refl _) (filt_yes (by rw [c, c2]; rfl))⟩
    · exact qn _ (Same.refl _) (filt_no (by rw [c, c2]; rfl))
  · exact ite_false_of Bool.false_ne_true (qn _ (Same.refl _) (filt_no (by rw [c]; rfl)))
theorem ok_Hall_free_lanes {P : Program} {w : World} {K : PySem.W.Frag} {mg : Str → Option Value} {base : Heap} {a : Ad} (T : Txt K mg a) : MetB P w K mg base CX0 1 a.CHall "free_lanes" (sp_Hall_free_lanes P w K a) :=
  MetB.mk0 T.f_Hall_free_lanes sc_Hall_free_lanes l_Hall_free_lanes fun f cdv A outer s H vs Q E hr h => ⟨_, d_Hall_free_lanes T  hr, p_Hall_free_lanes T h⟩
/-! ### Hall.give_lanes -/
def sp_Hall_give_lanes (P : Program) (w : World) (K : PySem.W.Frag) (a : Ad) : Sp := fun vs H Q _ => ∃ (L : HLay) (h : Hl), vs = [.ref L.self] ∧ OwnAt a H L h ∧ LanesOk h ∧ ∀ H', OwnAt a H' L h.give → Kept (fun b => b ∈ L.own) H H' → Q .non H'
theorem l_Hall_give_lanes : ∀ vs H Q E, sp_Hall_give_lanes P w K a vs H Q E → vs.length = 1 := by
  rintro vs H Q E ⟨x, y, rfl, _⟩; rfl
abbrev s_Hall_give_lanes : Stmt := inClass (top 39) 2
abbrev N_Hall_give_lanes : List Str := ["self", "lane"]
theorem sc_Hall_give_lanes : FnScope N_Hall_give_lanes ["self"] (defScope s_Hall_give_lanes) := ⟨rfl, rfl, rfl, by decide +kernel, rfl, by decide +kernel, by decide +kernel⟩
def t_Hall_give_lanes (P : Program) (w : World) (K : PySem.W.Frag) (a : Ad) (E : XK) : TS :=
  (tFor (iList K (tMeth a.CHall "free_lanes" (sp_Hall_free_lanes P w K a) [] E0 (tVar 0) tNil)) (gName 1) (tIfS (tTest (tOp rGtI (tCB (rLenB K) (tCons (tFld K (tVar 0) "line") tNil)) (tC (.int 0)))) (tAsg (tBM K "list" rPopAt (tFld K (tVar 0) "line") (tCons (tC (.int 0)) tNil)) (gSub (tFld K (tVar 0) "owners") (tVar 1) rSetL)) tNext))
theorem d_Hall_give_lanes {P : Program} {w : World} {K : PySem.W.Frag} {mg : Str → Option Value} {base : Heap} {a : Ad} (T : Txt K mg a) (c_Hall_free_lanes : MetB P w K mg base CX0 1 a.CHall "free_lanes" (sp_Hall_free_lanes P w K a)) {f : Addr} {cdv : Value} {A : Around} {outer : List Env} {s : Shared} {H : Hp} {E : XK}
    (hr : Room 1 (A.deeper (envOfC "Hall.give_lanes" (defScope s_Hall_give_lanes) s.heap.objs.size f cdv))) : PSs (cxOf CX0 P w K mg base N_Hall_give_lanes "Hall.give_lanes" (defScope s_Hall_give_lanes) f cdv A outer s H E).nox (defBody s_Hall_give_lanes) (t_Hall_give_lanes P w K a E) :=
  (pss_one (ps_for (PassesOwn.never) rfl (pi_list (pm0 c_Hall_free_lanes hr (by decide) pass0 (pv 0))) (pg_name (i := 1) sc_Hall_give_lanes.nd rfl (by first | exact Or.inl rfl | exact Or.inr rfl)) (pss_one (ps_if (pt_cmpR op_gt (pe_callB call_len (by rfl) T.n_len PySem.boot_len (pa_cons (pe_fld (pv 0) rfl) pa_nil)) pe_int (nomark _)) (pss_one (ps_asg (pe_bm PySem.F.plainAttrs_list PySem.F.slot_list_pop PySem.F.type_list_pop mt_popAt (pe_fld (pv 0) rfl) (pa_cons pe_int pa_nil)) (pg_sub (pe_fld (pv 0) rfl) (pv 1) set_list))) pss_nil))))
theorem free_lt {h : Hl} {k : Nat} (hk : k ∈ h.freeLanes) : k < h.owners.length := by
  unfold Hl.freeLanes at hk
  exact List.mem_range.mp (List.mem_filter.mp hk).1
theorem p_Hall_give_lanes (T : Txt K mg a) {vs : List V} {Q : VK} {E : XK} (h : sp_Hall_give_lanes P w K a vs H Q E) :
    t_Hall_give_lanes P w K a E { nx := fun _ H' => Q .non H', rt := Q } (start N_Hall_give_lanes vs) H := by
  obtain ⟨L, h, rfl, ho, ok, q⟩ := h
  refine ⟨_, rfl, L.self, _, _, rfl, ho.self, rfl, L, h, rfl, ho, ok, fun H1 p s1 hp0 hp => ?_⟩
  refine ⟨p, rfl, ⟨_, lp hp⟩, ?_⟩
  have np : p ∉ L.own := fun hm => by
    obtain ⟨o, e, _⟩ := ho.what hm
    rw [hp0] at e; cases e
  refine for_list (fun i σ Hi => ∃ z os ln, σ = [some (.ref L.self), z] ∧ (h.freeLanes.take i).foldl giveStep (h.owners, h.line) = (os, ln) ∧ OwnAt a Hi L { h with owners := os, line := ln } ∧ Kept (fun b => b ∈ L.own) H Hi ∧
      Hi p = some (.lst (nL h.freeLanes)) ∧ os.length = h.owners.length)
    ⟨_, h.owners, h.line, rfl, rfl, ho.up s1, Kept.of s1, hp, rfl⟩ (fun i σ Hi _ ⟨_, _, _, _, _, _, _, hpi, _⟩ => lp hpi) (fun i x σ Hi hx gi => ?_) fun σ Hi gi => ?_
  · obtain ⟨z, os, ln, rfl, ef, hoi, ki, hpi, hli⟩ := gi
    obtain ⟨k, hk, rfl⟩ := getElem?_map_some hx
    have hkm := free_lt (List.mem_of_getElem? hk)
    obtain ⟨n1, n2, n3, n4, n5, n6, n7, n8, n9, n10⟩ := hoi.apart
    have ef' : (h.freeLanes.take (i + 1)).foldl giveStep (h.owners, h.line) = giveStep (os, ln) k := by
      rw [take_snoc hk, List.foldl_append, ef]; rfl
    refine ⟨_, rfl, _, _, _, _, _, rfl, hoi.self, T.c_Hall, T.a_Hall_line, rfl, _, _, rfl, .inl ⟨_, lp hoi.line, rfl⟩, _, _, rfl, rfl, _, rfl, ?_⟩
    rw [nL_length]
    cases ln with
    | nil => exact ite_false_of (by simp) ⟨some (nV k), os, [], rfl, ef', hoi, ki, hpi, hli⟩
    | cons g r =>
      refine ite_true_of (by simp) ?_
      have hline : Hi L.line = some (.lst (nL (g :: r))) := hoi.line
      refine ⟨_, rfl, _, _, _, _, _, rfl, hoi.self, T.c_Hall, T.a_Hall_line, rfl, tyLp hline, L.line, _, 0, 0, nV g, rfl, rfl, hline, by decide, by decide, ?_, rfl, ?_⟩
      · exact (ixN_seq (j := 0) (ixN_nat (k := 0) (by rw [nL_length]; exact Nat.succ_pos _))).1
      have hs2 := (upd_ne (H := Hi) (o := .lst ((nL (g :: r)).eraseIdx 0)) n4).trans hoi.self
      have ho2 := (upd_ne (H := Hi) (o := .lst ((nL (g :: r)).eraseIdx 0)) n7).trans hoi.owners
      refine ⟨_, rfl, _, _, _, _, _, rfl, hs2, T.c_Hall, T.a_Hall_owners, rfl, _, rfl, L.owners, _, (k : Int), k, rfl, rfl, ho2, ixN_nat (by rw [List.length_map]; show k < os.length; rw [hli]; exact hkm), ?_⟩
      refine ⟨some (nV k), os.set k (some g), r, rfl, ef', ⟨?_, ?_, ?_, ?_, ?_, hoi.nd⟩, (ki.put (by simp [HLay.own]) hline rfl).put (by simp [HLay.own]) ho2 rfl, ?_, ?_⟩
      · rw [upd_ne n1]; exact hs2
      · rw [upd_same]
        show some (HO.lst ((List.map optV _).set k (optV (some g)))) = some (HO.lst (List.map optV _))
        rw [← List.map_set]
      · rw [upd_ne (Ne.symm n5), upd_ne n9]; exact hoi.broken
      · rw [upd_ne (Ne.symm n6), upd_ne n10]; exact hoi.groups
      · rw [upd_ne (Ne.symm n7), upd_same]; rfl
      · have np1 : p ≠ L.line := fun z => np (by rw [z]; simp [HLay.own])
        have np2 : p ≠ L.owners := fun z => np (by rw [z]; simp [HLay.own])
        rw [upd_ne np2, upd_ne np1]; exact hpi
      · rw [List.length_set]; exact hli
  · obtain ⟨z, os, ln, rfl, ef, hoi, ki, hpi, hli⟩ := gi
    rw [nL_length, List.take_length] at ef
    refine q Hi ?_ ki
    unfold Hl.give
    rw [ef]; exact hoi
theorem ok_Hall_give_lanes {P : Program} {w : World} {K : PySem.W.Frag} {mg : Str → Option Value} {base : Heap} {a : Ad} (T : Txt K mg a) : MetB P w K mg base CX0 2 a.CHall "give_lanes" (sp_Hall_give_lanes P w K a) :=
  MetB.mk0 T.f_Hall_give_lanes sc_Hall_give_lanes l_Hall_give_lanes fun f cdv A outer s H vs Q E hr h => ⟨_, d_Hall_give_lanes T (ok_Hall_free_lanes T) hr, p_Hall_give_lanes T h⟩
/-! ### Hall.lane_of -/
def sp_Hall_lane_of (P : Program) (w : World) (K : PySem.W.Frag) (a : Ad) : Sp := fun vs H Q _ => ∃ (L : HLay) (h : Hl) (g : Nat), vs = [.ref L.self, nV g] ∧ OwnAt a H L h ∧ Q (optV (h.laneOf g)) H
theorem l_Hall_lane_of : ∀ vs H Q E, sp_Hall_lane_of P w K a vs H Q E → vs.length = 2 := by
  rintro vs H Q E ⟨x, y, g, rfl, _⟩; rfl
abbrev s_Hall_lane_of : Stmt := inClass (top 39) 6
abbrev N_Hall_lane_of : List Str := ["self", "number"]
theorem sc_Hall_lane_of : FnScope N_Hall_lane_of ["self", "number"] (defScope s_Hall_lane_of) := ⟨rfl, rfl, rfl, by decide +kernel, rfl, by decide +kernel, by decide +kernel⟩
def t_Hall_lane_of (P : Program) (w : World) (K : PySem.W.Frag) (a : Ad) (E : XK) : TS :=
  (tSeq (tIfS (tTest (tOp (rIn K false) (tVar 1) (tFld K (tVar 0) "owners"))) (tRet (tBM K "list" (rIndex K) (tFld K (tVar 0) "owners") (tCons (tVar 1) tNil))) tNext)
  (tRet (tC .non)))
theorem d_Hall_lane_of {P : Program} {w : World} {K : PySem.W.Frag} {mg : Str → Option Value} {base : Heap} {a : Ad} (T : Txt K mg a)  {f : Addr} {cdv : Value} {A : Around} {outer : List Env} {s : Shared} {H : Hp} {E : XK}
    (hr : Room 0 (A.deeper (envOfC "Hall.lane_of" (defScope s_Hall_lane_of) s.heap.objs.size f cdv))) : PSs (cxOf CX0 P w K mg base N_Hall_lane_of "Hall.lane_of" (defScope s_Hall_lane_of) f cdv A outer s H E).nox (defBody s_Hall_lane_of) (t_Hall_lane_of P w K a E) :=
  (pss_cons (ps_if (pt_cmpR op_in_seq (pv 1) (pe_fld (pv 0) rfl) rfl) (pss_one (ps_ret (pe_bm PySem.F.plainAttrs_list PySem.F.slot_list_index PySem.F.type_list_index mt_index (pe_fld (pv 0) rfl) (pa_cons (pv 1) pa_nil)))) pss_nil)
  (pss_one (ps_ret pe_non)))
theorem flat_opts (l : List (Option Nat)) : (l.map optV).all flatV = true := by
  rw [List.all_eq_true]
  intro v hv
  obtain ⟨o, _, rfl⟩ := List.mem_map.mp hv
  cases o <;> rfl
theorem eqV_opt (o : Option Nat) (g : Nat) : eqV (optV o) (nV g) = decide (o = some g) := by
  cases o with
  | none => rfl
  | some n =>
    show ((n : Int) == (g : Int)) = _
    rw [Bool.eq_iff_iff, beq_iff_eq, decide_eq_true_iff, Option.some.injEq]
    omega
theorem inV_opts (l : List (Option Nat)) (g : Nat) : inV (nV g) (l.map optV) = decide (some g ∈ l) := by
  unfold inV
  rw [List.any_map, Bool.eq_iff_iff, List.any_eq_true, decide_eq_true_iff]
  constructor
  · rintro ⟨o, h1, h2⟩
    have h3 : eqV (optV o) (nV g) = true := h2
    rw [eqV_opt, decide_eq_true_iff] at h3
    exact h3 ▸ h1
  · intro h
    exact ⟨some g, h, by show eqV (optV (some g)) (nV g) = true; rw [eqV_opt, decide_eq_true_iff]⟩
theorem r_indexO {l : Addr} {os : List (Option Nat)} {g : Nat} {Q : VK} (hl : SqL K H l (os.map optV)) (hx : some g ∈ os) (q : Q (nV (os.idxOf (some g))) H) : rIndex K (.ref l) [nV g] H Q := by
  have lt := List.idxOf_lt_length_iff.mpr hx
  have at_ : os[os.idxOf (some g)]? = some (some g) := by rw [List.getElem?_eq_getElem lt, List.getElem_idxOf]
  refine ⟨l, os.map optV, nV g, os.idxOf (some g), nV g, rfl, rfl, hl, rfl, flat_opts os, ?_, ?_, fun m z' hm hz => ?_, q⟩
  · rw [List.getElem?_map, at_]; rfl
  · exact beq_self_eq_true _
  · obtain ⟨y, hy, rfl⟩ := getElem?_map_some hz
    rw [eqV_opt, decide_eq_false_iff_not]
    intro e
    subst e
    obtain ⟨hm2, e2⟩ := List.getElem?_eq_some_iff.mp hy
    have := List.not_of_lt_findIdx (p := (· == some g)) (xs := os) (i := m) hm
    rw [e2] at this
    simp at this
theorem p_Hall_lane_of (T : Txt K mg a) {vs : List V} {Q : VK} {E : XK} (h : sp_Hall_lane_of P w K a vs H Q E) :
    t_Hall_lane_of P w K a E { nx := fun _ H' => Q .non H', rt := Q } (start N_Hall_lane_of vs) H := by
  obtain ⟨L, h, g, rfl, ho, q⟩ := h
  refine ⟨_, rfl, _, rfl, _, _, _, _, _, rfl, ho.self, T.c_Hall, T.a_Hall_owners, rfl, L.owners, _, rfl, .inl (lp ho.owners), rfl, flat_opts _, _, rfl, ?_⟩
  show (if inV (nV g) (h.owners.map optV) = true then _ else _)
  rw [inV_opts]
  refine ite_d (fun c => ?_) (fun c => ?_)
  · refine ⟨_, rfl, _, _, _, _, _, rfl, ho.self, T.c_Hall, T.a_Hall_owners, rfl, tyLp ho.owners, _, rfl, ?_⟩
    refine r_indexO (lp ho.owners) c ?_
    refine val_of ?_ q
    unfold Hl.laneOf
    rw [if_pos c]; rfl
  · refine val_of ?_ q
    unfold Hl.laneOf
    rw [if_neg c]; rfl
theorem ok_Hall_lane_of {P : Program} {w : World} {K : PySem.W.Frag} {mg : Str → Option Value} {base : Heap} {a : Ad} (T : Txt K mg a) : MetB P w K mg base CX0 1 a.CHall "lane_of" (sp_Hall_lane_of P w K a) :=
  MetB.mk0 T.f_Hall_lane_of sc_Hall_lane_of l_Hall_lane_of fun f cdv A outer s H vs Q E hr h => ⟨_, d_Hall_lane_of T  hr, p_Hall_lane_of T h⟩
/-! ### Hall.set_broken -/
def sp_Hall_set_broken (P : Program) (w : World) (K : PySem.W.Frag) (a : Ad) : Sp := fun vs H Q _ => ∃ (ρ : Addr → Option Tag) (L : HLay) (h : Hl) (k : Nat) (b : Bool), vs = [.ref L.self, nV k, .bl b] ∧ HallAt P w a H ρ L h ∧ LanesOk h ∧ h.line.length ≤ 1000 ∧ k < h.owners.length ∧
  ∀ H', Step P w a H ρ L.self (h.setBroken k b) H' → Q .non H'
theorem l_Hall_set_broken : ∀ vs H Q E, sp_Hall_set_broken P w K a vs H Q E → vs.length = 3 := by
  rintro vs H Q E ⟨x, y, g, _, _, rfl, _⟩; rfl
abbrev s_Hall_set_broken : Stmt := inClass (top 39) 7
abbrev N_Hall_set_broken : List Str := ["self", "lane", "is_broken"]
theorem sc_Hall_set_broken : FnScope N_Hall_set_broken ["self", "lane", "is_broken"] (defScope s_Hall_set_broken) := ⟨rfl, rfl, rfl, by decide +kernel, rfl, by decide +kernel, by decide +kernel⟩
def t_Hall_set_broken (P : Program) (w : World) (K : PySem.W.Frag) (a : Ad) (E : XK) : TS :=
  (tSeq (tAsg (tVar 2) (gSub (tFld K (tVar 0) "broken") (tVar 1) rSetL))
  (tSeq (tIfS (tAnd (tB (tVar 2)) (tB (tNotN (tOp (rIxL K) (tFld K (tVar 0) "owners") (tVar 1))))) (tSeq (sFld K (tVar 0) (tOp rCat (tLst (tCons (tOp (rIxL K) (tFld K (tVar 0) "owners") (tVar 1)) tNil)) (tFld K (tVar 0) "line")) "line")
  (tAsg (tC .non) (gSub (tFld K (tVar 0) "owners") (tVar 1) rSetL))) tNext)
  (tDrop (tMeth a.CHall "give_lanes" (sp_Hall_give_lanes P w K a) [] E0 (tVar 0) tNil))))
theorem d_Hall_set_broken {P : Program} {w : World} {K : PySem.W.Frag} {mg : Str → Option Value} {base : Heap} {a : Ad} (T : Txt K mg a) (c_Hall_give_lanes : MetB P w K mg base CX0 2 a.CHall "give_lanes" (sp_Hall_give_lanes P w K a)) {f : Addr} {cdv : Value} {A : Around} {outer : List Env} {s : Shared} {H : Hp} {E : XK}
    (hr : Room 2 (A.deeper (envOfC "Hall.set_broken" (defScope s_Hall_set_broken) s.heap.objs.size f cdv))) : PSs (cxOf CX0 P w K mg base N_Hall_set_broken "Hall.set_broken" (defScope s_Hall_set_broken) f cdv A outer s H E).nox (defBody s_Hall_set_broken) (t_Hall_set_broken P w K a E) :=
  (pss_cons (ps_asg (pv 2) (pg_sub (pe_fld (pv 0) rfl) (pv 1) set_list))
  (pss_cons (ps_if (PW.pt (pw_and (pt_val (pv 2)) (pw_and1 (pt_cmp (pc_notN (pe_ix ix_list (pe_fld (pv 0) rfl) (pv 1) (fun _ _ => rfl))) rfl)))) (pss_cons (ps_fld (pv 0) (pe_op op_cat (pe_lst (pa_cons (pe_ix ix_list (pe_fld (pv 0) rfl) (pv 1) (fun _ _ => rfl)) pa_nil)) (pe_fld (pv 0) rfl)) rfl)
  (pss_one (ps_asg pe_non (pg_sub (pe_fld (pv 0) rfl) (pv 1) set_list)))) pss_nil)
  (pss_one (ps_expr (pm0 c_Hall_give_lanes hr (by decide) pass0 (pv 0))))))
theorem nd4 {o b g l l' : Addr} (h : [o, b, g, l].Nodup) (h1 : l' ≠ o) (h2 : l' ≠ b) (h3 : l' ≠ g) : [o, b, g, l'].Nodup := by
  simp only [List.nodup_cons, List.mem_cons, List.not_mem_nil, or_false, not_or] at h ⊢
  exact ⟨⟨h.1.1, h.1.2.1, Ne.symm h1⟩, ⟨h.2.1.1, Ne.symm h2⟩, Ne.symm h3, fun z => z, List.nodup_nil⟩
theorem p_Hall_set_broken (T : Txt K mg a) {vs : List V} {Q : VK} {E : XK} (h : sp_Hall_set_broken P w K a vs H Q E) :
    t_Hall_set_broken P w K a E { nx := fun _ H' => Q .non H', rt := Q } (start N_Hall_set_broken vs) H := by
  obtain ⟨ρ, L, h, k, b, rfl, hx, ok, hlz, hk, q⟩ := h
  have ho := hx.own
  have n := ho.apart
  obtain ⟨n1, n2, n3, n4, n5, n6, n7, n8, n9, n10⟩ := n
  have hkb : k < h.broken.length := by rw [ok.2]; exact hk
  refine ⟨_, rfl, _, rfl, _, _, _, _, _, rfl, ho.self, T.c_Hall, T.a_Hall_broken, rfl, _, rfl, L.broken, _, (k : Int), k, rfl, rfl, ho.broken, ixN_nat (by rw [List.length_map]; exact hkb), ?_⟩
  have ho1 : OwnAt a (upd H L.broken (.lst ((h.broken.map V.bl).set k (.bl b)))) L { h with broken := h.broken.set k b } := by
    refine ⟨(upd_ne n2).trans ho.self, (upd_ne n5).trans ho.owners, ?_, (upd_ne (Ne.symm n8)).trans ho.groups, (upd_ne (Ne.symm n9)).trans ho.line, ho.nd⟩
    rw [upd_same]
    show some (HO.lst _) = some (HO.lst (List.map V.bl (h.broken.set k b)))
    rw [List.map_set]
  have k1 : Kept (fun c => c ∈ L.own) H (upd H L.broken (.lst ((h.broken.map V.bl).set k (.bl b)))) := (Kept.refl _ H).put (by simp [HLay.own]) ho.broken rfl
  generalize upd H L.broken (.lst ((h.broken.map V.bl).set k (.bl b))) = H1 at ho1 k1
  have ok1 : LanesOk { h with broken := h.broken.set k b } := ⟨ok.1, by show (h.broken.set k b).length = _; rw [List.length_set]; exact ok.2⟩
  -- the end where nothing more is done
  have plain : h.setBroken k b = Hl.give { h with broken := h.broken.set k b } → (tDrop (tMeth a.CHall "give_lanes" (sp_Hall_give_lanes P w K a) [] E0 (tVar 0) tNil)) { nx := fun _ H' => Q .non H', rt := Q } [some (.ref L.self), some (nV k), some (.bl b)] H1 := by
    intro e
    refine ⟨_, rfl, L.self, _, _, rfl, ho1.self, rfl, L, _, rfl, ho1, ok1, fun H2 ho2 k2 => q H2 ?_⟩
    rw [e]
    exact (hx.setO (ln := L.line) ho2 (k1.trans k2) (.inl rfl) rfl rfl).step
  refine ⟨_, rfl, b, rfl, ?_⟩
  cases b with
  | false => exact ite_false_of Bool.false_ne_true (ite_false_of Bool.false_ne_true (plain rfl))
  | true =>
    refine ite_true_of rfl ⟨_, rfl, _, _, _, _, _, rfl, ho1.self, T.c_Hall, T.a_Hall_owners, rfl, _, rfl, L.owners, _, (k : Int), _, rfl, rfl, lp ho1.owners, atI_map (owner_at (h := h) hk), _, rfl, ?_⟩
    rw [optV_non]
    cases eo : h.owner k with
    | none => exact ite_false_of (by simp) (plain (by unfold Hl.setBroken; rw [eo]))
    | some g =>
      refine ite_true_of rfl ?_
      refine ⟨_, rfl, _, _, _, _, _, rfl, ho1.self, T.c_Hall, T.a_Hall_owners, rfl, _, rfl, L.owners, _, (k : Int), _, rfl, rfl, lp ho1.owners, atI_map (owner_at (h := h) hk), le1, fun p1 hp1 => ?_⟩
      have s1 := same_upd (o := .lst [optV (h.owner k)]) hp1
      have ho2 := ho1.up s1
      refine ⟨_, rfl, _, _, _, _, _, rfl, ho2.self, T.c_Hall, T.a_Hall_line, rfl, p1, L.line, _, _, rfl, rfl, upd_same, ho2.line, ?_, fun p2 hp2 => ?_⟩
      · rw [nL_length]; exact small_line' (by show 1 + h.line.length ≤ _; omega)
      have s2 := same_upd (o := .lst ([optV (h.owner k)] ++ nL h.line)) hp2
      have ho3 := ho2.up s2
      refine ⟨_, rfl, L.self, _, L.dx, _, rfl, ho3.self, T.c_Hall, T.a_Hall_line, (by decide : 9 < 1000), ?_⟩
      have np2 : ∀ c ∈ L.own, p2 ≠ c := fun c hc z => by
        obtain ⟨o, e, _⟩ := ho2.what hc
        rw [← z, hp2] at e; cases e
      have hp20 : H p2 = none := k1.free (fun c hc => by obtain ⟨o, e, _⟩ := ho1.what hc; rw [e]; rfl) (s1.free hp2)
      have eL : [optV (h.owner k)] ++ nL h.line = nL (g :: h.line) := by rw [eo]; rfl
      have hself : L.self ≠ L.owners := n1
      have ho4 : upd (upd (upd H1 p1 (.lst [optV (h.owner k)])) p2 (.lst ([optV (h.owner k)] ++ nL h.line))) L.self (.ins a.CHall L.dx (putF "line" (.ref p2) (hF L { h with broken := h.broken.set k true }))) L.owners = some (.lst (h.owners.map optV)) := (upd_ne (Ne.symm n1)).trans ho3.owners
      have hs4 : upd (upd (upd H1 p1 (.lst [optV (h.owner k)])) p2 (.lst ([optV (h.owner k)] ++ nL h.line))) L.self (.ins a.CHall L.dx (putF "line" (.ref p2) (hF L { h with broken := h.broken.set k true }))) L.self = some (.ins a.CHall L.dx (hF { L with line := p2 } { h with broken := h.broken.set k true })) := upd_same
      refine ⟨_, rfl, _, _, _, _, _, rfl, hs4, T.c_Hall, T.a_Hall_owners, rfl, _, rfl, L.owners, _, (k : Int), k, rfl, rfl, ho4, ixN_nat (by rw [List.length_map]; exact hk), ?_⟩
      have n0 := np2 L.self (by simp [HLay.own])
      have n00 := np2 L.owners (by simp [HLay.own])
      have ho5 : OwnAt a (upd (upd (upd (upd H1 p1 (.lst [optV (h.owner k)])) p2 (.lst ([optV (h.owner k)] ++ nL h.line))) L.self (.ins a.CHall L.dx (putF "line" (.ref p2) (hF L { h with broken := h.broken.set k true })))) L.owners (.lst ((h.owners.map optV).set k .non))) { L with line := p2 } { h with broken := h.broken.set k true, line := g :: h.line, owners := h.owners.set k none } := by
        refine ⟨?_, ?_, ?_, ?_, ?_, nd4 ho.nd n00 (np2 L.broken (by simp [HLay.own])) (np2 L.groups (by simp [HLay.own]))⟩
        · show upd _ L.owners _ L.self = _
          rw [upd_ne n1]; exact hs4
        · show upd _ L.owners _ L.owners = _
          rw [upd_same]
          show some (HO.lst _) = some (HO.lst (List.map optV (h.owners.set k none)))
          rw [List.map_set]; rfl
        · show upd _ L.owners _ L.broken = _
          rw [upd_ne (Ne.symm n5), upd_ne (Ne.symm n2)]; exact ho3.broken
        · show upd _ L.owners _ L.groups = _
          rw [upd_ne (Ne.symm n6), upd_ne (Ne.symm n3)]; exact ho3.groups
        · show upd _ L.owners _ p2 = _
          rw [upd_ne n00, upd_ne n0, upd_same, eL]
      have k5 := (((k1.trans (Kept.of s1)).trans (Kept.of s2)).put (o' := .ins a.CHall L.dx (putF "line" (.ref p2) (hF L { h with broken := h.broken.set k true }))) (by simp [HLay.own] : L.self ∈ L.own) ho3.self rfl).put (o' := .lst ((h.owners.map optV).set k .non)) (by simp [HLay.own] : L.owners ∈ L.own) ho4 rfl
      have ok5 : LanesOk { h with broken := h.broken.set k true, line := g :: h.line, owners := h.owners.set k none } :=
        ⟨by show (h.owners.set k none).length ≤ _; rw [List.length_set]; exact ok.1, by show (h.broken.set k true).length = (h.owners.set k none).length; rw [List.length_set, List.length_set]; exact ok.2⟩
      refine ⟨_, rfl, L.self, _, _, rfl, ho5.self, rfl, { L with line := p2 }, _, rfl, ho5, ok5, fun H6 ho6 k6 => q H6 ?_⟩
      have e : h.setBroken k true = Hl.give { h with broken := h.broken.set k true, line := g :: h.line, owners := h.owners.set k none } := by unfold Hl.setBroken; rw [eo]
      rw [e]
      refine (hx.setO (ln := p2) ho6 (fun b o e t => ?_) (.inr hp20) rfl rfl).step
      have nb : b ≠ p2 := ne_of_none e hp20
      refine k6 b o (k5 b o e t) fun hb => t ?_
      simp only [HLay.own, List.mem_cons, List.not_mem_nil, or_false] at hb ⊢
      rcases hb with z | z | z | z | z
      · exact .inl z
      · exact .inr (.inl z)
      · exact .inr (.inr (.inl z))
      · exact .inr (.inr (.inr (.inl z)))
      · exact absurd z nb
theorem ok_Hall_set_broken {P : Program} {w : World} {K : PySem.W.Frag} {mg : Str → Option Value} {base : Heap} {a : Ad} (T : Txt K mg a) : MetB P w K mg base CX0 3 a.CHall "set_broken" (sp_Hall_set_broken P w K a) :=
  MetB.mk0 T.f_Hall_set_broken sc_Hall_set_broken l_Hall_set_broken fun f cdv A outer s H vs Q E hr h => ⟨_, d_Hall_set_broken T (ok_Hall_give_lanes T) hr, p_Hall_set_broken T h⟩
end
end Bw

/-! the walk: the hall's methods, part two -/
namespace Bw
open PySem PySem.Spec PyProof.Rows L2
theorem HOk.lanesOk {h : Hl} (x : HOk h) : LanesOk h := ⟨by have := x.lanes; omega, x.broken⟩
section
variable {P : Program} {w : World} {K : PySem.W.Frag} {mg : Str → Option Value} {base : Heap} {a : Ad} {H H' H1 : Hp} {ρ : Addr → Option Tag} {L : HLay} {h h' : Hl} {s : Addr}
/-- a group is new -/
theorem HallAt.addG (x : HallAt P w a H ρ L h) (z : Same H H1) {G : GL} {g : Grp} (y : GroupAt a H1 G g) (fr : ∀ b ∈ G.fp, H b = none) (o : OwnAt a H' { L with gs := L.gs ++ [G] } h') (k : Kept (fun b => b ∈ L.own) H1 H') (e1 : h'.groups = h.groups ++ [g]) (e2 : h'.league = h.league) :
    StepL P w a H ρ { L with gs := L.gs ++ [G] } h' H' := by
  have n : ∀ {b t}, ρ b = some t → t ≠ .h → b ∉ L.own := fun e q hb => q (by rw [x.th _ hb] at e; exact (Option.some.inj e).symm)
  have kp : ∀ {b o} (t : Tag), ρ b = some t → t ≠ .h → H b = some o → H' b = some o := fun t e q h => k _ _ (z _ _ h) fun w => absurd w (n e q)
  have nf : ∀ {b t}, ρ b = some t → b ∉ G.fp := fun e hb => x.tr _ (by rw [e]; exact fun z => nomatch z) (fr _ hb)
  have yk : GroupAt a H' G g := y.keep fun b hb o e => k _ _ e fun w => by
    obtain ⟨o2, e2, _⟩ := x.own.what w
    rw [fr b hb] at e2; cases e2
  refine ⟨fun b => if b ∈ G.fp then some (.g L.gs.length) else ρ b, ⟨o, ?_, ?_, ?_, ?_, ?_, ?_, ?_, ?_, ?_⟩, ?_, ?_⟩
  · show (L.gs ++ [G]).length = h'.groups.length
    rw [e1, List.length_append, List.length_append, x.glen]; rfl
  · intro i U u h1 h2
    have h1' : (L.gs ++ [G])[i]? = some U := h1
    rw [e1] at h2
    rcases Nat.lt_or_ge i L.gs.length with q | q
    · rw [List.getElem?_append_left q] at h1'
      rw [List.getElem?_append_left (by rw [← x.glen]; exact q)] at h2
      exact (x.grp i U u h1' h2).keep fun b hb o e => kp (.g i) (x.tg i U h1' b hb) (fun z => nomatch z) e
    · rw [List.getElem?_append_right q] at h1'
      rw [List.getElem?_append_right (by rw [← x.glen]; exact q), ← x.glen] at h2
      have q0 : i - L.gs.length = 0 := by
        have := (List.getElem?_eq_some_iff.mp h1').1
        rw [List.length_singleton] at this; omega
      rw [q0] at h1' h2
      cases h1'
      cases h2
      exact yk
  · rw [e2]; exact x.lg.keep fun b hb o e => kp .l (x.tl b hb) (fun z => nomatch z) e
  · refine x.cnt.keep fun b o e hb => ?_
    rcases hb with z2 | z2 | ⟨e2, he2, z2⟩ | z2
    · exact kp .c (by rw [z2]; exact x.tc.1) (fun z => nomatch z) e
    · exact kp .c (by rw [z2]; exact x.tc.2.1) (fun z => nomatch z) e
    · exact kp .c (by rw [z2]; exact x.tc.2.2 e2 he2) (fun z => nomatch z) e
    · exact k b o (z _ _ e) fun _ => z2
  · intro b hb
    show (if _ then _ else _) = _
    rw [if_neg (nf (x.th b hb))]; exact x.th b hb
  · intro i U h1 b hb
    have h1' : (L.gs ++ [G])[i]? = some U := h1
    show (if _ then _ else _) = _
    rcases Nat.lt_or_ge i L.gs.length with q | q
    · rw [List.getElem?_append_left q] at h1'
      rw [if_neg (nf (x.tg i U h1' b hb))]; exact x.tg i U h1' b hb
    · rw [List.getElem?_append_right q] at h1'
      have q0 : i - L.gs.length = 0 := by
        have := (List.getElem?_eq_some_iff.mp h1').1
        rw [List.length_singleton] at this; omega
      rw [q0] at h1'
      cases h1'
      rw [if_pos hb]
      congr 2
      omega
  · intro b hb
    show (if _ then _ else _) = _
    rw [if_neg (nf (x.tl b hb))]; exact x.tl b hb
  · have cc : ∀ b, ρ b = some .c → (if b ∈ G.fp then some (Tag.g L.gs.length) else ρ b) = some .c := fun b t => by rw [if_neg (nf t)]; exact t
    exact ⟨cc _ x.tc.1, cc _ x.tc.2.1, fun e he => cc _ (x.tc.2.2 e he)⟩
  · intro b hb e
    have hb' : (if b ∈ G.fp then some (Tag.g L.gs.length) else ρ b) ≠ none := hb
    by_cases c : b ∈ G.fp
    · obtain ⟨o, e2, _⟩ := yk.what c
      rw [e] at e2; cases e2
    · rw [if_neg c] at hb'
      by_cases c2 : b ∈ L.own
      · obtain ⟨o2, e3, _⟩ := o.what (b := b) c2
        rw [e] at e3; cases e3
      · cases e3 : H b with
        | none => exact x.tr b hb' e3
        | some o => rw [k b o (z _ _ e3) fun z => absurd z c2] at e; cases e
  · exact (Kept.of z).trans (k.mono fun b hb z => by rw [x.th b hb] at z; cases z)
  · intro b hb
    have hb' : (if b ∈ G.fp then some (Tag.g L.gs.length) else ρ b) ≠ none := hb
    by_cases c : b ∈ G.fp
    · exact .inr (fr b c)
    · rw [if_neg c] at hb'; exact .inl hb'
/-! ### Hall.come -/
def sp_Hall_come (P : Program) (w : World) (K : PySem.W.Frag) (a : Ad) : Sp := fun vs H Q E => ∃ (ρ : Addr → Option Tag) (L : HLay) (h : Hl) (n s : Nat), vs = [.ref L.self, nV n, nV s] ∧ HallAt P w a H ρ L h ∧ HOk h ∧
  (if 1 ≤ n ∧ n ≤ 6 ∧ s ≤ n then (if h.groups.length < 60 then (∀ H', Step P w a H ρ L.self (h.come n s) H' → Q (nV h.groups.length) H') else Ref a H E (-28)) else Ref a H E (-22))
theorem l_Hall_come : ∀ vs H Q E, sp_Hall_come P w K a vs H Q E → vs.length = 3 := by
  rintro vs H Q E ⟨x, y, g, _, _, rfl, _⟩; rfl
abbrev s_Hall_come : Stmt := inClass (top 39) 3
abbrev N_Hall_come : List Str := ["self", "size", "shoes"]
theorem sc_Hall_come : FnScope N_Hall_come ["self", "size", "shoes"] (defScope s_Hall_come) := ⟨rfl, rfl, rfl, by decide +kernel, rfl, by decide +kernel, by decide +kernel⟩
def t_Hall_come (P : Program) (w : World) (K : PySem.W.Frag) (a : Ad) (E : XK) : TS :=
  (tSeq (tDrop (tCall (sp_ask P w K a) [] E (tCons (tAndV (tChain rLeI rLeI (tC (.int 1)) (tVar 1) (tC (.int (6)))) (tOp rLeI (tVar 2) (tVar 1))) (tCons (tC (.int (-22))) tNil))))
  (tSeq (tDrop (tCall (sp_ask P w K a) [] E (tCons (tOp rLtI (tCB (rLenB K) (tCons (tFld K (tVar 0) "groups") tNil)) (tC (.int (60)))) (tCons (tC (.int (-28))) tNil))))
  (tSeq (tDrop (tBM K "list" rAppend (tFld K (tVar 0) "groups") (tCons (tMake a.CGroup (sp_Group_init P w K a) [] E0 (tCons (tVar 1) (tCons (tVar 2) tNil))) tNil)))
  (tSeq (tDrop (tBM K "list" rAppend (tFld K (tVar 0) "line") (tCons (tOp rSubI (tCB (rLenB K) (tCons (tFld K (tVar 0) "groups") tNil)) (tC (.int 1))) tNil)))
  (tSeq (tDrop (tMeth a.CHall "give_lanes" (sp_Hall_give_lanes P w K a) [] E0 (tVar 0) tNil))
  (tRet (tOp rSubI (tCB (rLenB K) (tCons (tFld K (tVar 0) "groups") tNil)) (tC (.int 1)))))))))
theorem d_Hall_come {P : Program} {w : World} {K : PySem.W.Frag} {mg : Str → Option Value} {base : Heap} {a : Ad} (T : Txt K mg a) (c_ask : CalB P w K mg base (L2.CX P w) 3 "ask" (sp_ask P w K a)) (c_Group_init : MakB P w K mg base CX0 1 "Group" a.CGroup (sp_Group_init P w K a)) (c_Hall_give_lanes : MetB P w K mg base CX0 2 a.CHall "give_lanes" (sp_Hall_give_lanes P w K a)) {f : Addr} {cdv : Value} {A : Around} {outer : List Env} {s : Shared} {H : Hp} {E : XK}
    (hr : Room 3 (A.deeper (envOfC "Hall.come" (defScope s_Hall_come) s.heap.objs.size f cdv))) : PSs (cxOf (L2.CX P w) P w K mg base N_Hall_come "Hall.come" (defScope s_Hall_come) f cdv A outer s H E) (defBody s_Hall_come) (t_Hall_come P w K a E) :=
  (pss_cons (ps_expr (pc c_ask hr (by decide) passX rfl (pa_cons (pe_and (pe_chain op_le op_le pe_int (pv 1) (pgi T.g_MOST_SIZE rfl)) (pe_one (pe_cmpR op_le (pv 2) (pv 1) (nomark _)))) (pa_cons (pgi T.g_WRONG rfl) pa_nil))))
  (pss_cons (ps_expr (pc c_ask hr (by decide) passX rfl (pa_cons (pe_cmpR op_lt (pe_callB call_len (by rfl) T.n_len PySem.boot_len (pa_cons (pe_fld (pv 0) rfl) pa_nil)) (pgi T.g_MOST_GROUPS rfl) (nomark _)) (pa_cons (pgi T.g_FULL rfl) pa_nil))))
  (pss_cons (ps_expr (pe_bm PySem.F.plainAttrs_list PySem.F.slot_list_append PySem.F.type_list_append mt_append (pe_fld (pv 0) rfl) (pa_cons (pk c_Group_init hr (by decide) pass0 rfl (pa_cons (pv 1) (pa_cons (pv 2) pa_nil))) pa_nil)))
  (pss_cons (ps_expr (pe_bm PySem.F.plainAttrs_list PySem.F.slot_list_append PySem.F.type_list_append mt_append (pe_fld (pv 0) rfl) (pa_cons (pe_op op_sub (pe_callB call_len (by rfl) T.n_len PySem.boot_len (pa_cons (pe_fld (pv 0) rfl) pa_nil)) pe_int) pa_nil)))
  (pss_cons (ps_expr (pm0 c_Hall_give_lanes hr (by decide) pass0 (pv 0)))
  (pss_one (ps_ret (pe_op op_sub (pe_callB call_len (by rfl) T.n_len PySem.boot_len (pa_cons (pe_fld (pv 0) rfl) pa_nil)) pe_int))))))))
theorem p_Hall_come (T : Txt K mg a) {vs : List V} {Q : VK} {E : XK} (h : sp_Hall_come P w K a vs H Q E) :
    t_Hall_come P w K a E { nx := fun _ H' => Q .non H', rt := Q } (start N_Hall_come vs) H := by
  obtain ⟨ρ, L, h, n, s, rfl, hx, ok, q⟩ := h
  have ho := hx.own
  obtain ⟨n1, n2, n3, n4, n5, n6, n7, n8, n9, n10⟩ := ho.apart
  have full : (1 ≤ n ∧ n ≤ 6 ∧ s ≤ n) → ¬ h.groups.length < 60 → Ref a H E (-28) := fun c1 c2 => by rw [if_pos c1, if_neg c2] at q; exact q
  have done : (1 ≤ n ∧ n ≤ 6 ∧ s ≤ n) → h.groups.length < 60 → ∀ H', Step P w a H ρ L.self (h.come n s) H' → Q (nV h.groups.length) H' := fun c1 c2 => by rw [if_pos c1, if_pos c2] at q; exact q
  have wrong : ¬ (1 ≤ n ∧ n ≤ 6 ∧ s ≤ n) → Ref a H E (-22) := fun c => by rw [if_neg c] at q; exact q
  refine ⟨_, rfl, _, _, rfl, rfl, _, rfl, ?_⟩
  refine ite_d (fun c => ?_) (fun c => ⟨_, rfl, ite_false_of Bool.false_ne_true ⟨false, -22, rfl, fun z => absurd z Bool.false_ne_true, fun _ => wrong (by omega)⟩⟩)
  refine ⟨_, _, rfl, rfl, _, rfl, ?_⟩
  refine ite_d (fun c2 => ?_) (fun c2 => ⟨false, -22, rfl, fun z => absurd z Bool.false_ne_true, fun _ => wrong (by omega)⟩)
  refine ⟨_, rfl, _, rfl, _, _, rfl, rfl, decide ((s : Int) ≤ (n : Int)), -22, rfl, fun c3 => ?_, fun c3 => wrong (by have := of_decide_eq_false c3; omega)⟩
  have c3' := of_decide_eq_true c3
  have cc : 1 ≤ n ∧ n ≤ 6 ∧ s ≤ n := by omega
  refine ⟨_, rfl, _, _, _, _, _, rfl, ho.self, T.c_Hall, T.a_Hall_groups, rfl, _, _, rfl, .inl ⟨_, lp ho.groups, rfl⟩, _, _, rfl, rfl, _, _, rfl, fun c4 => ?_, fun c4 => full cc (by have h4 := of_decide_eq_false c4; rw [List.length_map, hx.glen] at h4; omega)⟩
  have c4' := of_decide_eq_true c4
  rw [List.length_map, hx.glen] at c4'
  have hdone := done cc (by omega)
  refine ⟨_, rfl, _, _, _, _, _, rfl, ho.self, T.c_Hall, T.a_Hall_groups, rfl, tyLp ho.groups, _, rfl, _, rfl, fun y dy hy hdy ndy => ⟨y, dy, n, s, rfl, by omega, upd_same, fun H1 G hG eG k1 fr1 => ⟨rfl, ?_⟩⟩⟩
  subst eG
  have s1 : Same H H1 := made_kept (T := fun _ => False) hy hdy k1
  have ho1 := ho.up s1
  have fG : ∀ b ∈ G.fp, H b = none := fun b hb => by
    rcases List.mem_cons.mp hb with e | hb
    · rw [e]; exact hy
    · exact made_free (fr1 b hb)
  refine ⟨L.groups, _, _, rfl, rfl, ho1.groups, by rw [List.length_map, hx.glen]; exact small_line (by omega), ?_⟩
  have eg : (L.gs.map fun G => V.ref G.self) ++ [V.ref G.self] = (L.gs ++ [G]).map fun G => V.ref G.self := by rw [List.map_append]; rfl
  rw [eg]
  have hs2 := (upd_ne (H := H1) (o := .lst ((L.gs ++ [G]).map fun G => V.ref G.self)) n3).trans ho1.self
  have hl2 := (upd_ne (H := H1) (o := .lst ((L.gs ++ [G]).map fun G => V.ref G.self)) (Ne.symm n10)).trans ho1.line
  have hg2 : upd H1 L.groups (.lst ((L.gs ++ [G]).map fun G => V.ref G.self)) L.groups = _ := upd_same
  refine ⟨_, rfl, _, _, _, _, _, rfl, hs2, T.c_Hall, T.a_Hall_line, rfl, tyLp hl2, _, rfl, _, _, _, _, _, rfl, hs2, T.c_Hall, T.a_Hall_groups, rfl, _, _, rfl, .inl ⟨_, lp hg2, rfl⟩, _, _, rfl, rfl, L.line, _, _, rfl, rfl, hl2, by rw [nL_length]; exact small_line (by have := ok.lineLen; omega), ?_⟩
  have ev : (((L.gs ++ [G]).map fun G => V.ref G.self).length : Int) - 1 = (h.groups.length : Int) := by
    rw [List.length_map, List.length_append, hx.glen]
    show ((h.groups.length + 1 : Nat) : Int) - 1 = _
    omega
  have el : nL h.line ++ [V.int ((((L.gs ++ [G]).map fun G => V.ref G.self).length : Int) - 1)] = nL (h.line ++ [h.groups.length]) := by rw [ev, nL_append]; rfl
  show (tSeq (tDrop (tMeth a.CHall "give_lanes" (sp_Hall_give_lanes P w K a) [] E0 (tVar 0) tNil)) _) _ _ (upd _ L.line (.lst (nL h.line ++ [V.int ((((L.gs ++ [G]).map fun G => V.ref G.self).length : Int) - 1)])))
  rw [el]
  have ho3 : OwnAt a (upd (upd H1 L.groups (.lst ((L.gs ++ [G]).map fun G => V.ref G.self))) L.line (.lst (nL (h.line ++ [h.groups.length])))) { L with gs := L.gs ++ [G] } { h with groups := h.groups ++ [Grp.new n s], line := h.line ++ [h.groups.length] } := by
    refine ⟨(upd_ne n4).trans hs2, (upd_ne n7).trans ((upd_ne n6).trans ho1.owners), (upd_ne n9).trans ((upd_ne n8).trans ho1.broken), (upd_ne n10).trans upd_same, upd_same, ho.nd⟩
  have k3 : Kept (fun b => b ∈ L.own) H1 (upd (upd H1 L.groups (.lst ((L.gs ++ [G]).map fun G => V.ref G.self))) L.line (.lst (nL (h.line ++ [h.groups.length])))) := ((Kept.refl _ H1).put (by simp [HLay.own]) ho1.groups rfl).put (by simp [HLay.own]) hl2 rfl
  refine ⟨_, rfl, L.self, _, _, rfl, ho3.self, rfl, { L with gs := L.gs ++ [G] }, _, rfl, ho3, ok.lanesOk, fun H4 ho4 k4 => ?_⟩
  refine ⟨_, rfl, _, _, _, _, _, rfl, ho4.self, T.c_Hall, T.a_Hall_groups, rfl, _, _, rfl, .inl ⟨_, lp ho4.groups, rfl⟩, _, _, rfl, rfl, ?_⟩
  show Q (V.int ((((L.gs ++ [G]).map fun G => V.ref G.self).length : Int) - 1)) H4
  rw [ev]
  exact hdone H4 (hx.addG s1 hG fG ho4 (k3.trans k4) rfl rfl).step
theorem ok_Hall_come {P : Program} {w : World} {K : PySem.W.Frag} {mg : Str → Option Value} {base : Heap} {a : Ad} (T : Txt K mg a) : MetB P w K mg base (L2.CX P w) 4 a.CHall "come" (sp_Hall_come P w K a) :=
  MetB.mkX T.f_Hall_come sc_Hall_come l_Hall_come fun f cdv A outer s H vs Q E hr h => ⟨_, d_Hall_come T (ok_ask T) (ok_Group_init T) (ok_Hall_give_lanes T) hr, p_Hall_come T h⟩
/-! ### Hall.bill -/
def sp_Hall_bill (P : Program) (w : World) (K : PySem.W.Frag) (a : Ad) : Sp := fun vs H Q _ => ∃ (ρ : Addr → Option Tag) (L : HLay) (h : Hl) (g : Nat), vs = [.ref L.self, nV g] ∧ HallAt P w a H ρ L h ∧ HOk h ∧ g < h.groups.length ∧ ∀ H', Same H H' → Q (nV (h.bill g)) H'
theorem l_Hall_bill : ∀ vs H Q E, sp_Hall_bill P w K a vs H Q E → vs.length = 2 := by
  rintro vs H Q E ⟨x, y, g, _, rfl, _⟩; rfl
abbrev s_Hall_bill : Stmt := inClass (top 39) 4
abbrev N_Hall_bill : List Str := ["self", "number"]
theorem sc_Hall_bill : FnScope N_Hall_bill ["self", "number"] (defScope s_Hall_bill) := ⟨rfl, rfl, rfl, by decide +kernel, rfl, by decide +kernel, by decide +kernel⟩
def t_Hall_bill (P : Program) (w : World) (K : PySem.W.Frag) (a : Ad) (E : XK) : TS :=
  (tRet (tMeth a.CGroup "bill" (sp_Group_bill P w K a) [] E0 (tOp (rIxL K) (tFld K (tVar 0) "groups") (tVar 1)) (tCons (tFld K (tVar 0) "price") (tCons (tFld K (tVar 0) "lend") tNil))))
theorem d_Hall_bill {P : Program} {w : World} {K : PySem.W.Frag} {mg : Str → Option Value} {base : Heap} {a : Ad} (T : Txt K mg a) (c_Group_bill : MetB P w K mg base CX0 1 a.CGroup "bill" (sp_Group_bill P w K a)) {f : Addr} {cdv : Value} {A : Around} {outer : List Env} {s : Shared} {H : Hp} {E : XK}
    (hr : Room 1 (A.deeper (envOfC "Hall.bill" (defScope s_Hall_bill) s.heap.objs.size f cdv))) : PSs (cxOf CX0 P w K mg base N_Hall_bill "Hall.bill" (defScope s_Hall_bill) f cdv A outer s H E).nox (defBody s_Hall_bill) (t_Hall_bill P w K a E) :=
  (pss_one (ps_ret (pm c_Group_bill hr (by decide) pass0 (pe_ix ix_list (pe_fld (pv 0) rfl) (pv 1) (fun _ _ => rfl)) (pa_cons (pe_fld (pv 0) rfl) (pa_cons (pe_fld (pv 0) rfl) pa_nil)))))
theorem HallAt.gat (x : HallAt P w a H ρ L h) {g : Nat} {G : GL} (hG : L.gs[g]? = some G) : atI (L.gs.map fun G => V.ref G.self) (g : Int) = some (.ref G.self) := atI_map hG
theorem p_Hall_bill (T : Txt K mg a) {vs : List V} {Q : VK} {E : XK} (h : sp_Hall_bill P w K a vs H Q E) :
    t_Hall_bill P w K a E { nx := fun _ H' => Q .non H', rt := Q } (start N_Hall_bill vs) H := by
  obtain ⟨ρ, L, h, g, rfl, hx, ok, hg, q⟩ := h
  have ho := hx.own
  obtain ⟨G, hG, ga⟩ := hx.gget hg
  have gok := ok.at hg
  refine ⟨_, rfl, _, _, _, _, _, rfl, ho.self, T.c_Hall, T.a_Hall_groups, rfl, _, rfl, L.groups, _, (g : Int), _, rfl, rfl, lp ho.groups, hx.gat hG, G.self, _, _, rfl, ga.self, rfl, _, rfl, _, _, _, _, _, rfl, ho.self, T.c_Hall, T.a_Hall_price, rfl, _, rfl, _, _, _, _, _, rfl, ho.self, T.c_Hall, T.a_Hall_lend, rfl, G, h.grp g, h.price, h.lend, rfl, ga, ok.price, ok.lend, by have := gok.size.2; omega, by have := gok.rolls; have := gok.size.2; omega, fun H1 s1 => q H1 s1⟩
theorem ok_Hall_bill {P : Program} {w : World} {K : PySem.W.Frag} {mg : Str → Option Value} {base : Heap} {a : Ad} (T : Txt K mg a) : MetB P w K mg base CX0 2 a.CHall "bill" (sp_Hall_bill P w K a) :=
  MetB.mk0 T.f_Hall_bill sc_Hall_bill l_Hall_bill fun f cdv A outer s H vs Q E hr h => ⟨_, d_Hall_bill T (ok_Group_bill T) hr, p_Hall_bill T h⟩
/-! ### Hall.go -/
def sp_Hall_go (P : Program) (w : World) (K : PySem.W.Frag) (a : Ad) : Sp := fun vs H Q _ => ∃ (ρ : Addr → Option Tag) (L : HLay) (h : Hl) (g : Nat), vs = [.ref L.self, nV g] ∧ HallAt P w a H ρ L h ∧ HOk h ∧ g < h.groups.length ∧ ∀ H', Step P w a H ρ L.self (h.go g) H' → Q (nV (h.bill g)) H'
theorem l_Hall_go : ∀ vs H Q E, sp_Hall_go P w K a vs H Q E → vs.length = 2 := by
  rintro vs H Q E ⟨x, y, g, _, rfl, _⟩; rfl
abbrev s_Hall_go : Stmt := inClass (top 39) 5
abbrev N_Hall_go : List Str := ["self", "number", "bill", "lane", "other"]
theorem sc_Hall_go : FnScope N_Hall_go ["self", "number"] (defScope s_Hall_go) := ⟨rfl, rfl, rfl, by decide +kernel, rfl, by decide +kernel, by decide +kernel⟩
def t_Hall_go (P : Program) (w : World) (K : PySem.W.Frag) (a : Ad) (E : XK) : TS :=
  (tSeq (tAsg (tMeth a.CHall "bill" (sp_Hall_bill P w K a) [] E0 (tVar 0) (tCons (tVar 1) tNil)) (gName 2))
  (tSeq (sFldAug K (tVar 0) (tVar 2) rAdd "taken")
  (tSeq (sFld K (tOp (rIxL K) (tFld K (tVar 0) "groups") (tVar 1)) (tC (.bl true)) "is_gone")
  (tSeq (sFld K (tVar 0) (tLc (iList K (tFld K (tVar 0) "line")) (gName 4) (tTest (tOp rNe (tVar 4) (tVar 1))) (tVar 4) [4]) "line")
  (tSeq (tAsg (tMeth a.CHall "lane_of" (sp_Hall_lane_of P w K a) [] E0 (tVar 0) (tCons (tVar 1) tNil)) (gName 3))
  (tSeq (tIfS (tB (tNotN (tVar 3))) (tAsg (tC .non) (gSub (tFld K (tVar 0) "owners") (tVar 3) rSetL)) tNext)
  (tSeq (tDrop (tMeth a.CHall "give_lanes" (sp_Hall_give_lanes P w K a) [] E0 (tVar 0) tNil))
  (tRet (tVar 2)))))))))
theorem d_Hall_go {P : Program} {w : World} {K : PySem.W.Frag} {mg : Str → Option Value} {base : Heap} {a : Ad} (T : Txt K mg a) (c_Hall_bill : MetB P w K mg base CX0 2 a.CHall "bill" (sp_Hall_bill P w K a)) (c_Hall_lane_of : MetB P w K mg base CX0 1 a.CHall "lane_of" (sp_Hall_lane_of P w K a)) (c_Hall_give_lanes : MetB P w K mg base CX0 2 a.CHall "give_lanes" (sp_Hall_give_lanes P w K a)) {f : Addr} {cdv : Value} {A : Around} {outer : List Env} {s : Shared} {H : Hp} {E : XK}
    (hr : Room 2 (A.deeper (envOfC "Hall.go" (defScope s_Hall_go) s.heap.objs.size f cdv))) : PSs (cxOf CX0 P w K mg base N_Hall_go "Hall.go" (defScope s_Hall_go) f cdv A outer s H E).nox (defBody s_Hall_go) (t_Hall_go P w K a E) :=
  (pss_cons (ps_set (i := 2) sc_Hall_go.nd rfl (by first | exact Or.inl rfl | exact Or.inr rfl) (pm c_Hall_bill hr (by decide) pass0 (pv 0) (pa_cons (pv 1) pa_nil)))
  (pss_cons (ps_fldaug (pv 0) (pv 2) in_add)
  (pss_cons (ps_fld (pe_ix ix_list (pe_fld (pv 0) rfl) (pv 1) (fun _ _ => rfl)) pe_bl rfl)
  (pss_cons (ps_fld (pv 0) (pe_lc (own := [("other", 4)]) (g := (gName 4)) (tt := (tTest (tOp rNe (tVar 4) (tVar 1)))) (te := (tVar 4)) rfl sc_Hall_go.nd (pi_list (pe_fld (pv 0) rfl)) (blkOk_by (N := N_Hall_go) (sc := (defScope s_Hall_go)) (by decide +kernel)) (fun _ _ _ _ _ => (pg_name (i := 4) sc_Hall_go.nd rfl (by first | exact Or.inl rfl | exact Or.inr rfl))) (fun _ _ _ _ _ => (pts_one (pt_cmpR op_ne (pv 4) (pv 1) (nomark _)))) (fun _ _ _ _ _ => (pv 4))) rfl)
  (pss_cons (ps_set (i := 3) sc_Hall_go.nd rfl (by first | exact Or.inl rfl | exact Or.inr rfl) (pm c_Hall_lane_of hr (by decide) pass0 (pv 0) (pa_cons (pv 1) pa_nil)))
  (pss_cons (ps_if (pt_cmp (pc_notN (pv 3)) rfl) (pss_one (ps_asg pe_non (pg_sub (pe_fld (pv 0) rfl) (pv 3) set_list))) pss_nil)
  (pss_cons (ps_expr (pm0 c_Hall_give_lanes hr (by decide) pass0 (pv 0)))
  (pss_one (ps_ret (pv 2))))))))))
theorem filt_filter (l : List Nat) (p : Nat → Bool) : filt (fun j => p (l.getD j 0)) (fun j => nV (l.getD j 0)) l.length = nL (l.filter p) := by
  unfold filt
  induction l with
  | nil => rfl
  | cons x l ih =>
    rw [List.length_cons, List.range_succ_eq_map, List.filter_cons, List.filter_cons, List.filter_map]
    show List.map _ (if p x = true then _ else _) = nL (if p x = true then _ else _)
    split
    · rw [List.map_cons, List.map_map]
      show nV x :: _ = nV x :: nL _
      rw [← ih]; rfl
    · rw [List.map_map, ← ih]; rfl
theorem gs_set {L : HLay} {i : Nat} {G : GL} (h : L.gs[i]? = some G) : { L with gs := L.gs.set i G } = L := by
  have : L.gs.set i G = L.gs := by
    refine List.ext_getElem? fun j => ?_
    by_cases c : j = i
    · subst c
      rw [List.getElem?_set_self (List.getElem?_eq_some_iff.mp h).1, h]
    · rw [List.getElem?_set_ne (Ne.symm c)]
  rw [this]
theorem p_Hall_go (T : Txt K mg a) {vs : List V} {Q : VK} {E : XK} (h : sp_Hall_go P w K a vs H Q E) :
    t_Hall_go P w K a E { nx := fun _ H' => Q .non H', rt := Q } (start N_Hall_go vs) H := by
  obtain ⟨ρ, L, h, g, rfl, hx, ok, hg, q⟩ := h
  have ho := hx.own
  obtain ⟨n1, n2, n3, n4, n5, n6, n7, n8, n9, n10⟩ := ho.apart
  refine ⟨_, rfl, L.self, _, _, rfl, ho.self, rfl, _, rfl, ρ, L, h, g, rfl, hx, ok, hg, fun H1 s1 => ?_⟩
  have ho1 := ho.up s1
  refine ⟨_, rfl, L.self, _, L.dx, _, _, rfl, ho1.self, T.c_Hall, T.a_Hall_taken, rfl, _, rfl, _, _, rfl, rfl, L.dx, _, ho1.self, (by decide : 9 < 1000), ?_⟩
  have et : V.int ((h.taken : Int) + (h.bill g : Nat)) = nV (h.taken + h.bill g) := by show _ = V.int _; rw [Int.natCast_add]
  -- the money taken
  have ho2 : OwnAt a (upd H1 L.self (.ins a.CHall L.dx (putF "taken" (.int ((h.taken : Int) + (h.bill g : Nat))) (hF L h)))) L { h with taken := h.taken + h.bill g } := by
    refine ⟨?_, (upd_ne (Ne.symm n1)).trans ho1.owners, (upd_ne (Ne.symm n2)).trans ho1.broken, (upd_ne (Ne.symm n3)).trans ho1.groups, (upd_ne (Ne.symm n4)).trans ho1.line, ho.nd⟩
    rw [upd_same, et]; rfl
  have st2 : StepL P w a H ρ L { h with taken := h.taken + h.bill g } (upd H1 L.self (.ins a.CHall L.dx (putF "taken" (.int ((h.taken : Int) + (h.bill g : Nat))) (hF L h)))) :=
    StepL.from s1 ((hx.up s1).setO (ln := L.line) ho2 ((Kept.refl _ H1).put (by simp [HLay.own]) ho1.self rfl) (.inl rfl) rfl rfl)
  suffices main : ∀ H2, OwnAt a H2 L { h with taken := h.taken + h.bill g } → StepL P w a H ρ L { h with taken := h.taken + h.bill g } H2 →
      (tSeq (sFld K (tOp (rIxL K) (tFld K (tVar 0) "groups") (tVar 1)) (tC (.bl true)) "is_gone")
  (tSeq (sFld K (tVar 0) (tLc (iList K (tFld K (tVar 0) "line")) (gName 4) (tTest (tOp rNe (tVar 4) (tVar 1))) (tVar 4) [4]) "line")
  (tSeq (tAsg (tMeth a.CHall "lane_of" (sp_Hall_lane_of P w K a) [] E0 (tVar 0) (tCons (tVar 1) tNil)) (gName 3))
  (tSeq (tIfS (tB (tNotN (tVar 3))) (tAsg (tC .non) (gSub (tFld K (tVar 0) "owners") (tVar 3) rSetL)) tNext)
  (tSeq (tDrop (tMeth a.CHall "give_lanes" (sp_Hall_give_lanes P w K a) [] E0 (tVar 0) tNil))
  (tRet (tVar 2))))))) { nx := fun _ H' => Q .non H', rt := Q } [some (.ref L.self), some (nV g), some (nV (h.bill g)), none, none] H2 from main _ ho2 st2
  intro H2 ho2 st2
  obtain ⟨ρ2, hx2, k2, g2⟩ := id st2
  have hg2 : g < ({ h with taken := h.taken + h.bill g } : Hl).groups.length := hg
  obtain ⟨G, hG, ga⟩ := hx2.gget hg2
  refine ⟨_, rfl, _, _, _, _, _, rfl, ho2.self, T.c_Hall, T.a_Hall_groups, rfl, _, rfl, L.groups, _, (g : Int), _, rfl, rfl, lp ho2.groups, hx2.gat hG, G.self, _, G.dx, _, rfl, ga.self, T.c_Group, T.a_Group_is_gone, (by decide : 8 < 1000), ?_⟩
  have ga3 : GroupAt a (upd H2 G.self (.ins a.CGroup G.dx (gF G { h.grp g with gone := true }))) G { h.grp g with gone := true } := ga.field rfl rfl rfl
  have k3 : Kept (fun b => b ∈ G.fp) H2 (upd H2 G.self (.ins a.CGroup G.dx (gF G { h.grp g with gone := true }))) := (Kept.refl _ H2).put List.mem_cons_self ga.self rfl
  have st3 : StepL P w a H2 ρ2 L (Hl.setGrp { h with taken := h.taken + h.bill g } g { h.grp g with gone := true }) (upd H2 G.self (.ins a.CGroup G.dx (gF G { h.grp g with gone := true }))) := by
    have := hx2.setG hG ga3 rfl k3 fun b hb => .inl hb
    rw [gs_set hG] at this
    exact this
  have st3' : StepL P w a H ρ L (Hl.setGrp { h with taken := h.taken + h.bill g } g { h.grp g with gone := true }) (upd H2 G.self (.ins a.CGroup G.dx (gF G { h.grp g with gone := true }))) := by
    obtain ⟨ρ3, hx3, k33, g3⟩ := st3
    exact StepL.bind st2 fun ρ2' hx2' => by
      have := hx2'.setG hG ga3 rfl k3 fun b hb => .inl hb
      rw [gs_set hG] at this
      exact this
  suffices main : ∀ H3, StepL P w a H ρ L (Hl.setGrp { h with taken := h.taken + h.bill g } g { h.grp g with gone := true }) H3 →
      (tSeq (sFld K (tVar 0) (tLc (iList K (tFld K (tVar 0) "line")) (gName 4) (tTest (tOp rNe (tVar 4) (tVar 1))) (tVar 4) [4]) "line")
  (tSeq (tAsg (tMeth a.CHall "lane_of" (sp_Hall_lane_of P w K a) [] E0 (tVar 0) (tCons (tVar 1) tNil)) (gName 3))
  (tSeq (tIfS (tB (tNotN (tVar 3))) (tAsg (tC .non) (gSub (tFld K (tVar 0) "owners") (tVar 3) rSetL)) tNext)
  (tSeq (tDrop (tMeth a.CHall "give_lanes" (sp_Hall_give_lanes P w K a) [] E0 (tVar 0) tNil))
  (tRet (tVar 2)))))) { nx := fun _ H' => Q .non H', rt := Q } [some (.ref L.self), some (nV g), some (nV (h.bill g)), none, none] H3 from main _ st3'
  intro H3 st3
  obtain ⟨ρ3, hx3, k3, g3⟩ := id st3
  have ho3 := hx3.own
  have hline : H3 L.line = some (.lst (nL h.line)) := ho3.line
  refine ⟨_, rfl, _, _, _, _, _, rfl, ho3.self, T.c_Hall, T.a_Hall_line, rfl, L.line, rfl, ⟨_, lp hline⟩, ?_⟩
  refine lc_out (walk_list (K := K) (a := L.line) (xs := nL h.line)) (filt (fun j => h.line.getD j 0 != g) fun j => nV (h.line.getD j 0)) (by rw [nL_length]; have := ok.lineLen; omega) yat_same (fun H' z => lp (z _ _ hline)) rfl (fun i _ => filt_len _ _ _) (fun i x Ha Hb Qy Qn hi sa y qy qn => ?_) fun H4 D s4 hD e4 => ?_
  · obtain ⟨rfl, hxi⟩ := y
    obtain ⟨m, hm, rfl⟩ := getElem?_map_some hxi
    have em : h.line.getD i 0 = m := getD_of hm
    refine ⟨rfl, _, rfl, _, rfl, rfl, _, rfl, ?_⟩
    by_cases c : m = g
    · rw [decide_eq_true (nV_inj.mpr c)]
      exact ite_false_of (by simp) (qn _ (Same.refl _) (filt_no (by rw [em, c]; simp)))
    · rw [decide_eq_false fun z => c (nV_inj.mp z)]
      refine ite_true_of rfl ⟨_, rfl, qy _ _ (Same.refl _) ?_⟩
      rw [filt_yes (by rw [em]; simp [c]), em]
  · rw [nL_length, filt_filter h.line fun j => j != g] at e4
    have hx4 := hx3.up s4
    have ho4 := hx4.own
    have nDo : ∀ c ∈ L.own, D ≠ c := fun c hc z => by
      obtain ⟨o, e, _⟩ := ho3.what hc
      rw [← z, hD] at e; cases e
    refine ⟨_, rfl, L.self, _, L.dx, _, rfl, ho4.self, T.c_Hall, T.a_Hall_line, (by decide : 9 < 1000), ?_⟩
    have nD0 := nDo L.self (by simp [HLay.own])
    have nD1 := nDo L.owners (by simp [HLay.own])
    let h5 : Hl := { (Hl.setGrp { h with taken := h.taken + h.bill g } g { h.grp g with gone := true }) with line := h.line.filter fun j => j != g }
    have ho5 : OwnAt a (upd H4 L.self (.ins a.CHall L.dx (putF "line" (.ref D) (hF L (Hl.setGrp { h with taken := h.taken + h.bill g } g { h.grp g with gone := true }))))) { L with line := D } h5 := by
      refine ⟨upd_same, (upd_ne (Ne.symm n1)).trans ho4.owners, (upd_ne (Ne.symm n2)).trans ho4.broken, (upd_ne (Ne.symm n3)).trans ho4.groups, (upd_ne nD0).trans e4, nd4 ho.nd nD1 (nDo L.broken (by simp [HLay.own])) (nDo L.groups (by simp [HLay.own]))⟩
    have k5 : Kept (fun b => b ∈ L.own) H4 (upd H4 L.self (.ins a.CHall L.dx (putF "line" (.ref D) (hF L (Hl.setGrp { h with taken := h.taken + h.bill g } g { h.grp g with gone := true }))))) := (Kept.refl _ H4).put (by simp [HLay.own]) ho4.self rfl
    -- from here to the end
    have last : ∀ (h6 : Hl) (H6 : Hp) (σ : L2.St), σ[0]? = some (some (.ref L.self)) → σ[2]? = some (some (nV (h.bill g))) → OwnAt a H6 { L with line := D } h6 → LanesOk h6 → Kept (fun b => b ∈ L.own) H4 H6 → h6.groups = h5.groups → h6.league = h5.league → h6.give = h.go g →
        (tSeq (tDrop (tMeth a.CHall "give_lanes" (sp_Hall_give_lanes P w K a) [] E0 (tVar 0) tNil)) (tRet (tVar 2))) { nx := fun _ H' => Q .non H', rt := Q } σ H6 := by
      intro h6 H6 σ e0 e2 ho6 ok6 k6 eg el egive
      refine ⟨_, e0, L.self, _, _, rfl, ho6.self, rfl, { L with line := D }, h6, rfl, ho6, ok6, fun H7 ho7 k7 => ?_⟩
      refine ⟨_, e2, q H7 ?_⟩
      rw [← egive]
      refine (StepL.bind st3 fun ρ3' hx3' => ?_ : StepL P w a H ρ { L with line := D } h6.give H7).step
      refine hx3'.setO (ln := D) ho7 (fun b o e t => ?_) (.inr hD) eg el
      have nb : b ≠ D := ne_of_none e hD
      refine k7 b o (k6 b o (s4 b o e) t) fun hb => t ?_
      simp only [HLay.own, List.mem_cons, List.not_mem_nil, or_false] at hb ⊢
      rcases hb with z | z | z | z | z
      · exact .inl z
      · exact .inr (.inl z)
      · exact .inr (.inr (.inl z))
      · exact .inr (.inr (.inr (.inl z)))
      · exact absurd z nb
    have ok5 : LanesOk h5 := ok.lanesOk
    refine ⟨_, rfl, L.self, _, _, rfl, ho5.self, rfl, _, rfl, { L with line := D }, h5, g, rfl, ho5, ?_⟩
    have elane : h5.laneOf g = h.laneOf g := rfl
    have ego : h.go g = Hl.give (Hl.left h5 g) := rfl
    refine ⟨_, rfl, _, rfl, ?_⟩
    cases el : h.laneOf g with
    | none =>
      rw [elane, el]
      refine ite_false_of (by simp [optV]) (last h5 _ _ rfl rfl ho5 ok5 k5 rfl rfl ?_)
      rw [ego]
      unfold Hl.left
      rw [elane, el]
    | some k =>
      rw [elane, el]
      have hk : k < h.owners.length := by
        unfold Hl.laneOf at el
        split at el
        · rename_i c
          cases el
          exact List.idxOf_lt_length_iff.mpr c
        · cases el
      refine ite_true_of (by rfl) ?_
      have ho5o : upd H4 L.self (.ins a.CHall L.dx (putF "line" (.ref D) (hF L (Hl.setGrp { h with taken := h.taken + h.bill g } g { h.grp g with gone := true })))) L.owners = some (.lst (h.owners.map optV)) := ho5.owners
      refine ⟨_, rfl, _, _, _, _, _, rfl, ho5.self, T.c_Hall, T.a_Hall_owners, rfl, _, rfl, L.owners, _, (k : Int), k, rfl, rfl, ho5o, ixN_nat (by rw [List.length_map]; exact hk), ?_⟩
      refine last { h5 with owners := h.owners.set k none } _ _ rfl rfl ⟨(upd_ne n1).trans ho5.self, ?_, (upd_ne (Ne.symm n5)).trans ho5.broken, (upd_ne (Ne.symm n6)).trans ho5.groups, (upd_ne nD1).trans ho5.line, ho5.nd⟩ ?_ (k5.put (by simp [HLay.own]) ho5o rfl) rfl rfl ?_
      · show upd _ L.owners _ L.owners = _
        rw [upd_same]
        show some (HO.lst _) = some (HO.lst (List.map optV (h.owners.set k none)))
        rw [List.map_set]; rfl
      · exact ⟨by show (h.owners.set k none).length ≤ _; rw [List.length_set]; exact ok.lanesOk.1, by show h.broken.length = (h.owners.set k none).length; rw [List.length_set]; exact ok.broken⟩
      · rw [ego]
        unfold Hl.left
        rw [elane, el]
        rfl
theorem ok_Hall_go {P : Program} {w : World} {K : PySem.W.Frag} {mg : Str → Option Value} {base : Heap} {a : Ad} (T : Txt K mg a) : MetB P w K mg base CX0 3 a.CHall "go" (sp_Hall_go P w K a) :=
  MetB.mk0 T.f_Hall_go sc_Hall_go l_Hall_go fun f cdv A outer s H vs Q E hr h => ⟨_, d_Hall_go T (ok_Hall_bill T) (ok_Hall_lane_of T) (ok_Hall_give_lanes T) hr, p_Hall_go T h⟩
/-! ### Hall.is_team_taken -/
def sp_Hall_is_team_taken (P : Program) (w : World) (K : PySem.W.Frag) (a : Ad) : Sp := fun vs H Q _ => ∃ (ρ : Addr → Option Tag) (L : HLay) (h : Hl) (t : Nat), vs = [.ref L.self, nV t] ∧ HallAt P w a H ρ L h ∧ h.groups.length ≤ 1000 ∧ ∀ H', Same H H' → Q (.bl (h.teamTaken t)) H'
theorem l_Hall_is_team_taken : ∀ vs H Q E, sp_Hall_is_team_taken P w K a vs H Q E → vs.length = 2 := by
  rintro vs H Q E ⟨x, y, g, _, rfl, _⟩; rfl
abbrev s_Hall_is_team_taken : Stmt := inClass (top 39) 8
abbrev N_Hall_is_team_taken : List Str := ["self", "team", "group"]
theorem sc_Hall_is_team_taken : FnScope N_Hall_is_team_taken ["self", "team"] (defScope s_Hall_is_team_taken) := ⟨rfl, rfl, rfl, by decide +kernel, rfl, by decide +kernel, by decide +kernel⟩
def t_Hall_is_team_taken (P : Program) (w : World) (K : PySem.W.Frag) (a : Ad) (E : XK) : TS :=
  (tRet (tOp rGtI (tCB (rLenB K) (tCons (tLc (iList K (tFld K (tVar 0) "groups")) (gName 2) (tAnd (tNot (tB (tFld K (tVar 2) "is_gone"))) (tTest (tOp rEq (tFld K (tVar 2) "team") (tVar 1)))) (tVar 2) [2]) tNil)) (tC (.int 0))))
theorem d_Hall_is_team_taken {P : Program} {w : World} {K : PySem.W.Frag} {mg : Str → Option Value} {base : Heap} {a : Ad} (T : Txt K mg a)  {f : Addr} {cdv : Value} {A : Around} {outer : List Env} {s : Shared} {H : Hp} {E : XK}
    (hr : Room 0 (A.deeper (envOfC "Hall.is_team_taken" (defScope s_Hall_is_team_taken) s.heap.objs.size f cdv))) : PSs (cxOf CX0 P w K mg base N_Hall_is_team_taken "Hall.is_team_taken" (defScope s_Hall_is_team_taken) f cdv A outer s H E).nox (defBody s_Hall_is_team_taken) (t_Hall_is_team_taken P w K a E) :=
  (pss_one (ps_ret (pe_cmpR op_gt (pe_callB call_len (by rfl) T.n_len PySem.boot_len (pa_cons (pe_lc (own := [("group", 2)]) (g := (gName 2)) (tt := (tAnd (tNot (tB (tFld K (tVar 2) "is_gone"))) (tTest (tOp rEq (tFld K (tVar 2) "team") (tVar 1))))) (te := (tVar 2)) rfl sc_Hall_is_team_taken.nd (pi_list (pe_fld (pv 0) rfl)) (blkOk_by (N := N_Hall_is_team_taken) (sc := (defScope s_Hall_is_team_taken)) (by decide +kernel)) (fun _ _ _ _ _ => (pg_name (i := 2) sc_Hall_is_team_taken.nd rfl (by first | exact Or.inl rfl | exact Or.inr rfl))) (fun _ _ _ _ _ => (pts_one (PW.pt (pw_and (pt_not (pt_val (pe_fld (pv 2) rfl))) (pw_and1 (pt_cmpR op_eq (pe_fld (pv 2) rfl) (pv 1) (nomark _))))))) (fun _ _ _ _ _ => (pv 2))) pa_nil)) pe_int (nomark _))))
theorem filt_any (n : Nat) (p : Nat → Bool) (f : Nat → V) : decide (0 < (filt p f n).length) = (List.range n).any p := by
  unfold filt
  rw [List.length_map, Bool.eq_iff_iff, decide_eq_true_iff, List.any_eq_true, List.length_pos_iff_exists_mem]
  constructor
  · rintro ⟨x, hx⟩
    exact ⟨x, (List.mem_filter.mp hx).1, (List.mem_filter.mp hx).2⟩
  · rintro ⟨x, h1, h2⟩
    exact ⟨x, List.mem_filter.mpr ⟨h1, h2⟩⟩
theorem any_range {α : Type} (l : List α) (d : α) (p : α → Bool) : (List.range l.length).any (fun j => p (l.getD j d)) = l.any p := by
  rw [Bool.eq_iff_iff, List.any_eq_true, List.any_eq_true]
  constructor
  · rintro ⟨j, h1, h2⟩
    have hj := List.mem_range.mp h1
    exact ⟨_, List.getElem_mem hj, by rw [List.getD_eq_getElem?_getD, List.getElem?_eq_getElem hj] at h2; exact h2⟩
  · rintro ⟨x, h1, h2⟩
    obtain ⟨j, hj, e⟩ := List.mem_iff_getElem.mp h1
    exact ⟨j, List.mem_range.mpr hj, by rw [List.getD_eq_getElem?_getD, List.getElem?_eq_getElem hj, e]; exact h2⟩
theorem scal_opt (o : Option Nat) (t : Nat) : scal (optV o) (nV t) = true := by cases o <;> rfl
theorem eq_opt (o : Option Nat) (t : Nat) : decide (optV o = nV t) = (o == some t) := by
  rw [Bool.eq_iff_iff, decide_eq_true_iff, beq_iff_eq]
  exact ⟨fun e => optV_inj (b := some t) e, fun e => by rw [e]; rfl⟩
theorem p_Hall_is_team_taken (T : Txt K mg a) {vs : List V} {Q : VK} {E : XK} (h : sp_Hall_is_team_taken P w K a vs H Q E) :
    t_Hall_is_team_taken P w K a E { nx := fun _ H' => Q .non H', rt := Q } (start N_Hall_is_team_taken vs) H := by
  obtain ⟨ρ, L, h, t, rfl, hx, hz, q⟩ := h
  have ho := hx.own
  refine ⟨_, rfl, _, _, _, _, _, rfl, ho.self, T.c_Hall, T.a_Hall_groups, rfl, L.groups, rfl, ⟨_, lp ho.groups⟩, ?_⟩
  have hlen : (L.gs.map fun G => V.ref G.self).length = h.groups.length := by rw [List.length_map]; exact hx.glen
  refine lc_out (walk_list (K := K) (a := L.groups) (xs := L.gs.map fun G => V.ref G.self)) (filt (fun j => (fun x : Grp => !x.gone && x.team == some t) (h.groups.getD j (Grp.new 0 0))) fun j => .ref (((L.gs[j]?).map GL.self).getD 0)) (by rw [hlen]; omega) yat_same (fun H' z => lp (z _ _ ho.groups)) rfl (fun i _ => filt_len _ _ _) (fun i x Ha Hb Qy Qn hi sa y qy qn => ?_) fun H1 D s1 hD e1 => ?_
  · obtain ⟨rfl, hxi⟩ := y
    obtain ⟨G, hG, rfl⟩ := getElem?_map_some hxi
    rw [hlen] at hi
    obtain ⟨G', hG', ga⟩ := (hx.up sa).gget hi
    rw [hG] at hG'
    cases hG'
    have eg : h.groups.getD i (Grp.new 0 0) = h.grp i := rfl
    have eG : V.ref (((L.gs[i]?).map GL.self).getD 0) = .ref G.self := by rw [hG]; rfl
    refine ⟨rfl, _, rfl, _, _, _, _, _, rfl, ga.self, T.c_Group, T.a_Group_is_gone, rfl, _, rfl, ?_⟩
    cases cg : (h.grp i).gone with
    | true => exact ite_false_of (by simp) (ite_false_of Bool.false_ne_true (qn _ (Same.refl _) (filt_no (by rw [eg]; show (!(h.grp i).gone && (h.grp i).team == some t) = _; rw [cg]; rfl))))
    | false =>
      refine ite_true_of rfl ⟨_, rfl, _, _, _, _, _, rfl, ga.self, T.c_Group, T.a_Group_team, rfl, _, rfl, scal_opt _ _, _, rfl, ?_⟩
      rw [eq_opt]
      refine ite_b (fun c => ?_) (fun c => ?_)
      · refine ⟨_, rfl, qy _ _ (Same.refl _) ?_⟩
        rw [filt_yes (by rw [eg]; show (!(h.grp i).gone && (h.grp i).team == some t) = _; rw [cg, c]; rfl), eG]
      · exact qn _ (Same.refl _) (filt_no (by rw [eg]; show (!(h.grp i).gone && (h.grp i).team == some t) = _; rw [cg, c]; rfl))
  · refine ⟨_, _, rfl, .inl ⟨_, lp e1, rfl⟩, _, _, rfl, rfl, ?_⟩
    refine val_of ?_ (q H1 s1)
    refine congrArg V.bl ?_
    rw [hlen]
    unfold Hl.teamTaken
    rw [← any_range h.groups (Grp.new 0 0), ← filt_any _ _ fun j => .ref (((L.gs[j]?).map GL.self).getD 0)]
    exact decide_eq_decide.mpr (show ((0 : Int) < ((filt _ _ _).length : Nat)) ↔ (0 < (filt _ _ _).length) from Int.ofNat_lt)
theorem ok_Hall_is_team_taken {P : Program} {w : World} {K : PySem.W.Frag} {mg : Str → Option Value} {base : Heap} {a : Ad} (T : Txt K mg a) : MetB P w K mg base CX0 1 a.CHall "is_team_taken" (sp_Hall_is_team_taken P w K a) :=
  MetB.mk0 T.f_Hall_is_team_taken sc_Hall_is_team_taken l_Hall_is_team_taken fun f cdv A outer s H vs Q E hr h => ⟨_, d_Hall_is_team_taken T  hr, p_Hall_is_team_taken T h⟩
end
end Bw

/-! the walk: a new hall -/
namespace Bw
open PySem PySem.Spec PyProof.Rows L2
section
variable {P : Program} {w : World} {K : PySem.W.Frag} {mg : Str → Option Value} {base : Heap} {a : Ad} {H H' H1 : Hp} {ρ : Addr → Option Tag} {L : HLay} {h h' : Hl} {s : Addr}
def sp_Hall_init (P : Program) (w : World) (K : PySem.W.Frag) (a : Ad) : Sp := fun vs H Q E => ∃ (x dx u : Addr) (l p d t b r : Nat), vs = [.ref x, .ref u] ∧ SqL K H u (nL [l, p, d, t, b, r]) ∧ H x = some (.ins a.CHall dx []) ∧
  (if okNew l p d t b r = true then (∀ H' ρ L, L.self = x → HallAt P w a H' ρ L (Hl.new l p d t b r) → Kept (fun c => c = x) H H' → (∀ c, ρ c ≠ none → c = x ∨ H c = none) → Q .non H') else Ref a H E (-22))
theorem l_Hall_init : ∀ vs H Q E, sp_Hall_init P w K a vs H Q E → vs.length = 2 := by
  rintro vs H Q E ⟨_, _, _, _, _, _, _, _, _, rfl, _⟩; rfl
abbrev s_Hall_init : Stmt := inClass (top 39) 0
abbrev N_Hall_init : List Str := ["self", "numbers", "lanes", "price", "lend", "teams", "base", "percent"]
theorem sc_Hall_init : FnScope N_Hall_init ["self", "numbers"] (defScope s_Hall_init) := ⟨rfl, rfl, rfl, by decide +kernel, rfl, by decide +kernel, by decide +kernel⟩
def t_Hall_init (P : Program) (w : World) (K : PySem.W.Frag) (a : Ad) (E : XK) : TS :=
  (tSeq (tAsg (tVar 1) (gUnl K 6 (gCons (gName 2) (gCons (gName 3) (gCons (gName 4) (gCons (gName 5) (gCons (gName 6) (gCons (gName 7) gNil))))))))
  (tSeq (tDrop (tCall (sp_ask P w K a) [] E (tCons (tAndV (tChain rLeI rLeI (tC (.int 1)) (tVar 2) (tC (.int (8)))) (tAndV (tOp rLeI (tVar 3) (tC (.int (10000)))) (tOp rLeI (tVar 4) (tC (.int (10000)))))) (tCons (tC (.int (-22))) tNil))))
  (tSeq (tDrop (tCall (sp_ask P w K a) [] E (tCons (tAndV (tChain rLeI rLeI (tC (.int (2))) (tVar 5) (tC (.int (8)))) (tChain rLeI rLeI (tC (.int (100))) (tVar 6) (tC (.int (300))))) (tCons (tC (.int (-22))) tNil))))
  (tSeq (tDrop (tCall (sp_ask P w K a) [] E (tCons (tOp rLeI (tVar 7) (tC (.int (100)))) (tCons (tC (.int (-22))) tNil))))
  (tSeq (sFld K (tVar 0) (tVar 3) "price")
  (tSeq (sFld K (tVar 0) (tVar 4) "lend")
  (tSeq (sFld K (tVar 0) (tOp rRep (tLst (tCons (tC .non) tNil)) (tVar 2)) "owners")
  (tSeq (sFld K (tVar 0) (tOp rRep (tLst (tCons (tC (.bl false)) tNil)) (tVar 2)) "broken")
  (tSeq (sFld K (tVar 0) (tLst tNil) "groups")
  (tSeq (sFld K (tVar 0) (tLst tNil) "line")
  (tSeq (sFld K (tVar 0) (tC (.int 0)) "taken")
  (tSeq (sFld K (tVar 0) (tMake a.CLeague (sp_League_init P w K a) [] E0 (tCons (tVar 5) (tCons (tVar 6) (tCons (tVar 7) tNil)))) "league")
  (sFld K (tVar 0) (tMake a.CCounter (sp_Counter_init P w K a) [] E0 tNil) "counter")))))))))))))
theorem d_Hall_init {P : Program} {w : World} {K : PySem.W.Frag} {mg : Str → Option Value} {base : Heap} {a : Ad} (T : Txt K mg a) (c_ask : CalB P w K mg base (L2.CX P w) 3 "ask" (sp_ask P w K a)) (c_League_init : MakB P w K mg base CX0 3 "League" a.CLeague (sp_League_init P w K a)) (c_Counter_init : MakB P w K mg base CX0 1 "Counter" a.CCounter (sp_Counter_init P w K a)) {f : Addr} {cdv : Value} {A : Around} {outer : List Env} {s : Shared} {H : Hp} {E : XK}
    (hr : Room 4 (A.deeper (envOfC "Hall.__init__" (defScope s_Hall_init) s.heap.objs.size f cdv))) : PSs (cxOf (L2.CX P w) P w K mg base N_Hall_init "Hall.__init__" (defScope s_Hall_init) f cdv A outer s H E) (defBody s_Hall_init) (t_Hall_init P w K a E) :=
  (pss_cons (ps_asg (pv 1) (pg_unl rfl (pgs_cons (pg_name (i := 2) sc_Hall_init.nd rfl (by first | exact Or.inl rfl | exact Or.inr rfl)) (pgs_cons (pg_name (i := 3) sc_Hall_init.nd rfl (by first | exact Or.inl rfl | exact Or.inr rfl)) (pgs_cons (pg_name (i := 4) sc_Hall_init.nd rfl (by first | exact Or.inl rfl | exact Or.inr rfl)) (pgs_cons (pg_name (i := 5) sc_Hall_init.nd rfl (by first | exact Or.inl rfl | exact Or.inr rfl)) (pgs_cons (pg_name (i := 6) sc_Hall_init.nd rfl (by first | exact Or.inl rfl | exact Or.inr rfl)) (pgs_cons (pg_name (i := 7) sc_Hall_init.nd rfl (by first | exact Or.inl rfl | exact Or.inr rfl)) pgs_nil))))))))
  (pss_cons (ps_expr (pc c_ask hr (by decide) passX rfl (pa_cons (pe_and (pe_chain op_le op_le pe_int (pv 2) (pgi T.g_MOST_LANES rfl)) (pe_and (pe_cmpR op_le (pv 3) (pgi T.g_MOST_PRICE rfl) (nomark _)) (pe_one (pe_cmpR op_le (pv 4) (pgi T.g_MOST_PRICE rfl) (nomark _))))) (pa_cons (pgi T.g_WRONG rfl) pa_nil))))
  (pss_cons (ps_expr (pc c_ask hr (by decide) passX rfl (pa_cons (pe_and (pe_chain op_le op_le (pgi T.g_LEAST_TEAMS rfl) (pv 5) (pgi T.g_MOST_TEAMS rfl)) (pe_one (pe_chain op_le op_le (pgi T.g_LEAST_BASE rfl) (pv 6) (pgi T.g_MOST_BASE rfl)))) (pa_cons (pgi T.g_WRONG rfl) pa_nil))))
  (pss_cons (ps_expr (pc c_ask hr (by decide) passX rfl (pa_cons (pe_cmpR op_le (pv 7) (pgi T.g_MOST_PERCENT rfl) (nomark _)) (pa_cons (pgi T.g_WRONG rfl) pa_nil))))
  (pss_cons (ps_fld (pv 0) (pv 3) rfl)
  (pss_cons (ps_fld (pv 0) (pv 4) rfl)
  (pss_cons (ps_fld (pv 0) (pe_op op_rep (pe_lst (pa_cons pe_non pa_nil)) (pv 2)) rfl)
  (pss_cons (ps_fld (pv 0) (pe_op op_rep (pe_lst (pa_cons pe_bl pa_nil)) (pv 2)) rfl)
  (pss_cons (ps_fld (pv 0) (pe_lst pa_nil) rfl)
  (pss_cons (ps_fld (pv 0) (pe_lst pa_nil) rfl)
  (pss_cons (ps_fld (pv 0) pe_int rfl)
  (pss_cons (ps_fld (pv 0) (pk c_League_init hr (by decide) pass0 rfl (pa_cons (pv 5) (pa_cons (pv 6) (pa_cons (pv 7) pa_nil)))) rfl)
  (pss_one (ps_fld (pv 0) (pk0 c_Counter_init hr (by decide) pass0 rfl) rfl))))))))))))))
theorem rep_one {n : Nat} (v : V) : (List.replicate ((n : Nat) : Int).toNat [v]).flatten = List.replicate n v := by
  rw [Int.toNat_natCast, List.flatten_replicate_singleton]
theorem kx_free {x : Addr} {o : HO} (k : Kept (fun b => b = x) H H1) (e : H1 x = some o) {b : Addr} (n : H1 b = none) : H b = none := k.free (fun c hc => by rw [show c = x from hc, e]; rfl) n
theorem p_Hall_init (T : Txt K mg a) {vs : List V} {Q : VK} {E : XK} (h : sp_Hall_init P w K a vs H Q E) :
    t_Hall_init P w K a E { nx := fun _ H' => Q .non H', rt := Q } (start N_Hall_init vs) H := by
  obtain ⟨x, dx, u, l, p, d, t, b, r, rfl, hu, hx, q⟩ := h
  have wrong : ¬ okNew l p d t b r = true → Ref a H E (-22) := fun c => by rw [if_neg c] at q; exact q
  have okn : okNew l p d t b r = true ↔ ((1 ≤ l ∧ l ≤ 8) ∧ p ≤ 10000 ∧ d ≤ 10000) ∧ ((2 ≤ t ∧ t ≤ 8) ∧ 100 ≤ b ∧ b ≤ 300) ∧ r ≤ 100 := by
    unfold okNew
    simp only [Bool.and_eq_true, decide_eq_true_eq]
    omega
  refine ⟨_, rfl, u, _, rfl, hu, rfl, _, _, rfl, _, _, rfl, _, _, rfl, _, _, rfl, _, _, rfl, _, _, rfl, rfl, ?_⟩
  have no : ∀ {c : Prop}, ¬ (okNew l p d t b r = true) → (false = true → c) ∧ (false = false → Ref a H E (-22)) := fun n => ⟨fun z => absurd z Bool.false_ne_true, fun _ => wrong n⟩
  -- lanes, price, lend
  refine ⟨_, rfl, _, _, rfl, rfl, _, rfl, ?_⟩
  refine ite_d (fun c1 => ?_) (fun c1 => ⟨_, rfl, ite_false_of Bool.false_ne_true ⟨false, -22, rfl, fun z => absurd z Bool.false_ne_true, fun _ => wrong (by rw [okn]; omega)⟩⟩)
  refine ⟨_, _, rfl, rfl, _, rfl, ?_⟩
  refine ite_d (fun c2 => ?_) (fun c2 => ⟨false, -22, rfl, fun z => absurd z Bool.false_ne_true, fun _ => wrong (by rw [okn]; omega)⟩)
  refine ⟨_, rfl, _, _, rfl, rfl, _, rfl, ?_⟩
  refine ite_d (fun c3 => ?_) (fun c3 => ⟨false, -22, rfl, fun z => absurd z Bool.false_ne_true, fun _ => wrong (by rw [okn]; omega)⟩)
  refine ⟨_, rfl, _, _, rfl, rfl, _, _, rfl, fun c4 => ?_, fun c4 => wrong (by have := of_decide_eq_false c4; rw [okn]; omega)⟩
  have c4' := of_decide_eq_true c4
  -- teams, base
  refine ⟨_, rfl, _, _, rfl, rfl, _, rfl, ?_⟩
  refine ite_d (fun c5 => ?_) (fun c5 => ⟨_, rfl, ite_false_of Bool.false_ne_true ⟨false, -22, rfl, fun z => absurd z Bool.false_ne_true, fun _ => wrong (by rw [okn]; omega)⟩⟩)
  refine ⟨_, _, rfl, rfl, _, rfl, ?_⟩
  refine ite_d (fun c6 => ?_) (fun c6 => ⟨false, -22, rfl, fun z => absurd z Bool.false_ne_true, fun _ => wrong (by rw [okn]; omega)⟩)
  refine ⟨_, rfl, _, _, rfl, rfl, _, rfl, ?_⟩
  refine ite_d (fun c7 => ?_) (fun c7 => ⟨false, -22, rfl, fun z => absurd z Bool.false_ne_true, fun _ => wrong (by rw [okn]; omega)⟩)
  refine ⟨_, _, rfl, rfl, _, _, rfl, fun c8 => ?_, fun c8 => wrong (by have := of_decide_eq_false c8; rw [okn]; omega)⟩
  have c8' := of_decide_eq_true c8
  -- percent
  refine ⟨_, rfl, _, _, rfl, rfl, _, _, rfl, fun c9 => ?_, fun c9 => wrong (by have := of_decide_eq_false c9; rw [okn]; omega)⟩
  have c9' := of_decide_eq_true c9
  have good : okNew l p d t b r = true := by rw [okn]; omega
  rw [if_pos good] at q
  have hl8 : l ≤ 8 := by omega
  have ht8 : t ≤ 8 := by omega
  -- price, lend
  refine ⟨_, rfl, _, rfl, x, _, dx, _, rfl, hx, T.c_Hall, T.a_Hall_price, (by decide : 0 < 1000), ?_⟩
  refine ⟨_, rfl, _, rfl, x, _, dx, _, rfl, upd_same, T.c_Hall, T.a_Hall_lend, (by decide : 1 < 1000), ?_⟩
  rw [upd_upd]
  have k1 : Kept (fun c => c = x) H (upd H x (.ins a.CHall dx [("price", nV p), ("lend", nV d)])) := (Kept.refl _ H).put rfl hx rfl
  have x1 : upd H x (.ins a.CHall dx [("price", nV p), ("lend", nV d)]) x = _ := upd_same
  suffices main : ∀ H1 : Hp, Kept (fun c => c = x) H H1 → H1 x = some (.ins a.CHall dx [("price", nV p), ("lend", nV d)]) →
      (tSeq (sFld K (tVar 0) (tOp rRep (tLst (tCons (tC .non) tNil)) (tVar 2)) "owners")
  (tSeq (sFld K (tVar 0) (tOp rRep (tLst (tCons (tC (.bl false)) tNil)) (tVar 2)) "broken")
  (tSeq (sFld K (tVar 0) (tLst tNil) "groups")
  (tSeq (sFld K (tVar 0) (tLst tNil) "line")
  (tSeq (sFld K (tVar 0) (tC (.int 0)) "taken")
  (tSeq (sFld K (tVar 0) (tMake a.CLeague (sp_League_init P w K a) [] E0 (tCons (tVar 5) (tCons (tVar 6) (tCons (tVar 7) tNil)))) "league")
  (sFld K (tVar 0) (tMake a.CCounter (sp_Counter_init P w K a) [] E0 tNil) "counter"))))))) { nx := fun _ H' => Q .non H', rt := Q } [some (.ref x), some (.ref u), some (nV l), some (nV p), some (nV d), some (nV t), some (nV b), some (nV r)] H1 from main _ k1 x1
  intro H1 k1 x1
  -- owners
  refine ⟨le1, fun p1 hp1 => ⟨_, rfl, p1, _, _, rfl, rfl, upd_same, by omega, by omega, ?_, fun ow how => ?_⟩⟩
  · rw [Int.toNat_natCast]; exact small_line' (by show 1 * l ≤ _; omega)
  rw [rep_one]
  have s2 := (same_upd (o := .lst [V.non]) hp1).trans (same_upd (o := .lst (List.replicate l V.non)) how)
  have x2 := s2 _ _ x1
  refine ⟨_, rfl, x, _, dx, _, rfl, x2, T.c_Hall, T.a_Hall_owners, (by decide : 2 < 1000), ?_⟩
  have k2 := (k1.trans (Kept.of s2)).put (o' := .ins a.CHall dx (putF "owners" (.ref ow) [("price", nV p), ("lend", nV d)])) (by rfl : (fun c => c = x) x) x2 rfl
  have how0 : H ow = none := kx_free k1 x1 ((same_upd (o := .lst [V.non]) hp1).free how)
  have nx : ∀ {c}, H c = none → c ≠ x := fun e z => by rw [z, hx] at e; cases e
  have eow : upd (upd (upd H1 p1 (.lst [V.non])) ow (.lst (List.replicate l V.non))) x (.ins a.CHall dx (putF "owners" (.ref ow) [("price", nV p), ("lend", nV d)])) ow = some (.lst (List.replicate l V.non)) := (upd_ne (nx how0)).trans upd_same
  have x3 : upd (upd (upd H1 p1 (.lst [V.non])) ow (.lst (List.replicate l V.non))) x (.ins a.CHall dx (putF "owners" (.ref ow) [("price", nV p), ("lend", nV d)])) x = _ := upd_same
  generalize upd (upd (upd H1 p1 (.lst [V.non])) ow (.lst (List.replicate l V.non))) x (.ins a.CHall dx (putF "owners" (.ref ow) [("price", nV p), ("lend", nV d)])) = H2 at k2 eow x3
  -- broken
  refine ⟨le1, fun p2 hp2 => ⟨_, rfl, p2, _, _, rfl, rfl, upd_same, by omega, by omega, ?_, fun br hbr => ?_⟩⟩
  · rw [Int.toNat_natCast]; exact small_line' (by show 1 * l ≤ _; omega)
  rw [rep_one]
  have s3 := (same_upd (o := .lst [V.bl false]) hp2).trans (same_upd (o := .lst (List.replicate l (V.bl false))) hbr)
  have x4 := s3 _ _ x3
  refine ⟨_, rfl, x, _, dx, _, rfl, x4, T.c_Hall, T.a_Hall_broken, (by decide : 3 < 1000), ?_⟩
  have k23 := (Kept.of (T := fun c => c = x) s3).put (o' := .ins a.CHall dx (putF "broken" (.ref br) (putF "owners" (.ref ow) [("price", nV p), ("lend", nV d)]))) rfl x4 rfl
  have hbr2 : H2 br = none := (same_upd (o := .lst [V.bl false]) hp2).free hbr
  have hbr0 : H br = none := kx_free k2 x3 hbr2
  have k3 := k2.trans k23
  have eow3 := k23 _ _ eow fun z => absurd z (nx how0)
  have nbo : br ≠ ow := fun z => by rw [z, eow] at hbr2; cases hbr2
  have ebr : upd (upd (upd H2 p2 (.lst [V.bl false])) br (.lst (List.replicate l (V.bl false)))) x (.ins a.CHall dx (putF "broken" (.ref br) (putF "owners" (.ref ow) [("price", nV p), ("lend", nV d)]))) br = some (.lst (List.replicate l (V.bl false))) := (upd_ne (nx hbr0)).trans upd_same
  have x5 : upd (upd (upd H2 p2 (.lst [V.bl false])) br (.lst (List.replicate l (V.bl false)))) x (.ins a.CHall dx (putF "broken" (.ref br) (putF "owners" (.ref ow) [("price", nV p), ("lend", nV d)]))) x = _ := upd_same
  generalize upd (upd (upd H2 p2 (.lst [V.bl false])) br (.lst (List.replicate l (V.bl false)))) x (.ins a.CHall dx (putF "broken" (.ref br) (putF "owners" (.ref ow) [("price", nV p), ("lend", nV d)]))) = H3 at k3 k23 eow3 ebr x5
  -- groups
  refine ⟨by decide, fun gr hgr => ?_⟩
  have s4 := same_upd (o := .lst []) hgr
  have x6 := s4 _ _ x5
  refine ⟨_, rfl, x, _, dx, _, rfl, x6, T.c_Hall, T.a_Hall_groups, (by decide : 4 < 1000), ?_⟩
  have k34 := (Kept.of (T := fun c => c = x) s4).put (o' := .ins a.CHall dx (putF "groups" (.ref gr) (putF "broken" (.ref br) (putF "owners" (.ref ow) [("price", nV p), ("lend", nV d)])))) rfl x6 rfl
  have hgr0 : H gr = none := kx_free k3 x5 hgr
  have k4 := k3.trans k34
  have eow4 := k34 _ _ eow3 fun z => absurd z (nx how0)
  have ebr4 := k34 _ _ ebr fun z => absurd z (nx hbr0)
  have ngo : gr ≠ ow := fun z => by rw [z, eow3] at hgr; cases hgr
  have ngb : gr ≠ br := fun z => by rw [z, ebr] at hgr; cases hgr
  have egr : upd (upd H3 gr (.lst [])) x (.ins a.CHall dx (putF "groups" (.ref gr) (putF "broken" (.ref br) (putF "owners" (.ref ow) [("price", nV p), ("lend", nV d)])))) gr = some (.lst []) := (upd_ne (nx hgr0)).trans upd_same
  have x7 : upd (upd H3 gr (.lst [])) x (.ins a.CHall dx (putF "groups" (.ref gr) (putF "broken" (.ref br) (putF "owners" (.ref ow) [("price", nV p), ("lend", nV d)])))) x = _ := upd_same
  generalize upd (upd H3 gr (.lst [])) x (.ins a.CHall dx (putF "groups" (.ref gr) (putF "broken" (.ref br) (putF "owners" (.ref ow) [("price", nV p), ("lend", nV d)])))) = H4 at k4 k34 eow4 ebr4 egr x7
  -- line
  refine ⟨by decide, fun li hli => ?_⟩
  have s5 := same_upd (o := .lst []) hli
  have x8 := s5 _ _ x7
  refine ⟨_, rfl, x, _, dx, _, rfl, x8, T.c_Hall, T.a_Hall_line, (by decide : 5 < 1000), ?_⟩
  have hli0 : H li = none := kx_free k4 x7 hli
  have nlo : li ≠ ow := fun z => by rw [z, eow4] at hli; cases hli
  have nlb : li ≠ br := fun z => by rw [z, ebr4] at hli; cases hli
  have nlg : li ≠ gr := fun z => by rw [z, egr] at hli; cases hli
  -- taken
  refine ⟨_, rfl, x, _, dx, _, rfl, upd_same, T.c_Hall, T.a_Hall_taken, (by decide : 6 < 1000), ?_⟩
  rw [upd_upd]
  have k45 := (Kept.of (T := fun c => c = x) s5).put (o' := .ins a.CHall dx (putF "taken" (.int 0) (putF "line" (.ref li) (putF "groups" (.ref gr) (putF "broken" (.ref br) (putF "owners" (.ref ow) [("price", nV p), ("lend", nV d)])))))) rfl x8 rfl
  have k5 := k4.trans k45
  have eow5 := k45 _ _ eow4 fun z => absurd z (nx how0)
  have ebr5 := k45 _ _ ebr4 fun z => absurd z (nx hbr0)
  have egr5 := k45 _ _ egr fun z => absurd z (nx hgr0)
  have eli : upd (upd H4 li (.lst [])) x (.ins a.CHall dx (putF "taken" (.int 0) (putF "line" (.ref li) (putF "groups" (.ref gr) (putF "broken" (.ref br) (putF "owners" (.ref ow) [("price", nV p), ("lend", nV d)])))))) li = some (.lst []) := (upd_ne (nx hli0)).trans upd_same
  have x9 : upd (upd H4 li (.lst [])) x (.ins a.CHall dx (putF "taken" (.int 0) (putF "line" (.ref li) (putF "groups" (.ref gr) (putF "broken" (.ref br) (putF "owners" (.ref ow) [("price", nV p), ("lend", nV d)])))))) x = _ := upd_same
  suffices main : ∀ H5 : Hp, Kept (fun c => c = x) H H5 → H5 ow = some (.lst (List.replicate l V.non)) → H5 br = some (.lst (List.replicate l (V.bl false))) → H5 gr = some (.lst []) → H5 li = some (.lst []) →
      H5 x = some (.ins a.CHall dx (putF "taken" (.int 0) (putF "line" (.ref li) (putF "groups" (.ref gr) (putF "broken" (.ref br) (putF "owners" (.ref ow) [("price", nV p), ("lend", nV d)])))))) →
      (tSeq (sFld K (tVar 0) (tMake a.CLeague (sp_League_init P w K a) [] E0 (tCons (tVar 5) (tCons (tVar 6) (tCons (tVar 7) tNil)))) "league")
  (sFld K (tVar 0) (tMake a.CCounter (sp_Counter_init P w K a) [] E0 tNil) "counter")) { nx := fun _ H' => Q .non H', rt := Q } [some (.ref x), some (.ref u), some (nV l), some (nV p), some (nV d), some (nV t), some (nV b), some (nV r)] H5 from main _ k5 eow5 ebr5 egr5 eli x9
  intro H5 k5 eow5 ebr5 egr5 eli5 x9
  -- the league
  refine ⟨_, rfl, _, rfl, _, rfl, fun y dy hy hdy ndy => ⟨y, dy, t, b, r, rfl, by omega, upd_same, fun H6 LL hLL eL k6 fr6 => ⟨rfl, ?_⟩⟩⟩
  subst eL
  have s6 : Same H5 H6 := made_kept (T := fun _ => False) hy hdy k6
  have frL : ∀ c ∈ LL.fp, H5 c = none := fun c hc => by
    rcases fr6 c hc with e | e
    · rw [e]; exact hy
    · exact made_free e
  have x10 := s6 _ _ x9
  refine ⟨_, rfl, x, _, dx, _, rfl, x10, T.c_Hall, T.a_Hall_league, (by decide : 7 < 1000), ?_⟩
  have nLx : ∀ c ∈ LL.fp, c ≠ x := fun c hc z => by have := frL c hc; rw [z, x9] at this; cases this
  have k7 := ((k5.trans (Kept.of s6)).put (o' := .ins a.CHall dx (putF "league" (.ref LL.self) (putF "taken" (.int 0) (putF "line" (.ref li) (putF "groups" (.ref gr) (putF "broken" (.ref br) (putF "owners" (.ref ow) [("price", nV p), ("lend", nV d)]))))))) (by rfl : (fun c => c = x) x) x10 rfl)
  have up7 : ∀ c o, H6 c = some o → c ≠ x → upd H6 x (.ins a.CHall dx (putF "league" (.ref LL.self) (putF "taken" (.int 0) (putF "line" (.ref li) (putF "groups" (.ref gr) (putF "broken" (.ref br) (putF "owners" (.ref ow) [("price", nV p), ("lend", nV d)]))))))) c = some o := fun c o e n => by rw [upd_ne n]; exact e
  have hLL7 := hLL.keep fun c hc o e => up7 c o e (nLx c hc)
  have x11 : upd H6 x (.ins a.CHall dx (putF "league" (.ref LL.self) (putF "taken" (.int 0) (putF "line" (.ref li) (putF "groups" (.ref gr) (putF "broken" (.ref br) (putF "owners" (.ref ow) [("price", nV p), ("lend", nV d)]))))))) x = _ := upd_same
  -- the counter
  refine fun z dz hz hdz ndz => ⟨z, dz, rfl, upd_same, fun H8 m hC k8 hm8 => ⟨rfl, ?_⟩⟩
  have s8 : Same _ H8 := made_kept (T := fun _ => False) hz hdz k8
  have x12 := s8 _ _ x11
  refine ⟨_, rfl, x, _, dx, _, rfl, x12, T.c_Hall, T.a_Hall_counter, (by decide : 8 < 1000), ?_⟩
  have hz5 : H5 z = none := s6.free (by
    have : z ≠ x := fun q => by rw [q, upd_same] at hz; cases hz
    rw [upd_ne this] at hz; exact hz)
  have hm7 := made_free hm8
  have hm5 : H5 m = none := s6.free (by
    have : m ≠ x := fun q => by rw [q, upd_same] at hm7; cases hm7
    rw [upd_ne this] at hm7; exact hm7)
  have nzx : z ≠ x := fun q => by rw [q, x9] at hz5; cases hz5
  have nmx : m ≠ x := fun q => by rw [q, x9] at hm5; cases hm5
  have kx : ∀ c o, H8 c = some o → c ≠ x → upd H8 x (.ins a.CHall dx (putF "counter" (.ref z) (putF "league" (.ref LL.self) (putF "taken" (.int 0) (putF "line" (.ref li) (putF "groups" (.ref gr) (putF "broken" (.ref br) (putF "owners" (.ref ow) [("price", nV p), ("lend", nV d)])))))))) c = some o := fun c o e n => by rw [upd_ne n]; exact e
  have old : ∀ c o, H5 c = some o → c ≠ x → upd H8 x (.ins a.CHall dx (putF "counter" (.ref z) (putF "league" (.ref LL.self) (putF "taken" (.int 0) (putF "line" (.ref li) (putF "groups" (.ref gr) (putF "broken" (.ref br) (putF "owners" (.ref ow) [("price", nV p), ("lend", nV d)])))))))) c = some o := fun c o e n => kx c o (s8 _ _ (up7 c o (s6 _ _ e) n)) n
  have nown : ∀ c, c ∈ [x, ow, br, gr, li] → ∃ o, H5 c = some o := fun c hc => by
    simp only [List.mem_cons, List.not_mem_nil, or_false] at hc
    rcases hc with e | e | e | e | e <;> subst e
    · exact ⟨_, x9⟩
    · exact ⟨_, eow5⟩
    · exact ⟨_, ebr5⟩
    · exact ⟨_, egr5⟩
    · exact ⟨_, eli5⟩
  -- who owns what
  have nLown : ∀ c ∈ LL.fp, c ∉ [x, ow, br, gr, li] := fun c hc hm => by
    obtain ⟨o, e⟩ := nown c hm
    rw [frL c hc] at e; cases e
  have nzown : z ∉ [x, ow, br, gr, li] := fun hm => by
    obtain ⟨o, e⟩ := nown z hm
    rw [hz5] at e; cases e
  have nmown : m ∉ [x, ow, br, gr, li] := fun hm => by
    obtain ⟨o, e⟩ := nown m hm
    rw [hm5] at e; cases e
  have nzL : z ∉ LL.fp := fun hc => by
    obtain ⟨o, e, _⟩ := hLL7.what hc
    rw [hz] at e; cases e
  have nmL : m ∉ LL.fp := fun hc => by
    obtain ⟨o, e, _⟩ := hLL7.what hc
    rw [hm7] at e; cases e
  refine q _ (fun c => if c ∈ [x, ow, br, gr, li] then some .h else if c ∈ LL.fp then some .l else if c = z ∨ c = m then some .c else none) ⟨x, dx, ow, br, gr, li, [], LL, z, m, dz, []⟩ rfl ⟨⟨upd_same, ?_, ?_, ?_, ?_, ?_⟩, rfl, ?_, ?_, ?_, ?_, ?_, ?_, ?_, ?_⟩ ?_ ?_
  · show upd H8 x _ ow = some (.lst ((List.replicate l none).map optV))
    rw [old _ _ eow5 (nx how0), List.map_replicate]; rfl
  · show upd H8 x _ br = some (.lst ((List.replicate l false).map V.bl))
    rw [old _ _ ebr5 (nx hbr0), List.map_replicate]
  · exact old _ _ egr5 (nx hgr0)
  · exact old _ _ eli5 (nx hli0)
  · show [ow, br, gr, li].Nodup
    simp only [List.nodup_cons, List.mem_cons, List.not_mem_nil, or_false, not_or]
    exact ⟨⟨Ne.symm nbo, Ne.symm ngo, Ne.symm nlo⟩, ⟨Ne.symm ngb, Ne.symm nlb⟩, Ne.symm nlg, fun z => z, List.nodup_nil⟩
  · intro i G g h1
    simp at h1
  · exact hLL7.keep fun c hc o e => kx c o (s8 _ _ e) (nLx c hc)
  · refine hC.keep fun c o e hc => kx c o e ?_
    rcases hc with q1 | q1 | ⟨e2, he2, _⟩ | q1
    · rw [q1]; exact nzx
    · rw [q1]; exact nmx
    · simp at he2
    · intro q2; rw [q2, x12] at e; cases e; cases q1
  · exact fun c hc => if_pos hc
  · intro i G h1
    simp at h1
  · intro c hc
    show (if _ then _ else _) = _
    rw [if_neg (nLown c hc), if_pos hc]
  · refine ⟨?_, ?_, fun e he => by simp at he⟩
    · show (if z ∈ _ then _ else _) = _
      rw [if_neg nzown, if_neg nzL, if_pos (.inl rfl)]
    · show (if m ∈ _ then _ else _) = _
      rw [if_neg nmown, if_neg nmL, if_pos (.inr rfl)]
  · intro c hc e
    have hc' : (if c ∈ [x, ow, br, gr, li] then some Tag.h else if c ∈ LL.fp then some Tag.l else if c = z ∨ c = m then some Tag.c else none) ≠ none := hc
    by_cases q1 : c ∈ [x, ow, br, gr, li]
    · by_cases q2 : c = x
      · rw [q2, upd_same] at e; cases e
      · obtain ⟨o, e2⟩ := nown c q1
        rw [old c o e2 q2] at e; cases e
    rw [if_neg q1] at hc'
    by_cases q2 : c ∈ LL.fp
    · obtain ⟨o, e2, _⟩ := hLL7.what q2
      rw [kx c o (s8 _ _ e2) (nLx c q2)] at e; cases e
    rw [if_neg q2] at hc'
    by_cases q3 : c = z ∨ c = m
    · rcases q3 with q3 | q3
      · rw [q3, kx z _ hC.self nzx] at e; cases e
      · rw [q3, kx m _ hC.memo nmx] at e; cases e
    · rw [if_neg q3] at hc'; exact hc' rfl
  · exact ((k7.trans (Kept.of s8)).put rfl x12 rfl)
  · intro c hc
    have hc' : (if c ∈ [x, ow, br, gr, li] then some Tag.h else if c ∈ LL.fp then some Tag.l else if c = z ∨ c = m then some Tag.c else none) ≠ none := hc
    by_cases q1 : c ∈ [x, ow, br, gr, li]
    · simp only [List.mem_cons, List.not_mem_nil, or_false] at q1
      rcases q1 with e | e | e | e | e
      · exact .inl e
      · exact .inr (by rw [e]; exact how0)
      · exact .inr (by rw [e]; exact hbr0)
      · exact .inr (by rw [e]; exact hgr0)
      · exact .inr (by rw [e]; exact hli0)
    rw [if_neg q1] at hc'
    by_cases q2 : c ∈ LL.fp
    · exact .inr (kx_free k5 x9 (frL c q2))
    rw [if_neg q2] at hc'
    by_cases q3 : c = z ∨ c = m
    · rcases q3 with q3 | q3
      · rw [q3]; exact .inr (kx_free k5 x9 hz5)
      · rw [q3]; exact .inr (kx_free k5 x9 hm5)
    · rw [if_neg q3] at hc'; exact absurd rfl hc'
theorem ok_Hall_init {P : Program} {w : World} {K : PySem.W.Frag} {mg : Str → Option Value} {base : Heap} {a : Ad} (T : Txt K mg a) : MakB P w K mg base (L2.CX P w) 5 "Hall" a.CHall (sp_Hall_init P w K a) :=
  MakB.mkX T.f_Hall_init sc_Hall_init l_Hall_init fun f cdv A outer s H vs Q E hr h => ⟨_, d_Hall_init T (ok_ask T) (ok_League_init T) (ok_Counter_init T) hr, p_Hall_init T h⟩
end
end Bw

/-! the walk: the calls, part one -/
namespace Bw
open PySem PySem.Spec PyProof.Rows L2
/-- what a call's result is: the numbers in a new list and the hall behind it; or the refusal -/
def Does (P : Program) (w : World) (a : Ad) (H : Hp) (ρ : Addr → Option Tag) (s : Addr) (r : Except Int (Hl × List Int)) (Q : VK) (E : XK) : Prop := match r with
  | .ok (h', ans) => ∀ H' p, Step P w a H ρ s h' H' → (ρ p = none → H p = none) → H' p = some (.lst (ans.map V.int)) → Q (.ref p) H'
  | .error e => Ref a H E e
section
variable {P : Program} {w : World} {K : PySem.W.Frag} {mg : Str → Option Value} {base : Heap} {a : Ad} {H H' H1 : Hp} {ρ : Addr → Option Tag} {L : HLay} {h h' : Hl} {s : Addr}
variable {Qz : VK}
theorem Step.fresh (x : Step P w a H ρ s h H1) {p : Addr} (e : H1 p = none) : ρ p = none → H p = none := fun c => by
  obtain ⟨L1, e1, ρ1, x1, k1, g1⟩ := x
  cases q : H p with
  | none => rfl
  | some o => rw [k1 p o q fun z => absurd c z] at e; cases e
theorem noB {c : Prop} (z : false = true) : c := absurd z Bool.false_ne_true
/-! ### need_group -/
def sp_need_group (P : Program) (w : World) (K : PySem.W.Frag) (a : Ad) : Sp := fun vs H Q E => ∃ (ρ : Addr → Option Tag) (L : HLay) (h : Hl) (g : Nat), vs = [.ref L.self, nV g] ∧ HallAt P w a H ρ L h ∧ (if g < h.groups.length then (∀ G, L.gs[g]? = some G → Q (.ref G.self) H) else Ref a H E (-2))
theorem l_need_group : ∀ vs H Q E, sp_need_group P w K a vs H Q E → vs.length = 2 := by
  rintro vs H Q E ⟨_, _, _, _, rfl, _⟩; rfl
abbrev s_need_group : Stmt := top 49
abbrev N_need_group : List Str := ["hall", "number"]
theorem sc_need_group : FnScope N_need_group ["hall", "number"] (defScope s_need_group) := ⟨rfl, rfl, rfl, by decide +kernel, rfl, by decide +kernel, by decide +kernel⟩
def t_need_group (P : Program) (w : World) (K : PySem.W.Frag) (a : Ad) (E : XK) : TS :=
  (tSeq (tDrop (tCall (sp_ask P w K a) [] E (tCons (tOp rLtI (tVar 1) (tCB (rLenB K) (tCons (tFld K (tVar 0) "groups") tNil))) (tCons (tC (.int (-2))) tNil))))
  (tRet (tOp (rIxL K) (tFld K (tVar 0) "groups") (tVar 1))))
theorem d_need_group {P : Program} {w : World} {K : PySem.W.Frag} {mg : Str → Option Value} {base : Heap} {a : Ad} (T : Txt K mg a) (c_ask : CalB P w K mg base (L2.CX P w) 3 "ask" (sp_ask P w K a)) {f : Addr} {cdv : Value} {A : Around} {outer : List Env} {s : Shared} {H : Hp} {E : XK}
    (hr : Room 3 (A.deeper (envOfC "need_group" (defScope s_need_group) s.heap.objs.size f cdv))) : PSs (cxOf (L2.CX P w) P w K mg base N_need_group "need_group" (defScope s_need_group) f cdv A outer s H E) (defBody s_need_group) (t_need_group P w K a E) :=
  (pss_cons (ps_expr (pc c_ask hr (by decide) passX rfl (pa_cons (pe_cmpR op_lt (pv 1) (pe_callB call_len (by rfl) T.n_len PySem.boot_len (pa_cons (pe_fld (pv 0) rfl) pa_nil)) (nomark _)) (pa_cons (pgi T.g_NO_SUCH rfl) pa_nil))))
  (pss_one (ps_ret (pe_ix ix_list (pe_fld (pv 0) rfl) (pv 1) (fun _ _ => rfl)))))
theorem p_need_group (T : Txt K mg a) {vs : List V} {Q : VK} {E : XK} (h : sp_need_group P w K a vs H Q E) :
    t_need_group P w K a E { nx := fun _ H' => Q .non H', rt := Q } (start N_need_group vs) H := by
  obtain ⟨ρ, L, h, g, rfl, hx, q⟩ := h
  have ho := hx.own
  have hlen : (L.gs.map fun G => V.ref G.self).length = h.groups.length := by rw [List.length_map]; exact hx.glen
  refine ⟨_, rfl, _, rfl, _, _, _, _, _, rfl, ho.self, T.c_Hall, T.a_Hall_groups, rfl, _, _, rfl, .inl ⟨_, lp ho.groups, rfl⟩, _, _, rfl, rfl, _, _, rfl, fun c => ?_, fun c => ?_⟩
  · have c' : g < h.groups.length := by have := of_decide_eq_true c; rw [hlen] at this; omega
    rw [if_pos c'] at q
    obtain ⟨G, hG, ga⟩ := hx.gget c'
    exact ⟨_, rfl, _, _, _, _, _, rfl, ho.self, T.c_Hall, T.a_Hall_groups, rfl, _, rfl, L.groups, _, (g : Int), _, rfl, rfl, lp ho.groups, hx.gat hG, q G hG⟩
  · have c' : ¬ g < h.groups.length := by have := of_decide_eq_false c; rw [hlen] at this; omega
    rw [if_neg c'] at q
    exact q
theorem ok_need_group {P : Program} {w : World} {K : PySem.W.Frag} {mg : Str → Option Value} {base : Heap} {a : Ad} (T : Txt K mg a) : CalB P w K mg base (L2.CX P w) 4 "need_group" (sp_need_group P w K a) :=
  CalB.mkX T.f_need_group sc_need_group l_need_group fun f cdv A outer s H vs Q E hr h => ⟨_, d_need_group T (ok_ask T) hr, p_need_group T h⟩
/-! ### need_here -/
def sp_need_here (P : Program) (w : World) (K : PySem.W.Frag) (a : Ad) : Sp := fun vs H Q E => ∃ (ρ : Addr → Option Tag) (L : HLay) (h : Hl) (g : Nat), vs = [.ref L.self, nV g] ∧ HallAt P w a H ρ L h ∧ (if isHere h g = true then (∀ G, L.gs[g]? = some G → Q (.ref G.self) H) else Ref a H E (-2))
theorem l_need_here : ∀ vs H Q E, sp_need_here P w K a vs H Q E → vs.length = 2 := by
  rintro vs H Q E ⟨_, _, _, _, rfl, _⟩; rfl
abbrev s_need_here : Stmt := top 50
abbrev N_need_here : List Str := ["hall", "number", "group"]
theorem sc_need_here : FnScope N_need_here ["hall", "number"] (defScope s_need_here) := ⟨rfl, rfl, rfl, by decide +kernel, rfl, by decide +kernel, by decide +kernel⟩
def t_need_here (P : Program) (w : World) (K : PySem.W.Frag) (a : Ad) (E : XK) : TS :=
  (tSeq (tAsg (tCall (sp_need_group P w K a) [] E (tCons (tVar 0) (tCons (tVar 1) tNil))) (gName 2))
  (tSeq (tDrop (tCall (sp_ask P w K a) [] E (tCons (tNotV (tFld K (tVar 2) "is_gone")) (tCons (tC (.int (-2))) tNil))))
  (tRet (tVar 2))))
theorem d_need_here {P : Program} {w : World} {K : PySem.W.Frag} {mg : Str → Option Value} {base : Heap} {a : Ad} (T : Txt K mg a) (c_need_group : CalB P w K mg base (L2.CX P w) 4 "need_group" (sp_need_group P w K a)) (c_ask : CalB P w K mg base (L2.CX P w) 3 "ask" (sp_ask P w K a)) {f : Addr} {cdv : Value} {A : Around} {outer : List Env} {s : Shared} {H : Hp} {E : XK}
    (hr : Room 4 (A.deeper (envOfC "need_here" (defScope s_need_here) s.heap.objs.size f cdv))) : PSs (cxOf (L2.CX P w) P w K mg base N_need_here "need_here" (defScope s_need_here) f cdv A outer s H E) (defBody s_need_here) (t_need_here P w K a E) :=
  (pss_cons (ps_set (i := 2) sc_need_here.nd rfl (by first | exact Or.inl rfl | exact Or.inr rfl) (pc c_need_group hr (by decide) passX rfl (pa_cons (pv 0) (pa_cons (pv 1) pa_nil))))
  (pss_cons (ps_expr (pc c_ask hr (by decide) passX rfl (pa_cons (pe_not (pe_fld (pv 2) rfl)) (pa_cons (pgi T.g_NO_SUCH rfl) pa_nil))))
  (pss_one (ps_ret (pv 2)))))
theorem p_need_here (T : Txt K mg a) {vs : List V} {Q : VK} {E : XK} (h : sp_need_here P w K a vs H Q E) :
    t_need_here P w K a E { nx := fun _ H' => Q .non H', rt := Q } (start N_need_here vs) H := by
  obtain ⟨ρ, L, h, g, rfl, hx, q⟩ := h
  refine ⟨_, rfl, _, rfl, ρ, L, h, g, rfl, hx, ?_⟩
  by_cases c : g < h.groups.length
  · rw [if_pos c]
    intro G hG
    obtain ⟨G', hG', ga⟩ := hx.gget c
    rw [hG] at hG'
    cases hG'
    refine ⟨_, rfl, _, _, _, _, _, rfl, ga.self, T.c_Group, T.a_Group_is_gone, rfl, _, rfl, _, _, rfl, fun c2 => ?_, fun c2 => ?_⟩
    · have : isHere h g = true := by unfold isHere; rw [decide_eq_true c, c2]; rfl
      rw [if_pos this] at q
      exact ⟨_, rfl, q G hG⟩
    · have : ¬ isHere h g = true := by unfold isHere; rw [c2, Bool.and_false]; simp
      rw [if_neg this] at q
      exact q
  · have : ¬ isHere h g = true := by unfold isHere; rw [decide_eq_false c, Bool.false_and]; simp
    rw [if_neg this] at q
    rw [if_neg c]
    exact q
theorem ok_need_here {P : Program} {w : World} {K : PySem.W.Frag} {mg : Str → Option Value} {base : Heap} {a : Ad} (T : Txt K mg a) : CalB P w K mg base (L2.CX P w) 5 "need_here" (sp_need_here P w K a) :=
  CalB.mkX T.f_need_here sc_need_here l_need_here fun f cdv A outer s H vs Q E hr h => ⟨_, d_need_here T (ok_need_group T) (ok_ask T) hr, p_need_here T h⟩
/-! ### need_player -/
def sp_need_player (P : Program) (w : World) (K : PySem.W.Frag) (a : Ad) : Sp := fun vs H Q E => ∃ (ρ : Addr → Option Tag) (L : HLay) (h : Hl) (g p : Nat), vs = [.ref L.self, nV g, nV p] ∧ HallAt P w a H ρ L h ∧ HOk h ∧
  (match player h g p with
    | .ok l => ∀ b, H b = some (.lst (nL l)) → g < h.groups.length → p < (h.grp g).size → okR l → Q (.ref b) H
    | .error e => Ref a H E e)
theorem l_need_player : ∀ vs H Q E, sp_need_player P w K a vs H Q E → vs.length = 3 := by
  rintro vs H Q E ⟨_, _, _, _, _, rfl, _⟩; rfl
abbrev s_need_player : Stmt := top 51
abbrev N_need_player : List Str := ["hall", "number", "player", "group"]
theorem sc_need_player : FnScope N_need_player ["hall", "number", "player"] (defScope s_need_player) := ⟨rfl, rfl, rfl, by decide +kernel, rfl, by decide +kernel, by decide +kernel⟩
def t_need_player (P : Program) (w : World) (K : PySem.W.Frag) (a : Ad) (E : XK) : TS :=
  (tSeq (tAsg (tCall (sp_need_group P w K a) [] E (tCons (tVar 0) (tCons (tVar 1) tNil))) (gName 3))
  (tSeq (tDrop (tCall (sp_ask P w K a) [] E (tCons (tOp rLtI (tVar 2) (tFld K (tVar 3) "size")) (tCons (tC (.int (-2))) tNil))))
  (tRet (tOp (rIxL K) (tFld K (tVar 3) "rolls") (tVar 2)))))
theorem d_need_player {P : Program} {w : World} {K : PySem.W.Frag} {mg : Str → Option Value} {base : Heap} {a : Ad} (T : Txt K mg a) (c_need_group : CalB P w K mg base (L2.CX P w) 4 "need_group" (sp_need_group P w K a)) (c_ask : CalB P w K mg base (L2.CX P w) 3 "ask" (sp_ask P w K a)) {f : Addr} {cdv : Value} {A : Around} {outer : List Env} {s : Shared} {H : Hp} {E : XK}
    (hr : Room 4 (A.deeper (envOfC "need_player" (defScope s_need_player) s.heap.objs.size f cdv))) : PSs (cxOf (L2.CX P w) P w K mg base N_need_player "need_player" (defScope s_need_player) f cdv A outer s H E) (defBody s_need_player) (t_need_player P w K a E) :=
  (pss_cons (ps_set (i := 3) sc_need_player.nd rfl (by first | exact Or.inl rfl | exact Or.inr rfl) (pc c_need_group hr (by decide) passX rfl (pa_cons (pv 0) (pa_cons (pv 1) pa_nil))))
  (pss_cons (ps_expr (pc c_ask hr (by decide) passX rfl (pa_cons (pe_cmpR op_lt (pv 2) (pe_fld (pv 3) rfl) (nomark _)) (pa_cons (pgi T.g_NO_SUCH rfl) pa_nil))))
  (pss_one (ps_ret (pe_ix ix_list (pe_fld (pv 3) rfl) (pv 2) (fun _ _ => rfl))))))
theorem p_need_player (T : Txt K mg a) {vs : List V} {Q : VK} {E : XK} (h : sp_need_player P w K a vs H Q E) :
    t_need_player P w K a E { nx := fun _ H' => Q .non H', rt := Q } (start N_need_player vs) H := by
  obtain ⟨ρ, L, h, g, p, rfl, hx, ok, q⟩ := h
  refine ⟨_, rfl, _, rfl, ρ, L, h, g, rfl, hx, ?_⟩
  by_cases c : g < h.groups.length
  · rw [if_pos c]
    intro G hG
    obtain ⟨G', hG', ga⟩ := hx.gget c
    rw [hG] at hG'
    cases hG'
    refine ⟨_, rfl, _, rfl, _, _, _, _, _, rfl, ga.self, T.c_Group, T.a_Group_size, rfl, _, _, rfl, rfl, _, _, rfl, fun c2 => ?_, fun c2 => ?_⟩
    · have c2' : p < (h.grp g).size := by have := of_decide_eq_true c2; omega
      have e : player h g p = .ok ((h.grp g).row p) := by unfold player; rw [if_pos c, if_pos c2']
      rw [e] at q
      have gok := ok.at c
      have hr := row_at (g := h.grp g) (p := p) (by rw [gok.rolls]; exact c2')
      obtain ⟨b, hb, eb⟩ := ga.rows.get' hr
      exact ⟨_, rfl, _, _, _, _, _, rfl, ga.self, T.c_Group, T.a_Group_rolls, rfl, _, rfl, G.rolls, _, (p : Int), _, rfl, rfl, lp ga.rolls, atI_map hb, q b eb c c2' (gok.rows _ (List.mem_of_getElem? hr))⟩
    · have c2' : ¬ p < (h.grp g).size := by have := of_decide_eq_false c2; omega
      have e : player h g p = .error (-2) := by unfold player; rw [if_pos c, if_neg c2']
      rw [e] at q
      exact q
  · have e : player h g p = .error (-2) := by unfold player; rw [if_neg c]
    rw [e] at q
    rw [if_neg c]
    exact q
theorem ok_need_player {P : Program} {w : World} {K : PySem.W.Frag} {mg : Str → Option Value} {base : Heap} {a : Ad} (T : Txt K mg a) : CalB P w K mg base (L2.CX P w) 5 "need_player" (sp_need_player P w K a) :=
  CalB.mkX T.f_need_player sc_need_player l_need_player fun f cdv A outer s H vs Q E hr h => ⟨_, d_need_player T (ok_need_group T) (ok_ask T) hr, p_need_player T h⟩
/-! ### ask_lane -/
def sp_ask_lane (P : Program) (w : World) (K : PySem.W.Frag) (a : Ad) : Sp := fun vs H Q E => ∃ (ρ : Addr → Option Tag) (L : HLay) (h : Hl) (k : Nat), vs = [.ref L.self, nV k] ∧ HallAt P w a H ρ L h ∧ (if k < h.owners.length then Q .non H else Ref a H E (-2))
theorem l_ask_lane : ∀ vs H Q E, sp_ask_lane P w K a vs H Q E → vs.length = 2 := by
  rintro vs H Q E ⟨_, _, _, _, rfl, _⟩; rfl
abbrev s_ask_lane : Stmt := top 52
abbrev N_ask_lane : List Str := ["hall", "lane"]
theorem sc_ask_lane : FnScope N_ask_lane ["hall", "lane"] (defScope s_ask_lane) := ⟨rfl, rfl, rfl, by decide +kernel, rfl, by decide +kernel, by decide +kernel⟩
def t_ask_lane (P : Program) (w : World) (K : PySem.W.Frag) (a : Ad) (E : XK) : TS :=
  (tDrop (tCall (sp_ask P w K a) [] E (tCons (tOp rLtI (tVar 1) (tCB (rLenB K) (tCons (tFld K (tVar 0) "owners") tNil))) (tCons (tC (.int (-2))) tNil))))
theorem d_ask_lane {P : Program} {w : World} {K : PySem.W.Frag} {mg : Str → Option Value} {base : Heap} {a : Ad} (T : Txt K mg a) (c_ask : CalB P w K mg base (L2.CX P w) 3 "ask" (sp_ask P w K a)) {f : Addr} {cdv : Value} {A : Around} {outer : List Env} {s : Shared} {H : Hp} {E : XK}
    (hr : Room 3 (A.deeper (envOfC "ask_lane" (defScope s_ask_lane) s.heap.objs.size f cdv))) : PSs (cxOf (L2.CX P w) P w K mg base N_ask_lane "ask_lane" (defScope s_ask_lane) f cdv A outer s H E) (defBody s_ask_lane) (t_ask_lane P w K a E) :=
  (pss_one (ps_expr (pc c_ask hr (by decide) passX rfl (pa_cons (pe_cmpR op_lt (pv 1) (pe_callB call_len (by rfl) T.n_len PySem.boot_len (pa_cons (pe_fld (pv 0) rfl) pa_nil)) (nomark _)) (pa_cons (pgi T.g_NO_SUCH rfl) pa_nil)))))
theorem p_ask_lane (T : Txt K mg a) {vs : List V} {Q : VK} {E : XK} (h : sp_ask_lane P w K a vs H Q E) :
    t_ask_lane P w K a E { nx := fun _ H' => Q .non H', rt := Q } (start N_ask_lane vs) H := by
  obtain ⟨ρ, L, h, k, rfl, hx, q⟩ := h
  have ho := hx.own
  refine ⟨_, rfl, _, rfl, _, _, _, _, _, rfl, ho.self, T.c_Hall, T.a_Hall_owners, rfl, _, _, rfl, .inl ⟨_, lp ho.owners, rfl⟩, _, _, rfl, rfl, _, _, rfl, fun c => ?_, fun c => ?_⟩
  · have c' : k < h.owners.length := by have := of_decide_eq_true c; rw [List.length_map] at this; omega
    rw [if_pos c'] at q; exact q
  · have c' : ¬ k < h.owners.length := by have := of_decide_eq_false c; rw [List.length_map] at this; omega
    rw [if_neg c'] at q; exact q
theorem ok_ask_lane {P : Program} {w : World} {K : PySem.W.Frag} {mg : Str → Option Value} {base : Heap} {a : Ad} (T : Txt K mg a) : CalB P w K mg base (L2.CX P w) 4 "ask_lane" (sp_ask_lane P w K a) :=
  CalB.mkX T.f_ask_lane sc_ask_lane l_ask_lane fun f cdv A outer s H vs Q E hr h => ⟨_, d_ask_lane T (ok_ask T) hr, p_ask_lane T h⟩
/-! ### need_owner -/
def sp_need_owner (P : Program) (w : World) (K : PySem.W.Frag) (a : Ad) : Sp := fun vs H Q E => ∃ (ρ : Addr → Option Tag) (L : HLay) (h : Hl) (k : Nat), vs = [.ref L.self, nV k] ∧ HallAt P w a H ρ L h ∧ HOk h ∧
  (match onLane h k with
    | .ok g => ∀ G, g < h.groups.length → L.gs[g]? = some G → Q (.ref G.self) H
    | .error e => Ref a H E e)
theorem l_need_owner : ∀ vs H Q E, sp_need_owner P w K a vs H Q E → vs.length = 2 := by
  rintro vs H Q E ⟨_, _, _, _, rfl, _⟩; rfl
abbrev s_need_owner : Stmt := top 53
abbrev N_need_owner : List Str := ["hall", "lane"]
theorem sc_need_owner : FnScope N_need_owner ["hall", "lane"] (defScope s_need_owner) := ⟨rfl, rfl, rfl, by decide +kernel, rfl, by decide +kernel, by decide +kernel⟩
def t_need_owner (P : Program) (w : World) (K : PySem.W.Frag) (a : Ad) (E : XK) : TS :=
  (tSeq (tDrop (tCall (sp_ask_lane P w K a) [] E (tCons (tVar 0) (tCons (tVar 1) tNil))))
  (tSeq (tDrop (tCall (sp_ask P w K a) [] E (tCons (tNotN (tOp (rIxL K) (tFld K (tVar 0) "owners") (tVar 1))) (tCons (tC (.int (-6))) tNil))))
  (tRet (tOp (rIxL K) (tFld K (tVar 0) "groups") (tOp (rIxL K) (tFld K (tVar 0) "owners") (tVar 1))))))
theorem d_need_owner {P : Program} {w : World} {K : PySem.W.Frag} {mg : Str → Option Value} {base : Heap} {a : Ad} (T : Txt K mg a) (c_ask_lane : CalB P w K mg base (L2.CX P w) 4 "ask_lane" (sp_ask_lane P w K a)) (c_ask : CalB P w K mg base (L2.CX P w) 3 "ask" (sp_ask P w K a)) {f : Addr} {cdv : Value} {A : Around} {outer : List Env} {s : Shared} {H : Hp} {E : XK}
    (hr : Room 4 (A.deeper (envOfC "need_owner" (defScope s_need_owner) s.heap.objs.size f cdv))) : PSs (cxOf (L2.CX P w) P w K mg base N_need_owner "need_owner" (defScope s_need_owner) f cdv A outer s H E) (defBody s_need_owner) (t_need_owner P w K a E) :=
  (pss_cons (ps_expr (pc c_ask_lane hr (by decide) passX rfl (pa_cons (pv 0) (pa_cons (pv 1) pa_nil))))
  (pss_cons (ps_expr (pc c_ask hr (by decide) passX rfl (pa_cons (pe_cmp (pc_notN (pe_ix ix_list (pe_fld (pv 0) rfl) (pv 1) (fun _ _ => rfl))) rfl) (pa_cons (pgi T.g_NOBODYS rfl) pa_nil))))
  (pss_one (ps_ret (pe_ix ix_list (pe_fld (pv 0) rfl) (pe_ix ix_list (pe_fld (pv 0) rfl) (pv 1) (fun _ _ => rfl)) (fun _ _ => rfl))))))
theorem p_need_owner (T : Txt K mg a) {vs : List V} {Q : VK} {E : XK} (h : sp_need_owner P w K a vs H Q E) :
    t_need_owner P w K a E { nx := fun _ H' => Q .non H', rt := Q } (start N_need_owner vs) H := by
  obtain ⟨ρ, L, h, k, rfl, hx, ok, q⟩ := h
  have ho := hx.own
  refine ⟨_, rfl, _, rfl, ρ, L, h, k, rfl, hx, ?_⟩
  by_cases c : k < h.owners.length
  · rw [if_pos c]
    have hat := atI_map (f := optV) (owner_at c)
    refine ⟨_, rfl, _, _, _, _, _, rfl, ho.self, T.c_Hall, T.a_Hall_owners, rfl, _, rfl, L.owners, _, (k : Int), _, rfl, rfl, lp ho.owners, hat, _, _, rfl, fun c2 => ?_, fun c2 => ?_⟩
    · rw [optV_non] at c2
      cases eo : h.owner k with
      | none => rw [eo] at c2; exact noB c2
      | some g =>
        have e : onLane h k = .ok g := by unfold onLane; rw [if_pos c, eo]
        rw [e] at q
        have hg : g < h.groups.length := ok.own g (List.mem_of_getElem? (by rw [← eo]; exact owner_at c))
        obtain ⟨G, hG, ga⟩ := hx.gget hg
        rw [eo] at hat
        exact ⟨_, rfl, _, _, _, _, _, rfl, ho.self, T.c_Hall, T.a_Hall_groups, rfl, _, rfl, _, _, _, _, _, rfl, ho.self, T.c_Hall, T.a_Hall_owners, rfl, _, rfl, L.owners, _, (k : Int), _, rfl, rfl, lp ho.owners, hat, L.groups, _, (g : Int), _, rfl, rfl, lp ho.groups, hx.gat hG, q G hg hG⟩
    · rw [optV_non] at c2
      cases eo : h.owner k with
      | none =>
        have e : onLane h k = .error (-6) := by unfold onLane; rw [if_pos c, eo]
        rw [e] at q; exact q
      | some g => rw [eo] at c2; exact noB c2.symm
  · have e : onLane h k = .error (-2) := by unfold onLane; rw [if_neg c]
    rw [e] at q
    rw [if_neg c]; exact q
theorem ok_need_owner {P : Program} {w : World} {K : PySem.W.Frag} {mg : Str → Option Value} {base : Heap} {a : Ad} (T : Txt K mg a) : CalB P w K mg base (L2.CX P w) 5 "need_owner" (sp_need_owner P w K a) :=
  CalB.mkX T.f_need_owner sc_need_owner l_need_owner fun f cdv A outer s H vs Q E hr h => ⟨_, d_need_owner T (ok_ask_lane T) (ok_ask T) hr, p_need_owner T h⟩
/-! ### need_team -/
def sp_need_team (P : Program) (w : World) (K : PySem.W.Frag) (a : Ad) : Sp := fun vs H Q E => ∃ (ρ : Addr → Option Tag) (L : HLay) (h : Hl) (t : Nat), vs = [.ref L.self, nV t] ∧ HallAt P w a H ρ L h ∧ (if t < h.league.teams.length then (∀ U, L.lg.ts[t]? = some U → Q (.ref U.self) H) else Ref a H E (-2))
theorem l_need_team : ∀ vs H Q E, sp_need_team P w K a vs H Q E → vs.length = 2 := by
  rintro vs H Q E ⟨_, _, _, _, rfl, _⟩; rfl
abbrev s_need_team : Stmt := top 68
abbrev N_need_team : List Str := ["hall", "team"]
theorem sc_need_team : FnScope N_need_team ["hall", "team"] (defScope s_need_team) := ⟨rfl, rfl, rfl, by decide +kernel, rfl, by decide +kernel, by decide +kernel⟩
def t_need_team (P : Program) (w : World) (K : PySem.W.Frag) (a : Ad) (E : XK) : TS :=
  (tSeq (tDrop (tCall (sp_ask P w K a) [] E (tCons (tOp rLtI (tVar 1) (tCB (rLenB K) (tCons (tFld K (tFld K (tVar 0) "league") "teams") tNil))) (tCons (tC (.int (-2))) tNil))))
  (tRet (tOp (rIxL K) (tFld K (tFld K (tVar 0) "league") "teams") (tVar 1))))
theorem d_need_team {P : Program} {w : World} {K : PySem.W.Frag} {mg : Str → Option Value} {base : Heap} {a : Ad} (T : Txt K mg a) (c_ask : CalB P w K mg base (L2.CX P w) 3 "ask" (sp_ask P w K a)) {f : Addr} {cdv : Value} {A : Around} {outer : List Env} {s : Shared} {H : Hp} {E : XK}
    (hr : Room 3 (A.deeper (envOfC "need_team" (defScope s_need_team) s.heap.objs.size f cdv))) : PSs (cxOf (L2.CX P w) P w K mg base N_need_team "need_team" (defScope s_need_team) f cdv A outer s H E) (defBody s_need_team) (t_need_team P w K a E) :=
  (pss_cons (ps_expr (pc c_ask hr (by decide) passX rfl (pa_cons (pe_cmpR op_lt (pv 1) (pe_callB call_len (by rfl) T.n_len PySem.boot_len (pa_cons (pe_fld (pe_fld (pv 0) rfl) rfl) pa_nil)) (nomark _)) (pa_cons (pgi T.g_NO_SUCH rfl) pa_nil))))
  (pss_one (ps_ret (pe_ix ix_list (pe_fld (pe_fld (pv 0) rfl) rfl) (pv 1) (fun _ _ => rfl)))))
theorem p_need_team (T : Txt K mg a) {vs : List V} {Q : VK} {E : XK} (h : sp_need_team P w K a vs H Q E) :
    t_need_team P w K a E { nx := fun _ H' => Q .non H', rt := Q } (start N_need_team vs) H := by
  obtain ⟨ρ, L, h, t, rfl, hx, q⟩ := h
  have ho := hx.own
  have hl := hx.lg
  have hlen : (L.lg.ts.map fun T => V.ref T.self).length = h.league.teams.length := by rw [List.length_map]; exact hl.len
  refine ⟨_, rfl, _, rfl, _, _, _, _, _, rfl, ho.self, T.c_Hall, T.a_Hall_league, rfl, _, _, _, _, _, rfl, hl.self, T.c_League, T.a_League_teams, rfl, _, _, rfl, .inl ⟨_, lp hl.teams, rfl⟩, _, _, rfl, rfl, _, _, rfl, fun c => ?_, fun c => ?_⟩
  · have c' : t < h.league.teams.length := by have := of_decide_eq_true c; rw [hlen] at this; omega
    rw [if_pos c'] at q
    obtain ⟨U, hU, ua⟩ := hl.get' (tm_at c')
    exact ⟨_, rfl, _, _, _, _, _, rfl, ho.self, T.c_Hall, T.a_Hall_league, rfl, _, _, _, _, _, rfl, hl.self, T.c_League, T.a_League_teams, rfl, _, rfl, L.lg.teams, _, (t : Int), _, rfl, rfl, lp hl.teams, atI_map hU, q U hU⟩
  · have c' : ¬ t < h.league.teams.length := by have := of_decide_eq_false c; rw [hlen] at this; omega
    rw [if_neg c'] at q; exact q
theorem ok_need_team {P : Program} {w : World} {K : PySem.W.Frag} {mg : Str → Option Value} {base : Heap} {a : Ad} (T : Txt K mg a) : CalB P w K mg base (L2.CX P w) 4 "need_team" (sp_need_team P w K a) :=
  CalB.mkX T.f_need_team sc_need_team l_need_team fun f cdv A outer s H vs Q E hr h => ⟨_, d_need_team T (ok_ask T) hr, p_need_team T h⟩
/-! ### become_team -/
def sp_become_team (P : Program) (w : World) (K : PySem.W.Frag) (a : Ad) : Sp := fun vs H Q E => ∃ (ρ : Addr → Option Tag) (L : HLay) (h : Hl) (g t : Nat), vs = [.ref L.self, nV g, nV t] ∧ HallAt P w a H ρ L h ∧ HOk h ∧ Does P w a H ρ L.self (actAns h 2 [g, t]) Q E
theorem l_become_team : ∀ vs H Q E, sp_become_team P w K a vs H Q E → vs.length = 3 := by
  rintro vs H Q E ⟨_, _, _, _, _, rfl, _⟩; rfl
abbrev s_become_team : Stmt := top 54
abbrev N_become_team : List Str := ["hall", "number", "team", "group"]
theorem sc_become_team : FnScope N_become_team ["hall", "number", "team"] (defScope s_become_team) := ⟨rfl, rfl, rfl, by decide +kernel, rfl, by decide +kernel, by decide +kernel⟩
def t_become_team (P : Program) (w : World) (K : PySem.W.Frag) (a : Ad) (E : XK) : TS :=
  (tSeq (tAsg (tCall (sp_need_here P w K a) [] E (tCons (tVar 0) (tCons (tVar 1) tNil))) (gName 3))
  (tSeq (tDrop (tCall (sp_ask P w K a) [] E (tCons (tOp rLtI (tVar 2) (tCB (rLenB K) (tCons (tFld K (tFld K (tVar 0) "league") "teams") tNil))) (tCons (tC (.int (-22))) tNil))))
  (tSeq (tDrop (tCall (sp_ask P w K a) [] E (tCons (tOp rEq (tFld K (tVar 3) "size") (tC (.int (3)))) (tCons (tC (.int (-34))) tNil))))
  (tSeq (tDrop (tCall (sp_ask P w K a) [] E (tCons (tAndV (tIsN (tFld K (tVar 3) "team")) (tNotV (tMeth a.CHall "is_team_taken" (sp_Hall_is_team_taken P w K a) [] E0 (tVar 0) (tCons (tVar 2) tNil)))) (tCons (tC (.int (-17))) tNil))))
  (tSeq (tDrop (tMeth a.CGroup "become" (sp_Group_become P w K a) [] E0 (tVar 3) (tCons (tVar 2) tNil)))
  (tRet (tLst (tCons (tC (.int 0)) tNil))))))))
theorem d_become_team {P : Program} {w : World} {K : PySem.W.Frag} {mg : Str → Option Value} {base : Heap} {a : Ad} (T : Txt K mg a) (c_need_here : CalB P w K mg base (L2.CX P w) 5 "need_here" (sp_need_here P w K a)) (c_ask : CalB P w K mg base (L2.CX P w) 3 "ask" (sp_ask P w K a)) (c_Hall_is_team_taken : MetB P w K mg base CX0 1 a.CHall "is_team_taken" (sp_Hall_is_team_taken P w K a)) (c_Group_become : MetB P w K mg base CX0 1 a.CGroup "become" (sp_Group_become P w K a)) {f : Addr} {cdv : Value} {A : Around} {outer : List Env} {s : Shared} {H : Hp} {E : XK}
    (hr : Room 5 (A.deeper (envOfC "become_team" (defScope s_become_team) s.heap.objs.size f cdv))) : PSs (cxOf (L2.CX P w) P w K mg base N_become_team "become_team" (defScope s_become_team) f cdv A outer s H E) (defBody s_become_team) (t_become_team P w K a E) :=
  (pss_cons (ps_set (i := 3) sc_become_team.nd rfl (by first | exact Or.inl rfl | exact Or.inr rfl) (pc c_need_here hr (by decide) passX rfl (pa_cons (pv 0) (pa_cons (pv 1) pa_nil))))
  (pss_cons (ps_expr (pc c_ask hr (by decide) passX rfl (pa_cons (pe_cmpR op_lt (pv 2) (pe_callB call_len (by rfl) T.n_len PySem.boot_len (pa_cons (pe_fld (pe_fld (pv 0) rfl) rfl) pa_nil)) (nomark _)) (pa_cons (pgi T.g_WRONG rfl) pa_nil))))
  (pss_cons (ps_expr (pc c_ask hr (by decide) passX rfl (pa_cons (pe_cmpR op_eq (pe_fld (pv 3) rfl) (pgi T.g_PLAYERS rfl) (nomark _)) (pa_cons (pgi T.g_OTHER_SIZE rfl) pa_nil))))
  (pss_cons (ps_expr (pc c_ask hr (by decide) passX rfl (pa_cons (pe_and (pe_cmp (pc_isN (pe_fld (pv 3) rfl)) rfl) (pe_one (pe_not (pm c_Hall_is_team_taken hr (by decide) pass0 (pv 0) (pa_cons (pv 2) pa_nil))))) (pa_cons (pgi T.g_IS_SO rfl) pa_nil))))
  (pss_cons (ps_expr (pm c_Group_become hr (by decide) pass0 (pv 3) (pa_cons (pv 2) pa_nil)))
  (pss_one (ps_ret (pe_lst (pa_cons pe_int pa_nil)))))))))
theorem here_lt {h : Hl} {g : Nat} (c : isHere h g = true) : g < h.groups.length ∧ (h.grp g).gone = false := by
  unfold isHere at c
  rw [Bool.and_eq_true, decide_eq_true_eq] at c
  exact ⟨c.1, by simpa using c.2⟩
theorem p_become_team (T : Txt K mg a) {vs : List V} {Q : VK} {E : XK} (h : sp_become_team P w K a vs H Q E) :
    t_become_team P w K a E { nx := fun _ H' => Q .non H', rt := Q } (start N_become_team vs) H := by
  obtain ⟨ρ, L, h, g, t, rfl, hx, ok, q⟩ := h
  refine ⟨_, rfl, _, rfl, ρ, L, h, g, rfl, hx, ite_b (fun c => ?_) (fun c => ?_)⟩
  · intro G hG
    obtain ⟨hg, _⟩ := here_lt c
    obtain ⟨G', hG', ga⟩ := hx.gget hg
    rw [hG] at hG'
    cases hG'
    have ho := hx.own
    have hl := hx.lg
    have hlen : (L.lg.ts.map fun T => V.ref T.self).length = h.league.teams.length := by rw [List.length_map]; exact hl.len
    refine ⟨_, rfl, _, rfl, _, _, _, _, _, rfl, ho.self, T.c_Hall, T.a_Hall_league, rfl, _, _, _, _, _, rfl, hl.self, T.c_League, T.a_League_teams, rfl, _, _, rfl, .inl ⟨_, lp hl.teams, rfl⟩, _, _, rfl, rfl, _, _, rfl, fun c2 => ?_, fun c2 => ?_⟩
    · have c2' : t < h.league.teams.length := by have := of_decide_eq_true c2; rw [hlen] at this; omega
      refine ⟨_, rfl, _, _, _, _, _, rfl, ga.self, T.c_Group, T.a_Group_size, rfl, rfl, _, _, rfl, fun c3 => ?_, fun c3 => ?_⟩
      · have c3' : (h.grp g).size = 3 := (nvl (n := 3) rfl).mp (of_decide_eq_true c3)
        refine ⟨_, rfl, _, _, _, _, _, rfl, ga.self, T.c_Group, T.a_Group_team, rfl, _, rfl, ?_⟩
        rw [optV_non]
        refine ite_b (fun c4 => ?_) (fun c4 => ?_)
        · refine ⟨_, rfl, L.self, _, _, rfl, ho.self, rfl, _, rfl, ρ, L, h, t, rfl, hx, by have := ok.groups; omega, fun H1 s1 => ⟨_, rfl, _, _, rfl, fun c5 => ?_, fun c5 => ?_⟩⟩
          · have hx1 := hx.up s1
            have ga1 := ga.up s1
            refine ⟨_, rfl, G.self, _, _, rfl, ga1.self, rfl, _, rfl, G, h.grp g, t, rfl, ga1, fun H2 ga2 k2 => ⟨le1, fun p hp => ?_⟩⟩
            simp only [actAns, c, c2', c3', c4, c5, Bool.and_self, if_true] at q
            have st : StepL P w a H ρ L (h.setGrp g ((h.grp g).become t)) H2 := by
              have := hx1.setG hG ga2 rfl k2 fun b hb => .inl hb
              rw [gs_set hG] at this
              exact this.from s1
            exact q _ p (st.step.up (same_upd hp)) (st.step.fresh hp) upd_same
          · simp only [actAns, c, c2', c3', c4, c5, Bool.and_false, if_true, if_false, Bool.false_eq_true] at q
            have q' : Ref a H E (-17) := q
            exact q'.mono s1
        · refine ⟨_, _, rfl, fun z => noB z, fun _ => ?_⟩
          simp only [actAns, c, c2', c3', c4, Bool.false_and, if_true, if_false, Bool.false_eq_true] at q
          exact q
      · have c3' : ¬ (h.grp g).size = 3 := fun z => of_decide_eq_false c3 ((nvl (n := 3) rfl).mpr z)
        simp only [actAns, c, c2', c3', if_true, if_false] at q
        exact q
    · have c2' : ¬ t < h.league.teams.length := by have := of_decide_eq_false c2; rw [hlen] at this; omega
      simp only [actAns, c, c2', if_true, if_false] at q
      exact q
  · simp only [actAns, c, if_false, Bool.false_eq_true] at q
    exact q
theorem ok_become_team {P : Program} {w : World} {K : PySem.W.Frag} {mg : Str → Option Value} {base : Heap} {a : Ad} (T : Txt K mg a) : CalB P w K mg base (L2.CX P w) 6 "become_team" (sp_become_team P w K a) :=
  CalB.mkX T.f_become_team sc_become_team l_become_team fun f cdv A outer s H vs Q E hr h => ⟨_, d_become_team T (ok_need_here T) (ok_ask T) (ok_Hall_is_team_taken T) (ok_Group_become T) hr, p_become_team T h⟩
/-! ### go -/
def sp_go (P : Program) (w : World) (K : PySem.W.Frag) (a : Ad) : Sp := fun vs H Q E => ∃ (ρ : Addr → Option Tag) (L : HLay) (h : Hl) (g : Nat), vs = [.ref L.self, nV g] ∧ HallAt P w a H ρ L h ∧ HOk h ∧ Does P w a H ρ L.self (actAns h 3 [g]) Q E
theorem l_go : ∀ vs H Q E, sp_go P w K a vs H Q E → vs.length = 2 := by
  rintro vs H Q E ⟨_, _, _, _, rfl, _⟩; rfl
abbrev s_go : Stmt := top 55
abbrev N_go : List Str := ["hall", "number"]
theorem sc_go : FnScope N_go ["hall", "number"] (defScope s_go) := ⟨rfl, rfl, rfl, by decide +kernel, rfl, by decide +kernel, by decide +kernel⟩
def t_go (P : Program) (w : World) (K : PySem.W.Frag) (a : Ad) (E : XK) : TS :=
  (tSeq (tDrop (tCall (sp_need_here P w K a) [] E (tCons (tVar 0) (tCons (tVar 1) tNil))))
  (tRet (tLst (tCons (tMeth a.CHall "go" (sp_Hall_go P w K a) [] E0 (tVar 0) (tCons (tVar 1) tNil)) tNil))))
theorem d_go {P : Program} {w : World} {K : PySem.W.Frag} {mg : Str → Option Value} {base : Heap} {a : Ad} (T : Txt K mg a) (c_need_here : CalB P w K mg base (L2.CX P w) 5 "need_here" (sp_need_here P w K a)) (c_Hall_go : MetB P w K mg base CX0 3 a.CHall "go" (sp_Hall_go P w K a)) {f : Addr} {cdv : Value} {A : Around} {outer : List Env} {s : Shared} {H : Hp} {E : XK}
    (hr : Room 5 (A.deeper (envOfC "go" (defScope s_go) s.heap.objs.size f cdv))) : PSs (cxOf (L2.CX P w) P w K mg base N_go "go" (defScope s_go) f cdv A outer s H E) (defBody s_go) (t_go P w K a E) :=
  (pss_cons (ps_expr (pc c_need_here hr (by decide) passX rfl (pa_cons (pv 0) (pa_cons (pv 1) pa_nil))))
  (pss_one (ps_ret (pe_lst (pa_cons (pm c_Hall_go hr (by decide) pass0 (pv 0) (pa_cons (pv 1) pa_nil)) pa_nil)))))
theorem p_go (T : Txt K mg a) {vs : List V} {Q : VK} {E : XK} (h : sp_go P w K a vs H Q E) :
    t_go P w K a E { nx := fun _ H' => Q .non H', rt := Q } (start N_go vs) H := by
  obtain ⟨ρ, L, h, g, rfl, hx, ok, q⟩ := h
  refine ⟨_, rfl, _, rfl, ρ, L, h, g, rfl, hx, ite_b (fun c => ?_) (fun c => ?_)⟩
  · intro G hG
    obtain ⟨hg, _⟩ := here_lt c
    simp only [actAns, c, if_true] at q
    refine ⟨_, rfl, L.self, _, _, rfl, hx.own.self, rfl, _, rfl, ρ, L, h, g, rfl, hx, ok, hg, fun H1 st => ⟨le1, fun p hp => ?_⟩⟩
    exact q _ p (st.up (same_upd hp)) (st.fresh hp) upd_same
  · simp only [actAns, c, if_false, Bool.false_eq_true] at q
    exact q
theorem ok_go {P : Program} {w : World} {K : PySem.W.Frag} {mg : Str → Option Value} {base : Heap} {a : Ad} (T : Txt K mg a) : CalB P w K mg base (L2.CX P w) 6 "go" (sp_go P w K a) :=
  CalB.mkX T.f_go sc_go l_go fun f cdv A outer s H vs Q E hr h => ⟨_, d_go T (ok_need_here T) (ok_Hall_go T) hr, p_go T h⟩
/-! ### set_broken -/
def sp_set_broken (P : Program) (w : World) (K : PySem.W.Frag) (a : Ad) : Sp := fun vs H Q E => ∃ (ρ : Addr → Option Tag) (L : HLay) (h : Hl) (k o : Nat), vs = [.ref L.self, nV k, nV o] ∧ HallAt P w a H ρ L h ∧ HOk h ∧ Does P w a H ρ L.self (actAns h 4 [k, o]) Q E
theorem l_set_broken : ∀ vs H Q E, sp_set_broken P w K a vs H Q E → vs.length = 3 := by
  rintro vs H Q E ⟨_, _, _, _, _, rfl, _⟩; rfl
abbrev s_set_broken : Stmt := top 56
abbrev N_set_broken : List Str := ["hall", "lane", "on"]
theorem sc_set_broken : FnScope N_set_broken ["hall", "lane", "on"] (defScope s_set_broken) := ⟨rfl, rfl, rfl, by decide +kernel, rfl, by decide +kernel, by decide +kernel⟩
def t_set_broken (P : Program) (w : World) (K : PySem.W.Frag) (a : Ad) (E : XK) : TS :=
  (tSeq (tDrop (tCall (sp_ask_lane P w K a) [] E (tCons (tVar 0) (tCons (tVar 1) tNil))))
  (tSeq (tDrop (tCall (sp_ask P w K a) [] E (tCons (tOp rLeI (tVar 2) (tC (.int 1))) (tCons (tC (.int (-22))) tNil))))
  (tSeq (tDrop (tCall (sp_ask P w K a) [] E (tCons (tOp rNe (tOp (rIxL K) (tFld K (tVar 0) "broken") (tVar 1)) (tOp rEq (tVar 2) (tC (.int 1)))) (tCons (tC (.int (-17))) tNil))))
  (tSeq (tDrop (tMeth a.CHall "set_broken" (sp_Hall_set_broken P w K a) [] E0 (tVar 0) (tCons (tVar 1) (tCons (tOp rEq (tVar 2) (tC (.int 1))) tNil))))
  (tRet (tLst (tCons (tC (.int 0)) tNil)))))))
theorem d_set_broken {P : Program} {w : World} {K : PySem.W.Frag} {mg : Str → Option Value} {base : Heap} {a : Ad} (T : Txt K mg a) (c_ask_lane : CalB P w K mg base (L2.CX P w) 4 "ask_lane" (sp_ask_lane P w K a)) (c_ask : CalB P w K mg base (L2.CX P w) 3 "ask" (sp_ask P w K a)) (c_Hall_set_broken : MetB P w K mg base CX0 3 a.CHall "set_broken" (sp_Hall_set_broken P w K a)) {f : Addr} {cdv : Value} {A : Around} {outer : List Env} {s : Shared} {H : Hp} {E : XK}
    (hr : Room 4 (A.deeper (envOfC "set_broken" (defScope s_set_broken) s.heap.objs.size f cdv))) : PSs (cxOf (L2.CX P w) P w K mg base N_set_broken "set_broken" (defScope s_set_broken) f cdv A outer s H E) (defBody s_set_broken) (t_set_broken P w K a E) :=
  (pss_cons (ps_expr (pc c_ask_lane hr (by decide) passX rfl (pa_cons (pv 0) (pa_cons (pv 1) pa_nil))))
  (pss_cons (ps_expr (pc c_ask hr (by decide) passX rfl (pa_cons (pe_cmpR op_le (pv 2) pe_int (nomark _)) (pa_cons (pgi T.g_WRONG rfl) pa_nil))))
  (pss_cons (ps_expr (pc c_ask hr (by decide) passX rfl (pa_cons (pe_cmpR op_ne (pe_ix ix_list (pe_fld (pv 0) rfl) (pv 1) (fun _ _ => rfl)) (pe_cmpR op_eq (pv 2) pe_int (nomark _)) (nomark _)) (pa_cons (pgi T.g_IS_SO rfl) pa_nil))))
  (pss_cons (ps_expr (pm c_Hall_set_broken hr (by decide) pass0 (pv 0) (pa_cons (pv 1) (pa_cons (pe_cmpR op_eq (pv 2) pe_int (nomark _)) pa_nil))))
  (pss_one (ps_ret (pe_lst (pa_cons pe_int pa_nil))))))))
theorem p_set_broken (T : Txt K mg a) {vs : List V} {Q : VK} {E : XK} (h : sp_set_broken P w K a vs H Q E) :
    t_set_broken P w K a E { nx := fun _ H' => Q .non H', rt := Q } (start N_set_broken vs) H := by
  obtain ⟨ρ, L, h, k, o, rfl, hx, ok, q⟩ := h
  have ho := hx.own
  refine ⟨_, rfl, _, rfl, ρ, L, h, k, rfl, hx, ?_⟩
  by_cases c : k < h.owners.length
  · rw [if_pos c]
    refine ⟨_, rfl, _, _, rfl, rfl, _, _, rfl, fun c2 => ?_, fun c2 => ?_⟩
    · have c2' : o ≤ 1 := by have := of_decide_eq_true c2; omega
      have hb : k < h.broken.length := by rw [ok.broken]; exact c
      have eo : decide (nV o = V.int 1) = (o == 1) := by rw [bq]; exact decide_eq_decide.mpr (nvl (n := 1) rfl)
      refine ⟨_, rfl, _, _, _, _, _, rfl, ho.self, T.c_Hall, T.a_Hall_broken, rfl, _, rfl, L.broken, _, (k : Int), _, rfl, rfl, lp ho.broken, atI_map (broken_at hb), _, rfl, rfl, rfl, ?_⟩
      rw [eo]
      have eb : (!decide (V.bl (h.isBroken k) = V.bl (o == 1))) = (h.isBroken k != (o == 1)) := by
        cases h.isBroken k <;> cases (o == 1) <;> rfl
      refine ⟨_, _, rfl, fun c3 => ?_, fun c3 => ?_⟩
      · rw [eb] at c3
        simp only [actAns, c, c2', c3, if_true] at q
        refine ⟨_, rfl, L.self, _, _, rfl, ho.self, rfl, _, rfl, _, rfl, rfl, ?_⟩
        rw [eo]
        refine ⟨ρ, L, h, k, (o == 1), rfl, hx, ok.lanesOk, by have := ok.lineLen; omega, c, fun H1 st => ⟨le1, fun p hp => ?_⟩⟩
        exact q _ p (st.up (same_upd hp)) (st.fresh hp) upd_same
      · rw [eb] at c3
        simp only [actAns, c, c2', c3, if_true, if_false, Bool.false_eq_true] at q
        exact q
    · have c2' : ¬ o ≤ 1 := by have := of_decide_eq_false c2; omega
      simp only [actAns, c, c2', if_true, if_false] at q
      exact q
  · rw [if_neg c]
    simp only [actAns, c, if_false] at q
    exact q
theorem ok_set_broken {P : Program} {w : World} {K : PySem.W.Frag} {mg : Str → Option Value} {base : Heap} {a : Ad} (T : Txt K mg a) : CalB P w K mg base (L2.CX P w) 5 "set_broken" (sp_set_broken P w K a) :=
  CalB.mkX T.f_set_broken sc_set_broken l_set_broken fun f cdv A outer s H vs Q E hr h => ⟨_, d_set_broken T (ok_ask_lane T) (ok_ask T) (ok_Hall_set_broken T) hr, p_set_broken T h⟩
/-! ### tell_lane -/
/-- an answer that is read off: the heap may have grown -/
theorem Does.tell (x : HallAt P w a H ρ L h) {ans : List Int} {Q : VK} {E : XK} (q : Does P w a H ρ L.self (.ok (h, ans)) Q E) {H1 : Hp} (s : Same H H1) {p : Addr} (hp : H1 p = none) {xs : List V} (e : xs = ans.map V.int) : Q (.ref p) (upd H1 p (.lst xs)) := by
  subst e
  exact q _ p (x.stay (s.trans (same_upd hp))) (fun _ => s.free hp) upd_same
def sp_tell_lane (P : Program) (w : World) (K : PySem.W.Frag) (a : Ad) : Sp := fun vs H Q E => ∃ (ρ : Addr → Option Tag) (L : HLay) (h : Hl) (k : Nat), vs = [.ref L.self, nV k] ∧ HallAt P w a H ρ L h ∧ HOk h ∧ Does P w a H ρ L.self (actAns h 6 [k]) Q E
theorem l_tell_lane : ∀ vs H Q E, sp_tell_lane P w K a vs H Q E → vs.length = 2 := by
  rintro vs H Q E ⟨_, _, _, _, rfl, _⟩; rfl
abbrev s_tell_lane : Stmt := top 57
abbrev N_tell_lane : List Str := ["hall", "lane", "owner"]
theorem sc_tell_lane : FnScope N_tell_lane ["hall", "lane"] (defScope s_tell_lane) := ⟨rfl, rfl, rfl, by decide +kernel, rfl, by decide +kernel, by decide +kernel⟩
def t_tell_lane (P : Program) (w : World) (K : PySem.W.Frag) (a : Ad) (E : XK) : TS :=
  (tSeq (tDrop (tCall (sp_ask_lane P w K a) [] E (tCons (tVar 0) (tCons (tVar 1) tNil))))
  (tSeq (tAsg (tC (.int 0)) (gName 2))
  (tSeq (tIfS (tB (tNotN (tOp (rIxL K) (tFld K (tVar 0) "owners") (tVar 1)))) (tAsg (tOp rAddI (tOp (rIxL K) (tFld K (tVar 0) "owners") (tVar 1)) (tC (.int 1))) (gName 2)) tNext)
  (tRet (tLst (tCons (tCB rInt1 (tCons (tOp (rIxL K) (tFld K (tVar 0) "broken") (tVar 1)) tNil)) (tCons (tVar 2) tNil)))))))
theorem d_tell_lane {P : Program} {w : World} {K : PySem.W.Frag} {mg : Str → Option Value} {base : Heap} {a : Ad} (T : Txt K mg a) (c_ask_lane : CalB P w K mg base (L2.CX P w) 4 "ask_lane" (sp_ask_lane P w K a)) {f : Addr} {cdv : Value} {A : Around} {outer : List Env} {s : Shared} {H : Hp} {E : XK}
    (hr : Room 4 (A.deeper (envOfC "tell_lane" (defScope s_tell_lane) s.heap.objs.size f cdv))) : PSs (cxOf (L2.CX P w) P w K mg base N_tell_lane "tell_lane" (defScope s_tell_lane) f cdv A outer s H E) (defBody s_tell_lane) (t_tell_lane P w K a E) :=
  (pss_cons (ps_expr (pc c_ask_lane hr (by decide) passX rfl (pa_cons (pv 0) (pa_cons (pv 1) pa_nil))))
  (pss_cons (ps_set (i := 2) sc_tell_lane.nd rfl (by first | exact Or.inl rfl | exact Or.inr rfl) pe_int)
  (pss_cons (ps_if (pt_cmp (pc_notN (pe_ix ix_list (pe_fld (pv 0) rfl) (pv 1) (fun _ _ => rfl))) rfl) (pss_one (ps_set (i := 2) sc_tell_lane.nd rfl (by first | exact Or.inl rfl | exact Or.inr rfl) (pe_op op_add (pe_ix ix_list (pe_fld (pv 0) rfl) (pv 1) (fun _ _ => rfl)) pe_int))) pss_nil)
  (pss_one (ps_ret (pe_lst (pa_cons (pe_callTy call_int1 (by rfl) T.n_int boot_int2 (pa_cons (pe_ix ix_list (pe_fld (pv 0) rfl) (pv 1) (fun _ _ => rfl)) pa_nil)) (pa_cons (pv 2) pa_nil))))))))
theorem p_tell_lane (T : Txt K mg a) {vs : List V} {Q : VK} {E : XK} (h : sp_tell_lane P w K a vs H Q E) :
    t_tell_lane P w K a E { nx := fun _ H' => Q .non H', rt := Q } (start N_tell_lane vs) H := by
  obtain ⟨ρ, L, h, k, rfl, hx, ok, q⟩ := h
  have ho := hx.own
  refine ⟨_, rfl, _, rfl, ρ, L, h, k, rfl, hx, ?_⟩
  by_cases c : k < h.owners.length
  · rw [if_pos c]
    have hb : k < h.broken.length := by rw [ok.broken]; exact c
    have hat := atI_map (f := optV) (owner_at c)
    refine ⟨_, rfl, _, _, _, _, _, rfl, ho.self, T.c_Hall, T.a_Hall_owners, rfl, _, rfl, L.owners, _, (k : Int), _, rfl, rfl, lp ho.owners, hat, _, rfl, ?_⟩
    rw [optV_non]
    cases eo : h.owner k with
    | none =>
      simp only [actAns, readAns, c, eo, if_true] at q
      refine ite_false_of (by simp) ?_
      refine ⟨_, rfl, _, _, _, _, _, rfl, ho.self, T.c_Hall, T.a_Hall_broken, rfl, _, rfl, L.broken, _, (k : Int), _, rfl, rfl, lp ho.broken, atI_map (broken_at hb), .inr ⟨_, rfl, _, rfl, le2, fun p hp => ?_⟩⟩
      exact q.tell hx (Same.refl _) hp rfl
    | some g =>
      simp only [actAns, readAns, c, eo, if_true] at q
      rw [eo] at hat
      refine ite_true_of rfl ?_
      refine ⟨_, rfl, _, _, _, _, _, rfl, ho.self, T.c_Hall, T.a_Hall_owners, rfl, _, rfl, L.owners, _, (k : Int), _, rfl, rfl, lp ho.owners, hat, _, _, rfl, rfl, ?_⟩
      refine ⟨_, rfl, _, _, _, _, _, rfl, ho.self, T.c_Hall, T.a_Hall_broken, rfl, _, rfl, L.broken, _, (k : Int), _, rfl, rfl, lp ho.broken, atI_map (broken_at hb), .inr ⟨_, rfl, _, rfl, le2, fun p hp => ?_⟩⟩
      exact q.tell hx (Same.refl _) hp rfl
  · rw [if_neg c]
    simp only [actAns, readAns, c, if_false] at q
    exact q
theorem ok_tell_lane {P : Program} {w : World} {K : PySem.W.Frag} {mg : Str → Option Value} {base : Heap} {a : Ad} (T : Txt K mg a) : CalB P w K mg base (L2.CX P w) 5 "tell_lane" (sp_tell_lane P w K a) :=
  CalB.mkX T.f_tell_lane sc_tell_lane l_tell_lane fun f cdv A outer s H vs Q E hr h => ⟨_, d_tell_lane T (ok_ask_lane T) hr, p_tell_lane T h⟩
/-! ### where -/
def sp_where (P : Program) (w : World) (K : PySem.W.Frag) (a : Ad) : Sp := fun vs H Q E => ∃ (ρ : Addr → Option Tag) (L : HLay) (h : Hl) (g : Nat), vs = [.ref L.self, nV g] ∧ HallAt P w a H ρ L h ∧ HOk h ∧ Does P w a H ρ L.self (actAns h 7 [g]) Q E
theorem l_where : ∀ vs H Q E, sp_where P w K a vs H Q E → vs.length = 2 := by
  rintro vs H Q E ⟨_, _, _, _, rfl, _⟩; rfl
abbrev s_where : Stmt := top 58
abbrev N_where : List Str := ["hall", "number", "group", "lane"]
theorem sc_where : FnScope N_where ["hall", "number"] (defScope s_where) := ⟨rfl, rfl, rfl, by decide +kernel, rfl, by decide +kernel, by decide +kernel⟩
def t_where (P : Program) (w : World) (K : PySem.W.Frag) (a : Ad) (E : XK) : TS :=
  (tSeq (tAsg (tCall (sp_need_group P w K a) [] E (tCons (tVar 0) (tCons (tVar 1) tNil))) (gName 2))
  (tSeq (tIfS (tB (tFld K (tVar 2) "is_gone")) (tRet (tLst (tCons (tC (.int 2)) (tCons (tC (.int 0)) tNil)))) tNext)
  (tSeq (tAsg (tMeth a.CHall "lane_of" (sp_Hall_lane_of P w K a) [] E0 (tVar 0) (tCons (tVar 1) tNil)) (gName 3))
  (tSeq (tIfS (tB (tNotN (tVar 3))) (tRet (tLst (tCons (tC (.int 1)) (tCons (tVar 3) tNil)))) tNext)
  (tRet (tLst (tCons (tC (.int 0)) (tCons (tBM K "list" (rIndex K) (tFld K (tVar 0) "line") (tCons (tVar 1) tNil)) tNil))))))))
theorem d_where {P : Program} {w : World} {K : PySem.W.Frag} {mg : Str → Option Value} {base : Heap} {a : Ad} (T : Txt K mg a) (c_need_group : CalB P w K mg base (L2.CX P w) 4 "need_group" (sp_need_group P w K a)) (c_Hall_lane_of : MetB P w K mg base CX0 1 a.CHall "lane_of" (sp_Hall_lane_of P w K a)) {f : Addr} {cdv : Value} {A : Around} {outer : List Env} {s : Shared} {H : Hp} {E : XK}
    (hr : Room 4 (A.deeper (envOfC "where" (defScope s_where) s.heap.objs.size f cdv))) : PSs (cxOf (L2.CX P w) P w K mg base N_where "where" (defScope s_where) f cdv A outer s H E) (defBody s_where) (t_where P w K a E) :=
  (pss_cons (ps_set (i := 2) sc_where.nd rfl (by first | exact Or.inl rfl | exact Or.inr rfl) (pc c_need_group hr (by decide) passX rfl (pa_cons (pv 0) (pa_cons (pv 1) pa_nil))))
  (pss_cons (ps_if (pt_val (pe_fld (pv 2) rfl)) (pss_one (ps_ret (pe_lst (pa_cons pe_int (pa_cons pe_int pa_nil))))) pss_nil)
  (pss_cons (ps_set (i := 3) sc_where.nd rfl (by first | exact Or.inl rfl | exact Or.inr rfl) (pm c_Hall_lane_of hr (by decide) pass0 (pv 0) (pa_cons (pv 1) pa_nil)))
  (pss_cons (ps_if (pt_cmp (pc_notN (pv 3)) rfl) (pss_one (ps_ret (pe_lst (pa_cons pe_int (pa_cons (pv 3) pa_nil))))) pss_nil)
  (pss_one (ps_ret (pe_lst (pa_cons pe_int (pa_cons (pe_bm PySem.F.plainAttrs_list PySem.F.slot_list_index PySem.F.type_list_index mt_index (pe_fld (pv 0) rfl) (pa_cons (pv 1) pa_nil)) pa_nil)))))))))
theorem p_where (T : Txt K mg a) {vs : List V} {Q : VK} {E : XK} (h : sp_where P w K a vs H Q E) :
    t_where P w K a E { nx := fun _ H' => Q .non H', rt := Q } (start N_where vs) H := by
  obtain ⟨ρ, L, h, g, rfl, hx, ok, q⟩ := h
  have ho := hx.own
  refine ⟨_, rfl, _, rfl, ρ, L, h, g, rfl, hx, ?_⟩
  by_cases c : g < h.groups.length
  · rw [if_pos c]
    intro G hG
    obtain ⟨G', hG', ga⟩ := hx.gget c
    rw [hG] at hG'
    cases hG'
    refine ⟨_, rfl, _, _, _, _, _, rfl, ga.self, T.c_Group, T.a_Group_is_gone, rfl, _, rfl, ?_⟩
    cases cg : (h.grp g).gone with
    | true =>
      simp only [actAns, readAns, c, cg, if_true] at q
      exact ite_true_of rfl ⟨le2, fun p hp => q.tell hx (Same.refl _) hp rfl⟩
    | false =>
      refine ite_false_of Bool.false_ne_true ?_
      refine ⟨_, rfl, L.self, _, _, rfl, ho.self, rfl, _, rfl, L, h, g, rfl, ho, ?_⟩
      refine ⟨_, rfl, _, rfl, ?_⟩
      cases el : h.laneOf g with
      | none =>
        simp only [actAns, readAns, c, cg, el, if_true, if_false, Bool.false_eq_true] at q
        refine ite_false_of (by simp [optV]) ?_
        refine ⟨_, rfl, _, _, _, _, _, rfl, ho.self, T.c_Hall, T.a_Hall_line, rfl, tyLp ho.line, _, rfl, ?_⟩
        obtain ⟨a1, ys, y, j, z, e1, e2, e3, e4, e5, e6, e7, e8, e9⟩ := r_indexN (Q := fun v _ => v = nV (h.line.idxOf g)) (lp (K := K) ho.line) (ok.place g c cg el) rfl
        refine ⟨a1, ys, y, j, z, e1, e2, e3, e4, e5, e6, e7, e8, le2, fun p hp => q.tell hx (Same.refl _) hp ?_⟩
        show [V.int 0, V.int (j : Int)] = _
        rw [e9]; rfl
      | some k =>
        simp only [actAns, readAns, c, cg, el, if_true, if_false, Bool.false_eq_true] at q
        refine ite_true_of rfl ?_
        exact ⟨_, rfl, le2, fun p hp => q.tell hx (Same.refl _) hp rfl⟩
  · rw [if_neg c]
    simp only [actAns, readAns, c, if_false] at q
    exact q
theorem ok_where {P : Program} {w : World} {K : PySem.W.Frag} {mg : Str → Option Value} {base : Heap} {a : Ad} (T : Txt K mg a) : CalB P w K mg base (L2.CX P w) 5 "where" (sp_where P w K a) :=
  CalB.mkX T.f_where sc_where l_where fun f cdv A outer s H vs Q E hr h => ⟨_, d_where T (ok_need_group T) (ok_Hall_lane_of T) hr, p_where T h⟩
end
end Bw

/-! the walk: the calls, part two -/
namespace Bw
open PySem PySem.Spec PyProof.Rows L2
section
variable {P : Program} {w : World} {K : PySem.W.Frag} {mg : Str → Option Value} {base : Heap} {a : Ad} {H H' H1 : Hp} {ρ : Addr → Option Tag} {L : HLay} {h h' : Hl} {s : Addr}
theorem HallAt.gof (x : HallAt P w a H ρ L h) {g : Nat} {G : GL} (hg : g < h.groups.length) (hG : L.gs[g]? = some G) : GroupAt a H G (h.grp g) := x.grp g G _ hG (grp_at hg)
/-! ### roll -/
def sp_roll (P : Program) (w : World) (K : PySem.W.Frag) (a : Ad) : Sp := fun vs H Q E => ∃ (ρ : Addr → Option Tag) (L : HLay) (h : Hl) (k n : Nat), vs = [.ref L.self, nV k, nV n] ∧ HallAt P w a H ρ L h ∧ HOk h ∧ Does P w a H ρ L.self (actAns h 8 [k, n]) Q E
theorem l_roll : ∀ vs H Q E, sp_roll P w K a vs H Q E → vs.length = 3 := by
  rintro vs H Q E ⟨_, _, _, _, _, rfl, _⟩; rfl
abbrev s_roll : Stmt := top 59
abbrev N_roll : List Str := ["hall", "lane", "pins", "group", "player"]
theorem sc_roll : FnScope N_roll ["hall", "lane", "pins"] (defScope s_roll) := ⟨rfl, rfl, rfl, by decide +kernel, rfl, by decide +kernel, by decide +kernel⟩
def t_roll (P : Program) (w : World) (K : PySem.W.Frag) (a : Ad) (E : XK) : TS :=
  (tSeq (tAsg (tCall (sp_need_owner P w K a) [] E (tCons (tVar 0) (tCons (tVar 1) tNil))) (gName 3))
  (tSeq (tDrop (tCall (sp_ask P w K a) [] E (tCons (tOp rLeI (tVar 2) (tMeth a.CGroup "pins_standing" (sp_Group_pins_standing P w K a) [] E0 (tVar 3) tNil)) (tCons (tC (.int (-22))) tNil))))
  (tSeq (tDrop (tCall (sp_ask P w K a) [] E (tCons (tNotV (tMeth a.CGroup "is_full" (sp_Group_is_full P w K a) [] E0 (tVar 3) tNil)) (tCons (tC (.int (-28))) tNil))))
  (tSeq (tAsg (tMeth a.CGroup "roll" (sp_Group_roll P w K a) [] E0 (tVar 3) (tCons (tVar 2) tNil)) (gName 4))
  (tRet (tLst (tCons (tVar 4) (tCons (tMeth a.CGroup "turn" (sp_Group_turn P w K a) [] E0 (tVar 3) tNil) (tCons (tCB (rLenB K) (tCons (tFld K (tVar 3) "finished") tNil)) tNil)))))))))
theorem d_roll {P : Program} {w : World} {K : PySem.W.Frag} {mg : Str → Option Value} {base : Heap} {a : Ad} (T : Txt K mg a) (c_need_owner : CalB P w K mg base (L2.CX P w) 5 "need_owner" (sp_need_owner P w K a)) (c_ask : CalB P w K mg base (L2.CX P w) 3 "ask" (sp_ask P w K a)) (c_Group_pins_standing : MetB P w K mg base CX0 5 a.CGroup "pins_standing" (sp_Group_pins_standing P w K a)) (c_Group_is_full : MetB P w K mg base CX0 1 a.CGroup "is_full" (sp_Group_is_full P w K a)) (c_Group_roll : MetB P w K mg base CX0 5 a.CGroup "roll" (sp_Group_roll P w K a)) (c_Group_turn : MetB P w K mg base CX0 4 a.CGroup "turn" (sp_Group_turn P w K a)) {f : Addr} {cdv : Value} {A : Around} {outer : List Env} {s : Shared} {H : Hp} {E : XK}
    (hr : Room 5 (A.deeper (envOfC "roll" (defScope s_roll) s.heap.objs.size f cdv))) : PSs (cxOf (L2.CX P w) P w K mg base N_roll "roll" (defScope s_roll) f cdv A outer s H E) (defBody s_roll) (t_roll P w K a E) :=
  (pss_cons (ps_set (i := 3) sc_roll.nd rfl (by first | exact Or.inl rfl | exact Or.inr rfl) (pc c_need_owner hr (by decide) passX rfl (pa_cons (pv 0) (pa_cons (pv 1) pa_nil))))
  (pss_cons (ps_expr (pc c_ask hr (by decide) passX rfl (pa_cons (pe_cmpR op_le (pv 2) (pm0 c_Group_pins_standing hr (by decide) pass0 (pv 3)) (nomark _)) (pa_cons (pgi T.g_WRONG rfl) pa_nil))))
  (pss_cons (ps_expr (pc c_ask hr (by decide) passX rfl (pa_cons (pe_not (pm0 c_Group_is_full hr (by decide) pass0 (pv 3))) (pa_cons (pgi T.g_FULL rfl) pa_nil))))
  (pss_cons (ps_set (i := 4) sc_roll.nd rfl (by first | exact Or.inl rfl | exact Or.inr rfl) (pm c_Group_roll hr (by decide) pass0 (pv 3) (pa_cons (pv 2) pa_nil)))
  (pss_one (ps_ret (pe_lst (pa_cons (pv 4) (pa_cons (pm0 c_Group_turn hr (by decide) pass0 (pv 3)) (pa_cons (pe_callB call_len (by rfl) T.n_len PySem.boot_len (pa_cons (pe_fld (pv 3) rfl) pa_nil)) pa_nil))))))))))
theorem p_roll (T : Txt K mg a) {vs : List V} {Q : VK} {E : XK} (h : sp_roll P w K a vs H Q E) :
    t_roll P w K a E { nx := fun _ H' => Q .non H', rt := Q } (start N_roll vs) H := by
  obtain ⟨ρ, L, h, k, n, rfl, hx, ok, q⟩ := h
  refine ⟨_, rfl, _, rfl, ρ, L, h, k, rfl, hx, ok, ?_⟩
  cases e : onLane h k with
  | error r =>
    simp only [actAns, e] at q
    exact q
  | ok g =>
    intro G hg hG
    have ga := hx.gof hg hG
    have gok := ok.at hg
    refine ⟨_, rfl, _, rfl, G.self, _, _, rfl, ga.self, rfl, G, h.grp g, rfl, ga, gok.rowsOk, fun H1 s1 => ⟨_, _, rfl, rfl, _, _, rfl, fun c2 => ?_, fun c2 => ?_⟩⟩
    · have c2' : (n : Int) ≤ (h.grp g).standing := of_decide_eq_true c2
      have ga1 := ga.up s1
      refine ⟨_, rfl, G.self, _, _, rfl, ga1.self, rfl, G, _, rfl, ga1, _, rfl, _, _, rfl, fun c3 => ?_, fun c3 => ?_⟩
      · have c3' : (h.grp g).isFull = false := by simpa using c3
        simp only [actAns, e, c2', c3', if_true, if_false, Bool.false_eq_true] at q
        refine ⟨_, rfl, G.self, _, _, rfl, ga1.self, rfl, _, rfl, G, _, n, rfl, ga1, roll_ok gok c2', fun H2 G2 ga2 eG2 k2 gr2 => ?_⟩
        have gs2 : H2 G.self = some (.ins a.CGroup G2.dx (gF G2 ((h.grp g).roll n))) := eG2 ▸ ga2.self
        refine ⟨_, rfl, _, rfl, G.self, _, _, rfl, gs2, rfl, G2, _, by rw [eG2]; rfl, ga2, rowsOk_roll gok c2', fun H3 s3 => ?_⟩
        have ga3 := ga2.up s3
        refine ⟨_, rfl, _, _, _, _, _, rfl, s3 _ _ gs2, T.c_Group, T.a_Group_finished, rfl, _, _, rfl, .inl ⟨_, lp ga3.fin, rfl⟩, le3, fun p hp => ?_⟩
        have st : StepL P w a H ρ { L with gs := L.gs.set g G2 } (h.setGrp g ((h.grp g).roll n)) H2 := ((hx.up s1).setG hG ga2 eG2 k2 gr2).from s1
        have st3 := st.up s3
        have fl : (G2.frows.map V.ref).length = ((h.grp g).roll n).fin.length := by rw [List.length_map]; exact ga2.frows.len
        rw [fl]
        exact q _ p (st3.up (same_upd hp)).step (st3.step.fresh hp) upd_same
      · have c3' : (h.grp g).isFull = true := by simpa using c3
        simp only [actAns, e, c2', c3', if_true] at q
        have q' : Ref a H E (-28) := q
        exact q'.mono s1
    · have c2' : ¬ (n : Int) ≤ (h.grp g).standing := of_decide_eq_false c2
      simp only [actAns, e, c2', if_false] at q
      have q' : Ref a H E (-22) := q
      exact q'.mono s1
theorem ok_roll {P : Program} {w : World} {K : PySem.W.Frag} {mg : Str → Option Value} {base : Heap} {a : Ad} (T : Txt K mg a) : CalB P w K mg base (L2.CX P w) 6 "roll" (sp_roll P w K a) :=
  CalB.mkX T.f_roll sc_roll l_roll fun f cdv A outer s H vs Q E hr h => ⟨_, d_roll T (ok_need_owner T) (ok_ask T) (ok_Group_pins_standing T) (ok_Group_is_full T) (ok_Group_roll T) (ok_Group_turn T) hr, p_roll T h⟩
/-! ### undo -/
def sp_undo (P : Program) (w : World) (K : PySem.W.Frag) (a : Ad) : Sp := fun vs H Q E => ∃ (ρ : Addr → Option Tag) (L : HLay) (h : Hl) (k : Nat), vs = [.ref L.self, nV k] ∧ HallAt P w a H ρ L h ∧ HOk h ∧ Does P w a H ρ L.self (actAns h 9 [k]) Q E
theorem l_undo : ∀ vs H Q E, sp_undo P w K a vs H Q E → vs.length = 2 := by
  rintro vs H Q E ⟨_, _, _, _, rfl, _⟩; rfl
abbrev s_undo : Stmt := top 60
abbrev N_undo : List Str := ["hall", "lane", "group"]
theorem sc_undo : FnScope N_undo ["hall", "lane"] (defScope s_undo) := ⟨rfl, rfl, rfl, by decide +kernel, rfl, by decide +kernel, by decide +kernel⟩
def t_undo (P : Program) (w : World) (K : PySem.W.Frag) (a : Ad) (E : XK) : TS :=
  (tSeq (tAsg (tCall (sp_need_owner P w K a) [] E (tCons (tVar 0) (tCons (tVar 1) tNil))) (gName 2))
  (tSeq (tDrop (tCall (sp_ask P w K a) [] E (tCons (tOp rGtI (tCB (rLenB K) (tCons (tFld K (tVar 2) "turns") tNil)) (tC (.int 0))) (tCons (tC (.int (-61))) tNil))))
  (tRet (tMeth a.CGroup "undo" (sp_Group_undo P w K a) [] E0 (tVar 2) tNil))))
theorem d_undo {P : Program} {w : World} {K : PySem.W.Frag} {mg : Str → Option Value} {base : Heap} {a : Ad} (T : Txt K mg a) (c_need_owner : CalB P w K mg base (L2.CX P w) 5 "need_owner" (sp_need_owner P w K a)) (c_ask : CalB P w K mg base (L2.CX P w) 3 "ask" (sp_ask P w K a)) (c_Group_undo : MetB P w K mg base CX0 1 a.CGroup "undo" (sp_Group_undo P w K a)) {f : Addr} {cdv : Value} {A : Around} {outer : List Env} {s : Shared} {H : Hp} {E : XK}
    (hr : Room 5 (A.deeper (envOfC "undo" (defScope s_undo) s.heap.objs.size f cdv))) : PSs (cxOf (L2.CX P w) P w K mg base N_undo "undo" (defScope s_undo) f cdv A outer s H E) (defBody s_undo) (t_undo P w K a E) :=
  (pss_cons (ps_set (i := 2) sc_undo.nd rfl (by first | exact Or.inl rfl | exact Or.inr rfl) (pc c_need_owner hr (by decide) passX rfl (pa_cons (pv 0) (pa_cons (pv 1) pa_nil))))
  (pss_cons (ps_expr (pc c_ask hr (by decide) passX rfl (pa_cons (pe_cmpR op_gt (pe_callB call_len (by rfl) T.n_len PySem.boot_len (pa_cons (pe_fld (pv 2) rfl) pa_nil)) pe_int (nomark _)) (pa_cons (pgi T.g_NOT_THERE rfl) pa_nil))))
  (pss_one (ps_ret (pm0 c_Group_undo hr (by decide) pass0 (pv 2))))))
theorem p_undo (T : Txt K mg a) {vs : List V} {Q : VK} {E : XK} (h : sp_undo P w K a vs H Q E) :
    t_undo P w K a E { nx := fun _ H' => Q .non H', rt := Q } (start N_undo vs) H := by
  obtain ⟨ρ, L, h, k, rfl, hx, ok, q⟩ := h
  refine ⟨_, rfl, _, rfl, ρ, L, h, k, rfl, hx, ok, ?_⟩
  cases e : onLane h k with
  | error r =>
    simp only [actAns, e] at q
    exact q
  | ok g =>
    intro G hg hG
    have ga := hx.gof hg hG
    have gok := ok.at hg
    refine ⟨_, rfl, _, _, _, _, _, rfl, ga.self, T.c_Group, T.a_Group_turns, rfl, _, _, rfl, .inl ⟨_, lp ga.turns, rfl⟩, _, _, rfl, rfl, _, _, rfl, fun c2 => ?_, fun c2 => ?_⟩
    · have c2' : ¬ (h.grp g).turns = [] := fun z => by
        have := of_decide_eq_true c2
        rw [z] at this
        exact absurd this (by decide)
      simp only [actAns, e, c2', if_false] at q
      have hl := gok.last c2'
      refine ⟨_, rfl, G.self, _, _, rfl, ga.self, rfl, G, _, rfl, ga, c2', hl.1, hl.2, fun H1 p ga1 k1 hp0 hp => ?_⟩
      have st : StepL P w a H ρ L (h.setGrp g (h.grp g).undo) H1 := by
        have := hx.setG hG ga1 rfl k1 fun b hb => .inl hb
        rw [gs_set hG] at this
        exact this
      exact q H1 p st.step (fun _ => hp0) hp
    · have c2' : (h.grp g).turns = [] := by
        have := of_decide_eq_false c2
        rw [nL_length] at this
        exact List.length_eq_zero_iff.mp (by omega)
      simp only [actAns, e, c2', if_true] at q
      exact q
theorem ok_undo {P : Program} {w : World} {K : PySem.W.Frag} {mg : Str → Option Value} {base : Heap} {a : Ad} (T : Txt K mg a) : CalB P w K mg base (L2.CX P w) 6 "undo" (sp_undo P w K a) :=
  CalB.mkX T.f_undo sc_undo l_undo fun f cdv A outer s H vs Q E hr h => ⟨_, d_undo T (ok_need_owner T) (ok_ask T) (ok_Group_undo T) hr, p_undo T h⟩
/-! ### turn -/
def sp_turn (P : Program) (w : World) (K : PySem.W.Frag) (a : Ad) : Sp := fun vs H Q E => ∃ (ρ : Addr → Option Tag) (L : HLay) (h : Hl) (k : Nat), vs = [.ref L.self, nV k] ∧ HallAt P w a H ρ L h ∧ HOk h ∧ Does P w a H ρ L.self (actAns h 10 [k]) Q E
theorem l_turn : ∀ vs H Q E, sp_turn P w K a vs H Q E → vs.length = 2 := by
  rintro vs H Q E ⟨_, _, _, _, rfl, _⟩; rfl
abbrev s_turn : Stmt := top 61
abbrev N_turn : List Str := ["hall", "lane", "group"]
theorem sc_turn : FnScope N_turn ["hall", "lane"] (defScope s_turn) := ⟨rfl, rfl, rfl, by decide +kernel, rfl, by decide +kernel, by decide +kernel⟩
def t_turn (P : Program) (w : World) (K : PySem.W.Frag) (a : Ad) (E : XK) : TS :=
  (tSeq (tAsg (tCall (sp_need_owner P w K a) [] E (tCons (tVar 0) (tCons (tVar 1) tNil))) (gName 2))
  (tRet (tLst (tCons (tMeth a.CGroup "turn" (sp_Group_turn P w K a) [] E0 (tVar 2) tNil) (tCons (tMeth a.CGroup "pins_standing" (sp_Group_pins_standing P w K a) [] E0 (tVar 2) tNil) tNil)))))
theorem d_turn {P : Program} {w : World} {K : PySem.W.Frag} {mg : Str → Option Value} {base : Heap} {a : Ad} (T : Txt K mg a) (c_need_owner : CalB P w K mg base (L2.CX P w) 5 "need_owner" (sp_need_owner P w K a)) (c_Group_turn : MetB P w K mg base CX0 4 a.CGroup "turn" (sp_Group_turn P w K a)) (c_Group_pins_standing : MetB P w K mg base CX0 5 a.CGroup "pins_standing" (sp_Group_pins_standing P w K a)) {f : Addr} {cdv : Value} {A : Around} {outer : List Env} {s : Shared} {H : Hp} {E : XK}
    (hr : Room 5 (A.deeper (envOfC "turn" (defScope s_turn) s.heap.objs.size f cdv))) : PSs (cxOf (L2.CX P w) P w K mg base N_turn "turn" (defScope s_turn) f cdv A outer s H E) (defBody s_turn) (t_turn P w K a E) :=
  (pss_cons (ps_set (i := 2) sc_turn.nd rfl (by first | exact Or.inl rfl | exact Or.inr rfl) (pc c_need_owner hr (by decide) passX rfl (pa_cons (pv 0) (pa_cons (pv 1) pa_nil))))
  (pss_one (ps_ret (pe_lst (pa_cons (pm0 c_Group_turn hr (by decide) pass0 (pv 2)) (pa_cons (pm0 c_Group_pins_standing hr (by decide) pass0 (pv 2)) pa_nil))))))
theorem p_turn (T : Txt K mg a) {vs : List V} {Q : VK} {E : XK} (h : sp_turn P w K a vs H Q E) :
    t_turn P w K a E { nx := fun _ H' => Q .non H', rt := Q } (start N_turn vs) H := by
  obtain ⟨ρ, L, h, k, rfl, hx, ok, q⟩ := h
  refine ⟨_, rfl, _, rfl, ρ, L, h, k, rfl, hx, ok, ?_⟩
  cases e : onLane h k with
  | error r =>
    simp only [actAns, readAns, e] at q
    exact q
  | ok g =>
    intro G hg hG
    have ga := hx.gof hg hG
    have gok := ok.at hg
    simp only [actAns, readAns, e] at q
    refine ⟨_, rfl, G.self, _, _, rfl, ga.self, rfl, G, _, rfl, ga, gok.rowsOk, fun H1 s1 => ?_⟩
    have ga1 := ga.up s1
    exact ⟨_, rfl, G.self, _, _, rfl, ga1.self, rfl, G, _, rfl, ga1, gok.rowsOk, fun H2 s2 => ⟨le2, fun p hp => q.tell hx (s1.trans s2) hp rfl⟩⟩
theorem ok_turn {P : Program} {w : World} {K : PySem.W.Frag} {mg : Str → Option Value} {base : Heap} {a : Ad} (T : Txt K mg a) : CalB P w K mg base (L2.CX P w) 6 "turn" (sp_turn P w K a) :=
  CalB.mkX T.f_turn sc_turn l_turn fun f cdv A outer s H vs Q E hr h => ⟨_, d_turn T (ok_need_owner T) (ok_Group_turn T) (ok_Group_pins_standing T) hr, p_turn T h⟩
/-! ### score -/
def sp_score (P : Program) (w : World) (K : PySem.W.Frag) (a : Ad) : Sp := fun vs H Q E => ∃ (ρ : Addr → Option Tag) (L : HLay) (h : Hl) (g p : Nat), vs = [.ref L.self, nV g, nV p] ∧ HallAt P w a H ρ L h ∧ HOk h ∧ Does P w a H ρ L.self (actAns h 11 [g, p]) Q E
theorem l_score : ∀ vs H Q E, sp_score P w K a vs H Q E → vs.length = 3 := by
  rintro vs H Q E ⟨_, _, _, _, _, rfl, _⟩; rfl
abbrev s_score : Stmt := top 62
abbrev N_score : List Str := ["hall", "number", "player", "known", "one"]
theorem sc_score : FnScope N_score ["hall", "number", "player"] (defScope s_score) := ⟨rfl, rfl, rfl, by decide +kernel, rfl, by decide +kernel, by decide +kernel⟩
def t_score (P : Program) (w : World) (K : PySem.W.Frag) (a : Ad) (E : XK) : TS :=
  (tSeq (tAsg (tLc (iList K (tCall (sp_frame_scores P w K a) [] E0 (tCons (tCall (sp_need_player P w K a) [] E (tCons (tVar 0) (tCons (tVar 1) (tCons (tVar 2) tNil)))) tNil))) (gName 4) (tB (tNotN (tVar 4))) (tVar 4) [4]) (gName 3))
  (tRet (tLst (tCons (tCB (rSum K) (tCons (tVar 3) tNil)) (tCons (tCB (rLenB K) (tCons (tVar 3) tNil)) tNil)))))
theorem d_score {P : Program} {w : World} {K : PySem.W.Frag} {mg : Str → Option Value} {base : Heap} {a : Ad} (T : Txt K mg a) (c_frame_scores : CalB P w K mg base CX0 3 "frame_scores" (sp_frame_scores P w K a)) (c_need_player : CalB P w K mg base (L2.CX P w) 5 "need_player" (sp_need_player P w K a)) {f : Addr} {cdv : Value} {A : Around} {outer : List Env} {s : Shared} {H : Hp} {E : XK}
    (hr : Room 5 (A.deeper (envOfC "score" (defScope s_score) s.heap.objs.size f cdv))) : PSs (cxOf (L2.CX P w) P w K mg base N_score "score" (defScope s_score) f cdv A outer s H E) (defBody s_score) (t_score P w K a E) :=
  (pss_cons (ps_setLc (i := 3) (own := [("one", 4)]) (g := (gName 4)) (tt := (tB (tNotN (tVar 4)))) (te := (tVar 4)) rfl sc_score.nd rfl rfl (sw_true rfl rfl rfl (by decide +kernel)) (pi_list (pc c_frame_scores hr (by decide) pass0 rfl (pa_cons (pc c_need_player hr (by decide) passX rfl (pa_cons (pv 0) (pa_cons (pv 1) (pa_cons (pv 2) pa_nil)))) pa_nil))) (blkOk_by (N := N_score) (sc := (defScope s_score)) (by decide +kernel)) (fun _ _ _ _ _ => (pg_name (i := 4) sc_score.nd rfl (by first | exact Or.inl rfl | exact Or.inr rfl))) (fun _ _ _ _ _ => (pts_one (pt_cmp (pc_notN (pv 4)) rfl))) (fun _ _ _ _ _ => (pv 4)))
  (pss_one (ps_ret (pe_lst (pa_cons (pe_callB (cr_sum rfl) (by rfl) T.n_sum boot_sum2 (pa_cons (pv 3) pa_nil)) (pa_cons (pe_callB call_len (by rfl) T.n_len PySem.boot_len (pa_cons (pv 3) pa_nil)) pa_nil))))))
theorem filt_known (l : List (Option Nat)) : filt (fun j => (l.getD j none).isSome) (fun j => optV (l.getD j none)) l.length = nL ((l.filter fun x => x.isSome).map fun x => x.getD 0) := by
  unfold filt
  induction l with
  | nil => rfl
  | cons x l ih =>
    rw [List.length_cons, List.range_succ_eq_map, List.filter_cons, List.filter_cons, List.filter_map]
    show List.map _ (if x.isSome = true then _ else _) = nL (List.map _ (if x.isSome = true then _ else _))
    cases x with
    | none =>
      rw [if_neg (by simp), if_neg (by simp), List.map_map, ← ih]; rfl
    | some n =>
      rw [if_pos (show (some n : Option Nat).isSome = true from rfl), if_pos (show (some n : Option Nat).isSome = true from rfl), List.map_cons, List.map_cons, List.map_map]
      show nV n :: _ = nV n :: nL _
      rw [← ih]; rfl
theorem frameScores_len (l : RL) : (frameScores l).length ≤ l.length := by
  unfold frameScores
  rw [scoresF_len]; exact framesOf_len l
theorem p_score (T : Txt K mg a) {vs : List V} {Q : VK} {E : XK} (h : sp_score P w K a vs H Q E) :
    t_score P w K a E { nx := fun _ H' => Q .non H', rt := Q } (start N_score vs) H := by
  obtain ⟨ρ, L, h, g, p, rfl, hx, ok, q⟩ := h
  refine ⟨_, rfl, _, rfl, _, rfl, ρ, L, h, g, p, rfl, hx, ok, ?_⟩
  cases e : player h g p with
  | error r =>
    simp only [actAns, readAns, e] at q
    exact q
  | ok l =>
    intro b hb hg hp okl
    simp only [actAns, readAns, e] at q
    have hz := okR_len okl
    refine ⟨b, l, rfl, lp hb, by omega, fun H1 pf s1 hpf => ?_⟩
    refine ⟨pf, rfl, ⟨_, lp hpf⟩, ?_⟩
    have hlen : ((frameScores l).map optV).length = (frameScores l).length := List.length_map _
    refine lc_out (walk_list (K := K) (a := pf) (xs := (frameScores l).map optV)) (filt (fun j => ((frameScores l).getD j none).isSome) fun j => optV ((frameScores l).getD j none)) (by rw [hlen]; have := frameScores_len l; omega) yat_same (fun H' z => lp (z _ _ hpf)) rfl (fun i _ => filt_len _ _ _) (fun i x Ha Hb Qy Qn hi sa y qy qn => ?_) fun H2 D s2 hD e2 => ?_
    · obtain ⟨rfl, hxi⟩ := y
      obtain ⟨o, ho, rfl⟩ := getElem?_map_some hxi
      have eo : (frameScores l).getD i none = o := getD_of ho
      refine ⟨rfl, _, rfl, _, rfl, ?_⟩
      rw [optV_non]
      cases o with
      | none => exact ite_false_of (by simp) (qn _ (Same.refl _) (filt_no (by rw [eo]; rfl)))
      | some n =>
        refine ite_true_of rfl ⟨_, rfl, qy _ _ (Same.refl _) ?_⟩
        rw [filt_yes (by rw [eo]; rfl), eo]
    · rw [hlen, filt_known] at e2
      have e3 : H2 D = some (.lst (nL (knownOf l))) := e2
      refine ⟨_, rfl, D, _, rfl, sqi (lp e3), ?_⟩
      rw [sum_ints]
      refine ⟨_, rfl, _, _, rfl, .inl ⟨_, lp e3, rfl⟩, le2, fun p hp => q.tell hx (s1.trans s2) hp ?_⟩
      rw [nL_length]; rfl
theorem ok_score {P : Program} {w : World} {K : PySem.W.Frag} {mg : Str → Option Value} {base : Heap} {a : Ad} (T : Txt K mg a) : CalB P w K mg base (L2.CX P w) 6 "score" (sp_score P w K a) :=
  CalB.mkX T.f_score sc_score l_score fun f cdv A outer s H vs Q E hr h => ⟨_, d_score T (ok_frame_scores T) (ok_need_player T) hr, p_score T h⟩
/-! ### frame -/
def sp_frame (P : Program) (w : World) (K : PySem.W.Frag) (a : Ad) : Sp := fun vs H Q E => ∃ (ρ : Addr → Option Tag) (L : HLay) (h : Hl) (g p k : Nat), vs = [.ref L.self, nV g, nV p, nV k] ∧ HallAt P w a H ρ L h ∧ HOk h ∧ Does P w a H ρ L.self (actAns h 12 [g, p, k]) Q E
theorem l_frame : ∀ vs H Q E, sp_frame P w K a vs H Q E → vs.length = 4 := by
  rintro vs H Q E ⟨_, _, _, _, _, _, rfl, _⟩; rfl
abbrev s_frame : Stmt := top 63
abbrev N_frame : List Str := ["hall", "number", "player", "k", "scores"]
theorem sc_frame : FnScope N_frame ["hall", "number", "player", "k"] (defScope s_frame) := ⟨rfl, rfl, rfl, by decide +kernel, rfl, by decide +kernel, by decide +kernel⟩
def t_frame (P : Program) (w : World) (K : PySem.W.Frag) (a : Ad) (E : XK) : TS :=
  (tSeq (tAsg (tCall (sp_frame_scores P w K a) [] E0 (tCons (tCall (sp_need_player P w K a) [] E (tCons (tVar 0) (tCons (tVar 1) (tCons (tVar 2) tNil)))) tNil)) (gName 4))
  (tSeq (tDrop (tCall (sp_ask P w K a) [] E (tCons (tOp rLtI (tVar 3) (tC (.int (10)))) (tCons (tC (.int (-22))) tNil))))
  (tSeq (tDrop (tCall (sp_ask P w K a) [] E (tCons (tOp rLtI (tVar 3) (tCB (rLenB K) (tCons (tVar 4) tNil))) (tCons (tC (.int (-61))) tNil))))
  (tSeq (tDrop (tCall (sp_ask P w K a) [] E (tCons (tNotN (tOp (rIxL K) (tVar 4) (tVar 3))) (tCons (tC (.int (-61))) tNil))))
  (tRet (tLst (tCons (tOp (rIxL K) (tVar 4) (tVar 3)) tNil)))))))
theorem d_frame {P : Program} {w : World} {K : PySem.W.Frag} {mg : Str → Option Value} {base : Heap} {a : Ad} (T : Txt K mg a) (c_frame_scores : CalB P w K mg base CX0 3 "frame_scores" (sp_frame_scores P w K a)) (c_need_player : CalB P w K mg base (L2.CX P w) 5 "need_player" (sp_need_player P w K a)) (c_ask : CalB P w K mg base (L2.CX P w) 3 "ask" (sp_ask P w K a)) {f : Addr} {cdv : Value} {A : Around} {outer : List Env} {s : Shared} {H : Hp} {E : XK}
    (hr : Room 5 (A.deeper (envOfC "frame" (defScope s_frame) s.heap.objs.size f cdv))) : PSs (cxOf (L2.CX P w) P w K mg base N_frame "frame" (defScope s_frame) f cdv A outer s H E) (defBody s_frame) (t_frame P w K a E) :=
  (pss_cons (ps_set (i := 4) sc_frame.nd rfl (by first | exact Or.inl rfl | exact Or.inr rfl) (pc c_frame_scores hr (by decide) pass0 rfl (pa_cons (pc c_need_player hr (by decide) passX rfl (pa_cons (pv 0) (pa_cons (pv 1) (pa_cons (pv 2) pa_nil)))) pa_nil)))
  (pss_cons (ps_expr (pc c_ask hr (by decide) passX rfl (pa_cons (pe_cmpR op_lt (pv 3) (pgi T.g_FRAMES rfl) (nomark _)) (pa_cons (pgi T.g_WRONG rfl) pa_nil))))
  (pss_cons (ps_expr (pc c_ask hr (by decide) passX rfl (pa_cons (pe_cmpR op_lt (pv 3) (pe_callB call_len (by rfl) T.n_len PySem.boot_len (pa_cons (pv 4) pa_nil)) (nomark _)) (pa_cons (pgi T.g_NOT_THERE rfl) pa_nil))))
  (pss_cons (ps_expr (pc c_ask hr (by decide) passX rfl (pa_cons (pe_cmp (pc_notN (pe_ix ix_list (pv 4) (pv 3) (fun _ _ => rfl))) rfl) (pa_cons (pgi T.g_NOT_THERE rfl) pa_nil))))
  (pss_one (ps_ret (pe_lst (pa_cons (pe_ix ix_list (pv 4) (pv 3) (fun _ _ => rfl)) pa_nil))))))))
theorem p_frame (T : Txt K mg a) {vs : List V} {Q : VK} {E : XK} (h : sp_frame P w K a vs H Q E) :
    t_frame P w K a E { nx := fun _ H' => Q .non H', rt := Q } (start N_frame vs) H := by
  obtain ⟨ρ, L, h, g, p, k, rfl, hx, ok, q⟩ := h
  refine ⟨_, rfl, _, rfl, _, rfl, ρ, L, h, g, p, rfl, hx, ok, ?_⟩
  cases e : player h g p with
  | error r =>
    simp only [actAns, readAns, e] at q
    exact q
  | ok l =>
    intro b hb hg hp okl
    simp only [actAns, readAns, e] at q
    have hz := okR_len okl
    refine ⟨b, l, rfl, lp hb, by omega, fun H1 pf s1 hpf => ?_⟩
    refine ⟨_, rfl, _, _, rfl, rfl, _, _, rfl, fun c2 => ?_, fun c2 => ?_⟩
    · have c2' : k < 10 := by have := of_decide_eq_true c2; omega
      refine ⟨_, rfl, _, rfl, _, _, rfl, .inl ⟨_, lp hpf, rfl⟩, _, _, rfl, rfl, _, _, rfl, fun c3 => ?_, fun c3 => ?_⟩
      · have c3' : k < (frameScores l).length := by have := of_decide_eq_true c3; rw [List.length_map] at this; omega
        obtain ⟨o, ho⟩ : ∃ o, (frameScores l)[k]? = some o := ⟨_, List.getElem?_eq_getElem c3'⟩
        have hat := atI_map (f := optV) ho
        refine ⟨_, rfl, _, rfl, pf, _, (k : Int), _, rfl, rfl, lp hpf, hat, _, _, rfl, fun c4 => ?_, fun c4 => ?_⟩
        · rw [optV_non] at c4
          cases o with
          | none => exact noB c4
          | some n =>
            have ef : frameAns l k = .ok [(n : Int)] := by unfold frameAns; rw [if_pos c2', ho]
            rw [ef] at q
            exact ⟨_, rfl, _, rfl, pf, _, (k : Int), _, rfl, rfl, lp hpf, hat, le1, fun p hp => q.tell hx s1 hp rfl⟩
        · rw [optV_non] at c4
          cases o with
          | none =>
            have ef : frameAns l k = .error (-61) := by unfold frameAns; rw [if_pos c2', ho]
            rw [ef] at q
            have q' : Ref a H E (-61) := q
            exact q'.mono s1
          | some n => exact noB c4.symm
      · have c3' : ¬ k < (frameScores l).length := by have := of_decide_eq_false c3; rw [List.length_map] at this; omega
        have ef : frameAns l k = .error (-61) := by unfold frameAns; rw [if_pos c2', List.getElem?_eq_none (by omega)]
        rw [ef] at q
        have q' : Ref a H E (-61) := q
        exact q'.mono s1
    · have c2' : ¬ k < 10 := by have := of_decide_eq_false c2; omega
      have ef : frameAns l k = .error (-22) := by unfold frameAns; rw [if_neg c2']
      rw [ef] at q
      have q' : Ref a H E (-22) := q
      exact q'.mono s1
theorem ok_frame {P : Program} {w : World} {K : PySem.W.Frag} {mg : Str → Option Value} {base : Heap} {a : Ad} (T : Txt K mg a) : CalB P w K mg base (L2.CX P w) 6 "frame" (sp_frame P w K a) :=
  CalB.mkX T.f_frame sc_frame l_frame fun f cdv A outer s H vs Q E hr h => ⟨_, d_frame T (ok_frame_scores T) (ok_need_player T) (ok_ask T) hr, p_frame T h⟩
/-! ### score_range -/
def sp_score_range (P : Program) (w : World) (K : PySem.W.Frag) (a : Ad) : Sp := fun vs H Q E => ∃ (ρ : Addr → Option Tag) (L : HLay) (h : Hl) (g p : Nat), vs = [.ref L.self, nV g, nV p] ∧ HallAt P w a H ρ L h ∧ HOk h ∧ Does P w a H ρ L.self (actAns h 13 [g, p]) Q E
theorem l_score_range : ∀ vs H Q E, sp_score_range P w K a vs H Q E → vs.length = 3 := by
  rintro vs H Q E ⟨_, _, _, _, _, rfl, _⟩; rfl
abbrev s_score_range : Stmt := top 64
abbrev N_score_range : List Str := ["hall", "number", "player", "found"]
theorem sc_score_range : FnScope N_score_range ["hall", "number", "player"] (defScope s_score_range) := ⟨rfl, rfl, rfl, by decide +kernel, rfl, by decide +kernel, by decide +kernel⟩
def t_score_range (P : Program) (w : World) (K : PySem.W.Frag) (a : Ad) (E : XK) : TS :=
  (tSeq (tAsg (tMeth a.CCounter "ways" (sp_Counter_ways P w K a) [] E0 (tFld K (tVar 0) "counter") (tCons (tCall (sp_need_player P w K a) [] E (tCons (tVar 0) (tCons (tVar 1) (tCons (tVar 2) tNil)))) tNil)) (gName 3))
  (tRet (tLst (tCons (tCB rMinK (tCons (tVar 3) tNil)) (tCons (tCB rMaxK (tCons (tVar 3) tNil)) tNil)))))
theorem d_score_range {P : Program} {w : World} {K : PySem.W.Frag} {mg : Str → Option Value} {base : Heap} {a : Ad} (T : Txt K mg a) (c_Counter_ways : MetB P w K mg base CX0 36 a.CCounter "ways" (sp_Counter_ways P w K a)) (c_need_player : CalB P w K mg base (L2.CX P w) 5 "need_player" (sp_need_player P w K a)) {f : Addr} {cdv : Value} {A : Around} {outer : List Env} {s : Shared} {H : Hp} {E : XK}
    (hr : Room 36 (A.deeper (envOfC "score_range" (defScope s_score_range) s.heap.objs.size f cdv))) : PSs (cxOf (L2.CX P w) P w K mg base N_score_range "score_range" (defScope s_score_range) f cdv A outer s H E) (defBody s_score_range) (t_score_range P w K a E) :=
  (pss_cons (ps_set (i := 3) sc_score_range.nd rfl (by first | exact Or.inl rfl | exact Or.inr rfl) (pm c_Counter_ways hr (by decide) pass0 (pe_fld (pv 0) rfl) (pa_cons (pc c_need_player hr (by decide) passX rfl (pa_cons (pv 0) (pa_cons (pv 1) (pa_cons (pv 2) pa_nil)))) pa_nil)))
  (pss_one (ps_ret (pe_lst (pa_cons (pe_callB (cr_minK rfl) (by rfl) T.n_min boot_min2 (pa_cons (pv 3) pa_nil)) (pa_cons (pe_callB (cr_maxK rfl) (by rfl) T.n_max boot_max2 (pa_cons (pv 3) pa_nil)) pa_nil))))))
theorem dKV_keys (d : D) : (dKV d).map (·.1) = ((keysOf d).map fun (x : Nat) => (x : Int)).map Sum.inl := by
  unfold dKV keysOf
  rw [List.map_map, List.map_map, List.map_map]; rfl
theorem max_nat {ns : RL} {m : Int} (h1 : m ∈ ns.map fun (x : Nat) => (x : Int)) (h2 : ∀ y ∈ ns.map fun (x : Nat) => (x : Int), y ≤ m) : m = (maxL ns : Nat) := by
  obtain ⟨x, hx, rfl⟩ := List.mem_map.mp h1
  congr 1
  refine maxL_uniq hx fun y hy => ?_
  have := h2 _ (List.mem_map.mpr ⟨y, hy, rfl⟩)
  omega
theorem p_score_range (T : Txt K mg a) {vs : List V} {Q : VK} {E : XK} (h : sp_score_range P w K a vs H Q E) :
    t_score_range P w K a E { nx := fun _ H' => Q .non H', rt := Q } (start N_score_range vs) H := by
  obtain ⟨ρ, L, h, g, p, rfl, hx, ok, q⟩ := h
  have ho := hx.own
  refine ⟨_, rfl, _, _, _, _, _, rfl, ho.self, T.c_Hall, T.a_Hall_counter, rfl, L.cs, L.cdx, _, rfl, hx.cnt.self, rfl, _, rfl, _, rfl, _, rfl, ρ, L, h, g, p, rfl, hx, ok, ?_⟩
  cases e : player h g p with
  | error r =>
    simp only [actAns, readAns, e] at q
    exact q
  | ok l =>
    intro b hb hg hp okl
    simp only [actAns, readAns, e] at q
    have hz := okR_len okl
    refine ⟨L.cs, b, l, L.cm, L.cdx, L.ents, rfl, lp hb, by omega, okR_ten 10 l okl, okR_goodStart okl, hx.cnt, fun H1 q1 l' hc1 k1 hq1 hn1 => ?_⟩
    have st := hx.setC hc1 k1 hn1
    have hne : (keysOf (waysD l)).map (fun (x : Nat) => (x : Int)) ≠ [] := fun z => keys_ne okl (List.map_eq_nil_iff.mp z)
    refine ⟨_, rfl, q1, _, _, rfl, hq1, dKV_keys _, hne, fun m h1 h2 => ⟨_, rfl, q1, _, _, rfl, hq1, dKV_keys _, hne, fun m2 h3 h4 => ⟨le2, fun pp hpp => ?_⟩⟩⟩
    rw [min_nat h1 h2, max_nat h3 h4]
    exact q _ pp (st.up (same_upd hpp)).step (st.step.fresh hpp) upd_same
theorem ok_score_range {P : Program} {w : World} {K : PySem.W.Frag} {mg : Str → Option Value} {base : Heap} {a : Ad} (T : Txt K mg a) : CalB P w K mg base (L2.CX P w) 37 "score_range" (sp_score_range P w K a) :=
  CalB.mkX T.f_score_range sc_score_range l_score_range fun f cdv A outer s H vs Q E hr h => ⟨_, d_score_range T (ok_Counter_ways T) (ok_need_player T) hr, p_score_range T h⟩
/-! ### ways -/
def sp_ways (P : Program) (w : World) (K : PySem.W.Frag) (a : Ad) : Sp := fun vs H Q E => ∃ (ρ : Addr → Option Tag) (L : HLay) (h : Hl) (g p s : Nat), vs = [.ref L.self, nV g, nV p, nV s] ∧ HallAt P w a H ρ L h ∧ HOk h ∧ Does P w a H ρ L.self (actAns h 14 [g, p, s]) Q E
theorem l_ways : ∀ vs H Q E, sp_ways P w K a vs H Q E → vs.length = 4 := by
  rintro vs H Q E ⟨_, _, _, _, _, _, rfl, _⟩; rfl
abbrev s_ways : Stmt := top 65
abbrev N_ways : List Str := ["hall", "number", "player", "wanted", "rolls"]
theorem sc_ways : FnScope N_ways ["hall", "number", "player", "wanted"] (defScope s_ways) := ⟨rfl, rfl, rfl, by decide +kernel, rfl, by decide +kernel, by decide +kernel⟩
def t_ways (P : Program) (w : World) (K : PySem.W.Frag) (a : Ad) (E : XK) : TS :=
  (tSeq (tAsg (tCall (sp_need_player P w K a) [] E (tCons (tVar 0) (tCons (tVar 1) (tCons (tVar 2) tNil)))) (gName 4))
  (tSeq (tDrop (tCall (sp_ask P w K a) [] E (tCons (tOp rLeI (tVar 3) (tC (.int (300)))) (tCons (tC (.int (-22))) tNil))))
  (tRet (tLst (tCons (tC (.int 0)) (tCons (tDGet2 (tMeth a.CCounter "ways" (sp_Counter_ways P w K a) [] E0 (tFld K (tVar 0) "counter") (tCons (tVar 4) tNil)) (tVar 3) (tC (.int 0))) tNil))))))
theorem d_ways {P : Program} {w : World} {K : PySem.W.Frag} {mg : Str → Option Value} {base : Heap} {a : Ad} (T : Txt K mg a) (c_need_player : CalB P w K mg base (L2.CX P w) 5 "need_player" (sp_need_player P w K a)) (c_ask : CalB P w K mg base (L2.CX P w) 3 "ask" (sp_ask P w K a)) (c_Counter_ways : MetB P w K mg base CX0 36 a.CCounter "ways" (sp_Counter_ways P w K a)) {f : Addr} {cdv : Value} {A : Around} {outer : List Env} {s : Shared} {H : Hp} {E : XK}
    (hr : Room 36 (A.deeper (envOfC "ways" (defScope s_ways) s.heap.objs.size f cdv))) : PSs (cxOf (L2.CX P w) P w K mg base N_ways "ways" (defScope s_ways) f cdv A outer s H E) (defBody s_ways) (t_ways P w K a E) :=
  (pss_cons (ps_set (i := 4) sc_ways.nd rfl (by first | exact Or.inl rfl | exact Or.inr rfl) (pc c_need_player hr (by decide) passX rfl (pa_cons (pv 0) (pa_cons (pv 1) (pa_cons (pv 2) pa_nil)))))
  (pss_cons (ps_expr (pc c_ask hr (by decide) passX rfl (pa_cons (pe_cmpR op_le (pv 3) (pgi T.g_GREATEST_SCORE rfl) (nomark _)) (pa_cons (pgi T.g_WRONG rfl) pa_nil))))
  (pss_one (ps_ret (pe_lst (pa_cons pe_int (pa_cons (pe_dget2 (hu_of hr) (pm c_Counter_ways hr (by decide) pass0 (pe_fld (pv 0) rfl) (pa_cons (pv 4) pa_nil)) (pv 3) pe_int ⟨rfl, rfl, rfl, rfl⟩) pa_nil)))))))
theorem p_ways (T : Txt K mg a) {vs : List V} {Q : VK} {E : XK} (h : sp_ways P w K a vs H Q E) :
    t_ways P w K a E { nx := fun _ H' => Q .non H', rt := Q } (start N_ways vs) H := by
  obtain ⟨ρ, L, h, g, p, s, rfl, hx, ok, q⟩ := h
  have ho := hx.own
  refine ⟨_, rfl, _, rfl, _, rfl, ρ, L, h, g, p, rfl, hx, ok, ?_⟩
  cases e : player h g p with
  | error r =>
    simp only [actAns, readAns, e] at q
    exact q
  | ok l =>
    intro b hb hg hp okl
    have hz := okR_len okl
    refine ⟨_, rfl, _, _, rfl, rfl, _, _, rfl, fun c2 => ?_, fun c2 => ?_⟩
    · have c2' : s ≤ 300 := by have := of_decide_eq_true c2; omega
      simp only [actAns, readAns, e, c2', if_true] at q
      refine ⟨_, rfl, _, _, _, _, _, rfl, ho.self, T.c_Hall, T.a_Hall_counter, rfl, L.cs, L.cdx, _, rfl, hx.cnt.self, rfl, _, rfl, L.cs, b, l, L.cm, L.cdx, L.ents, rfl, lp hb, by omega, okR_ten 10 l okl, okR_goodStart okl, hx.cnt, fun H1 q1 l' hc1 k1 hq1 hn1 => ?_⟩
      have st := hx.setC hc1 k1 hn1
      refine ⟨q1, rfl, .inl ⟨_, .inl hq1⟩, _, rfl, _, .inl ⟨_, .inl (s : Int), .inl hq1, rfl, rfl⟩, le2, fun pp hpp => ?_⟩
      rw [valV_dKV]
      exact q _ pp (st.up (same_upd hpp)).step (st.step.fresh hpp) upd_same
    · have c2' : ¬ s ≤ 300 := by have := of_decide_eq_false c2; omega
      simp only [actAns, readAns, e, c2', if_false] at q
      exact q
theorem ok_ways {P : Program} {w : World} {K : PySem.W.Frag} {mg : Str → Option Value} {base : Heap} {a : Ad} (T : Txt K mg a) : CalB P w K mg base (L2.CX P w) 37 "ways" (sp_ways P w K a) :=
  CalB.mkX T.f_ways sc_ways l_ways fun f cdv A outer s H vs Q E hr h => ⟨_, d_ways T (ok_need_player T) (ok_ask T) (ok_Counter_ways T) hr, p_ways T h⟩
/-! ### game -/
def sp_game (P : Program) (w : World) (K : PySem.W.Frag) (a : Ad) : Sp := fun vs H Q E => ∃ (ρ : Addr → Option Tag) (L : HLay) (h : Hl) (g i p : Nat), vs = [.ref L.self, nV g, nV i, nV p] ∧ HallAt P w a H ρ L h ∧ HOk h ∧ Does P w a H ρ L.self (actAns h 16 [g, i, p]) Q E
theorem l_game : ∀ vs H Q E, sp_game P w K a vs H Q E → vs.length = 4 := by
  rintro vs H Q E ⟨_, _, _, _, _, _, rfl, _⟩; rfl
abbrev s_game : Stmt := top 66
abbrev N_game : List Str := ["hall", "number", "i", "player", "finished"]
theorem sc_game : FnScope N_game ["hall", "number", "i", "player"] (defScope s_game) := ⟨rfl, rfl, rfl, by decide +kernel, rfl, by decide +kernel, by decide +kernel⟩
def t_game (P : Program) (w : World) (K : PySem.W.Frag) (a : Ad) (E : XK) : TS :=
  (tSeq (tDrop (tCall (sp_need_player P w K a) [] E (tCons (tVar 0) (tCons (tVar 1) (tCons (tVar 3) tNil)))))
  (tSeq (tAsg (tFld K (tOp (rIxL K) (tFld K (tVar 0) "groups") (tVar 1)) "finished") (gName 4))
  (tSeq (tDrop (tCall (sp_ask P w K a) [] E (tCons (tOp rLtI (tVar 2) (tCB (rLenB K) (tCons (tVar 4) tNil))) (tCons (tC (.int (-61))) tNil))))
  (tRet (tLst (tCons (tOp (rIxL K) (tOp (rIxL K) (tVar 4) (tVar 2)) (tVar 3)) tNil))))))
theorem d_game {P : Program} {w : World} {K : PySem.W.Frag} {mg : Str → Option Value} {base : Heap} {a : Ad} (T : Txt K mg a) (c_need_player : CalB P w K mg base (L2.CX P w) 5 "need_player" (sp_need_player P w K a)) (c_ask : CalB P w K mg base (L2.CX P w) 3 "ask" (sp_ask P w K a)) {f : Addr} {cdv : Value} {A : Around} {outer : List Env} {s : Shared} {H : Hp} {E : XK}
    (hr : Room 5 (A.deeper (envOfC "game" (defScope s_game) s.heap.objs.size f cdv))) : PSs (cxOf (L2.CX P w) P w K mg base N_game "game" (defScope s_game) f cdv A outer s H E) (defBody s_game) (t_game P w K a E) :=
  (pss_cons (ps_expr (pc c_need_player hr (by decide) passX rfl (pa_cons (pv 0) (pa_cons (pv 1) (pa_cons (pv 3) pa_nil)))))
  (pss_cons (ps_set (i := 4) sc_game.nd rfl (by first | exact Or.inl rfl | exact Or.inr rfl) (pe_fld (pe_ix ix_list (pe_fld (pv 0) rfl) (pv 1) (fun _ _ => rfl)) rfl))
  (pss_cons (ps_expr (pc c_ask hr (by decide) passX rfl (pa_cons (pe_cmpR op_lt (pv 2) (pe_callB call_len (by rfl) T.n_len PySem.boot_len (pa_cons (pv 4) pa_nil)) (nomark _)) (pa_cons (pgi T.g_NOT_THERE rfl) pa_nil))))
  (pss_one (ps_ret (pe_lst (pa_cons (pe_ix ix_list (pe_ix ix_list (pv 4) (pv 2) (fun _ _ => rfl)) (pv 3) (fun _ _ => rfl)) pa_nil)))))))
theorem p_game (T : Txt K mg a) {vs : List V} {Q : VK} {E : XK} (h : sp_game P w K a vs H Q E) :
    t_game P w K a E { nx := fun _ H' => Q .non H', rt := Q } (start N_game vs) H := by
  obtain ⟨ρ, L, h, g, i, p, rfl, hx, ok, q⟩ := h
  have ho := hx.own
  refine ⟨_, rfl, _, rfl, _, rfl, ρ, L, h, g, p, rfl, hx, ok, ?_⟩
  cases e : player h g p with
  | error r =>
    simp only [actAns, readAns, e] at q
    exact q
  | ok l =>
    intro b hb hg hp okl
    obtain ⟨G, hG, ga⟩ := hx.gget hg
    have gok := ok.at hg
    refine ⟨_, rfl, _, _, _, _, _, rfl, ho.self, T.c_Hall, T.a_Hall_groups, rfl, _, rfl, L.groups, _, (g : Int), _, rfl, rfl, lp ho.groups, hx.gat hG, _, _, _, _, _, rfl, ga.self, T.c_Group, T.a_Group_finished, rfl, ?_⟩
    refine ⟨_, rfl, _, rfl, _, _, rfl, .inl ⟨_, lp ga.fin, rfl⟩, _, _, rfl, rfl, _, _, rfl, fun c2 => ?_, fun c2 => ?_⟩
    · have c2' : i < (h.grp g).fin.length := by have := of_decide_eq_true c2; rw [List.length_map, ga.frows.len] at this; omega
      simp only [actAns, readAns, e, c2', if_true] at q
      have hf : (h.grp g).fin[i]? = some ((h.grp g).fin.getD i []) := by rw [List.getD_eq_getElem?_getD, List.getElem?_eq_getElem c2']; rfl
      obtain ⟨c, hc, ec⟩ := ga.frows.get' hf
      have hfl := gok.finLen _ (List.mem_of_getElem? hf)
      have hfp : ((h.grp g).fin.getD i [])[p]? = some (((h.grp g).fin.getD i []).getD p 0) := by rw [List.getD_eq_getElem?_getD (l := (h.grp g).fin.getD i []), List.getElem?_eq_getElem (by omega)]; rfl
      refine ⟨_, rfl, _, rfl, G.fin, _, (i : Int), _, rfl, rfl, lp ga.fin, atI_map hc, _, rfl, c, _, (p : Int), _, rfl, rfl, lp ec, atI_map (f := nV) hfp, le1, fun pp hpp => q.tell hx (Same.refl _) hpp rfl⟩
    · have c2' : ¬ i < (h.grp g).fin.length := by have := of_decide_eq_false c2; rw [List.length_map, ga.frows.len] at this; omega
      simp only [actAns, readAns, e, c2', if_false] at q
      exact q
theorem ok_game {P : Program} {w : World} {K : PySem.W.Frag} {mg : Str → Option Value} {base : Heap} {a : Ad} (T : Txt K mg a) : CalB P w K mg base (L2.CX P w) 6 "game" (sp_game P w K a) :=
  CalB.mkX T.f_game sc_game l_game fun f cdv A outer s H vs Q E hr h => ⟨_, d_game T (ok_need_player T) (ok_ask T) hr, p_game T h⟩
/-! ### average, allowance, points -/
def sp_average (P : Program) (w : World) (K : PySem.W.Frag) (a : Ad) : Sp := fun vs H Q E => ∃ (ρ : Addr → Option Tag) (L : HLay) (h : Hl) (t p : Nat), vs = [.ref L.self, nV t, nV p] ∧ HallAt P w a H ρ L h ∧ HOk h ∧ Does P w a H ρ L.self (actAns h 20 [t, p]) Q E
theorem l_average : ∀ vs H Q E, sp_average P w K a vs H Q E → vs.length = 3 := by
  rintro vs H Q E ⟨_, _, _, _, _, rfl, _⟩; rfl
abbrev s_average : Stmt := top 69
abbrev N_average : List Str := ["hall", "team", "player", "there"]
theorem sc_average : FnScope N_average ["hall", "team", "player"] (defScope s_average) := ⟨rfl, rfl, rfl, by decide +kernel, rfl, by decide +kernel, by decide +kernel⟩
def t_average (P : Program) (w : World) (K : PySem.W.Frag) (a : Ad) (E : XK) : TS :=
  (tSeq (tAsg (tCall (sp_need_team P w K a) [] E (tCons (tVar 0) (tCons (tVar 1) tNil))) (gName 3))
  (tSeq (tDrop (tCall (sp_ask P w K a) [] E (tCons (tOp rLtI (tVar 2) (tC (.int (3)))) (tCons (tC (.int (-2))) tNil))))
  (tRet (tLst (tCons (tMeth a.CTeam "average" (sp_Team_average P w K a) [] E0 (tVar 3) (tCons (tVar 2) tNil)) (tCons (tCB (rLenB K) (tCons (tOp (rIxL K) (tFld K (tVar 3) "scores") (tVar 2)) tNil)) tNil))))))
theorem d_average {P : Program} {w : World} {K : PySem.W.Frag} {mg : Str → Option Value} {base : Heap} {a : Ad} (T : Txt K mg a) (c_need_team : CalB P w K mg base (L2.CX P w) 4 "need_team" (sp_need_team P w K a)) (c_ask : CalB P w K mg base (L2.CX P w) 3 "ask" (sp_ask P w K a)) (c_Team_average : MetB P w K mg base CX0 1 a.CTeam "average" (sp_Team_average P w K a)) {f : Addr} {cdv : Value} {A : Around} {outer : List Env} {s : Shared} {H : Hp} {E : XK}
    (hr : Room 4 (A.deeper (envOfC "average" (defScope s_average) s.heap.objs.size f cdv))) : PSs (cxOf (L2.CX P w) P w K mg base N_average "average" (defScope s_average) f cdv A outer s H E) (defBody s_average) (t_average P w K a E) :=
  (pss_cons (ps_set (i := 3) sc_average.nd rfl (by first | exact Or.inl rfl | exact Or.inr rfl) (pc c_need_team hr (by decide) passX rfl (pa_cons (pv 0) (pa_cons (pv 1) pa_nil))))
  (pss_cons (ps_expr (pc c_ask hr (by decide) passX rfl (pa_cons (pe_cmpR op_lt (pv 2) (pgi T.g_PLAYERS rfl) (nomark _)) (pa_cons (pgi T.g_NO_SUCH rfl) pa_nil))))
  (pss_one (ps_ret (pe_lst (pa_cons (pm c_Team_average hr (by decide) pass0 (pv 3) (pa_cons (pv 2) pa_nil)) (pa_cons (pe_callB call_len (by rfl) T.n_len PySem.boot_len (pa_cons (pe_ix ix_list (pe_fld (pv 3) rfl) (pv 2) (fun _ _ => rfl)) pa_nil)) pa_nil)))))))
theorem p_average (T : Txt K mg a) {vs : List V} {Q : VK} {E : XK} (h : sp_average P w K a vs H Q E) :
    t_average P w K a E { nx := fun _ H' => Q .non H', rt := Q } (start N_average vs) H := by
  obtain ⟨ρ, L, h, t, p, rfl, hx, ok, q⟩ := h
  refine ⟨_, rfl, _, rfl, ρ, L, h, t, rfl, hx, ?_⟩
  by_cases c : t < h.league.teams.length
  · rw [if_pos c]
    intro U hU
    have ua := hx.lg.tm t U _ hU (tm_at c)
    have hm := List.mem_of_getElem? (tm_at c)
    have h3 := ok.lg.three _ hm
    refine ⟨_, rfl, _, _, rfl, rfl, _, _, rfl, fun c2 => ?_, fun c2 => ?_⟩
    · have c2' : p < 3 := by have := of_decide_eq_true c2; omega
      simp only [actAns, readAns, c, c2', if_true] at q
      have hp3 : p < (h.league.tm t).scores.length := by rw [h3]; exact c2'
      obtain ⟨b, hb, e⟩ := ua.rows.get' (trow_at hp3)
      have hz := ok.lg.rows _ hm _ (List.mem_of_getElem? (trow_at hp3))
      refine ⟨_, rfl, U.self, _, _, rfl, ua.self, rfl, _, rfl, U, h.league.tm t, p, rfl, ua, hp3, by omega, _, rfl, _, _, _, _, _, rfl, ua.self, T.c_Team, T.a_Team_scores, rfl, _, rfl, U.scores, _, (p : Int), _, rfl, rfl, lp ua.scores, atI_map hb, _, _, rfl, .inl ⟨_, lp e, rfl⟩, le2, fun pp hpp => q.tell hx (Same.refl _) hpp ?_⟩
      rw [nL_length]; rfl
    · have c2' : ¬ p < 3 := by have := of_decide_eq_false c2; omega
      simp only [actAns, readAns, c, c2', if_true, if_false] at q
      exact q
  · rw [if_neg c]
    simp only [actAns, readAns, c, if_false] at q
    exact q
theorem ok_average {P : Program} {w : World} {K : PySem.W.Frag} {mg : Str → Option Value} {base : Heap} {a : Ad} (T : Txt K mg a) : CalB P w K mg base (L2.CX P w) 5 "average" (sp_average P w K a) :=
  CalB.mkX T.f_average sc_average l_average fun f cdv A outer s H vs Q E hr h => ⟨_, d_average T (ok_need_team T) (ok_ask T) (ok_Team_average T) hr, p_average T h⟩
def sp_allowance (P : Program) (w : World) (K : PySem.W.Frag) (a : Ad) : Sp := fun vs H Q E => ∃ (ρ : Addr → Option Tag) (L : HLay) (h : Hl) (t p : Nat), vs = [.ref L.self, nV t, nV p] ∧ HallAt P w a H ρ L h ∧ HOk h ∧ Does P w a H ρ L.self (actAns h 21 [t, p]) Q E
theorem l_allowance : ∀ vs H Q E, sp_allowance P w K a vs H Q E → vs.length = 3 := by
  rintro vs H Q E ⟨_, _, _, _, _, rfl, _⟩; rfl
abbrev s_allowance : Stmt := top 70
abbrev N_allowance : List Str := ["hall", "team", "player"]
theorem sc_allowance : FnScope N_allowance ["hall", "team", "player"] (defScope s_allowance) := ⟨rfl, rfl, rfl, by decide +kernel, rfl, by decide +kernel, by decide +kernel⟩
def t_allowance (P : Program) (w : World) (K : PySem.W.Frag) (a : Ad) (E : XK) : TS :=
  (tSeq (tDrop (tCall (sp_need_team P w K a) [] E (tCons (tVar 0) (tCons (tVar 1) tNil))))
  (tSeq (tDrop (tCall (sp_ask P w K a) [] E (tCons (tOp rLtI (tVar 2) (tC (.int (3)))) (tCons (tC (.int (-2))) tNil))))
  (tRet (tLst (tCons (tMeth a.CLeague "allowance" (sp_League_allowance P w K a) [] E0 (tFld K (tVar 0) "league") (tCons (tVar 1) (tCons (tVar 2) tNil))) tNil)))))
theorem d_allowance {P : Program} {w : World} {K : PySem.W.Frag} {mg : Str → Option Value} {base : Heap} {a : Ad} (T : Txt K mg a) (c_need_team : CalB P w K mg base (L2.CX P w) 4 "need_team" (sp_need_team P w K a)) (c_ask : CalB P w K mg base (L2.CX P w) 3 "ask" (sp_ask P w K a)) (c_League_allowance : MetB P w K mg base CX0 2 a.CLeague "allowance" (sp_League_allowance P w K a)) {f : Addr} {cdv : Value} {A : Around} {outer : List Env} {s : Shared} {H : Hp} {E : XK}
    (hr : Room 4 (A.deeper (envOfC "allowance" (defScope s_allowance) s.heap.objs.size f cdv))) : PSs (cxOf (L2.CX P w) P w K mg base N_allowance "allowance" (defScope s_allowance) f cdv A outer s H E) (defBody s_allowance) (t_allowance P w K a E) :=
  (pss_cons (ps_expr (pc c_need_team hr (by decide) passX rfl (pa_cons (pv 0) (pa_cons (pv 1) pa_nil))))
  (pss_cons (ps_expr (pc c_ask hr (by decide) passX rfl (pa_cons (pe_cmpR op_lt (pv 2) (pgi T.g_PLAYERS rfl) (nomark _)) (pa_cons (pgi T.g_NO_SUCH rfl) pa_nil))))
  (pss_one (ps_ret (pe_lst (pa_cons (pm c_League_allowance hr (by decide) pass0 (pe_fld (pv 0) rfl) (pa_cons (pv 1) (pa_cons (pv 2) pa_nil))) pa_nil))))))
theorem p_allowance (T : Txt K mg a) {vs : List V} {Q : VK} {E : XK} (h : sp_allowance P w K a vs H Q E) :
    t_allowance P w K a E { nx := fun _ H' => Q .non H', rt := Q } (start N_allowance vs) H := by
  obtain ⟨ρ, L, h, t, p, rfl, hx, ok, q⟩ := h
  have ho := hx.own
  refine ⟨_, rfl, _, rfl, ρ, L, h, t, rfl, hx, ?_⟩
  by_cases c : t < h.league.teams.length
  · rw [if_pos c]
    intro U hU
    refine ⟨_, rfl, _, _, rfl, rfl, _, _, rfl, fun c2 => ?_, fun c2 => ?_⟩
    · have c2' : p < 3 := by have := of_decide_eq_true c2; omega
      simp only [actAns, readAns, c, c2', if_true] at q
      exact ⟨_, rfl, _, _, _, _, _, rfl, ho.self, T.c_Hall, T.a_Hall_league, rfl, L.lg.self, _, _, rfl, hx.lg.self, rfl, _, rfl, _, rfl, L.lg, h.league, t, p, rfl, hx.lg, ok.lg, c, c2', le1, fun pp hpp => q.tell hx (Same.refl _) hpp rfl⟩
    · have c2' : ¬ p < 3 := by have := of_decide_eq_false c2; omega
      simp only [actAns, readAns, c, c2', if_true, if_false] at q
      exact q
  · rw [if_neg c]
    simp only [actAns, readAns, c, if_false] at q
    exact q
theorem ok_allowance {P : Program} {w : World} {K : PySem.W.Frag} {mg : Str → Option Value} {base : Heap} {a : Ad} (T : Txt K mg a) : CalB P w K mg base (L2.CX P w) 5 "allowance" (sp_allowance P w K a) :=
  CalB.mkX T.f_allowance sc_allowance l_allowance fun f cdv A outer s H vs Q E hr h => ⟨_, d_allowance T (ok_need_team T) (ok_ask T) (ok_League_allowance T) hr, p_allowance T h⟩
def sp_points (P : Program) (w : World) (K : PySem.W.Frag) (a : Ad) : Sp := fun vs H Q E => ∃ (ρ : Addr → Option Tag) (L : HLay) (h : Hl) (t : Nat), vs = [.ref L.self, nV t] ∧ HallAt P w a H ρ L h ∧ HOk h ∧ Does P w a H ρ L.self (actAns h 22 [t]) Q E
theorem l_points : ∀ vs H Q E, sp_points P w K a vs H Q E → vs.length = 2 := by
  rintro vs H Q E ⟨_, _, _, _, rfl, _⟩; rfl
abbrev s_points : Stmt := top 71
abbrev N_points : List Str := ["hall", "team", "there"]
theorem sc_points : FnScope N_points ["hall", "team"] (defScope s_points) := ⟨rfl, rfl, rfl, by decide +kernel, rfl, by decide +kernel, by decide +kernel⟩
def t_points (P : Program) (w : World) (K : PySem.W.Frag) (a : Ad) (E : XK) : TS :=
  (tSeq (tAsg (tCall (sp_need_team P w K a) [] E (tCons (tVar 0) (tCons (tVar 1) tNil))) (gName 2))
  (tRet (tLst (tCons (tFld K (tVar 2) "points") (tCons (tMeth a.CTeam "pins" (sp_Team_pins P w K a) [] E0 (tVar 2) tNil) tNil)))))
theorem d_points {P : Program} {w : World} {K : PySem.W.Frag} {mg : Str → Option Value} {base : Heap} {a : Ad} (T : Txt K mg a) (c_need_team : CalB P w K mg base (L2.CX P w) 4 "need_team" (sp_need_team P w K a)) (c_Team_pins : MetB P w K mg base CX0 1 a.CTeam "pins" (sp_Team_pins P w K a)) {f : Addr} {cdv : Value} {A : Around} {outer : List Env} {s : Shared} {H : Hp} {E : XK}
    (hr : Room 4 (A.deeper (envOfC "points" (defScope s_points) s.heap.objs.size f cdv))) : PSs (cxOf (L2.CX P w) P w K mg base N_points "points" (defScope s_points) f cdv A outer s H E) (defBody s_points) (t_points P w K a E) :=
  (pss_cons (ps_set (i := 2) sc_points.nd rfl (by first | exact Or.inl rfl | exact Or.inr rfl) (pc c_need_team hr (by decide) passX rfl (pa_cons (pv 0) (pa_cons (pv 1) pa_nil))))
  (pss_one (ps_ret (pe_lst (pa_cons (pe_fld (pv 2) rfl) (pa_cons (pm0 c_Team_pins hr (by decide) pass0 (pv 2)) pa_nil))))))
theorem p_points (T : Txt K mg a) {vs : List V} {Q : VK} {E : XK} (h : sp_points P w K a vs H Q E) :
    t_points P w K a E { nx := fun _ H' => Q .non H', rt := Q } (start N_points vs) H := by
  obtain ⟨ρ, L, h, t, rfl, hx, ok, q⟩ := h
  refine ⟨_, rfl, _, rfl, ρ, L, h, t, rfl, hx, ?_⟩
  by_cases c : t < h.league.teams.length
  · rw [if_pos c]
    intro U hU
    have ua := hx.lg.tm t U _ hU (tm_at c)
    have h3 := ok.lg.three _ (List.mem_of_getElem? (tm_at c))
    simp only [actAns, readAns, c, if_true] at q
    exact ⟨_, rfl, _, _, _, _, _, rfl, ua.self, T.c_Team, T.a_Team_points, rfl, _, rfl, U.self, _, _, rfl, ua.self, rfl, U, h.league.tm t, rfl, ua, by omega, fun H1 s1 => ⟨le2, fun pp hpp => q.tell hx s1 hpp rfl⟩⟩
  · rw [if_neg c]
    simp only [actAns, readAns, c, if_false] at q
    exact q
theorem ok_points {P : Program} {w : World} {K : PySem.W.Frag} {mg : Str → Option Value} {base : Heap} {a : Ad} (T : Txt K mg a) : CalB P w K mg base (L2.CX P w) 5 "points" (sp_points P w K a) :=
  CalB.mkX T.f_points sc_points l_points fun f cdv A outer s H vs Q E hr h => ⟨_, d_points T (ok_need_team T) (ok_Team_pins T) hr, p_points T h⟩
end
end Bw

/-! the walk: a match -/
namespace Bw
open PySem PySem.Spec PyProof.Rows L2
section
variable {P : Program} {w : World} {K : PySem.W.Frag} {mg : Str → Option Value} {base : Heap} {a : Ad} {H H' H1 : Hp} {ρ : Addr → Option Tag} {L : HLay} {h h' : Hl} {s : Addr}
/-- a group changes where it lies -/
theorem HallAt.setG0 (x : HallAt P w a H ρ L h) {i : Nat} {G : GL} {g' : Grp} (hG : L.gs[i]? = some G) (y : GroupAt a H' G g') (k : Kept (fun b => b ∈ G.fp) H H') : HallAt P w a H' ρ L (h.setGrp i g') := by
  have hi : i < L.gs.length := (List.getElem?_eq_some_iff.mp hG).1
  have n : ∀ {b t}, ρ b = some t → t ≠ .g i → b ∉ G.fp := fun e q hb => q (by rw [x.tg i G hG _ hb] at e; exact (Option.some.inj e).symm)
  have kp : ∀ {b o} (t : Tag), ρ b = some t → t ≠ .g i → H b = some o → H' b = some o := fun t e q h => k _ _ h fun z => absurd z (n e q)
  refine ⟨?_, ?_, ?_, ?_, ?_, x.th, x.tg, x.tl, x.tc, ?_⟩
  · have o : OwnAt a H' L h := x.own.keep fun b hb o e => kp .h (x.th b hb) (fun z => nomatch z) e
    exact ⟨o.self, o.owners, o.broken, o.groups, o.line, o.nd⟩
  · show L.gs.length = (h.groups.set i g').length
    rw [List.length_set]; exact x.glen
  · intro j U u h1 h2
    have h2' : (h.groups.set i g')[j]? = some u := h2
    by_cases c : j = i
    · subst c
      rw [hG] at h1
      cases h1
      rw [List.getElem?_set_self (by rw [← x.glen]; exact hi)] at h2'
      cases h2'
      exact y
    · rw [List.getElem?_set_ne (Ne.symm c)] at h2'
      exact (x.grp j U u h1 h2').keep fun b hb o e => kp (.g j) (x.tg j U h1 b hb) (fun z => c (Tag.g.inj z)) e
  · exact x.lg.keep fun b hb o e => kp .l (x.tl b hb) (fun z => nomatch z) e
  · refine x.cnt.keep fun b o e hb => ?_
    rcases hb with z | z | ⟨e2, he2, z⟩ | z
    · exact kp .c (by rw [z]; exact x.tc.1) (fun z => nomatch z) e
    · exact kp .c (by rw [z]; exact x.tc.2.1) (fun z => nomatch z) e
    · exact kp .c (by rw [z]; exact x.tc.2.2 e2 he2) (fun z => nomatch z) e
    · exact k b o e fun _ => z
  · intro b hb e
    by_cases c : b ∈ G.fp
    · obtain ⟨o, e2, _⟩ := y.what c
      rw [e] at e2; cases e2
    · cases e3 : H b with
      | none => exact x.tr b hb e3
      | some o => rw [k b o e3 fun z => absurd z c] at e; cases e
theorem HallAt.isS (x : HallAt P w a H ρ L h) {b : Addr} (t : ρ b ≠ none) : (H b).isSome = true := by
  cases e : H b with
  | none => exact absurd e (x.tr b t)
  | some o => rfl
theorem matchRows_three {g : Grp} (hm : g.hasMatch = true) : ∀ r ∈ g.matchRows, r.length = 3 := by
  intro r hr
  unfold Grp.matchRows at hr
  obtain ⟨p, _, rfl⟩ := List.mem_map.mp hr
  unfold Grp.hasMatch at hm
  have := of_decide_eq_true hm
  rw [List.length_map, List.length_take, List.length_drop]
  omega
theorem LgOk.put {q : Lg} (x : LgOk q) (r9 : ∀ t ∈ q.teams, ∀ r ∈ t.scores, r.length ≤ 900) {t : Nat} {rows : List (List Nat)} {pts : Nat} (hr : ∀ r ∈ rows, r.length ≤ 3) : LgOk (q.put t rows pts) := by
  have hrow : ∀ p, (rows.getD p []).length ≤ 3 := fun p => by
    rw [List.getD_eq_getElem?_getD]
    cases e : rows[p]? with
    | none => exact Nat.zero_le _
    | some r => exact hr r (List.mem_of_getElem? e)
  have new3 : ((q.tm t).put rows pts).scores.length = 3 := by show ((List.range 3).map _).length = 3; rw [List.length_map, List.length_range]
  have newr : ∀ r ∈ ((q.tm t).put rows pts).scores, r.length ≤ 1000 := fun r h => by
    obtain ⟨p, _, rfl⟩ := List.mem_map.mp h
    rw [List.length_append]
    have h1 := hrow p
    have h2 : ((q.tm t).row p).length ≤ 900 := by
      unfold Tm.row
      rw [List.getD_eq_getElem?_getD]
      cases e : (q.tm t).scores[p]? with
      | none => exact Nat.zero_le _
      | some r =>
        have hm : r ∈ (q.tm t).scores := List.mem_of_getElem? e
        by_cases c : t < q.teams.length
        · exact r9 _ (List.mem_of_getElem? (tm_at c)) r hm
        · have e3 : q.tm t = Tm.new := by
            unfold Lg.tm
            rw [List.getD_eq_getElem?_getD, List.getElem?_eq_none (by omega)]; rfl
          rw [e3] at hm
          rw [List.eq_of_mem_replicate hm]
          exact Nat.zero_le _
    omega
  refine ⟨?_, x.base, x.percent, fun u hu => ?_, fun u hu => ?_⟩
  · show (q.teams.set t _).length ≤ 60
    rw [List.length_set]; exact x.teams
  · rcases List.mem_or_eq_of_mem_set hu with h | h
    · exact x.three u h
    · rw [h]; exact new3
  · rcases List.mem_or_eq_of_mem_set hu with h | h
    · exact x.rows u h
    · rw [h]; exact newr
def sp_match (P : Program) (w : World) (K : PySem.W.Frag) (a : Ad) : Sp := fun vs H Q E => ∃ (ρ : Addr → Option Tag) (L : HLay) (h : Hl) (x y : Nat), vs = [.ref L.self, nV x, nV y] ∧ HallAt P w a H ρ L h ∧ HOk h ∧ Does P w a H ρ L.self (actAns h 19 [x, y]) Q E
theorem l_match : ∀ vs H Q E, sp_match P w K a vs H Q E → vs.length = 3 := by
  rintro vs H Q E ⟨_, _, _, _, _, rfl, _⟩; rfl
abbrev s_match : Stmt := top 67
abbrev N_match : List Str := ["hall", "one", "other", "groups", "group", "scores"]
theorem sc_match : FnScope N_match ["hall", "one", "other"] (defScope s_match) := ⟨rfl, rfl, rfl, by decide +kernel, rfl, by decide +kernel, by decide +kernel⟩
def t_match (P : Program) (w : World) (K : PySem.W.Frag) (a : Ad) (E : XK) : TS :=
  (tSeq (tAsg (tLst (tCons (tCall (sp_need_here P w K a) [] E (tCons (tVar 0) (tCons (tVar 1) tNil))) (tCons (tCall (sp_need_here P w K a) [] E (tCons (tVar 0) (tCons (tVar 2) tNil))) tNil))) (gName 3))
  (tSeq (tFor (iList K (tVar 3)) (gName 4) (tDrop (tCall (sp_ask P w K a) [] E (tCons (tNotN (tFld K (tVar 4) "team")) (tCons (tC (.int (-34))) tNil)))))
  (tSeq (tDrop (tCall (sp_ask P w K a) [] E (tCons (tOp rNe (tVar 1) (tVar 2)) (tCons (tC (.int (-22))) tNil))))
  (tSeq (tFor (iList K (tVar 3)) (gName 4) (tDrop (tCall (sp_ask P w K a) [] E (tCons (tMeth a.CGroup "has_match" (sp_Group_has_match P w K a) [] E0 (tVar 4) tNil) (tCons (tC (.int (-61))) tNil)))))
  (tSeq (tDrop (tCall (sp_ask P w K a) [] E (tCons (tOp rLtI (tFld K (tFld K (tVar 0) "league") "matches") (tC (.int (200)))) (tCons (tC (.int (-28))) tNil))))
  (tSeq (tAsg (tLc (iList K (tVar 3)) (gName 4) tYes (tMeth a.CGroup "take_match" (sp_Group_take_match P w K a) [] E0 (tVar 4) tNil) [4]) (gName 5))
  (tRet (tMeth a.CLeague "play" (sp_League_play P w K a) [] E0 (tFld K (tVar 0) "league") (tCons (tFld K (tOp (rIxL K) (tVar 3) (tC (.int 0))) "team") (tCons (tFld K (tOp (rIxL K) (tVar 3) (tC (.int 1))) "team") (tCons (tOp (rIxL K) (tVar 5) (tC (.int 0))) (tCons (tOp (rIxL K) (tVar 5) (tC (.int 1))) tNil))))))))))))
theorem d_match {P : Program} {w : World} {K : PySem.W.Frag} {mg : Str → Option Value} {base : Heap} {a : Ad} (T : Txt K mg a) (c_need_here : CalB P w K mg base (L2.CX P w) 5 "need_here" (sp_need_here P w K a)) (c_ask : CalB P w K mg base (L2.CX P w) 3 "ask" (sp_ask P w K a)) (c_Group_has_match : MetB P w K mg base CX0 1 a.CGroup "has_match" (sp_Group_has_match P w K a)) (c_Group_take_match : MetB P w K mg base CX0 1 a.CGroup "take_match" (sp_Group_take_match P w K a)) (c_League_play : MetB P w K mg base CX0 4 a.CLeague "play" (sp_League_play P w K a)) {f : Addr} {cdv : Value} {A : Around} {outer : List Env} {s : Shared} {H : Hp} {E : XK}
    (hr : Room 5 (A.deeper (envOfC "match" (defScope s_match) s.heap.objs.size f cdv))) : PSs (cxOf (L2.CX P w) P w K mg base N_match "match" (defScope s_match) f cdv A outer s H E) (defBody s_match) (t_match P w K a E) :=
  (pss_cons (ps_set (i := 3) sc_match.nd rfl (by first | exact Or.inl rfl | exact Or.inr rfl) (pe_lst (pa_cons (pc c_need_here hr (by decide) passX rfl (pa_cons (pv 0) (pa_cons (pv 1) pa_nil))) (pa_cons (pc c_need_here hr (by decide) passX rfl (pa_cons (pv 0) (pa_cons (pv 2) pa_nil))) pa_nil))))
  (pss_cons (ps_for (passes_of rfl) rfl (pi_list (pv 3)) (pg_name (i := 4) sc_match.nd rfl (by first | exact Or.inl rfl | exact Or.inr rfl)) (pss_one (ps_expr (pc c_ask hr (by decide) passX rfl (pa_cons (pe_cmp (pc_notN (pe_fld (pv 4) rfl)) rfl) (pa_cons (pgi T.g_OTHER_SIZE rfl) pa_nil))))))
  (pss_cons (ps_expr (pc c_ask hr (by decide) passX rfl (pa_cons (pe_cmpR op_ne (pv 1) (pv 2) (nomark _)) (pa_cons (pgi T.g_WRONG rfl) pa_nil))))
  (pss_cons (ps_for (passes_of rfl) rfl (pi_list (pv 3)) (pg_name (i := 4) sc_match.nd rfl (by first | exact Or.inl rfl | exact Or.inr rfl)) (pss_one (ps_expr (pc c_ask hr (by decide) passX rfl (pa_cons (pm0 c_Group_has_match hr (by decide) pass0 (pv 4)) (pa_cons (pgi T.g_NOT_THERE rfl) pa_nil))))))
  (pss_cons (ps_expr (pc c_ask hr (by decide) passX rfl (pa_cons (pe_cmpR op_lt (pe_fld (pe_fld (pv 0) rfl) rfl) (pgi T.g_MOST_MATCHES rfl) (nomark _)) (pa_cons (pgi T.g_FULL rfl) pa_nil))))
  (pss_cons (ps_setLc (i := 5) (own := [("group", 4)]) (g := (gName 4)) (tt := tYes) (te := (tMeth a.CGroup "take_match" (sp_Group_take_match P w K a) [] E0 (tVar 4) tNil)) rfl sc_match.nd rfl rfl (sw_true rfl rfl rfl (by decide +kernel)) (pi_list (pv 3)) (blkOk_by (N := N_match) (sc := (defScope s_match)) (by decide +kernel)) (fun _ _ _ _ _ => (pg_name (i := 4) sc_match.nd rfl (by first | exact Or.inl rfl | exact Or.inr rfl))) (fun _ _ _ _ _ => pts_nil) (fun _ _ _ _ _ => (pm0 c_Group_take_match hr (by decide) pass0 (pv 4))))
  (pss_one (ps_ret (pm c_League_play hr (by decide) pass0 (pe_fld (pv 0) rfl) (pa_cons (pe_fld (pe_ix ix_list (pv 3) pe_int (fun _ _ => rfl)) rfl) (pa_cons (pe_fld (pe_ix ix_list (pv 3) pe_int (fun _ _ => rfl)) rfl) (pa_cons (pe_ix ix_list (pv 5) pe_int (fun _ _ => rfl)) (pa_cons (pe_ix ix_list (pv 5) pe_int (fun _ _ => rfl)) pa_nil)))))))))))))
/-- a loop over two groups that asks -/
theorem two_asks {x1 x2 : V} {lst : Addr} {S : Option V → L2.St} {D : Ends} {tb : TS} {z0 : Option V} {r : Int} {b1 b2 : Bool} {E : XK} (hl : H lst = some (.lst [x1, x2])) (hS : ∀ z v, (S z).set 4 v = S v)
    (h1 : ∀ D' : Ends, (b1 = true → D'.nx (S (some x1)) H) → (b1 = false → Ref a H E r) → tb D' (S (some x1)) H)
    (h2 : ∀ D' : Ends, (b2 = true → D'.nx (S (some x2)) H) → (b2 = false → Ref a H E r) → tb D' (S (some x2)) H)
    (hr : (b1 && b2) = false → Ref a H E r) (hd : b1 = true → b2 = true → ∀ z, D.nx (S z) H) (hv : (S z0)[3]? = some (some (.ref lst))) : (tFor (iList K (tVar 3)) (gName 4) tb) D (S z0) H := by
  refine ⟨_, hv, lst, rfl, ⟨_, lp hl⟩, ?_⟩
  refine for_list (xs := [x1, x2]) (fun i σ Hi => Hi = H ∧ (∃ z, σ = S z) ∧ (1 ≤ i → b1 = true) ∧ (2 ≤ i → b2 = true)) ⟨rfl, ⟨_, rfl⟩, fun z => absurd z (by omega), fun z => absurd z (by omega)⟩ (fun i σ Hi _ g => by rw [g.1]; exact lp hl) (fun i v σ Hi hv gi => ?_) fun σ Hi gi => ?_
  · obtain ⟨rfl, ⟨z, rfl⟩, c1, c2⟩ := gi
    show tb _ ((S z).set 4 (some v)) _
    rw [hS]
    match i, hv with
    | 0, hv =>
      cases hv
      exact h1 _ (fun t => ⟨rfl, ⟨_, rfl⟩, fun _ => t, fun z => absurd z (by omega)⟩) fun f => hr (by rw [f]; rfl)
    | 1, hv =>
      cases hv
      exact h2 _ (fun t => ⟨rfl, ⟨_, rfl⟩, fun _ => c1 (by omega), fun _ => t⟩) fun f => hr (by rw [f, Bool.and_false])
  · obtain ⟨rfl, ⟨z, rfl⟩, c1, c2⟩ := gi
    exact hd (c1 (show 1 ≤ 2 by decide)) (c2 (show 2 ≤ 2 by decide)) z
/-- how the heap stands between the two groups of a match -/
def PM (P : Program) (w : World) (a : Ad) (ρ : Addr → Option Tag) (L : HLay) (h : Hl) (x y : Nat) (H0 : Hp) (Dn : Addr) (i : Nat) (Hi : Hp) : Prop := Kept (fun b => ρ b ≠ none) H0 Hi ∧ (match i with
  | 0 => HallAt P w a Hi ρ L h ∧ Hi Dn = some (.lst [])
  | 1 => ∃ s1 as1, HallAt P w a Hi ρ L (h.setGrp x (h.grp x).take3) ∧ Hi Dn = some (.lst [.ref s1]) ∧ MatchAt Hi s1 as1 (h.grp x).matchRows ∧ ∀ c ∈ s1 :: as1, H0 c = none ∧ c ≠ Dn
  | _ => ∃ s1 as1 s2 as2, HallAt P w a Hi ρ L ((h.setGrp x (h.grp x).take3).setGrp y (h.grp y).take3) ∧ Hi Dn = some (.lst [.ref s1, .ref s2]) ∧ MatchAt Hi s1 as1 (h.grp x).matchRows ∧ (∀ c ∈ s1 :: as1, H0 c = none) ∧ MatchAt Hi s2 as2 (h.grp y).matchRows ∧ ∀ c ∈ s2 :: as2, H0 c = none)
theorem p_match (T : Txt K mg a) {vs : List V} {Q : VK} {E : XK} (hh : sp_match P w K a vs H Q E) :
    t_match P w K a E { nx := fun _ H' => Q .non H', rt := Q } (start N_match vs) H := by
  obtain ⟨ρ, L, h, x, y, rfl, hx, ok, q⟩ := hh
  refine ⟨_, rfl, _, rfl, ρ, L, h, x, rfl, hx, ite_b (fun cx => ?_) (fun cx => ?_)⟩
  rotate_left
  · simp only [actAns, cx, if_false, Bool.false_eq_true] at q
    exact q
  intro G1 hG1
  refine ⟨_, rfl, _, rfl, ρ, L, h, y, rfl, hx, ite_b (fun cy => ?_) (fun cy => ?_)⟩
  rotate_left
  · simp only [actAns, cx, cy, if_true, if_false, Bool.false_eq_true] at q
    exact q
  intro G2 hG2
  obtain ⟨hgx, _⟩ := here_lt cx
  obtain ⟨hgy, _⟩ := here_lt cy
  refine ⟨le2, fun pg hpg => ?_⟩
  have s0 := same_upd (o := .lst [V.ref G1.self, V.ref G2.self]) hpg
  have hx0 := hx.up s0
  have hpg0 : upd H pg (.lst [V.ref G1.self, V.ref G2.self]) pg = some (.lst [V.ref G1.self, V.ref G2.self]) := upd_same
  have rpg := hx.none_tag hpg
  generalize upd H pg (.lst [V.ref G1.self, V.ref G2.self]) = H0 at s0 hx0 hpg0
  have ga1 := hx0.gof hgx hG1
  have ga2 := hx0.gof hgy hG2
  -- both are teams
  refine two_asks (a := a) (H := H0) (S := fun z => [some (.ref L.self), some (nV x), some (nV y), some (.ref pg), z, none]) (z0 := none) (r := -34) (b1 := (h.grp x).team.isSome) (b2 := (h.grp y).team.isSome) (E := E) hpg0 (fun _ _ => rfl) (fun D' k1 k2 => ?_) (fun D' k1 k2 => ?_) (fun f => ?_) (fun t1 t2 z => ?_) rfl
  · refine ⟨_, rfl, _, _, _, _, _, rfl, ga1.self, T.c_Group, T.a_Group_team, rfl, _, _, rfl, fun c => k1 ?_, fun c => k2 ?_⟩
    · rw [optV_non] at c; rw [← Option.not_isNone]; exact c
    · rw [optV_non] at c; rw [← Option.not_isNone]; exact c
  · refine ⟨_, rfl, _, _, _, _, _, rfl, ga2.self, T.c_Group, T.a_Group_team, rfl, _, _, rfl, fun c => k1 ?_, fun c => k2 ?_⟩
    · rw [optV_non] at c; rw [← Option.not_isNone]; exact c
    · rw [optV_non] at c; rw [← Option.not_isNone]; exact c
  · cases e1 : (h.grp x).team with
    | none =>
      simp only [actAns, cx, cy, e1, if_true] at q
      have q' : Ref a H E (-34) := q
      exact q'.mono s0
    | some t =>
      cases e2 : (h.grp y).team with
      | none =>
        simp only [actAns, cx, cy, e1, e2, if_true] at q
        have q' : Ref a H E (-34) := q
        exact q'.mono s0
      | some u => rw [e1, e2] at f; cases f
  obtain ⟨t, et⟩ := Option.isSome_iff_exists.mp t1
  obtain ⟨u, eu⟩ := Option.isSome_iff_exists.mp t2
  -- one is not the other
  refine ⟨_, rfl, _, rfl, rfl, _, _, rfl, fun c3 => ?_, fun c3 => ?_⟩
  rotate_left
  · have c3' : x = y := nV_inj.mp (by simpa using c3)
    have q' : Ref a H E (-22) := by
      subst c3'
      simp only [actAns, cx, et, if_true, eq_self] at q
      exact q
    exact q'.mono s0
  have c3' : ¬ x = y := fun z => by
    rw [decide_eq_true (nV_inj.mpr z)] at c3; exact noB c3
  -- both have three games
  refine two_asks (a := a) (H := H0) (S := fun z => [some (.ref L.self), some (nV x), some (nV y), some (.ref pg), z, none]) (z0 := z) (r := -61) (b1 := (h.grp x).hasMatch) (b2 := (h.grp y).hasMatch) (E := E) hpg0 (fun _ _ => rfl) (fun D' k1 k2 => ?_) (fun D' k1 k2 => ?_) (fun f => ?_) (fun m1 m2 z => ?_) rfl
  · exact ⟨_, rfl, G1.self, _, _, rfl, ga1.self, rfl, G1, _, rfl, ga1, _, _, rfl, fun c => k1 c, fun c => k2 c⟩
  · exact ⟨_, rfl, G2.self, _, _, rfl, ga2.self, rfl, G2, _, rfl, ga2, _, _, rfl, fun c => k1 c, fun c => k2 c⟩
  · simp only [actAns, cx, cy, et, eu, c3', f, if_true, if_false, Bool.false_eq_true] at q
    have q' : Ref a H E (-61) := q
    exact q'.mono s0
  -- matches left
  have ho0 := hx0.own
  have hl0 := hx0.lg
  refine ⟨_, rfl, _, _, _, _, _, rfl, ho0.self, T.c_Hall, T.a_Hall_league, rfl, _, _, _, _, _, rfl, hl0.self, T.c_League, T.a_League_matches, rfl, _, _, rfl, rfl, _, _, rfl, fun c4 => ?_, fun c4 => ?_⟩
  rotate_left
  · have c4' : ¬ h.league.played < 200 := by have := of_decide_eq_false c4; omega
    simp only [actAns, cx, cy, et, eu, c3', m1, m2, c4', Bool.and_self, if_true, if_false] at q
    have q' : Ref a H E (-28) := q
    exact q'.mono s0
  have c4' : h.league.played < 200 := by have := of_decide_eq_true c4; omega
  simp only [actAns, cx, cy, et, eu, c3', m1, m2, c4', Bool.and_self, if_true, if_false] at q
  -- the scores
  have m3 : ∀ g, g < h.groups.length → (h.grp g).team.isSome = true → (h.grp g).size = 3 := fun g hg ht => by
    obtain ⟨v, hv⟩ := Option.isSome_iff_exists.mp ht
    exact (ok.team _ (List.mem_of_getElem? (grp_at hg)) v hv).2
  refine ⟨_, rfl, pg, rfl, ⟨_, lp hpg0⟩, ?_⟩
  intro Dn hD
  have rD : ρ Dn = none := hx0.none_tag hD
  have turn : ∀ (g : Nat) (G : GL) (cur : Hl) (Ha : Hp) (acc : List V) (Nx : Hp → Prop) (σ : L2.St), σ[4]? = some (some (.ref G.self)) → g < h.groups.length → cur.groups.length = h.groups.length → L.gs[g]? = some G → cur.grp g = h.grp g → (h.grp g).size = 3 → (h.grp g).hasMatch = true →
      HallAt P w a Ha ρ L cur → Ha Dn = some (.lst acc) → acc.length ≤ 2 →
      (∀ Hb s as, HallAt P w a Hb ρ L (cur.setGrp g (h.grp g).take3) → Kept (fun b => b ∈ G.fp ∨ b = Dn) Ha Hb → Hb Dn = some (.lst (acc ++ [.ref s])) → MatchAt Hb s as (h.grp g).matchRows → (∀ c ∈ s :: as, Ha c = none) → Nx Hb) →
      (tMeth a.CGroup "take_match" (sp_Group_take_match P w K a) [] E0 (tVar 4) tNil) σ Ha fun y H4 => ∃ acc, H4 Dn = some (.lst acc) ∧ acc.length < sizeLine ∧ Nx (upd H4 Dn (.lst (acc ++ [y]))) := by
    intro g G cur Ha acc Nx σ e4 hg hlen hG eg s3 hm hxa hDa hacc k
    have gok := ok.at hg
    have ga : GroupAt a Ha G (h.grp g) := by
      have := hxa.gof (g := g) (G := G) (by rw [hlen]; exact hg) hG
      rw [eg] at this; exact this
    have nDG : Dn ∉ G.fp := fun hb => by rw [hxa.tg g G hG _ hb] at rD; cases rD
    refine ⟨_, e4, G.self, _, _, rfl, ga.self, rfl, G, h.grp g, rfl, ga, by omega, by have := gok.fin; omega, fun r hr => by rw [gok.finLen r hr]; exact Nat.le_refl _, fun H4 s as ga4 k4 hs hrows nd fr => ?_⟩
    have hD4 := k4 _ _ hDa fun z => absurd z nDG
    refine ⟨acc, hD4, small_line (by omega), ?_⟩
    have nD : ∀ c ∈ s :: as, c ≠ Dn := fun c hc z => by
      have := fr c hc
      rw [z, hDa] at this; cases this
    have hx4 := hxa.setG0 hG ga4 k4
    have hx5 : HallAt P w a (upd H4 Dn (.lst (acc ++ [.ref s]))) ρ L (cur.setGrp g (h.grp g).take3) := hx4.keep (fun b o e z => by
      have nb : b ≠ Dn := fun w => by
        rcases z with z | z
        · exact z (w ▸ rD)
        · rw [w, hD4] at e; cases e; cases z
      rw [upd_ne nb]; exact e) fun b hb e => by
        have nb : b ≠ Dn := fun w => hb (w ▸ rD)
        rw [upd_ne nb] at e
        exact hx4.tr b hb e
    refine k _ s as hx5 ?_ upd_same ⟨?_, ?_, ?_, ?_⟩ fr
    · exact (k4.mono fun b hb => .inl hb).put (.inr rfl) hD4 rfl
    · rw [upd_ne (nD s List.mem_cons_self)]; exact hs
    · exact hrows.same fun b hb o e => by rw [upd_ne (nD b (List.mem_cons_of_mem _ hb))]; exact e
    · rw [matchRows_len]; omega
    · intro r hr
      rw [matchRows_three hm r hr]; exact Nat.le_refl _
  have hsx := m3 x hgx t1
  have hsy := m3 y hgy t2
  have eny : (h.setGrp x (h.grp x).take3).grp y = h.grp y := by
    unfold Hl.grp Hl.setGrp
    show (h.groups.set x _).getD y _ = _
    rw [List.getD_eq_getElem?_getD, List.getElem?_set_ne c3', ← List.getD_eq_getElem?_getD]
  have tagF : ∀ {c : Addr}, H0 c = none → ∀ (g : Nat) (G : GL), L.gs[g]? = some G → c ∉ G.fp := fun e g G hG hc => by
    have := hx0.none_tag e
    rw [hx0.tg g G hG _ hc] at this; cases this
  refine lc_list (xs := [.ref G1.self, .ref G2.self]) (PM P w a ρ L h x y H0 Dn) ⟨Kept.of (same_upd hD), hx0.up (same_upd hD), upd_same⟩ (fun i Hi _ g => lp (g.1 _ _ hpg0 fun z => absurd rpg z)) (fun i v Hi hv gi => ?_) fun Hi gi => ?_
  · match i, hv, gi with
    | 0, hv, gi =>
      cases hv
      obtain ⟨ki, hxi, hDi⟩ := gi
      refine ⟨rfl, yes_if ?_⟩
      refine turn x G1 h Hi [] (PM P w a ρ L h x y H0 Dn 1) _ ?_ hgx rfl hG1 rfl hsx m1 hxi hDi (by decide) fun Hb s1 as1 hxb kb hDb hmb frb => ⟨fun b o e tb => kb b o (ki b o e tb) fun z => tb ?_, s1, as1, hxb, hDb, hmb, fun c hc => ⟨ki.free (fun b hb => hxi.isS hb) (frb c hc), fun z => ?_⟩⟩
      · exact rfl
      · rcases z with z | z
        · exact fun w => by rw [hx0.tg x G1 hG1 _ z] at w; cases w
        · exact absurd hD (by rw [← z, e]; simp)
      · have := frb c hc
        rw [z, hDi] at this; cases this
    | 1, hv, gi =>
      cases hv
      obtain ⟨ki, s1, as1, hxi, hDi, hm1, hf1⟩ := gi
      refine ⟨rfl, yes_if ?_⟩
      refine turn y G2 (h.setGrp x (h.grp x).take3) Hi [.ref s1] (PM P w a ρ L h x y H0 Dn 2) _ ?_ hgy (by unfold Hl.setGrp; exact List.length_set) hG2 eny hsy m2 hxi hDi (show 1 ≤ 2 by decide) fun Hb s2 as2 hxb kb hDb hmb frb => ⟨fun b o e tb => kb b o (ki b o e tb) fun z => tb ?_, s1, as1, s2, as2, hxb, hDb, hm1.keep (fun b hb o e => kb b o e fun z => ?_), fun c hc => (hf1 c hc).1, hmb, fun c hc => ki.free (fun b hb => hxi.isS hb) (frb c hc)⟩
      · exact rfl
      · rcases z with z | z
        · exact fun w => by rw [hx0.tg y G2 hG2 _ z] at w; cases w
        · exact absurd hD (by rw [← z, e]; simp)
      · have hb' : b ∈ s1 :: as1 := by
          rcases hb with z | z
          · rw [z]; exact List.mem_cons_self
          · exact List.mem_cons_of_mem _ z
        rcases z with z | z
        · exact absurd z (tagF (hf1 b hb').1 y G2 hG2)
        · exact absurd z (hf1 b hb').2
  · obtain ⟨ki, s1, as1, s2, as2, hxi, hDi, hm1, hf1, hm2, hf2⟩ := (show PM P w a ρ L h x y H0 Dn 2 Hi from gi)
    -- the league plays
    have hpgi := ki _ _ hpg0 fun z => absurd rpg z
    have hx2 : (((h.setGrp x (h.grp x).take3).setGrp y (h.grp y).take3).grp x) = (h.grp x).take3 := by
      unfold Hl.grp Hl.setGrp
      show ((h.groups.set x _).set y _).getD x _ = _
      rw [List.getD_eq_getElem?_getD, List.getElem?_set_ne (Ne.symm c3'), List.getElem?_set_self hgx]; rfl
    have hy2 : (((h.setGrp x (h.grp x).take3).setGrp y (h.grp y).take3).grp y) = (h.grp y).take3 := by
      unfold Hl.grp Hl.setGrp
      show ((h.groups.set x _).set y _).getD y _ = _
      rw [List.getD_eq_getElem?_getD, List.getElem?_set_self (by rw [List.length_set]; exact hgy)]; rfl
    have hlen2 : ((h.setGrp x (h.grp x).take3).setGrp y (h.grp y).take3).groups.length = h.groups.length := by
      unfold Hl.setGrp
      show ((h.groups.set x _).set y _).length = _
      rw [List.length_set, List.length_set]
    have gi1 := hxi.gof (g := x) (by rw [hlen2]; exact hgx) hG1
    have gi2 := hxi.gof (g := y) (by rw [hlen2]; exact hgy) hG2
    rw [hx2] at gi1
    rw [hy2] at gi2
    have l1 : (gF G1 (h.grp x).take3).lookup ("team" : Str) = some (nV t) := by
      show some (optV (h.grp x).team) = _
      rw [et]; rfl
    have l2 : (gF G2 (h.grp y).take3).lookup ("team" : Str) = some (nV u) := by
      show some (optV (h.grp y).team) = _
      rw [eu]; rfl
    have htl := (ok.team _ (List.mem_of_getElem? (grp_at hgx)) t et).1
    have hul := (ok.team _ (List.mem_of_getElem? (grp_at hgy)) u eu).1
    have x3 : (h.grp x).matchRows.length = 3 := by rw [matchRows_len]; exact hsx
    have y3 : (h.grp y).matchRows.length = 3 := by rw [matchRows_len]; exact hsy
    refine ⟨_, rfl, _, _, _, _, _, rfl, hxi.own.self, T.c_Hall, T.a_Hall_league, rfl, L.lg.self, _, _, rfl, hxi.lg.self, rfl, _, rfl, pg, _, 0, _, rfl, rfl, lp hpgi, atI_nat (j := 0) rfl, _, _, _, _, _, rfl, gi1.self, T.c_Group, T.a_Group_team, l1, _, rfl, pg, _, 1, _, rfl, rfl, lp hpgi, atI_nat (j := 1) rfl, _, _, _, _, _, rfl, gi2.self, T.c_Group, T.a_Group_team, l2,
      _, rfl, Dn, _, 0, _, rfl, rfl, lp hDi, atI_nat (j := 0) rfl, _, rfl, Dn, _, 1, _, rfl, rfl, lp hDi, atI_nat (j := 1) rfl, ?_⟩
    refine ⟨L.lg, h.league, t, u, s1, s2, as1, as2, _, _, rfl, hxi.lg, ok.lg, htl, hul, ok.lg.put ok.rows fun r hr => by rw [matchRows_three m1 r hr]; exact Nat.le_refl _, hm1, x3, fun r hr => by rw [matchRows_three m1 r hr]; decide, fun b hb => ?_, hm2, y3, fun r hr => by rw [matchRows_three m2 r hr]; decide, fun b hb => ?_, fun H9 p hl9 k9 hp0 hp => ?_⟩
    · have hb' : b ∈ s1 :: as1 := by
        rcases hb with z | z
        · rw [z]; exact List.mem_cons_self
        · exact List.mem_cons_of_mem _ z
      intro hc
      have := hx0.none_tag (hf1 b hb')
      rw [hx0.tl b hc] at this; cases this
    · have hb' : b ∈ s2 :: as2 := by
        rcases hb with z | z
        · rw [z]; exact List.mem_cons_self
        · exact List.mem_cons_of_mem _ z
      intro hc
      have := hx0.none_tag (hf2 b hb')
      rw [hx0.tl b hc] at this; cases this
    · obtain ⟨ρ9, hx9, k99, g9⟩ := hxi.setL hl9 k9
      have kk : Kept (fun b => ρ b ≠ none) H H9 := ((Kept.of s0).trans ki).trans k99
      have st : StepL P w a H ρ L { ((h.setGrp x (h.grp x).take3).setGrp y (h.grp y).take3) with league := h.league.play t u (h.grp x).matchRows (h.grp y).matchRows } H9 := ⟨ρ9, hx9, kk, fun b hb => by
        rcases g9 b hb with z | z
        · exact .inl z
        · exact .inr (s0.free (ki.free (fun b hb => hxi.isS hb) z))⟩
      refine q H9 p st.step (fun _ => s0.free (ki.free (fun b hb => hxi.isS hb) hp0)) hp
theorem ok_match {P : Program} {w : World} {K : PySem.W.Frag} {mg : Str → Option Value} {base : Heap} {a : Ad} (T : Txt K mg a) : CalB P w K mg base (L2.CX P w) 6 "match" (sp_match P w K a) :=
  CalB.mkX T.f_match sc_match l_match fun f cdv A outer s H vs Q E hr h => ⟨_, d_match T (ok_need_here T) (ok_ask T) (ok_Group_has_match T) (ok_Group_take_match T) (ok_League_play T) hr, p_match T h⟩
end
end Bw

/-! the walk: the calls by their numbers -/
namespace Bw
open PySem PySem.Spec PyProof.Rows L2
theorem len0 {l : List Nat} (h : l.length = 0) : l = [] := List.length_eq_zero_iff.mp h
theorem len1 {l : List Nat} (h : l.length = 1) : ∃ x, l = [x] := by
  match l, h with
  | [x], _ => exact ⟨x, rfl⟩
theorem len2 {l : List Nat} (h : l.length = 2) : ∃ x y, l = [x, y] := by
  match l, h with
  | [x, y], _ => exact ⟨x, y, rfl⟩
theorem len3 {l : List Nat} (h : l.length = 3) : ∃ x y z, l = [x, y, z] := by
  match l, h with
  | [x, y, z], _ => exact ⟨x, y, z, rfl⟩
section
variable {P : Program} {w : World} {K : PySem.W.Frag} {mg : Str → Option Value} {base : Heap} {a : Ad} {H H' H1 : Hp} {ρ : Addr → Option Tag} {L : HLay} {h h' : Hl} {s : Addr}
def sp_of_hall (P : Program) (w : World) (K : PySem.W.Frag) (a : Ad) : Sp := fun vs H Q E => ∃ (ρ : Addr → Option Tag) (L : HLay) (h : Hl) (c : Nat) (u : Addr) (l : List Nat), vs = [.ref L.self, nV c, .ref u] ∧ HallAt P w a H ρ L h ∧ HOk h ∧ SqL K H u (nL l) ∧ l.length = many c ∧ 1 ≤ c ∧ c < 11 ∧ Does P w a H ρ L.self (actAns h c l) Q E
theorem l_of_hall : ∀ vs H Q E, sp_of_hall P w K a vs H Q E → vs.length = 3 := by
  rintro vs H Q E ⟨_, _, _, _, _, _, rfl, _⟩; rfl
abbrev s_of_hall : Stmt := top 72
abbrev N_of_hall : List Str := ["hall", "call", "numbers"]
theorem sc_of_hall : FnScope N_of_hall ["hall", "call", "numbers"] (defScope s_of_hall) := ⟨rfl, rfl, rfl, by decide +kernel, rfl, by decide +kernel, by decide +kernel⟩
def t_of_hall (P : Program) (w : World) (K : PySem.W.Frag) (a : Ad) (E : XK) : TS :=
  (tSeq (tIfS (tTest (tOp rEq (tVar 1) (tC (.int 1)))) (tRet (tLst (tCons (tMeth a.CHall "come" (sp_Hall_come P w K a) [] E (tVar 0) (tCons (tOp (rIxL K) (tVar 2) (tC (.int 0))) (tCons (tOp (rIxL K) (tVar 2) (tC (.int 1))) tNil))) tNil))) tNext)
  (tSeq (tIfS (tTest (tOp rEq (tVar 1) (tC (.int 2)))) (tRet (tCall (sp_become_team P w K a) [] E (tCons (tVar 0) (tCons (tOp (rIxL K) (tVar 2) (tC (.int 0))) (tCons (tOp (rIxL K) (tVar 2) (tC (.int 1))) tNil))))) tNext)
  (tSeq (tIfS (tTest (tOp rEq (tVar 1) (tC (.int 3)))) (tRet (tCall (sp_go P w K a) [] E (tCons (tVar 0) (tCons (tOp (rIxL K) (tVar 2) (tC (.int 0))) tNil)))) tNext)
  (tSeq (tIfS (tTest (tOp rEq (tVar 1) (tC (.int 4)))) (tRet (tCall (sp_set_broken P w K a) [] E (tCons (tVar 0) (tCons (tOp (rIxL K) (tVar 2) (tC (.int 0))) (tCons (tOp (rIxL K) (tVar 2) (tC (.int 1))) tNil))))) tNext)
  (tSeq (tIfS (tTest (tOp rEq (tVar 1) (tC (.int 5)))) (tRet (tOp rCat (tLst (tCons (tCB (rLenB K) (tCons (tFld K (tVar 0) "line") tNil)) tNil)) (tFld K (tVar 0) "line"))) tNext)
  (tSeq (tIfS (tTest (tOp rEq (tVar 1) (tC (.int 6)))) (tRet (tCall (sp_tell_lane P w K a) [] E (tCons (tVar 0) (tCons (tOp (rIxL K) (tVar 2) (tC (.int 0))) tNil)))) tNext)
  (tSeq (tIfS (tTest (tOp rEq (tVar 1) (tC (.int 7)))) (tRet (tCall (sp_where P w K a) [] E (tCons (tVar 0) (tCons (tOp (rIxL K) (tVar 2) (tC (.int 0))) tNil)))) tNext)
  (tSeq (tIfS (tTest (tOp rEq (tVar 1) (tC (.int 8)))) (tRet (tCall (sp_roll P w K a) [] E (tCons (tVar 0) (tCons (tOp (rIxL K) (tVar 2) (tC (.int 0))) (tCons (tOp (rIxL K) (tVar 2) (tC (.int 1))) tNil))))) tNext)
  (tSeq (tIfS (tTest (tOp rEq (tVar 1) (tC (.int 9)))) (tRet (tCall (sp_undo P w K a) [] E (tCons (tVar 0) (tCons (tOp (rIxL K) (tVar 2) (tC (.int 0))) tNil)))) tNext)
  (tRet (tCall (sp_turn P w K a) [] E (tCons (tVar 0) (tCons (tOp (rIxL K) (tVar 2) (tC (.int 0))) tNil)))))))))))))
theorem d_of_hall {P : Program} {w : World} {K : PySem.W.Frag} {mg : Str → Option Value} {base : Heap} {a : Ad} (T : Txt K mg a) (c_Hall_come : MetB P w K mg base (L2.CX P w) 4 a.CHall "come" (sp_Hall_come P w K a)) (c_become_team : CalB P w K mg base (L2.CX P w) 6 "become_team" (sp_become_team P w K a)) (c_go : CalB P w K mg base (L2.CX P w) 6 "go" (sp_go P w K a)) (c_set_broken : CalB P w K mg base (L2.CX P w) 5 "set_broken" (sp_set_broken P w K a)) (c_tell_lane : CalB P w K mg base (L2.CX P w) 5 "tell_lane" (sp_tell_lane P w K a)) (c_where : CalB P w K mg base (L2.CX P w) 5 "where" (sp_where P w K a)) (c_roll : CalB P w K mg base (L2.CX P w) 6 "roll" (sp_roll P w K a)) (c_undo : CalB P w K mg base (L2.CX P w) 6 "undo" (sp_undo P w K a)) (c_turn : CalB P w K mg base (L2.CX P w) 6 "turn" (sp_turn P w K a)) {f : Addr} {cdv : Value} {A : Around} {outer : List Env} {s : Shared} {H : Hp} {E : XK}
    (hr : Room 6 (A.deeper (envOfC "of_hall" (defScope s_of_hall) s.heap.objs.size f cdv))) : PSs (cxOf (L2.CX P w) P w K mg base N_of_hall "of_hall" (defScope s_of_hall) f cdv A outer s H E) (defBody s_of_hall) (t_of_hall P w K a E) :=
  (pss_cons (ps_if (pt_cmpR op_eq (pv 1) pe_int (nomark _)) (pss_one (ps_ret (pe_lst (pa_cons (pm c_Hall_come hr (by decide) passX (pv 0) (pa_cons (pe_ix ix_list (pv 2) pe_int (fun _ _ => rfl)) (pa_cons (pe_ix ix_list (pv 2) pe_int (fun _ _ => rfl)) pa_nil))) pa_nil)))) pss_nil)
  (pss_cons (ps_if (pt_cmpR op_eq (pv 1) pe_int (nomark _)) (pss_one (ps_ret (pc c_become_team hr (by decide) passX rfl (pa_cons (pv 0) (pa_cons (pe_ix ix_list (pv 2) pe_int (fun _ _ => rfl)) (pa_cons (pe_ix ix_list (pv 2) pe_int (fun _ _ => rfl)) pa_nil)))))) pss_nil)
  (pss_cons (ps_if (pt_cmpR op_eq (pv 1) pe_int (nomark _)) (pss_one (ps_ret (pc c_go hr (by decide) passX rfl (pa_cons (pv 0) (pa_cons (pe_ix ix_list (pv 2) pe_int (fun _ _ => rfl)) pa_nil))))) pss_nil)
  (pss_cons (ps_if (pt_cmpR op_eq (pv 1) pe_int (nomark _)) (pss_one (ps_ret (pc c_set_broken hr (by decide) passX rfl (pa_cons (pv 0) (pa_cons (pe_ix ix_list (pv 2) pe_int (fun _ _ => rfl)) (pa_cons (pe_ix ix_list (pv 2) pe_int (fun _ _ => rfl)) pa_nil)))))) pss_nil)
  (pss_cons (ps_if (pt_cmpR op_eq (pv 1) pe_int (nomark _)) (pss_one (ps_ret (pe_op op_cat (pe_lst (pa_cons (pe_callB call_len (by rfl) T.n_len PySem.boot_len (pa_cons (pe_fld (pv 0) rfl) pa_nil)) pa_nil)) (pe_fld (pv 0) rfl)))) pss_nil)
  (pss_cons (ps_if (pt_cmpR op_eq (pv 1) pe_int (nomark _)) (pss_one (ps_ret (pc c_tell_lane hr (by decide) passX rfl (pa_cons (pv 0) (pa_cons (pe_ix ix_list (pv 2) pe_int (fun _ _ => rfl)) pa_nil))))) pss_nil)
  (pss_cons (ps_if (pt_cmpR op_eq (pv 1) pe_int (nomark _)) (pss_one (ps_ret (pc c_where hr (by decide) passX rfl (pa_cons (pv 0) (pa_cons (pe_ix ix_list (pv 2) pe_int (fun _ _ => rfl)) pa_nil))))) pss_nil)
  (pss_cons (ps_if (pt_cmpR op_eq (pv 1) pe_int (nomark _)) (pss_one (ps_ret (pc c_roll hr (by decide) passX rfl (pa_cons (pv 0) (pa_cons (pe_ix ix_list (pv 2) pe_int (fun _ _ => rfl)) (pa_cons (pe_ix ix_list (pv 2) pe_int (fun _ _ => rfl)) pa_nil)))))) pss_nil)
  (pss_cons (ps_if (pt_cmpR op_eq (pv 1) pe_int (nomark _)) (pss_one (ps_ret (pc c_undo hr (by decide) passX rfl (pa_cons (pv 0) (pa_cons (pe_ix ix_list (pv 2) pe_int (fun _ _ => rfl)) pa_nil))))) pss_nil)
  (pss_one (ps_ret (pc c_turn hr (by decide) passX rfl (pa_cons (pv 0) (pa_cons (pe_ix ix_list (pv 2) pe_int (fun _ _ => rfl)) pa_nil))))))))))))))
theorem p_of_hall (T : Txt K mg a) {vs : List V} {Q : VK} {E : XK} (hh : sp_of_hall P w K a vs H Q E) :
    t_of_hall P w K a E { nx := fun _ H' => Q .non H', rt := Q } (start N_of_hall vs) H := by
  obtain ⟨ρ, L, h, c, u, l, rfl, hx, ok, hu, hl, h1, h11, q⟩ := hh
  refine ⟨_, rfl, rfl, _, rfl, ite_d (fun e => ?_) (fun e1 => ?_)⟩
  · obtain rfl : c = 1 := (nvl (n := 1) rfl).mp e
    obtain ⟨x, y, rfl⟩ := len2 hl
    refine ⟨_, rfl, L.self, _, _, rfl, hx.own.self, rfl, _, rfl, u, _, 0, _, rfl, rfl, hu, atI_nat (j := 0) rfl, _, rfl, u, _, 1, _, rfl, rfl, hu, atI_nat (j := 1) rfl, ρ, L, h, x, y, rfl, hx, ok, ?_⟩
    by_cases c1 : 1 ≤ x ∧ x ≤ 6 ∧ y ≤ x
    · rw [if_pos c1]
      by_cases c2 : h.groups.length < 60
      · rw [if_pos c2]
        simp only [actAns, c1, c2, if_true, and_self] at q
        exact fun H1 st => ⟨le1, fun p hp => q _ p (st.up (same_upd hp)) (st.fresh hp) upd_same⟩
      · rw [if_neg c2]
        simp only [actAns, c1, c2, if_true, if_false, and_self] at q
        exact q
    · rw [if_neg c1]
      simp only [actAns, c1, if_false] at q
      exact q
  refine ⟨_, rfl, rfl, _, rfl, ite_d (fun e => ?_) (fun e2 => ?_)⟩
  · obtain rfl : c = 2 := (nvl (n := 2) rfl).mp e
    obtain ⟨x, y, rfl⟩ := len2 hl
    exact ⟨_, rfl, _, rfl, u, _, 0, _, rfl, rfl, hu, atI_nat (j := 0) rfl, _, rfl, u, _, 1, _, rfl, rfl, hu, atI_nat (j := 1) rfl, ρ, L, h, x, y, rfl, hx, ok, q⟩
  refine ⟨_, rfl, rfl, _, rfl, ite_d (fun e => ?_) (fun e3 => ?_)⟩
  · obtain rfl : c = 3 := (nvl (n := 3) rfl).mp e
    obtain ⟨x, rfl⟩ := len1 hl
    exact ⟨_, rfl, _, rfl, u, _, 0, _, rfl, rfl, hu, atI_nat (j := 0) rfl, ρ, L, h, x, rfl, hx, ok, q⟩
  refine ⟨_, rfl, rfl, _, rfl, ite_d (fun e => ?_) (fun e4 => ?_)⟩
  · obtain rfl : c = 4 := (nvl (n := 4) rfl).mp e
    obtain ⟨x, y, rfl⟩ := len2 hl
    exact ⟨_, rfl, _, rfl, u, _, 0, _, rfl, rfl, hu, atI_nat (j := 0) rfl, _, rfl, u, _, 1, _, rfl, rfl, hu, atI_nat (j := 1) rfl, ρ, L, h, x, y, rfl, hx, ok, q⟩
  refine ⟨_, rfl, rfl, _, rfl, ite_d (fun e => ?_) (fun e5 => ?_)⟩
  · obtain rfl : c = 5 := (nvl (n := 5) rfl).mp e
    simp only [actAns, readAns] at q
    have ho := hx.own
    refine ⟨_, rfl, _, _, _, _, _, rfl, ho.self, T.c_Hall, T.a_Hall_line, rfl, _, _, rfl, .inl ⟨_, lp ho.line, rfl⟩, le1, fun p1 hp1 => ?_⟩
    have s1 := same_upd (o := .lst [nV (nL h.line).length]) hp1
    have ho1 := ho.up s1
    refine ⟨_, rfl, _, _, _, _, _, rfl, ho1.self, T.c_Hall, T.a_Hall_line, rfl, p1, L.line, _, _, rfl, rfl, upd_same, ho1.line, ?_, fun p hp => q.tell hx s1 hp ?_⟩
    · rw [nL_length]; have := ok.lineLen; exact small_line' (by show 1 + _ ≤ _; omega)
    · rw [nL_length]
      unfold iL
      rw [List.map_cons, List.map_cons, ← nL_ints]; rfl
  refine ⟨_, rfl, rfl, _, rfl, ite_d (fun e => ?_) (fun e6 => ?_)⟩
  · obtain rfl : c = 6 := (nvl (n := 6) rfl).mp e
    obtain ⟨x, rfl⟩ := len1 hl
    exact ⟨_, rfl, _, rfl, u, _, 0, _, rfl, rfl, hu, atI_nat (j := 0) rfl, ρ, L, h, x, rfl, hx, ok, q⟩
  refine ⟨_, rfl, rfl, _, rfl, ite_d (fun e => ?_) (fun e7 => ?_)⟩
  · obtain rfl : c = 7 := (nvl (n := 7) rfl).mp e
    obtain ⟨x, rfl⟩ := len1 hl
    exact ⟨_, rfl, _, rfl, u, _, 0, _, rfl, rfl, hu, atI_nat (j := 0) rfl, ρ, L, h, x, rfl, hx, ok, q⟩
  refine ⟨_, rfl, rfl, _, rfl, ite_d (fun e => ?_) (fun e8 => ?_)⟩
  · obtain rfl : c = 8 := (nvl (n := 8) rfl).mp e
    obtain ⟨x, y, rfl⟩ := len2 hl
    exact ⟨_, rfl, _, rfl, u, _, 0, _, rfl, rfl, hu, atI_nat (j := 0) rfl, _, rfl, u, _, 1, _, rfl, rfl, hu, atI_nat (j := 1) rfl, ρ, L, h, x, y, rfl, hx, ok, q⟩
  refine ⟨_, rfl, rfl, _, rfl, ite_d (fun e => ?_) (fun e9 => ?_)⟩
  · obtain rfl : c = 9 := (nvl (n := 9) rfl).mp e
    obtain ⟨x, rfl⟩ := len1 hl
    exact ⟨_, rfl, _, rfl, u, _, 0, _, rfl, rfl, hu, atI_nat (j := 0) rfl, ρ, L, h, x, rfl, hx, ok, q⟩
  have no : ∀ {n : Nat} {i : Int}, (n : Int) = i → ¬ nV c = V.int i → c ≠ n := fun ei ne z => ne ((nvl ei).mpr z)
  have n1 := no (n := 1) rfl e1
  have n2 := no (n := 2) rfl e2
  have n3 := no (n := 3) rfl e3
  have n4 := no (n := 4) rfl e4
  have n5 := no (n := 5) rfl e5
  have n6 := no (n := 6) rfl e6
  have n7 := no (n := 7) rfl e7
  have n8 := no (n := 8) rfl e8
  have n9 := no (n := 9) rfl e9
  obtain rfl : c = 10 := by omega
  obtain ⟨x, rfl⟩ := len1 hl
  exact ⟨_, rfl, _, rfl, u, _, 0, _, rfl, rfl, hu, atI_nat (j := 0) rfl, ρ, L, h, x, rfl, hx, ok, q⟩
theorem ok_of_hall {P : Program} {w : World} {K : PySem.W.Frag} {mg : Str → Option Value} {base : Heap} {a : Ad} (T : Txt K mg a) : CalB P w K mg base (L2.CX P w) 7 "of_hall" (sp_of_hall P w K a) :=
  CalB.mkX T.f_of_hall sc_of_hall l_of_hall fun f cdv A outer s H vs Q E hr h => ⟨_, d_of_hall T (ok_Hall_come T) (ok_become_team T) (ok_go T) (ok_set_broken T) (ok_tell_lane T) (ok_where T) (ok_roll T) (ok_undo T) (ok_turn T) hr, p_of_hall T h⟩
def sp_of_games (P : Program) (w : World) (K : PySem.W.Frag) (a : Ad) : Sp := fun vs H Q E => ∃ (ρ : Addr → Option Tag) (L : HLay) (h : Hl) (c : Nat) (u : Addr) (l : List Nat), vs = [.ref L.self, nV c, .ref u] ∧ HallAt P w a H ρ L h ∧ HOk h ∧ SqL K H u (nL l) ∧ l.length = many c ∧ 11 ≤ c ∧ c < 19 ∧ Does P w a H ρ L.self (actAns h c l) Q E
theorem l_of_games : ∀ vs H Q E, sp_of_games P w K a vs H Q E → vs.length = 3 := by
  rintro vs H Q E ⟨_, _, _, _, _, _, rfl, _⟩; rfl
abbrev s_of_games : Stmt := top 73
abbrev N_of_games : List Str := ["hall", "call", "numbers"]
theorem sc_of_games : FnScope N_of_games ["hall", "call", "numbers"] (defScope s_of_games) := ⟨rfl, rfl, rfl, by decide +kernel, rfl, by decide +kernel, by decide +kernel⟩
def t_of_games (P : Program) (w : World) (K : PySem.W.Frag) (a : Ad) (E : XK) : TS :=
  (tSeq (tIfS (tTest (tOp rEq (tVar 1) (tC (.int 11)))) (tRet (tCall (sp_score P w K a) [] E (tCons (tVar 0) (tCons (tOp (rIxL K) (tVar 2) (tC (.int 0))) (tCons (tOp (rIxL K) (tVar 2) (tC (.int 1))) tNil))))) tNext)
  (tSeq (tIfS (tTest (tOp rEq (tVar 1) (tC (.int 12)))) (tRet (tCall (sp_frame P w K a) [] E (tCons (tVar 0) (tCons (tOp (rIxL K) (tVar 2) (tC (.int 0))) (tCons (tOp (rIxL K) (tVar 2) (tC (.int 1))) (tCons (tOp (rIxL K) (tVar 2) (tC (.int 2))) tNil)))))) tNext)
  (tSeq (tIfS (tTest (tOp rEq (tVar 1) (tC (.int 13)))) (tRet (tCall (sp_score_range P w K a) [] E (tCons (tVar 0) (tCons (tOp (rIxL K) (tVar 2) (tC (.int 0))) (tCons (tOp (rIxL K) (tVar 2) (tC (.int 1))) tNil))))) tNext)
  (tSeq (tIfS (tTest (tOp rEq (tVar 1) (tC (.int 14)))) (tRet (tCall (sp_ways P w K a) [] E (tCons (tVar 0) (tCons (tOp (rIxL K) (tVar 2) (tC (.int 0))) (tCons (tOp (rIxL K) (tVar 2) (tC (.int 1))) (tCons (tOp (rIxL K) (tVar 2) (tC (.int 2))) tNil)))))) tNext)
  (tSeq (tIfS (tTest (tOp rEq (tVar 1) (tC (.int 15)))) (tRet (tLst (tCons (tCB (rLenB K) (tCons (tFld K (tCall (sp_need_group P w K a) [] E (tCons (tVar 0) (tCons (tOp (rIxL K) (tVar 2) (tC (.int 0))) tNil))) "finished") tNil)) tNil))) tNext)
  (tSeq (tIfS (tTest (tOp rEq (tVar 1) (tC (.int 16)))) (tRet (tCall (sp_game P w K a) [] E (tCons (tVar 0) (tCons (tOp (rIxL K) (tVar 2) (tC (.int 0))) (tCons (tOp (rIxL K) (tVar 2) (tC (.int 1))) (tCons (tOp (rIxL K) (tVar 2) (tC (.int 2))) tNil)))))) tNext)
  (tSeq (tIfS (tTest (tOp rEq (tVar 1) (tC (.int 17)))) (tSeq (tDrop (tCall (sp_need_here P w K a) [] E (tCons (tVar 0) (tCons (tOp (rIxL K) (tVar 2) (tC (.int 0))) tNil))))
  (tRet (tLst (tCons (tMeth a.CHall "bill" (sp_Hall_bill P w K a) [] E0 (tVar 0) (tCons (tOp (rIxL K) (tVar 2) (tC (.int 0))) tNil)) tNil)))) tNext)
  (tRet (tLst (tCons (tFld K (tVar 0) "taken") tNil))))))))))
theorem d_of_games {P : Program} {w : World} {K : PySem.W.Frag} {mg : Str → Option Value} {base : Heap} {a : Ad} (T : Txt K mg a) (c_score : CalB P w K mg base (L2.CX P w) 6 "score" (sp_score P w K a)) (c_frame : CalB P w K mg base (L2.CX P w) 6 "frame" (sp_frame P w K a)) (c_score_range : CalB P w K mg base (L2.CX P w) 37 "score_range" (sp_score_range P w K a)) (c_ways : CalB P w K mg base (L2.CX P w) 37 "ways" (sp_ways P w K a)) (c_need_group : CalB P w K mg base (L2.CX P w) 4 "need_group" (sp_need_group P w K a)) (c_game : CalB P w K mg base (L2.CX P w) 6 "game" (sp_game P w K a)) (c_need_here : CalB P w K mg base (L2.CX P w) 5 "need_here" (sp_need_here P w K a)) (c_Hall_bill : MetB P w K mg base CX0 2 a.CHall "bill" (sp_Hall_bill P w K a)) {f : Addr} {cdv : Value} {A : Around} {outer : List Env} {s : Shared} {H : Hp} {E : XK}
    (hr : Room 37 (A.deeper (envOfC "of_games" (defScope s_of_games) s.heap.objs.size f cdv))) : PSs (cxOf (L2.CX P w) P w K mg base N_of_games "of_games" (defScope s_of_games) f cdv A outer s H E) (defBody s_of_games) (t_of_games P w K a E) :=
  (pss_cons (ps_if (pt_cmpR op_eq (pv 1) pe_int (nomark _)) (pss_one (ps_ret (pc c_score hr (by decide) passX rfl (pa_cons (pv 0) (pa_cons (pe_ix ix_list (pv 2) pe_int (fun _ _ => rfl)) (pa_cons (pe_ix ix_list (pv 2) pe_int (fun _ _ => rfl)) pa_nil)))))) pss_nil)
  (pss_cons (ps_if (pt_cmpR op_eq (pv 1) pe_int (nomark _)) (pss_one (ps_ret (pc c_frame hr (by decide) passX rfl (pa_cons (pv 0) (pa_cons (pe_ix ix_list (pv 2) pe_int (fun _ _ => rfl)) (pa_cons (pe_ix ix_list (pv 2) pe_int (fun _ _ => rfl)) (pa_cons (pe_ix ix_list (pv 2) pe_int (fun _ _ => rfl)) pa_nil))))))) pss_nil)
  (pss_cons (ps_if (pt_cmpR op_eq (pv 1) pe_int (nomark _)) (pss_one (ps_ret (pc c_score_range hr (by decide) passX rfl (pa_cons (pv 0) (pa_cons (pe_ix ix_list (pv 2) pe_int (fun _ _ => rfl)) (pa_cons (pe_ix ix_list (pv 2) pe_int (fun _ _ => rfl)) pa_nil)))))) pss_nil)
  (pss_cons (ps_if (pt_cmpR op_eq (pv 1) pe_int (nomark _)) (pss_one (ps_ret (pc c_ways hr (by decide) passX rfl (pa_cons (pv 0) (pa_cons (pe_ix ix_list (pv 2) pe_int (fun _ _ => rfl)) (pa_cons (pe_ix ix_list (pv 2) pe_int (fun _ _ => rfl)) (pa_cons (pe_ix ix_list (pv 2) pe_int (fun _ _ => rfl)) pa_nil))))))) pss_nil)
  (pss_cons (ps_if (pt_cmpR op_eq (pv 1) pe_int (nomark _)) (pss_one (ps_ret (pe_lst (pa_cons (pe_callB call_len (by rfl) T.n_len PySem.boot_len (pa_cons (pe_fld (pc c_need_group hr (by decide) passX rfl (pa_cons (pv 0) (pa_cons (pe_ix ix_list (pv 2) pe_int (fun _ _ => rfl)) pa_nil))) rfl) pa_nil)) pa_nil)))) pss_nil)
  (pss_cons (ps_if (pt_cmpR op_eq (pv 1) pe_int (nomark _)) (pss_one (ps_ret (pc c_game hr (by decide) passX rfl (pa_cons (pv 0) (pa_cons (pe_ix ix_list (pv 2) pe_int (fun _ _ => rfl)) (pa_cons (pe_ix ix_list (pv 2) pe_int (fun _ _ => rfl)) (pa_cons (pe_ix ix_list (pv 2) pe_int (fun _ _ => rfl)) pa_nil))))))) pss_nil)
  (pss_cons (ps_if (pt_cmpR op_eq (pv 1) pe_int (nomark _)) (pss_cons (ps_expr (pc c_need_here hr (by decide) passX rfl (pa_cons (pv 0) (pa_cons (pe_ix ix_list (pv 2) pe_int (fun _ _ => rfl)) pa_nil))))
  (pss_one (ps_ret (pe_lst (pa_cons (pm c_Hall_bill hr (by decide) pass0 (pv 0) (pa_cons (pe_ix ix_list (pv 2) pe_int (fun _ _ => rfl)) pa_nil)) pa_nil))))) pss_nil)
  (pss_one (ps_ret (pe_lst (pa_cons (pe_fld (pv 0) rfl) pa_nil)))))))))))
theorem p_of_games (T : Txt K mg a) {vs : List V} {Q : VK} {E : XK} (hh : sp_of_games P w K a vs H Q E) :
    t_of_games P w K a E { nx := fun _ H' => Q .non H', rt := Q } (start N_of_games vs) H := by
  obtain ⟨ρ, L, h, c, u, l, rfl, hx, ok, hu, hl, h1, h11, q⟩ := hh
  refine ⟨_, rfl, rfl, _, rfl, ite_d (fun e => ?_) (fun e1 => ?_)⟩
  · obtain rfl : c = 11 := (nvl (n := 11) rfl).mp e
    obtain ⟨x, y, rfl⟩ := len2 hl
    exact ⟨_, rfl, _, rfl, u, _, 0, _, rfl, rfl, hu, atI_nat (j := 0) rfl, _, rfl, u, _, 1, _, rfl, rfl, hu, atI_nat (j := 1) rfl, ρ, L, h, x, y, rfl, hx, ok, q⟩
  refine ⟨_, rfl, rfl, _, rfl, ite_d (fun e => ?_) (fun e2 => ?_)⟩
  · obtain rfl : c = 12 := (nvl (n := 12) rfl).mp e
    obtain ⟨x, y, z, rfl⟩ := len3 hl
    exact ⟨_, rfl, _, rfl, u, _, 0, _, rfl, rfl, hu, atI_nat (j := 0) rfl, _, rfl, u, _, 1, _, rfl, rfl, hu, atI_nat (j := 1) rfl, _, rfl, u, _, 2, _, rfl, rfl, hu, atI_nat (j := 2) rfl, ρ, L, h, x, y, z, rfl, hx, ok, q⟩
  refine ⟨_, rfl, rfl, _, rfl, ite_d (fun e => ?_) (fun e3 => ?_)⟩
  · obtain rfl : c = 13 := (nvl (n := 13) rfl).mp e
    obtain ⟨x, y, rfl⟩ := len2 hl
    exact ⟨_, rfl, _, rfl, u, _, 0, _, rfl, rfl, hu, atI_nat (j := 0) rfl, _, rfl, u, _, 1, _, rfl, rfl, hu, atI_nat (j := 1) rfl, ρ, L, h, x, y, rfl, hx, ok, q⟩
  refine ⟨_, rfl, rfl, _, rfl, ite_d (fun e => ?_) (fun e4 => ?_)⟩
  · obtain rfl : c = 14 := (nvl (n := 14) rfl).mp e
    obtain ⟨x, y, z, rfl⟩ := len3 hl
    exact ⟨_, rfl, _, rfl, u, _, 0, _, rfl, rfl, hu, atI_nat (j := 0) rfl, _, rfl, u, _, 1, _, rfl, rfl, hu, atI_nat (j := 1) rfl, _, rfl, u, _, 2, _, rfl, rfl, hu, atI_nat (j := 2) rfl, ρ, L, h, x, y, z, rfl, hx, ok, q⟩
  refine ⟨_, rfl, rfl, _, rfl, ite_d (fun e => ?_) (fun e5 => ?_)⟩
  · obtain rfl : c = 15 := (nvl (n := 15) rfl).mp e
    obtain ⟨x, rfl⟩ := len1 hl
    refine ⟨_, rfl, _, rfl, u, _, 0, _, rfl, rfl, hu, atI_nat (j := 0) rfl, ρ, L, h, x, rfl, hx, ?_⟩
    by_cases c1 : x < h.groups.length
    · rw [if_pos c1]
      intro G hG
      have ga := hx.gof c1 hG
      simp only [actAns, readAns, c1, if_true] at q
      refine ⟨_, _, _, _, _, rfl, ga.self, T.c_Group, T.a_Group_finished, rfl, _, _, rfl, .inl ⟨_, lp ga.fin, rfl⟩, le1, fun p hp => q.tell hx (Same.refl _) hp ?_⟩
      rw [List.length_map, ga.frows.len]; rfl
    · rw [if_neg c1]
      simp only [actAns, readAns, c1, if_false] at q
      exact q
  refine ⟨_, rfl, rfl, _, rfl, ite_d (fun e => ?_) (fun e6 => ?_)⟩
  · obtain rfl : c = 16 := (nvl (n := 16) rfl).mp e
    obtain ⟨x, y, z, rfl⟩ := len3 hl
    exact ⟨_, rfl, _, rfl, u, _, 0, _, rfl, rfl, hu, atI_nat (j := 0) rfl, _, rfl, u, _, 1, _, rfl, rfl, hu, atI_nat (j := 1) rfl, _, rfl, u, _, 2, _, rfl, rfl, hu, atI_nat (j := 2) rfl, ρ, L, h, x, y, z, rfl, hx, ok, q⟩
  refine ⟨_, rfl, rfl, _, rfl, ite_d (fun e => ?_) (fun e7 => ?_)⟩
  · obtain rfl : c = 17 := (nvl (n := 17) rfl).mp e
    obtain ⟨x, rfl⟩ := len1 hl
    refine ⟨_, rfl, _, rfl, u, _, 0, _, rfl, rfl, hu, atI_nat (j := 0) rfl, ρ, L, h, x, rfl, hx, ite_b (fun c1 => ?_) (fun c1 => ?_)⟩
    · intro G hG
      simp only [actAns, readAns, c1, if_true] at q
      exact ⟨_, rfl, L.self, _, _, rfl, hx.own.self, rfl, _, rfl, u, _, 0, _, rfl, rfl, hu, atI_nat (j := 0) rfl, ρ, L, h, x, rfl, hx, ok, (here_lt c1).1, fun H1 s1 => ⟨le1, fun p hp => q.tell hx s1 hp rfl⟩⟩
    · simp only [actAns, readAns, c1, if_false, Bool.false_eq_true] at q
      exact q
  have no : ∀ {n : Nat} {i : Int}, (n : Int) = i → ¬ nV c = V.int i → c ≠ n := fun ei ne z => ne ((nvl ei).mpr z)
  have n1 := no (n := 11) rfl e1
  have n2 := no (n := 12) rfl e2
  have n3 := no (n := 13) rfl e3
  have n4 := no (n := 14) rfl e4
  have n5 := no (n := 15) rfl e5
  have n6 := no (n := 16) rfl e6
  have n7 := no (n := 17) rfl e7
  obtain rfl : c = 18 := by omega
  simp only [actAns, readAns] at q
  have ho := hx.own
  exact ⟨_, rfl, _, _, _, _, _, rfl, ho.self, T.c_Hall, T.a_Hall_taken, rfl, le1, fun p hp => q.tell hx (Same.refl _) hp rfl⟩
theorem ok_of_games {P : Program} {w : World} {K : PySem.W.Frag} {mg : Str → Option Value} {base : Heap} {a : Ad} (T : Txt K mg a) : CalB P w K mg base (L2.CX P w) 38 "of_games" (sp_of_games P w K a) :=
  CalB.mkX T.f_of_games sc_of_games l_of_games fun f cdv A outer s H vs Q E hr h => ⟨_, d_of_games T (ok_score T) (ok_frame T) (ok_score_range T) (ok_ways T) (ok_need_group T) (ok_game T) (ok_need_here T) (ok_Hall_bill T) hr, p_of_games T h⟩
def sp_of_league (P : Program) (w : World) (K : PySem.W.Frag) (a : Ad) : Sp := fun vs H Q E => ∃ (ρ : Addr → Option Tag) (L : HLay) (h : Hl) (c : Nat) (u : Addr) (l : List Nat), vs = [.ref L.self, nV c, .ref u] ∧ HallAt P w a H ρ L h ∧ HOk h ∧ SqL K H u (nL l) ∧ l.length = many c ∧ 19 ≤ c ∧ c < 25 ∧ Does P w a H ρ L.self (actAns h c l) Q E
theorem l_of_league : ∀ vs H Q E, sp_of_league P w K a vs H Q E → vs.length = 3 := by
  rintro vs H Q E ⟨_, _, _, _, _, _, rfl, _⟩; rfl
abbrev s_of_league : Stmt := top 74
abbrev N_of_league : List Str := ["hall", "call", "numbers"]
theorem sc_of_league : FnScope N_of_league ["hall", "call", "numbers"] (defScope s_of_league) := ⟨rfl, rfl, rfl, by decide +kernel, rfl, by decide +kernel, by decide +kernel⟩
def t_of_league (P : Program) (w : World) (K : PySem.W.Frag) (a : Ad) (E : XK) : TS :=
  (tSeq (tIfS (tTest (tOp rEq (tVar 1) (tC (.int 19)))) (tRet (tCall (sp_match P w K a) [] E (tCons (tVar 0) (tCons (tOp (rIxL K) (tVar 2) (tC (.int 0))) (tCons (tOp (rIxL K) (tVar 2) (tC (.int 1))) tNil))))) tNext)
  (tSeq (tIfS (tTest (tOp rEq (tVar 1) (tC (.int 20)))) (tRet (tCall (sp_average P w K a) [] E (tCons (tVar 0) (tCons (tOp (rIxL K) (tVar 2) (tC (.int 0))) (tCons (tOp (rIxL K) (tVar 2) (tC (.int 1))) tNil))))) tNext)
  (tSeq (tIfS (tTest (tOp rEq (tVar 1) (tC (.int 21)))) (tRet (tCall (sp_allowance P w K a) [] E (tCons (tVar 0) (tCons (tOp (rIxL K) (tVar 2) (tC (.int 0))) (tCons (tOp (rIxL K) (tVar 2) (tC (.int 1))) tNil))))) tNext)
  (tSeq (tIfS (tTest (tOp rEq (tVar 1) (tC (.int 22)))) (tRet (tCall (sp_points P w K a) [] E (tCons (tVar 0) (tCons (tOp (rIxL K) (tVar 2) (tC (.int 0))) tNil)))) tNext)
  (tSeq (tIfS (tTest (tOp rEq (tVar 1) (tC (.int 23)))) (tRet (tOp rCat (tLst (tCons (tCB (rLenB K) (tCons (tFld K (tFld K (tVar 0) "league") "teams") tNil)) tNil)) (tMeth a.CLeague "order" (sp_League_order P w K a) [] E0 (tFld K (tVar 0) "league") tNil))) tNext)
  (tRet (tLst (tCons (tCB (rLenB K) (tCons (tFld K (tVar 0) "line") tNil)) (tCons (tCB (rLenB K) (tCons (tFld K (tVar 0) "groups") tNil)) (tCons (tCB (rLenB K) (tCons (tMeth a.CHall "free_lanes" (sp_Hall_free_lanes P w K a) [] E0 (tVar 0) tNil) tNil)) (tCons (tFld K (tFld K (tVar 0) "league") "matches") tNil)))))))))))
theorem d_of_league {P : Program} {w : World} {K : PySem.W.Frag} {mg : Str → Option Value} {base : Heap} {a : Ad} (T : Txt K mg a) (c_match : CalB P w K mg base (L2.CX P w) 6 "match" (sp_match P w K a)) (c_average : CalB P w K mg base (L2.CX P w) 5 "average" (sp_average P w K a)) (c_allowance : CalB P w K mg base (L2.CX P w) 5 "allowance" (sp_allowance P w K a)) (c_points : CalB P w K mg base (L2.CX P w) 5 "points" (sp_points P w K a)) (c_League_order : MetB P w K mg base CX0 2 a.CLeague "order" (sp_League_order P w K a)) (c_Hall_free_lanes : MetB P w K mg base CX0 1 a.CHall "free_lanes" (sp_Hall_free_lanes P w K a)) {f : Addr} {cdv : Value} {A : Around} {outer : List Env} {s : Shared} {H : Hp} {E : XK}
    (hr : Room 6 (A.deeper (envOfC "of_league" (defScope s_of_league) s.heap.objs.size f cdv))) : PSs (cxOf (L2.CX P w) P w K mg base N_of_league "of_league" (defScope s_of_league) f cdv A outer s H E) (defBody s_of_league) (t_of_league P w K a E) :=
  (pss_cons (ps_if (pt_cmpR op_eq (pv 1) pe_int (nomark _)) (pss_one (ps_ret (pc c_match hr (by decide) passX rfl (pa_cons (pv 0) (pa_cons (pe_ix ix_list (pv 2) pe_int (fun _ _ => rfl)) (pa_cons (pe_ix ix_list (pv 2) pe_int (fun _ _ => rfl)) pa_nil)))))) pss_nil)
  (pss_cons (ps_if (pt_cmpR op_eq (pv 1) pe_int (nomark _)) (pss_one (ps_ret (pc c_average hr (by decide) passX rfl (pa_cons (pv 0) (pa_cons (pe_ix ix_list (pv 2) pe_int (fun _ _ => rfl)) (pa_cons (pe_ix ix_list (pv 2) pe_int (fun _ _ => rfl)) pa_nil)))))) pss_nil)
  (pss_cons (ps_if (pt_cmpR op_eq (pv 1) pe_int (nomark _)) (pss_one (ps_ret (pc c_allowance hr (by decide) passX rfl (pa_cons (pv 0) (pa_cons (pe_ix ix_list (pv 2) pe_int (fun _ _ => rfl)) (pa_cons (pe_ix ix_list (pv 2) pe_int (fun _ _ => rfl)) pa_nil)))))) pss_nil)
  (pss_cons (ps_if (pt_cmpR op_eq (pv 1) pe_int (nomark _)) (pss_one (ps_ret (pc c_points hr (by decide) passX rfl (pa_cons (pv 0) (pa_cons (pe_ix ix_list (pv 2) pe_int (fun _ _ => rfl)) pa_nil))))) pss_nil)
  (pss_cons (ps_if (pt_cmpR op_eq (pv 1) pe_int (nomark _)) (pss_one (ps_ret (pe_op op_cat (pe_lst (pa_cons (pe_callB call_len (by rfl) T.n_len PySem.boot_len (pa_cons (pe_fld (pe_fld (pv 0) rfl) rfl) pa_nil)) pa_nil)) (pm0 c_League_order hr (by decide) pass0 (pe_fld (pv 0) rfl))))) pss_nil)
  (pss_one (ps_ret (pe_lst (pa_cons (pe_callB call_len (by rfl) T.n_len PySem.boot_len (pa_cons (pe_fld (pv 0) rfl) pa_nil)) (pa_cons (pe_callB call_len (by rfl) T.n_len PySem.boot_len (pa_cons (pe_fld (pv 0) rfl) pa_nil)) (pa_cons (pe_callB call_len (by rfl) T.n_len PySem.boot_len (pa_cons (pm0 c_Hall_free_lanes hr (by decide) pass0 (pv 0)) pa_nil)) (pa_cons (pe_fld (pe_fld (pv 0) rfl) rfl) pa_nil))))))))))))
theorem p_of_league (T : Txt K mg a) {vs : List V} {Q : VK} {E : XK} (hh : sp_of_league P w K a vs H Q E) :
    t_of_league P w K a E { nx := fun _ H' => Q .non H', rt := Q } (start N_of_league vs) H := by
  obtain ⟨ρ, L, h, c, u, l, rfl, hx, ok, hu, hl, h1, h11, q⟩ := hh
  have ho := hx.own
  have hg := hx.lg
  refine ⟨_, rfl, rfl, _, rfl, ite_d (fun e => ?_) (fun e1 => ?_)⟩
  · obtain rfl : c = 19 := (nvl (n := 19) rfl).mp e
    obtain ⟨x, y, rfl⟩ := len2 hl
    exact ⟨_, rfl, _, rfl, u, _, 0, _, rfl, rfl, hu, atI_nat (j := 0) rfl, _, rfl, u, _, 1, _, rfl, rfl, hu, atI_nat (j := 1) rfl, ρ, L, h, x, y, rfl, hx, ok, q⟩
  refine ⟨_, rfl, rfl, _, rfl, ite_d (fun e => ?_) (fun e2 => ?_)⟩
  · obtain rfl : c = 20 := (nvl (n := 20) rfl).mp e
    obtain ⟨x, y, rfl⟩ := len2 hl
    exact ⟨_, rfl, _, rfl, u, _, 0, _, rfl, rfl, hu, atI_nat (j := 0) rfl, _, rfl, u, _, 1, _, rfl, rfl, hu, atI_nat (j := 1) rfl, ρ, L, h, x, y, rfl, hx, ok, q⟩
  refine ⟨_, rfl, rfl, _, rfl, ite_d (fun e => ?_) (fun e3 => ?_)⟩
  · obtain rfl : c = 21 := (nvl (n := 21) rfl).mp e
    obtain ⟨x, y, rfl⟩ := len2 hl
    exact ⟨_, rfl, _, rfl, u, _, 0, _, rfl, rfl, hu, atI_nat (j := 0) rfl, _, rfl, u, _, 1, _, rfl, rfl, hu, atI_nat (j := 1) rfl, ρ, L, h, x, y, rfl, hx, ok, q⟩
  refine ⟨_, rfl, rfl, _, rfl, ite_d (fun e => ?_) (fun e4 => ?_)⟩
  · obtain rfl : c = 22 := (nvl (n := 22) rfl).mp e
    obtain ⟨x, rfl⟩ := len1 hl
    exact ⟨_, rfl, _, rfl, u, _, 0, _, rfl, rfl, hu, atI_nat (j := 0) rfl, ρ, L, h, x, rfl, hx, ok, q⟩
  have hlen : (L.lg.ts.map fun T => V.ref T.self).length = h.league.teams.length := by rw [List.length_map]; exact hg.len
  refine ⟨_, rfl, rfl, _, rfl, ite_d (fun e => ?_) (fun e5 => ?_)⟩
  · obtain rfl : c = 23 := (nvl (n := 23) rfl).mp e
    simp only [actAns, readAns] at q
    refine ⟨_, rfl, _, _, _, _, _, rfl, ho.self, T.c_Hall, T.a_Hall_league, rfl, _, _, _, _, _, rfl, hg.self, T.c_League, T.a_League_teams, rfl, _, _, rfl, .inl ⟨_, lp hg.teams, rfl⟩, le1, fun p1 hp1 => ?_⟩
    have s1 := same_upd (o := .lst [V.int ((L.lg.ts.map fun T => V.ref T.self).length : Nat)]) hp1
    have ho1 := ho.up s1
    have hg1 := hg.up s1
    refine ⟨_, rfl, _, _, _, _, _, rfl, ho1.self, T.c_Hall, T.a_Hall_league, rfl, L.lg.self, _, _, rfl, hg1.self, rfl, L.lg, h.league, rfl, hg1, ok.lg, fun H2 p2 s2 hp2 => ?_⟩
    refine ⟨p1, p2, _, _, rfl, rfl, s2 _ _ upd_same, hp2, ?_, fun p hp => q.tell hx (s1.trans s2) hp ?_⟩
    · have e1 : h.league.order.length = h.league.teams.length := by
        unfold Lg.order
        rw [List.length_map, (rowSort_perm _).length_eq, rowFrom_len]
      have e2 := ok.lg.teams
      show 1 + (h.league.order.map V.int).length ≤ sizeLine
      rw [List.length_map, e1]
      exact small_line' (by omega)
    · rw [hlen, List.map_cons]; rfl
  have no : ∀ {n : Nat} {i : Int}, (n : Int) = i → ¬ nV c = V.int i → c ≠ n := fun ei ne z => ne ((nvl ei).mpr z)
  have n1 := no (n := 19) rfl e1
  have n2 := no (n := 20) rfl e2
  have n3 := no (n := 21) rfl e3
  have n4 := no (n := 22) rfl e4
  have n5 := no (n := 23) rfl e5
  obtain rfl : c = 24 := by omega
  simp only [actAns, readAns] at q
  refine ⟨_, rfl, _, _, _, _, _, rfl, ho.self, T.c_Hall, T.a_Hall_line, rfl, _, _, rfl, .inl ⟨_, lp ho.line, rfl⟩, _, rfl, _, _, _, _, _, rfl, ho.self, T.c_Hall, T.a_Hall_groups, rfl, _, _, rfl, .inl ⟨_, lp ho.groups, rfl⟩, _, rfl, L.self, _, _, rfl, ho.self, rfl, L, h, rfl, ho, ok.lanesOk, fun H1 pf s1 hpf0 hpf => ?_⟩
  have ho1 := ho.up s1
  have hg1 := hg.up s1
  refine ⟨_, _, rfl, .inl ⟨_, lp hpf, rfl⟩, _, rfl, _, _, _, _, _, rfl, ho1.self, T.c_Hall, T.a_Hall_league, rfl, _, _, _, _, _, rfl, hg1.self, T.c_League, T.a_League_matches, rfl, le4, fun p hp => q.tell hx s1 hp ?_⟩
  rw [nL_length, nL_length, List.length_map, hx.glen]; rfl
theorem ok_of_league {P : Program} {w : World} {K : PySem.W.Frag} {mg : Str → Option Value} {base : Heap} {a : Ad} (T : Txt K mg a) : CalB P w K mg base (L2.CX P w) 7 "of_league" (sp_of_league P w K a) :=
  CalB.mkX T.f_of_league sc_of_league l_of_league fun f cdv A outer s H vs Q E hr h => ⟨_, d_of_league T (ok_match T) (ok_average T) (ok_allowance T) (ok_points T) (ok_League_order T) (ok_Hall_free_lanes T) hr, p_of_league T h⟩
end
end Bw

/-! the walk: the desk -/
namespace Bw
open PySem PySem.Spec PyProof.Rows L2
/-- a call at the desk: what is answered, or the refusal -/
def deskR (s : Option Hl) (c : Nat) (l : List Nat) : Except Int (Option Hl × List Int) :=
  if c = 0 then (match startAns l with
    | .ok h => .ok (some h, [0])
    | .error e => .error e)
  else match s with
    | none => .ok (none, [])
    | some h => (match actAns h c l with
      | .ok (h', a) => .ok (some h', a)
      | .error e => .error e)
theorem desk_eq (s : Option Hl) (c : Nat) (l : List Nat) : desk s c l = (match deskR s c l with
    | .ok x => x
    | .error e => (s, [e])) := by
  unfold desk deskR
  split
  · cases startAns l <;> rfl
  · cases s with
    | none => rfl
    | some h =>
      show (match actAns h c l with
        | .ok (h', a) => (some h', a)
        | .error e => (some h, [e])) = _
      cases e : actAns h c l with
      | error r => simp only [e]
      | ok x => simp only [e]
theorem len6 {l : List Nat} (h : l.length = 6) : ∃ x y z u v w, l = [x, y, z, u, v, w] := by
  match l, h with
  | [x, y, z, u, v, w], _ => exact ⟨x, y, z, u, v, w, rfl⟩
/-- the desk, and the hall that it has -/
def DeskAt (P : Program) (w : World) (a : Ad) (H : Hp) (d dx : Addr) (ρ : Addr → Option Tag) (s : Option Hl) : Prop := ρ d = none ∧ (match s with
  | none => H d = some (.ins a.CDesk dx [("hall", .non)]) ∧ ∀ b, ρ b = none
  | some h => ∃ L, H d = some (.ins a.CDesk dx [("hall", .ref L.self)]) ∧ HallAt P w a H ρ L h)
section
variable {P : Program} {w : World} {K : PySem.W.Frag} {mg : Str → Option Value} {base : Heap} {a : Ad} {H H' H1 : Hp} {ρ : Addr → Option Tag} {L : HLay} {h h' : Hl} {s : Addr}
theorem DeskAt.up {d dx : Addr} {s : Option Hl} (x : DeskAt P w a H d dx ρ s) (z : Same H H') : DeskAt P w a H' d dx ρ s := by
  refine ⟨x.1, ?_⟩
  cases s with
  | none => exact ⟨z _ _ x.2.1, x.2.2⟩
  | some h =>
    obtain ⟨L, h1, h2⟩ := x.2
    exact ⟨L, z _ _ h1, h2.up z⟩
theorem DeskAt.there {d dx : Addr} {s : Option Hl} (x : DeskAt P w a H d dx ρ s) : ∃ o, H d = some o ∧ isTup o = false := by
  cases s with
  | none => exact ⟨_, x.2.1, rfl⟩
  | some h =>
    obtain ⟨L, h1, h2⟩ := x.2
    exact ⟨_, h1, rfl⟩
theorem DeskAt.tr {d dx : Addr} {s : Option Hl} (x : DeskAt P w a H d dx ρ s) : ∀ b, ρ b ≠ none → H b ≠ none := by
  cases s with
  | none => exact fun b hb => absurd (x.2.2 b) hb
  | some h =>
    obtain ⟨L, h1, h2⟩ := x.2
    exact h2.tr
/-! ### Desk() -/
def sp_Desk_init (P : Program) (w : World) (K : PySem.W.Frag) (a : Ad) : Sp := fun vs H Q _ => ∃ x dx, vs = [.ref x] ∧ H x = some (.ins a.CDesk dx []) ∧ Q .non (upd H x (.ins a.CDesk dx [("hall", .non)]))
theorem l_Desk_init : ∀ vs H Q E, sp_Desk_init P w K a vs H Q E → vs.length = 1 := by
  rintro vs H Q E ⟨x, dx, rfl, _⟩; rfl
abbrev s_Desk_init : Stmt := inClass (top 75) 0
abbrev N_Desk_init : List Str := ["self"]
theorem sc_Desk_init : FnScope N_Desk_init ["self"] (defScope s_Desk_init) := ⟨rfl, rfl, rfl, by decide +kernel, rfl, by decide +kernel, by decide +kernel⟩
def t_Desk_init (P : Program) (w : World) (K : PySem.W.Frag) (a : Ad) (E : XK) : TS :=
  (sFld K (tVar 0) (tC .non) "hall")
theorem d_Desk_init {P : Program} {w : World} {K : PySem.W.Frag} {mg : Str → Option Value} {base : Heap} {a : Ad} (T : Txt K mg a)  {f : Addr} {cdv : Value} {A : Around} {outer : List Env} {s : Shared} {H : Hp} {E : XK}
    (hr : Room 0 (A.deeper (envOfC "Desk.__init__" (defScope s_Desk_init) s.heap.objs.size f cdv))) : PSs (cxOf CX0 P w K mg base N_Desk_init "Desk.__init__" (defScope s_Desk_init) f cdv A outer s H E).nox (defBody s_Desk_init) (t_Desk_init P w K a E) :=
  (pss_one (ps_fld (pv 0) pe_non rfl))
theorem p_Desk_init (T : Txt K mg a) {vs : List V} {Q : VK} {E : XK} (h : sp_Desk_init P w K a vs H Q E) :
    t_Desk_init P w K a E { nx := fun _ H' => Q .non H', rt := Q } (start N_Desk_init vs) H := by
  obtain ⟨x, dx, rfl, hx, q⟩ := h
  exact ⟨_, rfl, x, _, dx, _, rfl, hx, T.c_Desk, T.a_Desk_hall, by decide, q⟩
theorem ok_Desk_init {P : Program} {w : World} {K : PySem.W.Frag} {mg : Str → Option Value} {base : Heap} {a : Ad} (T : Txt K mg a) : MakB P w K mg base CX0 1 "Desk" a.CDesk (sp_Desk_init P w K a) :=
  MakB.mk0 T.f_Desk_init sc_Desk_init l_Desk_init fun f cdv A outer s H vs Q E hr h => ⟨_, d_Desk_init T  hr, p_Desk_init T h⟩
/-! ### Desk.answer -/
/-- what the answer's list is to whoever asked -/
def Told (P : Program) (w : World) (a : Ad) (H : Hp) (ρ : Addr → Option Tag) (d dx : Addr) (x : Option Hl × List Int) (Q : VK) : Prop :=
  ∀ H' ρ' p, DeskAt P w a H' d dx ρ' x.1 → Kept (fun b => ρ b ≠ none ∨ b = d) H H' → (∀ b, ρ' b ≠ none → ρ b ≠ none ∨ H b = none) → (ρ p = none → H p = none) → H' p = some (.lst (x.2.map V.int)) → Q (.ref p) H'
def sp_Desk_answer (P : Program) (w : World) (K : PySem.W.Frag) (a : Ad) : Sp := fun vs H Q E => ∃ (d dx : Addr) (ρ : Addr → Option Tag) (s : Option Hl) (c : Nat) (u : Addr) (l : List Nat), vs = [.ref d, nV c, .ref u] ∧ DeskAt P w a H d dx ρ s ∧ (∀ h, s = some h → HOk h) ∧
  SqL K H u (nL l) ∧ l.length = many c ∧ c < 25 ∧ (s = none → c = 0) ∧ (match deskR s c l with
    | .ok x => Told P w a H ρ d dx x Q
    | .error e => Ref a H E e)
theorem l_Desk_answer : ∀ vs H Q E, sp_Desk_answer P w K a vs H Q E → vs.length = 3 := by
  rintro vs H Q E ⟨_, _, _, _, _, _, _, rfl, _⟩; rfl
abbrev s_Desk_answer : Stmt := inClass (top 75) 1
abbrev N_Desk_answer : List Str := ["self", "call", "numbers"]
theorem sc_Desk_answer : FnScope N_Desk_answer ["self", "call", "numbers"] (defScope s_Desk_answer) := ⟨rfl, rfl, rfl, by decide +kernel, rfl, by decide +kernel, by decide +kernel⟩
def t_Desk_answer (P : Program) (w : World) (K : PySem.W.Frag) (a : Ad) (E : XK) : TS :=
  (tSeq (tIfS (tTest (tOp rEq (tVar 1) (tC (.int 0)))) (tSeq (sFld K (tVar 0) (tMake a.CHall (sp_Hall_init P w K a) [] E (tCons (tVar 2) tNil)) "hall")
  (tRet (tLst (tCons (tC (.int 0)) tNil)))) tNext)
  (tSeq (tIfS (tTest (tOp rLtI (tVar 1) (tC (.int 11)))) (tRet (tCall (sp_of_hall P w K a) [] E (tCons (tFld K (tVar 0) "hall") (tCons (tVar 1) (tCons (tVar 2) tNil))))) tNext)
  (tSeq (tIfS (tTest (tOp rLtI (tVar 1) (tC (.int 19)))) (tRet (tCall (sp_of_games P w K a) [] E (tCons (tFld K (tVar 0) "hall") (tCons (tVar 1) (tCons (tVar 2) tNil))))) tNext)
  (tRet (tCall (sp_of_league P w K a) [] E (tCons (tFld K (tVar 0) "hall") (tCons (tVar 1) (tCons (tVar 2) tNil))))))))
theorem d_Desk_answer {P : Program} {w : World} {K : PySem.W.Frag} {mg : Str → Option Value} {base : Heap} {a : Ad} (T : Txt K mg a) (c_Hall_init : MakB P w K mg base (L2.CX P w) 5 "Hall" a.CHall (sp_Hall_init P w K a)) (c_of_hall : CalB P w K mg base (L2.CX P w) 7 "of_hall" (sp_of_hall P w K a)) (c_of_games : CalB P w K mg base (L2.CX P w) 38 "of_games" (sp_of_games P w K a)) (c_of_league : CalB P w K mg base (L2.CX P w) 7 "of_league" (sp_of_league P w K a)) {f : Addr} {cdv : Value} {A : Around} {outer : List Env} {s : Shared} {H : Hp} {E : XK}
    (hr : Room 38 (A.deeper (envOfC "Desk.answer" (defScope s_Desk_answer) s.heap.objs.size f cdv))) : PSs (cxOf (L2.CX P w) P w K mg base N_Desk_answer "Desk.answer" (defScope s_Desk_answer) f cdv A outer s H E) (defBody s_Desk_answer) (t_Desk_answer P w K a E) :=
  (pss_cons (ps_if (pt_cmpR op_eq (pv 1) pe_int (nomark _)) (pss_cons (ps_fld (pv 0) (pk c_Hall_init hr (by decide) passX rfl (pa_cons (pv 2) pa_nil)) rfl)
  (pss_one (ps_ret (pe_lst (pa_cons pe_int pa_nil))))) pss_nil)
  (pss_cons (ps_if (pt_cmpR op_lt (pv 1) pe_int (nomark _)) (pss_one (ps_ret (pc c_of_hall hr (by decide) passX rfl (pa_cons (pe_fld (pv 0) rfl) (pa_cons (pv 1) (pa_cons (pv 2) pa_nil)))))) pss_nil)
  (pss_cons (ps_if (pt_cmpR op_lt (pv 1) pe_int (nomark _)) (pss_one (ps_ret (pc c_of_games hr (by decide) passX rfl (pa_cons (pe_fld (pv 0) rfl) (pa_cons (pv 1) (pa_cons (pv 2) pa_nil)))))) pss_nil)
  (pss_one (ps_ret (pc c_of_league hr (by decide) passX rfl (pa_cons (pe_fld (pv 0) rfl) (pa_cons (pv 1) (pa_cons (pv 2) pa_nil)))))))))
theorem p_Desk_answer (T : Txt K mg a) {vs : List V} {Q : VK} {E : XK} (hh : sp_Desk_answer P w K a vs H Q E) :
    t_Desk_answer P w K a E { nx := fun _ H' => Q .non H', rt := Q } (start N_Desk_answer vs) H := by
  obtain ⟨d, dx, ρ, s, c, u, l, rfl, hd, hok, hu, hl, h25, hs0, q⟩ := hh
  refine ⟨_, rfl, rfl, _, rfl, ite_d (fun e => ?_) (fun e0 => ?_)⟩
  · obtain rfl : c = 0 := (nvl (n := 0) rfl).mp e
    obtain ⟨x0, x1, x2, x3, x4, x5, rfl⟩ := len6 hl
    refine ⟨_, rfl, fun x hdx hx hhd ndx => ⟨x, hdx, u, x0, x1, x2, x3, x4, x5, rfl, ?_, upd_same, ?_⟩⟩
    · have s1 : Same H (upd (upd H hdx (.own x)) x (.ins a.CHall hdx [])) := fun b o e => by
        rw [upd_ne (ne_of_none e hx), upd_ne (ne_of_none e hhd)]; exact e
      exact s1.seq hu
    · have s1 : Same H (upd (upd H hdx (.own x)) x (.ins a.CHall hdx [])) := fun b o e => by
        rw [upd_ne (ne_of_none e hx), upd_ne (ne_of_none e hhd)]; exact e
      by_cases cn : okNew x0 x1 x2 x3 x4 x5 = true
      · rw [if_pos cn]
        intro H1 ρ1 L1 eL hx1 k1 g1
        refine ⟨rfl, ?_⟩
        have s2 : Same H H1 := made_kept (T := fun _ => False) hx hhd k1
        obtain ⟨o, ho, no⟩ := hd.there
        have hd1 : ∃ v, H1 d = some (.ins a.CDesk dx [("hall", v)]) := by
          cases s with
          | none => exact ⟨_, s2 _ _ hd.2.1⟩
          | some h =>
            obtain ⟨L, h1, h2⟩ := hd.2
            exact ⟨_, s2 _ _ h1⟩
        obtain ⟨v, hd1⟩ := hd1
        have rd : ρ1 d = none := by
          cases q1 : ρ1 d with
          | none => rfl
          | some t =>
            rcases g1 d (by rw [q1]; exact fun z => nomatch z) with z | z
            · rw [z, hx] at ho; cases ho
            · have := made_free z
              rw [this] at ho; cases ho
        refine ⟨_, rfl, d, _, dx, _, rfl, hd1, T.c_Desk, T.a_Desk_hall, (by decide : 1 < 1000), le1, fun p hp => ?_⟩
        have er : deskR s 0 [x0, x1, x2, x3, x4, x5] = .ok (some (Hl.new x0 x1 x2 x3 x4 x5), [0]) := by
          simp only [deskR, startAns, cn, if_true]
        rw [er] at q
        have kd : Kept (fun b => ρ b ≠ none ∨ b = d) H (upd H1 d (.ins a.CDesk dx [("hall", .ref x)])) := (Kept.of s2).put (.inr rfl) hd1 rfl
        have hx2 : HallAt P w a (upd H1 d (.ins a.CDesk dx [("hall", .ref x)])) ρ1 L1 (Hl.new x0 x1 x2 x3 x4 x5) := hx1.keep (fun b o e z => by
          have nb : b ≠ d := fun w => by
            rcases z with z | z
            · exact z (w ▸ rd)
            · rw [w, hd1] at e; cases e; cases z
          rw [upd_ne nb]; exact e) fun b hb e => by
            have nb : b ≠ d := fun w => hb (w ▸ rd)
            rw [upd_ne nb] at e
            exact hx1.tr b hb e
        have hnd : p ≠ d := fun z => by rw [z] at hp; exact absurd (hp : upd H1 d _ d = none) (by rw [upd_same]; simp)
        have hp1 : H1 p = none := by
          have : upd H1 d (.ins a.CDesk dx (putF "hall" (.ref x) [("hall", v)])) p = none := hp
          rw [upd_ne hnd] at this; exact this
        refine q _ ρ1 p ⟨rd, L1, ?_, hx2.up (same_upd hp)⟩ (kd.new hp) (fun b hb => ?_) (fun _ => s2.free hp1) upd_same
        · rw [upd_ne (Ne.symm hnd), upd_same, eL]; rfl
        · rcases g1 b hb with z | z
          · exact .inr (by rw [z]; exact hx)
          · exact .inr (made_free z)
      · rw [if_neg cn]
        have er : deskR s 0 [x0, x1, x2, x3, x4, x5] = .error (-22) := by
          simp only [deskR, startAns, cn, if_true, if_false, Bool.false_eq_true]
        rw [er] at q
        have q' : Ref a H E (-22) := q
        exact q'.mono s1
  · have c0 : c ≠ 0 := fun z => e0 ((nvl (n := 0) rfl).mpr z)
    cases s with
    | none => exact absurd (hs0 rfl) c0
    | some h =>
      obtain ⟨L, hdd, hx⟩ := hd.2
      have ok := hok h rfl
      have q2 : Does P w a H ρ L.self (actAns h c l) Q E := by
        have er : deskR (some h) c l = (match actAns h c l with
          | .ok (h', a) => .ok (some h', a)
          | .error e => .error e) := by unfold deskR; rw [if_neg c0]
        rw [er] at q
        cases ea : actAns h c l with
        | error r => rw [ea] at q; exact q
        | ok x =>
          rw [ea] at q
          intro H1 p st hp hpe
          obtain ⟨L1, e1, ρ1, x1, k1, g1⟩ := st
          have rd : ρ1 d = none := by
            cases q1 : ρ1 d with
            | none => rfl
            | some t =>
              rcases g1 d (by rw [q1]; exact fun z => nomatch z) with z | z
              · exact absurd hd.1 z
              · rw [hdd] at z; cases z
          have hd1 := k1 _ _ hdd fun z => absurd hd.1 z
          refine q H1 ρ1 p ⟨rd, L1, by rw [e1]; exact hd1, x1⟩ (k1.mono fun b hb => .inl hb) g1 hp hpe
      refine ⟨_, rfl, _, _, rfl, rfl, _, rfl, ite_d (fun e => ?_) (fun e1 => ?_)⟩
      · have c11 : c < 11 := Int.ofNat_lt.mp e
        exact ⟨_, rfl, _, _, _, _, _, rfl, hdd, T.c_Desk, T.a_Desk_hall, rfl, _, rfl, _, rfl, ρ, L, h, c, u, l, rfl, hx, ok, hu, hl, by omega, c11, q2⟩
      · have c11 : ¬ c < 11 := fun z => e1 (Int.ofNat_lt.mpr z)
        refine ⟨_, rfl, _, _, rfl, rfl, _, rfl, ite_d (fun e => ?_) (fun e2 => ?_)⟩
        · have c19 : c < 19 := Int.ofNat_lt.mp e
          exact ⟨_, rfl, _, _, _, _, _, rfl, hdd, T.c_Desk, T.a_Desk_hall, rfl, _, rfl, _, rfl, ρ, L, h, c, u, l, rfl, hx, ok, hu, hl, by omega, c19, q2⟩
        · have c19 : ¬ c < 19 := fun z => e2 (Int.ofNat_lt.mpr z)
          exact ⟨_, rfl, _, _, _, _, _, rfl, hdd, T.c_Desk, T.a_Desk_hall, rfl, _, rfl, _, rfl, ρ, L, h, c, u, l, rfl, hx, ok, hu, hl, by omega, h25, q2⟩
theorem ok_Desk_answer {P : Program} {w : World} {K : PySem.W.Frag} {mg : Str → Option Value} {base : Heap} {a : Ad} (T : Txt K mg a) : MetB P w K mg base (L2.CX P w) 39 a.CDesk "answer" (sp_Desk_answer P w K a) :=
  MetB.mkX T.f_Desk_answer sc_Desk_answer l_Desk_answer fun f cdv A outer s H vs Q E hr h => ⟨_, d_Desk_answer T (ok_Hall_init T) (ok_of_hall T) (ok_of_games T) (ok_of_league T) hr, p_Desk_answer T h⟩
/-! ### answered: the refusals are caught -/
/-- o.m(e, ..) within a try: what it raises is wished for at the slots as they stand -/
def tMethS (C : Addr) (m : Str) (sp : Sp) (E : L2.St → XK) (ta : TE) (t : TA) : TE := fun σ H Q => ta σ H fun x H1 => ∃ a dx fs, x = .ref a ∧ H1 a = some (.ins C dx fs) ∧ fs.lookup m = none ∧ t σ H1 fun vs H2 => sp (x :: vs) H2 Q (E σ)
theorem pmS {X : Cx} {CX : CXT} {k j : Nat} {C : Addr} {sp : Sp} {E : L2.St → XK} {m : Str} {pos apos : Pos} {e o : Expr} {es : List Expr} {ta : TE} {t : TA} {pl : Sem Bool} (c : MetB X.prog X.w X.K X.mg X.base CX k C m sp) (hr : Room j X.A) (hk : k ≤ j) (he : PE X o ta)
    (hx : ∀ σ, PassesAt CX X σ (E σ)) (ha : PA X (e :: es) t)
    (hst : starEach (e :: es) X.env = (false, eval e X.env) :: starEach es X.env := by rfl) (hpl : (backTo pos (starEach es X.env)).any (·.1) = false := by rfl)
    (ht : eval (.Call (.Attribute o m apos) (e :: es) [] pos) X.env = (do
      let ov ← eval o X.env
      standAt apos.atName
      let (f, first) ← holding [ov] (getMethod ov m pl)
      callWith pos f first (backTo pos (starEach (e :: es) X.env)) (backToKw pos (keywordEach [] X.env))) := by rfl) :
    PE X (.Call (.Attribute o m apos) (e :: es) [] pos) (tMethS C m sp E ta t) := by
  obtain ⟨f, fd, ps, F, hc, hm, hb⟩ := c.ex
  refine ⟨fun pins s σ H Q I h => ?_⟩
  refine PySem.W.methodCall_KW (pl := pl) (thn (he.run pins s σ H _ I h) fun u s1 ⟨x, H1, I1, rx, a, dx, fs, ex, ea, l, q⟩ => ?_) ht
  subst ex
  obtain rfl : u = Value.ref a := rx
  refine getmeth_ok I1 ea hc hm l ?_
  refine PySem.W.callWith_K (first := [.ref a]) (h₀ := X.base) I.ok.mod.kin hm.kp (thn (ha.run pos pins s1 σ H1 _ I1 q) fun us s2 ⟨vs, H2, I2, r, q2⟩ => ⟨I2.kIn, ?_⟩) hst hpl
  exact run_fnS (us := .ref a :: us) (vs := .ref a :: vs) F (hr.mono hk) hb (hx σ) I2 (.cons rfl r) q2
abbrev s_answered : Stmt := top 76
abbrev N_answered : List Str := ["desk", "call", "numbers", "error"]
theorem sc_answered : FnScope N_answered ["desk", "call", "numbers"] (defScope s_answered) := ⟨rfl, rfl, rfl, by decide +kernel, rfl, by decide +kernel, by decide +kernel⟩
def ts_answered (a : Ad) : Addr → Value → Option Addr → TS := fun ae cls d => tRet (tLst (tCons (tByLow a.CR ae cls d (tVar 3)) tNil))
def tb_answered (P : Program) (w : World) (K : PySem.W.Frag) (a : Ad) : WX → TS := fun W => tRet (tMethS a.CDesk "answer" (sp_Desk_answer P w K a) (WE W) (tVar 0) (tCons (tVar 1) (tCons (tVar 2) tNil)))
def t_answered (P : Program) (w : World) (K : PySem.W.Frag) (a : Ad) (E : XK) : TS := fun D σ H => tb_answered P w K a (wAs K (.ref a.CR) 3 (ts_answered a) (fun _ _ _ _ => False) D) D σ H
theorem d_answered (T : Txt K mg a) (c_Desk_answer : MetB P w K mg base (L2.CX P w) 39 a.CDesk "answer" (sp_Desk_answer P w K a)) {f : Addr} {cdv : Value} {A : Around} {outer : List Env} {s : Shared} {H : Hp} {E : XK}
    (hr : Room 39 (A.deeper (envOfC "answered" (defScope s_answered) s.heap.objs.size f cdv))) : PSs (cxOf CX0 P w K mg base N_answered "answered" (defScope s_answered) f cdv A outer s H E).nox (defBody s_answered) (t_answered P w K a E) :=
  pss_one (ps_try_as (i := 3) (tb := tb_answered P w K a) (ts := ts_answered a) (Wout := fun _ _ _ _ => False) rfl rfl sc_answered.nd rfl rfl ⟨rfl, by decide, Or.inl T.low.gC⟩ takes0
    (fun W pn xe tk _ => pss_one (ps_ret (pmS c_Desk_answer hr (by decide) (pv 0) (fun σ => passAt tk σ) (by exact (pa_cons (pv 1) (pa_cons (pv 2) pa_nil))))))
    (fun ae oe cls d pn hz hf => pss_one (ps_ret (pe_lst (pa_cons (pe_byLow T.low hz hf (pv 3)) pa_nil)))))
def sp_answered (P : Program) (w : World) (K : PySem.W.Frag) (a : Ad) : Sp := fun vs H Q _ => ∃ (d dx : Addr) (ρ : Addr → Option Tag) (s : Option Hl) (c : Nat) (u : Addr) (l : List Nat), vs = [.ref d, nV c, .ref u] ∧ DeskAt P w a H d dx ρ s ∧ (∀ h, s = some h → HOk h) ∧
  SqL K H u (nL l) ∧ l.length = many c ∧ c < 25 ∧ (s = none → c = 0) ∧ Told P w a H ρ d dx (desk s c l) Q
theorem l_answered : ∀ vs H Q E, sp_answered P w K a vs H Q E → vs.length = 3 := by
  rintro vs H Q E ⟨_, _, _, _, _, _, _, rfl, _⟩; rfl
theorem p_answered (T : Txt K mg a) {vs : List V} {Q : VK} {E : XK} (hh : sp_answered P w K a vs H Q E) :
    t_answered P w K a E { nx := fun _ H' => Q .non H', rt := Q } (start N_answered vs) H := by
  obtain ⟨d, dx, ρ, s, c, u, l, rfl, hd, hok, hu, hl, h25, hs0, q⟩ := hh
  have hdd : ∃ v, H d = some (.ins a.CDesk dx [("hall", v)]) := by
    cases s with
    | none => exact ⟨_, hd.2.1⟩
    | some h =>
      obtain ⟨L, h1, h2⟩ := hd.2
      exact ⟨_, h1⟩
  obtain ⟨v, hdv⟩ := hdd
  refine ⟨_, rfl, d, dx, _, rfl, hdv, rfl, _, rfl, _, rfl, d, dx, ρ, s, c, u, l, rfl, hd, hok, hu, hl, h25, hs0, ?_⟩
  rw [desk_eq] at q
  cases er : deskR s c l with
  | ok x => rw [er] at q; exact q
  | error r =>
    rw [er] at q
    intro H1 dd s1 hdd1 e1
    refine ⟨true, T.low.te, fun _ ae hae => ?_, fun z => Bool.noConfusion z⟩
    refine ⟨_, rfl, rfl, rfl, dd, _, rfl, e1, le1, fun p hp => ?_⟩
    exact q _ ρ p (hd.up (s1.trans (same_upd hp))) ((Kept.of s1).new hp) (fun b hb => .inl hb) (fun _ => s1.free hp) upd_same
theorem ok_answered (T : Txt K mg a) : CalB P w K mg base CX0 40 "answered" (sp_answered P w K a) :=
  CalB.mk0 T.f_answered sc_answered l_answered fun f cdv A outer s H vs Q E hr h => ⟨_, d_answered T (ok_Desk_answer T) hr, p_answered T h⟩
end
end Bw

/-! the walk: answers -/
namespace Bw
open PySem PySem.Spec PyProof.Rows L2
section
variable {P : Program} {w : World} {K : PySem.W.Frag} {mg : Str → Option Value} {base : Heap} {a : Ad} {H H' H1 : Hp} {ρ : Addr → Option Tag} {L : HLay} {h h' : Hl} {s : Addr}
theorem seq_keep {u : Addr} {xs : List V} (hu : SqL K H u xs) (k : ∀ o, H u = some o → H1 u = some o) : SqL K H1 u xs := by
  rcases hu with hu | hu
  · rcases hu with hu | ⟨o, hu⟩
    · exact .inl (.inl (k _ hu))
    · exact .inl (.inr ⟨o, k _ hu⟩)
  · exact .inr hu
theorem DeskAt.note {d dx p : Addr} {s : Option Hl} {xs : List V} {o' : HO} (x : DeskAt P w a H d dx ρ s) (rp : ρ p = none) (n : p ≠ d) (e : H p = some (.lst xs)) : DeskAt P w a (upd H p o') d dx ρ s := by
  refine ⟨x.1, ?_⟩
  cases s with
  | none => exact ⟨(upd_ne (Ne.symm n)).trans x.2.1, x.2.2⟩
  | some h =>
    obtain ⟨L, h1, h2⟩ := x.2
    refine ⟨L, (upd_ne (Ne.symm n)).trans h1, h2.keep (fun b o eb z => ?_) fun b hb eb => ?_⟩
    · have nb : b ≠ p := fun w => by
        rcases z with z | z
        · exact z (w ▸ rp)
        · rw [w, e] at eb; cases eb; cases z
      rw [upd_ne nb]; exact eb
    · have nb : b ≠ p := fun w => hb (w ▸ rp)
      rw [upd_ne nb] at eb
      exact h2.tr b hb eb
def manyL : List Nat := [6, 2, 2, 1, 2, 0, 1, 1, 2, 1, 1, 2, 3, 2, 3, 1, 3, 1, 0, 2, 2, 2, 1, 0, 0]
theorem many_at {c : Nat} (h : c < 25) : manyL[c]? = some (many c) := by
  unfold many
  rw [List.getD_eq_getElem?_getD]
  show manyL[c]? = some ((manyL[c]?).getD 0)
  rw [List.getElem?_eq_getElem (show c < manyL.length from h)]; rfl
def sp_answers (P : Program) (w : World) (K : PySem.W.Frag) (a : Ad) : Sp := fun vs H Q _ => ∃ (u : Addr) (ns : List Nat) (out : List Int), vs = [.ref u] ∧ SqL K H u (nL ns) ∧ RunOk none ns out ∧ out.length ≤ 10000000 ∧
  ∀ H' p, H' p = some (.lst (out.map V.int)) → Q (.ref p) H'
theorem l_answers : ∀ vs H Q E, sp_answers P w K a vs H Q E → vs.length = 1 := by
  rintro vs H Q E ⟨_, _, _, rfl, _⟩; rfl
abbrev s_answers : Stmt := top 77
abbrev N_answers : List Str := ["calls", "desk", "found", "at", "call", "behind", "told"]
theorem sc_answers : FnScope N_answers ["calls"] (defScope s_answers) := ⟨rfl, rfl, rfl, by decide +kernel, rfl, by decide +kernel, by decide +kernel⟩
def t_answers (P : Program) (w : World) (K : PySem.W.Frag) (a : Ad) (E : XK) : TS :=
  (tSeq (tAsg (tMake a.CDesk (sp_Desk_init P w K a) [] E0 tNil) (gName 1))
  (tSeq (tAsg (tLst tNil) (gName 2))
  (tSeq (tAsg (tC (.int 0)) (gName 3))
  (tSeq (tWhile (tTest (tOp rLtI (tVar 3) (tCB (rLenB K) (tCons (tVar 0) tNil)))) (tSeq (tAsg (tOp (rIxL K) (tVar 0) (tVar 3)) (gName 4))
  (tSeq (tAsg (tOp rAddI (tOp rAddI (tVar 3) (tC (.int 1))) (tOp (rIxT K) (tC (.ref a.MANY_NUMBERS)) (tVar 4))) (gName 5))
  (tSeq (tAsg (tCall (sp_answered P w K a) [] E0 (tCons (tVar 1) (tCons (tVar 4) (tCons (tSl (rSlL K) (tVar 0) (tPart (tOp rAddI (tVar 3) (tC (.int 1)))) (tPart (tVar 5))) tNil)))) (gName 6))
  (tSeq (tDrop (tBM K "list" rAppend (tVar 2) (tCons (tCB (rLenB K) (tCons (tVar 6) tNil)) tNil)))
  (tSeq (tDrop (tBM K "list" rExtend (tVar 2) (tCons (tVar 6) tNil)))
  (tAsg (tVar 5) (gName 3))))))))
  (tRet (tVar 2))))))
theorem d_answers {P : Program} {w : World} {K : PySem.W.Frag} {mg : Str → Option Value} {base : Heap} {a : Ad} (T : Txt K mg a) (c_Desk_init : MakB P w K mg base CX0 1 "Desk" a.CDesk (sp_Desk_init P w K a)) (c_answered : CalB P w K mg base CX0 40 "answered" (sp_answered P w K a)) {f : Addr} {cdv : Value} {A : Around} {outer : List Env} {s : Shared} {H : Hp} {E : XK}
    (hr : Room 40 (A.deeper (envOfC "answers" (defScope s_answers) s.heap.objs.size f cdv))) : PSs (cxOf CX0 P w K mg base N_answers "answers" (defScope s_answers) f cdv A outer s H E).nox (defBody s_answers) (t_answers P w K a E) :=
  (pss_cons (ps_set (i := 1) sc_answers.nd rfl (by first | exact Or.inl rfl | exact Or.inr rfl) (pk0 c_Desk_init hr (by decide) pass0 rfl))
  (pss_cons (ps_set (i := 2) sc_answers.nd rfl (by first | exact Or.inl rfl | exact Or.inr rfl) (pe_lst pa_nil))
  (pss_cons (ps_set (i := 3) sc_answers.nd rfl (by first | exact Or.inl rfl | exact Or.inr rfl) pe_int)
  (pss_cons (ps_while (PassesOwn.never) (pt_cmpR op_lt (pv 3) (pe_callB call_len (by rfl) T.n_len PySem.boot_len (pa_cons (pv 0) pa_nil)) (nomark _)) (pss_cons (ps_set (i := 4) sc_answers.nd rfl (by first | exact Or.inl rfl | exact Or.inr rfl) (pe_ix ix_list (pv 0) (pv 3) (fun _ _ => rfl)))
  (pss_cons (ps_set (i := 5) sc_answers.nd rfl (by first | exact Or.inl rfl | exact Or.inr rfl) (pe_op op_add (pe_op op_add (pv 3) pe_int) (pe_ix ix_tup (pe_glob rfl T.g_MANY_NUMBERS rfl) (pv 4) (fun _ _ => rfl))))
  (pss_cons (ps_set (i := 6) sc_answers.nd rfl (by first | exact Or.inl rfl | exact Or.inr rfl) (pc c_answered hr (by decide) pass0 rfl (pa_cons (pv 1) (pa_cons (pv 4) (pa_cons (pe_slice sl_list (pv 0) (po_some (pe_op op_add (pv 3) pe_int)) (po_some (pv 5))) pa_nil)))))
  (pss_cons (ps_expr (pe_bm PySem.F.plainAttrs_list PySem.F.slot_list_append PySem.F.type_list_append mt_append (pv 2) (pa_cons (pe_callB call_len (by rfl) T.n_len PySem.boot_len (pa_cons (pv 6) pa_nil)) pa_nil)))
  (pss_cons (ps_expr (pe_bm PySem.F.plainAttrs_list PySem.F.slot_list_extend PySem.F.type_list_extend mt_extend (pv 2) (pa_cons (pv 6) pa_nil)))
  (pss_one (ps_set (i := 3) sc_answers.nd rfl (by first | exact Or.inl rfl | exact Or.inr rfl) (pv 5)))))))))
  (pss_one (ps_ret (pv 2)))))))
theorem p_answers (T : Txt K mg a) {vs : List V} {Q : VK} {E : XK} (hh : sp_answers P w K a vs H Q E) :
    t_answers P w K a E { nx := fun _ H' => Q .non H', rt := Q } (start N_answers vs) H := by
  obtain ⟨u, ns, out, rfl, hu, hrun, hout, q⟩ := hh
  refine fun d dx hd hdx ndx => ⟨d, dx, rfl, upd_same, rfl, ?_⟩
  rw [upd_upd]
  have s1 : Same H (upd (upd H dx (.own d)) d (.ins a.CDesk dx [("hall", .non)])) := fun b o e => by
    rw [upd_ne (ne_of_none e hd), upd_ne (ne_of_none e hdx)]; exact e
  have hdesk : DeskAt P w a (upd (upd H dx (.own d)) d (.ins a.CDesk dx [("hall", .non)])) d dx (fun _ => none) none := ⟨rfl, upd_same, fun _ => rfl⟩
  refine ⟨by decide, fun p hp => ?_⟩
  have npd : p ≠ d := fun z => by rw [z, upd_same] at hp; cases hp
  have hp0 : H p = none := s1.free hp
  have s2 := s1.trans (same_upd (o := .lst []) hp)
  have hdesk2 : DeskAt P w a (upd (upd (upd H dx (.own d)) d (.ins a.CDesk dx [("hall", .non)])) p (.lst [])) d dx (fun _ => none) none := hdesk.up (same_upd hp)
  refine while_by (fun σ H1 => ∃ (n : Nat) (z4 z5 z6 : Option V) (s : Option Hl) (ρ : Addr → Option Tag) (outd outr : List Int), σ = [some (.ref u), some (.ref d), some (.ref p), some (nV n), z4, z5, z6] ∧ n ≤ ns.length ∧ RunOk s (ns.drop n) outr ∧ out = outd ++ outr ∧
      DeskAt P w a H1 d dx ρ s ∧ H1 p = some (.lst (outd.map V.int)) ∧ (∀ b, ρ b ≠ none → H b = none) ∧ ρ p = none ∧ Same H H1)
    (fun σ _ => match σ with
      | [_, _, _, some (.int n), _, _, _] => ns.length - n.toNat
      | _ => 0)
    ⟨0, _, _, _, none, fun _ => none, [], out, rfl, Nat.zero_le _, by rw [List.drop_zero]; exact hrun, rfl, hdesk2, upd_same, fun b hb => absurd rfl hb, rfl, s2⟩ (fun σ H1 g => ?_)
    (fun σ H Q Q' h ⟨v, e1, v2, e2, x, n, e3, e4, i, j, e5, e6, k, e7, q⟩ => ⟨v, e1, v2, e2, x, n, e3, e4, i, j, e5, e6, k, e7, h _ _ q⟩)
  obtain ⟨n, z4, z5, z6, s, ρ, outd, outr, rfl, hn, hrun, hcat, hdk, hp1, hgr, hrp, hku⟩ := g
  have hu1 := hku.seq hu
  refine ⟨_, rfl, _, rfl, _, _, rfl, .inl ⟨_, hu1, rfl⟩, _, _, rfl, rfl, _, rfl, ?_⟩
  rw [nL_length]
  refine ite_d (fun c => ?_) (fun c => ?_)
  · have hlt : n < ns.length := Int.ofNat_lt.mp c
    -- the call that comes
    generalize er : ns.drop n = rest at hrun
    cases hrun with
    | nil =>
      have := congrArg List.length er
      rw [List.length_drop, List.length_nil] at this
      omega
    | @cons _ c l r out' h25 hlen h0 hok hrest =>
      have hc : ns[n]? = some c := by
        have := congrArg (fun x => x[0]?) er
        simp only [List.getElem?_drop, Nat.add_zero, List.getElem?_cons_zero] at this
        exact this
      have hl : (ns.drop (n + 1)).take (many c) = l := by
        have e1 : ns.drop (n + 1) = l ++ r := by rw [← List.drop_drop, er]; rfl
        rw [e1, ← hlen, List.take_left]
      have hr : ns.drop (n + 1 + many c) = r := by
        have e1 : ns.drop (n + 1) = l ++ r := by rw [← List.drop_drop, er]; rfl
        rw [← List.drop_drop, e1, ← hlen, List.drop_left]
      have hlen2 : n + 1 + many c ≤ ns.length := by
        have := congrArg List.length er
        rw [List.length_drop, List.length_cons, List.length_append, hlen] at this
        omega
      have e1 : V.int ((n : Int) + 1 + (many c : Nat)) = nV (n + 1 + many c) := by
        show _ = V.int _
        rw [Int.natCast_add, Int.natCast_add]; rfl
      refine ⟨_, rfl, _, rfl, u, _, (n : Int), nV c, rfl, rfl, hu1, atI_map (f := nV) hc, ?_⟩
      refine ⟨_, rfl, _, _, rfl, rfl, _, rfl, a.MANY_NUMBERS, nL manyL, (c : Int), nV (many c), rfl, rfl, T.q_MANY_NUMBERS H1, atI_map (f := nV) (many_at h25), _, _, rfl, rfl, ?_⟩
      refine ⟨_, rfl, _, rfl, _, rfl, _, rfl, _, _, rfl, rfl, _, rfl, _, rfl, _, rfl, u, _, rfl, hu1, fun pl hpl => ?_⟩
      have ec : cutV (nL ns) (some ((n : Int) + 1)) (some ((n : Int) + 1 + (many c : Nat))) = nL l := by
        have := cutV_mid (nL ns) (n + 1) (many c)
        rw [nL_drop, nL_take, hl, Int.natCast_add, Int.natCast_add] at this
        exact this
      have s3 := same_upd (o := .lst (cutV (nL ns) (some ((n : Int) + 1)) (some ((n : Int) + 1 + (many c : Nat))))) hpl
      have hpl2 : upd H1 pl (.lst (cutV (nL ns) (some ((n : Int) + 1)) (some ((n : Int) + 1 + (many c : Nat))))) pl = some (.lst (nL l)) := by rw [upd_same, ec]
      have hp3 := s3 _ _ hp1
      refine ⟨d, dx, ρ, s, c, pl, l, rfl, hdk.up s3, hok, lp hpl2, hlen, h25, h0, fun H4 ρ4 q4 hdk4 k4 g4 hf4 he4 => ?_⟩
      have hp4 : H4 p = some (.lst (outd.map V.int)) := k4 _ _ hp3 fun z => by
        rcases z with z | z
        · exact absurd hrp z
        · exact absurd z npd
      have hrp4 : ρ4 p = none := by
        cases e : ρ4 p with
        | none => rfl
        | some t =>
          rcases g4 p (by rw [e]; exact fun z => nomatch z) with z | z
          · exact absurd hrp z
          · rw [hp3] at z; cases z
      have nq : q4 ≠ p := fun z => by
        have := hf4 (by rw [z]; exact hrp)
        rw [z, hp3] at this; cases this
      have tot : outd.length + ((desk s c l).2.length + 1) ≤ 10000000 := by
        have := congrArg List.length hcat
        rw [List.length_append, List.length_cons, List.length_append] at this
        omega
      have sz : sizeLine = 16777216 := rfl
      refine ⟨_, rfl, tyLp hp4, _, rfl, _, _, rfl, .inl ⟨_, lp he4, rfl⟩, p, _, _, rfl, rfl, hp4, by rw [List.length_map, sz]; omega, ?_⟩
      have hp5 : upd H4 p (.lst (outd.map V.int ++ [V.int (((desk s c l).2.map V.int).length : Nat)])) p = _ := upd_same
      have he5 := (upd_ne (H := H4) (o := .lst (outd.map V.int ++ [V.int (((desk s c l).2.map V.int).length : Nat)])) nq).trans he4
      refine ⟨_, rfl, tyLp hp5, _, rfl, p, q4, _, _, rfl, rfl, hp5, he5, by rw [List.length_append, List.length_map, List.length_map, List.length_singleton, sz]; omega, ?_⟩
      rw [upd_upd]
      refine ⟨_, rfl, ⟨n + 1 + many c, some (nV c), some (nV (n + 1 + many c)), some (.ref q4), (desk s c l).1, ρ4, outd ++ (((desk s c l).2.length : Int) :: (desk s c l).2), out', ?_, hlen2, by rw [hr]; exact hrest, ?_, hdk4.note hrp4 npd hp4, ?_, ?_, hrp4, ?_⟩, ?_⟩
      · rw [← e1]; rfl
      · rw [hcat, List.append_assoc]; rfl
      · rw [upd_same, List.length_map, List.map_append, List.map_cons, List.append_assoc]; rfl
      · intro b hb
        rcases g4 b hb with z | z
        · exact hgr b z
        · exact hku.free (s3.free z)
      · intro b o e
        have nup : b ≠ p := fun z => by rw [z, hp0] at e; cases e
        have nud : b ≠ d := fun z => by rw [z, hd] at e; cases e
        rw [upd_ne nup]
        refine k4 _ _ (s3 _ _ (hku b o e)) fun z => ?_
        rcases z with z | z
        · have := hgr b z
          rw [e] at this; cases this
        · exact absurd z nud
      · show ns.length - ((n : Int) + 1 + (many c : Nat)).toNat < ns.length - ((n : Int)).toNat
        omega
  · have hge : n = ns.length := by
      have : ¬ n < ns.length := fun h => c (Int.ofNat_lt.mpr h)
      omega
    rw [hge, List.drop_length] at hrun
    cases hrun
    rw [List.append_nil] at hcat
    rw [hcat] at q
    exact ⟨_, rfl, q H1 p hp1⟩
theorem ok_answers {P : Program} {w : World} {K : PySem.W.Frag} {mg : Str → Option Value} {base : Heap} {a : Ad} (T : Txt K mg a) : CalB P w K mg base CX0 41 "answers" (sp_answers P w K a) :=
  CalB.mk0 T.f_answers sc_answers l_answers fun f cdv A outer s H vs Q E hr h => ⟨_, d_answers T (ok_Desk_init T) (ok_answered T) hr, p_answers T h⟩
end
end Bw

/-! what the top has written: from the written part -/
namespace Bw
open PySem PySem.Spec PyProof.Rows L2
/-- answers' promise, without the addresses -/
def sp_end (K : PySem.W.Frag) : Sp := fun vs H Q _ => ∃ (u : Addr) (ns : List Nat) (out : List Int), vs = [.ref u] ∧ SqL K H u (nL ns) ∧ RunOk none ns out ∧ out.length ≤ 10000000 ∧
  ∀ H' p, H' p = some (.lst (out.map V.int)) → Q (.ref p) H'
section
variable {K : PySem.W.Frag} {h : Heap} {mg : Str → Option Value}
theorem defA_of {x : Str} {st : Stmt} {ps : List Str} {f : Addr} {oc : Value} {od an : Option Addr} {sl : Array (Option Value)} {kV dc pm cd ct : Value} (X : K.In h) (G : h.Ns mainGlobals mg) (a : PySem.W.nsIn K mainGlobals x = some (some (.ref f)))
    (l : K.lookup f = some ⟨oc, od, .func (PySem.W.fnOf x x (defArgs st) (defBody st) (defScope st) .none kV dc pm an cd ct), sl⟩) (c : PySem.W.codeIn K cd x = true) (k : PySem.W.keepIn K (.ref f) = true)
    (b : ∀ (kV doc pm : Value) (an : Option Addr) (cdv ct : Value) (us : List Value), us.length = ps.length → bindArgs (PySem.W.fnOf x x (defArgs st) (defBody st) (defScope st) .none kV doc pm an cdv ct) ⟨us, []⟩ = pure (ps.zip us)) : DefA K mg x st ps :=
  ⟨_, _, fun_mk l c k, PySem.W.mg_of X G a, (fun_mk l c k).binds b⟩
theorem methA_of {C : Addr} {x q : Str} {st : Stmt} {ps : List Str} {f : Addr} {oc : Value} {od an : Option Addr} {sl : Array (Option Value)} {kV dc pm cd ct : Value} (a : PySem.W.findIn K (.ref C) x = some (some (.ref f))) (i : PySem.W.isFn K (.ref f) = true)
    (l : K.lookup f = some ⟨oc, od, .func (PySem.W.fnOf x q (defArgs st) (defBody st) (defScope st) .none kV dc pm an cd ct), sl⟩) (c : PySem.W.codeIn K cd q = true) (k : PySem.W.keepIn K (.ref f) = true) (cl : Cls K C)
    (b : ∀ (kV doc pm : Value) (an : Option Addr) (cdv ct : Value) (us : List Value), us.length = ps.length → bindArgs (PySem.W.fnOf x q (defArgs st) (defBody st) (defScope st) .none kV doc pm an cdv ct) ⟨us, []⟩ = pure (ps.zip us)) : MethA K C x q st ps :=
  ⟨_, _, fun_mk l c k, cl, ⟨a, i, k⟩, (fun_mk l c k).binds b⟩
theorem initA_of {C : Addr} {n q : Str} {st : Stmt} {ps : List Str} {f : Addr} {oc : Value} {od an : Option Addr} {sl : Array (Option Value)} {kV dc pm cd ct : Value} (X : K.In h) (G : h.Ns mainGlobals mg) (g : PySem.W.nsIn K mainGlobals n = some (some (.ref C))) (mk : PySem.W.makesIn K C = true) (kc : PySem.W.keepIn K (.ref C) = true)
    (a : PySem.W.findIn K (.ref C) "__init__" = some (some (.ref f))) (i : PySem.W.isFn K (.ref f) = true)
    (l : K.lookup f = some ⟨oc, od, .func (PySem.W.fnOf "__init__" q (defArgs st) (defBody st) (defScope st) .none kV dc pm an cd ct), sl⟩) (c : PySem.W.codeIn K cd q = true) (k : PySem.W.keepIn K (.ref f) = true)
    (b : ∀ (kV doc pm : Value) (an : Option Addr) (cdv ct : Value) (us : List Value), us.length = ps.length → bindArgs (PySem.W.fnOf "__init__" q (defArgs st) (defBody st) (defScope st) .none kV doc pm an cdv ct) ⟨us, []⟩ = pure (ps.zip us)) : InitA K mg n C q st ps :=
  ⟨_, _, fun_mk l c k, ⟨mk, a, i, kc⟩, PySem.W.mg_of X G g, (fun_mk l c k).binds b⟩
/-- an error of the class at S is what «except S» names -/
theorem exm_self {S : Addr} (h1 : PySem.W.subIn K (.ref S) (.type "BaseException") = some true) (h2 : PySem.W.isClsIn K S = true) (h3 : PySem.W.typeIn K (.ref S) = some (.type "type")) (h4 : PySem.W.subIn K (.ref S) (.ref S) = some true) :
    PySem.W.exmOne K (.ref S) (.ref S) = some true := by
  have e1 : (PySem.W.subIn K (.ref S) (.type "BaseException") == some true) = true := by rw [h1] <;> rfl
  have e2 : ((PySem.W.clsIn K S).isSome && PySem.W.typeIn K (.ref S) == some (.type "type")) = true := by
    have h2' : (PySem.W.clsIn K S).isSome = true := h2
    rw [h2', h3] <;> rfl
  show (if (PySem.W.subIn K (.ref S) (.type "BaseException") == some true) = true then (if ((PySem.W.clsIn K S).isSome && PySem.W.typeIn K (.ref S) == some (.type "type")) = true then PySem.W.subIn K (.ref S) (.ref S) else none) else none) = some true
  rw [if_pos e1, if_pos e2]
  exact h4
theorem low_mk {C f1 : Addr} {nm q : Str} {N : Addr} {bs : List Value} {sn : List Str} {sub : List Value} {ab : Bool} {col : Option Bool} {dd : Option Addr} {m0 m1 m2 m3 m5 : Option Value}
    {od1 an1 : Option Addr} {sl1 : Array (Option Value)} {oc1 dc1 pm1 cd1 ct1 : Value} (X : K.In h) (G : h.Ns mainGlobals mg)
    (aC : PySem.W.nsIn K mainGlobals "Refused" = some (some (.ref C)))
    (xL : K.lookup C = some (excClassObj nm q C N bs [.type "ValueError", .type "Exception", .type "BaseException", .type "object"] true sn sub ab col dd m0 m1 m2 m3 m5 "ValueError.__new__"))
    (sa : PySem.W.findIn K (.ref C) "__setattr__" = some (some (.builtin "object.__setattr__"))) (ga : PySem.W.findIn K (.ref C) "__getattribute__" = some (some (.builtin "BaseException.__getattribute__"))) (gg : PySem.W.findIn K (.ref C) "__getattr__" = some none) (nb : PySem.W.findIn K (.ref C) "refusal" = some none)
    (a1 : PySem.W.findIn K (.ref C) "__init__" = some (some (.ref f1))) (t1 : PySem.W.typeIn K (.ref f1) = some (.type "function"))
    (l1 : K.lookup f1 = some ⟨oc1, od1, .func (PySem.W.fnOf "__init__" "Refused.__init__" (PySem.LowX.iA ⟨225, 17, 225, 21⟩ ⟨225, 23, 225, 30⟩) (PySem.LowX.iB ⟨226, 8, 226, 12⟩ ⟨226, 8, 226, 20⟩ ⟨226, 23, 226, 30⟩ ⟨226, 8, 226, 30⟩) PySem.LowX.iS .none .none dc1 pm1 an1 cd1 ct1), sl1⟩) (c1 : PySem.W.codeIn K cd1 "Refused.__init__" = true)
    (kC : PySem.W.keepIn K (.ref C) = true) (eC : PySem.W.subIn K (.ref C) (.type "BaseException") = some true) (tC : PySem.W.typeIn K (.ref C) = some (.type "type")) (hC : PySem.W.hasDictIn K C = true) (iC : PySem.W.isClsIn K C = true) (sC : PySem.W.subIn K (.ref C) (.ref C) = some true) : PySem.LowX.LowTxt K mg C f1 :=
  { gC := PySem.W.mg_of X G aC, cls := ⟨nm, q, N, bs, _, sn, sub, ab, col, dd, m0, m1, m2, m3, m5, xL, by decide +kernel⟩, sa := sa, ga := ga, gg := gg, noN := nb, iC := a1, tC := t1, kC := kC, exC := eC, tyC := tC, hdC := hC, te := exm_self eC iC tC sC,
    fn := ⟨_, _, _, _, _, _, _, _, _, _, _, _, _, _, l1, c1⟩ }
end
theorem end_mk {P : Program} {w : World} {K : PySem.W.Frag} {h : Heap} {mg : Str → Option Value} {fa fx fR CCounter CGroup CTeam CLeague CR CHall CDesk MANY_NUMBERS : Addr} {t_PINS t_FRAMES t_LAST t_MOST_GAMES t_MATCH_GAMES t_PLAYERS t_GAMES t_HUNDRED t_MOST_LANES t_MOST_PRICE t_MOST_GROUPS t_MOST_SIZE t_LEAST_TEAMS t_MOST_TEAMS t_LEAST_BASE t_MOST_BASE t_MOST_PERCENT t_WRONG t_FULL t_MOST_MATCHES t_GREATEST_SCORE t_NO_SUCH t_NOBODYS t_IS_SO t_OTHER_SIZE t_NOT_THERE : Tok} {odM odx anx : Option Addr} {itsM : Array Value} {nM : Nat} {slM slx : Array (Option Value)} {ocx kVx dcx pmx cdx ctx : Value} (X : K.In h) (G : h.Ns mainGlobals mg) (hfa : mg "answers" = some (.ref fa))
    (hgCounter : PySem.W.nsIn K mainGlobals "Counter" = some (some (.ref CCounter)))
    (hgGroup : PySem.W.nsIn K mainGlobals "Group" = some (some (.ref CGroup)))
    (hgTeam : PySem.W.nsIn K mainGlobals "Team" = some (some (.ref CTeam)))
    (hgLeague : PySem.W.nsIn K mainGlobals "League" = some (some (.ref CLeague)))
    (hgRefused : PySem.W.nsIn K mainGlobals "Refused" = some (some (.ref CR)))
    (hgHall : PySem.W.nsIn K mainGlobals "Hall" = some (some (.ref CHall)))
    (hgDesk : PySem.W.nsIn K mainGlobals "Desk" = some (some (.ref CDesk)))
    (hg_PINS : PySem.W.nsIn K mainGlobals "PINS" = some (some (.int (10) t_PINS)))
    (hg_FRAMES : PySem.W.nsIn K mainGlobals "FRAMES" = some (some (.int (10) t_FRAMES)))
    (hg_LAST : PySem.W.nsIn K mainGlobals "LAST" = some (some (.int (9) t_LAST)))
    (hg_MOST_GAMES : PySem.W.nsIn K mainGlobals "MOST_GAMES" = some (some (.int (20) t_MOST_GAMES)))
    (hg_MATCH_GAMES : PySem.W.nsIn K mainGlobals "MATCH_GAMES" = some (some (.int (3) t_MATCH_GAMES)))
    (hg_PLAYERS : PySem.W.nsIn K mainGlobals "PLAYERS" = some (some (.int (3) t_PLAYERS)))
    (hg_GAMES : PySem.W.nsIn K mainGlobals "GAMES" = some (some (.int (3) t_GAMES)))
    (hg_HUNDRED : PySem.W.nsIn K mainGlobals "HUNDRED" = some (some (.int (100) t_HUNDRED)))
    (hg_MOST_LANES : PySem.W.nsIn K mainGlobals "MOST_LANES" = some (some (.int (8) t_MOST_LANES)))
    (hg_MOST_PRICE : PySem.W.nsIn K mainGlobals "MOST_PRICE" = some (some (.int (10000) t_MOST_PRICE)))
    (hg_MOST_GROUPS : PySem.W.nsIn K mainGlobals "MOST_GROUPS" = some (some (.int (60) t_MOST_GROUPS)))
    (hg_MOST_SIZE : PySem.W.nsIn K mainGlobals "MOST_SIZE" = some (some (.int (6) t_MOST_SIZE)))
    (hg_LEAST_TEAMS : PySem.W.nsIn K mainGlobals "LEAST_TEAMS" = some (some (.int (2) t_LEAST_TEAMS)))
    (hg_MOST_TEAMS : PySem.W.nsIn K mainGlobals "MOST_TEAMS" = some (some (.int (8) t_MOST_TEAMS)))
    (hg_LEAST_BASE : PySem.W.nsIn K mainGlobals "LEAST_BASE" = some (some (.int (100) t_LEAST_BASE)))
    (hg_MOST_BASE : PySem.W.nsIn K mainGlobals "MOST_BASE" = some (some (.int (300) t_MOST_BASE)))
    (hg_MOST_PERCENT : PySem.W.nsIn K mainGlobals "MOST_PERCENT" = some (some (.int (100) t_MOST_PERCENT)))
    (hg_WRONG : PySem.W.nsIn K mainGlobals "WRONG" = some (some (.int (-22) t_WRONG)))
    (hg_FULL : PySem.W.nsIn K mainGlobals "FULL" = some (some (.int (-28) t_FULL)))
    (hg_MOST_MATCHES : PySem.W.nsIn K mainGlobals "MOST_MATCHES" = some (some (.int (200) t_MOST_MATCHES)))
    (hg_GREATEST_SCORE : PySem.W.nsIn K mainGlobals "GREATEST_SCORE" = some (some (.int (300) t_GREATEST_SCORE)))
    (hg_NO_SUCH : PySem.W.nsIn K mainGlobals "NO_SUCH" = some (some (.int (-2) t_NO_SUCH)))
    (hg_NOBODYS : PySem.W.nsIn K mainGlobals "NOBODYS" = some (some (.int (-6) t_NOBODYS)))
    (hg_IS_SO : PySem.W.nsIn K mainGlobals "IS_SO" = some (some (.int (-17) t_IS_SO)))
    (hg_OTHER_SIZE : PySem.W.nsIn K mainGlobals "OTHER_SIZE" = some (some (.int (-34) t_OTHER_SIZE)))
    (hg_NOT_THERE : PySem.W.nsIn K mainGlobals "NOT_THERE" = some (some (.int (-61) t_NOT_THERE)))
    (hg_MANY_NUMBERS : PySem.W.nsIn K mainGlobals "MANY_NUMBERS" = some (some (.ref MANY_NUMBERS)))
    (hq_MANY_NUMBERS : K.lookup MANY_NUMBERS = some ⟨.type "tuple", odM, .seq itsM nM, slM⟩)
    (hz_MANY_NUMBERS : itsM.size ≤ sizeLine)
    (hv_MANY_NUMBERS : Vals [.int 6, .int 2, .int 2, .int 1, .int 2, .int 0, .int 1, .int 1, .int 2, .int 1, .int 1, .int 2, .int 3, .int 2, .int 3, .int 1, .int 3, .int 1, .int 0, .int 2, .int 2, .int 2, .int 1, .int 0, .int 0] itsM.toList)
    (hn_len : PySem.W.nsIn K mainGlobals "len" = some none)
    (hn_min : PySem.W.nsIn K mainGlobals "min" = some none)
    (hn_max : PySem.W.nsIn K mainGlobals "max" = some none)
    (hn_int : PySem.W.nsIn K mainGlobals "int" = some none)
    (hn_sum : PySem.W.nsIn K mainGlobals "sum" = some none)
    (hn_range : PySem.W.nsIn K mainGlobals "range" = some none)
    (hn_enumerate : PySem.W.nsIn K mainGlobals "enumerate" = some none)
    (hn_zip : PySem.W.nsIn K mainGlobals "zip" = some none)
    (hn_list : PySem.W.nsIn K mainGlobals "list" = some none)
    (hn_dict : PySem.W.nsIn K mainGlobals "dict" = some none)
    (hn_sorted : PySem.W.nsIn K mainGlobals "sorted" = some none)
    (hlow : PySem.LowX.LowTxt K mg CR fR)
    (hc_Counter : Cls K CCounter)
    (ha_Counter_known : PySem.W.findIn K (.ref CCounter) "known" = some none)
    (hc_Group : Cls K CGroup)
    (ha_Group_size : PySem.W.findIn K (.ref CGroup) "size" = some none)
    (ha_Group_shoes : PySem.W.findIn K (.ref CGroup) "shoes" = some none)
    (ha_Group_rolls : PySem.W.findIn K (.ref CGroup) "rolls" = some none)
    (ha_Group_turns : PySem.W.findIn K (.ref CGroup) "turns" = some none)
    (ha_Group_finished : PySem.W.findIn K (.ref CGroup) "finished" = some none)
    (ha_Group_is_gone : PySem.W.findIn K (.ref CGroup) "is_gone" = some none)
    (ha_Group_team : PySem.W.findIn K (.ref CGroup) "team" = some none)
    (ha_Group_counted : PySem.W.findIn K (.ref CGroup) "counted" = some none)
    (hc_Team : Cls K CTeam)
    (ha_Team_points : PySem.W.findIn K (.ref CTeam) "points" = some none)
    (ha_Team_scores : PySem.W.findIn K (.ref CTeam) "scores" = some none)
    (hc_League : Cls K CLeague)
    (ha_League_teams : PySem.W.findIn K (.ref CLeague) "teams" = some none)
    (ha_League_base : PySem.W.findIn K (.ref CLeague) "base" = some none)
    (ha_League_percent : PySem.W.findIn K (.ref CLeague) "percent" = some none)
    (ha_League_matches : PySem.W.findIn K (.ref CLeague) "matches" = some none)
    (hc_Hall : Cls K CHall)
    (ha_Hall_price : PySem.W.findIn K (.ref CHall) "price" = some none)
    (ha_Hall_lend : PySem.W.findIn K (.ref CHall) "lend" = some none)
    (ha_Hall_owners : PySem.W.findIn K (.ref CHall) "owners" = some none)
    (ha_Hall_broken : PySem.W.findIn K (.ref CHall) "broken" = some none)
    (ha_Hall_groups : PySem.W.findIn K (.ref CHall) "groups" = some none)
    (ha_Hall_line : PySem.W.findIn K (.ref CHall) "line" = some none)
    (ha_Hall_taken : PySem.W.findIn K (.ref CHall) "taken" = some none)
    (ha_Hall_league : PySem.W.findIn K (.ref CHall) "league" = some none)
    (ha_Hall_counter : PySem.W.findIn K (.ref CHall) "counter" = some none)
    (hc_Desk : Cls K CDesk)
    (ha_Desk_hall : PySem.W.findIn K (.ref CDesk) "hall" = some none)
    (hf_size_of_frame : DefA K mg "size_of_frame" (top 4) ["number", "rolls"])
    (hf_frames_of : DefA K mg "frames_of" (top 5) ["rolls"])
    (hf_is_over : DefA K mg "is_over" (top 6) ["number", "frame"])
    (hf_frames_over : DefA K mg "frames_over" (top 7) ["rolls"])
    (hf_left_of : DefA K mg "left_of" (top 8) ["frame"])
    (hf_standing : DefA K mg "standing" (top 9) ["rolls"])
    (hf_counting : DefA K mg "counting" (top 10) ["number", "frame"])
    (hf_frame_scores : DefA K mg "frame_scores" (top 11) ["rolls"])
    (hf_Counter_init : InitA K mg "Counter" CCounter "Counter.__init__" (inClass (top 12) 0) ["self"])
    (hf_Counter_start_of : MethA K CCounter "start_of" "Counter.start_of" (inClass (top 12) 1) ["self", "rolls"])
    (hf_Counter_endings : MethA K CCounter "endings" "Counter.endings" (inClass (top 12) 2) ["self", "state"])
    (hf_Counter_ways : MethA K CCounter "ways" "Counter.ways" (inClass (top 12) 3) ["self", "rolls"])
    (hf_next_state : DefA K mg "next_state" (top 13) ["state", "roll"])
    (hf_Group_init : InitA K mg "Group" CGroup "Group.__init__" (inClass (top 17) 0) ["self", "size", "shoes"])
    (hf_Group_turn : MethA K CGroup "turn" "Group.turn" (inClass (top 17) 1) ["self"])
    (hf_Group_pins_standing : MethA K CGroup "pins_standing" "Group.pins_standing" (inClass (top 17) 2) ["self"])
    (hf_Group_is_full : MethA K CGroup "is_full" "Group.is_full" (inClass (top 17) 3) ["self"])
    (hf_Group_roll : MethA K CGroup "roll" "Group.roll" (inClass (top 17) 4) ["self", "pins"])
    (hf_Group_undo : MethA K CGroup "undo" "Group.undo" (inClass (top 17) 5) ["self"])
    (hf_Group_bill : MethA K CGroup "bill" "Group.bill" (inClass (top 17) 6) ["self", "price", "lend"])
    (hf_Group_become : MethA K CGroup "become" "Group.become" (inClass (top 17) 7) ["self", "team"])
    (hf_Group_has_match : MethA K CGroup "has_match" "Group.has_match" (inClass (top 17) 8) ["self"])
    (hf_Group_take_match : MethA K CGroup "take_match" "Group.take_match" (inClass (top 17) 9) ["self"])
    (hf_Team_init : InitA K mg "Team" CTeam "Team.__init__" (inClass (top 22) 0) ["self"])
    (hf_Team_average : MethA K CTeam "average" "Team.average" (inClass (top 22) 1) ["self", "player"])
    (hf_Team_pins : MethA K CTeam "pins" "Team.pins" (inClass (top 22) 2) ["self"])
    (hf_points_for : DefA K mg "points_for" (top 23) ["one", "other"])
    (hf_League_init : InitA K mg "League" CLeague "League.__init__" (inClass (top 24) 0) ["self", "teams", "base", "percent"])
    (hf_League_allowance : MethA K CLeague "allowance" "League.allowance" (inClass (top 24) 1) ["self", "team", "player"])
    (hf_League_totals : MethA K CLeague "totals" "League.totals" (inClass (top 24) 2) ["self", "team", "scores"])
    (hf_League_play : MethA K CLeague "play" "League.play" (inClass (top 24) 3) ["self", "one", "other", "scores", "others"])
    (hf_League_put : MethA K CLeague "put" "League.put" (inClass (top 24) 4) ["self", "team", "scores", "points"])
    (hf_League_order : MethA K CLeague "order" "League.order" (inClass (top 24) 5) ["self"])
    (hf_ask : DefA K mg "ask" (top 38) ["good", "refusal"])
    (hf_Hall_init : InitA K mg "Hall" CHall "Hall.__init__" (inClass (top 39) 0) ["self", "numbers"])
    (hf_Hall_free_lanes : MethA K CHall "free_lanes" "Hall.free_lanes" (inClass (top 39) 1) ["self"])
    (hf_Hall_give_lanes : MethA K CHall "give_lanes" "Hall.give_lanes" (inClass (top 39) 2) ["self"])
    (hf_Hall_come : MethA K CHall "come" "Hall.come" (inClass (top 39) 3) ["self", "size", "shoes"])
    (hf_Hall_bill : MethA K CHall "bill" "Hall.bill" (inClass (top 39) 4) ["self", "number"])
    (hf_Hall_go : MethA K CHall "go" "Hall.go" (inClass (top 39) 5) ["self", "number"])
    (hf_Hall_lane_of : MethA K CHall "lane_of" "Hall.lane_of" (inClass (top 39) 6) ["self", "number"])
    (hf_Hall_set_broken : MethA K CHall "set_broken" "Hall.set_broken" (inClass (top 39) 7) ["self", "lane", "is_broken"])
    (hf_Hall_is_team_taken : MethA K CHall "is_team_taken" "Hall.is_team_taken" (inClass (top 39) 8) ["self", "team"])
    (hf_need_group : DefA K mg "need_group" (top 49) ["hall", "number"])
    (hf_need_here : DefA K mg "need_here" (top 50) ["hall", "number"])
    (hf_need_player : DefA K mg "need_player" (top 51) ["hall", "number", "player"])
    (hf_ask_lane : DefA K mg "ask_lane" (top 52) ["hall", "lane"])
    (hf_need_owner : DefA K mg "need_owner" (top 53) ["hall", "lane"])
    (hf_become_team : DefA K mg "become_team" (top 54) ["hall", "number", "team"])
    (hf_go : DefA K mg "go" (top 55) ["hall", "number"])
    (hf_set_broken : DefA K mg "set_broken" (top 56) ["hall", "lane", "on"])
    (hf_tell_lane : DefA K mg "tell_lane" (top 57) ["hall", "lane"])
    (hf_where : DefA K mg "where" (top 58) ["hall", "number"])
    (hf_roll : DefA K mg "roll" (top 59) ["hall", "lane", "pins"])
    (hf_undo : DefA K mg "undo" (top 60) ["hall", "lane"])
    (hf_turn : DefA K mg "turn" (top 61) ["hall", "lane"])
    (hf_score : DefA K mg "score" (top 62) ["hall", "number", "player"])
    (hf_frame : DefA K mg "frame" (top 63) ["hall", "number", "player", "k"])
    (hf_score_range : DefA K mg "score_range" (top 64) ["hall", "number", "player"])
    (hf_ways : DefA K mg "ways" (top 65) ["hall", "number", "player", "wanted"])
    (hf_game : DefA K mg "game" (top 66) ["hall", "number", "i", "player"])
    (hf_match : DefA K mg "match" (top 67) ["hall", "one", "other"])
    (hf_need_team : DefA K mg "need_team" (top 68) ["hall", "team"])
    (hf_average : DefA K mg "average" (top 69) ["hall", "team", "player"])
    (hf_allowance : DefA K mg "allowance" (top 70) ["hall", "team", "player"])
    (hf_points : DefA K mg "points" (top 71) ["hall", "team"])
    (hf_of_hall : DefA K mg "of_hall" (top 72) ["hall", "call", "numbers"])
    (hf_of_games : DefA K mg "of_games" (top 73) ["hall", "call", "numbers"])
    (hf_of_league : DefA K mg "of_league" (top 74) ["hall", "call", "numbers"])
    (hf_Desk_init : InitA K mg "Desk" CDesk "Desk.__init__" (inClass (top 75) 0) ["self"])
    (hf_Desk_answer : MethA K CDesk "answer" "Desk.answer" (inClass (top 75) 1) ["self", "call", "numbers"])
    (hf_answered : DefA K mg "answered" (top 76) ["desk", "call", "numbers"])
    (ax : PySem.W.nsIn K mainGlobals "answers" = some (some (.ref fx))) (lx : K.lookup fx = some ⟨ocx, odx, .func (PySem.W.fnOf "answers" "answers" (defArgs s_answers) (defBody s_answers) (defScope s_answers) .none kVx dcx pmx anx cdx ctx), slx⟩) (cx : PySem.W.codeIn K cdx "answers" = true) (kx : PySem.W.keepIn K (.ref fx) = true) :
    ∃ fd : FuncData, (∀ (s : Shared) (us : List Value), us.length = (["calls"] : List Str).length → BindsTo s fd ⟨us, []⟩ ((["calls"] : List Str).zip us)) ∧ ∀ base : Heap, K.In base → base.Ns mainGlobals mg → FnOk P w K mg base CX0 41 fa fd ["calls"] (sp_end K) := by
  have e := hfa.symm.trans (PySem.W.mg_of X G ax)
  cases e
  have fx1 : DefA K mg "answers" (top 77) ["calls"] := defA_of X G ax lx cx kx (fun _ _ _ _ _ _ us hl => match us, hl with | [_], _ => rfl)
  have T : Txt K mg ⟨CCounter, CGroup, CTeam, CLeague, CR, CHall, CDesk, fR, MANY_NUMBERS⟩ := { g_PINS := ⟨t_PINS, PySem.W.mg_of X G hg_PINS⟩, g_FRAMES := ⟨t_FRAMES, PySem.W.mg_of X G hg_FRAMES⟩, g_LAST := ⟨t_LAST, PySem.W.mg_of X G hg_LAST⟩, g_MOST_GAMES := ⟨t_MOST_GAMES, PySem.W.mg_of X G hg_MOST_GAMES⟩, g_MATCH_GAMES := ⟨t_MATCH_GAMES, PySem.W.mg_of X G hg_MATCH_GAMES⟩, g_PLAYERS := ⟨t_PLAYERS, PySem.W.mg_of X G hg_PLAYERS⟩, g_GAMES := ⟨t_GAMES, PySem.W.mg_of X G hg_GAMES⟩, g_HUNDRED := ⟨t_HUNDRED, PySem.W.mg_of X G hg_HUNDRED⟩, g_MOST_LANES := ⟨t_MOST_LANES, PySem.W.mg_of X G hg_MOST_LANES⟩, g_MOST_PRICE := ⟨t_MOST_PRICE, PySem.W.mg_of X G hg_MOST_PRICE⟩, g_MOST_GROUPS := ⟨t_MOST_GROUPS, PySem.W.mg_of X G hg_MOST_GROUPS⟩, g_MOST_SIZE := ⟨t_MOST_SIZE, PySem.W.mg_of X G hg_MOST_SIZE⟩, g_LEAST_TEAMS := ⟨t_LEAST_TEAMS, PySem.W.mg_of X G hg_LEAST_TEAMS⟩, g_MOST_TEAMS := ⟨t_MOST_TEAMS, PySem.W.mg_of X G hg_MOST_TEAMS⟩, g_LEAST_BASE := ⟨t_LEAST_BASE, PySem.W.mg_of X G hg_LEAST_BASE⟩, g_MOST_BASE := ⟨t_MOST_BASE, PySem.W.mg_of X G hg_MOST_BASE⟩, g_MOST_PERCENT := ⟨t_MOST_PERCENT, PySem.W.mg_of X G hg_MOST_PERCENT⟩, g_WRONG := ⟨t_WRONG, PySem.W.mg_of X G hg_WRONG⟩, g_FULL := ⟨t_FULL, PySem.W.mg_of X G hg_FULL⟩, g_MOST_MATCHES := ⟨t_MOST_MATCHES, PySem.W.mg_of X G hg_MOST_MATCHES⟩, g_GREATEST_SCORE := ⟨t_GREATEST_SCORE, PySem.W.mg_of X G hg_GREATEST_SCORE⟩, g_NO_SUCH := ⟨t_NO_SUCH, PySem.W.mg_of X G hg_NO_SUCH⟩, g_NOBODYS := ⟨t_NOBODYS, PySem.W.mg_of X G hg_NOBODYS⟩, g_IS_SO := ⟨t_IS_SO, PySem.W.mg_of X G hg_IS_SO⟩, g_OTHER_SIZE := ⟨t_OTHER_SIZE, PySem.W.mg_of X G hg_OTHER_SIZE⟩, g_NOT_THERE := ⟨t_NOT_THERE, PySem.W.mg_of X G hg_NOT_THERE⟩, g_MANY_NUMBERS := PySem.W.mg_of X G hg_MANY_NUMBERS, q_MANY_NUMBERS := fun H => .inr ⟨_, itsM, nM, hq_MANY_NUMBERS, rfl, rfl, hz_MANY_NUMBERS, hv_MANY_NUMBERS⟩, n_len := PySem.W.mg_none_of X G hn_len, n_min := PySem.W.mg_none_of X G hn_min, n_max := PySem.W.mg_none_of X G hn_max, n_int := PySem.W.mg_none_of X G hn_int, n_sum := PySem.W.mg_none_of X G hn_sum, n_range := PySem.W.mg_none_of X G hn_range, n_enumerate := PySem.W.mg_none_of X G hn_enumerate, n_zip := PySem.W.mg_none_of X G hn_zip, n_list := PySem.W.mg_none_of X G hn_list, n_dict := PySem.W.mg_none_of X G hn_dict, n_sorted := PySem.W.mg_none_of X G hn_sorted, low := hlow, c_Counter := hc_Counter, a_Counter_known := ha_Counter_known, c_Group := hc_Group, a_Group_size := ha_Group_size, a_Group_shoes := ha_Group_shoes, a_Group_rolls := ha_Group_rolls, a_Group_turns := ha_Group_turns, a_Group_finished := ha_Group_finished, a_Group_is_gone := ha_Group_is_gone, a_Group_team := ha_Group_team, a_Group_counted := ha_Group_counted, c_Team := hc_Team, a_Team_points := ha_Team_points, a_Team_scores := ha_Team_scores, c_League := hc_League, a_League_teams := ha_League_teams, a_League_base := ha_League_base, a_League_percent := ha_League_percent, a_League_matches := ha_League_matches, c_Hall := hc_Hall, a_Hall_price := ha_Hall_price, a_Hall_lend := ha_Hall_lend, a_Hall_owners := ha_Hall_owners, a_Hall_broken := ha_Hall_broken, a_Hall_groups := ha_Hall_groups, a_Hall_line := ha_Hall_line, a_Hall_taken := ha_Hall_taken, a_Hall_league := ha_Hall_league, a_Hall_counter := ha_Hall_counter, c_Desk := hc_Desk, a_Desk_hall := ha_Desk_hall, f_size_of_frame := hf_size_of_frame, f_frames_of := hf_frames_of, f_is_over := hf_is_over, f_frames_over := hf_frames_over, f_left_of := hf_left_of, f_standing := hf_standing, f_counting := hf_counting, f_frame_scores := hf_frame_scores, f_Counter_init := hf_Counter_init, f_Counter_start_of := hf_Counter_start_of, f_Counter_endings := hf_Counter_endings, f_Counter_ways := hf_Counter_ways, f_next_state := hf_next_state, f_Group_init := hf_Group_init, f_Group_turn := hf_Group_turn, f_Group_pins_standing := hf_Group_pins_standing, f_Group_is_full := hf_Group_is_full, f_Group_roll := hf_Group_roll, f_Group_undo := hf_Group_undo, f_Group_bill := hf_Group_bill, f_Group_become := hf_Group_become, f_Group_has_match := hf_Group_has_match, f_Group_take_match := hf_Group_take_match, f_Team_init := hf_Team_init, f_Team_average := hf_Team_average, f_Team_pins := hf_Team_pins, f_points_for := hf_points_for, f_League_init := hf_League_init, f_League_allowance := hf_League_allowance, f_League_totals := hf_League_totals, f_League_play := hf_League_play, f_League_put := hf_League_put, f_League_order := hf_League_order, f_ask := hf_ask, f_Hall_init := hf_Hall_init, f_Hall_free_lanes := hf_Hall_free_lanes, f_Hall_give_lanes := hf_Hall_give_lanes, f_Hall_come := hf_Hall_come, f_Hall_bill := hf_Hall_bill, f_Hall_go := hf_Hall_go, f_Hall_lane_of := hf_Hall_lane_of, f_Hall_set_broken := hf_Hall_set_broken, f_Hall_is_team_taken := hf_Hall_is_team_taken, f_need_group := hf_need_group, f_need_here := hf_need_here, f_need_player := hf_need_player, f_ask_lane := hf_ask_lane, f_need_owner := hf_need_owner, f_become_team := hf_become_team, f_go := hf_go, f_set_broken := hf_set_broken, f_tell_lane := hf_tell_lane, f_where := hf_where, f_roll := hf_roll, f_undo := hf_undo, f_turn := hf_turn, f_score := hf_score, f_frame := hf_frame, f_score_range := hf_score_range, f_ways := hf_ways, f_game := hf_game, f_match := hf_match, f_need_team := hf_need_team, f_average := hf_average, f_allowance := hf_allowance, f_points := hf_points, f_of_hall := hf_of_hall, f_of_games := hf_of_games, f_of_league := hf_of_league, f_Desk_init := hf_Desk_init, f_Desk_answer := hf_Desk_answer, f_answered := hf_answered, f_answers := fx1 }
  exact ⟨PySem.W.fnOf "answers" "answers" (defArgs s_answers) (defBody s_answers) (defScope s_answers) .none kVx dcx pmx anx cdx ctx, fun s us hu => match us, hu with | [_], _ => .of_eq rfl, fun base _ _ => (fun_mk (st := s_answers) lx cx kx).ok sc_answers (l_answers (P := P) (w := w) (a := ⟨CCounter, CGroup, CTeam, CLeague, CR, CHall, CDesk, fR, MANY_NUMBERS⟩)) fun cdv A outer s H vs Q E hr h => ⟨_, d_answers (P := P) (w := w) (a := ⟨CCounter, CGroup, CTeam, CLeague, CR, CHall, CDesk, fR, MANY_NUMBERS⟩) T (ok_Desk_init T) (ok_answered T) hr, p_answers (P := P) (w := w) T h⟩⟩
end Bw

namespace Bw
theorem toNat_back (l : List Int) (hn : ∀ x ∈ l, 0 ≤ x) : nL (l.map Int.toNat) = l.map L2.V.int := by
  unfold nL nV
  rw [List.map_map]
  refine List.map_congr_left fun x hx => ?_
  show L2.V.int ((x.toNat : Nat) : Int) = _
  rw [Int.toNat_of_nonneg (hn x hx)]
theorem answers_short (l : List Int) (h : PyKyp.answers_asked l = true) : (PyKyp.answers l).length ≤ 10000000 := by
  unfold PyKyp.answers_asked at h
  split at h
  · cases h
  · simp only [Bool.and_eq_true] at h
    exact of_decide_eq_true h.2
end Bw
open PySem PySem.W PyProof.Rows
set_option maxRecDepth 100000 in
set_option maxHeartbeats 8000000 in
theorem PySem.Challenge.cw_bowlinghall_s01_answers_holds : PySem.Challenge.rw_bowlinghall_s01_answers.Holds := by
  w_on; k_headS; (case hw => exact ⟨[.list [.int 0, .int 9, .int 9, .int 9, .int 9, .int 9, .int 9]], by decide +kernel, by decide +kernel⟩)
  k_fillS
  refine L2.walk_specK (r := PySem.Challenge.rw_bowlinghall_s01_answers) (k := 41) (CX := L2.CX0) (ps := ["calls"]) (sp := Bw.sp_end) (by decide +kernel) rfl rfl ⟨rfl, by decide, by decide⟩ (fun w h Y => PySem.W.kIn_of Y) ?F ?S (fun _ _ _ _ z => z)
  case F =>
    intro w mg fa h Y KX G hmg
    refine' Bw.end_mk KX G hmg ?hgCounter ?hgGroup ?hgTeam ?hgLeague ?hgRefused ?hgHall ?hgDesk ?hg_PINS ?hg_FRAMES ?hg_LAST ?hg_MOST_GAMES ?hg_MATCH_GAMES ?hg_PLAYERS ?hg_GAMES ?hg_HUNDRED ?hg_MOST_LANES ?hg_MOST_PRICE ?hg_MOST_GROUPS ?hg_MOST_SIZE ?hg_LEAST_TEAMS ?hg_MOST_TEAMS ?hg_LEAST_BASE ?hg_MOST_BASE ?hg_MOST_PERCENT ?hg_WRONG ?hg_FULL ?hg_MOST_MATCHES ?hg_GREATEST_SCORE ?hg_NO_SUCH ?hg_NOBODYS ?hg_IS_SO ?hg_OTHER_SIZE ?hg_NOT_THERE ?hg_MANY_NUMBERS ?hq_MANY_NUMBERS ?hz_MANY_NUMBERS ?hv_MANY_NUMBERS ?hn_len ?hn_min ?hn_max ?hn_int ?hn_sum ?hn_range ?hn_enumerate ?hn_zip ?hn_list ?hn_dict ?hn_sorted ?hlow ?hc_Counter ?ha_Counter_known ?hc_Group ?ha_Group_size ?ha_Group_shoes ?ha_Group_rolls ?ha_Group_turns ?ha_Group_finished ?ha_Group_is_gone ?ha_Group_team ?ha_Group_counted ?hc_Team ?ha_Team_points ?ha_Team_scores ?hc_League ?ha_League_teams ?ha_League_base ?ha_League_percent ?ha_League_matches ?hc_Hall ?ha_Hall_price ?ha_Hall_lend ?ha_Hall_owners ?ha_Hall_broken ?ha_Hall_groups ?ha_Hall_line ?ha_Hall_taken ?ha_Hall_league ?ha_Hall_counter ?hc_Desk ?ha_Desk_hall ?hf_size_of_frame ?hf_frames_of ?hf_is_over ?hf_frames_over ?hf_left_of ?hf_standing ?hf_counting ?hf_frame_scores ?hf_Counter_init ?hf_Counter_start_of ?hf_Counter_endings ?hf_Counter_ways ?hf_next_state ?hf_Group_init ?hf_Group_turn ?hf_Group_pins_standing ?hf_Group_is_full ?hf_Group_roll ?hf_Group_undo ?hf_Group_bill ?hf_Group_become ?hf_Group_has_match ?hf_Group_take_match ?hf_Team_init ?hf_Team_average ?hf_Team_pins ?hf_points_for ?hf_League_init ?hf_League_allowance ?hf_League_totals ?hf_League_play ?hf_League_put ?hf_League_order ?hf_ask ?hf_Hall_init ?hf_Hall_free_lanes ?hf_Hall_give_lanes ?hf_Hall_come ?hf_Hall_bill ?hf_Hall_go ?hf_Hall_lane_of ?hf_Hall_set_broken ?hf_Hall_is_team_taken ?hf_need_group ?hf_need_here ?hf_need_player ?hf_ask_lane ?hf_need_owner ?hf_become_team ?hf_go ?hf_set_broken ?hf_tell_lane ?hf_where ?hf_roll ?hf_undo ?hf_turn ?hf_score ?hf_frame ?hf_score_range ?hf_ways ?hf_game ?hf_match ?hf_need_team ?hf_average ?hf_allowance ?hf_points ?hf_of_hall ?hf_of_games ?hf_of_league ?hf_Desk_init ?hf_Desk_answer ?hf_answered ?ax ?lx ?cx ?kx
    (case hgCounter => k_is)
    (case hgGroup => k_is)
    (case hgTeam => k_is)
    (case hgLeague => k_is)
    (case hgRefused => k_is)
    (case hgHall => k_is)
    (case hgDesk => k_is)
    (case hg_PINS => k_is)
    (case hg_FRAMES => k_is)
    (case hg_LAST => k_is)
    (case hg_MOST_GAMES => k_is)
    (case hg_MATCH_GAMES => k_is)
    (case hg_PLAYERS => k_is)
    (case hg_GAMES => k_is)
    (case hg_HUNDRED => k_is)
    (case hg_MOST_LANES => k_is)
    (case hg_MOST_PRICE => k_is)
    (case hg_MOST_GROUPS => k_is)
    (case hg_MOST_SIZE => k_is)
    (case hg_LEAST_TEAMS => k_is)
    (case hg_MOST_TEAMS => k_is)
    (case hg_LEAST_BASE => k_is)
    (case hg_MOST_BASE => k_is)
    (case hg_MOST_PERCENT => k_is)
    (case hg_WRONG => k_is)
    (case hg_FULL => k_is)
    (case hg_MOST_MATCHES => k_is)
    (case hg_GREATEST_SCORE => k_is)
    (case hg_NO_SUCH => k_is)
    (case hg_NOBODYS => k_is)
    (case hg_IS_SO => k_is)
    (case hg_OTHER_SIZE => k_is)
    (case hg_NOT_THERE => k_is)
    (case hg_MANY_NUMBERS => k_is)
    (case hq_MANY_NUMBERS => k_is)
    (case hz_MANY_NUMBERS => decide +kernel)
    (case hv_MANY_NUMBERS => repeat (first | exact L2.Paired.nil | exact Paired.nil | refine .cons ⟨_, rfl⟩ ?_))
    (case hn_len => k_is)
    (case hn_min => k_is)
    (case hn_max => k_is)
    (case hn_int => k_is)
    (case hn_sum => k_is)
    (case hn_range => k_is)
    (case hn_enumerate => k_is)
    (case hn_zip => k_is)
    (case hn_list => k_is)
    (case hn_dict => k_is)
    (case hn_sorted => k_is)
    (case hlow => refine' Bw.low_mk KX G ?aC ?xL ?sa ?ga ?gg ?nb ?a1 ?t1 ?l1 ?c1 ?kC ?eC ?tC ?hC ?iC ?sC; (case aC => k_is); (case xL => k_is); (case sa => k_is); (case ga => k_is); (case gg => k_is); (case nb => k_is); (case a1 => k_is); (case t1 => k_is); (case l1 => k_is); (case c1 => k_is); (case kC => k_is); (case eC => k_is); (case tC => k_is); (case hC => k_is); (case iC => k_is); (case sC => first | rfl | k_is))
    (case hc_Counter => refine' ⟨?pg, ?hd, ?po, ?sa⟩; (case pg => k_is); (case hd => k_is); (case po => k_is); (case sa => k_is))
    (case ha_Counter_known => k_is)
    (case hc_Group => refine' ⟨?pg, ?hd, ?po, ?sa⟩; (case pg => k_is); (case hd => k_is); (case po => k_is); (case sa => k_is))
    (case ha_Group_size => k_is)
    (case ha_Group_shoes => k_is)
    (case ha_Group_rolls => k_is)
    (case ha_Group_turns => k_is)
    (case ha_Group_finished => k_is)
    (case ha_Group_is_gone => k_is)
    (case ha_Group_team => k_is)
    (case ha_Group_counted => k_is)
    (case hc_Team => refine' ⟨?pg, ?hd, ?po, ?sa⟩; (case pg => k_is); (case hd => k_is); (case po => k_is); (case sa => k_is))
    (case ha_Team_points => k_is)
    (case ha_Team_scores => k_is)
    (case hc_League => refine' ⟨?pg, ?hd, ?po, ?sa⟩; (case pg => k_is); (case hd => k_is); (case po => k_is); (case sa => k_is))
    (case ha_League_teams => k_is)
    (case ha_League_base => k_is)
    (case ha_League_percent => k_is)
    (case ha_League_matches => k_is)
    (case hc_Hall => refine' ⟨?pg, ?hd, ?po, ?sa⟩; (case pg => k_is); (case hd => k_is); (case po => k_is); (case sa => k_is))
    (case ha_Hall_price => k_is)
    (case ha_Hall_lend => k_is)
    (case ha_Hall_owners => k_is)
    (case ha_Hall_broken => k_is)
    (case ha_Hall_groups => k_is)
    (case ha_Hall_line => k_is)
    (case ha_Hall_taken => k_is)
    (case ha_Hall_league => k_is)
    (case ha_Hall_counter => k_is)
    (case hc_Desk => refine' ⟨?pg, ?hd, ?po, ?sa⟩; (case pg => k_is); (case hd => k_is); (case po => k_is); (case sa => k_is))
    (case ha_Desk_hall => k_is)
    (case hf_size_of_frame => refine' Bw.defA_of KX G ?a ?l ?c ?k (fun _ _ _ _ _ _ us hl => match us, hl with | [_, _], _ => rfl); (case a => k_is); (case l => k_is); (case c => k_is); (case k => k_is))
    (case hf_frames_of => refine' Bw.defA_of KX G ?a ?l ?c ?k (fun _ _ _ _ _ _ us hl => match us, hl with | [_], _ => rfl); (case a => k_is); (case l => k_is); (case c => k_is); (case k => k_is))
    (case hf_is_over => refine' Bw.defA_of KX G ?a ?l ?c ?k (fun _ _ _ _ _ _ us hl => match us, hl with | [_, _], _ => rfl); (case a => k_is); (case l => k_is); (case c => k_is); (case k => k_is))
    (case hf_frames_over => refine' Bw.defA_of KX G ?a ?l ?c ?k (fun _ _ _ _ _ _ us hl => match us, hl with | [_], _ => rfl); (case a => k_is); (case l => k_is); (case c => k_is); (case k => k_is))
    (case hf_left_of => refine' Bw.defA_of KX G ?a ?l ?c ?k (fun _ _ _ _ _ _ us hl => match us, hl with | [_], _ => rfl); (case a => k_is); (case l => k_is); (case c => k_is); (case k => k_is))
    (case hf_standing => refine' Bw.defA_of KX G ?a ?l ?c ?k (fun _ _ _ _ _ _ us hl => match us, hl with | [_], _ => rfl); (case a => k_is); (case l => k_is); (case c => k_is); (case k => k_is))
    (case hf_counting => refine' Bw.defA_of KX G ?a ?l ?c ?k (fun _ _ _ _ _ _ us hl => match us, hl with | [_, _], _ => rfl); (case a => k_is); (case l => k_is); (case c => k_is); (case k => k_is))
    (case hf_frame_scores => refine' Bw.defA_of KX G ?a ?l ?c ?k (fun _ _ _ _ _ _ us hl => match us, hl with | [_], _ => rfl); (case a => k_is); (case l => k_is); (case c => k_is); (case k => k_is))
    (case hf_Counter_init => refine' Bw.initA_of KX G ?g ?mk ?kc ?a ?i ?l ?c ?k (fun _ _ _ _ _ _ us hl => match us, hl with | [_], _ => rfl); (case g => k_is); (case mk => k_is); (case kc => k_is); (case a => k_is); (case i => k_is); (case l => k_is); (case c => k_is); (case k => k_is))
    (case hf_Counter_start_of => refine' Bw.methA_of ?a ?i ?l ?c ?k ⟨?pg, ?hd, ?po, ?sa⟩ (fun _ _ _ _ _ _ us hl => match us, hl with | [_, _], _ => rfl); (case a => k_is); (case i => k_is); (case l => k_is); (case c => k_is); (case k => k_is); (case pg => k_is); (case hd => k_is); (case po => k_is); (case sa => k_is))
    (case hf_Counter_endings => refine' Bw.methA_of ?a ?i ?l ?c ?k ⟨?pg, ?hd, ?po, ?sa⟩ (fun _ _ _ _ _ _ us hl => match us, hl with | [_, _], _ => rfl); (case a => k_is); (case i => k_is); (case l => k_is); (case c => k_is); (case k => k_is); (case pg => k_is); (case hd => k_is); (case po => k_is); (case sa => k_is))
    (case hf_Counter_ways => refine' Bw.methA_of ?a ?i ?l ?c ?k ⟨?pg, ?hd, ?po, ?sa⟩ (fun _ _ _ _ _ _ us hl => match us, hl with | [_, _], _ => rfl); (case a => k_is); (case i => k_is); (case l => k_is); (case c => k_is); (case k => k_is); (case pg => k_is); (case hd => k_is); (case po => k_is); (case sa => k_is))
    (case hf_next_state => refine' Bw.defA_of KX G ?a ?l ?c ?k (fun _ _ _ _ _ _ us hl => match us, hl with | [_, _], _ => rfl); (case a => k_is); (case l => k_is); (case c => k_is); (case k => k_is))
    (case hf_Group_init => refine' Bw.initA_of KX G ?g ?mk ?kc ?a ?i ?l ?c ?k (fun _ _ _ _ _ _ us hl => match us, hl with | [_, _, _], _ => rfl); (case g => k_is); (case mk => k_is); (case kc => k_is); (case a => k_is); (case i => k_is); (case l => k_is); (case c => k_is); (case k => k_is))
    (case hf_Group_turn => refine' Bw.methA_of ?a ?i ?l ?c ?k ⟨?pg, ?hd, ?po, ?sa⟩ (fun _ _ _ _ _ _ us hl => match us, hl with | [_], _ => rfl); (case a => k_is); (case i => k_is); (case l => k_is); (case c => k_is); (case k => k_is); (case pg => k_is); (case hd => k_is); (case po => k_is); (case sa => k_is))
    (case hf_Group_pins_standing => refine' Bw.methA_of ?a ?i ?l ?c ?k ⟨?pg, ?hd, ?po, ?sa⟩ (fun _ _ _ _ _ _ us hl => match us, hl with | [_], _ => rfl); (case a => k_is); (case i => k_is); (case l => k_is); (case c => k_is); (case k => k_is); (case pg => k_is); (case hd => k_is); (case po => k_is); (case sa => k_is))
    (case hf_Group_is_full => refine' Bw.methA_of ?a ?i ?l ?c ?k ⟨?pg, ?hd, ?po, ?sa⟩ (fun _ _ _ _ _ _ us hl => match us, hl with | [_], _ => rfl); (case a => k_is); (case i => k_is); (case l => k_is); (case c => k_is); (case k => k_is); (case pg => k_is); (case hd => k_is); (case po => k_is); (case sa => k_is))
    (case hf_Group_roll => refine' Bw.methA_of ?a ?i ?l ?c ?k ⟨?pg, ?hd, ?po, ?sa⟩ (fun _ _ _ _ _ _ us hl => match us, hl with | [_, _], _ => rfl); (case a => k_is); (case i => k_is); (case l => k_is); (case c => k_is); (case k => k_is); (case pg => k_is); (case hd => k_is); (case po => k_is); (case sa => k_is))
    (case hf_Group_undo => refine' Bw.methA_of ?a ?i ?l ?c ?k ⟨?pg, ?hd, ?po, ?sa⟩ (fun _ _ _ _ _ _ us hl => match us, hl with | [_], _ => rfl); (case a => k_is); (case i => k_is); (case l => k_is); (case c => k_is); (case k => k_is); (case pg => k_is); (case hd => k_is); (case po => k_is); (case sa => k_is))
    (case hf_Group_bill => refine' Bw.methA_of ?a ?i ?l ?c ?k ⟨?pg, ?hd, ?po, ?sa⟩ (fun _ _ _ _ _ _ us hl => match us, hl with | [_, _, _], _ => rfl); (case a => k_is); (case i => k_is); (case l => k_is); (case c => k_is); (case k => k_is); (case pg => k_is); (case hd => k_is); (case po => k_is); (case sa => k_is))
    (case hf_Group_become => refine' Bw.methA_of ?a ?i ?l ?c ?k ⟨?pg, ?hd, ?po, ?sa⟩ (fun _ _ _ _ _ _ us hl => match us, hl with | [_, _], _ => rfl); (case a => k_is); (case i => k_is); (case l => k_is); (case c => k_is); (case k => k_is); (case pg => k_is); (case hd => k_is); (case po => k_is); (case sa => k_is))
    (case hf_Group_has_match => refine' Bw.methA_of ?a ?i ?l ?c ?k ⟨?pg, ?hd, ?po, ?sa⟩ (fun _ _ _ _ _ _ us hl => match us, hl with | [_], _ => rfl); (case a => k_is); (case i => k_is); (case l => k_is); (case c => k_is); (case k => k_is); (case pg => k_is); (case hd => k_is); (case po => k_is); (case sa => k_is))
    (case hf_Group_take_match => refine' Bw.methA_of ?a ?i ?l ?c ?k ⟨?pg, ?hd, ?po, ?sa⟩ (fun _ _ _ _ _ _ us hl => match us, hl with | [_], _ => rfl); (case a => k_is); (case i => k_is); (case l => k_is); (case c => k_is); (case k => k_is); (case pg => k_is); (case hd => k_is); (case po => k_is); (case sa => k_is))
    (case hf_Team_init => refine' Bw.initA_of KX G ?g ?mk ?kc ?a ?i ?l ?c ?k (fun _ _ _ _ _ _ us hl => match us, hl with | [_], _ => rfl); (case g => k_is); (case mk => k_is); (case kc => k_is); (case a => k_is); (case i => k_is); (case l => k_is); (case c => k_is); (case k => k_is))
    (case hf_Team_average => refine' Bw.methA_of ?a ?i ?l ?c ?k ⟨?pg, ?hd, ?po, ?sa⟩ (fun _ _ _ _ _ _ us hl => match us, hl with | [_, _], _ => rfl); (case a => k_is); (case i => k_is); (case l => k_is); (case c => k_is); (case k => k_is); (case pg => k_is); (case hd => k_is); (case po => k_is); (case sa => k_is))
    (case hf_Team_pins => refine' Bw.methA_of ?a ?i ?l ?c ?k ⟨?pg, ?hd, ?po, ?sa⟩ (fun _ _ _ _ _ _ us hl => match us, hl with | [_], _ => rfl); (case a => k_is); (case i => k_is); (case l => k_is); (case c => k_is); (case k => k_is); (case pg => k_is); (case hd => k_is); (case po => k_is); (case sa => k_is))
    (case hf_points_for => refine' Bw.defA_of KX G ?a ?l ?c ?k (fun _ _ _ _ _ _ us hl => match us, hl with | [_, _], _ => rfl); (case a => k_is); (case l => k_is); (case c => k_is); (case k => k_is))
    (case hf_League_init => refine' Bw.initA_of KX G ?g ?mk ?kc ?a ?i ?l ?c ?k (fun _ _ _ _ _ _ us hl => match us, hl with | [_, _, _, _], _ => rfl); (case g => k_is); (case mk => k_is); (case kc => k_is); (case a => k_is); (case i => k_is); (case l => k_is); (case c => k_is); (case k => k_is))
    (case hf_League_allowance => refine' Bw.methA_of ?a ?i ?l ?c ?k ⟨?pg, ?hd, ?po, ?sa⟩ (fun _ _ _ _ _ _ us hl => match us, hl with | [_, _, _], _ => rfl); (case a => k_is); (case i => k_is); (case l => k_is); (case c => k_is); (case k => k_is); (case pg => k_is); (case hd => k_is); (case po => k_is); (case sa => k_is))
    (case hf_League_totals => refine' Bw.methA_of ?a ?i ?l ?c ?k ⟨?pg, ?hd, ?po, ?sa⟩ (fun _ _ _ _ _ _ us hl => match us, hl with | [_, _, _], _ => rfl); (case a => k_is); (case i => k_is); (case l => k_is); (case c => k_is); (case k => k_is); (case pg => k_is); (case hd => k_is); (case po => k_is); (case sa => k_is))
    (case hf_League_play => refine' Bw.methA_of ?a ?i ?l ?c ?k ⟨?pg, ?hd, ?po, ?sa⟩ (fun _ _ _ _ _ _ us hl => match us, hl with | [_, _, _, _, _], _ => rfl); (case a => k_is); (case i => k_is); (case l => k_is); (case c => k_is); (case k => k_is); (case pg => k_is); (case hd => k_is); (case po => k_is); (case sa => k_is))
    (case hf_League_put => refine' Bw.methA_of ?a ?i ?l ?c ?k ⟨?pg, ?hd, ?po, ?sa⟩ (fun _ _ _ _ _ _ us hl => match us, hl with | [_, _, _, _], _ => rfl); (case a => k_is); (case i => k_is); (case l => k_is); (case c => k_is); (case k => k_is); (case pg => k_is); (case hd => k_is); (case po => k_is); (case sa => k_is))
    (case hf_League_order => refine' Bw.methA_of ?a ?i ?l ?c ?k ⟨?pg, ?hd, ?po, ?sa⟩ (fun _ _ _ _ _ _ us hl => match us, hl with | [_], _ => rfl); (case a => k_is); (case i => k_is); (case l => k_is); (case c => k_is); (case k => k_is); (case pg => k_is); (case hd => k_is); (case po => k_is); (case sa => k_is))
    (case hf_ask => refine' Bw.defA_of KX G ?a ?l ?c ?k (fun _ _ _ _ _ _ us hl => match us, hl with | [_, _], _ => rfl); (case a => k_is); (case l => k_is); (case c => k_is); (case k => k_is))
    (case hf_Hall_init => refine' Bw.initA_of KX G ?g ?mk ?kc ?a ?i ?l ?c ?k (fun _ _ _ _ _ _ us hl => match us, hl with | [_, _], _ => rfl); (case g => k_is); (case mk => k_is); (case kc => k_is); (case a => k_is); (case i => k_is); (case l => k_is); (case c => k_is); (case k => k_is))
    (case hf_Hall_free_lanes => refine' Bw.methA_of ?a ?i ?l ?c ?k ⟨?pg, ?hd, ?po, ?sa⟩ (fun _ _ _ _ _ _ us hl => match us, hl with | [_], _ => rfl); (case a => k_is); (case i => k_is); (case l => k_is); (case c => k_is); (case k => k_is); (case pg => k_is); (case hd => k_is); (case po => k_is); (case sa => k_is))
    (case hf_Hall_give_lanes => refine' Bw.methA_of ?a ?i ?l ?c ?k ⟨?pg, ?hd, ?po, ?sa⟩ (fun _ _ _ _ _ _ us hl => match us, hl with | [_], _ => rfl); (case a => k_is); (case i => k_is); (case l => k_is); (case c => k_is); (case k => k_is); (case pg => k_is); (case hd => k_is); (case po => k_is); (case sa => k_is))
    (case hf_Hall_come => refine' Bw.methA_of ?a ?i ?l ?c ?k ⟨?pg, ?hd, ?po, ?sa⟩ (fun _ _ _ _ _ _ us hl => match us, hl with | [_, _, _], _ => rfl); (case a => k_is); (case i => k_is); (case l => k_is); (case c => k_is); (case k => k_is); (case pg => k_is); (case hd => k_is); (case po => k_is); (case sa => k_is))
    (case hf_Hall_bill => refine' Bw.methA_of ?a ?i ?l ?c ?k ⟨?pg, ?hd, ?po, ?sa⟩ (fun _ _ _ _ _ _ us hl => match us, hl with | [_, _], _ => rfl); (case a => k_is); (case i => k_is); (case l => k_is); (case c => k_is); (case k => k_is); (case pg => k_is); (case hd => k_is); (case po => k_is); (case sa => k_is))
    (case hf_Hall_go => refine' Bw.methA_of ?a ?i ?l ?c ?k ⟨?pg, ?hd, ?po, ?sa⟩ (fun _ _ _ _ _ _ us hl => match us, hl with | [_, _], _ => rfl); (case a => k_is); (case i => k_is); (case l => k_is); (case c => k_is); (case k => k_is); (case pg => k_is); (case hd => k_is); (case po => k_is); (case sa => k_is))
    (case hf_Hall_lane_of => refine' Bw.methA_of ?a ?i ?l ?c ?k ⟨?pg, ?hd, ?po, ?sa⟩ (fun _ _ _ _ _ _ us hl => match us, hl with | [_, _], _ => rfl); (case a => k_is); (case i => k_is); (case l => k_is); (case c => k_is); (case k => k_is); (case pg => k_is); (case hd => k_is); (case po => k_is); (case sa => k_is))
    (case hf_Hall_set_broken => refine' Bw.methA_of ?a ?i ?l ?c ?k ⟨?pg, ?hd, ?po, ?sa⟩ (fun _ _ _ _ _ _ us hl => match us, hl with | [_, _, _], _ => rfl); (case a => k_is); (case i => k_is); (case l => k_is); (case c => k_is); (case k => k_is); (case pg => k_is); (case hd => k_is); (case po => k_is); (case sa => k_is))
    (case hf_Hall_is_team_taken => refine' Bw.methA_of ?a ?i ?l ?c ?k ⟨?pg, ?hd, ?po, ?sa⟩ (fun _ _ _ _ _ _ us hl => match us, hl with | [_, _], _ => rfl); (case a => k_is); (case i => k_is); (case l => k_is); (case c => k_is); (case k => k_is); (case pg => k_is); (case hd => k_is); (case po => k_is); (case sa => k_is))
    (case hf_need_group => refine' Bw.defA_of KX G ?a ?l ?c ?k (fun _ _ _ _ _ _ us hl => match us, hl with | [_, _], _ => rfl); (case a => k_is); (case l => k_is); (case c => k_is); (case k => k_is))
    (case hf_need_here => refine' Bw.defA_of KX G ?a ?l ?c ?k (fun _ _ _ _ _ _ us hl => match us, hl with | [_, _], _ => rfl); (case a => k_is); (case l => k_is); (case c => k_is); (case k => k_is))
    (case hf_need_player => refine' Bw.defA_of KX G ?a ?l ?c ?k (fun _ _ _ _ _ _ us hl => match us, hl with | [_, _, _], _ => rfl); (case a => k_is); (case l => k_is); (case c => k_is); (case k => k_is))
    (case hf_ask_lane => refine' Bw.defA_of KX G ?a ?l ?c ?k (fun _ _ _ _ _ _ us hl => match us, hl with | [_, _], _ => rfl); (case a => k_is); (case l => k_is); (case c => k_is); (case k => k_is))
    (case hf_need_owner => refine' Bw.defA_of KX G ?a ?l ?c ?k (fun _ _ _ _ _ _ us hl => match us, hl with | [_, _], _ => rfl); (case a => k_is); (case l => k_is); (case c => k_is); (case k => k_is))
    (case hf_become_team => refine' Bw.defA_of KX G ?a ?l ?c ?k (fun _ _ _ _ _ _ us hl => match us, hl with | [_, _, _], _ => rfl); (case a => k_is); (case l => k_is); (case c => k_is); (case k => k_is))
    (case hf_go => refine' Bw.defA_of KX G ?a ?l ?c ?k (fun _ _ _ _ _ _ us hl => match us, hl with | [_, _], _ => rfl); (case a => k_is); (case l => k_is); (case c => k_is); (case k => k_is))
    (case hf_set_broken => refine' Bw.defA_of KX G ?a ?l ?c ?k (fun _ _ _ _ _ _ us hl => match us, hl with | [_, _, _], _ => rfl); (case a => k_is); (case l => k_is); (case c => k_is); (case k => k_is))
    (case hf_tell_lane => refine' Bw.defA_of KX G ?a ?l ?c ?k (fun _ _ _ _ _ _ us hl => match us, hl with | [_, _], _ => rfl); (case a => k_is); (case l => k_is); (case c => k_is); (case k => k_is))
    (case hf_where => refine' Bw.defA_of KX G ?a ?l ?c ?k (fun _ _ _ _ _ _ us hl => match us, hl with | [_, _], _ => rfl); (case a => k_is); (case l => k_is); (case c => k_is); (case k => k_is))
    (case hf_roll => refine' Bw.defA_of KX G ?a ?l ?c ?k (fun _ _ _ _ _ _ us hl => match us, hl with | [_, _, _], _ => rfl); (case a => k_is); (case l => k_is); (case c => k_is); (case k => k_is))
    (case hf_undo => refine' Bw.defA_of KX G ?a ?l ?c ?k (fun _ _ _ _ _ _ us hl => match us, hl with | [_, _], _ => rfl); (case a => k_is); (case l => k_is); (case c => k_is); (case k => k_is))
    (case hf_turn => refine' Bw.defA_of KX G ?a ?l ?c ?k (fun _ _ _ _ _ _ us hl => match us, hl with | [_, _], _ => rfl); (case a => k_is); (case l => k_is); (case c => k_is); (case k => k_is))
    (case hf_score => refine' Bw.defA_of KX G ?a ?l ?c ?k (fun _ _ _ _ _ _ us hl => match us, hl with | [_, _, _], _ => rfl); (case a => k_is); (case l => k_is); (case c => k_is); (case k => k_is))
    (case hf_frame => refine' Bw.defA_of KX G ?a ?l ?c ?k (fun _ _ _ _ _ _ us hl => match us, hl with | [_, _, _, _], _ => rfl); (case a => k_is); (case l => k_is); (case c => k_is); (case k => k_is))
    (case hf_score_range => refine' Bw.defA_of KX G ?a ?l ?c ?k (fun _ _ _ _ _ _ us hl => match us, hl with | [_, _, _], _ => rfl); (case a => k_is); (case l => k_is); (case c => k_is); (case k => k_is))
    (case hf_ways => refine' Bw.defA_of KX G ?a ?l ?c ?k (fun _ _ _ _ _ _ us hl => match us, hl with | [_, _, _, _], _ => rfl); (case a => k_is); (case l => k_is); (case c => k_is); (case k => k_is))
    (case hf_game => refine' Bw.defA_of KX G ?a ?l ?c ?k (fun _ _ _ _ _ _ us hl => match us, hl with | [_, _, _, _], _ => rfl); (case a => k_is); (case l => k_is); (case c => k_is); (case k => k_is))
    (case hf_match => refine' Bw.defA_of KX G ?a ?l ?c ?k (fun _ _ _ _ _ _ us hl => match us, hl with | [_, _, _], _ => rfl); (case a => k_is); (case l => k_is); (case c => k_is); (case k => k_is))
    (case hf_need_team => refine' Bw.defA_of KX G ?a ?l ?c ?k (fun _ _ _ _ _ _ us hl => match us, hl with | [_, _], _ => rfl); (case a => k_is); (case l => k_is); (case c => k_is); (case k => k_is))
    (case hf_average => refine' Bw.defA_of KX G ?a ?l ?c ?k (fun _ _ _ _ _ _ us hl => match us, hl with | [_, _, _], _ => rfl); (case a => k_is); (case l => k_is); (case c => k_is); (case k => k_is))
    (case hf_allowance => refine' Bw.defA_of KX G ?a ?l ?c ?k (fun _ _ _ _ _ _ us hl => match us, hl with | [_, _, _], _ => rfl); (case a => k_is); (case l => k_is); (case c => k_is); (case k => k_is))
    (case hf_points => refine' Bw.defA_of KX G ?a ?l ?c ?k (fun _ _ _ _ _ _ us hl => match us, hl with | [_, _], _ => rfl); (case a => k_is); (case l => k_is); (case c => k_is); (case k => k_is))
    (case hf_of_hall => refine' Bw.defA_of KX G ?a ?l ?c ?k (fun _ _ _ _ _ _ us hl => match us, hl with | [_, _, _], _ => rfl); (case a => k_is); (case l => k_is); (case c => k_is); (case k => k_is))
    (case hf_of_games => refine' Bw.defA_of KX G ?a ?l ?c ?k (fun _ _ _ _ _ _ us hl => match us, hl with | [_, _, _], _ => rfl); (case a => k_is); (case l => k_is); (case c => k_is); (case k => k_is))
    (case hf_of_league => refine' Bw.defA_of KX G ?a ?l ?c ?k (fun _ _ _ _ _ _ us hl => match us, hl with | [_, _, _], _ => rfl); (case a => k_is); (case l => k_is); (case c => k_is); (case k => k_is))
    (case hf_Desk_init => refine' Bw.initA_of KX G ?g ?mk ?kc ?a ?i ?l ?c ?k (fun _ _ _ _ _ _ us hl => match us, hl with | [_], _ => rfl); (case g => k_is); (case mk => k_is); (case kc => k_is); (case a => k_is); (case i => k_is); (case l => k_is); (case c => k_is); (case k => k_is))
    (case hf_Desk_answer => refine' Bw.methA_of ?a ?i ?l ?c ?k ⟨?pg, ?hd, ?po, ?sa⟩ (fun _ _ _ _ _ _ us hl => match us, hl with | [_, _, _], _ => rfl); (case a => k_is); (case i => k_is); (case l => k_is); (case c => k_is); (case k => k_is); (case pg => k_is); (case hd => k_is); (case po => k_is); (case sa => k_is))
    (case hf_answered => refine' Bw.defA_of KX G ?a ?l ?c ?k (fun _ _ _ _ _ _ us hl => match us, hl with | [_, _, _], _ => rfl); (case a => k_is); (case l => k_is); (case c => k_is); (case k => k_is))
    (case ax => k_is); (case lx => k_is); (case cx => k_is); (case kx => k_is)
  case S =>
    intro K H xs a hO hwi hask hx
    cases hx with
    | cons h1 h2 =>
      cases h2
      cases h1 with
      | lst hs ha =>
        have e := L2.ints_dw a.1 _ ha
        subst e
        have q : ((Codec.inLen 0 30000 a.1 && a.1.all (Codec.inInt 0 4294967295)) && true) = true := hwi
        rw [Bool.and_eq_true, Bool.and_eq_true] at q
        have hn : ∀ x ∈ a.1, 0 ≤ x := fun x hx => by
          have h1 := List.all_eq_true.mp q.1.2 x hx
          unfold Codec.inInt at h1
          simp only [Bool.and_eq_true, decide_eq_true_eq] at h1
          exact h1.1
        have hask' : PyKyp.answers_asked a.1 = true := hask
        exact ⟨_, a.1.map Int.toNat, PyKyp.answers a.1, rfl, by rw [Bw.toNat_back a.1 hn]; exact hs, Bw.run_all a.1 hask' hn, Bw.answers_short a.1 hask', fun H' p hp => .lst (L2.SqL.of hp) (L2.dw_ints _)⟩

