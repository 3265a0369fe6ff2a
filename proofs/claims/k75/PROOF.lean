import PyProof.Rows.All
import Wide.All
import OpenK.AllK
import Wide.FinOn
import KE.KStateDown
import HandS.ForMost
import HandS.Deep
import HandS.More
import HandS.IsInst
import HandS.Zip
import HandS.TupAny
import HandS.TupMul
import HandS.SortKw
import HandS.SortInts
import HandS.Style
import HandS.Conv
import HandS.WordsExc
import HandS.Defaults
import HandS.Walk
import KE.DataEq
import KE.DataAny
import KE.DataMinMax
import KE.SortData
import KE.KRevSl
import PyProof.Rows.ListMulArg
import KE.GoesEnum
import KE.KTupSum
import PyProof.ListStr
import KE.LtSeq
import HandS.SetFor
import HandS.Iter
import HandS.TupSets
import HandS.Dict
import KE.KDictPairs
import HandS.Head0
import HandS.Head1
import HandS.Head2
import HandS.HeadEnd
import HandS.HeadHook1
import HandS.HeadHook2
import HandS.HeadHook3
import HandS.HeadHook4
import PyProof.StrLawsTight
import PyProof.Rows.StrCountLaw
import PyProof.Rows.StrFit
import HandS.Text
import PySem.Challenge.RW_stonepiles_k75_whole_worths_of_games
set_option Elab.async false
set_option linter.all false
set_option maxRecDepth 100000
set_option maxHeartbeats 0
/-! PL: the pure layer, 1: what a body computes, as a function of plain data. -/
namespace PL
open PySem
abbrev D := PyData
/-- a slot: nothing; a value that nobody changes; a list (dict) that this frame owns; one that the caller lent -/
inductive Sl where
  | non | pu (d : D) | own (d : D) | io (d : D)
  /-- a dict that nobody changes; under some texts lent dicts stand, told by their slots -/
  | fx (kjs : List (Str × Nat))
abbrev Rho := List Sl
/-- a value: plain; what stands in slot i (owned or lent); a new object that nobody else holds -/
inductive Vl where
  | pu (d : D) | sl (i : Nat) | nw (d : D)
abbrev FE := Rho → Option (Vl × Rho)
abbrev FT := Rho → Option (Bool × Rho)
abbrev FA := Rho → Option (List Vl × Rho)
abbrev FG := D → Rho → Option Rho
abbrev FI := Rho → Option (List D × Rho)
inductive Out where
  | nx (ρ : Rho) | rt (v : Vl) (ρ : Rho) | bk (ρ : Rho) | ct (ρ : Rho)
abbrev FS := Rho → Option Out
/-- an argument: plain, or lent -/
inductive Ar where
  | v (d : D) | m (d : D)
/-- what a def does: its answer, and what its lent arguments hold behind it -/
abbrev Mir := List Ar → Option (Vl × List D)

def stl : Vl → Vl
  | .nw d => .pu d
  | v => v
def cont (ρ : Rho) : Vl → Option D
  | .pu d => some d
  | .nw d => some d
  | .sl i => match ρ[i]? with
    | some (.own (.list ds)) => some (.list ds)
    | some (.io (.list ds)) => some (.list ds)
    | _ => none
def conts (ρ : Rho) : List Vl → Option (List D)
  | [] => some []
  | v :: vs => (cont ρ v).bind fun d => (conts ρ vs).bind fun ds => some (d :: ds)
/-- a list (dict) that an operator makes is new -/
def mk : D → Vl
  | .list ds => .nw (.list ds)
  | .dict ds => .nw (.dict ds)
  | d => .pu d

/-! ### expressions -/
def cVar (i : Nat) : FE := fun ρ => match ρ[i]? with
  | some (.pu d) => some (.pu d, ρ)
  | some (.own _) => some (.sl i, ρ)
  | some (.io _) => some (.sl i, ρ)
  | _ => none
def cC (d : D) : FE := fun ρ => some (.pu d, ρ)
def cOp (op : D → Option D) (a : FE) : FE := fun ρ => (a ρ).bind fun p => (cont p.2 p.1).bind fun x => (op x).bind fun r => some (.pu r, p.2)
def cOp2 (op : D → D → Option D) (a b : FE) : FE := fun ρ => (a ρ).bind fun p => (b p.2).bind fun q =>
  (cont q.2 (stl p.1)).bind fun x => (cont q.2 (stl q.1)).bind fun y => (op x y).bind fun r => some (.pu r, q.2)
def cOp2n (op : D → D → Option D) (a b : FE) : FE := fun ρ => (a ρ).bind fun p => (b p.2).bind fun q =>
  (cont q.2 (stl p.1)).bind fun x => (cont q.2 (stl q.1)).bind fun y => (op x y).bind fun r => some (mk r, q.2)
def cChain (op op' : D → D → Option D) (a b c : FE) : FE := fun ρ => (a ρ).bind fun p => (b p.2).bind fun q =>
  (cont q.2 (stl p.1)).bind fun x => (cont q.2 (stl q.1)).bind fun y => (op x y).bind fun r => match r with
    | .bool true => (c q.2).bind fun t => (cont t.2 (stl q.1)).bind fun y' => (cont t.2 (stl t.1)).bind fun z => (op' y' z).bind fun r' => some (.pu r', t.2)
    | .bool false => some (.pu (.bool false), q.2)
    | _ => none
def aNil : FA := fun ρ => some ([], ρ)
def aCons (a : FE) (as : FA) : FA := fun ρ => (a ρ).bind fun p => (as p.2).bind fun q => some (stl p.1 :: q.1, q.2)
/-- an operator over an argument list; n: a list that comes is new -/
def cOpA (op : List D → Option D) (as : FA) : FE := fun ρ => (as ρ).bind fun p => (conts p.2 p.1).bind fun ds => (op ds).bind fun r => some (.pu r, p.2)
def cOpAn (op : List D → Option D) (as : FA) : FE := fun ρ => (as ρ).bind fun p => (conts p.2 p.1).bind fun ds => (op ds).bind fun r => some (mk r, p.2)
def cAnd (a b : FE) : FE := fun ρ => (a ρ).bind fun p => match p.1 with
  | .pu (.bool true) => b p.2
  | .pu (.bool false) => some (.pu (.bool false), p.2)
  | _ => none
def cOr (a b : FE) : FE := fun ρ => (a ρ).bind fun p => match p.1 with
  | .pu (.bool true) => some (.pu (.bool true), p.2)
  | .pu (.bool false) => b p.2
  | _ => none
def cNot (t : FT) : FE := fun ρ => (t ρ).bind fun p => some (.pu (.bool (!p.1)), p.2)
def cIf (t : FT) (a b : FE) : FE := fun ρ => (t ρ).bind fun p => if p.1 = true then a p.2 else b p.2
/-! ### tests -/
def truD : D → Option Bool
  | .none => some false
  | .bool b => some b
  | .int i => some (i != 0)
  | .str x => some (!x.cps.toList.isEmpty)
  | .list xs => some (!xs.isEmpty)
  | .tuple xs => some (!xs.isEmpty)
  | .dict _ => none
def tTru (a : FE) : FT := fun ρ => (a ρ).bind fun p => (cont p.2 (stl p.1)).bind fun x => (truD x).bind fun k => some (k, p.2)
/-- a value that is a bool -/
def tBl (a : FE) : FT := fun ρ => (a ρ).bind fun p => match p.1 with
  | .pu (.bool k) => some (k, p.2)
  | _ => none
def tAnd (a b : FT) : FT := fun ρ => (a ρ).bind fun p => if p.1 = true then b p.2 else some (false, p.2)
def tOr (a b : FT) : FT := fun ρ => (a ρ).bind fun p => if p.1 = true then some (true, p.2) else b p.2
def tNot (a : FT) : FT := fun ρ => (a ρ).bind fun p => some (!p.1, p.2)
def tYes : FT := fun ρ => some (true, ρ)
/-! ### targets -/
def setS (i : Nat) (s : Sl) (ρ : Rho) : Option Rho := match ρ[i]? with
  | some (.io _) => none
  | some _ => some (ρ.set i s)
  | none => none
def gN (i : Nat) : FG := fun d ρ => setS i (.pu d) ρ
def gAll : List FG → List D → Rho → Option Rho
  | [], [], ρ => some ρ
  | g :: gs, d :: ds, ρ => (g d ρ).bind fun ρ' => gAll gs ds ρ'
  | _, _, _ => none
def gT (gs : List FG) : FG := fun d ρ => match d with
  | .tuple ds => gAll gs ds ρ
  | _ => none
/-! ### what is walked -/
def itemsOf : D → Option (List D)
  | .list ds => some ds
  | .tuple ds => some ds
  | .str x => some (x.cps.toList.map fun c => .str ⟨#[c]⟩)
  | _ => none
def iE (a : FE) : FI := fun ρ => (a ρ).bind fun p => match stl p.1 with
  | .pu d => (itemsOf d).bind fun ds => some (ds, p.2)
  | _ => none
def small (i : Int) : Bool := decide (-(2 ^ 62) ≤ i) && decide (i < 2 ^ 62)
def intsD (lo : Int) (n : Nat) : List D := (List.range n).map fun k => .int (lo + (k : Nat))
def iRg1 (a : FE) : FI := fun ρ => (a ρ).bind fun p => match p.1 with
  | .pu (.int j) => if small j = true then some (intsD 0 j.toNat, p.2) else none
  | _ => none
def iRg2 (a b : FE) : FI := fun ρ => (a ρ).bind fun p => (b p.2).bind fun q => match p.1, q.1 with
  | .pu (.int i), .pu (.int j) => if small i = true ∧ small j = true then some (intsD i (j - i).toNat, q.2) else none
  | _, _ => none
def enumD (ds : List D) : List D := ds.zipIdx.map fun p => .tuple [.int (p.2 : Nat), p.1]
def iEnum (a : FE) : FI := fun ρ => (a ρ).bind fun p => match stl p.1 with
  | .pu d => (itemsOf d).bind fun ds => some (enumD ds, p.2)
  | _ => none
def zipD (as bs : List D) : List D := (as.zip bs).map fun p => .tuple [p.1, p.2]
def iZip (a b : FE) : FI := fun ρ => (a ρ).bind fun p => (b p.2).bind fun q => match stl p.1, stl q.1 with
  | .pu (.list xs), .pu (.list ys) => some (zipD xs ys, q.2)
  | .pu (.tuple xs), .pu (.tuple ys) => some (zipD xs ys, q.2)
  | _, _ => none
/-! ### comprehensions -/
def wipeR (vs : List Nat) (ρ : Rho) : Rho := match vs with
  | [] => ρ
  | v :: vs => (wipeR vs ρ).set v .non
/-- the block's own slots as they stood ahead of it -/
def rst (vs : List Nat) (ρ0 ρ : Rho) : Rho := match vs with
  | [] => ρ
  | v :: vs => match ρ0[v]? with
    | some s => (rst vs ρ0 ρ).set v s
    | none => rst vs ρ0 ρ
def plainS : Option Sl → Bool
  | some .non => true
  | some (.pu _) => true
  | _ => false
def okW (vs : List Nat) (ρ : Rho) : Bool := vs.all fun v => plainS ρ[v]?
def lineN : Nat := 16777216
def compGo (vs : List Nat) (g : FG) (t : FT) (e : FE) : List D → Rho → Option (List D × Rho)
  | [], ρ => some ([], ρ)
  | x :: xs, ρ => (g x (wipeR vs ρ)).bind fun ρ1 => (t ρ1).bind fun p =>
    if p.1 = true then (e p.2).bind fun q => match stl q.1 with
      | .pu d => (compGo vs g t e xs q.2).bind fun r => some (d :: r.1, r.2)
      | _ => none
    else compGo vs g t e xs p.2
def cLc (vs : List Nat) (it : FI) (g : FG) (t : FT) (e : FE) : FE := fun ρ => (it ρ).bind fun p =>
  if okW vs p.2 = true then (compGo vs g t e p.1 p.2).bind fun r => if r.1.length ≤ lineN then some (.nw (.list r.1), rst vs p.2 r.2) else none
  else none
/-- two clauses: vs1 the second one's own names (all among vs) -/
def compGo2 (vs vs1 : List Nat) (g : FG) (t : FT) (it1 : FI) (g1 : FG) (t1 : FT) (e : FE) : List D → Rho → Option (List D × Rho)
  | [], ρ => some ([], ρ)
  | x :: xs, ρ => (g x (wipeR vs ρ)).bind fun ρ1 => (t ρ1).bind fun p =>
    if p.1 = true then (it1 p.2).bind fun q => (compGo vs1 g1 t1 e q.1 q.2).bind fun r => (compGo2 vs vs1 g t it1 g1 t1 e xs r.2).bind fun r2 => some (r.1 ++ r2.1, r2.2)
    else compGo2 vs vs1 g t it1 g1 t1 e xs p.2
def cLc2 (vs vs1 : List Nat) (it : FI) (g : FG) (t : FT) (it1 : FI) (g1 : FG) (t1 : FT) (e : FE) : FE := fun ρ => (it ρ).bind fun p =>
  if okW vs p.2 = true then (compGo2 vs vs1 g t it1 g1 t1 e p.1 p.2).bind fun r => if r.1.length ≤ lineN then some (.nw (.list r.1), rst vs p.2 r.2) else none
  else none
/-! ### calls -/
def toAr (ρ : Rho) : Vl → Option Ar
  | .pu d => some (.v d)
  | .nw d => some (.v d)
  | .sl i => match ρ[i]? with
    | some (.own d) => some (.m d)
    | some (.io d) => some (.m d)
    | _ => none
def toArs (ρ : Rho) : List Vl → Option (List Ar)
  | [] => some []
  | v :: vs => (toAr ρ v).bind fun a => (toArs ρ vs).bind fun as => some (a :: as)
def slotsOf : List Vl → List Nat
  | [] => []
  | .sl i :: vs => i :: slotsOf vs
  | _ :: vs => slotsOf vs
/-- what is lent holds another thing -/
def putS (i : Nat) (d : D) (ρ : Rho) : Option Rho := match ρ[i]? with
  | some (.own _) => some (ρ.set i (.own d))
  | some (.io _) => some (ρ.set i (.io d))
  | _ => none
def wb : List Nat → List D → Rho → Option Rho
  | [], [], ρ => some ρ
  | i :: is, d :: ds, ρ => (putS i d ρ).bind fun ρ' => wb is ds ρ'
  | _, _, _ => none
def cCall (m : Mir) (as : FA) : FE := fun ρ => (as ρ).bind fun p => (toArs p.2 p.1).bind fun ars =>
  if (slotsOf p.1).Nodup then (m ars).bind fun r => (wb (slotsOf p.1) r.2 p.2).bind fun ρ' => some (r.1, ρ') else none
/-! ### statements -/
def sAsg (i : Nat) (e : FE) : FS := fun ρ => (e ρ).bind fun p => match stl p.1 with
  | .pu d => (setS i (.pu d) p.2).bind fun ρ' => some (.nx ρ')
  | _ => none
/-- a new list (dict) that is changed later -/
def sNew (i : Nat) (e : FE) : FS := fun ρ => (e ρ).bind fun p => match p.1 with
  | .nw d => (setS i (.own d) p.2).bind fun ρ' => some (.nx ρ')
  | _ => none
/-- x = y, y owned and not used again -/
def sMv (i j : Nat) : FS := fun ρ => match ρ[j]? with
  | some (.own d) => if i = j then none else (setS i (.own d) (ρ.set j .non)).bind fun ρ' => some (.nx ρ')
  | _ => none
/-- from here on slot i is not changed -/
def frz (i : Nat) (ρ : Rho) : Rho := match ρ[i]? with
  | some (.own (.list ds)) => ρ.set i (.pu (.list ds))
  | _ => ρ
def sFrz (i : Nat) (f : FS) : FS := fun ρ => f (frz i ρ)
def sTgt (g : FG) (e : FE) : FS := fun ρ => (e ρ).bind fun p => match stl p.1 with
  | .pu d => (g d p.2).bind fun ρ' => some (.nx ρ')
  | _ => none
/-- a, b = x, y: k tells whether the value is kept as an owned list -/
def kp (k : Bool) (v : Vl) : Vl := if k = true then v else stl v
def setV (k : Bool) (i : Nat) (v : Vl) (ρ : Rho) : Option Rho := match k, v with
  | true, .nw d => setS i (.own d) ρ
  | false, .pu d => setS i (.pu d) ρ
  | _, _ => none
def sPar2 (k l : Bool) (i j : Nat) (a b : FE) : FS := fun ρ => (a ρ).bind fun p => (b p.2).bind fun q =>
  (setV k i (kp k p.1) q.2).bind fun ρ1 => (setV l j (kp l q.1) ρ1).bind fun ρ2 => some (.nx ρ2)
/-- none of them kept as an owned list -/
def setAll : List Nat → List Vl → Rho → Option Rho
  | [], [], ρ => some ρ
  | i :: is, .pu d :: vs, ρ => (setS i (.pu d) ρ).bind fun ρ' => setAll is vs ρ'
  | _, _, _ => none
def sParA (is : List Nat) (as : FA) : FS := fun ρ => (as ρ).bind fun p => (setAll is p.1 p.2).bind fun ρ' => some (.nx ρ')
def sApp (i : Nat) (e : FE) : FS := fun ρ => (cont ρ (.sl i)).bind fun _ => (e ρ).bind fun p => match stl p.1, cont p.2 (.sl i) with
  | .pu d, some (.list ds) => if ds.length < lineN then (putS i (.list (ds ++ [d])) p.2).bind fun ρ' => some (.nx ρ') else none
  | _, _ => none
def ixD (n : Nat) (i : Int) : Option Nat := if 0 ≤ i then (if i < n then some i.toNat else none) else if -(n : Int) ≤ i then some (i + n).toNat else none
/-- x[k] = e, x a list in slot i -/
def sSet (i : Nat) (k e : FE) : FS := fun ρ => (e ρ).bind fun p => (k p.2).bind fun q => match stl p.1, q.1, cont q.2 (.sl i) with
  | .pu d, .pu (.int j), some (.list ds) => (ixD ds.length j).bind fun n => (putS i (.list (ds.set n d)) q.2).bind fun ρ' => some (.nx ρ')
  | _, _, _ => none
def sExp (e : FE) : FS := fun ρ => (e ρ).bind fun p => some (.nx p.2)
def sRet (e : FE) : FS := fun ρ => (e ρ).bind fun p => some (.rt p.1 p.2)
def sRetN : FS := fun ρ => some (.rt (.pu .none) ρ)
def sPass : FS := fun ρ => some (.nx ρ)
def sBrk : FS := fun ρ => some (.bk ρ)
def sCont : FS := fun ρ => some (.ct ρ)
def sNever : FS := fun _ => none
def sSeq (a b : FS) : FS := fun ρ => (a ρ).bind fun o => match o with
  | .nx ρ' => b ρ'
  | o => some o
def sIf (t : FT) (a b : FS) : FS := fun ρ => (t ρ).bind fun p => if p.1 = true then a p.2 else b p.2
def forGo (g : FG) (b : FS) : List D → Rho → Option Out
  | [], ρ => some (.nx ρ)
  | x :: xs, ρ => (g x ρ).bind fun ρ1 => (b ρ1).bind fun o => match o with
    | .nx ρ2 => forGo g b xs ρ2
    | .ct ρ2 => forGo g b xs ρ2
    | .bk ρ2 => some (.nx ρ2)
    | .rt v ρ2 => some (.rt v ρ2)
def sFor (it : FI) (g : FG) (b : FS) : FS := fun ρ => (it ρ).bind fun p => forGo g b p.1 p.2
def whileGo (t : FT) (b : FS) : Nat → Rho → Option Out
  | 0, _ => none
  | n + 1, ρ => (t ρ).bind fun p => if p.1 = true then (b p.2).bind fun o => match o with
      | .nx ρ2 => whileGo t b n ρ2
      | .ct ρ2 => whileGo t b n ρ2
      | .bk ρ2 => some (.nx ρ2)
      | .rt v ρ2 => some (.rt v ρ2)
    else some (.nx p.2)
def fuelN : Nat := 1000000000
def sWhile (t : FT) (b : FS) : FS := fun ρ => whileGo t b fuelN ρ
/-! ### a def -/
def arS : Ar → Sl
  | .v d => .pu d
  | .m d => .io d
/-- what the lent arguments hold: the parameters come first -/
def outsOf : List Ar → Rho → Option (List D)
  | [], _ => some []
  | .v _ :: as, _ :: ρ => outsOf as ρ
  | .m _ :: as, .io d :: ρ => (outsOf as ρ).bind fun ds => some (d :: ds)
  | _, _ => none
def retV (ρ : Rho) : Vl → Option Vl
  | .sl i => match ρ[i]? with
    | some (.own (.list ds)) => some (.nw (.list ds))
    | _ => none
  | v => some v
/-- n slots, p parameters -/
def runDef (p n : Nat) (b : FS) : Mir := fun ars => if ars.length = p then
  (b (ars.map arS ++ List.replicate (n - p) .non)).bind fun o => match o with
    | .nx ρ => (outsOf ars ρ).bind fun ds => some (.pu .none, ds)
    | .rt v ρ => (retV ρ v).bind fun v' => (outsOf ars ρ).bind fun ds => some (v', ds)
    | _ => none
  else none
end PL

/-! PL: the pure layer, 2: soundness over the hand layer. -/
namespace PL
open PySem PySem.Spec PyProof.Rows L2

/-! ### plain data: as L2.Dp, the tuples tracked -/
mutual
inductive Dp (K : PySem.W.Frag) (H : Hp) : V → D → Prop
  | non : Dp K H .non .none
  | bl (b : Bool) : Dp K H (.bl b) (.bool b)
  | int (i : Int) : Dp K H (.int i) (.int i)
  | str (x : Str) : Dp K H (.str x) (.str x)
  | lst {a : Addr} {xs : List V} {ds : List D} : SqL K H a xs → DpAll K H xs ds → Dp K H (.ref a) (.list ds)
  | tup {a : Addr} {xs : List V} {ds : List D} : H a = some (.tup xs) → DpAll K H xs ds → Dp K H (.ref a) (.tuple ds)
inductive DpAll (K : PySem.W.Frag) (H : Hp) : List V → List D → Prop
  | nil : DpAll K H [] []
  | cons {v : V} {vs : List V} {d : D} {ds : List D} : Dp K H v d → DpAll K H vs ds → DpAll K H (v :: vs) (d :: ds)
end
mutual
theorem Dp.up {K : PySem.W.Frag} {H : Hp} : ∀ (d : D) (v : V), Dp K H v d → L2.Dp K H v d
  | .none, _, h => by cases h; exact .non
  | .bool b, _, h => by cases h; exact .bl b
  | .int i, _, h => by cases h; exact .int i
  | .str x, _, h => by cases h; exact .str x
  | .list ds, _, h => by
    cases h with
    | lst hs ha => exact .lst hs (Dp.upAll ds _ ha)
  | .tuple ds, _, h => by
    cases h with
    | tup hs ha => exact .tup (SqT.of hs) (Dp.upAll ds _ ha)
  | .dict _, _, h => by cases h
theorem Dp.upAll {K : PySem.W.Frag} {H : Hp} : ∀ (ds : List D) (vs : List V), DpAll K H vs ds → L2.DpAll K H vs ds
  | [], _, h => by cases h; exact .nil
  | d :: ds, _, h => by
    cases h with
    | cons h1 h2 => exact .cons (Dp.up d _ h1) (Dp.upAll ds _ h2)
end
theorem Dp.reads {X : Cx} {pins : List (Addr × Obj)} {σ : L2.St} {H : Hp} {s : Shared} (I : Inv X pins σ H s) (d : D) (v : V) (u : Value) (h : Dp X.K H v d) (r : RelV v u) : ∃ as, Reads s.heap u d as := L2.Dp.reads I d v u (Dp.up d v h) r
/-! ### data in a growing heap -/
theorem seqT {K : PySem.W.Frag} {H H' : Hp} {a : Addr} {xs : List V} (e : Same H H') (h : SqT K H a xs) : SqT K H' a xs := by
  rcases h with (h | ⟨o, h⟩) | h
  · exact .inl (.inl (e _ _ h))
  · exact .inl (.inr ⟨o, e _ _ h⟩)
  · exact .inr h
mutual
theorem dpM {K : PySem.W.Frag} {G G' : Hp} (e : Same G G') : ∀ (d : D) (v : V), Dp K G v d → Dp K G' v d
  | .none, _, h => by cases h; exact .non
  | .bool b, _, h => by cases h; exact .bl b
  | .int i, _, h => by cases h; exact .int i
  | .str x, _, h => by cases h; exact .str x
  | .list ds, _, h => by
    cases h with
    | lst hs ha => exact .lst (e.seq hs) (dpsM e ds _ ha)
  | .tuple ds, _, h => by
    cases h with
    | tup hs ha => exact .tup (e _ _ hs) (dpsM e ds _ ha)
  | .dict _, _, h => by cases h
theorem dpsM {K : PySem.W.Frag} {G G' : Hp} (e : Same G G') : ∀ (ds : List D) (vs : List V), DpAll K G vs ds → DpAll K G' vs ds
  | [], _, h => by cases h; exact .nil
  | d :: ds, _, h => by
    cases h with
    | cons h1 h2 => exact .cons (dpM e d _ h1) (dpsM e ds _ h2)
end
section
variable {K : PySem.W.Frag} {G G' H H' : Hp}
theorem dps_len : ∀ {vs : List V} {ds : List D}, DpAll K G vs ds → vs.length = ds.length
  | [], _, h => by cases h; rfl
  | _ :: _, _, h => by
    cases h with
    | cons _ h2 => simp [dps_len h2]
theorem dps_get : ∀ {vs : List V} {ds : List D} {i : Nat} {v : V}, DpAll K G vs ds → vs[i]? = some v → ∃ d, ds[i]? = some d ∧ Dp K G v d
  | [], _, _, _, h, e => by simp at e
  | _ :: _, _, 0, _, h, e => by
    cases h with
    | cons h1 _ => simp at e; subst e; exact ⟨_, rfl, h1⟩
  | _ :: _, _, i + 1, _, h, e => by
    cases h with
    | cons _ h2 =>
      obtain ⟨d, e1, e2⟩ := dps_get (i := i) h2 (by simpa using e)
      exact ⟨d, by simpa using e1, e2⟩
theorem dps_getD : ∀ {vs : List V} {ds : List D} {i : Nat} {d : D}, DpAll K G vs ds → ds[i]? = some d → ∃ v, vs[i]? = some v ∧ Dp K G v d
  | _, [], _, _, h, e => by simp at e
  | _, _ :: _, 0, _, h, e => by
    cases h with
    | cons h1 _ => simp at e; subst e; exact ⟨_, rfl, h1⟩
  | _, _ :: _, i + 1, _, h, e => by
    cases h with
    | cons _ h2 =>
      obtain ⟨d, e1, e2⟩ := dps_getD (i := i) h2 (by simpa using e)
      exact ⟨d, by simpa using e1, e2⟩
theorem dps_app : ∀ {vs ws : List V} {ds es : List D}, DpAll K G vs ds → DpAll K G ws es → DpAll K G (vs ++ ws) (ds ++ es)
  | [], _, _, _, h, k => by cases h; exact k
  | _ :: _, _, _, _, h, k => by
    cases h with
    | cons h1 h2 => exact .cons h1 (dps_app h2 k)
theorem dps_take : ∀ (n : Nat) {vs : List V} {ds : List D}, DpAll K G vs ds → DpAll K G (vs.take n) (ds.take n)
  | 0, _, _, _ => by simp; exact .nil
  | n + 1, _, _, h => by
    cases h with
    | nil => exact .nil
    | cons h1 h2 => exact .cons h1 (dps_take n h2)
theorem dps_drop : ∀ (n : Nat) {vs : List V} {ds : List D}, DpAll K G vs ds → DpAll K G (vs.drop n) (ds.drop n)
  | 0, _, _, h => by simpa using h
  | n + 1, _, _, h => by
    cases h with
    | nil => exact .nil
    | cons h1 h2 => exact dps_drop n h2
theorem dps_set : ∀ {vs : List V} {ds : List D} (n : Nat) {v : V} {d : D}, DpAll K G vs ds → Dp K G v d → DpAll K G (vs.set n v) (ds.set n d)
  | [], _, _, _, _, h, _ => by cases h; exact .nil
  | _ :: _, _, 0, _, _, h, k => by
    cases h with
    | cons h1 h2 => exact .cons k h2
  | _ :: _, _, n + 1, _, _, h, k => by
    cases h with
    | cons h1 h2 => exact .cons h1 (dps_set n h2 k)
theorem dps_rev {vs : List V} {ds : List D} (h : DpAll K G vs ds) : DpAll K G vs.reverse ds.reverse := by
  induction vs generalizing ds with
  | nil => cases h; exact .nil
  | cons v vs ih =>
    cases h with
    | cons h1 h2 =>
      simp only [List.reverse_cons]
      exact dps_app (ih h2) (.cons h1 .nil)
end

/-- an object that is no tuple -/
def NT (o : HO) : Prop := ∀ xs, o ≠ .tup xs
/-- nothing stands there, or a tuple: G may take it in -/
def Lax (H : Hp) (b : Addr) : Prop := H b = none ∨ ∃ xs, H b = some (.tup xs)
theorem Lax.no {H : Hp} {b : Addr} {o : HO} (q : Lax H b) (h : H b = some o) (n : NT o) : False := by
  rcases q with q | ⟨xs, q⟩
  · rw [h] at q; cases q
  · rw [h] at q; cases q; exact n xs rfl
theorem lax_ne {H : Hp} {p b : Addr} {o : HO} (h : b ≠ p) : Lax (upd H p o) b ↔ Lax H b := by
  unfold Lax
  rw [upd_ne h]
/-! ### dicts -/
def kD : L2.Key → D
  | .inl i => .int i
  | .inr s => .str s
def kT (k : List L2.Key) : D := .tuple (k.map kD)
def Ent {κ : Type} (K : PySem.W.Frag) (G : Hp) (f : κ → D) (es : List (κ × V)) (kvs : List (D × D)) : Prop := Paired (fun e kv => kv.1 = f e.1 ∧ Dp K G e.2 kv.2) es kvs
theorem Ent.mono {κ : Type} {K : PySem.W.Frag} {G G' : Hp} {f : κ → D} (e : Same G G') : ∀ {es : List (κ × V)} {kvs : List (D × D)}, Ent K G f es kvs → Ent K G' f es kvs
  | _, _, .nil => .nil
  | _, _, .cons r t => .cons ⟨r.1, dpM e _ _ r.2⟩ (Ent.mono e t)
def OwnDict (K : PySem.W.Frag) (G H : Hp) (a : Addr) (kvs : List (D × D)) : Prop :=
  (∃ es : List (L2.Key × V), H a = some (.dK es) ∧ Ent K G kD es kvs) ∨ (∃ es : List (List L2.Key × V), H a = some (.dT es) ∧ Ent K G kT es kvs)
/-- an owned (lent) list -/
def OwnL (K : PySem.W.Frag) (G H : Hp) (a : Addr) : D → Prop
  | .list ds => ∃ xs, H a = some (.lst xs) ∧ DpAll K G xs ds
  | _ => False
/-- an owned (lent) object -/
def Own (K : PySem.W.Frag) (G H : Hp) (a : Addr) : D → Prop
  | .list ds => ∃ xs, H a = some (.lst xs) ∧ DpAll K G xs ds
  | .dict kvs => OwnDict K G H a kvs
  | _ => False
theorem OwnL.own {K : PySem.W.Frag} {G H : Hp} {a : Addr} {d : D} (h : OwnL K G H a d) : Own K G H a d := by
  cases d with
  | list ds => exact h
  | _ => exact h.elim
theorem OwnL.keep {K : PySem.W.Frag} {G G' H H' : Hp} {a : Addr} {d : D} (e : Same G G') (k : ∀ o, H a = some o → H' a = some o) (h : OwnL K G H a d) : OwnL K G' H' a d := by
  cases d with
  | list ds =>
    obtain ⟨xs, h1, h2⟩ := h
    exact ⟨xs, k _ h1, dpsM e _ _ h2⟩
  | _ => exact h.elim
theorem Own.keep {K : PySem.W.Frag} {G G' H H' : Hp} {a : Addr} {d : D} (e : Same G G') (k : ∀ o, H a = some o → H' a = some o) (h : Own K G H a d) : Own K G' H' a d := by
  cases d with
  | list ds =>
    obtain ⟨xs, h1, h2⟩ := h
    exact ⟨xs, k _ h1, dpsM e _ _ h2⟩
  | dict kvs =>
    rcases h with ⟨es, h1, h2⟩ | ⟨es, h1, h2⟩
    · exact .inl ⟨es, k _ h1, h2.mono e⟩
    · exact .inr ⟨es, k _ h1, h2.mono e⟩
  | _ => exact h.elim
theorem Own.nt {K : PySem.W.Frag} {G H : Hp} {a : Addr} {d : D} (h : Own K G H a d) : ∃ o, H a = some o ∧ NT o := by
  cases d with
  | list ds =>
    obtain ⟨xs, h1, h2⟩ := h
    exact ⟨_, h1, fun _ z => nomatch z⟩
  | dict kvs =>
    rcases h with ⟨es, h1, h2⟩ | ⟨es, h1, h2⟩
    · exact ⟨_, h1, fun _ z => nomatch z⟩
    · exact ⟨_, h1, fun _ z => nomatch z⟩
  | _ => exact h.elim
theorem Own.there {K : PySem.W.Frag} {G H : Hp} {a : Addr} {d : D} (h : Own K G H a d) : ∃ o, H a = some o := by
  obtain ⟨o, h1, _⟩ := h.nt
  exact ⟨o, h1⟩
def mtb : Option Sl → Bool
  | some (.own _) => true
  | some (.io _) => true
  | _ => false

/-- the state: G is what nobody changes any more (G0 of it stood at the entry, H0 all that stood then), ioA the lent objects by their slots -/
structure Sg (K : PySem.W.Frag) (ioA : Nat → Option Addr) (G0 H0 G H : Hp) (σ : L2.St) (ρ : Rho) : Prop where
  len : σ.length = ρ.length
  sub : Same G H
  g0 : Same G0 G
  new : ∀ b o, G b = some o → (∃ o', G0 b = some o') ∨ Lax H0 b
  fr : ∀ b o, H0 b = some o → (∀ i, ioA i ≠ some b) → H b = some o
  ioh : ∀ i b, ioA i = some b → (∃ o, H b = some o ∧ NT o) ∧ G b = none ∧ ∃ o, H0 b = some o ∧ NT o
  pu : ∀ (i : Nat) (d : D), ρ[i]? = some (.pu d) → ∃ v, σ[i]? = some (some v) ∧ Dp K G v d
  own : ∀ (i : Nat) (d : D), ρ[i]? = some (.own d) → ∃ a, σ[i]? = some (some (.ref a)) ∧ G a = none ∧ H0 a = none ∧ Own K G H a d
  io : ∀ (i : Nat) (d : D), ρ[i]? = some (.io d) → ∃ a, ioA i = some a ∧ σ[i]? = some (some (.ref a)) ∧ Own K G H a d
  apart : ∀ (i j : Nat) (a : Addr), mtb ρ[i]? = true → mtb ρ[j]? = true → σ[i]? = some (some (.ref a)) → σ[j]? = some (some (.ref a)) → i = j
  fx : ∀ (i : Nat) (kjs : List (Str × Nat)), ρ[i]? = some (.fx kjs) → ∃ a es, σ[i]? = some (some (.ref a)) ∧ G0 a = some (.dK es) ∧ ∀ (k : Str) (j : Nat), kjs.lookup k = some j → ∃ b, L2.valV es (.inr k) = some (.ref b) ∧ ioA j = some b

def RepV (K : PySem.W.Frag) (H0 G H : Hp) (σ : L2.St) (ρ : Rho) (v : V) : Vl → Prop
  | .pu d => Dp K G v d
  | .sl i => mtb ρ[i]? = true ∧ σ[i]? = some (some v)
  | .nw d => ∃ a, v = .ref a ∧ G a = none ∧ H0 a = none ∧ OwnL K G H a d ∧ ∀ (i : Nat), mtb ρ[i]? = true → σ[i]? ≠ some (some (V.ref a))

def tD (K : PySem.W.Frag) (f : FE) : TE := fun σ H Q => ∃ ioA G0 H0 G ρ r ρ', Sg K ioA G0 H0 G H σ ρ ∧ f ρ = some (r, ρ') ∧
  ∀ G' v H', Same G G' → Sg K ioA G0 H0 G' H' σ ρ' → RepV K H0 G' H' σ ρ' v r → Q v H'
def tDT (K : PySem.W.Frag) (f : FT) : TT := fun σ H Q => ∃ ioA G0 H0 G ρ r ρ', Sg K ioA G0 H0 G H σ ρ ∧ f ρ = some (r, ρ') ∧
  ∀ G' H', Same G G' → Sg K ioA G0 H0 G' H' σ ρ' → Q r H'
/-- values in a row, none of them new -/
def RepVs (K : PySem.W.Frag) (G : Hp) (σ : L2.St) (ρ : Rho) (vs : List V) (rs : List Vl) : Prop :=
  Paired (fun v r => match r with
    | .pu d => Dp K G v d
    | .sl i => mtb ρ[i]? = true ∧ σ[i]? = some (some v)
    | .nw _ => False) vs rs
def tDA (K : PySem.W.Frag) (f : FA) : TA := fun σ H Q => ∃ ioA G0 H0 G ρ r ρ', Sg K ioA G0 H0 G H σ ρ ∧ f ρ = some (r, ρ') ∧
  ∀ G' vs H', Same G G' → Sg K ioA G0 H0 G' H' σ ρ' → RepVs K G' σ ρ' vs r → Q vs H'
/-- what is wanted behind a statement -/
def OutK (K : PySem.W.Frag) (ioA : Nat → Option Addr) (G0 H0 G : Hp) (E : Ends) : Out → Prop
  | .nx ρ' => ∀ G' σ' H', Same G G' → Sg K ioA G0 H0 G' H' σ' ρ' → E.nx σ' H'
  | .bk ρ' => ∀ G' σ' H', Same G G' → Sg K ioA G0 H0 G' H' σ' ρ' → E.bk σ' H'
  | .ct ρ' => ∀ G' σ' H', Same G G' → Sg K ioA G0 H0 G' H' σ' ρ' → E.ct σ' H'
  | .rt r ρ' => ∀ G' v σ' H', Same G G' → Sg K ioA G0 H0 G' H' σ' ρ' → RepV K H0 G' H' σ' ρ' v r → E.rt v H'
theorem OutK.mono {K : PySem.W.Frag} {ioA : Nat → Option Addr} {G0 H0 G G1 : Hp} {E : Ends} {o : Out} (k : OutK K ioA G0 H0 G E o) (g1 : Same G G1) : OutK K ioA G0 H0 G1 E o := by
  cases o with
  | nx ρ2 => exact fun G2 σ2 H2 g2 S2 => k G2 σ2 H2 (g1.trans g2) S2
  | bk ρ2 => exact fun G2 σ2 H2 g2 S2 => k G2 σ2 H2 (g1.trans g2) S2
  | ct ρ2 => exact fun G2 σ2 H2 g2 S2 => k G2 σ2 H2 (g1.trans g2) S2
  | rt r ρ2 => exact fun G2 v σ2 H2 g2 S2 R2 => k G2 v σ2 H2 (g1.trans g2) S2 R2
def tDS (K : PySem.W.Frag) (f : FS) : TS := fun E σ H => ∃ ioA G0 H0 G ρ o, Sg K ioA G0 H0 G H σ ρ ∧ f ρ = some o ∧ OutK K ioA G0 H0 G E o
def tDG (K : PySem.W.Frag) (g : FG) : TG := fun v σ H Q => ∃ ioA G0 H0 G ρ d ρ', Sg K ioA G0 H0 G H σ ρ ∧ Dp K G v d ∧ g d ρ = some ρ' ∧
  ∀ σ', Sg K ioA G0 H0 G H σ' ρ' → Q σ' H

/-! ### the rules' readings weakened -/
section
variable {X : Cx}
theorem pe_w {e : Expr} {t u : TE} (h : PE X e t) (k : ∀ σ H Q, u σ H Q → t σ H Q) : PE X e u := ⟨fun pins s σ H Q I q => h.run pins s σ H Q I (k σ H Q q)⟩
theorem pt_w {e : Expr} {t u : TT} (h : PT X e t) (k : ∀ σ H Q, u σ H Q → t σ H Q) : PT X e u := ⟨fun pins s σ H Q I q => h.run pins s σ H Q I (k σ H Q q)⟩
theorem pw_w {e : Expr} {t u : TT} (h : PW X e t) (k : ∀ σ H Q, u σ H Q → t σ H Q) : PW X e u := ⟨fun w pins s σ H Q I q => h.run w pins s σ H Q I (k σ H Q q)⟩
theorem pts_w {e : List Expr} {t u : TT} (h : PTs X e t) (k : ∀ σ H Q, u σ H Q → t σ H Q) : PTs X e u := ⟨fun pins s σ H Q I q => h.run pins s σ H Q I (k σ H Q q)⟩
theorem pa_w {e : List Expr} {t u : TA} (h : PA X e t) (k : ∀ σ H Q, u σ H Q → t σ H Q) : PA X e u := ⟨fun pos pins s σ H Q I q => h.run pos pins s σ H Q I (k σ H Q q)⟩
theorem ps_w {e : Stmt} {t u : TS} (h : PS X e t) (k : ∀ E σ H, u E σ H → t E σ H) : PS X e u := ⟨fun pins s σ H E I q => h.run pins s σ H E I (k E σ H q)⟩
theorem pss_w {e : List Stmt} {t u : TS} (h : PSs X e t) (k : ∀ E σ H, u E σ H → t E σ H) : PSs X e u := ⟨fun pins s σ H E I q => h.run pins s σ H E I (k E σ H q)⟩
theorem pg_w {e : Expr} {t u : TG} (h : PG X e t) (k : ∀ v σ H Q, u v σ H Q → t v σ H Q) : PG X e u := by
  obtain ⟨h⟩ := h
  exact ⟨fun pins s σ H v u' Q I r q => h pins s σ H v u' Q I r (k v σ H Q q)⟩
end

/-! ### the state -/
section
variable {K : PySem.W.Frag} {ioA : Nat → Option Addr} {G0 H0 G G' H H' : Hp} {σ : L2.St} {ρ : Rho} {v : V} {r : Vl}
theorem same_upd {p : Addr} {o : HO} (h : H p = none) : Same H (upd H p o) := fun b x e => by
  rw [upd_ne (ne_of_none e h)]
  exact e
theorem cont_sl {i : Nat} {d : D} (c : cont ρ (.sl i) = some d) : ∃ ds, d = .list ds ∧ (ρ[i]? = some (.own (.list ds)) ∨ ρ[i]? = some (.io (.list ds))) := by
  have c' : (match ρ[i]? with
    | some (.own (.list ds)) => some (PyData.list ds)
    | some (.io (.list ds)) => some (.list ds)
    | _ => none) = some d := c
  split at c'
  · rename_i ds z
    cases c'
    exact ⟨ds, rfl, .inl z⟩
  · rename_i ds z
    cases c'
    exact ⟨ds, rfl, .inr z⟩
  · cases c'
theorem Sg.mt {i : Nat} (S : Sg K ioA G0 H0 G H σ ρ) (h : mtb ρ[i]? = true) : ∃ a d, σ[i]? = some (some (.ref a)) ∧ G a = none ∧ Own K G H a d ∧ (ρ[i]? = some (.own d) ∨ ρ[i]? = some (.io d)) := by
  cases e : ρ[i]? with
  | none => rw [e] at h; cases h
  | some s =>
    cases s with
    | own d =>
      obtain ⟨a, h1, h2, h3, h4⟩ := S.own i d e
      exact ⟨a, d, h1, h2, h4, .inl rfl⟩
    | io d =>
      obtain ⟨a, h1, h2, h4⟩ := S.io i d e
      exact ⟨a, d, h2, (S.ioh i a h1).2.1, h4, .inr rfl⟩
    | _ => rw [e] at h; cases h
theorem Sg.ml {i : Nat} {d : D} (S : Sg K ioA G0 H0 G H σ ρ) (c : cont ρ (.sl i) = some d) : ∃ a, σ[i]? = some (some (.ref a)) ∧ G a = none ∧ OwnL K G H a d := by
  obtain ⟨ds, rfl, e⟩ := cont_sl c
  rcases e with e | e
  · obtain ⟨a, h1, h2, h3, h4⟩ := S.own i _ e
    exact ⟨a, h1, h2, h4⟩
  · obtain ⟨a, h1, h2, h4⟩ := S.io i _ e
    exact ⟨a, h2, (S.ioh i a h1).2.1, h4⟩
theorem Sg.fresh {b : Addr} (S : Sg K ioA G0 H0 G H σ ρ) (h : H b = none) : H0 b = none := by
  cases e : H0 b with
  | none => rfl
  | some o =>
    by_cases hx : ∃ i, ioA i = some b
    · obtain ⟨i, hi⟩ := hx
      obtain ⟨o', e', _⟩ := (S.ioh i b hi).1
      rw [h] at e'; cases e'
    · have e2 := S.fr b o e fun i hi => hx ⟨i, hi⟩
      rw [h] at e2; cases e2
theorem Sg.lax {b : Addr} (S : Sg K ioA G0 H0 G H σ ρ) (h : Lax H b) : Lax H0 b := by
  rcases h with h | ⟨xs, h⟩
  · exact .inl (S.fresh h)
  · cases e : H0 b with
    | none => exact .inl e
    | some o =>
      by_cases hx : ∃ i, ioA i = some b
      · obtain ⟨i, hi⟩ := hx
        obtain ⟨o', e', n'⟩ := (S.ioh i b hi).1
        rw [h] at e'; cases e'
        exact (n' xs rfl).elim
      · have e2 := S.fr b o e fun i hi => hx ⟨i, hi⟩
        rw [h] at e2; cases e2
        exact .inr ⟨xs, e⟩
/-- the heap grows: G may take in what is new -/
theorem Sg.grow (S : Sg K ioA G0 H0 G H σ ρ) (e1 : Same G G') (e2 : Same H H') (e3 : Same G' H') (e4 : ∀ b o, G' b = some o → (∃ o', G b = some o') ∨ Lax H b) : Sg K ioA G0 H0 G' H' σ ρ where
  len := S.len
  sub := e3
  g0 := S.g0.trans e1
  new := fun b o e => by
    rcases e4 b o e with ⟨o', q⟩ | q
    · exact S.new b o' q
    · exact .inr (S.lax q)
  fr := fun b o e k => e2 _ _ (S.fr b o e k)
  ioh := fun i b e => by
    obtain ⟨⟨o, q, qn⟩, q2, q3⟩ := S.ioh i b e
    refine ⟨⟨o, e2 _ _ q, qn⟩, ?_, q3⟩
    cases z : G' b with
    | none => rfl
    | some o' =>
      rcases e4 b o' z with ⟨_, z2⟩ | z2
      · rw [q2] at z2; cases z2
      · exact (z2.no q qn).elim
  pu := fun i d e => by
    obtain ⟨v, h1, h2⟩ := S.pu i d e
    exact ⟨v, h1, dpM e1 _ _ h2⟩
  own := fun i d e => by
    obtain ⟨a, h1, h2, h3, h4⟩ := S.own i d e
    obtain ⟨o, h5, hn⟩ := h4.nt
    refine ⟨a, h1, ?_, h3, h4.keep e1 (e2 _)⟩
    cases z : G' a with
    | none => rfl
    | some o' =>
      rcases e4 a o' z with ⟨_, z2⟩ | z2
      · rw [h2] at z2; cases z2
      · exact (z2.no h5 hn).elim
  io := fun i d e => by
    obtain ⟨a, h1, h2, h4⟩ := S.io i d e
    exact ⟨a, h1, h2, h4.keep e1 (e2 _)⟩
  apart := S.apart
  fx := S.fx
/-- a new object becomes plain -/
theorem settle (S : Sg K ioA G0 H0 G H σ ρ) (R : RepV K H0 G H σ ρ v r) : ∃ G', Same G G' ∧ Sg K ioA G0 H0 G' H σ ρ ∧ RepV K H0 G' H σ ρ v (stl r) := by
  cases r with
  | pu d => exact ⟨G, Same.refl _, S, R⟩
  | sl i => exact ⟨G, Same.refl _, S, R⟩
  | nw d =>
    obtain ⟨a, rfl, h1, h2, h3, h4⟩ := R
    cases d with
    | list ds =>
      obtain ⟨xs, h5, h6⟩ := h3
      have e1 : Same G (upd G a (.lst xs)) := same_upd h1
      refine ⟨upd G a (.lst xs), e1, ?_, ?_⟩
      · refine ⟨S.len, fun b o e => ?_, S.g0.trans e1, fun b o e => ?_, S.fr, fun i b e => ?_, fun i d e => ?_, fun i d e => ?_, fun i d e => ?_, S.apart, S.fx⟩
        · by_cases hb : b = a
          · subst hb; rw [upd_same] at e; cases e; exact h5
          · rw [upd_ne hb] at e; exact S.sub b o e
        · by_cases hb : b = a
          · subst hb; exact .inr (.inl h2)
          · rw [upd_ne hb] at e; exact S.new b o e
        · obtain ⟨q1, q2, o, q3⟩ := S.ioh i b e
          refine ⟨q1, ?_, o, q3⟩
          have hb : b ≠ a := fun z => by rw [z, h2] at q3; cases q3.1
          rw [upd_ne hb]; exact q2
        · obtain ⟨v, q1, q2⟩ := S.pu i d e
          exact ⟨v, q1, dpM e1 _ _ q2⟩
        · obtain ⟨b, q1, q2, q3, q4⟩ := S.own i d e
          have hb : b ≠ a := fun z => h4 i (by rw [e]; rfl) (by rw [← z]; exact q1)
          exact ⟨b, q1, by rw [upd_ne hb]; exact q2, q3, q4.keep e1 fun _ z => z⟩
        · obtain ⟨b, q1, q2, q4⟩ := S.io i d e
          exact ⟨b, q1, q2, q4.keep e1 fun _ z => z⟩
      · exact Dp.lst (.inl (.inl upd_same)) (dpsM e1 _ _ h6)
    | _ => exact h3.elim
theorem RepV.mono {ρ' : Rho} (e : Same G G') (hs : ∀ (i : Nat), mtb ρ[i]? = true → mtb ρ'[i]? = true) (R : RepV K H0 G H σ ρ v (stl r)) : RepV K H0 G' H' σ ρ' v (stl r) := by
  cases r with
  | pu d => exact dpM e _ _ R
  | sl i => exact ⟨hs i R.1, R.2⟩
  | nw d => exact dpM e _ _ R
end
end PL

/-! PL: the pure layer, 3: expressions, arguments, tests. -/
namespace PL
open PySem PySem.Spec PyProof.Rows L2

/-- an expression leaves the slots as they are, but for what owned and lent objects hold -/
def Kin (ρ ρ' : Rho) : Prop := ∀ i : Nat, mtb ρ'[i]? = mtb ρ[i]? ∧ (mtb ρ[i]? = false → ρ'[i]? = ρ[i]?)
theorem Kin.refl (ρ : Rho) : Kin ρ ρ := fun _ => ⟨rfl, fun _ => rfl⟩
theorem Kin.trans {a b c : Rho} (h : Kin a b) (k : Kin b c) : Kin a c := fun i => by
  obtain ⟨h1, h2⟩ := h i
  obtain ⟨k1, k2⟩ := k i
  exact ⟨k1.trans h1, fun z => (k2 (h1.trans z)).trans (h2 z)⟩
theorem Kin.mt {a b : Rho} (h : Kin a b) (i : Nat) (z : mtb a[i]? = true) : mtb b[i]? = true := (h i).1.trans z
def KinE (f : FE) : Prop := ∀ ρ r ρ', f ρ = some (r, ρ') → Kin ρ ρ'
def KinT (f : FT) : Prop := ∀ ρ r ρ', f ρ = some (r, ρ') → Kin ρ ρ'
def KinA (f : FA) : Prop := ∀ ρ r ρ', f ρ = some (r, ρ') → Kin ρ ρ'
structure PD (X : Cx) (e : Expr) (f : FE) : Prop where
  pe : PE X e (tD X.K f)
  kin : KinE f
structure PDT (X : Cx) (e : Expr) (f : FT) : Prop where
  pt : PT X e (tDT X.K f)
  kin : KinT f
structure PDW (X : Cx) (e : Expr) (f : FT) : Prop where
  pw : PW X e (tDT X.K f)
  kin : KinT f
structure PDA (X : Cx) (es : List Expr) (f : FA) : Prop where
  pa : PA X es (tDA X.K f)
  kin : KinA f
theorem bnd {α β : Type} {o : Option α} {f : α → Option β} {b : β} (h : o.bind f = some b) : ∃ a, o = some a ∧ f a = some b := Option.bind_eq_some_iff.mp h

section
variable {X : Cx} {K : PySem.W.Frag} {ioA : Nat → Option Addr} {G0 H0 G G' H H' : Hp} {σ : L2.St} {ρ ρ' : Rho} {v : V} {r : Vl}

/-! ### names, constants -/
theorem pd_var {e : Expr} {i : Nat} (h : PE X e (tVar i)) : PD X e (cVar i) := by
  refine ⟨pe_w h fun σ H Q q => ?_, fun ρ r ρ' q => ?_⟩
  · obtain ⟨ioA, G0, H0, G, ρ, r, ρ', S, e1, k⟩ := q
    unfold cVar at e1
    cases z : ρ[i]? with
    | none => rw [z] at e1; cases e1
    | some s =>
      rw [z] at e1
      cases s with
      | non => cases e1
      | fx kjs => cases e1
      | pu d =>
        cases e1
        obtain ⟨v, h1, h2⟩ := S.pu i d z
        exact ⟨v, h1, k G v H (Same.refl _) S h2⟩
      | own d =>
        cases e1
        obtain ⟨a, h1, _⟩ := S.own i d z
        exact ⟨_, h1, k G _ H (Same.refl _) S ⟨by rw [z]; rfl, h1⟩⟩
      | io d =>
        cases e1
        obtain ⟨a, _, h1, _⟩ := S.io i d z
        exact ⟨_, h1, k G _ H (Same.refl _) S ⟨by rw [z]; rfl, h1⟩⟩
  · unfold cVar at q
    split at q <;> cases q <;> exact Kin.refl _
theorem kin_c {d : D} : KinE (cC d) := fun ρ r ρ' q => by cases q; exact Kin.refl _
theorem pd_c {e : Expr} {v : V} {d : D} (h : PE X e (tC v)) (hd : ∀ G, Dp X.K G v d) : PD X e (cC d) := by
  refine ⟨pe_w h fun σ H Q q => ?_, kin_c⟩
  obtain ⟨ioA, G0, H0, G, ρ, r, ρ', S, e1, k⟩ := q
  cases e1
  exact k G v H (Same.refl _) S (hd G)
theorem pd_int {i : Int} {j pos} : PD X (.Constant (.int i) j pos) (cC (.int i)) := pd_c pe_int fun _ => .int i
theorem pd_bl {b : Bool} {j pos} : PD X (.Constant (.bool b) j pos) (cC (.bool b)) := pd_c pe_bl fun _ => .bl b
theorem pd_non {j pos} : PD X (.Constant .none j pos) (cC .none) := pd_c pe_non fun _ => .non
theorem pd_str {x : Str} {j pos} : PD X (.Constant (.str x) j pos) (cC (.str x)) := pd_c pe_str fun _ => .str x
/-- a module's constant: an int -/
theorem pd_gint {x : Str} {u : Value} {i : Int} {pos : Pos} (hg : Gl X x) (hm : X.mg x = some u) (r : ∃ t, u = .int i t) (hd : (x == ("__debug__" : Str)) = false := by decide) : PD X (.Name x pos) (cC (.int i)) :=
  pd_c (pe_glob hg hm (v := .int i) r hd) fun _ => .int i

/-! ### operators -/
/-- what an operator's answer is -/
def RepN (K : PySem.W.Frag) (H G' H' : Hp) (v : V) : Vl → Prop
  | .pu d => Dp K G' v d
  | .sl _ => False
  | .nw d => ∃ a, v = .ref a ∧ H a = none ∧ G' a = none ∧ OwnL K G' H' a d
def Top (K : PySem.W.Frag) (G H : Hp) (v : V) (d : D) : Prop := Dp K G v d ∨ ∃ a, v = .ref a ∧ G a = none ∧ OwnL K G H a d
/-- behind an operator -/
structure Grow (G H G' H' : Hp) : Prop where
  g : Same G G'
  h : Same H H'
  s : Same G' H'
  n : ∀ b o, G' b = some o → (∃ o', G b = some o') ∨ Lax H b
theorem Grow.refl (s : Same G H) : Grow G H G H := ⟨Same.refl _, Same.refl _, s, fun b o e => .inl ⟨o, e⟩⟩
def rN (K : PySem.W.Frag) (m : D → Vl) (op : D → D → Option D) : R2 := fun x y H Q => ∃ G d e r, Same G H ∧ Top K G H x d ∧ Top K G H y e ∧ op d e = some r ∧
  ∀ G' v H', Grow G H G' H' → RepN K H G' H' v (m r) → Q v H'
theorem Sg.top (S : Sg K ioA G0 H0 G H σ ρ) (R : RepV K H0 G H σ ρ v (stl r)) {d : D} (c : cont ρ (stl r) = some d) : Top K G H v d := by
  cases r with
  | pu d => cases c; exact .inl R
  | nw d => cases c; exact .inl R
  | sl i =>
    obtain ⟨a, h1, h2, h3⟩ := S.ml c
    have e2 := R.2.symm.trans h1
    cases e2
    exact .inr ⟨a, rfl, h2, h3⟩
theorem Top.dp (h : Top K G H v d) (s : Same G H) : Dp K H v d := by
  rcases h with h | ⟨a, rfl, _, h⟩
  · exact dpM s _ _ h
  · cases d with
    | list ds =>
      obtain ⟨xs, h1, h2⟩ := h
      exact .lst (.inl (.inl h1)) (dpsM s _ _ h2)
    | _ => exact h.elim
theorem Sg.repN (S : Sg K ioA G0 H0 G H σ ρ) (g : Grow G H G' H') {w : Vl} (R : RepN K H G' H' v w) : Sg K ioA G0 H0 G' H' σ ρ ∧ RepV K H0 G' H' σ ρ v w := by
  have S' := S.grow g.g g.h g.s g.n
  refine ⟨S', ?_⟩
  cases w with
  | pu d => exact R
  | sl i => exact R.elim
  | nw d =>
    obtain ⟨a, rfl, h1, h2, h3⟩ := R
    refine ⟨a, rfl, h2, S.fresh h1, h3, fun i hi e => ?_⟩
    obtain ⟨b, d', q1, _, q3, _⟩ := S.mt hi
    obtain ⟨o, q4⟩ := q3.there
    have e2 := e.symm.trans q1
    cases e2
    rw [h1] at q4; cases q4
theorem kin_op2 {m : D → Vl} {fa fb : FE} {op : D → D → Option D} (ha : KinE fa) (hb : KinE fb) :
    KinE (fun ρ => (fa ρ).bind fun p => (fb p.2).bind fun q => (cont q.2 (stl p.1)).bind fun x => (cont q.2 (stl q.1)).bind fun y => (op x y).bind fun r => some (m r, q.2)) := fun ρ r ρ' q => by
  obtain ⟨⟨r1, ρ1⟩, e1, q⟩ := bnd q
  obtain ⟨⟨r2, ρ2⟩, e2, q⟩ := bnd q
  obtain ⟨x, _, q⟩ := bnd q
  obtain ⟨y, _, q⟩ := bnd q
  obtain ⟨z, _, q⟩ := bnd q
  cases q
  exact (ha _ _ _ e1).trans (hb _ _ _ e2)
/-- two operands in a row -/
theorem two {fa fb : FE} {m : D → Vl} {op : D → D → Option D} {Q : VK} (hb : KinE fb)
    (q : tD K (fun ρ => (fa ρ).bind fun p => (fb p.2).bind fun q => (cont q.2 (stl p.1)).bind fun x => (cont q.2 (stl q.1)).bind fun y => (op x y).bind fun r => some (m r, q.2)) σ H Q) :
    tOp (rN K m op) (tD K fa) (tD K fb) σ H Q := by
  obtain ⟨ioA, G0, H0, G, ρ, r, ρ', S, e, k⟩ := q
  obtain ⟨⟨r1, ρ1⟩, e1, e⟩ := bnd e
  obtain ⟨⟨r2, ρ2⟩, e2, e⟩ := bnd e
  obtain ⟨x, ex, e⟩ := bnd e
  obtain ⟨y, ey, e⟩ := bnd e
  obtain ⟨z, ez, e⟩ := bnd e
  cases e
  refine ⟨ioA, G0, H0, G, ρ, r1, ρ1, S, e1, fun G1 v1 H1 g1 S1 R1 => ?_⟩
  obtain ⟨G1', g1', S1', R1'⟩ := settle S1 R1
  refine ⟨ioA, G0, H0, G1', ρ1, r2, ρ2, S1', e2, fun G2 v2 H2 g2 S2 R2 => ?_⟩
  obtain ⟨G2', g2', S2', R2'⟩ := settle S2 R2
  have R1'' : RepV K H0 G2' H2 σ ρ2 v1 (stl r1) := RepV.mono (g2.trans g2') (fun i hi => (hb _ _ _ e2).mt i hi) R1'
  refine ⟨G2', x, y, z, S2'.sub, S2'.top R1'' ex, S2'.top R2' ey, ez, fun G3 v3 H3 g3 R3 => ?_⟩
  obtain ⟨S3, R3'⟩ := S2'.repN g3 R3
  exact k G3 v3 H3 (((g1.trans g1').trans (g2.trans g2')).trans g3.g) S3 R3'
theorem pd_op2 {a b : Expr} {fa fb : FE} {o : Operator} {op : D → D → Option D} {pos : Pos} (ho : OpR X (binaryOp o) (rN X.K .pu op)) (ha : PD X a fa) (hb : PD X b fb) : PD X (.BinOp a o b pos) (cOp2 op fa fb) :=
  ⟨pe_w (pe_op ho ha.pe hb.pe) fun _ _ _ q => two hb.kin q, kin_op2 ha.kin hb.kin⟩
theorem pd_op2n {a b : Expr} {fa fb : FE} {o : Operator} {op : D → D → Option D} {pos : Pos} (ho : OpR X (binaryOp o) (rN X.K mk op)) (ha : PD X a fa) (hb : PD X b fb) : PD X (.BinOp a o b pos) (cOp2n op fa fb) :=
  ⟨pe_w (pe_op ho ha.pe hb.pe) fun _ _ _ q => two hb.kin q, kin_op2 ha.kin hb.kin⟩
theorem pd_cmp {a b : Expr} {fa fb : FE} {o : CmpOp} {op : D → D → Option D} {pos : Pos} (ho : OpR X (compareOp o) (rN X.K .pu op)) (ha : PD X a fa) (hb : PD X b fb) (hm : behindInMarks o b = false) : PD X (.Compare a [o] [b] pos) (cOp2 op fa fb) :=
  ⟨pe_w (pe_cmpR ho ha.pe hb.pe hm) fun _ _ _ q => two hb.kin q, kin_op2 ha.kin hb.kin⟩
theorem kin_bl {f : FE} (h : KinE f) : KinT (tBl f) := fun ρ r ρ' q => by
  obtain ⟨⟨r1, ρ1⟩, e1, q⟩ := bnd q
  simp only at q
  split at q <;> cases q
  exact h _ _ _ e1
theorem tst {f : FE} {Q : Bool → Hp → Prop} (q : tDT K (tBl f) σ H Q) : tTest (tD K f) σ H Q := by
  obtain ⟨ioA, G0, H0, G, ρ, r, ρ', S, e, k⟩ := q
  obtain ⟨⟨r1, ρ1⟩, e1, e⟩ := bnd e
  simp only at e
  split at e <;> cases e
  refine ⟨ioA, G0, H0, G, ρ, _, _, S, e1, fun G1 v1 H1 g1 S1 R1 => ?_⟩
  cases R1
  exact ⟨_, rfl, k G1 H1 g1 S1⟩
theorem pt_cmp' {a b : Expr} {fa fb : FE} {o : CmpOp} {op : D → D → Option D} {pos : Pos} (ho : OpR X (compareOp o) (rN X.K .pu op)) (ha : PD X a fa) (hb : PD X b fb) (hm : behindInMarks o b = false) : PDT X (.Compare a [o] [b] pos) (tBl (cOp2 op fa fb)) :=
  ⟨pt_w (pt_cmpR ho ha.pe hb.pe hm) fun σ H Q q => by
    obtain ⟨ioA, G0, H0, G, ρ, r, ρ', S, e, k⟩ := q
    obtain ⟨⟨r1, ρ1⟩, e1, e⟩ := bnd e
    simp only at e
    split at e <;> cases e
    refine two hb.kin ⟨ioA, G0, H0, G, ρ, _, _, S, e1, fun G1 v1 H1 g1 S1 R1 => ?_⟩
    cases R1
    exact ⟨_, rfl, k G1 H1 g1 S1⟩, kin_bl (kin_op2 ha.kin hb.kin)⟩

/-! ### chains, and, or, not, if -/
theorem kin_chain {fa fb fc : FE} {op op' : D → D → Option D} (ha : KinE fa) (hb : KinE fb) (hc : KinE fc) : KinE (cChain op op' fa fb fc) := fun ρ r ρ' q => by
  obtain ⟨⟨r1, ρ1⟩, e1, q⟩ := bnd q
  obtain ⟨⟨r2, ρ2⟩, e2, q⟩ := bnd q
  obtain ⟨x, _, q⟩ := bnd q
  obtain ⟨y, _, q⟩ := bnd q
  obtain ⟨z, _, q⟩ := bnd q
  split at q
  · obtain ⟨⟨r3, ρ3⟩, e3, q⟩ := bnd q
    obtain ⟨y', _, q⟩ := bnd q
    obtain ⟨z', _, q⟩ := bnd q
    obtain ⟨w, _, q⟩ := bnd q
    cases q
    exact ((ha _ _ _ e1).trans (hb _ _ _ e2)).trans (hc _ _ _ e3)
  · cases q
    exact (ha _ _ _ e1).trans (hb _ _ _ e2)
  · cases q
theorem three {fa fb fc : FE} {op op' : D → D → Option D} {Q : VK} (hb : KinE fb) (hc : KinE fc) (q : tD K (cChain op op' fa fb fc) σ H Q) :
    tChain (rN K .pu op) (rN K .pu op') (tD K fa) (tD K fb) (tD K fc) σ H Q := by
  obtain ⟨ioA, G0, H0, G, ρ, r, ρ', S, e, k⟩ := q
  obtain ⟨⟨r1, ρ1⟩, e1, e⟩ := bnd e
  obtain ⟨⟨r2, ρ2⟩, e2, e⟩ := bnd e
  obtain ⟨x, ex, e⟩ := bnd e
  obtain ⟨y, ey, e⟩ := bnd e
  obtain ⟨z, ez, e⟩ := bnd e
  refine ⟨ioA, G0, H0, G, ρ, r1, ρ1, S, e1, fun G1 v1 H1 g1 S1 R1 => ?_⟩
  obtain ⟨G1', g1', S1', R1'⟩ := settle S1 R1
  refine ⟨ioA, G0, H0, G1', ρ1, r2, ρ2, S1', e2, fun G2 v2 H2 g2 S2 R2 => ?_⟩
  obtain ⟨G2', g2', S2', R2'⟩ := settle S2 R2
  have R1'' : RepV K H0 G2' H2 σ ρ2 v1 (stl r1) := RepV.mono (g2.trans g2') (fun i hi => (hb _ _ _ e2).mt i hi) R1'
  refine ⟨G2', x, y, z, S2'.sub, S2'.top R1'' ex, S2'.top R2' ey, ez, fun G3 v3 H3 g3 R3 => ?_⟩
  obtain ⟨S3, R3'⟩ := S2'.repN g3 R3
  split at e
  · obtain ⟨⟨r4, ρ4⟩, e4, e⟩ := bnd e
    obtain ⟨y', ey', e⟩ := bnd e
    obtain ⟨z', ez', e⟩ := bnd e
    obtain ⟨w, ew, e⟩ := bnd e
    cases e
    cases R3'
    refine ⟨true, rfl, ?_⟩
    rw [if_pos rfl]
    refine ⟨ioA, G0, H0, G3, ρ2, r4, ρ4, S3, e4, fun G4 v4 H4 g4 S4 R4 => ?_⟩
    obtain ⟨G4', g4', S4', R4'⟩ := settle S4 R4
    have R2'' : RepV K H0 G4' H4 σ ρ4 v2 (stl r2) := RepV.mono (g3.g.trans (g4.trans g4')) (fun i hi => (hc _ _ _ e4).mt i hi) R2'
    refine ⟨G4', y', z', w, S4'.sub, S4'.top R2'' ey', S4'.top R4' ez', ew, fun G5 v5 H5 g5 R5 => ?_⟩
    obtain ⟨S5, R5'⟩ := S4'.repN g5 R5
    exact k G5 v5 H5 ((((g1.trans g1').trans (g2.trans g2')).trans (g3.g.trans (g4.trans g4'))).trans g5.g) S5 R5'
  · cases e
    cases R3'
    refine ⟨false, rfl, ?_⟩
    rw [if_neg Bool.false_ne_true]
    exact k G3 (V.bl false) H3 (((g1.trans g1').trans (g2.trans g2')).trans g3.g) S3 (.bl false)
  · cases e
theorem pd_chain {a b c : Expr} {fa fb fc : FE} {o o' : CmpOp} {op op' : D → D → Option D} {pos : Pos} (ho : OpR X (compareOp o) (rN X.K .pu op)) (ho' : OpR X (compareOp o') (rN X.K .pu op')) (ha : PD X a fa) (hb : PD X b fb) (hc : PD X c fc)
    (hm : lastMarks [o, o'] [b, c] = false) : PD X (.Compare a [o, o'] [b, c] pos) (cChain op op' fa fb fc) :=
  ⟨pe_w (pe_chain ho ho' ha.pe hb.pe hc.pe hm) fun _ _ _ q => three hb.kin hc.kin q, kin_chain ha.kin hb.kin hc.kin⟩
theorem of_bl {f : FE} {t : TE} (h : ∀ σ H Q, tD K f σ H Q → t σ H Q) {Q : Bool → Hp → Prop} (q : tDT K (tBl f) σ H Q) : tTest t σ H Q := by
  obtain ⟨ioA, G0, H0, G, ρ, r, ρ', S, e, k⟩ := q
  obtain ⟨⟨r1, ρ1⟩, e1, e⟩ := bnd e
  simp only at e
  split at e <;> cases e
  refine h _ _ _ ⟨ioA, G0, H0, G, ρ, _, _, S, e1, fun G1 v1 H1 g1 S1 R1 => ?_⟩
  cases R1
  exact ⟨_, rfl, k G1 H1 g1 S1⟩
theorem pt_chain' {a b c : Expr} {fa fb fc : FE} {o o' : CmpOp} {op op' : D → D → Option D} {pos : Pos} (ho : OpR X (compareOp o) (rN X.K .pu op)) (ho' : OpR X (compareOp o') (rN X.K .pu op')) (ha : PD X a fa) (hb : PD X b fb) (hc : PD X c fc)
    (hm : lastMarks [o, o'] [b, c] = false) : PDT X (.Compare a [o, o'] [b, c] pos) (tBl (cChain op op' fa fb fc)) :=
  ⟨pt_w (pt_chain ho ho' ha.pe hb.pe hc.pe hm) fun _ _ _ q => of_bl (fun _ _ _ q => three hb.kin hc.kin q) q, kin_bl (kin_chain ha.kin hb.kin hc.kin)⟩
theorem kin_and {fa fb : FE} (ha : KinE fa) (hb : KinE fb) : KinE (cAnd fa fb) := fun ρ r ρ' q => by
  obtain ⟨⟨r1, ρ1⟩, e1, q⟩ := bnd q
  simp only at q
  split at q
  · exact (ha _ _ _ e1).trans (hb _ _ _ q)
  · cases q; exact ha _ _ _ e1
  · cases q
theorem kin_or {fa fb : FE} (ha : KinE fa) (hb : KinE fb) : KinE (cOr fa fb) := fun ρ r ρ' q => by
  obtain ⟨⟨r1, ρ1⟩, e1, q⟩ := bnd q
  simp only at q
  split at q
  · cases q; exact ha _ _ _ e1
  · exact (ha _ _ _ e1).trans (hb _ _ _ q)
  · cases q
theorem pd_one {op : BoolOp} {a : Expr} {fa : FE} {pos : Pos} (ha : PD X a fa) : PD X (.BoolOp op [a] pos) fa := ⟨pe_one ha.pe, ha.kin⟩
theorem pd_and {a b : Expr} {rest : List Expr} {fa fb : FE} {pos : Pos} (ha : PD X a fa) (hb : PD X (.BoolOp .And (b :: rest) pos) fb) : PD X (.BoolOp .And (a :: b :: rest) pos) (cAnd fa fb) := by
  refine ⟨pe_w (pe_and ha.pe hb.pe) fun σ H Q q => ?_, kin_and ha.kin hb.kin⟩
  obtain ⟨ioA, G0, H0, G, ρ, r, ρ', S, e, k⟩ := q
  obtain ⟨⟨r1, ρ1⟩, e1, e⟩ := bnd e
  refine ⟨ioA, G0, H0, G, ρ, r1, ρ1, S, e1, fun G1 v1 H1 g1 S1 R1 => ?_⟩
  simp only at e
  split at e
  · cases R1
    exact ⟨true, rfl, iteT ⟨ioA, G0, H0, G1, ρ1, r, ρ', S1, e, fun G2 v2 H2 g2 S2 R2 => k G2 v2 H2 (g1.trans g2) S2 R2⟩⟩
  · cases R1
    cases e
    exact ⟨false, rfl, iteF (k G1 _ H1 g1 S1 (.bl false))⟩
  · cases e
theorem pd_or {a b : Expr} {rest : List Expr} {fa fb : FE} {pos : Pos} (ha : PD X a fa) (hb : PD X (.BoolOp .Or (b :: rest) pos) fb) : PD X (.BoolOp .Or (a :: b :: rest) pos) (cOr fa fb) := by
  refine ⟨pe_w (pe_or ha.pe hb.pe) fun σ H Q q => ?_, kin_or ha.kin hb.kin⟩
  obtain ⟨ioA, G0, H0, G, ρ, r, ρ', S, e, k⟩ := q
  obtain ⟨⟨r1, ρ1⟩, e1, e⟩ := bnd e
  refine ⟨ioA, G0, H0, G, ρ, r1, ρ1, S, e1, fun G1 v1 H1 g1 S1 R1 => ?_⟩
  simp only at e
  split at e
  · cases R1
    cases e
    exact ⟨true, rfl, iteT (k G1 _ H1 g1 S1 (.bl true))⟩
  · cases R1
    exact ⟨false, rfl, iteF ⟨ioA, G0, H0, G1, ρ1, r, ρ', S1, e, fun G2 v2 H2 g2 S2 R2 => k G2 v2 H2 (g1.trans g2) S2 R2⟩⟩
  · cases e
/-- not x, x a bool -/
def cNotB (a : FE) : FE := fun ρ => (a ρ).bind fun p => match p.1 with
  | .pu (.bool k) => some (.pu (.bool (!k)), p.2)
  | _ => none
theorem pd_not {a : Expr} {fa : FE} {pos : Pos} (ha : PD X a fa) : PD X (.UnaryOp .Not a pos) (cNotB fa) := by
  refine ⟨pe_w (pe_not ha.pe) fun σ H Q q => ?_, fun ρ r ρ' q => ?_⟩
  · obtain ⟨ioA, G0, H0, G, ρ, r, ρ', S, e, k⟩ := q
    obtain ⟨⟨r1, ρ1⟩, e1, e⟩ := bnd e
    refine ⟨ioA, G0, H0, G, ρ, r1, ρ1, S, e1, fun G1 v1 H1 g1 S1 R1 => ?_⟩
    simp only at e
    split at e <;> cases e
    cases R1
    exact ⟨_, rfl, k G1 _ H1 g1 S1 (.bl _)⟩
  · obtain ⟨⟨r1, ρ1⟩, e1, e⟩ := bnd q
    simp only at e
    split at e <;> cases e
    exact ha.kin _ _ _ e1
theorem pd_if {c a b : Expr} {ft : FT} {fa fb : FE} {pos : Pos} (hc : PDT X c ft) (ha : PD X a fa) (hb : PD X b fb) : PD X (.IfExp c a b pos) (cIf ft fa fb) := by
  refine ⟨pe_w (pe_ifExp hc.pt ha.pe hb.pe) fun σ H Q q => ?_, fun ρ r ρ' q => ?_⟩
  · obtain ⟨ioA, G0, H0, G, ρ, r, ρ', S, e, k⟩ := q
    obtain ⟨⟨r1, ρ1⟩, e1, e⟩ := bnd e
    refine ⟨ioA, G0, H0, G, ρ, r1, ρ1, S, e1, fun G1 H1 g1 S1 => ?_⟩
    cases r1 with
    | true => exact iteT ⟨ioA, G0, H0, G1, ρ1, r, ρ', S1, e, fun G2 v2 H2 g2 S2 R2 => k G2 v2 H2 (g1.trans g2) S2 R2⟩
    | false => exact iteF ⟨ioA, G0, H0, G1, ρ1, r, ρ', S1, e, fun G2 v2 H2 g2 S2 R2 => k G2 v2 H2 (g1.trans g2) S2 R2⟩
  · obtain ⟨⟨r1, ρ1⟩, e1, e⟩ := bnd q
    cases r1 with
    | true => exact (hc.kin _ _ _ e1).trans (ha.kin _ _ _ e)
    | false => exact (hc.kin _ _ _ e1).trans (hb.kin _ _ _ e)
/-! ### tests -/
theorem isEmpty_dps {G : Hp} {vs : List V} {ds : List D} (h : DpAll K G vs ds) : ds.isEmpty = vs.isEmpty := by
  cases h <;> rfl
theorem Top.tru (h : Top K G H v d) (s : Same G H) {b : Bool} (e : truD d = some b) (z : ∀ x, d = .str x → x.length ≤ sizeLine) : TruV K v H b := by
  have q := h.dp s
  cases d with
  | none => cases q; cases e; rfl
  | bool c => cases q; cases e; rfl
  | int i => cases q; cases e; rfl
  | str x =>
    cases q; cases e
    refine ⟨z x rfl, ?_⟩
    obtain ⟨⟨l⟩⟩ := x
    cases l
    · simp [Str.length]
    · simp [Str.length]
      omega
  | list ds =>
    cases q with
    | lst hs ha =>
      cases e
      exact .inl ⟨_, hs, by rw [isEmpty_dps ha]⟩
  | tuple ds =>
    cases q with
    | tup hs ha =>
      cases e
      exact .inr (.inl ⟨_, SqT.of hs, by rw [isEmpty_dps ha]⟩)
  | dict _ => cases e
/-- the truth of a value that is no text -/
def tTru' (a : FE) : FT := fun ρ => (a ρ).bind fun p => (cont p.2 (stl p.1)).bind fun x => match x with
  | .str _ => none
  | x => (truD x).bind fun k => some (k, p.2)
theorem pt_tru {a : Expr} {fa : FE} (ha : PD X a fa) (he : ∀ whole, isTrue a X.env whole = (do let v ← whole; standAt a.pos; holding [v] (truthy v))) : PDT X a (tTru' fa) := by
  refine ⟨pt_w (pt_truth ha.pe he) fun σ H Q q => ?_, fun ρ r ρ' q => ?_⟩
  · obtain ⟨ioA, G0, H0, G, ρ, r, ρ', S, e, k⟩ := q
    obtain ⟨⟨r1, ρ1⟩, e1, e⟩ := bnd e
    obtain ⟨x, ex, e⟩ := bnd e
    refine ⟨ioA, G0, H0, G, ρ, r1, ρ1, S, e1, fun G1 v1 H1 g1 S1 R1 => ?_⟩
    obtain ⟨G1', g1', S1', R1'⟩ := settle S1 R1
    have T := S1'.top R1' ex
    simp only at e
    split at e
    · cases e
    · rename_i hx
      obtain ⟨b, eb, e⟩ := bnd e
      cases e
      exact ⟨_, T.tru S1'.sub eb fun y z => absurd z (hx y), k G1' H1 (g1.trans g1') S1'⟩
  · obtain ⟨⟨r1, ρ1⟩, e1, e⟩ := bnd q
    obtain ⟨x, ex, e⟩ := bnd e
    simp only at e
    split at e
    · cases e
    · obtain ⟨b, eb, e⟩ := bnd e
      cases e
      exact ha.kin _ _ _ e1
theorem pw_pt {e : Expr} {f : FT} (h : PDW X e f) : PDT X e f := ⟨h.pw.pt, h.kin⟩
theorem pw_one {op : BoolOp} {a : Expr} {fa : FT} {pos : Pos} (ha : PDT X a fa) : PDW X (.BoolOp op [a] pos) fa := by
  cases op with
  | And => exact ⟨pw_and1 ha.pt, ha.kin⟩
  | Or => exact ⟨pw_or1 ha.pt, ha.kin⟩
theorem pw_and' {a b : Expr} {rest : List Expr} {fa fb : FT} {pos : Pos} (ha : PDT X a fa) (hb : PDW X (.BoolOp .And (b :: rest) pos) fb) : PDW X (.BoolOp .And (a :: b :: rest) pos) (tAnd fa fb) := by
  refine ⟨pw_w (pw_and ha.pt hb.pw) fun σ H Q q => ?_, fun ρ r ρ' q => ?_⟩
  · obtain ⟨ioA, G0, H0, G, ρ, r, ρ', S, e, k⟩ := q
    obtain ⟨⟨r1, ρ1⟩, e1, e⟩ := bnd e
    refine ⟨ioA, G0, H0, G, ρ, r1, ρ1, S, e1, fun G1 H1 g1 S1 => ?_⟩
    cases r1 with
    | true => exact iteT ⟨ioA, G0, H0, G1, ρ1, r, ρ', S1, e, fun G2 H2 g2 S2 => k G2 H2 (g1.trans g2) S2⟩
    | false =>
      cases e
      exact iteF (k G1 H1 g1 S1)
  · obtain ⟨⟨r1, ρ1⟩, e1, e⟩ := bnd q
    cases r1 with
    | true => exact (ha.kin _ _ _ e1).trans (hb.kin _ _ _ e)
    | false => cases e; exact ha.kin _ _ _ e1
theorem pw_or' {a b : Expr} {rest : List Expr} {fa fb : FT} {pos : Pos} (ha : PDT X a fa) (hb : PDW X (.BoolOp .Or (b :: rest) pos) fb) : PDW X (.BoolOp .Or (a :: b :: rest) pos) (tOr fa fb) := by
  refine ⟨pw_w (pw_or ha.pt hb.pw) fun σ H Q q => ?_, fun ρ r ρ' q => ?_⟩
  · obtain ⟨ioA, G0, H0, G, ρ, r, ρ', S, e, k⟩ := q
    obtain ⟨⟨r1, ρ1⟩, e1, e⟩ := bnd e
    refine ⟨ioA, G0, H0, G, ρ, r1, ρ1, S, e1, fun G1 H1 g1 S1 => ?_⟩
    cases r1 with
    | false => exact iteF ⟨ioA, G0, H0, G1, ρ1, r, ρ', S1, e, fun G2 H2 g2 S2 => k G2 H2 (g1.trans g2) S2⟩
    | true =>
      cases e
      exact iteT (k G1 H1 g1 S1)
  · obtain ⟨⟨r1, ρ1⟩, e1, e⟩ := bnd q
    cases r1 with
    | false => exact (ha.kin _ _ _ e1).trans (hb.kin _ _ _ e)
    | true => cases e; exact ha.kin _ _ _ e1
theorem pt_not' {a : Expr} {fa : FT} {pos : Pos} (ha : PDT X a fa) : PDT X (.UnaryOp .Not a pos) (tNot fa) := by
  refine ⟨pt_w (pt_not ha.pt) fun σ H Q q => ?_, fun ρ r ρ' q => ?_⟩
  · obtain ⟨ioA, G0, H0, G, ρ, r, ρ', S, e, k⟩ := q
    obtain ⟨⟨r1, ρ1⟩, e1, e⟩ := bnd e
    cases e
    exact ⟨ioA, G0, H0, G, ρ, r1, _, S, e1, fun G1 H1 g1 S1 => k G1 H1 g1 S1⟩
  · obtain ⟨⟨r1, ρ1⟩, e1, e⟩ := bnd q
    cases e
    exact ha.kin _ _ _ e1
/-! ### arguments -/
theorem pd_nil : PDA X [] aNil := by
  refine ⟨pa_w pa_nil fun σ H Q q => ?_, fun ρ r ρ' q => by cases q; exact Kin.refl _⟩
  obtain ⟨ioA, G0, H0, G, ρ, r, ρ', S, e, k⟩ := q
  cases e
  exact k G [] H (Same.refl _) S .nil
theorem RepVs.mono {vs : List V} {rs : List Vl} (e : Same G G') (hs : ∀ (i : Nat), mtb ρ[i]? = true → mtb ρ'[i]? = true) (R : RepVs K G σ ρ vs rs) : RepVs K G' σ ρ' vs rs := by
  induction R with
  | nil => exact .nil
  | @cons v r vs rs h t ih =>
    refine .cons ?_ ih
    cases r with
    | pu d => exact dpM e _ _ h
    | sl i => exact ⟨hs i h.1, h.2⟩
    | nw d => exact h
theorem pd_cons {e : Expr} {es : List Expr} {fa : FE} {fs : FA} (ha : PD X e fa) (hs : PDA X es fs) (hx : starEach (e :: es) X.env = (false, eval e X.env) :: starEach es X.env := by rfl) : PDA X (e :: es) (aCons fa fs) := by
  refine ⟨pa_w (pa_cons ha.pe hs.pa hx) fun σ H Q q => ?_, fun ρ r ρ' q => ?_⟩
  · obtain ⟨ioA, G0, H0, G, ρ, r, ρ', S, e, k⟩ := q
    obtain ⟨⟨r1, ρ1⟩, e1, e⟩ := bnd e
    obtain ⟨⟨r2, ρ2⟩, e2, e⟩ := bnd e
    cases e
    refine ⟨ioA, G0, H0, G, ρ, r1, ρ1, S, e1, fun G1 v1 H1 g1 S1 R1 => ?_⟩
    obtain ⟨G1', g1', S1', R1'⟩ := settle S1 R1
    refine ⟨ioA, G0, H0, G1', ρ1, r2, _, S1', e2, fun G2 vs H2 g2 S2 R2 => ?_⟩
    refine k G2 (v1 :: vs) H2 ((g1.trans g1').trans g2) S2 (.cons ?_ R2)
    have hm := hs.kin _ _ _ e2
    cases r1 with
    | pu d => exact dpM g2 _ _ R1'
    | sl i => exact ⟨hm.mt i R1'.1, R1'.2⟩
    | nw d => exact dpM g2 _ _ R1'
  · obtain ⟨⟨r1, ρ1⟩, e1, e⟩ := bnd q
    obtain ⟨⟨r2, ρ2⟩, e2, e⟩ := bnd e
    cases e
    exact (ha.kin _ _ _ e1).trans (hs.kin _ _ _ e2)
end
end PL

/-! PL: the pure layer, 4: calls, displays, subscripts. -/
namespace PL
open PySem PySem.Spec PyProof.Rows L2
section
variable {X : Cx} {K : PySem.W.Frag} {ioA : Nat → Option Addr} {G0 H0 G G' H H' : Hp} {σ : L2.St} {ρ ρ' : Rho} {v : V} {r : Vl}
abbrev Tops (K : PySem.W.Frag) (G H : Hp) : List V → List D → Prop := Paired fun v d => Top K G H v d
def rNA (K : PySem.W.Frag) (m : D → Vl) (op : List D → Option D) : List V → Hp → VK → Prop := fun vs H Q => ∃ G ds r, Same G H ∧ Tops K G H vs ds ∧ op ds = some r ∧
  ∀ G' v H', Grow G H G' H' → RepN K H G' H' v (m r) → Q v H'
theorem Sg.topSl (S : Sg K ioA G0 H0 G H σ ρ) {i : Nat} (h : mtb ρ[i]? = true ∧ σ[i]? = some (some v)) {d : D} (c : cont ρ (.sl i) = some d) : Top K G H v d := S.top (r := .sl i) h c
theorem Sg.tops (S : Sg K ioA G0 H0 G H σ ρ) : ∀ {vs : List V} {rs : List Vl} {ds : List D}, RepVs K G σ ρ vs rs → conts ρ rs = some ds → Tops K G H vs ds
  | _, _, _, .nil, e => by cases e; exact .nil
  | _, _, _, .cons (b := r) h t, e => by
    obtain ⟨d, e1, e⟩ := bnd e
    obtain ⟨ds, e2, e⟩ := bnd e
    cases e
    refine .cons ?_ (S.tops t e2)
    cases r with
    | pu d => cases e1; exact .inl h
    | sl i => exact S.topSl h e1
    | nw d => exact h.elim
theorem kin_opA {m : D → Vl} {fa : FA} {op : List D → Option D} (ha : KinA fa) : KinE (fun ρ => (fa ρ).bind fun p => (conts p.2 p.1).bind fun ds => (op ds).bind fun r => some (m r, p.2)) := fun ρ r ρ' q => by
  obtain ⟨⟨r1, ρ1⟩, e1, q⟩ := bnd q
  obtain ⟨x, _, q⟩ := bnd q
  obtain ⟨z, _, q⟩ := bnd q
  cases q
  exact ha _ _ _ e1
theorem argsB {m : D → Vl} {fa : FA} {op : List D → Option D} {Q : VK} (q : tD K (fun ρ => (fa ρ).bind fun p => (conts p.2 p.1).bind fun ds => (op ds).bind fun r => some (m r, p.2)) σ H Q) :
    tDA K fa σ H (fun vs H1 => rNA K m op vs H1 Q) := by
  obtain ⟨ioA, G0, H0, G, ρ, r, ρ', S, e, k⟩ := q
  obtain ⟨⟨r1, ρ1⟩, e1, e⟩ := bnd e
  obtain ⟨ds, ed, e⟩ := bnd e
  obtain ⟨z, ez, e⟩ := bnd e
  cases e
  refine ⟨ioA, G0, H0, G, ρ, r1, _, S, e1, fun G1 vs H1 g1 S1 R1 => ⟨G1, ds, z, S1.sub, S1.tops R1 ed, ez, fun G2 v2 H2 g2 R2 => ?_⟩⟩
  obtain ⟨S2, R2'⟩ := S1.repN g2 R2
  exact k G2 v2 H2 (g1.trans g2.g) S2 R2'
variable {x : Str} {e : Expr} {es : List Expr} {fa : FA} {op : List D → Option D} {p pos : Pos} {id T : String} {m : D → Vl}
theorem pd_callB (hc : CallR X (.builtin id) (rNA X.K .pu op)) (hg : Gl X x) (hm : X.mg x = none) (hv : bootBuiltins x = some (.builtin id)) (ha : PDA X (e :: es) fa) (hn : x ≠ "__name__" := by decide) (hdb : (x == ("__debug__" : Str)) = false := by decide)
    (he : starEach (e :: es) X.env = (false, eval e X.env) :: starEach es X.env := by rfl) (hpl : (backTo pos (starEach es X.env)).any (·.1) = false := by rfl) : PD X (.Call (.Name x p) (e :: es) [] pos) (cOpA op fa) :=
  ⟨pe_w (pe_callB hc hg hm hv ha.pa hn hdb he hpl) fun _ _ _ q => argsB q, kin_opA ha.kin⟩
theorem pd_callBn (hc : CallR X (.builtin id) (rNA X.K mk op)) (hg : Gl X x) (hm : X.mg x = none) (hv : bootBuiltins x = some (.builtin id)) (ha : PDA X (e :: es) fa) (hn : x ≠ "__name__" := by decide) (hdb : (x == ("__debug__" : Str)) = false := by decide)
    (he : starEach (e :: es) X.env = (false, eval e X.env) :: starEach es X.env := by rfl) (hpl : (backTo pos (starEach es X.env)).any (·.1) = false := by rfl) : PD X (.Call (.Name x p) (e :: es) [] pos) (cOpAn op fa) :=
  ⟨pe_w (pe_callB hc hg hm hv ha.pa hn hdb he hpl) fun _ _ _ q => argsB q, kin_opA ha.kin⟩
theorem pd_callTy (hc : CallR X (.type T) (rNA X.K .pu op)) (hg : Gl X x) (hm : X.mg x = none) (hv : bootBuiltins x = some (.type T)) (ha : PDA X (e :: es) fa) (hn : x ≠ "__name__" := by decide) (hdb : (x == ("__debug__" : Str)) = false := by decide)
    (he : starEach (e :: es) X.env = (false, eval e X.env) :: starEach es X.env := by rfl) (hpl : (backTo pos (starEach es X.env)).any (·.1) = false := by rfl) : PD X (.Call (.Name x p) (e :: es) [] pos) (cOpA op fa) :=
  ⟨pe_w (pe_callTy hc hg hm hv ha.pa hn hdb he hpl) fun _ _ _ q => argsB q, kin_opA ha.kin⟩
theorem pd_callTyn (hc : CallR X (.type T) (rNA X.K mk op)) (hg : Gl X x) (hm : X.mg x = none) (hv : bootBuiltins x = some (.type T)) (ha : PDA X (e :: es) fa) (hn : x ≠ "__name__" := by decide) (hdb : (x == ("__debug__" : Str)) = false := by decide)
    (he : starEach (e :: es) X.env = (false, eval e X.env) :: starEach es X.env := by rfl) (hpl : (backTo pos (starEach es X.env)).any (·.1) = false := by rfl) : PD X (.Call (.Name x p) (e :: es) [] pos) (cOpAn op fa) :=
  ⟨pe_w (pe_callTy hc hg hm hv ha.pa hn hdb he hpl) fun _ _ _ q => argsB q, kin_opA ha.kin⟩

/-! ### displays -/
def pures : List Vl → Option (List D)
  | [] => some []
  | .pu d :: vs => (pures vs).bind fun ds => some (d :: ds)
  | _ => none
def cTup (as : FA) : FE := fun ρ => (as ρ).bind fun p => (pures p.1).bind fun ds => if ds.length ≤ lineN then some (.pu (.tuple ds), p.2) else none
def cLst (as : FA) : FE := fun ρ => (as ρ).bind fun p => (pures p.1).bind fun ds => if ds.length ≤ lineN then some (.nw (.list ds), p.2) else none
theorem dps_of {vs : List V} {rs : List Vl} {ds : List D} (h : RepVs K G σ ρ vs rs) (e : pures rs = some ds) : DpAll K G vs ds := by
  induction h generalizing ds with
  | nil => cases e; exact .nil
  | @cons v r vs rs h t ih =>
    cases r with
    | pu d =>
      obtain ⟨es, e1, e⟩ := bnd e
      cases e
      exact .cons h (ih e1)
    | sl i => cases e
    | nw d => cases e
theorem lineN_eq : lineN = sizeLine := by rw [sizeLine_eq] <;> rfl
theorem kin_tup (ha : KinA fa) : KinE (cTup fa) := fun ρ r ρ' q => by
  obtain ⟨⟨r1, ρ1⟩, e1, q⟩ := bnd q
  obtain ⟨x, _, q⟩ := bnd q
  simp only at q
  split at q <;> cases q
  exact ha _ _ _ e1
theorem kin_lst (ha : KinA fa) : KinE (cLst fa) := fun ρ r ρ' q => by
  obtain ⟨⟨r1, ρ1⟩, e1, q⟩ := bnd q
  obtain ⟨x, _, q⟩ := bnd q
  simp only at q
  split at q <;> cases q
  exact ha _ _ _ e1
theorem grow_new {p : Addr} {o : HO} (s : Same G H) (h : H p = none) : Grow G H (upd G p o) (upd H p o) := by
  have hg : G p = none := by
    cases q : G p with
    | none => rfl
    | some o' => rw [s p o' q] at h; cases h
  refine ⟨same_upd hg, same_upd h, fun b o' e => ?_, fun b o' e => ?_⟩
  · by_cases hb : b = p
    · subst hb; rw [upd_same] at e ⊢; exact e
    · rw [upd_ne hb] at e ⊢; exact s b o' e
  · by_cases hb : b = p
    · subst hb; exact .inr (.inl h)
    · rw [upd_ne hb] at e; exact .inl ⟨o', e⟩
theorem grow_nw {p : Addr} {o : HO} (s : Same G H) (h : H p = none) : Grow G H G (upd H p o) :=
  ⟨Same.refl _, same_upd h, s.trans (same_upd h), fun b o' e => .inl ⟨o', e⟩⟩
theorem not_in {p : Addr} (s : Same G H) (h : H p = none) : G p = none := by
  cases q : G p with
  | none => rfl
  | some o' => rw [s p o' q] at h; cases h
theorem repN_lst {p : Addr} {xs : List V} {ds : List D} (s : Same G H) (h : H p = none) (hd : DpAll K G xs ds) : RepN K H G (upd H p (.lst xs)) (.ref p) (.nw (.list ds)) :=
  ⟨p, rfl, h, not_in s h, xs, upd_same, hd⟩
theorem dp_tup {p : Addr} {xs : List V} {ds : List D} (s : Same G H) (h : H p = none) (hd : DpAll K G xs ds) : Dp K (upd G p (.tup xs)) (.ref p) (.tuple ds) :=
  .tup upd_same (dpsM (same_upd (not_in s h)) _ _ hd)
theorem pd_tup {x1} (ha : PDA X es fa) : PD X (.Tuple es x1 pos) (cTup fa) := by
  refine ⟨pe_w (pe_tup ha.pa) fun σ H Q q => ?_, kin_tup ha.kin⟩
  obtain ⟨ioA, G0, H0, G, ρ, r, ρ', S, e, k⟩ := q
  obtain ⟨⟨r1, ρ1⟩, e1, e⟩ := bnd e
  obtain ⟨ds, ed, e⟩ := bnd e
  simp only at e
  by_cases hz : ds.length ≤ lineN
  case neg => rw [if_neg hz] at e; cases e
  rw [if_pos hz] at e
  cases e
  refine ⟨ioA, G0, H0, G, ρ, r1, _, S, e1, fun G1 vs H1 g1 S1 R1 => ?_⟩
  have hd := dps_of R1 ed
  refine ⟨by rw [dps_len hd, ← lineN_eq]; exact hz, fun p hp => ?_⟩
  obtain ⟨S2, R2⟩ := S1.repN (w := .pu (.tuple ds)) (grow_new (o := .tup vs) S1.sub hp) (dp_tup S1.sub hp hd)
  exact k _ _ _ (g1.trans (grow_new (o := .tup vs) S1.sub hp).g) S2 R2
theorem pd_lst (ha : PDA X es fa) : PD X (.List es pos) (cLst fa) := by
  refine ⟨pe_w (pe_lst ha.pa) fun σ H Q q => ?_, kin_lst ha.kin⟩
  obtain ⟨ioA, G0, H0, G, ρ, r, ρ', S, e, k⟩ := q
  obtain ⟨⟨r1, ρ1⟩, e1, e⟩ := bnd e
  obtain ⟨ds, ed, e⟩ := bnd e
  simp only at e
  by_cases hz : ds.length ≤ lineN
  case neg => rw [if_neg hz] at e; cases e
  rw [if_pos hz] at e
  cases e
  refine ⟨ioA, G0, H0, G, ρ, r1, _, S, e1, fun G1 vs H1 g1 S1 R1 => ?_⟩
  have hd := dps_of R1 ed
  refine ⟨by rw [dps_len hd, ← lineN_eq]; exact hz, fun p hp => ?_⟩
  obtain ⟨S2, R2⟩ := S1.repN (w := .nw (.list ds)) (grow_nw (o := .lst vs) S1.sub hp) (repN_lst S1.sub hp hd)
  exact k _ _ _ g1 S2 R2

/-! ### subscripts, slices -/
theorem pd_ix {a b : Expr} {ga gb : FE} {op : D → D → Option D} (ho : IxR X (rN X.K .pu op)) (ha : PD X a ga) (hb : PD X b gb) (hs : PlainIx b) : PD X (.Subscript a b pos) (cOp2 op ga gb) :=
  ⟨pe_w (pe_ix ho ha.pe hb.pe hs) fun _ _ _ q => two hb.kin q, kin_op2 ha.kin hb.kin⟩
abbrev FO := Rho → Option (Option Int × Rho)
def oNo : FO := fun ρ => some (none, ρ)
def oSo (a : FE) : FO := fun ρ => (a ρ).bind fun p => match p.1 with
  | .pu (.int i) => some (some i, p.2)
  | _ => none
def tDO (K : PySem.W.Frag) (f : FO) : TO := fun σ H Q => ∃ ioA G0 H0 G ρ r ρ', Sg K ioA G0 H0 G H σ ρ ∧ f ρ = some (r, ρ') ∧
  ∀ G' H', Same G G' → Sg K ioA G0 H0 G' H' σ ρ' → Q r H'
structure PDO (X : Cx) (e : Option Expr) (f : FO) : Prop where
  po : PO X e (tDO X.K f)
  kin : ∀ ρ r ρ', f ρ = some (r, ρ') → Kin ρ ρ'
theorem po_w {e : Option Expr} {t u : TO} (h : PO X e t) (k : ∀ σ H Q, u σ H Q → t σ H Q) : PO X e u := ⟨fun pins s σ H Q I q => h.run pins s σ H Q I (k σ H Q q)⟩
theorem pd_ono : PDO X none oNo := by
  refine ⟨po_w po_none fun σ H Q q => ?_, fun ρ r ρ' q => by cases q; exact Kin.refl _⟩
  obtain ⟨ioA, G0, H0, G, ρ, r, ρ', S, e, k⟩ := q
  cases e
  exact k G H (Same.refl _) S
theorem pd_oso {a : Expr} {ga : FE} (ha : PD X a ga) : PDO X (some a) (oSo ga) := by
  refine ⟨po_w (po_some ha.pe) fun σ H Q q => ?_, fun ρ r ρ' q => ?_⟩
  · obtain ⟨ioA, G0, H0, G, ρ, r, ρ', S, e, k⟩ := q
    obtain ⟨⟨r1, ρ1⟩, e1, e⟩ := bnd e
    simp only at e
    split at e <;> cases e
    refine ⟨ioA, G0, H0, G, ρ, _, _, S, e1, fun G1 v1 H1 g1 S1 R1 => ?_⟩
    cases R1
    exact ⟨_, rfl, k G1 H1 g1 S1⟩
  · obtain ⟨⟨r1, ρ1⟩, e1, e⟩ := bnd q
    simp only at e
    split at e <;> cases e
    exact ha.kin _ _ _ e1
def cSl (m : D → Vl) (op : D → Option Int → Option Int → Option D) (a : FE) (lo hi : FO) : FE := fun ρ => (a ρ).bind fun p => (lo p.2).bind fun l => (hi l.2).bind fun h =>
  (cont h.2 (stl p.1)).bind fun x => (op x l.1 h.1).bind fun r => some (m r, h.2)
def rNS (K : PySem.W.Frag) (m : D → Vl) (op : D → Option Int → Option Int → Option D) : V → Option Int → Option Int → Hp → VK → Prop := fun x lo hi H Q => ∃ G d r, Same G H ∧ Top K G H x d ∧ op d lo hi = some r ∧
  ∀ G' v H', Grow G H G' H' → RepN K H G' H' v (m r) → Q v H'
theorem pd_slice {a : Expr} {lo hi : Option Expr} {ga : FE} {gl gh : FO} {p2 : Pos} {op : D → Option Int → Option Int → Option D} (ho : SlR X (rNS X.K m op)) (ha : PD X a ga) (hl : PDO X lo gl) (hh : PDO X hi gh) :
    PD X (.Subscript a (.Slice lo hi none p2) pos) (cSl m op ga gl gh) := by
  refine ⟨pe_w (pe_slice ho ha.pe hl.po hh.po) fun σ H Q q => ?_, fun ρ r ρ' q => ?_⟩
  · obtain ⟨ioA, G0, H0, G, ρ, r, ρ', S, e, k⟩ := q
    obtain ⟨⟨r1, ρ1⟩, e1, e⟩ := bnd e
    obtain ⟨⟨r2, ρ2⟩, e2, e⟩ := bnd e
    obtain ⟨⟨r3, ρ3⟩, e3, e⟩ := bnd e
    obtain ⟨x, ex, e⟩ := bnd e
    obtain ⟨z, ez, e⟩ := bnd e
    cases e
    refine ⟨ioA, G0, H0, G, ρ, r1, ρ1, S, e1, fun G1 v1 H1 g1 S1 R1 => ?_⟩
    obtain ⟨G1', g1', S1', R1'⟩ := settle S1 R1
    refine ⟨ioA, G0, H0, G1', ρ1, r2, ρ2, S1', e2, fun G2 H2 g2 S2 => ?_⟩
    refine ⟨ioA, G0, H0, G2, ρ2, r3, ρ3, S2, e3, fun G3 H3 g3 S3 => ?_⟩
    have R1'' : RepV X.K H0 G3 H3 σ ρ3 v1 (stl r1) := RepV.mono (g2.trans g3) (fun i hi => (hh.kin _ _ _ e3).mt i ((hl.kin _ _ _ e2).mt i hi)) R1'
    refine ⟨G3, x, z, S3.sub, S3.top R1'' ex, ez, fun G4 v4 H4 g4 R4 => ?_⟩
    obtain ⟨S4, R4'⟩ := S3.repN g4 R4
    exact k G4 v4 H4 ((g1.trans g1').trans ((g2.trans g3).trans g4.g)) S4 R4'
  · obtain ⟨⟨r1, ρ1⟩, e1, e⟩ := bnd q
    obtain ⟨⟨r2, ρ2⟩, e2, e⟩ := bnd e
    obtain ⟨⟨r3, ρ3⟩, e3, e⟩ := bnd e
    obtain ⟨x, ex, e⟩ := bnd e
    obtain ⟨z, ez, e⟩ := bnd e
    cases e
    exact ((ha.kin _ _ _ e1).trans (hl.kin _ _ _ e2)).trans (hh.kin _ _ _ e3)

/-! ### methods of built-in types: the receiver, the arguments -/
def tyD : String → D → Bool
  | T, .str _ => T == "str"
  | T, .list _ => T == "list"
  | _, _ => false
def cM (T : String) (m : D → Vl) (op : D → List D → Option D) (o : FE) (as : FA) : FE := fun ρ => (o ρ).bind fun p => (cont p.2 (stl p.1)).bind fun x0 => if tyD T x0 = true then (as p.2).bind fun q =>
  (cont q.2 (stl p.1)).bind fun x => (conts q.2 q.1).bind fun ds => (op x ds).bind fun r => some (m r, q.2) else none
def rNM (K : PySem.W.Frag) (m : D → Vl) (op : D → List D → Option D) : V → List V → Hp → VK → Prop := fun x xs H Q => ∃ G d ds r, Same G H ∧ Top K G H x d ∧ Tops K G H xs ds ∧ op d ds = some r ∧
  ∀ G' v H', Grow G H G' H' → RepN K H G' H' v (m r) → Q v H'
theorem Top.tyV (h : Top K G H v d) (s : Same G H) {T : String} (e : tyD T d = true) : L2.tyV K T v H := by
  have q := h.dp s
  cases d with
  | str x =>
    cases q
    have e' : (T == "str") = true := e
    exact eq_of_beq e'
  | list ds =>
    cases q with
    | lst hs _ =>
      have e' : (T == "list") = true := e
      exact .inl ⟨eq_of_beq e', _, hs⟩
  | _ => cases e
theorem kin_m {o : FE} {op : D → List D → Option D} (ho : KinE o) (ha : KinA fa) : KinE (cM T m op o fa) := fun ρ r ρ' q => by
  obtain ⟨⟨r1, ρ1⟩, e1, e⟩ := bnd q
  obtain ⟨x0, ex0, e⟩ := bnd e
  simp only at e
  split at e
  · obtain ⟨⟨r2, ρ2⟩, e2, e⟩ := bnd e
    obtain ⟨x, ex, e⟩ := bnd e
    obtain ⟨ds, ed, e⟩ := bnd e
    obtain ⟨z, ez, e⟩ := bnd e
    cases e
    exact (ho _ _ _ e1).trans (ha _ _ _ e2)
  · cases e
theorem meth {o : FE} {op : D → List D → Option D} {Q : VK} (ha : KinA fa) (q : tD K (cM T m op o fa) σ H Q) : tBM K T (rNM K m op) (tD K o) (tDA K fa) σ H Q := by
  obtain ⟨ioA, G0, H0, G, ρ, r, ρ', S, e, k⟩ := q
  obtain ⟨⟨r1, ρ1⟩, e1, e⟩ := bnd e
  obtain ⟨x0, ex0, e⟩ := bnd e
  simp only at e
  split at e
  · rename_i ht
    obtain ⟨⟨r2, ρ2⟩, e2, e⟩ := bnd e
    obtain ⟨x, ex, e⟩ := bnd e
    obtain ⟨ds, ed, e⟩ := bnd e
    obtain ⟨z, ez, e⟩ := bnd e
    cases e
    refine ⟨ioA, G0, H0, G, ρ, r1, ρ1, S, e1, fun G1 v1 H1 g1 S1 R1 => ?_⟩
    obtain ⟨G1', g1', S1', R1'⟩ := settle S1 R1
    refine ⟨(S1'.top R1' ex0).tyV S1'.sub ht, ?_⟩
    refine ⟨ioA, G0, H0, G1', ρ1, r2, ρ2, S1', e2, fun G2 vs H2 g2 S2 R2 => ?_⟩
    have R1'' : RepV K H0 G2 H2 σ ρ2 v1 (stl r1) := RepV.mono g2 (fun i hi => (ha _ _ _ e2).mt i hi) R1'
    refine ⟨G2, x, ds, z, S2.sub, S2.top R1'' ex, S2.tops R2 ed, ez, fun G3 v3 H3 g3 R3 => ?_⟩
    obtain ⟨S3, R3'⟩ := S2.repN g3 R3
    exact k G3 v3 H3 ((g1.trans g1').trans (g2.trans g3.g)) S3 R3'
  · cases e
theorem pd_bm {o : Expr} {go : FE} {name : Str} {apos cpos : Pos} {op : D → List D → Option D} (hm : MtR X id (rNM X.K m op)) (pa : PlainAttrs T) (slot : Slot T name id) (hty : typeOf (.builtin id) = pure (.type "method_descriptor")) (ho : PD X o go) (ha : PDA X (e :: es) fa)
    (hbase : attributeBase o name X.env (eval o X.env) = eval o X.env := by rfl)
    (hfew : ((backTo cpos (starEach (e :: es) X.env)).all (fun x => !x.1) && (backToKw cpos (keywordEach [] X.env)).all (fun x => x.1.isSome)
      && decide ((e :: es).length + ([] : List Keyword).length + (if ([] : List Keyword).isEmpty then 0 else 1) < 30)) = true := by rfl)
    (hline : (apos.endLine == cpos.line) = true := by rfl) (hs : starEach (e :: es) X.env = (false, eval e X.env) :: starEach es X.env := by rfl) (hplain : (backTo cpos (starEach es X.env)).any (·.1) = false := by rfl) :
    PD X (.Call (.Attribute o name apos) (e :: es) [] cpos) (cM T m op go fa) :=
  ⟨pe_w (pe_bm pa slot hty hm ho.pe ha.pa hbase hfew hline hs hplain) fun _ _ _ q => meth ha.kin q, kin_m ho.kin ha.kin⟩
theorem pd_bm0 {o : Expr} {go : FE} {name : Str} {apos cpos : Pos} {op : D → List D → Option D} (hm : MtR X id (rNM X.K m op)) (pa : PlainAttrs T) (slot : Slot T name id) (hty : typeOf (.builtin id) = pure (.type "method_descriptor")) (ho : PD X o go)
    (hbase : attributeBase o name X.env (eval o X.env) = eval o X.env := by rfl) (hline : (apos.endLine == cpos.line) = true := by rfl) :
    PD X (.Call (.Attribute o name apos) [] [] cpos) (cM T m op go aNil) := by
  refine ⟨pe_w (pe_bm0 pa slot hty hm ho.pe hbase hline) fun σ H Q q => ?_, kin_m ho.kin fun ρ r ρ' q => by cases q; exact Kin.refl _⟩
  obtain ⟨ioA, G0, H0, G, ρ, r, ρ', S, e, k⟩ := q
  obtain ⟨⟨r1, ρ1⟩, e1, e⟩ := bnd e
  obtain ⟨x0, ex0, e⟩ := bnd e
  simp only at e
  split at e
  · rename_i ht
    obtain ⟨⟨r2, ρ2⟩, e2, e⟩ := bnd e
    cases e2
    obtain ⟨x, ex, e⟩ := bnd e
    obtain ⟨ds, ed, e⟩ := bnd e
    cases ed
    obtain ⟨z, ez, e⟩ := bnd e
    cases e
    refine ⟨ioA, G0, H0, G, ρ, r1, ρ1, S, e1, fun G1 v1 H1 g1 S1 R1 => ?_⟩
    obtain ⟨G1', g1', S1', R1'⟩ := settle S1 R1
    refine ⟨(S1'.top R1' ex0).tyV S1'.sub ht, G1', x, [], z, S1'.sub, S1'.top R1' ex, .nil, ez, fun G3 v3 H3 g3 R3 => ?_⟩
    obtain ⟨S3, R3'⟩ := S1'.repN g3 R3
    exact k G3 v3 H3 ((g1.trans g1').trans g3.g) S3 R3'
  · cases e
end
end PL

/-! PL: the pure layer, 5: a def's promise, a call of it, a def by its body. -/
namespace PL
open PySem PySem.Spec PyProof.Rows L2
section
variable {X : Cx} {K : PySem.W.Frag} {ioA : Nat → Option Addr} {G0 H0 G G' H H' : Hp} {σ : L2.St} {ρ ρ' : Rho} {v : V} {r : Vl}

/-- the arguments as they stand -/
def ArsOk (K : PySem.W.Frag) (G H : Hp) : List V → List Ar → Prop := Paired fun v a => match a with
  | .v d => Dp K G v d
  | .m d => ∃ a, v = .ref a ∧ G a = none ∧ Own K G H a d
/-- the lent objects -/
def mA : List V → List Ar → List Addr
  | .ref a :: vs, .m _ :: as => a :: mA vs as
  | _ :: vs, _ :: as => mA vs as
  | _, _ => []
/-- what a def promises that does as m does -/
def spM (K : PySem.W.Frag) (n : Nat) (m : Mir) : Sp := fun vs H Q _ => vs.length = n ∧ ∃ G ars r outs, Same G H ∧ ArsOk K G H vs ars ∧ (mA vs ars).Nodup ∧ m ars = some (r, outs) ∧
  ∀ G' v H', Same G G' → Same G' H' → (∀ b o, G' b = some o → (∃ o', G b = some o') ∨ Lax H b) → (∀ b o, H b = some o → b ∉ mA vs ars → H' b = some o) → (∀ a ∈ mA vs ars, G' a = none) →
    Paired (fun a d => Own K G' H' a d) (mA vs ars) outs → RepN K H G' H' v r → Q v H'

/-! ### what a call does to the caller's slots -/
theorem wb_spec : ∀ {is : List Nat} {ds : List D} {ρ ρ' : Rho}, wb is ds ρ = some ρ' → is.Nodup →
    (∀ i, i ∉ is → ρ'[i]? = ρ[i]?) ∧ Paired (fun (i : Nat) d => (∃ d0, ρ[i]? = some (.own d0) ∧ ρ'[i]? = some (.own d)) ∨ (∃ d0, ρ[i]? = some (.io d0) ∧ ρ'[i]? = some (.io d))) is ds ∧ ρ'.length = ρ.length
  | [], [], ρ, ρ', h, _ => by cases h; exact ⟨fun _ _ => rfl, .nil, rfl⟩
  | [], _ :: _, _, _, h, _ => by cases h
  | _ :: _, [], _, _, h, _ => by cases h
  | i :: is, d :: ds, ρ, ρ', h, nd => by
    obtain ⟨ρ1, e1, h⟩ := bnd (show (putS i d ρ).bind (fun ρ' => wb is ds ρ') = some ρ' from h)
    obtain ⟨hi, nd'⟩ := List.nodup_cons.mp nd
    obtain ⟨q1, q2, q3⟩ := wb_spec h nd'
    have key : ρ1.length = ρ.length ∧ (∀ j, j ≠ i → ρ1[j]? = ρ[j]?) ∧ ((∃ d0, ρ[i]? = some (.own d0) ∧ ρ1[i]? = some (.own d)) ∨ (∃ d0, ρ[i]? = some (.io d0) ∧ ρ1[i]? = some (.io d))) := by
      unfold putS at e1
      split at e1
      · rename_i d0 e0
        cases e1
        have hlt := (List.getElem?_eq_some_iff.mp e0).1
        exact ⟨by simp, fun j hj => List.getElem?_set_ne (Ne.symm hj), .inl ⟨d0, e0, List.getElem?_set_self hlt⟩⟩
      · rename_i d0 e0
        cases e1
        have hlt := (List.getElem?_eq_some_iff.mp e0).1
        exact ⟨by simp, fun j hj => List.getElem?_set_ne (Ne.symm hj), .inr ⟨d0, e0, List.getElem?_set_self hlt⟩⟩
      · cases e1
    obtain ⟨k1, k2, k3⟩ := key
    refine ⟨fun j hj => ?_, .cons ?_ ?_, q3.trans k1⟩
    · have h1 : j ≠ i := fun e => hj (by rw [e]; exact List.mem_cons_self)
      have h2 : j ∉ is := fun e => hj (List.mem_cons_of_mem _ e)
      rw [q1 j h2, k2 j h1]
    · rw [q1 i hi]; exact k3
    · have tr : ∀ {l : List Nat} {es : List D}, (∀ j ∈ l, j ≠ i) → Paired (fun (i : Nat) d => (∃ d0, ρ1[i]? = some (.own d0) ∧ ρ'[i]? = some (.own d)) ∨ (∃ d0, ρ1[i]? = some (.io d0) ∧ ρ'[i]? = some (.io d))) l es →
          Paired (fun (i : Nat) d => (∃ d0, ρ[i]? = some (.own d0) ∧ ρ'[i]? = some (.own d)) ∨ (∃ d0, ρ[i]? = some (.io d0) ∧ ρ'[i]? = some (.io d))) l es := by
        intro l es hl hp
        induction hp with
        | nil => exact .nil
        | @cons a b l es h t ih =>
          refine .cons ?_ (ih fun j hj => hl j (List.mem_cons_of_mem _ hj))
          rw [k2 a (hl a List.mem_cons_self)] at h
          exact h
      exact tr (fun j hj e => hi (by rw [← e]; exact hj)) q2
theorem paired_mem {α β : Type} {F : α → β → Prop} : ∀ {as : List α} {bs : List β} {a : α}, Paired F as bs → a ∈ as → ∃ b, b ∈ bs ∧ F a b
  | _, _, _, .nil, h => by cases h
  | _, _, a, .cons r t, h => by
    rcases List.mem_cons.mp h with e | h
    · subst e; exact ⟨_, List.mem_cons_self, r⟩
    · obtain ⟨b, h1, h2⟩ := paired_mem t h
      exact ⟨b, List.mem_cons_of_mem _ h1, h2⟩
theorem paired_mem' {α β : Type} {F : α → β → Prop} : ∀ {as : List α} {bs : List β} {b : β}, Paired F as bs → b ∈ bs → ∃ a, a ∈ as ∧ F a b
  | _, _, _, .nil, h => by cases h
  | _, _, b, .cons r t, h => by
    rcases List.mem_cons.mp h with e | h
    · subst e; exact ⟨_, List.mem_cons_self, r⟩
    · obtain ⟨a, h1, h2⟩ := paired_mem' t h
      exact ⟨a, List.mem_cons_of_mem _ h1, h2⟩
theorem paired3 {α β γ : Type} {F : α → β → Prop} {P : β → γ → Prop} {R : α → γ → Prop} : ∀ {as : List α} {bs : List β} {cs : List γ}, Paired F as bs → Paired P bs cs → Paired R as cs → ∀ a ∈ as, ∃ b c, F a b ∧ P b c ∧ R a c
  | _, _, _, .nil, .nil, .nil, a, h => by cases h
  | _, _, _, .cons r t, .cons r' t', .cons r'' t'', a, h => by
    rcases List.mem_cons.mp h with e | h
    · subst e; exact ⟨_, _, r, r', r''⟩
    · exact paired3 t t' t'' a h
/-- the arguments of a call -/
theorem ars_of (S : Sg K ioA G0 H0 G H σ ρ) : ∀ {vs : List V} {rs : List Vl} {ars : List Ar}, RepVs K G σ ρ vs rs → toArs ρ rs = some ars →
    ArsOk K G H vs ars ∧ Paired (fun (i : Nat) a => σ[i]? = some (some (V.ref a)) ∧ mtb ρ[i]? = true) (slotsOf rs) (mA vs ars)
  | _, _, _, .nil, e => by cases e; exact ⟨.nil, .nil⟩
  | v :: vs, r :: rs, _, .cons h t, e => by
    obtain ⟨a, e1, e⟩ := bnd (show (toAr ρ r).bind (fun a => (toArs ρ rs).bind fun as => some (a :: as)) = _ from e)
    obtain ⟨as, e2, e⟩ := bnd e
    cases e
    obtain ⟨k1, k2⟩ := ars_of S t e2
    cases r with
    | pu d =>
      cases e1
      refine ⟨.cons h k1, ?_⟩
      have e3 : mA (v :: vs) (.v d :: as) = mA vs as := by cases v <;> rfl
      rw [e3]
      exact k2
    | nw d => exact h.elim
    | sl i =>
      obtain ⟨b, d, h1, h2, h3, h4⟩ := S.mt h.1
      have ea : a = .m d := by
        unfold toAr at e1
        rcases h4 with h4 | h4 <;> (simp only [h4] at e1; cases e1; rfl)
      subst ea
      have ev := h.2.symm.trans h1
      cases ev
      exact ⟨.cons ⟨b, rfl, h2, h3⟩ k1, .cons ⟨h1, h.1⟩ k2⟩
theorem mA_nodup (S : Sg K ioA G0 H0 G H σ ρ) : ∀ {is : List Nat} {as : List Addr}, Paired (fun (i : Nat) a => σ[i]? = some (some (V.ref a)) ∧ mtb ρ[i]? = true) is as → is.Nodup → as.Nodup
  | _, _, .nil, _ => List.nodup_nil
  | i :: is, a :: as, .cons h t, nd => by
    obtain ⟨hi, nd'⟩ := List.nodup_cons.mp nd
    refine List.nodup_cons.mpr ⟨fun hm => ?_, mA_nodup S t nd'⟩
    obtain ⟨j, hj, h1, h2⟩ := paired_mem' t hm
    have e := S.apart i j a h.2 h2 h.1 h1
    exact hi (by rw [e]; exact hj)
theorem Sg.called {is : List Nat} {as : List Addr} {outs : List D} (S : Sg K ioA G0 H0 G H σ ρ) (hp : Paired (fun (i : Nat) a => σ[i]? = some (some (V.ref a)) ∧ mtb ρ[i]? = true) is as) (nd : is.Nodup) (hw : wb is outs ρ = some ρ')
    (g1 : Same G G') (g2 : Same G' H') (g3 : ∀ b o, G' b = some o → (∃ o', G b = some o') ∨ Lax H b) (g4 : ∀ b o, H b = some o → b ∉ as → H' b = some o) (g5 : ∀ a ∈ as, G' a = none)
    (g6 : Paired (fun a d => Own K G' H' a d) as outs) : Sg K ioA G0 H0 G' H' σ ρ' ∧ Kin ρ ρ' := by
  obtain ⟨w1, w2, w3⟩ := wb_spec hw nd
  have tr := paired3 hp g6 w2
  have inn : ∀ (i : Nat), i ∈ is → ∃ a d, σ[i]? = some (some (V.ref a)) ∧ a ∈ as ∧ Own K G' H' a d ∧ ((∃ d0, ρ[i]? = some (.own d0) ∧ ρ'[i]? = some (.own d)) ∨ (∃ d0, ρ[i]? = some (.io d0) ∧ ρ'[i]? = some (.io d))) := fun i hi => by
    obtain ⟨a, d, h1, h2, h3⟩ := tr i hi
    obtain ⟨a', h4, h5⟩ := paired_mem hp hi
    have e := h1.1.symm.trans h5.1
    cases e
    exact ⟨a, d, h1.1, h4, h2, h3⟩
  have out : ∀ (i : Nat) (a : Addr), i ∉ is → mtb ρ[i]? = true → σ[i]? = some (some (V.ref a)) → a ∉ as := fun i a hi hm hs ha => by
    obtain ⟨j, hj, h1, h2⟩ := paired_mem' hp ha
    exact hi (by rw [S.apart i j a hm h2 hs h1]; exact hj)
  have kin : Kin ρ ρ' := fun i => by
    by_cases hi : i ∈ is
    · obtain ⟨a, d, h1, h2, h3, h4⟩ := inn i hi
      rcases h4 with ⟨d0, e1, e2⟩ | ⟨d0, e1, e2⟩
      · rw [e1, e2]; exact ⟨rfl, fun z => by cases z⟩
      · rw [e1, e2]; exact ⟨rfl, fun z => by cases z⟩
    · rw [w1 i hi]; exact ⟨rfl, fun _ => rfl⟩
  refine ⟨⟨S.len.trans w3.symm, g2, S.g0.trans g1, fun b o e => ?_, fun b o e k => ?_, fun i b e => ?_, fun i d e => ?_, fun i d e => ?_, fun i d e => ?_, fun i j a h1 h2 h3 h4 => S.apart i j a ((kin i).1.symm.trans h1) ((kin j).1.symm.trans h2) h3 h4, fun i d e => S.fx i d (by
    have hi : i ∉ is := fun hi => by
      obtain ⟨a, d', _, _, _, h4⟩ := inn i hi
      rcases h4 with ⟨d0, _, e2⟩ | ⟨d0, _, e2⟩ <;> (rw [e2] at e; cases e)
    rw [w1 i hi] at e
    exact e)⟩, kin⟩
  · rcases g3 b o e with ⟨o', q⟩ | q
    · exact S.new b o' q
    · exact .inr (S.lax q)
  · refine g4 b o (S.fr b o e k) fun hb => ?_
    obtain ⟨j, hj, h1, h2⟩ := paired_mem' hp hb
    cases z : ρ[j]? with
    | none => rw [z] at h2; cases h2
    | some s =>
      cases s with
      | own d =>
        obtain ⟨a, q1, q2, q3, q4⟩ := S.own j d z
        have e2 := h1.symm.trans q1
        cases e2
        rw [e] at q3; cases q3
      | io d =>
        obtain ⟨a, q0, q1, q4⟩ := S.io j d z
        have e2 := h1.symm.trans q1
        cases e2
        exact k j q0
      | _ => rw [z] at h2; cases h2
  · obtain ⟨⟨o, q1, qn⟩, q2, q3⟩ := S.ioh i b e
    refine ⟨?_, ?_, q3⟩
    · by_cases hb : b ∈ as
      · obtain ⟨d, _, h2⟩ := paired_mem g6 hb
        exact h2.nt
      · exact ⟨o, g4 b o q1 hb, qn⟩
    · cases z : G' b with
      | none => rfl
      | some o' =>
        rcases g3 b o' z with ⟨_, z2⟩ | z2
        · rw [q2] at z2; cases z2
        · exact (z2.no q1 qn).elim
  · have hi : i ∉ is := fun hi => by
      obtain ⟨a, d', _, _, _, h4⟩ := inn i hi
      rcases h4 with ⟨d0, _, e2⟩ | ⟨d0, _, e2⟩ <;> (rw [e2] at e; cases e)
    rw [w1 i hi] at e
    obtain ⟨v, q1, q2⟩ := S.pu i d e
    exact ⟨v, q1, dpM g1 _ _ q2⟩
  · by_cases hi : i ∈ is
    · obtain ⟨a, d', h1, h2, h3, h4⟩ := inn i hi
      rcases h4 with ⟨d0, e1, e2⟩ | ⟨d0, e1, e2⟩
      · rw [e2] at e
        cases e
        obtain ⟨a', q1, q2, q3, q4⟩ := S.own i d0 e1
        have e3 := h1.symm.trans q1
        cases e3
        exact ⟨a, h1, g5 a h2, q3, h3⟩
      · rw [e2] at e; cases e
    · rw [w1 i hi] at e
      obtain ⟨a, q1, q2, q3, q4⟩ := S.own i d e
      have ha := out i a hi (by rw [e]; rfl) q1
      obtain ⟨o, q5, qn⟩ := q4.nt
      refine ⟨a, q1, ?_, q3, q4.keep g1 fun o z => g4 a o z ha⟩
      cases z : G' a with
      | none => rfl
      | some o' =>
        rcases g3 a o' z with ⟨_, z2⟩ | z2
        · rw [q2] at z2; cases z2
        · exact (z2.no q5 qn).elim
  · by_cases hi : i ∈ is
    · obtain ⟨a, d', h1, h2, h3, h4⟩ := inn i hi
      rcases h4 with ⟨d0, e1, e2⟩ | ⟨d0, e1, e2⟩
      · rw [e2] at e; cases e
      · rw [e2] at e
        cases e
        obtain ⟨a', q0, q1, q4⟩ := S.io i d0 e1
        have e3 := h1.symm.trans q1
        cases e3
        exact ⟨a, q0, h1, h3⟩
    · rw [w1 i hi] at e
      obtain ⟨a, q0, q1, q4⟩ := S.io i d e
      have ha := out i a hi (by rw [e]; rfl) q1
      exact ⟨a, q0, q1, q4.keep g1 fun o z => g4 a o z ha⟩
theorem call_ok {n : Nat} {m : Mir} {fa : FA} {Q : VK} {E : XK} (hn : ∀ ρ r ρ', fa ρ = some (r, ρ') → r.length = n) (q : tD K (cCall m fa) σ H Q) : tCall (spM K n m) [] E (tDA K fa) σ H Q := by
  obtain ⟨ioA, G0, H0, G, ρ, r, ρ', S, e, k⟩ := q
  obtain ⟨⟨r1, ρ1⟩, e1, e⟩ := bnd e
  obtain ⟨ars, ea, e⟩ := bnd e
  simp only at e
  split at e
  · rename_i nd
    obtain ⟨⟨r2, outs⟩, em, e⟩ := bnd e
    obtain ⟨ρ2, ew, e⟩ := bnd e
    cases e
    refine ⟨ioA, G0, H0, G, ρ, r1, ρ1, S, e1, fun G1 vs H1 g1 S1 R1 => ?_⟩
    obtain ⟨k1, k2⟩ := ars_of S1 R1 ea
    rw [List.append_nil]
    refine ⟨(Paired.length R1).trans (hn _ _ _ e1), G1, ars, r2, outs, S1.sub, k1, mA_nodup S1 k2 nd, em, fun G2 v H2 q1 q2 q3 q4 q5 q6 q7 => ?_⟩
    obtain ⟨S2, kin⟩ := S1.called k2 nd ew q1 q2 q3 q4 q5 q6
    refine k G2 v H2 (g1.trans q1) S2 ?_
    cases r2 with
    | pu d => exact q7
    | sl i => exact q7.elim
    | nw d =>
      obtain ⟨a, rfl, h1, h2, h3⟩ := q7
      refine ⟨a, rfl, h2, S1.fresh h1, h3, fun i hi e => ?_⟩
      obtain ⟨b, d', z1, _, z3, _⟩ := S1.mt ((kin i).1.symm.trans hi)
      obtain ⟨o, z4⟩ := z3.there
      have e2 := e.symm.trans z1
      cases e2
      rw [h1] at z4; cases z4
  · cases e
theorem kin_call {m : Mir} {fa : FA} (ha : KinA fa) : KinE (cCall m fa) := fun ρ r ρ' q => by
  obtain ⟨⟨r1, ρ1⟩, e1, e⟩ := bnd q
  obtain ⟨ars, ea, e⟩ := bnd e
  simp only at e
  split at e
  · rename_i nd
    obtain ⟨⟨r2, outs⟩, em, e⟩ := bnd e
    obtain ⟨ρ2, ew, e⟩ := bnd e
    cases e
    refine (ha _ _ _ e1).trans fun i => ?_
    obtain ⟨w1, w2, w3⟩ := wb_spec ew nd
    by_cases hi : i ∈ slotsOf r1
    · obtain ⟨d, _, h4⟩ := paired_mem w2 hi
      rcases h4 with ⟨d0, e1, e2⟩ | ⟨d0, e1, e2⟩
      · rw [e1, e2]; exact ⟨rfl, fun z => by cases z⟩
      · rw [e1, e2]; exact ⟨rfl, fun z => by cases z⟩
    · rw [w1 i hi]; exact ⟨rfl, fun _ => rfl⟩
  · cases e
/-- how many arguments -/
def LenA (n : Nat) (fa : FA) : Prop := ∀ ρ r ρ', fa ρ = some (r, ρ') → r.length = n
theorem len_nil : LenA 0 aNil := fun ρ r ρ' q => by cases q; rfl
theorem len_cons {n : Nat} {a : FE} {fa : FA} (h : LenA n fa) : LenA (n + 1) (aCons a fa) := fun ρ r ρ' q => by
  obtain ⟨⟨r1, ρ1⟩, e1, e⟩ := bnd q
  obtain ⟨⟨r2, ρ2⟩, e2, e⟩ := bnd e
  cases e
  exact congrArg (· + 1) (h _ _ _ e2)
variable {CX : CXT} {k n : Nat} {f : Addr} {fd : FuncData} {ps : List Str} {x : Str} {p pos : Pos} {e : Expr} {es : List Expr} {fa : FA} {m : Mir}
theorem pd_call (F : FnOk X.prog X.w X.K X.mg X.base CX0 k f fd ps (spM X.K n m)) (hr : Room k X.A) (hg : Gl X x) (hm : X.mg x = some (.ref f)) (hk : PySem.W.keepIn X.K (.ref f) = true) (hb : Binds X.K fd ps []) (hl : LenA n fa)
    (ha : PDA X (e :: es) fa) (hdb : (x == ("__debug__" : Str)) = false := by decide) (he : starEach (e :: es) X.env = (false, eval e X.env) :: starEach es X.env := by rfl) (hpl : (backTo pos (starEach es X.env)).any (·.1) = false := by rfl) :
    PD X (.Call (.Name x p) (e :: es) [] pos) (cCall m fa) :=
  ⟨pe_w (pe_call F hr hg hm hk hb .nil pass0 ha.pa hdb he hpl) fun _ _ _ q => call_ok hl q, kin_call ha.kin⟩
theorem pd_call0 (F : FnOk X.prog X.w X.K X.mg X.base CX0 k f fd ps (spM X.K 0 m)) (hr : Room k X.A) (hg : Gl X x) (hm : X.mg x = some (.ref f)) (hk : PySem.W.keepIn X.K (.ref f) = true) (hb : Binds X.K fd ps [])
    (hdb : (x == ("__debug__" : Str)) = false := by decide) : PD X (.Call (.Name x p) [] [] pos) (cCall m aNil) := by
  refine ⟨pe_w (pe_call0 F hr hg hm hk hb .nil pass0 hdb) fun σ H Q q => ?_, kin_call fun ρ r ρ' q => by cases q; exact Kin.refl _⟩
  obtain ⟨ioA, G0, H0, G, ρ, r, ρ', S, e, k⟩ := call_ok (E := fun _ _ _ => False) len_nil q
  cases e
  exact k G [] H (Same.refl _) S .nil
end
end PL

/-! PL: the pure layer, 6: targets, what is walked, comprehensions, statements, a def by its body. -/
namespace PL
open PySem PySem.Spec PyProof.Rows L2
section
variable {X : Cx} {K : PySem.W.Frag} {ioA : Nat → Option Addr} {G0 H0 G G' H H' : Hp} {σ σ' : L2.St} {ρ ρ' : Rho} {v : V} {r : Vl}

/-! ### slots stored -/
/-- a slot that is not lent takes a plain value, or nothing -/
theorem Sg.set (S : Sg K ioA G0 H0 G H σ ρ) {i : Nat} {s : Sl} {u : Option V} (hi : ∀ d, ρ[i]? ≠ some (.io d)) (hs : s = .non ∨ ∃ d v, s = .pu d ∧ u = some v ∧ Dp K G v d) : Sg K ioA G0 H0 G H (σ.set i u) (ρ.set i s) := by
  have nm : mtb (some s) = false := by
    rcases hs with e | ⟨d, v, e, _⟩ <;> (rw [e]; rfl)
  have at_ : ∀ (j : Nat), j ≠ i → (ρ.set i s)[j]? = ρ[j]? := fun j hj => List.getElem?_set_ne (Ne.symm hj)
  have at2 : ∀ (j : Nat), j ≠ i → (σ.set i u)[j]? = σ[j]? := fun j hj => List.getElem?_set_ne (Ne.symm hj)
  have own : ∀ (j : Nat) t, (ρ.set i s)[j]? = some t → (j ≠ i ∧ ρ[j]? = some t) ∨ (j = i ∧ t = s ∧ i < ρ.length) := fun j t e => by
    by_cases hj : j = i
    · subst hj
      by_cases hl : j < ρ.length
      · rw [List.getElem?_set_self hl] at e; cases e; exact .inr ⟨rfl, rfl, hl⟩
      · rw [List.getElem?_eq_none (by simpa using hl)] at e; cases e
    · rw [at_ j hj] at e; exact .inl ⟨hj, e⟩
  have mt : ∀ (j : Nat), mtb (ρ.set i s)[j]? = true → j ≠ i ∧ mtb ρ[j]? = true := fun j e => by
    cases z : (ρ.set i s)[j]? with
    | none => rw [z] at e; cases e
    | some t =>
      rw [z] at e
      rcases own j t z with ⟨h1, h2⟩ | ⟨h1, h2, _⟩
      · rw [h2]; exact ⟨h1, e⟩
      · rw [h2, nm] at e; cases e
  refine ⟨by rw [List.length_set, List.length_set]; exact S.len, S.sub, S.g0, S.new, S.fr, S.ioh, fun j d e => ?_, fun j d e => ?_, fun j d e => ?_, fun j l a h1 h2 h3 h4 => ?_, fun j d e => by
    rcases own j _ e with ⟨h1, h2⟩ | ⟨h1, h2, hl⟩
    · rw [at2 j h1]; exact S.fx j d h2
    · rcases hs with q | ⟨d', v, q, q2, q3⟩
      · rw [q] at h2; cases h2
      · rw [q] at h2; cases h2⟩
  · rcases own j _ e with ⟨h1, h2⟩ | ⟨h1, h2, hl⟩
    · rw [at2 j h1]; exact S.pu j d h2
    · rcases hs with q | ⟨d', v, q, q2, q3⟩
      · rw [q] at h2; cases h2
      · rw [q] at h2; cases h2
        subst h1
        exact ⟨v, by rw [List.getElem?_set_self (by rw [S.len]; exact hl), q2], q3⟩
  · rcases own j _ e with ⟨h1, h2⟩ | ⟨h1, h2, hl⟩
    · rw [at2 j h1]; exact S.own j d h2
    · rw [← h2] at nm; cases nm
  · rcases own j _ e with ⟨h1, h2⟩ | ⟨h1, h2, hl⟩
    · rw [at2 j h1]; exact S.io j d h2
    · rw [← h2] at nm; cases nm
  · obtain ⟨j1, j2⟩ := mt j h1
    obtain ⟨l1, l2⟩ := mt l h2
    rw [at2 j j1] at h3
    rw [at2 l l1] at h4
    exact S.apart j l a j2 l2 h3 h4
/-- .. takes a new object as its own -/
theorem Sg.setOwn (S : Sg K ioA G0 H0 G H σ ρ) {i : Nat} {d : D} {a : Addr} (hi : ∀ d, ρ[i]? ≠ some (.io d)) (h1 : G a = none) (h2 : H0 a = none) (h3 : Own K G H a d) (h4 : ∀ (j : Nat), mtb ρ[j]? = true → σ[j]? ≠ some (some (V.ref a))) :
    Sg K ioA G0 H0 G H (σ.set i (some (.ref a))) (ρ.set i (.own d)) := by
  have at_ : ∀ (j : Nat), j ≠ i → (ρ.set i (.own d))[j]? = ρ[j]? := fun j hj => List.getElem?_set_ne (Ne.symm hj)
  have at2 : ∀ (j : Nat), j ≠ i → (σ.set i (some (.ref a)))[j]? = σ[j]? := fun j hj => List.getElem?_set_ne (Ne.symm hj)
  have own : ∀ (j : Nat) t, (ρ.set i (.own d))[j]? = some t → (j ≠ i ∧ ρ[j]? = some t) ∨ (j = i ∧ t = .own d ∧ i < ρ.length) := fun j t e => by
    by_cases hj : j = i
    · subst hj
      by_cases hl : j < ρ.length
      · rw [List.getElem?_set_self hl] at e; cases e; exact .inr ⟨rfl, rfl, hl⟩
      · rw [List.getElem?_eq_none (by simpa using hl)] at e; cases e
    · rw [at_ j hj] at e; exact .inl ⟨hj, e⟩
  have sf : i < ρ.length → (σ.set i (some (.ref a)))[i]? = some (some (.ref a)) := fun hl => List.getElem?_set_self (by rw [S.len]; exact hl)
  refine ⟨by rw [List.length_set, List.length_set]; exact S.len, S.sub, S.g0, S.new, S.fr, S.ioh, fun j e q => ?_, fun j e q => ?_, fun j e q => ?_, fun j l b q1 q2 q3 q4 => ?_, fun j e q => by
    rcases own j _ q with ⟨z1, z2⟩ | ⟨z1, z2, hl⟩
    · rw [at2 j z1]; exact S.fx j e z2
    · cases z2⟩
  · rcases own j _ q with ⟨z1, z2⟩ | ⟨z1, z2, hl⟩
    · rw [at2 j z1]; exact S.pu j e z2
    · cases z2
  · rcases own j _ q with ⟨z1, z2⟩ | ⟨z1, z2, hl⟩
    · rw [at2 j z1]; exact S.own j e z2
    · cases z2
      subst z1
      exact ⟨a, sf hl, h1, h2, h3⟩
  · rcases own j _ q with ⟨z1, z2⟩ | ⟨z1, z2, hl⟩
    · rw [at2 j z1]; exact S.io j e z2
    · cases z2
  · by_cases hj : j = i
    · by_cases hl : l = i
      · rw [hj, hl]
      · rw [hj] at q3
        by_cases hz : i < ρ.length
        · rw [sf hz] at q3; cases q3
          rw [at_ l hl] at q2
          rw [at2 l hl] at q4
          exact absurd q4 (h4 l q2)
        · rw [List.getElem?_eq_none (by rw [List.length_set, S.len]; omega)] at q3; cases q3
    · by_cases hl : l = i
      · rw [hl] at q4
        by_cases hz : i < ρ.length
        · rw [sf hz] at q4; cases q4
          rw [at_ j hj] at q1
          rw [at2 j hj] at q3
          exact absurd q3 (h4 j q1)
        · rw [List.getElem?_eq_none (by rw [List.length_set, S.len]; omega)] at q4; cases q4
      · rw [at_ j hj] at q1
        rw [at_ l hl] at q2
        rw [at2 j hj] at q3
        rw [at2 l hl] at q4
        exact S.apart j l b q1 q2 q3 q4
theorem setS_eq {i : Nat} {s : Sl} (e : setS i s ρ = some ρ') : (∀ d, ρ[i]? ≠ some (.io d)) ∧ ρ' = ρ.set i s ∧ i < ρ.length := by
  unfold setS at e
  split at e
  · cases e
  · rename_i h2 h1
    cases e
    have hl := (List.getElem?_eq_some_iff.mp h1).1
    exact ⟨fun d z => by rw [h1] at z; cases z; exact h2 _ rfl, rfl, hl⟩
  · cases e

/-! ### targets: ts the slots that are stored -/
abbrev tDG' (K : PySem.W.Frag) (g : FG) (ts : List Nat) : TG := fun v σ H Q => ∃ ioA G0 H0 G ρ d ρ', Sg K ioA G0 H0 G H σ ρ ∧ Dp K G v d ∧ g d ρ = some ρ' ∧ ∀ σ', Sg K ioA G0 H0 G H σ' ρ' → (∀ j : Nat, j ∉ ts → σ'[j]? = σ[j]?) → Q σ' H
structure PDG (X : Cx) (e : Expr) (g : FG) (ts : List Nat) : Prop where
  pg : PG X e (tDG' X.K g ts)
  kin : ∀ d ρ ρ', g d ρ = some ρ' → (∀ j : Nat, j ∉ ts → ρ'[j]? = ρ[j]?) ∧ ρ'.length = ρ.length
theorem pd_gn {e : Expr} {i : Nat} (h : PG X e (gName i)) : PDG X e (gN i) [i] := by
  refine ⟨pg_w h fun v σ H Q q => ?_, fun d ρ ρ' q => ?_⟩
  · obtain ⟨ioA, G0, H0, G, ρ, d, ρ', S, hd, e, k⟩ := q
    obtain ⟨h1, rfl, _⟩ := setS_eq e
    exact k _ (S.set h1 (.inr ⟨d, v, rfl, rfl, hd⟩)) fun j hj => List.getElem?_set_ne fun z => hj (by rw [z]; exact List.mem_singleton.mpr rfl)
  · obtain ⟨h1, rfl, _⟩ := setS_eq q
    exact ⟨fun j hj => List.getElem?_set_ne fun z => hj (by rw [z]; exact List.mem_singleton.mpr rfl), by simp⟩
structure PDGs (X : Cx) (es : List Expr) (gs : List FG) (ts : List Nat) : Prop where
  pgs : PGs X es (fun vs σ H Q => ∃ ioA G0 H0 G ρ ds ρ', Sg X.K ioA G0 H0 G H σ ρ ∧ DpAll X.K G vs ds ∧ gAll gs ds ρ = some ρ' ∧ ∀ σ', Sg X.K ioA G0 H0 G H σ' ρ' → (∀ j : Nat, j ∉ ts → σ'[j]? = σ[j]?) → Q σ' H)
  kin : ∀ ds ρ ρ', gAll gs ds ρ = some ρ' → (∀ j : Nat, j ∉ ts → ρ'[j]? = ρ[j]?) ∧ ρ'.length = ρ.length
theorem pgs_w {e : List Expr} {t u : TGs} (h : PGs X e t) (k : ∀ v σ H Q, u v σ H Q → t v σ H Q) : PGs X e u := by
  obtain ⟨h⟩ := h
  exact ⟨fun pins s σ H v u' Q I r q => h pins s σ H v u' Q I r (k v σ H Q q)⟩
theorem pd_gnil : PDGs X [] [] [] := by
  refine ⟨pgs_w pgs_nil fun v σ H Q q => ?_, fun ds ρ ρ' q => ?_⟩
  · obtain ⟨ioA, G0, H0, G, ρ, ds, ρ', S, hd, e, k⟩ := q
    cases ds with
    | nil =>
      cases hd
      cases e
      exact ⟨rfl, k σ S fun _ _ => rfl⟩
    | cons d ds => cases e
  · cases ds with
    | nil => cases q; exact ⟨fun _ _ => rfl, rfl⟩
    | cons d ds => cases q
theorem pd_gcons {e : Expr} {es : List Expr} {g : FG} {gs : List FG} {ts us : List Nat} (h1 : PDG X e g ts) (h2 : PDGs X es gs us)
    (hs : (assignEach (e :: es) X.env).map (·.2) = assign e X.env :: (assignEach es X.env).map (·.2) := by rfl) : PDGs X (e :: es) (g :: gs) (ts ++ us) := by
  refine ⟨pgs_w (pgs_cons h1.pg h2.pgs hs) fun vs σ H Q q => ?_, fun ds ρ ρ' q => ?_⟩
  · obtain ⟨ioA, G0, H0, G, ρ, ds, ρ', S, hd, e, k⟩ := q
    cases ds with
    | nil => cases e
    | cons d ds =>
      cases hd with
      | cons hd1 hd2 =>
        obtain ⟨ρ1, e1, e2⟩ := bnd e
        refine ⟨_, _, rfl, ioA, G0, H0, G, ρ, d, ρ1, S, hd1, e1, fun σ1 S1 k1 => ⟨ioA, G0, H0, G, ρ1, ds, ρ', S1, hd2, e2, fun σ2 S2 k2 => k σ2 S2 fun j hj => ?_⟩⟩
        rw [List.mem_append, not_or] at hj
        rw [k2 j hj.2, k1 j hj.1]
  · cases ds with
    | nil => cases q
    | cons d ds =>
      obtain ⟨ρ1, e1, e2⟩ := bnd q
      obtain ⟨a1, a2⟩ := h1.kin _ _ _ e1
      obtain ⟨b1, b2⟩ := h2.kin _ _ _ e2
      refine ⟨fun j hj => ?_, b2.trans a2⟩
      rw [List.mem_append, not_or] at hj
      rw [b1 j hj.2, a1 j hj.1]
theorem gAll_len : ∀ {gs : List FG} {ds : List D} {ρ ρ' : Rho}, gAll gs ds ρ = some ρ' → gs.length = ds.length
  | [], [], _, _, _ => rfl
  | [], _ :: _, _, _, h => by cases h
  | _ :: _, [], _, _, h => by cases h
  | g :: gs, d :: ds, ρ, ρ', h => by
    obtain ⟨ρ1, e1, e2⟩ := bnd h
    exact congrArg (· + 1) (gAll_len e2)
theorem pd_gt {es : List Expr} {k : Nat} {gs : List FG} {ts : List Nat} {pos : Pos} (hc : X.calm = true) (h : PDGs X es gs ts)
    (hn : (assignEach es X.env).length = gs.length := by rfl) (hst : (assignEach es X.env).findIdx? (·.1) = none := by rfl) : PDG X (.Tuple es k pos) (gT gs) ts := by
  refine ⟨pg_w (pg_tup hc h.pgs hn hst) fun v σ H Q q => ?_, fun d ρ ρ' q => ?_⟩
  · obtain ⟨ioA, G0, H0, G, ρ, d, ρ', S, hd, e, k⟩ := q
    cases d with
    | tuple ds =>
      cases hd with
      | tup hs ha =>
        exact ⟨_, _, rfl, seqT S.sub (SqT.of hs), (dps_len ha).trans (gAll_len e).symm, ioA, G0, H0, G, ρ, ds, ρ', S, ha, e, k⟩
    | _ => cases e
  · cases d with
    | tuple ds => exact h.kin _ _ _ q
    | _ => cases q

/-! ### what is walked -/
def YD (K : PySem.W.Frag) (Gs : Hp) (ds : List D) : Nat → Hp → V → Hp → Prop := fun i H x H' => ∀ Gi, Same Gs Gi → Same Gi H → ∀ d, ds[i]? = some d → ∃ Gi', Grow Gi H Gi' H' ∧ Dp K Gi' x d
abbrev WkD (K : PySem.W.Frag) (Gs : Hp) (J : It) (ds : List D) : Prop := Walk J ds.length (fun H => Same Gs H) (YD K Gs ds)
abbrev tDI (K : PySem.W.Frag) (f : FI) : TI := fun σ H R => ∃ ioA G0 H0 G ρ ds ρ', Sg K ioA G0 H0 G H σ ρ ∧ f ρ = some (ds, ρ') ∧ ∀ G' J H', Same G G' → Sg K ioA G0 H0 G' H' σ ρ' → WkD K G' J ds → R J H'
structure PDI (X : Cx) (tg iter : Expr) (f : FI) : Prop where
  pi : PI X tg iter (tDI X.K f)
  kin : ∀ ρ r ρ', f ρ = some (r, ρ') → Kin ρ ρ'
theorem pi_w {tg iter : Expr} {t u : TI} (h : PI X tg iter t) (k : ∀ σ H R, u σ H R → t σ H R) : PI X tg iter u := ⟨fun pins s σ H R I q => h.run pins s σ H R I (k σ H R q)⟩
theorem wk_list {a : Addr} {xs : List V} {ds : List D} (h : SqL K G a xs) (hd : DpAll K G xs ds) : WkD K G (Itl K a) ds := by
  have hl := dps_len hd
  refine ⟨fun i H hi s => ?_, fun H s => ⟨xs, s.seq h, by omega⟩, fun i H x H' hi s y => ?_⟩
  · exact ⟨xs, xs[i], s.seq h, List.getElem?_eq_getElem (by omega)⟩
  · obtain ⟨rfl, y⟩ := y
    intro Gi g1 g2 d e
    obtain ⟨v, h1, h2⟩ := dps_getD hd e
    have e2 := (y xs (s.seq h)).symm.trans h1
    cases e2
    exact ⟨Gi, Grow.refl g2, dpM g1 _ _ h2⟩
theorem wk_tup {a : Addr} {xs : List V} {ds : List D} (h : SqT K G a xs) (hd : DpAll K G xs ds) : WkD K G (Itt K a) ds := by
  have hl := dps_len hd
  refine ⟨fun i H hi s => ?_, fun H s => ⟨xs, seqT s h, by omega⟩, fun i H x H' hi s y => ?_⟩
  · exact ⟨xs, xs[i], seqT s h, List.getElem?_eq_getElem (by omega)⟩
  · obtain ⟨rfl, y⟩ := y
    intro Gi g1 g2 d e
    obtain ⟨v, h1, h2⟩ := dps_getD hd e
    have e2 := (y xs (seqT s h)).symm.trans h1
    cases e2
    exact ⟨Gi, Grow.refl g2, dpM g1 _ _ h2⟩
theorem wk_str {x : Str} : WkD K G (Its x) (x.cps.toList.map fun c => .str ⟨#[c]⟩) := by
  refine ⟨fun i H hi s => ?_, fun H s => ?_, fun i H v H' hi s y => ?_⟩
  · show i < x.cps.size
    simpa using hi
  · show x.cps.size ≤ _
    simp
  · obtain ⟨rfl, c, hc, rfl⟩ := y
    intro Gi g1 g2 d e
    have hc' : x.cps.toList[i]? = some c := by simpa using hc
    rw [List.getElem?_map, hc'] at e
    cases e
    exact ⟨Gi, Grow.refl g2, .str _⟩
theorem wk_range {lo : Int} {n : Nat} : WkD K G (Itr lo n) (intsD lo n) := by
  have hl : (intsD lo n).length = n := by simp [intsD]
  refine ⟨fun i H hi s => ?_, fun H s => ?_, fun i H v H' hi s y => ?_⟩
  · show i < n
    rw [hl] at hi; exact hi
  · show n ≤ _
    rw [hl]; exact Nat.le_refl _
  · obtain ⟨rfl, rfl⟩ := y
    intro Gi g1 g2 d e
    rw [hl] at hi
    unfold intsD at e
    rw [List.getElem?_map, List.getElem?_range hi] at e
    cases e
    exact ⟨Gi, Grow.refl g2, .int _⟩
theorem grow_pair {T : Addr} {x y : V} {d e : D} (s : Same G H) (h : H T = none) (h1 : Dp K G x d) (h2 : Dp K G y e) : ∃ Gi', Grow G H Gi' (upd H T (.tup [x, y])) ∧ Dp K Gi' (.ref T) (.tuple [d, e]) :=
  ⟨_, grow_new s h, dp_tup s h (.cons h1 (.cons h2 .nil))⟩
theorem pd_iE_list {tg a : Expr} {ga : FE} (ha : PD X a ga) : PDI X tg a (fun ρ => (ga ρ).bind fun p => match stl p.1 with
    | .pu (.list ds) => some (ds, p.2)
    | _ => none) := by
  refine ⟨pi_w (pi_list ha.pe) fun σ H R q => ?_, fun ρ r ρ' q => ?_⟩
  · obtain ⟨ioA, G0, H0, G, ρ, ds, ρ', S, e, k⟩ := q
    obtain ⟨⟨r1, ρ1⟩, e1, e⟩ := bnd e
    refine ⟨ioA, G0, H0, G, ρ, r1, ρ1, S, e1, fun G1 v1 H1 g1 S1 R1 => ?_⟩
    obtain ⟨G1', g1', S1', R1'⟩ := settle S1 R1
    simp only at e
    split at e
    · rename_i ds' z
      cases e
      rw [z] at R1'
      cases R1' with
      | lst hs hd => exact ⟨_, rfl, ⟨_, S1'.sub.seq hs⟩, k G1' _ H1 (g1.trans g1') S1' (wk_list hs hd)⟩
    · cases e
  · obtain ⟨⟨r1, ρ1⟩, e1, e⟩ := bnd q
    simp only at e
    split at e <;> cases e
    exact ha.kin _ _ _ e1
theorem pd_iE_tup {tg a : Expr} {ga : FE} (ha : PD X a ga) : PDI X tg a (fun ρ => (ga ρ).bind fun p => match stl p.1 with
    | .pu (.tuple ds) => some (ds, p.2)
    | _ => none) := by
  refine ⟨pi_w (pi_tup ha.pe) fun σ H R q => ?_, fun ρ r ρ' q => ?_⟩
  · obtain ⟨ioA, G0, H0, G, ρ, ds, ρ', S, e, k⟩ := q
    obtain ⟨⟨r1, ρ1⟩, e1, e⟩ := bnd e
    refine ⟨ioA, G0, H0, G, ρ, r1, ρ1, S, e1, fun G1 v1 H1 g1 S1 R1 => ?_⟩
    obtain ⟨G1', g1', S1', R1'⟩ := settle S1 R1
    simp only at e
    split at e
    · rename_i ds' z
      cases e
      rw [z] at R1'
      cases R1' with
      | tup hs hd => exact ⟨_, rfl, ⟨_, seqT S1'.sub (SqT.of hs)⟩, k G1' _ H1 (g1.trans g1') S1' (wk_tup (SqT.of hs) hd)⟩
    · cases e
  · obtain ⟨⟨r1, ρ1⟩, e1, e⟩ := bnd q
    simp only at e
    split at e <;> cases e
    exact ha.kin _ _ _ e1
theorem pd_iE_str {tg a : Expr} {ga : FE} (ha : PD X a ga) : PDI X tg a (fun ρ => (ga ρ).bind fun p => match stl p.1 with
    | .pu (.str x) => some (x.cps.toList.map fun c => .str ⟨#[c]⟩, p.2)
    | _ => none) := by
  refine ⟨pi_w (pi_str ha.pe) fun σ H R q => ?_, fun ρ r ρ' q => ?_⟩
  · obtain ⟨ioA, G0, H0, G, ρ, ds, ρ', S, e, k⟩ := q
    obtain ⟨⟨r1, ρ1⟩, e1, e⟩ := bnd e
    refine ⟨ioA, G0, H0, G, ρ, r1, ρ1, S, e1, fun G1 v1 H1 g1 S1 R1 => ?_⟩
    obtain ⟨G1', g1', S1', R1'⟩ := settle S1 R1
    simp only at e
    split at e
    · rename_i x z
      cases e
      rw [z] at R1'
      cases R1'
      exact ⟨_, rfl, k G1' _ H1 (g1.trans g1') S1' wk_str⟩
    · cases e
  · obtain ⟨⟨r1, ρ1⟩, e1, e⟩ := bnd q
    simp only at e
    split at e <;> cases e
    exact ha.kin _ _ _ e1
/-- a list, a tuple, a text -/
theorem pd_iE {tg a : Expr} {ga : FE} (ha : PD X a ga) : PDI X tg a (iE ga) := by
  refine ⟨⟨fun pins s σ H R I q => ?_⟩, fun ρ r ρ' q => ?_⟩
  · obtain ⟨ioA, G0, H0, G, ρ, ds, ρ', S, e, k⟩ := q
    obtain ⟨⟨r1, ρ1⟩, e1, e⟩ := bnd e
    simp only at e
    split at e
    · rename_i d z
      obtain ⟨ds', e2, e⟩ := bnd e
      cases e
      cases d with
      | list l =>
        cases e2
        exact (pd_iE_list (tg := tg) ha).pi.run pins s σ H R I ⟨ioA, G0, H0, G, ρ, _, _, S, by simp only [e1, Option.bind_some, z], k⟩
      | tuple l =>
        cases e2
        exact (pd_iE_tup (tg := tg) ha).pi.run pins s σ H R I ⟨ioA, G0, H0, G, ρ, _, _, S, by simp only [e1, Option.bind_some, z], k⟩
      | str x =>
        cases e2
        exact (pd_iE_str (tg := tg) ha).pi.run pins s σ H R I ⟨ioA, G0, H0, G, ρ, _, _, S, by simp only [e1, Option.bind_some, z], k⟩
      | _ => cases e2
    · cases e
  · obtain ⟨⟨r1, ρ1⟩, e1, e⟩ := bnd q
    simp only at e
    split at e
    · obtain ⟨ds', e2, e⟩ := bnd e
      cases e
      exact ha.kin _ _ _ e1
    · cases e
theorem small_ok {i : Int} (h : small i = true) : -(2 ^ 62) ≤ i ∧ i < 2 ^ 62 := by
  unfold small at h
  rw [Bool.and_eq_true, decide_eq_true_eq, decide_eq_true_eq] at h
  exact h
theorem pd_range1 {tg a : Expr} {ga : FE} {p pos : Pos} (hg : Gl X "range") (hm : X.mg "range" = none) (ha : PD X a ga) (hs : starEach [a] X.env = [(false, eval a X.env)] := by rfl) : PDI X tg (.Call (.Name "range" p) [a] [] pos) (iRg1 ga) := by
  have hp : PDA X [a] (aCons ga aNil) := pd_cons ha pd_nil hs
  refine ⟨pi_w (pi_range1 hg hm hp.pa hs) fun σ H R q => ?_, fun ρ r ρ' q => ?_⟩
  · obtain ⟨ioA, G0, H0, G, ρ, ds, ρ', S, e, k⟩ := q
    obtain ⟨⟨r1, ρ1⟩, e1, e⟩ := bnd e
    simp only at e
    split at e
    · rename_i j
      by_cases hs : small j = true
      · rw [if_pos hs] at e
        cases e
        obtain ⟨h1, h2⟩ := small_ok hs
        refine ⟨ioA, G0, H0, G, ρ, [.pu (.int j)], ρ', S, by unfold aCons aNil; simp only [e1, Option.bind_some, stl], fun G1 vs H1 g1 S1 R1 => ?_⟩
        cases R1 with
        | cons h t =>
          cases t
          cases h
          exact ⟨j, rfl, h1, h2, k G1 _ H1 g1 S1 wk_range⟩
      · rw [if_neg hs] at e; cases e
    · cases e
  · obtain ⟨⟨r1, ρ1⟩, e1, e⟩ := bnd q
    simp only at e
    split at e
    · split at e <;> cases e
      exact ha.kin _ _ _ e1
    · cases e
theorem pd_range2 {tg a b : Expr} {ga gb : FE} {p pos : Pos} (hg : Gl X "range") (hm : X.mg "range" = none) (ha : PD X a ga) (hb : PD X b gb) (hs : starEach [a, b] X.env = [(false, eval a X.env), (false, eval b X.env)] := by rfl)
    (hs2 : starEach [b] X.env = [(false, eval b X.env)] := by rfl) : PDI X tg (.Call (.Name "range" p) [a, b] [] pos) (iRg2 ga gb) := by
  have hp : PDA X [a, b] (aCons ga (aCons gb aNil)) := pd_cons ha (pd_cons hb pd_nil hs2) (by rw [hs, hs2])
  refine ⟨pi_w (pi_range2 hg hm hp.pa hs hs2) fun σ H R q => ?_, fun ρ r ρ' q => ?_⟩
  · obtain ⟨ioA, G0, H0, G, ρ, ds, ρ', S, e, k⟩ := q
    obtain ⟨⟨r1, ρ1⟩, e1, e⟩ := bnd e
    obtain ⟨⟨r2, ρ2⟩, e2, e⟩ := bnd e
    simp only at e
    split at e
    · rename_i i j e2
      by_cases hs : small i = true ∧ small j = true
      · rw [if_pos hs] at e
        cases e
        obtain ⟨h1, h2⟩ := small_ok hs.1
        obtain ⟨h3, h4⟩ := small_ok hs.2
        refine ⟨ioA, G0, H0, G, ρ, [.pu (.int i), .pu (.int j)], ρ', S, by unfold aCons aNil; simp only [e1, e2, Option.bind_some, stl], fun G1 vs H1 g1 S1 R1 => ?_⟩
        cases R1 with
        | cons h t =>
          cases t with
          | cons h' t =>
            cases t
            cases h
            cases h'
            exact ⟨i, j, rfl, ⟨h1, h2, h3, h4⟩, k G1 _ H1 g1 S1 wk_range⟩
      · rw [if_neg hs] at e; cases e
    · cases e
  · obtain ⟨⟨r1, ρ1⟩, e1, e⟩ := bnd q
    obtain ⟨⟨r2, ρ2⟩, e2, e⟩ := bnd e
    simp only at e
    split at e
    · split at e <;> cases e
      exact (ha.kin _ _ _ e1).trans (hb.kin _ _ _ e2)
    · cases e
theorem wk_zip {a b : Addr} {xs ys : List V} {ds es : List D} (h : SqL K G a xs) (h' : SqL K G b ys) (hd : DpAll K G xs ds) (he : DpAll K G ys es) : WkD K G (Itz K a b) (zipD ds es) := by
  have hl := dps_len hd
  have hl' := dps_len he
  have hn : (zipD ds es).length = min ds.length es.length := by simp [zipD]
  refine ⟨fun i H hi s => ?_, fun H s => ⟨xs, ys, s.seq h, s.seq h', by omega⟩, fun i H x H' hi s y => ?_⟩
  · exact ⟨xs, ys, xs[i], ys[i], s.seq h, s.seq h', List.getElem?_eq_getElem (by omega), List.getElem?_eq_getElem (by omega)⟩
  · obtain ⟨T, x1, y1, rfl, hT, rfl, f1, f2⟩ := y
    intro Gi g1 g2 d e
    unfold zipD at e
    rw [List.getElem?_map] at e
    obtain ⟨⟨d1, d2⟩, e1, e2⟩ := Option.map_eq_some_iff.mp e
    subst e2
    have e3 : ds[i]? = some d1 ∧ es[i]? = some d2 := List.getElem?_zip_eq_some.mp e1
    obtain ⟨v1, q1, q2⟩ := dps_getD hd e3.1
    obtain ⟨v2, q3, q4⟩ := dps_getD he e3.2
    have z1 := (f1 xs (s.seq h)).symm.trans q1
    have z2 := (f2 ys (s.seq h')).symm.trans q3
    cases z1
    cases z2
    exact grow_pair g2 hT (dpM g1 _ _ q2) (dpM g1 _ _ q4)
theorem wk_zipT {a b : Addr} {xs ys : List V} {ds es : List D} (h : SqT K G a xs) (h' : SqT K G b ys) (hd : DpAll K G xs ds) (he : DpAll K G ys es) : WkD K G (RZ.ItzT K a b) (zipD ds es) := by
  have hl := dps_len hd
  have hl' := dps_len he
  have hn : (zipD ds es).length = min ds.length es.length := by simp [zipD]
  refine ⟨fun i H hi s => ?_, fun H s => ⟨xs, ys, seqT s h, seqT s h', by omega⟩, fun i H x H' hi s y => ?_⟩
  · exact ⟨xs, ys, xs[i], ys[i], seqT s h, seqT s h', List.getElem?_eq_getElem (by omega), List.getElem?_eq_getElem (by omega)⟩
  · obtain ⟨T, x1, y1, rfl, hT, rfl, f1, f2⟩ := y
    intro Gi g1 g2 d e
    unfold zipD at e
    rw [List.getElem?_map] at e
    obtain ⟨⟨d1, d2⟩, e1, e2⟩ := Option.map_eq_some_iff.mp e
    subst e2
    have e3 : ds[i]? = some d1 ∧ es[i]? = some d2 := List.getElem?_zip_eq_some.mp e1
    obtain ⟨v1, q1, q2⟩ := dps_getD hd e3.1
    obtain ⟨v2, q3, q4⟩ := dps_getD he e3.2
    have z1 := (f1 xs (seqT s h)).symm.trans q1
    have z2 := (f2 ys (seqT s h')).symm.trans q3
    cases z1
    cases z2
    exact grow_pair g2 hT (dpM g1 _ _ q2) (dpM g1 _ _ q4)
theorem pd_zip {a b : Expr} {ga gb : FE} {p pos tpos : Pos} {elts : List Expr} {kk : Nat} (hg : Gl X "zip") (hm : X.mg "zip" = none) (ha : PD X a ga) (hb : PD X b gb)
    (hs : starEach [a, b] X.env = (false, eval a X.env) :: starEach [b] X.env := by rfl) (hs2 : starEach [b] X.env = [(false, eval b X.env)] := by rfl) (hpl : (backTo pos (starEach [b] X.env)).any (·.1) = false := by rfl) :
    PDI X (.Tuple elts kk tpos) (.Call (.Name "zip" p) [a, b] [] pos) (iZip ga gb) := by
  have hp : PDA X [a, b] (aCons ga (aCons gb aNil)) := pd_cons ha (pd_cons hb pd_nil hs2) hs
  refine ⟨pi_w (RZ.pi_zipA hg hm hp.pa hs hpl) fun σ H R q => ?_, fun ρ r ρ' q => ?_⟩
  · obtain ⟨ioA, G0, H0, G, ρ, ds, ρ', S, e, k⟩ := q
    obtain ⟨⟨r1, ρ1⟩, e1, e⟩ := bnd e
    obtain ⟨⟨r2, ρ2⟩, e2, e⟩ := bnd e
    refine ⟨ioA, G0, H0, G, ρ, [stl r1, stl r2], ρ2, S, by unfold aCons aNil; simp only [e1, e2, Option.bind_some], fun G1 vs H1 g1 S1 R1 => ?_⟩
    simp only at e
    cases R1 with
    | cons h t =>
      cases t with
      | cons h' t =>
        cases t
        split at e
        · rename_i xs ys z1 z2
          cases e
          rw [z1] at h
          rw [z2] at h'
          cases h with
          | lst q1 q2 =>
            cases h' with
            | lst q3 q4 => exact ⟨_, _, _, _, rfl, .inl ⟨S1.sub.seq q1, S1.sub.seq q3, k G1 _ H1 g1 S1 (wk_zip q1 q3 q2 q4)⟩⟩
        · rename_i xs ys z1 z2
          cases e
          rw [z1] at h
          rw [z2] at h'
          cases h with
          | tup q1 q2 =>
            cases h' with
            | tup q3 q4 => exact ⟨_, _, _, _, rfl, .inr ⟨seqT S1.sub (SqT.of q1), seqT S1.sub (SqT.of q3), k G1 _ H1 g1 S1 (wk_zipT (SqT.of q1) (SqT.of q3) q2 q4)⟩⟩
        · cases e
  · obtain ⟨⟨r1, ρ1⟩, e1, e⟩ := bnd q
    obtain ⟨⟨r2, ρ2⟩, e2, e⟩ := bnd e
    simp only at e
    split at e <;> cases e
    · exact (ha.kin _ _ _ e1).trans (hb.kin _ _ _ e2)
    · exact (ha.kin _ _ _ e1).trans (hb.kin _ _ _ e2)
end
end PL

/-! PL: the pure layer, 7: comprehensions. -/
namespace PL
open PySem PySem.Spec PyProof.Rows L2
section
variable {X : Cx} {K : PySem.W.Frag} {ioA : Nat → Option Addr} {G0 H0 G G' H H' : Hp} {σ σ' : L2.St} {ρ ρ' : Rho} {v : V} {r : Vl}
theorem wipe_get (σ : L2.St) (vs : List Nat) (j : Nat) : (wipe σ vs)[j]? = if j ∈ vs then (if j < σ.length then some none else none) else σ[j]? := by
  induction vs with
  | nil => simp [wipe]
  | cons v vs ih =>
    unfold wipe
    by_cases hj : v = j
    · subst hj
      rw [if_pos List.mem_cons_self]
      by_cases hl : v < σ.length
      · rw [if_pos hl, List.getElem?_set_self (by rw [wipe_length]; exact hl)]
      · rw [if_neg hl, List.getElem?_eq_none (by rw [List.length_set, wipe_length]; omega)]
    · rw [List.getElem?_set_ne hj, ih]
      have e : (j ∈ v :: vs) = (j ∈ vs) := by
        simp only [List.mem_cons, eq_iff_iff]
        exact ⟨fun h => h.elim (fun z => absurd z.symm hj) id, .inr⟩
      simp only [e]
theorem wipeR_len (vs : List Nat) (ρ : Rho) : (wipeR vs ρ).length = ρ.length := by
  induction vs with
  | nil => rfl
  | cons v vs ih => unfold wipeR; rw [List.length_set, ih]
theorem wipeR_get (vs : List Nat) (ρ : Rho) (j : Nat) : (wipeR vs ρ)[j]? = if j ∈ vs then (if j < ρ.length then some .non else none) else ρ[j]? := by
  induction vs with
  | nil => simp [wipeR]
  | cons v vs ih =>
    unfold wipeR
    by_cases hj : v = j
    · subst hj
      rw [if_pos List.mem_cons_self]
      by_cases hl : v < ρ.length
      · rw [if_pos hl, List.getElem?_set_self (by rw [wipeR_len]; exact hl)]
      · rw [if_neg hl, List.getElem?_eq_none (by rw [List.length_set, wipeR_len]; omega)]
    · rw [List.getElem?_set_ne hj, ih]
      have e : (j ∈ v :: vs) = (j ∈ vs) := by
        simp only [List.mem_cons, eq_iff_iff]
        exact ⟨fun h => h.elim (fun z => absurd z.symm hj) id, .inr⟩
      simp only [e]
theorem rst_len (vs : List Nat) (ρ0 ρ : Rho) : (rst vs ρ0 ρ).length = ρ.length := by
  induction vs with
  | nil => rfl
  | cons v vs ih =>
    unfold rst
    split
    · rw [List.length_set, ih]
    · exact ih
theorem rst_get (vs : List Nat) {ρ0 ρ : Rho} (hl : ρ0.length = ρ.length) (j : Nat) : (rst vs ρ0 ρ)[j]? = if j ∈ vs then ρ0[j]? else ρ[j]? := by
  induction vs with
  | nil => simp [rst]
  | cons v vs ih =>
    unfold rst
    have e : ∀ (h : v ≠ j), (j ∈ v :: vs) = (j ∈ vs) := fun h => by
      simp only [List.mem_cons, eq_iff_iff]
      exact ⟨fun h' => h'.elim (fun z => absurd z.symm h) id, .inr⟩
    by_cases hj : v = j
    · subst hj
      rw [if_pos List.mem_cons_self]
      split
      · rename_i s z
        have hlt := (List.getElem?_eq_some_iff.mp z).1
        rw [z, List.getElem?_set_self (by rw [rst_len]; omega)]
      · rename_i z
        rw [z, List.getElem?_eq_none (by rw [rst_len, ← hl]; exact List.getElem?_eq_none_iff.mp z)]
    · simp only [e hj]
      split
      · rw [List.getElem?_set_ne hj, ih]
      · exact ih
theorem Sg.wipe (S : Sg K ioA G0 H0 G H σ ρ) (vs : List Nat) : Sg K ioA G0 H0 G H (L2.wipe σ vs) (wipeR vs ρ) := by
  have key : ∀ (j : Nat) s, (wipeR vs ρ)[j]? = some s → s = .non ∨ (j ∉ vs ∧ ρ[j]? = some s) := fun j s e => by
    rw [wipeR_get] at e
    by_cases hj : j ∈ vs
    · rw [if_pos hj] at e
      split at e <;> cases e
      exact .inl rfl
    · rw [if_neg hj] at e
      exact .inr ⟨hj, e⟩
  have out : ∀ (j : Nat), j ∉ vs → (L2.wipe σ vs)[j]? = σ[j]? := fun j hj => by rw [wipe_get, if_neg hj]
  have mt : ∀ (j : Nat), mtb (wipeR vs ρ)[j]? = true → j ∉ vs ∧ mtb ρ[j]? = true := fun j e => by
    cases z : (wipeR vs ρ)[j]? with
    | none => rw [z] at e; cases e
    | some s =>
      rw [z] at e
      rcases key j s z with h | ⟨h1, h2⟩
      · rw [h] at e; cases e
      · rw [h2]; exact ⟨h1, e⟩
  refine ⟨by rw [wipe_length, wipeR_len]; exact S.len, S.sub, S.g0, S.new, S.fr, S.ioh, fun j d e => ?_, fun j d e => ?_, fun j d e => ?_, fun j l a h1 h2 h3 h4 => ?_, fun j d e => ?_⟩
  · rcases key j _ e with h | ⟨h1, h2⟩
    · cases h
    · rw [out j h1]; exact S.pu j d h2
  · rcases key j _ e with h | ⟨h1, h2⟩
    · cases h
    · rw [out j h1]; exact S.own j d h2
  · rcases key j _ e with h | ⟨h1, h2⟩
    · cases h
    · rw [out j h1]; exact S.io j d h2
  · obtain ⟨j1, j2⟩ := mt j h1
    obtain ⟨l1, l2⟩ := mt l h2
    rw [out j j1] at h3
    rw [out l l1] at h4
    exact S.apart j l a j2 l2 h3 h4
  · rcases key j _ e with h | ⟨h1, h2⟩
    · cases h
    · rw [out j h1]; exact S.fx j d h2
theorem Sg.noD {D : Addr} (S : Sg K ioA G0 H0 G H σ ρ) (h : H0 D = none) (i : Nat) : ioA i ≠ some D := fun e => by
  obtain ⟨_, _, o, q, _⟩ := S.ioh i D e
  rw [h] at q; cases q
/-- the comprehension's list stands by itself -/
theorem Sg.withNew {D : Addr} {o : HO} (S : Sg K ioA G0 H0 G H σ ρ) (hD : H D = none) : Sg K ioA G0 (upd H0 D o) G (upd H D o) σ ρ := by
  have g : G D = none := not_in S.sub hD
  have e1 : Same H (upd H D o) := same_upd hD
  refine ⟨S.len, S.sub.trans e1, S.g0, fun b u e => ?_, fun b u e k => ?_, fun i b e => ?_, S.pu, fun i d e => ?_, fun i d e => ?_, S.apart, S.fx⟩
  · have hb : b ≠ D := fun z => by rw [z, g] at e; cases e
    rw [lax_ne hb]; exact S.new b u e
  · by_cases hb : b = D
    · subst hb; rw [upd_same] at e ⊢; exact e
    · rw [upd_ne hb] at e ⊢; exact S.fr b u e k
  · obtain ⟨⟨u, q1, qn⟩, q2, q3⟩ := S.ioh i b e
    have hb : b ≠ D := fun z => by rw [z, hD] at q1; cases q1
    rw [upd_ne hb, upd_ne hb]
    exact ⟨⟨u, q1, qn⟩, q2, q3⟩
  · obtain ⟨a, h1, h2, h3, h4⟩ := S.own i d e
    obtain ⟨u, q⟩ := h4.there
    have hb : a ≠ D := fun z => by rw [z, hD] at q; cases q
    exact ⟨a, h1, h2, by rw [upd_ne hb]; exact h3, h4.keep (Same.refl _) (e1 a)⟩
  · obtain ⟨a, h1, h2, h4⟩ := S.io i d e
    exact ⟨a, h1, h2, h4.keep (Same.refl _) (e1 a)⟩
theorem Sg.bump {D : Addr} {o o' : HO} (S : Sg K ioA G0 (upd H0 D o) G H σ ρ) (hD : H0 D = none) (g0 : G0 D = none) (hio : ∀ i, ioA i ≠ some D) (hn : NT o) : Sg K ioA G0 (upd H0 D o') G (upd H D o') σ ρ := by
  have g : G D = none := by
    cases z : G D with
    | none => rfl
    | some u =>
      rcases S.new D u z with ⟨_, q⟩ | q
      · rw [g0] at q; cases q
      · exact (q.no upd_same hn).elim
  refine ⟨S.len, fun b u e => ?_, S.g0, fun b u e => ?_, fun b u e k => ?_, fun i b e => ?_, S.pu, fun i d e => ?_, fun i d e => ?_, S.apart, S.fx⟩
  · have hb : b ≠ D := fun z => by rw [z, g] at e; cases e
    rw [upd_ne hb]; exact S.sub b u e
  · have hb : b ≠ D := fun z => by rw [z, g] at e; cases e
    have q := S.new b u e
    rw [lax_ne hb] at q ⊢
    exact q
  · by_cases hb : b = D
    · subst hb; rw [upd_same] at e ⊢; exact e
    · rw [upd_ne hb] at e ⊢
      exact S.fr b u (by rw [upd_ne hb]; exact e) k
  · obtain ⟨q1, q2, q3⟩ := S.ioh i b e
    have hb : b ≠ D := fun z => hio i (by rw [e, z])
    rw [upd_ne hb, upd_ne hb]
    rw [upd_ne hb] at q3
    exact ⟨q1, q2, q3⟩
  · obtain ⟨a, h1, h2, h3, h4⟩ := S.own i d e
    have hb : a ≠ D := fun z => by rw [z, upd_same] at h3; cases h3
    rw [upd_ne hb] at h3
    exact ⟨a, h1, h2, by rw [upd_ne hb]; exact h3, h4.keep (Same.refl _) fun u q => by rw [upd_ne hb]; exact q⟩
  · obtain ⟨a, h1, h2, h4⟩ := S.io i d e
    have hb : a ≠ D := fun z => hio i (by rw [h1, z])
    exact ⟨a, h1, h2, h4.keep (Same.refl _) fun u q => by rw [upd_ne hb]; exact q⟩
theorem okW_at {vs : List Nat} (h : okW vs ρ = true) {j : Nat} (hj : j ∈ vs) : plainS ρ[j]? = true := List.all_eq_true.mp h j hj
theorem Sg.restore {D : Addr} {o : HO} {vs : List Nat} {ρ1 ρe : Rho} {G1 H1 : Hp} (S1 : Sg K ioA G0 H0 G1 H1 σ ρ1) (Sn : Sg K ioA G0 (upd H0 D o) G H (L2.wipe σ vs) (wipeR vs ρe)) (e1 : Same G1 G) (ok : okW vs ρ1 = true) (hD : H0 D = none) : Sg K ioA G0 H0 G H σ (rst vs ρ1 ρe) := by
  have l1 : ρ1.length = ρe.length := by
    have q := Sn.len
    rw [wipe_length, wipeR_len] at q
    exact S1.len.symm.trans q
  have gt := fun j => rst_get vs l1 j
  have outR : ∀ (j : Nat), j ∉ vs → (wipeR vs ρe)[j]? = ρe[j]? := fun j hj => by rw [wipeR_get, if_neg hj]
  have outS : ∀ (j : Nat), j ∉ vs → (L2.wipe σ vs)[j]? = σ[j]? := fun j hj => by rw [wipe_get, if_neg hj]
  have mt : ∀ (j : Nat), mtb (rst vs ρ1 ρe)[j]? = true → j ∉ vs ∧ mtb (wipeR vs ρe)[j]? = true := fun j e => by
    rw [gt] at e
    by_cases hj : j ∈ vs
    · rw [if_pos hj] at e
      have q := okW_at ok hj
      cases z : ρ1[j]? with
      | none => rw [z] at e; cases e
      | some s => rw [z] at e q; cases s <;> first | (cases q; done) | (cases e; done)
    · rw [if_neg hj] at e
      exact ⟨hj, by rw [outR j hj]; exact e⟩
  refine ⟨by rw [rst_len, ← l1]; exact S1.len, Sn.sub, Sn.g0, fun b u e => ?_, fun b u e k => ?_, fun i b e => ?_, fun i d e => ?_, fun i d e => ?_, fun i d e => ?_, fun i j a h1 h2 h3 h4 => ?_, fun i d e => ?_⟩
  · rcases Sn.new b u e with q | q
    · exact .inl q
    · refine .inr ?_
      by_cases hb : b = D
      · rw [hb]; exact .inl hD
      · rw [lax_ne hb] at q; exact q
  · have hb : b ≠ D := fun z => by rw [z, hD] at e; cases e
    exact Sn.fr b u (by rw [upd_ne hb]; exact e) k
  · obtain ⟨q1, q2, q3⟩ := Sn.ioh i b e
    obtain ⟨_, _, q4⟩ := S1.ioh i b e
    exact ⟨q1, q2, q4⟩
  · rw [gt] at e
    by_cases hj : i ∈ vs
    · rw [if_pos hj] at e
      obtain ⟨v, z1, z2⟩ := S1.pu i d e
      exact ⟨v, z1, dpM e1 _ _ z2⟩
    · rw [if_neg hj] at e
      obtain ⟨v, z1, z2⟩ := Sn.pu i d (by rw [outR i hj]; exact e)
      rw [outS i hj] at z1
      exact ⟨v, z1, z2⟩
  · obtain ⟨hj, _⟩ := mt i (by rw [e]; rfl)
    rw [gt, if_neg hj] at e
    obtain ⟨a, z1, z2, z3, z4⟩ := Sn.own i d (by rw [outR i hj]; exact e)
    rw [outS i hj] at z1
    have hb : a ≠ D := fun z => by rw [z, upd_same] at z3; cases z3
    rw [upd_ne hb] at z3
    exact ⟨a, z1, z2, z3, z4⟩
  · obtain ⟨hj, _⟩ := mt i (by rw [e]; rfl)
    rw [gt, if_neg hj] at e
    obtain ⟨a, z1, z2, z4⟩ := Sn.io i d (by rw [outR i hj]; exact e)
    rw [outS i hj] at z2
    exact ⟨a, z1, z2, z4⟩
  · obtain ⟨j1, j2⟩ := mt i h1
    obtain ⟨l1, l2⟩ := mt j h2
    exact Sn.apart i j a j2 l2 (by rw [outS i j1]; exact h3) (by rw [outS j l1]; exact h4)
  · rw [gt] at e
    by_cases hj : i ∈ vs
    · rw [if_pos hj] at e
      exact S1.fx i d e
    · rw [if_neg hj] at e
      have q := Sn.fx i d (by rw [outR i hj]; exact e)
      rw [outS i hj] at q
      exact q

/-! ### one clause -/
structure PDTs (X : Cx) (ifs : List Expr) (t : FT) : Prop where
  pts : PTs X ifs (tDT X.K t)
  kin : KinT t
theorem pd_tsnil : PDTs X [] tYes := by
  refine ⟨pts_w pts_nil fun σ H Q q => ?_, fun ρ r ρ' q => by cases q; exact Kin.refl _⟩
  obtain ⟨ioA, G0, H0, G, ρ, r, ρ', S, e, k⟩ := q
  cases e
  exact k G H (Same.refl _) S
theorem pd_tsone {c : Expr} {t : FT} (h : PDT X c t) : PDTs X [c] t := ⟨pts_one h.pt, h.kin⟩
/-- outside the block's own slots as Kin -/
def KinX (vs : List Nat) (ρ ρ' : Rho) : Prop := ρ'.length = ρ.length ∧ ∀ i : Nat, i ∉ vs → mtb ρ'[i]? = mtb ρ[i]? ∧ (mtb ρ[i]? = false → ρ'[i]? = ρ[i]?)
theorem KinX.trans {vs : List Nat} {a b c : Rho} (h : KinX vs a b) (k : KinX vs b c) : KinX vs a c := ⟨k.1.trans h.1, fun i hi => by
  obtain ⟨h1, h2⟩ := h.2 i hi
  obtain ⟨k1, k2⟩ := k.2 i hi
  exact ⟨k1.trans h1, fun z => (k2 (h1.trans z)).trans (h2 z)⟩⟩
theorem Kin.len {a b : Rho} (h : Kin a b) : b.length = a.length := by
  have le : ∀ {a b : Rho}, (∀ i : Nat, a[i]? = none → b[i]? = none) → b.length ≤ a.length := fun {a b} h => List.getElem?_eq_none_iff.mp (h a.length (List.getElem?_eq_none (Nat.le_refl _)))
  have h1 : b.length ≤ a.length := le fun i e => ((h i).2 (by rw [e]; rfl)).trans e
  have h2 : a.length ≤ b.length := le fun i e => by
    obtain ⟨k1, k2⟩ := h i
    rw [e] at k1 k2
    exact (k2 k1.symm).symm
  omega
theorem Kin.x {a b : Rho} (h : Kin a b) (vs : List Nat) : KinX vs a b := ⟨h.len, fun i _ => h i⟩
theorem kinX_wipe (vs : List Nat) (ρ : Rho) : KinX vs ρ (wipeR vs ρ) := ⟨wipeR_len vs ρ, fun i hi => by rw [wipeR_get, if_neg hi]; exact ⟨rfl, fun _ => rfl⟩⟩
theorem kinX_g {vs ts : List Nat} {g : FG} (hg : ∀ d ρ ρ', g d ρ = some ρ' → (∀ j : Nat, j ∉ ts → ρ'[j]? = ρ[j]?) ∧ ρ'.length = ρ.length) (hts : ∀ j ∈ ts, j ∈ vs) {d : D} (e : g d ρ = some ρ') : KinX vs ρ ρ' := by
  obtain ⟨h1, h2⟩ := hg d ρ ρ' e
  exact ⟨h2, fun i hi => by rw [h1 i fun z => hi (hts i z)]; exact ⟨rfl, fun _ => rfl⟩⟩
theorem kinX_comp {vs ts : List Nat} {g : FG} {t : FT} {f : FE} (hg : ∀ d ρ ρ', g d ρ = some ρ' → (∀ j : Nat, j ∉ ts → ρ'[j]? = ρ[j]?) ∧ ρ'.length = ρ.length) (hts : ∀ j ∈ ts, j ∈ vs) (ht : KinT t) (hf : KinE f) :
    ∀ {ds : List D} {ρ ρ' : Rho} {res : List D}, compGo vs g t f ds ρ = some (res, ρ') → KinX vs ρ ρ'
  | [], ρ, ρ', res, e => by cases e; exact ⟨rfl, fun _ _ => ⟨rfl, fun _ => rfl⟩⟩
  | d :: ds, ρ, ρ', res, e => by
    obtain ⟨ρ1, e1, e⟩ := bnd e
    obtain ⟨⟨b, ρ2⟩, e2, e⟩ := bnd e
    have k1 : KinX vs ρ ρ2 := ((kinX_wipe vs ρ).trans (kinX_g hg hts e1)).trans ((ht _ _ _ e2).x vs)
    cases b with
    | true =>
      obtain ⟨⟨r3, ρ3⟩, e3, e⟩ := bnd (show (f ρ2).bind _ = _ from e)
      simp only at e
      split at e
      · obtain ⟨⟨r4, ρ4⟩, e4, e⟩ := bnd e
        cases e
        exact (k1.trans ((hf _ _ _ e3).x vs)).trans (kinX_comp hg hts ht hf e4)
      · cases e
    | false => exact k1.trans (kinX_comp hg hts ht hf (show compGo vs g t f ds ρ2 = _ from e))
theorem kin_rst {vs : List Nat} {ρ1 ρe : Rho} (h : KinX vs ρ1 ρe) : Kin ρ1 (rst vs ρ1 ρe) := fun i => by
  rw [rst_get vs h.1.symm]
  by_cases hi : i ∈ vs
  · rw [if_pos hi]; exact ⟨rfl, fun _ => rfl⟩
  · rw [if_neg hi]; exact h.2 i hi
theorem wipe_eq {σ σ2 : L2.St} {vs ts : List Nat} (hl : σ2.length = σ.length) (hts : ∀ j ∈ ts, j ∈ vs) (k : ∀ j : Nat, j ∉ ts → σ2[j]? = (wipe σ vs)[j]?) : wipe σ2 vs = wipe σ vs := by
  refine List.ext_getElem? fun j => ?_
  rw [wipe_get, wipe_get]
  by_cases hj : j ∈ vs
  · rw [if_pos hj, if_pos hj, hl]
  · rw [if_neg hj, if_neg hj, k j fun z => hj (hts j z), wipe_get, if_neg hj]
theorem pd_lc {elt tg iter : Expr} {ifs : List Expr} {scope : Scope} {own : List (Str × Nat)} {pos : Pos} {it : FI} {g : FG} {t : FT} {f : FE} {ts : List Nat} (hc : X.calm = true) (hN : X.N.Nodup) (hi : PDI X tg iter it) (ok : BlkOk X.N X.env.scope scope own)
    (hg : ∀ (s : Shared) (H : Hp) (C : Addr) (cl : List (Str × Addr)) (fp : List Addr), PDG (X.blk s H scope (compEnvC scope cl C X.env) fp) tg g ts) (hts : ∀ j ∈ ts, j ∈ own.map (·.2))
    (ht : ∀ (s : Shared) (H : Hp) (C : Addr) (cl : List (Str × Addr)) (fp : List Addr), PDTs (X.blk s H scope (compEnvC scope cl C X.env) fp) ifs t)
    (he : ∀ (s : Shared) (H : Hp) (C : Addr) (cl : List (Str × Addr)) (fp : List Addr), PD (X.blk s H scope (compEnvC scope cl C X.env) fp) elt f) (hs : ∀ x, foldedSetIterable iter X.env x = pure x := by intro _; rfl) :
    PD X (.ListComp elt [⟨tg, iter, ifs, 0⟩] scope pos) (cLc (own.map (·.2)) it g t f) ∧
    ∀ σ H Q, tD X.K (cLc (own.map (·.2)) it g t f) σ H Q → tLc (tDI X.K it)
      (tDG' X.K g ts) (tDT X.K t) (tD X.K f) (own.map (·.2)) σ H Q := by
  have hgk := (hg X.s_0 (fun _ => none) 0 [] []).kin
  have htk := (ht X.s_0 (fun _ => none) 0 [] []).kin
  have hek := (he X.s_0 (fun _ => none) 0 [] []).kin
  have main : ∀ σ H Q, tD X.K (cLc (own.map (·.2)) it g t f) σ H Q → tLc (tDI X.K it)
      (tDG' X.K g ts) (tDT X.K t) (tD X.K f) (own.map (·.2)) σ H Q := by
    intro σ H Q q
    generalize own.map (·.2) = vs at q hts ⊢
    obtain ⟨ioA, G0, H0, G, ρ, r, ρ', S, e, k⟩ := q
    obtain ⟨⟨ds, ρ1⟩, e1, e⟩ := bnd e
    simp only at e
    by_cases hok : okW vs ρ1 = true
    case neg => rw [if_neg hok] at e; cases e
    rw [if_pos hok] at e
    obtain ⟨⟨res, ρe⟩, e2, e⟩ := bnd e
    simp only at e
    by_cases hz : res.length ≤ lineN
    case neg => rw [if_neg hz] at e; cases e
    rw [if_pos hz] at e
    cases e
    refine ⟨ioA, G0, H0, G, ρ, ds, ρ1, S, e1, fun G1 J H1 g1 S1 wk D hD => ?_⟩
    have h0D : H0 D = none := S1.fresh hD
    have g0D : G0 D = none := not_in (S1.g0.trans S1.sub) hD
    have hio := S1.noD h0D
    refine lc_it (vs := vs) (σ := σ) (H1 := H1) (D := D) (Qd := fun H => Q (.ref D) H) (tt := tDT X.K t) (te := tD X.K f) (g := tDG' X.K g ts) wk (fun i H => ∃ Gi ρi acc ads rest, Same G1 Gi ∧ Sg X.K ioA G0 (upd H0 D (.lst acc)) Gi H (wipe σ vs) (wipeR vs ρi) ∧ DpAll X.K Gi acc ads ∧ compGo vs g t f (ds.drop i) ρi = some (rest, ρe) ∧ ads ++ rest = res) ?_ ?_ ?_ ?_
    · exact ⟨G1, ρ1, [], [], res, Same.refl _, (S1.withNew hD).wipe vs, .nil, e2, rfl⟩
    · rintro i H hi ⟨Gi, ρi, acc, ads, rest, q1, q2, _⟩
      exact q1.trans q2.sub
    · rintro i x H H' hi ⟨Gi, ρi, acc, ads, rest, q1, q2, q3, q4, q5⟩ y
      have hd : ds[i]? = some ds[i] := List.getElem?_eq_getElem hi
      obtain ⟨Gj, gr, hx⟩ := y Gi q1 q2.sub _ hd
      have S2 := q2.grow gr.g gr.h gr.s gr.n
      rw [List.drop_eq_getElem_cons hi] at q4
      obtain ⟨ρ2, e3, q4⟩ := bnd q4
      obtain ⟨⟨b, ρ3⟩, e4, q4⟩ := bnd q4
      refine ⟨ioA, G0, upd H0 D (.lst acc), Gj, _, _, ρ2, S2, hx, e3, fun σ2 S3 k2 => ?_⟩
      have hl : σ2.length = σ.length := by
        rw [S3.len, (hgk _ _ _ e3).2, wipeR_len, ← (S2.len.trans (wipeR_len vs ρi)), wipe_length]
      have we : wipe σ2 vs = wipe σ vs := wipe_eq hl hts k2
      refine ⟨we, ioA, G0, upd H0 D (.lst acc), Gj, ρ2, b, ρ3, S3, e4, fun G3 H3 g3 S4 => ?_⟩
      cases b with
      | false =>
        refine iteF ⟨G3, ρ3, acc, ads, rest, q1.trans (gr.g.trans g3), ?_, dpsM (gr.g.trans g3) _ _ q3, q4, q5⟩
        rw [← we]
        exact S4.wipe vs
      | true =>
        obtain ⟨⟨r3, ρ4⟩, e5, q4⟩ := bnd (show (f ρ3).bind _ = _ from q4)
        refine iteT ⟨ioA, G0, upd H0 D (.lst acc), G3, ρ3, r3, ρ4, S4, e5, fun G4 y4 H4 g4 S5 R5 => ?_⟩
        obtain ⟨G4', g4', S5', R5'⟩ := settle S5 R5
        simp only at q4
        split at q4
        · rename_i d' z
          rw [z] at R5'
          obtain ⟨⟨rest', ρ5⟩, e6, q4⟩ := bnd q4
          cases q4
          have g5 : Same Gi G4' := (gr.g.trans g3).trans (g4.trans g4')
          have hacc := dpsM g5 _ _ q3
          refine ⟨acc, S5'.fr D _ upd_same hio, ?_, G4', ρ4, acc ++ [y4], ads ++ [d'], rest', q1.trans g5, ?_, dps_app hacc (.cons R5' .nil), e6, by rw [← q5]; simp⟩
          · rw [dps_len hacc, ← lineN_eq]
            have q6 := congrArg List.length q5
            rw [List.length_append, List.length_cons] at q6
            omega
          · rw [← we]
            exact (S5'.bump h0D g0D hio (fun _ z => nomatch z)).wipe vs
        · cases q4
    · rintro H ⟨Gi, ρi, acc, ads, rest, q1, q2, q3, q4, q5⟩
      rw [List.drop_length] at q4
      cases q4
      rw [List.append_nil] at q5
      subst q5
      have gD : Gi D = none := by
        cases z : Gi D with
        | none => rfl
        | some u =>
          rcases q2.new D u z with ⟨_, q⟩ | q
          · rw [g0D] at q; cases q
          · exact (q.no upd_same (fun _ z => nomatch z)).elim
      have Sf := S1.restore q2 q1 hok h0D
      refine k Gi (.ref D) H (g1.trans q1) Sf ⟨D, rfl, gD, h0D, ⟨acc, q2.fr D _ upd_same hio, q3⟩, fun i hi he => ?_⟩
      obtain ⟨a, d, z1, z2, z3, z4⟩ := Sf.mt hi
      have z5 := he.symm.trans z1
      cases z5
      cases z6 : (rst vs ρ1 ρe)[i]? with
      | none => rw [z6] at hi; cases hi
      | some s =>
        have hiv : i ∉ vs := fun hm => by
          rw [rst_get vs (by have := q2.len; rw [wipe_length, wipeR_len] at this; exact S1.len.symm.trans this), if_pos hm] at hi
          have q := okW_at hok hm
          cases w : ρ1[i]? with
          | none => rw [w] at hi; cases hi
          | some s' => rw [w] at hi q; cases s' <;> first | (cases q; done) | (cases hi; done)
        have z7 := z6
        rw [rst_get vs (by have := q2.len; rw [wipe_length, wipeR_len] at this; exact S1.len.symm.trans this), if_neg hiv] at z7
        have z8 : (wipeR vs ρe)[i]? = some s := by rw [wipeR_get, if_neg hiv]; exact z7
        have z9 : (wipe σ vs)[i]? = σ[i]? := by rw [wipe_get, if_neg hiv]
        cases s with
        | own d' =>
          obtain ⟨a, w1, w2, w3, w4⟩ := q2.own i d' z8
          rw [z9, he] at w1
          cases w1
          rw [upd_same] at w3; cases w3
        | io d' =>
          obtain ⟨a, w1, w2, w4⟩ := q2.io i d' z8
          rw [z9, he] at w2
          cases w2
          exact hio i w1
        | _ => rw [z6] at hi; cases hi
  refine ⟨⟨pe_w (pe_lc hc hN hi.pi ok (fun s H C cl fp => (hg s H C cl fp).pg) (fun s H C cl fp => (ht s H C cl fp).pts) (fun s H C cl fp => (he s H C cl fp).pe) hs) main, fun ρ r ρ' q => ?_⟩, main⟩
  obtain ⟨⟨ds, ρ1⟩, e1, e⟩ := bnd q
  simp only at e
  split at e
  · obtain ⟨⟨res, ρe⟩, e2, e⟩ := bnd e
    simp only at e
    split at e <;> cases e
    exact (hi.kin _ _ _ e1).trans (kin_rst (kinX_comp hgk hts htk hek e2))
  · cases e
end
end PL

/-! PL: the pure layer, 8: statements, a def by its body. -/
namespace PL
open PySem PySem.Spec PyProof.Rows L2
section
variable {X : Cx} {K : PySem.W.Frag} {ioA : Nat → Option Addr} {G0 H0 G G' H H' : Hp} {σ σ' : L2.St} {ρ ρ' : Rho} {v : V} {r : Vl}
abbrev PDS (X : Cx) (st : Stmt) (f : FS) : Prop := PS X st (tDS X.K f)
abbrev PDSs (X : Cx) (st : List Stmt) (f : FS) : Prop := PSs X st (tDS X.K f)

/-! ### the plain ones -/
theorem ds_pass {pos : Pos} : PDS X (.Pass pos) sPass := ps_w ps_pass fun E σ H q => by
  obtain ⟨ioA, G0, H0, G, ρ, o, S, e, k⟩ := q
  cases e
  exact k G σ H (Same.refl _) S
theorem ds_break {pos : Pos} : PDS X (.Break pos) sBrk := ps_w ps_break fun E σ H q => by
  obtain ⟨ioA, G0, H0, G, ρ, o, S, e, k⟩ := q
  cases e
  exact k G σ H (Same.refl _) S
theorem ds_cont {pos : Pos} : PDS X (.Continue pos) sCont := ps_w ps_continue fun E σ H q => by
  obtain ⟨ioA, G0, H0, G, ρ, o, S, e, k⟩ := q
  cases e
  exact k G σ H (Same.refl _) S
theorem ds_never {st : Stmt} : PDS X st sNever := ps_w ps_never fun E σ H q => by
  obtain ⟨ioA, G0, H0, G, ρ, o, S, e, k⟩ := q
  cases e
theorem dss_nil : PDSs X [] sPass := pss_w pss_nil fun E σ H q => by
  obtain ⟨ioA, G0, H0, G, ρ, o, S, e, k⟩ := q
  cases e
  exact k G σ H (Same.refl _) S
theorem dss_one {st : Stmt} {f : FS} (h : PDS X st f) : PDSs X [st] f := pss_one h
theorem dss_cons {st : Stmt} {rest : List Stmt} {f g : FS} (h : PDS X st f) (h2 : PDSs X rest g) : PDSs X (st :: rest) (sSeq f g) := pss_w (pss_cons h h2) fun E σ H q => by
  obtain ⟨ioA, G0, H0, G, ρ, o, S, e, k⟩ := q
  obtain ⟨o1, e1, e⟩ := bnd e
  refine ⟨ioA, G0, H0, G, ρ, o1, S, e1, ?_⟩
  cases o1 with
  | nx ρ1 =>
    intro G1 σ1 H1 g1 S1
    exact ⟨ioA, G0, H0, G1, ρ1, o, S1, e, k.mono g1⟩
  | bk ρ1 => cases e; exact k
  | ct ρ1 => cases e; exact k
  | rt r ρ1 => cases e; exact k
theorem ds_retN {pos : Pos} : PDS X (.Return none pos) sRetN := ps_w ps_retN fun E σ H q => by
  obtain ⟨ioA, G0, H0, G, ρ, o, S, e, k⟩ := q
  cases e
  exact k G .non σ H (Same.refl _) S .non
theorem ds_ret {a : Expr} {f : FE} {pos : Pos} (h : PD X a f) : PDS X (.Return (some a) pos) (sRet f) := ps_w (ps_ret h.pe) fun E σ H q => by
  obtain ⟨ioA, G0, H0, G, ρ, o, S, e, k⟩ := q
  obtain ⟨⟨r1, ρ1⟩, e1, e⟩ := bnd e
  cases e
  exact ⟨ioA, G0, H0, G, ρ, r1, ρ1, S, e1, fun G1 v H1 g1 S1 R1 => k G1 v σ H1 g1 S1 R1⟩
theorem ds_exp {a : Expr} {f : FE} {pos : Pos} (h : PD X a f) (hs : swapsWith a none pos.line X.env = pure false := by rfl) : PDS X (.Expr a pos) (sExp f) := ps_w (ps_expr h.pe hs) fun E σ H q => by
  obtain ⟨ioA, G0, H0, G, ρ, o, S, e, k⟩ := q
  obtain ⟨⟨r1, ρ1⟩, e1, e⟩ := bnd e
  cases e
  exact ⟨ioA, G0, H0, G, ρ, r1, ρ1, S, e1, fun G1 v H1 g1 S1 R1 => k G1 σ H1 g1 S1⟩
theorem ds_if {c : Expr} {a b : List Stmt} {t : FT} {f g : FS} {pos : Pos} (hc : PDT X c t) (ha : PDSs X a f) (hb : PDSs X b g) : PDS X (.If c a b pos) (sIf t f g) := ps_w (ps_if hc.pt ha hb) fun E σ H q => by
  obtain ⟨ioA, G0, H0, G, ρ, o, S, e, k⟩ := q
  obtain ⟨⟨b1, ρ1⟩, e1, e⟩ := bnd e
  refine ⟨ioA, G0, H0, G, ρ, b1, ρ1, S, e1, fun G1 H1 g1 S1 => ?_⟩
  cases b1 with
  | true => exact iteT ⟨ioA, G0, H0, G1, ρ1, o, S1, e, k.mono g1⟩
  | false => exact iteF ⟨ioA, G0, H0, G1, ρ1, o, S1, e, k.mono g1⟩

/-! ### stores -/
theorem asg_ok {f : FE} {i : Nat} {t : TE} (h : ∀ σ H Q, tD K f σ H Q → t σ H Q) {E : Ends} (q : tDS K (sAsg i f) E σ H) : tAsg t (gName i) E σ H := by
  obtain ⟨ioA, G0, H0, G, ρ, o, S, e, k⟩ := q
  obtain ⟨⟨r1, ρ1⟩, e1, e⟩ := bnd e
  refine h _ _ _ ⟨ioA, G0, H0, G, ρ, r1, ρ1, S, e1, fun G1 v H1 g1 S1 R1 => ?_⟩
  obtain ⟨G1', g1', S1', R1'⟩ := settle S1 R1
  simp only at e
  split at e
  · rename_i d z
    obtain ⟨ρ2, e2, e⟩ := bnd e
    cases e
    obtain ⟨h1, rfl, _⟩ := setS_eq e2
    rw [z] at R1'
    exact k G1' _ H1 (g1.trans g1') (S1'.set h1 (.inr ⟨d, v, rfl, rfl, R1'⟩))
  · cases e
theorem new_ok {f : FE} {i : Nat} {t : TE} (h : ∀ σ H Q, tD K f σ H Q → t σ H Q) {E : Ends} (q : tDS K (sNew i f) E σ H) : tAsg t (gName i) E σ H := by
  obtain ⟨ioA, G0, H0, G, ρ, o, S, e, k⟩ := q
  obtain ⟨⟨r1, ρ1⟩, e1, e⟩ := bnd e
  refine h _ _ _ ⟨ioA, G0, H0, G, ρ, r1, ρ1, S, e1, fun G1 v H1 g1 S1 R1 => ?_⟩
  simp only at e
  split at e
  · obtain ⟨ρ2, e2, e⟩ := bnd e
    cases e
    obtain ⟨h1, rfl, _⟩ := setS_eq e2
    obtain ⟨a, rfl, q1, q2, q3, q4⟩ := R1
    exact k G1 _ H1 g1 (S1.setOwn h1 q1 q2 q3.own q4)
  · cases e
variable {i : Nat} {x : Str} {pos pos' : Pos} {e : Expr} {f : FE}
theorem ds_asg (h : PD X e f) (hN : X.N.Nodup) (hi : X.N[i]? = some x) (hx : Loc X.env.scope x) (hs : swapsWith e (some (.Name x pos')) pos.line X.env = pure false := by rfl) (hf : X.fn x = true ∨ X.env.scope.names.lookup x = some .local := by first | exact .inl rfl | exact .inr rfl | assumption) :
    PDS X (.Assign [.Name x pos'] e pos) (sAsg i f) := ps_w (ps_set hN hi hx h.pe hs hf) fun E σ H q => asg_ok (fun _ _ _ q => q) q
theorem ds_new (h : PD X e f) (hN : X.N.Nodup) (hi : X.N[i]? = some x) (hx : Loc X.env.scope x) (hs : swapsWith e (some (.Name x pos')) pos.line X.env = pure false := by rfl) (hf : X.fn x = true ∨ X.env.scope.names.lookup x = some .local := by first | exact .inl rfl | exact .inr rfl | assumption) :
    PDS X (.Assign [.Name x pos'] e pos) (sNew i f) := ps_w (ps_set hN hi hx h.pe hs hf) fun E σ H q => new_ok (fun _ _ _ q => q) q
section
variable {elt tg iter : Expr} {ifs : List Expr} {scope : Scope} {own : List (Str × Nat)} {spos py : Pos} {it : FI} {g : FG} {t : FT} {ts : List Nat} {y : Str}
theorem ds_asgLc (hc : X.calm = true) (hN : X.N.Nodup) (hy : X.N[i]? = some y) (hyl : X.env.scope.names.lookup y = some .local)
    (hsw : swapsWith (.ListComp elt [⟨tg, iter, ifs, 0⟩] scope pos) (some (.Name y py)) spos.line X.env = pure true) (hi : PDI X tg iter it) (ok : BlkOk X.N X.env.scope scope own)
    (hg : ∀ (s : Shared) (H : Hp) (C : Addr) (cl : List (Str × Addr)) (fp : List Addr), PDG (X.blk s H scope (compEnvC scope cl C X.env) fp) tg g ts) (hts : ∀ j ∈ ts, j ∈ own.map (·.2))
    (ht : ∀ (s : Shared) (H : Hp) (C : Addr) (cl : List (Str × Addr)) (fp : List Addr), PDTs (X.blk s H scope (compEnvC scope cl C X.env) fp) ifs t)
    (he : ∀ (s : Shared) (H : Hp) (C : Addr) (cl : List (Str × Addr)) (fp : List Addr), PD (X.blk s H scope (compEnvC scope cl C X.env) fp) elt f) (hs : ∀ x, foldedSetIterable iter X.env x = pure x := by intro _; rfl) :
    PDS X (.Assign [.Name y py] (.ListComp elt [⟨tg, iter, ifs, 0⟩] scope pos) spos) (sAsg i (cLc (own.map (·.2)) it g t f)) :=
  ps_w (ps_setLc hc hN hy hyl hsw hi.pi ok (fun s H C cl fp => (hg s H C cl fp).pg) (fun s H C cl fp => (ht s H C cl fp).pts) (fun s H C cl fp => (he s H C cl fp).pe) hs) fun E σ H q => asg_ok (pd_lc (pos := pos) hc hN hi ok hg hts ht he hs).2 q
theorem ds_newLc (hc : X.calm = true) (hN : X.N.Nodup) (hy : X.N[i]? = some y) (hyl : X.env.scope.names.lookup y = some .local)
    (hsw : swapsWith (.ListComp elt [⟨tg, iter, ifs, 0⟩] scope pos) (some (.Name y py)) spos.line X.env = pure true) (hi : PDI X tg iter it) (ok : BlkOk X.N X.env.scope scope own)
    (hg : ∀ (s : Shared) (H : Hp) (C : Addr) (cl : List (Str × Addr)) (fp : List Addr), PDG (X.blk s H scope (compEnvC scope cl C X.env) fp) tg g ts) (hts : ∀ j ∈ ts, j ∈ own.map (·.2))
    (ht : ∀ (s : Shared) (H : Hp) (C : Addr) (cl : List (Str × Addr)) (fp : List Addr), PDTs (X.blk s H scope (compEnvC scope cl C X.env) fp) ifs t)
    (he : ∀ (s : Shared) (H : Hp) (C : Addr) (cl : List (Str × Addr)) (fp : List Addr), PD (X.blk s H scope (compEnvC scope cl C X.env) fp) elt f) (hs : ∀ x, foldedSetIterable iter X.env x = pure x := by intro _; rfl) :
    PDS X (.Assign [.Name y py] (.ListComp elt [⟨tg, iter, ifs, 0⟩] scope pos) spos) (sNew i (cLc (own.map (·.2)) it g t f)) :=
  ps_w (ps_setLc hc hN hy hyl hsw hi.pi ok (fun s H C cl fp => (hg s H C cl fp).pg) (fun s H C cl fp => (ht s H C cl fp).pts) (fun s H C cl fp => (he s H C cl fp).pe) hs) fun E σ H q => new_ok (pd_lc (pos := pos) hc hN hi ok hg hts ht he hs).2 q
end
theorem ds_tgt {tg : Expr} {g : FG} {ts : List Nat} (h : PD X e f) (hg : PDG X tg g ts) (hs : swapsWithSole [tg] e pos.line X.env = pure false := by rfl) (hw : swappedStores [tg] e X.env = pure none := by rfl)
    (h1 : (assignEach [tg] X.env).map (·.2) = [assign tg X.env] := by rfl) : PDS X (.Assign [tg] e pos) (sTgt g f) := ps_w (ps_asg h.pe hg.pg hs hw h1) fun E σ H q => by
  obtain ⟨ioA, G0, H0, G, ρ, o, S, e, k⟩ := q
  obtain ⟨⟨r1, ρ1⟩, e1, e⟩ := bnd e
  refine ⟨ioA, G0, H0, G, ρ, r1, ρ1, S, e1, fun G1 v H1 g1 S1 R1 => ?_⟩
  obtain ⟨G1', g1', S1', R1'⟩ := settle S1 R1
  simp only at e
  split at e
  · rename_i d z
    obtain ⟨ρ2, e2, e⟩ := bnd e
    cases e
    rw [z] at R1'
    exact ⟨ioA, G0, H0, G1', ρ1, d, ρ2, S1', R1', e2, fun σ' S2 _ => k G1' σ' H1 (g1.trans g1') S2⟩
  · cases e
/-- a ghost: the slot is not changed any more -/
theorem Sg.frz (S : Sg K ioA G0 H0 G H σ ρ) (i : Nat) : ∃ G', Same G G' ∧ Sg K ioA G0 H0 G' H σ (PL.frz i ρ) := by
  unfold PL.frz
  split
  · rename_i ds z
    generalize hd : PyData.list ds = d at z ⊢
    obtain ⟨a, h1, h2, h3, h4⟩ := S.own i d z
    have h4 : OwnL K G H a d := by rw [← hd] at h4 ⊢; exact h4
    have S' : Sg K ioA G0 H0 G H σ (ρ.set i .non) := by
      have q := S.set (u := σ[i]?.getD none) (s := .non) (i := i) (fun d' z' => by rw [z] at z'; cases z') (.inl rfl)
      have e : σ.set i (σ[i]?.getD none) = σ := by
        refine List.ext_getElem? fun j => ?_
        by_cases hj : i = j
        · subst hj
          rw [List.getElem?_set_self (List.getElem?_eq_some_iff.mp h1).1, h1]
          rfl
        · rw [List.getElem?_set_ne hj]
      rw [e] at q
      exact q
    have lt := (List.getElem?_eq_some_iff.mp z).1
    have R : RepV K H0 G H σ (ρ.set i .non) (.ref a) (.nw d) := ⟨a, rfl, h2, h3, h4, fun j hj e => by
      by_cases hij : i = j
      · subst hij
        rw [List.getElem?_set_self lt] at hj
        cases hj
      · rw [List.getElem?_set_ne hij] at hj
        exact hij (S.apart i j a (by rw [z]; rfl) hj h1 e)⟩
    obtain ⟨G', g', S2, R2⟩ := settle S' R
    have q := S2.set (u := some (.ref a)) (s := .pu d) (i := i) (fun d' z' => by rw [List.getElem?_set_self lt] at z'; cases z') (.inr ⟨d, _, rfl, rfl, R2⟩)
    have e : σ.set i (some (.ref a)) = σ := by
      refine List.ext_getElem? fun j => ?_
      by_cases hj : i = j
      · subst hj
        rw [List.getElem?_set_self (List.getElem?_eq_some_iff.mp h1).1, h1]
      · rw [List.getElem?_set_ne hj]
    rw [e, List.set_set] at q
    exact ⟨G', g', q⟩
  · exact ⟨G, Same.refl _, S⟩
theorem frz_ok {f : FS} {i : Nat} {E : Ends} (q : tDS K (sFrz i f) E σ H) : tDS K f E σ H := by
  obtain ⟨ioA, G0, H0, G, ρ, o, S, e, k⟩ := q
  obtain ⟨G1, g1, S1⟩ := S.frz i
  exact ⟨ioA, G0, H0, G1, _, o, S1, e, k.mono g1⟩
theorem dss_frz {st : List Stmt} {f : FS} (i : Nat) (h : PDSs X st f) : PDSs X st (sFrz i f) := pss_w h fun E σ H q => frz_ok q

/-! ### owned lists are changed -/
theorem Sg.put {i : Nat} {d : D} {a : Addr} {xs xs' : List V} {ds' : List D} (S : Sg K ioA G0 H0 G H σ ρ) (hc : cont ρ (.sl i) = some d) (hs : σ[i]? = some (some (.ref a))) (h : H a = some (.lst xs)) (hd : DpAll K G xs' ds') (e : putS i (.list ds') ρ = some ρ') :
    Sg K ioA G0 H0 G (upd H a (.lst xs')) σ ρ' := by
  have hm : mtb ρ[i]? = true := by
    unfold cont at hc
    cases z : ρ[i]? with
    | none => simp only [z] at hc; cases hc
    | some s => simp only [z] at hc; cases s <;> first | rfl | cases hc
  obtain ⟨a', d0, h1, h2, h3, _⟩ := S.mt hm
  have e1 := hs.symm.trans h1
  cases e1
  have key : ρ'.length = ρ.length ∧ (∀ j, j ≠ i → ρ'[j]? = ρ[j]?) ∧ ((∃ d0, ρ[i]? = some (.own d0) ∧ ρ'[i]? = some (.own (.list ds'))) ∨ (∃ d0, ρ[i]? = some (.io d0) ∧ ρ'[i]? = some (.io (.list ds')))) := by
    unfold putS at e
    split at e
    · rename_i d0 e0
      cases e
      exact ⟨by simp, fun j hj => List.getElem?_set_ne (Ne.symm hj), .inl ⟨d0, e0, List.getElem?_set_self (List.getElem?_eq_some_iff.mp e0).1⟩⟩
    · rename_i d0 e0
      cases e
      exact ⟨by simp, fun j hj => List.getElem?_set_ne (Ne.symm hj), .inr ⟨d0, e0, List.getElem?_set_self (List.getElem?_eq_some_iff.mp e0).1⟩⟩
    · cases e
  obtain ⟨k1, k2, k3⟩ := key
  have mt : ∀ (j : Nat), mtb ρ'[j]? = mtb ρ[j]? := fun j => by
    by_cases hj : j = i
    · subst hj
      rcases k3 with ⟨d0, q1, q2⟩ | ⟨d0, q1, q2⟩ <;> (rw [q1, q2]; rfl)
    · rw [k2 j hj]
  have ne : ∀ (j : Nat) (b : Addr), j ≠ i → mtb ρ[j]? = true → σ[j]? = some (some (.ref b)) → b ≠ a := fun j b hj hm' hb z => by
    rw [z] at hb
    exact hj (S.apart j i a hm' hm hb hs)
  refine ⟨S.len.trans k1.symm, fun b u q => ?_, S.g0, S.new, fun b u q k => ?_, fun j b q => ?_, fun j e' q => ?_, fun j e' q => ?_, fun j e' q => ?_, fun j l b q1 q2 q3 q4 => S.apart j l b ((mt j).symm.trans q1) ((mt l).symm.trans q2) q3 q4, fun j d q => S.fx j d (by
    have hj : j ≠ i := fun z => by
      subst z
      rcases k3 with ⟨d0, q1, q2⟩ | ⟨d0, q1, q2⟩ <;> (rw [q2] at q; cases q)
    rw [k2 j hj] at q
    exact q)⟩
  · have hb : b ≠ a := fun z => by rw [z, h2] at q; cases q
    rw [upd_ne hb]; exact S.sub b u q
  · have hb : b ≠ a := fun z => by
      rcases k3 with ⟨d0, q1, q2⟩ | ⟨d0, q1, q2⟩
      · obtain ⟨a', w1, w2, w3, w4⟩ := S.own i d0 q1
        have w5 := hs.symm.trans w1
        cases w5
        rw [z, w3] at q; cases q
      · obtain ⟨a', w1, w2, w4⟩ := S.io i d0 q1
        have w5 := hs.symm.trans w2
        cases w5
        exact k i (by rw [w1, z])
    rw [upd_ne hb]; exact S.fr b u q k
  · obtain ⟨⟨u, w1, wn⟩, w2, w3⟩ := S.ioh j b q
    refine ⟨?_, w2, w3⟩
    by_cases hb : b = a
    · exact ⟨.lst xs', by rw [hb]; exact upd_same, fun _ z => nomatch z⟩
    · exact ⟨u, by rw [upd_ne hb]; exact w1, wn⟩
  · have hj : j ≠ i := fun z => by
      subst z
      rcases k3 with ⟨d0, q1, q2⟩ | ⟨d0, q1, q2⟩ <;> (rw [q2] at q; cases q)
    rw [k2 j hj] at q
    exact S.pu j e' q
  · by_cases hj : j = i
    · subst hj
      rcases k3 with ⟨d0, q1, q2⟩ | ⟨d0, q1, q2⟩
      · rw [q2] at q
        cases q
        obtain ⟨a', w1, w2, w3, w4⟩ := S.own j d0 q1
        have w5 := hs.symm.trans w1
        cases w5
        exact ⟨a, hs, w2, w3, xs', upd_same, hd⟩
      · rw [q2] at q; cases q
    · rw [k2 j hj] at q
      obtain ⟨b, w1, w2, w3, w4⟩ := S.own j e' q
      have hb := ne j b hj (by rw [q]; rfl) w1
      exact ⟨b, w1, w2, w3, w4.keep (Same.refl _) fun u w => by rw [upd_ne hb]; exact w⟩
  · by_cases hj : j = i
    · subst hj
      rcases k3 with ⟨d0, q1, q2⟩ | ⟨d0, q1, q2⟩
      · rw [q2] at q; cases q
      · rw [q2] at q
        cases q
        obtain ⟨a', w1, w2, w4⟩ := S.io j d0 q1
        have w5 := hs.symm.trans w2
        cases w5
        exact ⟨a, w1, hs, xs', upd_same, hd⟩
    · rw [k2 j hj] at q
      obtain ⟨b, w1, w2, w4⟩ := S.io j e' q
      have hb := ne j b hj (by rw [q]; rfl) w2
      exact ⟨b, w1, w2, w4.keep (Same.refl _) fun u w => by rw [upd_ne hb]; exact w⟩
theorem cont_mtb {i : Nat} {d : D} (h : cont ρ (.sl i) = some d) : mtb ρ[i]? = true := by
  unfold cont at h
  cases z : ρ[i]? with
  | none => simp only [z] at h; cases h
  | some s => simp only [z] at h; cases s <;> first | rfl | cases h
/-- x.append(e) -/
theorem ds_app {o : Expr} {apos cpos : Pos} (ho : PE X o (tVar i)) (h : PD X e f) (hx : starEach [e] X.env = (false, eval e X.env) :: starEach [] X.env := by rfl)
    (hbase : attributeBase o "append" X.env (eval o X.env) = eval o X.env := by rfl)
    (hfew : ((backTo cpos (starEach [e] X.env)).all (fun x => !x.1) && (backToKw cpos (keywordEach [] X.env)).all (fun x => x.1.isSome)
      && decide ([e].length + ([] : List Keyword).length + (if ([] : List Keyword).isEmpty then 0 else 1) < 30)) = true := by rfl)
    (hline : (apos.endLine == cpos.line) = true := by rfl) (hplain : (backTo cpos (starEach [] X.env)).any (·.1) = false := by rfl)
    (hs : swapsWith (.Call (.Attribute o "append" apos) [e] [] cpos) none pos.line X.env = pure false := by rfl) :
    PDS X (.Expr (.Call (.Attribute o "append" apos) [e] [] cpos) pos) (sApp i f) := by
  refine ps_w (ps_expr (pe_bm PySem.F.plainAttrs_list PySem.F.slot_list_append PySem.F.type_list_append (r := rAppend) mt_append ho (pd_cons h pd_nil hx).pa hbase hfew hline hx hplain) hs) fun E σ H q => ?_
  obtain ⟨ioA, G0, H0, G, ρ, o, S, e, k⟩ := q
  obtain ⟨c0, ec, e⟩ := bnd e
  obtain ⟨⟨r1, ρ1⟩, e1, e⟩ := bnd e
  simp only at e
  split at e
  · rename_i d ds z1 z2
    by_cases hz : ds.length < lineN
    case neg => rw [if_neg hz] at e; cases e
    rw [if_pos hz] at e
    obtain ⟨ρ2, e2, e⟩ := bnd e
    cases e
    obtain ⟨a, q1, q2, q3⟩ := S.ml ec
    refine ⟨.ref a, q1, ?_, ?_⟩
    · cases c0 with
      | list l => obtain ⟨xs, w1, _⟩ := q3; exact .inl ⟨rfl, _, .inl (.inl w1)⟩
      | _ => exact q3.elim
    · refine ⟨ioA, G0, H0, G, ρ, [stl r1], ρ1, S, by unfold aCons aNil; simp only [e1, Option.bind_some], fun G1 vs H1 g1 S1 R1 => ?_⟩
      rw [z1] at R1
      cases R1 with
      | cons hv ht =>
        cases ht
        obtain ⟨a', w1, w2, w3⟩ := S1.ml z2
        have w5 := q1.symm.trans w1
        cases w5
        obtain ⟨xs, u1, u2⟩ := w3
        refine ⟨a, xs, _, rfl, rfl, u1, by rw [dps_len u2, ← lineN_eq]; exact hz, ?_⟩
        exact k G1 σ _ g1 (S1.put (d := .list ds) z2 q1 u1 (dps_app u2 (.cons hv .nil)) e2)
  · cases e
theorem ixD_eq {n : Nat} {i : Int} : ixD n i = ixN n i := rfl
/-- x[k] = e, x a list -/
theorem ds_setix {o ke : Expr} {fk : FE} {tpos : Pos} (ho : PE X o (tVar i)) (h : PD X e f) (hk : PD X ke fk)
    (ha : ∀ v, assign (.Subscript o ke tpos) X.env v = (do
      let ov ← holding [v] (eval o X.env)
      let iv ← holding [v, ov] (eval ke X.env)
      standAt tpos
      holding [v, ov, iv] (setItem ov iv v)
      release [v, ov, iv] []) := by intro _; rfl)
    (hs : swapsWithSole [.Subscript o ke tpos] e pos.line X.env = pure false := by rfl) (hw : swappedStores [.Subscript o ke tpos] e X.env = pure none := by rfl)
    (h1 : (assignEach [.Subscript o ke tpos] X.env).map (·.2) = [assign (.Subscript o ke tpos) X.env] := by rfl) : PDS X (.Assign [.Subscript o ke tpos] e pos) (sSet i fk f) := by
  refine ps_w (ps_asg h.pe (pg_sub ho hk.pe set_list ha) hs hw h1) fun E σ H q => ?_
  obtain ⟨ioA, G0, H0, G, ρ, o, S, e, k⟩ := q
  obtain ⟨⟨r1, ρ1⟩, e1, e⟩ := bnd e
  obtain ⟨⟨r2, ρ2⟩, e2, e⟩ := bnd e
  refine ⟨ioA, G0, H0, G, ρ, r1, ρ1, S, e1, fun G1 v H1 g1 S1 R1 => ?_⟩
  obtain ⟨G1', g1', S1', R1'⟩ := settle S1 R1
  simp only at e
  obtain ⟨d, j, ds, z1, z2, z3, e⟩ : ∃ d j ds, stl r1 = .pu d ∧ r2 = .pu (.int j) ∧ cont ρ2 (.sl i) = some (.list ds) ∧
      (ixD ds.length j).bind (fun n => (putS i (.list (ds.set n d)) ρ2).bind fun ρ' => some (Out.nx ρ')) = some o := by
    revert e
    split
    · intro e; exact ⟨_, _, _, by assumption, rfl, by assumption, e⟩
    · intro e; cases e
  obtain ⟨n, en, e⟩ := bnd e
  obtain ⟨ρ3, e3, e⟩ := bnd e
  cases e
  rw [z1] at R1'
  have kin := hk.kin _ _ _ e2
  obtain ⟨a, d0, q1, q2, q3, q4⟩ := S1'.mt ((kin i).1.symm.trans (cont_mtb z3))
  refine ⟨.ref a, q1, ioA, G0, H0, G1', ρ1, _, ρ2, S1', e2, fun G2 v2 H2 g2 S2 R2 => ?_⟩
  rw [z2] at R2
  cases R2
  obtain ⟨a', w1, w2, w3⟩ := S2.ml z3
  have w5 := q1.symm.trans w1
  cases w5
  obtain ⟨xs, u1, u2⟩ := w3
  refine ⟨a, xs, j, n, rfl, rfl, u1, by rw [dps_len u2]; exact en, ?_⟩
  exact k G2 σ _ ((g1.trans g1').trans g2) (S2.put (d := .list ds) z3 q1 u1 (dps_set n u2 (dpM g2 _ _ R1')) e3)
end
end PL

/-! PL: the pure layer, 9: pairs stored, loops, a def by its body. -/
namespace PL
open PySem PySem.Spec PyProof.Rows L2
section
variable {X : Cx} {K : PySem.W.Frag} {ioA : Nat → Option Addr} {G0 H0 G G' H H' : Hp} {σ σ' : L2.St} {ρ ρ' : Rho} {v : V} {r : Vl}

/-! ### pairs stored -/
theorem hold {p : Addr} {o : HO} (S : Sg K ioA G0 H0 G H σ ρ) (e : H p = some o) (hn : NT o) (h1 : G p = none) (h4 : ∀ (i : Nat), mtb ρ[i]? = true → σ[i]? ≠ some (some (V.ref p))) : Sg K ioA G0 (upd H0 p o) G H σ ρ := by
  refine ⟨S.len, S.sub, S.g0, fun b u q => ?_, fun b u q k => ?_, fun i b q => ?_, S.pu, fun i d q => ?_, S.io, S.apart, S.fx⟩
  · have hb : b ≠ p := fun z => by rw [z, h1] at q; cases q
    rw [lax_ne hb]; exact S.new b u q
  · by_cases hb : b = p
    · subst hb; rw [upd_same] at q; cases q; exact e
    · rw [upd_ne hb] at q; exact S.fr b u q k
  · obtain ⟨q1, q2, u, q3, qn⟩ := S.ioh i b q
    refine ⟨q1, q2, ?_⟩
    by_cases hb : b = p
    · subst hb; exact ⟨o, upd_same, hn⟩
    · exact ⟨u, by rw [upd_ne hb]; exact q3, qn⟩
  · obtain ⟨a, q1, q2, q3, q4⟩ := S.own i d q
    have hb : a ≠ p := fun z => h4 i (by rw [q]; rfl) (by rw [← z]; exact q1)
    exact ⟨a, q1, q2, by rw [upd_ne hb]; exact q3, q4⟩
theorem unhold {p : Addr} {o : HO} (S : Sg K ioA G0 (upd H0 p o) G H σ ρ) (h0 : H0 p = none) (hio : ∀ i, ioA i ≠ some p) : Sg K ioA G0 H0 G H σ ρ := by
  refine ⟨S.len, S.sub, S.g0, fun b u q => ?_, fun b u q k => ?_, fun i b q => ?_, S.pu, fun i d q => ?_, S.io, S.apart, S.fx⟩
  · rcases S.new b u q with z | z
    · exact .inl z
    · refine .inr ?_
      by_cases hb : b = p
      · rw [hb]; exact .inl h0
      · rw [lax_ne hb] at z; exact z
  · have hb : b ≠ p := fun z => by rw [z, h0] at q; cases q
    exact S.fr b u (by rw [upd_ne hb]; exact q) k
  · obtain ⟨q1, q2, u, q3⟩ := S.ioh i b q
    have hb : b ≠ p := fun z => hio i (by rw [q, z])
    rw [upd_ne hb] at q3
    exact ⟨q1, q2, u, q3⟩
  · obtain ⟨a, q1, q2, q3, q4⟩ := S.own i d q
    have hb : a ≠ p := fun z => by rw [z, upd_same] at q3; cases q3
    rw [upd_ne hb] at q3
    exact ⟨a, q1, q2, q3, q4⟩
theorem Sg.noIo {p : Addr} (S : Sg K ioA G0 H0 G H σ ρ) (h0 : H0 p = none) : ∀ i, ioA i ≠ some p := fun i z => by
  obtain ⟨_, _, u, q, _⟩ := S.ioh i p z
  rw [h0] at q; cases q
/-- stored with its kind -/
theorem setV_ok {k : Bool} {i : Nat} (S : Sg K ioA G0 H0 G H σ ρ) (R : RepV K H0 G H σ ρ v r) (e : setV k i r ρ = some ρ') : Sg K ioA G0 H0 G H (σ.set i (some v)) ρ' := by
  unfold setV at e
  split at e
  · obtain ⟨h1, rfl, _⟩ := setS_eq e
    obtain ⟨a, rfl, q1, q2, q3, q4⟩ := R
    exact S.setOwn h1 q1 q2 q3.own q4
  · obtain ⟨h1, rfl, _⟩ := setS_eq e
    exact S.set h1 (.inr ⟨_, v, rfl, rfl, R⟩)
  · cases e
/-- .. another value besides -/
theorem setV_keep {k l : Bool} {i j : Nat} {w : V} {r2 : Vl} {ρ2 : Rho} (S : Sg K ioA G0 H0 G H σ ρ) (R : RepV K H0 G H σ ρ v r) (e : setV k i r ρ = some ρ') (R2 : RepV K H0 G H σ ρ w r2) (e2 : setV l j r2 ρ' = some ρ2)
    (hne : ∀ a b, r = .nw a → r2 = .nw b → v ≠ w) : RepV K H0 G H (σ.set i (some v)) ρ' w r2 := by
  cases r2 with
  | pu d => exact R2
  | sl m => unfold setV at e2; cases l <;> cases e2
  | nw d =>
    obtain ⟨a, rfl, q1, q2, q3, q4⟩ := R2
    refine ⟨a, rfl, q1, q2, q3, fun n hn z => ?_⟩
    unfold setV at e
    split at e
    · obtain ⟨h1, rfl, hl⟩ := setS_eq e
      by_cases hni : n = i
      · subst hni
        rw [List.getElem?_set_self (by rw [S.len]; exact hl)] at z
        cases z
        exact hne _ _ rfl rfl rfl
      · rw [List.getElem?_set_ne (Ne.symm hni)] at z hn
        exact q4 n hn z
    · obtain ⟨h1, rfl, hl⟩ := setS_eq e
      by_cases hni : n = i
      · subst hni
        rw [List.getElem?_set_self hl] at hn
        cases hn
      · rw [List.getElem?_set_ne (Ne.symm hni)] at z hn
        exact q4 n hn z
    · cases e
theorem kp_ok {k : Bool} (S : Sg K ioA G0 H0 G H σ ρ) (R : RepV K H0 G H σ ρ v r) : ∃ G', Same G G' ∧ Sg K ioA G0 H0 G' H σ ρ ∧ RepV K H0 G' H σ ρ v (kp k r) := by
  cases k with
  | true => exact ⟨G, Same.refl _, S, R⟩
  | false => exact settle S R
/-- a, b = e, f: k, l tell which is kept as an owned list -/
theorem ds_par2 {k l : Bool} {i j : Nat} {x y : Str} {a b : Expr} {fa fb : FE} {px py pt pos : Pos} {kt k2 pt2} (ha : PD X a fa) (hb : PD X b fb) (hc : X.calm = true) (hN : X.N.Nodup) (hi : X.N[i]? = some x) (hj : X.N[j]? = some y) (hij : i ≠ j)
    (hx : X.env.scope.names.lookup x = some .local) (hy : X.env.scope.names.lookup y = some .local)
    (hw : swappedStores [.Tuple [.Name x px, .Name y py] kt pt] (.Tuple [a, b] k2 pt2) X.env = pure (some [x, y]))
    (hst : starEach [a, b] X.env = (false, eval a X.env) :: starEach [b] X.env := by rfl) (hst2 : starEach [b] X.env = (false, eval b X.env) :: starEach [] X.env := by rfl)
    (hs : swapsWithSole [.Tuple [.Name x px, .Name y py] kt pt] (.Tuple [a, b] k2 pt2) pos.line X.env = pure false := by rfl) :
    PDS X (.Assign [.Tuple [.Name x px, .Name y py] kt pt] (.Tuple [a, b] k2 pt2) pos) (sPar2 k l i j fa fb) := by
  refine ps_w (ps_par hc hN hi hj hij hx hy (pa_cons ha.pe (pa_cons hb.pe pa_nil hst2) hst) hw hs) fun E σ H q => ?_
  obtain ⟨ioA, G0, H0, G, ρ, o, S, e, kk⟩ := q
  obtain ⟨⟨r1, ρ1⟩, e1, e⟩ := bnd e
  obtain ⟨⟨r2, ρ2⟩, e2, e⟩ := bnd e
  obtain ⟨ρ3, e3, e⟩ := bnd e
  obtain ⟨ρ4, e4, e⟩ := bnd e
  cases e
  show tD X.K fa σ H _
  refine ⟨ioA, G0, H0, G, ρ, r1, ρ1, S, e1, fun G1 v H1 g1 S1 R1 => ?_⟩
  have kin := hb.kin _ _ _ e2
  obtain ⟨G1', g1', S1', R1'⟩ := kp_ok (k := k) S1 R1
  simp only at e3 e4
  -- what is left when both stand
  have fin : ∀ (G2 : Hp) (w : V) (H2 : Hp), Same G1' G2 → Sg X.K ioA G0 H0 G2 H2 σ ρ2 → RepV X.K H0 G2 H2 σ ρ2 v (kp k r1) → RepV X.K H0 G2 H2 σ ρ2 w (kp l r2) → (∀ a b, kp k r1 = .nw a → kp l r2 = .nw b → v ≠ w) →
      E.nx ((σ.set i (some v)).set j (some w)) H2 := fun G2 w H2 g2 S2 R1 R2 hne =>
    kk G2 _ H2 ((g1.trans g1').trans g2) (setV_ok (setV_ok S2 R1 e3) (setV_keep S2 R1 e3 R2 e4 hne) e4)
  revert R1' fin e3
  generalize kp k r1 = q1
  intro e3 R1' fin
  cases q1 with
  | sl m => unfold setV at e3; cases k <;> cases e3
  | pu d =>
    refine ⟨ioA, G0, H0, G1', ρ1, r2, ρ2, S1', e2, fun G2 w H2 g2 S2 R2 => ?_⟩
    obtain ⟨G3, g3, S3, R3⟩ := kp_ok (k := l) S2 R2
    exact ⟨v, w, rfl, fin G3 w H2 (g2.trans g3) S3 (dpM (g2.trans g3) _ _ R1') R3 fun a b z => by cases z⟩
  | nw d =>
    obtain ⟨p, rfl, h1, h2, h3, h4⟩ := R1'
    obtain ⟨u, hu, hnu⟩ := (OwnL.own h3).nt
    have hio := S1'.noIo h2
    refine ⟨ioA, G0, upd H0 p u, G1', ρ1, r2, ρ2, hold S1' hu hnu h1 h4, e2, fun G2 w H2 g2 S2 R2 => ?_⟩
    obtain ⟨G3, g3, S3, R3⟩ := kp_ok (k := l) S2 R2
    have g0p : G0 p = none := by
      cases z : G0 p with
      | none => rfl
      | some u' => have q := S1'.g0 _ _ z; rw [h1] at q; cases q
    have gp : G3 p = none := by
      cases z : G3 p with
      | none => rfl
      | some u' =>
        rcases S3.new p u' z with ⟨_, q⟩ | q
        · rw [g0p] at q; cases q
        · exact (q.no upd_same hnu).elim
    have hp : H2 p = some u := S3.fr p u upd_same hio
    have nsl : ∀ (n : Nat), mtb ρ2[n]? = true → σ[n]? ≠ some (some (V.ref p)) := fun n hn => h4 n ((kin n).1.symm.trans hn)
    refine ⟨_, w, rfl, fin G3 w H2 (g2.trans g3) (unhold S3 h2 hio) ⟨p, rfl, gp, h2, OwnL.keep (g2.trans g3) (fun u' z => ?_) h3, nsl⟩ ?_ fun a b z1 z2 e => ?_⟩
    · rw [hu] at z; cases z; exact hp
    · revert R3 e4
      generalize kp l r2 = q2
      intro e4 R3
      cases q2 with
      | pu d => exact R3
      | sl m => unfold setV at e4; cases l <;> cases e4
      | nw d2 =>
        obtain ⟨b, rfl, q1, q2, q3, q4⟩ := R3
        have hb : b ≠ p := fun z => by rw [z, upd_same] at q2; cases q2
        rw [upd_ne hb] at q2
        exact ⟨b, rfl, q1, q2, q3, q4⟩
    · rw [z2] at R3
      obtain ⟨c, rfl, q1, q2, q3, q4⟩ := R3
      cases e
      rw [upd_same] at q2; cases q2
/-- all of them plain -/
theorem setAll_pures : ∀ {is : List Nat} {rs : List Vl} {ρ ρ' : Rho}, setAll is rs ρ = some ρ' → ∃ ds, pures rs = some ds ∧ ds.length = is.length
  | [], [], _, _, _ => ⟨[], rfl, rfl⟩
  | [], _ :: _, _, _, e => by cases e
  | _ :: _, [], _, _, e => by cases e
  | i :: is, r :: rs, ρ, ρ', e => by
    cases r with
    | pu d =>
      obtain ⟨ρ1, e1, e⟩ := bnd e
      obtain ⟨ds, h1, h2⟩ := setAll_pures e
      exact ⟨d :: ds, by unfold pures; rw [h1]; rfl, by simp [h2]⟩
    | _ => cases e
def setSt : List Nat → List V → L2.St → L2.St
  | i :: is, v :: vs, σ => setSt is vs (σ.set i (some v))
  | _, _, σ => σ
theorem setAll_ok : ∀ {is : List Nat} {rs : List Vl} {vs : List V} {ds : List D} {σ : L2.St} {ρ ρ' : Rho}, Sg K ioA G0 H0 G H σ ρ → DpAll K G vs ds → pures rs = some ds → setAll is rs ρ = some ρ' → Sg K ioA G0 H0 G H (setSt is vs σ) ρ'
  | [], [], vs, ds, σ, ρ, ρ', S, hd, hp, e => by
    cases e
    cases vs <;> exact S
  | [], _ :: _, _, _, _, _, _, _, _, _, e => by cases e
  | _ :: _, [], _, _, _, _, _, _, _, _, e => by cases e
  | i :: is, r :: rs, vs, ds, σ, ρ, ρ', S, hd, hp, e => by
    cases r with
    | pu d =>
      obtain ⟨ρ1, e1, e⟩ := bnd e
      obtain ⟨es, h1, h2⟩ := bnd (show (pures rs).bind (fun ds => some (d :: ds)) = some ds from hp)
      cases h2
      cases hd with
      | cons k1 k2 =>
        obtain ⟨h3, rfl, _⟩ := setS_eq e1
        have S1 := S.set h3 (.inr ⟨d, _, rfl, rfl, k1⟩)
        exact setAll_ok (σ := σ.set i _) S1 k2 h1 e
    | _ => cases e
theorem ds_parA2 {i j : Nat} {x y : Str} {a b : Expr} {fa : FA} {px py pt pos : Pos} {kt k2 pt2} (ha : PDA X [a, b] fa) (hc : X.calm = true) (hN : X.N.Nodup) (hi : X.N[i]? = some x) (hj : X.N[j]? = some y) (hij : i ≠ j)
    (hx : X.env.scope.names.lookup x = some .local) (hy : X.env.scope.names.lookup y = some .local)
    (hw : swappedStores [.Tuple [.Name x px, .Name y py] kt pt] (.Tuple [a, b] k2 pt2) X.env = pure (some [x, y]))
    (hs : swapsWithSole [.Tuple [.Name x px, .Name y py] kt pt] (.Tuple [a, b] k2 pt2) pos.line X.env = pure false := by rfl) :
    PDS X (.Assign [.Tuple [.Name x px, .Name y py] kt pt] (.Tuple [a, b] k2 pt2) pos) (sParA [i, j] fa) := by
  refine ps_w (ps_par hc hN hi hj hij hx hy ha.pa hw hs) fun E σ H q => ?_
  obtain ⟨ioA, G0, H0, G, ρ, o, S, e, kk⟩ := q
  obtain ⟨⟨r1, ρ1⟩, e1, e⟩ := bnd e
  obtain ⟨ρ3, e3, e⟩ := bnd e
  cases e
  refine ⟨ioA, G0, H0, G, ρ, r1, ρ1, S, e1, fun G1 vs H1 g1 S1 R1 => ?_⟩
  obtain ⟨ds, h1, h2⟩ := setAll_pures e3
  have hd := dps_of R1 h1
  have S3 := setAll_ok S1 hd h1 e3
  have hl := (dps_len hd).trans h2
  match vs, hl, S3 with
  | [v, w], _, S3 => exact ⟨v, w, rfl, kk G1 _ H1 g1 S3⟩
theorem ds_parA3 {i j l : Nat} {x y z : Str} {a b c : Expr} {fa : FA} {px py pz pt pos : Pos} {kt k2 pt2} (ha : PDA X [a, b, c] fa) (hc : X.calm = true) (hN : X.N.Nodup) (hi : X.N[i]? = some x) (hj : X.N[j]? = some y) (hl : X.N[l]? = some z) (hij : i ≠ j) (hil : i ≠ l) (hjl : j ≠ l)
    (hx : X.env.scope.names.lookup x = some .local) (hy : X.env.scope.names.lookup y = some .local) (hz : X.env.scope.names.lookup z = some .local)
    (hw : swappedStores [.Tuple [.Name x px, .Name y py, .Name z pz] kt pt] (.Tuple [a, b, c] k2 pt2) X.env = pure (some [x, y, z]))
    (hs : swapsWithSole [.Tuple [.Name x px, .Name y py, .Name z pz] kt pt] (.Tuple [a, b, c] k2 pt2) pos.line X.env = pure false := by rfl) :
    PDS X (.Assign [.Tuple [.Name x px, .Name y py, .Name z pz] kt pt] (.Tuple [a, b, c] k2 pt2) pos) (sParA [i, j, l] fa) := by
  refine ps_w (ps_par3 hc hN hi hj hl hij hil hjl hx hy hz ha.pa hw hs) fun E σ H q => ?_
  obtain ⟨ioA, G0, H0, G, ρ, o, S, e, kk⟩ := q
  obtain ⟨⟨r1, ρ1⟩, e1, e⟩ := bnd e
  obtain ⟨ρ3, e3, e⟩ := bnd e
  cases e
  refine ⟨ioA, G0, H0, G, ρ, r1, ρ1, S, e1, fun G1 vs H1 g1 S1 R1 => ?_⟩
  obtain ⟨ds, h1, h2⟩ := setAll_pures e3
  have hd := dps_of R1 h1
  have S3 := setAll_ok S1 hd h1 e3
  have hl := (dps_len hd).trans h2
  match vs, hl, S3 with
  | [u, v, w], _, S3 => exact ⟨u, v, w, rfl, kk G1 _ H1 g1 S3⟩

/-! ### loops -/
theorem ds_while {c : Expr} {body : List Stmt} {t : FT} {f : FS} {pos : Pos} (hp : PassesOwn (model X.prog X.w) X.A X.env X.xe) (hc : PDT X c t) (hb : PDSs X body f) : PDS X (.While c body [] pos) (sWhile t f) := by
  refine ps_w (ps_while hp hc.pt hb) fun E σ H q => ?_
  obtain ⟨ioA, G0, H0, G, ρ, o, S, e, kk⟩ := q
  refine ⟨fun m σ H => ∃ G1 ρ1, Same G G1 ∧ Sg X.K ioA G0 H0 G1 H σ ρ1 ∧ whileGo t f m ρ1 = some o, ⟨fuelN, G, ρ, Same.refl _, S, e⟩, ?_⟩
  rintro m σ1 H1 ⟨G1, ρ1, g1, S1, e1⟩
  cases m with
  | zero => cases e1
  | succ m =>
    obtain ⟨⟨b, ρ2⟩, e2, e1⟩ := bnd e1
    refine ⟨ioA, G0, H0, G1, ρ1, b, ρ2, S1, e2, fun G2 H2 g2 S2 => ?_⟩
    cases b with
    | false =>
      cases e1
      exact iteF (kk G2 σ1 H2 (g1.trans g2) S2)
    | true =>
      refine iteT ⟨fun σ' H' => ∃ G3 ρ3, Same G G3 ∧ Sg X.K ioA G0 H0 G3 H' σ' ρ3 ∧ whileGo t f m ρ3 = some o, fun σ' H' h => ⟨m, Nat.lt_succ_self m, h⟩, ?_⟩
      obtain ⟨o3, e3, e1⟩ := bnd (show (f ρ2).bind _ = _ from e1)
      refine ⟨ioA, G0, H0, G2, ρ2, o3, S2, e3, ?_⟩
      cases o3 with
      | nx ρ3 => exact fun G3 σ3 H3 g3 S3 => ⟨G3, ρ3, (g1.trans g2).trans g3, S3, e1⟩
      | ct ρ3 => exact fun G3 σ3 H3 g3 S3 => ⟨G3, ρ3, (g1.trans g2).trans g3, S3, e1⟩
      | bk ρ3 => cases e1; exact fun G3 σ3 H3 g3 S3 => kk G3 σ3 H3 ((g1.trans g2).trans g3) S3
      | rt v ρ3 => cases e1; exact fun G3 v σ3 H3 g3 S3 R3 => kk G3 v σ3 H3 ((g1.trans g2).trans g3) S3 R3
theorem ds_for {tg iter : Expr} {body : List Stmt} {it : FI} {g : FG} {f : FS} {ts : List Nat} {pos : Pos} (hp : PassesOwn (model X.prog X.w) X.A X.env X.xe) (hc : X.calm = true) (hi : PDI X tg iter it) (hg : PDG X tg g ts) (hb : PDSs X body f)
    (hs : ∀ x, foldedSetIterable iter X.env x = pure x := by intro _; rfl) : PDS X (.For tg iter body [] pos) (sFor it g f) := by
  refine ps_w (ps_for hp hc hi.pi hg.pg hb hs) fun E σ H q => ?_
  obtain ⟨ioA, G0, H0, G, ρ, o, S, e, kk⟩ := q
  obtain ⟨⟨ds, ρ1⟩, e1, e⟩ := bnd e
  refine ⟨ioA, G0, H0, G, ρ, ds, ρ1, S, e1, fun G1 J H1 g1 S1 wk => ?_⟩
  refine for_it wk (fun i σ H => ∃ Gi ρi, Same G1 Gi ∧ Sg X.K ioA G0 H0 Gi H σ ρi ∧ forGo g f (ds.drop i) ρi = some o) ⟨G1, ρ1, Same.refl _, S1, e⟩ ?_ ?_ ?_
  · rintro i σ H hi ⟨Gi, ρi, q1, q2, _⟩
    exact q1.trans q2.sub
  · rintro i x σ2 H2 H' hi ⟨Gi, ρi, q1, q2, q3⟩ y
    have hd : ds[i]? = some ds[i] := List.getElem?_eq_getElem hi
    obtain ⟨Gj, gr, hx⟩ := y Gi q1 q2.sub _ hd
    have S2 := q2.grow gr.g gr.h gr.s gr.n
    rw [List.drop_eq_getElem_cons hi] at q3
    obtain ⟨ρ2, e3, q3⟩ := bnd q3
    obtain ⟨o4, e4, q3⟩ := bnd q3
    refine ⟨ioA, G0, H0, Gj, _, _, ρ2, S2, hx, e3, fun σ3 S3 k2 => ?_⟩
    refine ⟨ioA, G0, H0, Gj, ρ2, o4, S3, e4, ?_⟩
    cases o4 with
    | nx ρ3 => exact fun G3 σ3 H3 g3 S3 => ⟨G3, ρ3, (q1.trans gr.g).trans g3, S3, q3⟩
    | ct ρ3 => exact fun G3 σ3 H3 g3 S3 => ⟨G3, ρ3, (q1.trans gr.g).trans g3, S3, q3⟩
    | bk ρ3 => cases q3; exact fun G3 σ3 H3 g3 S3 => kk G3 σ3 H3 (g1.trans ((q1.trans gr.g).trans g3)) S3
    | rt v ρ3 => cases q3; exact fun G3 v σ3 H3 g3 S3 R3 => kk G3 v σ3 H3 (g1.trans ((q1.trans gr.g).trans g3)) S3 R3
  · rintro σ2 H2 ⟨Gi, ρi, q1, q2, q3⟩
    rw [List.drop_length] at q3
    cases q3
    exact kk Gi σ2 H2 (g1.trans q1) q2

/-! ### a def by its body -/
/-- the lent arguments, by their slots -/
def ioOf : List V → List Ar → Nat → Option Addr
  | .ref a :: _, .m _ :: _, 0 => some a
  | _ :: vs, _ :: as, i + 1 => ioOf vs as i
  | _, _, _ => none
theorem ioOf_get : ∀ {vs : List V} {as : List Ar} {i : Nat} {a : Addr}, ioOf vs as i = some a → ∃ d, vs[i]? = some (.ref a) ∧ as[i]? = some (.m d)
  | [], as, i, a, h => by cases as <;> cases i <;> cases h
  | v :: vs, [], i, a, h => by cases v <;> cases i <;> cases h
  | v :: vs, b :: as, 0, a, h => by
    cases v <;> cases b <;> cases h
    exact ⟨_, rfl, rfl⟩
  | v :: vs, b :: as, i + 1, a, h => by
    have h' : ioOf vs as i = some a := by cases v <;> cases b <;> exact h
    obtain ⟨d, h1, h2⟩ := ioOf_get h'
    exact ⟨d, h1, h2⟩
theorem get_ioOf : ∀ {vs : List V} {as : List Ar} {i : Nat} {a : Addr} {d : D}, vs[i]? = some (.ref a) → as[i]? = some (.m d) → ioOf vs as i = some a
  | [], _, i, _, _, h, _ => by simp at h
  | _ :: _, [], i, _, _, _, h => by simp at h
  | v :: vs, b :: as, 0, a, d, h, k => by
    simp at h k
    subst h k
    rfl
  | v :: vs, b :: as, i + 1, a, d, h, k => by
    have q := get_ioOf (vs := vs) (as := as) (i := i) (by simpa using h) (by simpa using k)
    cases v <;> cases b <;> exact q
theorem mem_mA : ∀ {vs : List V} {as : List Ar} {a : Addr}, a ∈ mA vs as ↔ ∃ i, ioOf vs as i = some a
  | [], as, a => ⟨fun h => (by cases as <;> cases h), fun ⟨i, h⟩ => (by cases as <;> cases i <;> cases h)⟩
  | v :: vs, [], a => ⟨fun h => (by cases v <;> cases h), fun ⟨i, h⟩ => (by cases v <;> cases i <;> cases h)⟩
  | v :: vs, b :: as, a => by
    have ih := mem_mA (vs := vs) (as := as) (a := a)
    have skip : (∀ i, ioOf (v :: vs) (b :: as) (i + 1) = ioOf vs as i) := fun i => by cases v <;> cases b <;> rfl
    by_cases hm : ∃ p d, v = .ref p ∧ b = .m d
    · obtain ⟨p, d, rfl, rfl⟩ := hm
      show a ∈ p :: mA vs as ↔ _
      rw [List.mem_cons, ih]
      constructor
      · rintro (rfl | ⟨i, h⟩)
        · exact ⟨0, rfl⟩
        · exact ⟨i + 1, h⟩
      · rintro ⟨i, h⟩
        cases i with
        | zero => cases h; exact .inl rfl
        | succ i => exact .inr ⟨i, h⟩
    · have e : mA (v :: vs) (b :: as) = mA vs as := by
        cases v <;> cases b <;> first | rfl | exact absurd ⟨_, _, rfl, rfl⟩ hm
      rw [e, ih]
      constructor
      · rintro ⟨i, h⟩
        exact ⟨i + 1, by rw [skip]; exact h⟩
      · rintro ⟨i, h⟩
        cases i with
        | zero =>
          exfalso
          cases v <;> cases b <;> first | (cases h; done) | exact absurd ⟨_, _, rfl, rfl⟩ hm
        | succ i => exact ⟨i, by rw [skip] at h; exact h⟩
theorem mA_uniq : ∀ {vs : List V} {as : List Ar} {i j : Nat} {a : Addr}, (mA vs as).Nodup → ioOf vs as i = some a → ioOf vs as j = some a → i = j
  | [], as, i, j, a, _, h, _ => by cases as <;> cases i <;> cases h
  | v :: vs, [], i, j, a, _, h, _ => by cases v <;> cases i <;> cases h
  | v :: vs, b :: as, i, j, a, nd, h, k => by
    have skip : (∀ i, ioOf (v :: vs) (b :: as) (i + 1) = ioOf vs as i) := fun i => by cases v <;> cases b <;> rfl
    have nd' : (mA vs as).Nodup := by
      cases v <;> cases b <;> first | exact nd | exact (List.nodup_cons.mp nd).2
    have hd : ∀ {n : Nat}, ioOf (v :: vs) (b :: as) 0 = some a → ioOf vs as n = some a → False := fun {n} h0 hn => by
      cases v <;> cases b <;> first | (cases h0; done) | skip
      cases h0
      exact (List.nodup_cons.mp nd).1 (mem_mA.mpr ⟨n, hn⟩)
    cases i with
    | zero =>
      cases j with
      | zero => rfl
      | succ j => rw [skip] at k; exact (hd h k).elim
    | succ i =>
      cases j with
      | zero => rw [skip] at h; exact (hd k h).elim
      | succ j =>
        rw [skip] at h k
        rw [mA_uniq nd' h k]
theorem paired_get {α β : Type} {F : α → β → Prop} : ∀ {as : List α} {bs : List β} {i : Nat} {b : β}, Paired F as bs → bs[i]? = some b → ∃ a, as[i]? = some a ∧ F a b
  | _, _, i, _, .nil, h => by simp at h
  | _, _, 0, _, .cons r t, h => by simp at h; subst h; exact ⟨_, rfl, r⟩
  | _, _, i + 1, _, .cons r t, h => by
    obtain ⟨a, h1, h2⟩ := paired_get (i := i) t (by simpa using h)
    exact ⟨a, by simpa using h1, h2⟩
theorem start_sg {N : List Str} {vs : List V} {ars : List Ar} (hl : ars.length ≤ N.length) (gH : Same G H) (ao : ArsOk K G H vs ars) (nd : (mA vs ars).Nodup) :
    Sg K (ioOf vs ars) G H G H (L2.start N vs) (ars.map arS ++ List.replicate (N.length - ars.length) .non) := by
  have hv : vs.length = ars.length := Paired.length ao
  have rhoAt : ∀ (i : Nat) s, (ars.map arS ++ List.replicate (N.length - ars.length) Sl.non)[i]? = some s → s = .non ∨ ∃ a, ars[i]? = some a ∧ s = arS a := fun i s e => by
    rw [List.getElem?_append] at e
    split at e
    · rw [List.getElem?_map] at e
      obtain ⟨a, h1, h2⟩ := Option.map_eq_some_iff.mp e
      exact .inr ⟨a, h1, h2.symm⟩
    · rw [List.getElem?_replicate] at e
      split at e <;> cases e
      exact .inl rfl
  have sigAt : ∀ (i : Nat) v, vs[i]? = some v → (L2.start N vs)[i]? = some (some v) := fun i v e => by
    unfold L2.start
    rw [List.getElem?_append_left (by rw [List.length_map]; exact (List.getElem?_eq_some_iff.mp e).1), List.getElem?_map, e]
    rfl
  have io : ∀ (i : Nat) d, (ars.map arS ++ List.replicate (N.length - ars.length) Sl.non)[i]? = some (.io d) → ∃ a, ioOf vs ars i = some a ∧ (L2.start N vs)[i]? = some (some (.ref a)) ∧ G a = none ∧ Own K G H a d := fun i d e => by
    rcases rhoAt i _ e with h | ⟨b, h1, h2⟩
    · cases h
    · cases b with
      | v d => cases h2
      | m d' =>
        cases h2
        obtain ⟨v, q1, a, rfl, q2, q3⟩ := paired_get ao h1
        exact ⟨a, get_ioOf q1 h1, sigAt i _ q1, q2, q3⟩
  refine ⟨?_, gH, Same.refl _, fun b o e => .inl ⟨o, e⟩, fun b o e _ => e, fun i b e => ?_, fun i d e => ?_, fun i d e => ?_, fun i d e => ?_, fun i j a h1 h2 h3 h4 => ?_, fun i d e => by
    rcases rhoAt i _ e with h | ⟨b, h1, h2⟩
    · cases h
    · cases b <;> cases h2⟩
  · unfold L2.start
    simp [hv]
  · obtain ⟨d, h1, h2⟩ := ioOf_get e
    obtain ⟨v, q1, a, rfl, q2, q3⟩ := paired_get ao h2
    have e2 := h1.symm.trans q1
    cases e2
    exact ⟨q3.nt, q2, q3.nt⟩
  · rcases rhoAt i _ e with h | ⟨b, h1, h2⟩
    · cases h
    · cases b with
      | m d => cases h2
      | v d' =>
        cases h2
        obtain ⟨v, q1, q2⟩ := paired_get ao h1
        exact ⟨v, sigAt i _ q1, q2⟩
  · rcases rhoAt i _ e with h | ⟨b, h1, h2⟩
    · cases h
    · cases b <;> cases h2
  · obtain ⟨a, h1, h2, h3, h4⟩ := io i d e
    exact ⟨a, h1, h2, h4⟩
  · have kk : ∀ (i : Nat), mtb (ars.map arS ++ List.replicate (N.length - ars.length) Sl.non)[i]? = true → (L2.start N vs)[i]? = some (some (.ref a)) → ioOf vs ars i = some a := fun i h h' => by
      cases z : (ars.map arS ++ List.replicate (N.length - ars.length) Sl.non)[i]? with
      | none => rw [z] at h; cases h
      | some s =>
        cases s with
        | io d =>
          obtain ⟨b, q1, q2, _⟩ := io i d z
          have e := h'.symm.trans q2
          cases e
          exact q1
        | own d =>
          rcases rhoAt i _ z with h | ⟨b, h1, h2⟩
          · cases h
          · cases b <;> cases h2
        | _ => rw [z] at h; cases h
    exact mA_uniq nd (kk i h1 h3) (kk j h2 h4)
/-- what the lent ones hold at the end -/
theorem outs_ok : ∀ {ars : List Ar} {vs : List V} {ρ : Rho} {outs : List D}, vs.length = ars.length → (∀ (i : Nat) d, ρ[i]? = some (.io d) → ∃ a, ioOf vs ars i = some a ∧ Own K G H a d) → outsOf ars ρ = some outs →
    Paired (fun a d => Own K G H a d) (mA vs ars) outs
  | [], [], _, _, _, _, e => by cases e; exact .nil
  | [], _ :: _, _, _, h, _, _ => by cases h
  | _ :: _, [], _, _, h, _, _ => by cases h
  | b :: ars, v :: vs, [], outs, hl, h, e => by cases b <;> cases e
  | b :: ars, v :: vs, s :: ρ, outs, hl, h, e => by
    have h' : ∀ (i : Nat) d, ρ[i]? = some (.io d) → ∃ a, ioOf vs ars i = some a ∧ Own K G H a d := fun i d z => by
      obtain ⟨a, q1, q2⟩ := h (i + 1) d (by simpa using z)
      exact ⟨a, by cases v <;> cases b <;> exact q1, q2⟩
    have hl' : vs.length = ars.length := by simpa using hl
    cases b with
    | v d =>
      have e1 : mA (v :: vs) (.v d :: ars) = mA vs ars := by cases v <;> rfl
      rw [e1]
      exact outs_ok hl' h' e
    | m d =>
      cases s with
      | io d' =>
        obtain ⟨ds, e1, e2⟩ := bnd e
        cases e2
        obtain ⟨a, q1, q2⟩ := h 0 d' rfl
        cases v with
        | ref p =>
          cases q1
          exact .cons q2 (outs_ok hl' h' e1)
        | _ => cases q1
      | _ => cases e
theorem def_ok {N : List Str} {n : Nat} {f : FS} {vs : List V} {Q : VK} {E : XK} (hn : n ≤ N.length) (q : spM K n (runDef n N.length f) vs H Q E) : tDS K f { nx := fun _ H' => Q .non H', rt := Q } (L2.start N vs) H := by
  obtain ⟨hl, G, ars, r, outs, gH, ao, nd, e, k⟩ := q
  unfold runDef at e
  have hv : vs.length = ars.length := Paired.length ao
  have ha : ars.length = n := hv.symm.trans hl
  rw [if_pos ha] at e
  obtain ⟨o, e1, e⟩ := bnd e
  have S := start_sg (N := N) (by omega) gH ao nd
  rw [ha] at S
  refine ⟨_, _, _, _, _, o, S, e1, ?_⟩
  have fin : ∀ {ρ' : Rho} {outs : List D}, outsOf ars ρ' = some outs → ∀ {G' : Hp} {σ' : L2.St} {H' : Hp}, Same G G' → Sg K (ioOf vs ars) G H G' H' σ' ρ' → ∀ {v : V} {r : Vl}, RepN K H G' H' v r →
      (∀ G' v H', Same G G' → Same G' H' → (∀ b o, G' b = some o → (∃ o', G b = some o') ∨ Lax H b) → (∀ b o, H b = some o → b ∉ mA vs ars → H' b = some o) → (∀ a ∈ mA vs ars, G' a = none) →
        Paired (fun a d => Own K G' H' a d) (mA vs ars) outs → RepN K H G' H' v r → Q v H') → Q v H' := fun {ρ' outs} e {G' σ' H'} g S' {v r} R k => by
    refine k G' v H' g S'.sub S'.new (fun b o e hb => S'.fr b o e fun i z => hb (mem_mA.mpr ⟨i, z⟩)) (fun a ha => ?_) (outs_ok hv (fun i d z => ?_) e) R
    · obtain ⟨i, hi⟩ := mem_mA.mp ha
      exact (S'.ioh i a hi).2.1
    · obtain ⟨a, q1, q2, q3⟩ := S'.io i d z
      exact ⟨a, q1, q3⟩
  cases o with
  | nx ρ' =>
    obtain ⟨ds, e2, e⟩ := bnd e
    cases e
    exact fun G' σ' H' g S' => fin e2 g S' (r := .pu .none) Dp.non k
  | rt v ρ' =>
    obtain ⟨v', e2, e⟩ := bnd e
    obtain ⟨ds, e3, e⟩ := bnd e
    cases e
    refine fun G' w σ' H' g S' R => fin e3 g S' ?_ k
    cases v with
    | pu d =>
      have e5 : some (Vl.pu d) = some r := e2
      cases e5
      exact R
    | nw d =>
      have e5 : some (Vl.nw d) = some r := e2
      cases e5
      obtain ⟨a, q0, q1, q2, q3, _⟩ := R
      exact ⟨a, q0, q2, q1, q3⟩
    | sl i =>
      have e6 : (match ρ'[i]? with
        | some (.own (.list ds)) => some (Vl.nw (.list ds))
        | _ => none) = some r := e2
      split at e6
      · rename_i d z
        cases e6
        obtain ⟨a, q1, q2, q3, q4⟩ := S'.own i _ z
        have e5 := R.2.symm.trans q1
        cases e5
        exact ⟨a, rfl, q3, q2, q4⟩
      · cases e6
  | bk ρ' => cases e
  | ct ρ' => cases e
end
section
variable {P : Program} {w : World} {K : PySem.W.Frag} {mg : Str → Option Value} {base : Heap} {x qual : Str} {params : Arguments} {body : List Stmt} {scope : Scope} {dvs : List V} {kws : List (Str × V)} {fa : Addr} {fd : FuncData}
theorem fn_ok {N ps : List Str} {k : Nat} {f : FS} (F : FunD K x qual params body scope dvs kws fa fd) (S : FnScope N ps scope) (hn : ps.length ≤ N.length)
    (hbody : ∀ (cdv : Value) (A : Around) (outer : List Env) (s : Shared) (H : Hp) (E : XK), Room k (A.deeper (envOfC qual scope s.heap.objs.size fa cdv)) → PDSs (cxOf CX0 P w K mg base N qual scope fa cdv A outer s H E) body f) :
    FnOk P w K mg base CX0 (k + 1) fa fd ps (spM K ps.length (runDef ps.length N.length f)) :=
  F.ok S (fun vs H Q E h => h.1) fun cdv A outer s H vs Q E hr h => ⟨tDS K f, hbody cdv A outer s H E hr, def_ok hn h⟩
end
end PL

/-! PL: the pure layer, 10: operators and built-ins on data. -/
namespace PL
open PySem PySem.Spec PyProof.Rows L2
section
variable {X : Cx} {K : PySem.W.Frag} {G G' H H' : Hp} {v : V} {d : D}

theorem opr_of {f : Value → Value → Sem Value} {R' : R2} (h : ∀ x y H Q, R' x y H Q → ∃ R, OpR X f R ∧ R x y H Q) : OpR X f R' := fun pins s σ H x y v u Q I rx ry q => by
  obtain ⟨R, hR, hq⟩ := h x y H Q q
  exact hR pins s σ H x y v u Q I rx ry hq
theorem callr_of {f : Value} {R' : List V → Hp → VK → Prop} (h : ∀ x H Q, R' x H Q → ∃ R, CallR X f R ∧ R x H Q) : CallR X f R' := fun pins s σ H x us Q I rx q => by
  obtain ⟨R, hR, hq⟩ := h x H Q q
  exact hR pins s σ H x us Q I rx hq
theorem ixr_of {R' : R2} (h : ∀ x y H Q, R' x y H Q → ∃ R, IxR X R ∧ R x y H Q) : IxR X R' := fun e1 e2 pins s σ H x y v u Q I rx ry q => by
  obtain ⟨R, hR, hq⟩ := h x y H Q q
  exact hR e1 e2 pins s σ H x y v u Q I rx ry hq
theorem slr_of {R' : V → Option Int → Option Int → Hp → VK → Prop} (h : ∀ x lo hi H Q, R' x lo hi H Q → ∃ R, SlR X R ∧ R x lo hi H Q) : SlR X R' := fun pins s σ H x v vl vu lo hi sl Q I rx hs pl pu q => by
  obtain ⟨R, hR, hq⟩ := h x lo hi H Q q
  exact hR pins s σ H x v vl vu lo hi sl Q I rx hs pl pu hq
theorem mtr_of {id : String} {R' : V → List V → Hp → VK → Prop} (h : ∀ x xs H Q, R' x xs H Q → ∃ R, MtR X id R ∧ R x xs H Q) : MtR X id R' := fun pins s σ H x xs v us Q I rx rs q => by
  obtain ⟨R, hR, hq⟩ := h x xs H Q q
  exact hR pins s σ H x xs v us Q I rx rs hq
theorem unr_of {f : Value → Sem Value} {R' : V → Hp → VK → Prop} (h : ∀ x H Q, R' x H Q → ∃ R, UnR X f R ∧ R x H Q) : UnR X f R' := fun pins s σ H x v Q I rx q => by
  obtain ⟨R, hR, hq⟩ := h x H Q q
  exact hR pins s σ H x v Q I rx hq

/-! ### data in a heap, read off -/
theorem dp_int {i : Int} (h : Dp K H v (.int i)) : v = .int i := by cases h; rfl
theorem dp_bool {i : Bool} (h : Dp K H v (.bool i)) : v = .bl i := by cases h; rfl
theorem dp_str {i : Str} (h : Dp K H v (.str i)) : v = .str i := by cases h; rfl
theorem dp_none (h : Dp K H v .none) : v = .non := by cases h; rfl
theorem dp_list {ds : List D} (h : Dp K H v (.list ds)) : ∃ a xs, v = .ref a ∧ SqL K H a xs ∧ DpAll K H xs ds := by
  cases h with
  | lst h1 h2 => exact ⟨_, _, rfl, h1, h2⟩
theorem dp_tuple {ds : List D} (h : Dp K H v (.tuple ds)) : ∃ a xs, v = .ref a ∧ SqT K H a xs ∧ DpAll K H xs ds := by
  cases h with
  | tup h1 h2 => exact ⟨_, _, rfl, .of h1, h2⟩
/-- the object of a tuple stands in H -/
theorem dp_tupleT {ds : List D} (h : Dp K H v (.tuple ds)) : ∃ a xs, v = .ref a ∧ H a = some (.tup xs) ∧ DpAll K H xs ds := by
  cases h with
  | tup h1 h2 => exact ⟨_, _, rfl, h1, h2⟩
mutual
theorem dp_plain : ∀ (d : D) (v : V), Dp K H v d → d.plain = true
  | .none, _, _ => rfl
  | .bool _, _, _ => rfl
  | .int _, _, _ => rfl
  | .str _, _, _ => rfl
  | .list ds, _, h => by
    obtain ⟨a, xs, _, _, h2⟩ := dp_list h
    exact dps_plain ds xs h2
  | .tuple ds, _, h => by
    obtain ⟨a, xs, _, _, h2⟩ := dp_tuple h
    exact dps_plain ds xs h2
  | .dict _, _, h => by cases h
theorem dps_plain : ∀ (ds : List D) (vs : List V), DpAll K H vs ds → PyData.plainAll ds = true
  | [], _, _ => rfl
  | d :: ds, _, h => by
    cases h with
    | cons h1 h2 =>
      show (d.plain && PyData.plainAll ds) = true
      rw [dp_plain d _ h1, dps_plain ds _ h2]
      rfl
end
theorem dps_ints : ∀ {ns : List Int} {xs : List V}, DpAll K H xs (ns.map .int) → xs = ns.map V.int
  | [], _, h => by cases h; rfl
  | n :: ns, _, h => by
    cases (show DpAll K H _ (.int n :: ns.map .int) from h) with
    | cons h1 h2 => rw [dp_int h1, dps_ints h2]; rfl
theorem ints_dps : ∀ {ns : List Int}, DpAll K H (ns.map V.int) (ns.map .int)
  | [] => .nil
  | n :: ns => .cons (.int n) ints_dps
theorem dps_bools : ∀ {ns : List Bool} {xs : List V}, DpAll K H xs (ns.map .bool) → xs = ns.map V.bl
  | [], _, h => by cases h; rfl
  | n :: ns, _, h => by
    cases (show DpAll K H _ (.bool n :: ns.map .bool) from h) with
    | cons h1 h2 => rw [dp_bool h1, dps_bools h2]; rfl
theorem dps_strs : ∀ {ns : List Str} {xs : List V}, DpAll K H xs (ns.map .str) → xs = ns.map V.str
  | [], _, h => by cases h; rfl
  | n :: ns, _, h => by
    cases (show DpAll K H _ (.str n :: ns.map .str) from h) with
    | cons h1 h2 => rw [dp_str h1, dps_strs h2]; rfl
/-- all ints -/
def intsOf : List D → Option (List Int)
  | [] => some []
  | .int i :: ds => (intsOf ds).bind fun ns => some (i :: ns)
  | _ => none
theorem intsOf_eq : ∀ {ds : List D} {ns : List Int}, intsOf ds = some ns → ds = ns.map .int
  | [], _, h => by cases h; rfl
  | d :: ds, ns, h => by
    cases d with
    | int i =>
      obtain ⟨ms, h1, h2⟩ := bnd h
      cases h2
      rw [intsOf_eq h1]; rfl
    | _ => cases h
theorem intsOf_map : ∀ (ns : List Int), intsOf (ns.map .int) = some ns
  | [] => rfl
  | n :: ns => by
    show (intsOf (ns.map .int)).bind _ = _
    rw [intsOf_map ns]; rfl
def boolsOf : List D → Option (List Bool)
  | [] => some []
  | .bool i :: ds => (boolsOf ds).bind fun ns => some (i :: ns)
  | _ => none
theorem boolsOf_eq : ∀ {ds : List D} {ns : List Bool}, boolsOf ds = some ns → ds = ns.map .bool
  | [], _, h => by cases h; rfl
  | d :: ds, ns, h => by
    cases d with
    | bool i =>
      obtain ⟨ms, h1, h2⟩ := bnd h
      cases h2
      rw [boolsOf_eq h1]; rfl
    | _ => cases h
theorem boolsOf_map : ∀ (ns : List Bool), boolsOf (ns.map .bool) = some ns
  | [] => rfl
  | n :: ns => by
    show (boolsOf (ns.map .bool)).bind _ = _
    rw [boolsOf_map ns]; rfl
def strsOf : List D → Option (List Str)
  | [] => some []
  | .str i :: ds => (strsOf ds).bind fun ns => some (i :: ns)
  | _ => none
theorem strsOf_eq : ∀ {ds : List D} {ns : List Str}, strsOf ds = some ns → ds = ns.map .str
  | [], _, h => by cases h; rfl
  | d :: ds, ns, h => by
    cases d with
    | str i =>
      obtain ⟨ms, h1, h2⟩ := bnd h
      cases h2
      rw [strsOf_eq h1]; rfl
    | _ => cases h
theorem strsOf_map : ∀ (ns : List Str), strsOf (ns.map .str) = some ns
  | [] => rfl
  | n :: ns => by
    show (strsOf (ns.map .str)).bind _ = _
    rw [strsOf_map ns]; rfl

/-! ### answers -/
theorem fin_int {Q : VK} {i : Int} (s : Same G H) (k : ∀ G' v H', Grow G H G' H' → RepN K H G' H' v (.pu (.int i)) → Q v H') : Q (.int i) H := k G _ H (Grow.refl s) (Dp.int i)
theorem fin_bool {Q : VK} {i : Bool} (s : Same G H) (k : ∀ G' v H', Grow G H G' H' → RepN K H G' H' v (.pu (.bool i)) → Q v H') : Q (.bl i) H := k G _ H (Grow.refl s) (Dp.bl i)
theorem fin_str {Q : VK} {i : Str} (s : Same G H) (k : ∀ G' v H', Grow G H G' H' → RepN K H G' H' v (.pu (.str i)) → Q v H') : Q (.str i) H := k G _ H (Grow.refl s) (Dp.str i)
theorem fin_list {Q : VK} {xs : List V} {ds : List D} (s : Same G H) (hd : DpAll K G xs ds) (k : ∀ G' v H', Grow G H G' H' → RepN K H G' H' v (.nw (.list ds)) → Q v H') : ∀ p, H p = none → Q (.ref p) (upd H p (.lst xs)) := fun p hp =>
  k _ _ _ (grow_nw s hp) (repN_lst s hp hd)
theorem fin_tup {Q : VK} {xs : List V} {ds : List D} (s : Same G H) (hd : DpAll K G xs ds) (k : ∀ G' v H', Grow G H G' H' → RepN K H G' H' v (.pu (.tuple ds)) → Q v H') : ∀ p, H p = none → Q (.ref p) (upd H p (.tup xs)) := fun p hp =>
  k _ _ _ (grow_new s hp) (dp_tup s hp hd)
theorem fin_same {Q : VK} (s : Same G H) (hd : Dp K G v d) (k : ∀ G' v H', Grow G H G' H' → RepN K H G' H' v (.pu d) → Q v H') : Q v H := k G v H (Grow.refl s) hd
theorem top_list {ds : List D} (h : Top K G H v (.list ds)) (s : Same G H) : ∃ a xs, v = .ref a ∧ SqL K H a xs ∧ DpAll K G xs ds := by
  rcases h with h | ⟨a, rfl, _, xs, h1, h2⟩
  · obtain ⟨a, xs, h1, h2, h3⟩ := dp_list h
    exact ⟨a, xs, h1, s.seq h2, h3⟩
  · exact ⟨a, xs, rfl, .inl (.inl h1), h2⟩
theorem top_tuple {ds : List D} (h : Top K G H v (.tuple ds)) (s : Same G H) : ∃ a xs, v = .ref a ∧ SqT K H a xs ∧ DpAll K G xs ds ∧ Dp K G v (.tuple ds) := by
  rcases h with h | ⟨a, rfl, _, h⟩
  · obtain ⟨a, xs, h1, h2, h3⟩ := dp_tuple h
    exact ⟨a, xs, h1, seqT s h2, h3, h⟩
  · exact h.elim
theorem top_int {i : Int} (h : Top K G H v (.int i)) : v = .int i := by
  rcases h with h | ⟨a, rfl, _, h⟩
  · exact dp_int h
  · exact h.elim
theorem top_bool {i : Bool} (h : Top K G H v (.bool i)) : v = .bl i := by
  rcases h with h | ⟨a, rfl, _, h⟩
  · exact dp_bool h
  · exact h.elim
theorem top_str {i : Str} (h : Top K G H v (.str i)) : v = .str i := by
  rcases h with h | ⟨a, rfl, _, h⟩
  · exact dp_str h
  · exact h.elim
theorem top_none (h : Top K G H v .none) : v = .non := by
  rcases h with h | ⟨a, rfl, _, h⟩
  · exact dp_none h
  · exact h.elim

/-! ### ints -/
def onInts (f : Int → Int → Option D) : D → D → Option D
  | .int i, .int j => f i j
  | _, _ => none
theorem onInts_eq {f : Int → Int → Option D} {a b r : D} (h : onInts f a b = some r) : ∃ i j, a = .int i ∧ b = .int j ∧ f i j = some r := by
  cases a with
  | int i =>
    cases b with
    | int j => exact ⟨i, j, rfl, rfl, h⟩
    | _ => cases h
  | _ => cases h
def opSub : D → D → Option D := onInts fun i j => some (.int (i - j))
theorem so_sub : OpR X (binaryOp .Sub) (rN X.K .pu opSub) := opr_of fun x y H Q q => by
  obtain ⟨G, d, e, r, s, hx, hy, o, k⟩ := q
  obtain ⟨i, j, rfl, rfl, o⟩ := onInts_eq o
  cases o
  exact ⟨_, op_sub, i, j, top_int hx, top_int hy, fin_int s k⟩
def opFdiv : D → D → Option D := onInts fun i j => if 0 < j ∧ j < 1073741824 then some (.int (i / j)) else none
theorem so_fdiv : OpR X (binaryOp .FloorDiv) (rN X.K .pu opFdiv) := opr_of fun x y H Q q => by
  obtain ⟨G, d, e, r, s, hx, hy, o, k⟩ := q
  obtain ⟨i, j, rfl, rfl, o2⟩ := onInts_eq o
  by_cases hc : 0 < j ∧ j < 1073741824
  · rw [if_pos hc] at o2
    cases o2
    exact ⟨_, op_fdiv, i, j, top_int hx, top_int hy, hc, fin_int s k⟩
  · rw [if_neg hc] at o2; cases o2
def opMod : D → D → Option D := onInts fun i j => if 0 < j then some (.int (i % j)) else none
theorem so_mod : OpR X (binaryOp .Mod) (rN X.K .pu opMod) := opr_of fun x y H Q q => by
  obtain ⟨G, d, e, r, s, hx, hy, o, k⟩ := q
  obtain ⟨i, j, rfl, rfl, o2⟩ := onInts_eq o
  by_cases hc : 0 < j
  · rw [if_pos hc] at o2
    cases o2
    exact ⟨_, op_mod, i, j, top_int hx, top_int hy, hc, fin_int s k⟩
  · rw [if_neg hc] at o2; cases o2
def opPow : D → D → Option D := onInts fun i j => if 0 ≤ j ∧ j ≤ 1000000 ∧ i.natAbs < 2 ^ 64 then some (.int (i ^ j.toNat)) else none
theorem so_pow : OpR X (binaryOp .Pow) (rN X.K .pu opPow) := opr_of fun x y H Q q => by
  obtain ⟨G, d, e, r, s, hx, hy, o, k⟩ := q
  obtain ⟨i, j, rfl, rfl, o2⟩ := onInts_eq o
  by_cases hc : 0 ≤ j ∧ j ≤ 1000000 ∧ i.natAbs < 2 ^ 64
  · rw [if_pos hc] at o2
    cases o2
    exact ⟨_, op_pow, i, j, top_int hx, top_int hy, hc, fin_int s k⟩
  · rw [if_neg hc] at o2; cases o2
def opLt : D → D → Option D := onInts fun i j => some (.bool (decide (i < j)))
def opLe : D → D → Option D := onInts fun i j => some (.bool (decide (i ≤ j)))
def opGt : D → D → Option D := onInts fun i j => some (.bool (decide (j < i)))
def opGe : D → D → Option D := onInts fun i j => some (.bool (decide (j ≤ i)))
theorem so_lt : OpR X (compareOp .Lt) (rN X.K .pu opLt) := opr_of fun x y H Q q => by
  obtain ⟨G, d, e, r, s, hx, hy, o, k⟩ := q
  obtain ⟨i, j, rfl, rfl, o⟩ := onInts_eq o
  cases o
  exact ⟨_, op_lt, i, j, top_int hx, top_int hy, fin_bool s k⟩
theorem so_le : OpR X (compareOp .LtE) (rN X.K .pu opLe) := opr_of fun x y H Q q => by
  obtain ⟨G, d, e, r, s, hx, hy, o, k⟩ := q
  obtain ⟨i, j, rfl, rfl, o⟩ := onInts_eq o
  cases o
  exact ⟨_, op_le, i, j, top_int hx, top_int hy, fin_bool s k⟩
theorem so_gt : OpR X (compareOp .Gt) (rN X.K .pu opGt) := opr_of fun x y H Q q => by
  obtain ⟨G, d, e, r, s, hx, hy, o, k⟩ := q
  obtain ⟨i, j, rfl, rfl, o⟩ := onInts_eq o
  cases o
  exact ⟨_, op_gt, i, j, top_int hx, top_int hy, fin_bool s k⟩
theorem so_ge : OpR X (compareOp .GtE) (rN X.K .pu opGe) := opr_of fun x y H Q q => by
  obtain ⟨G, d, e, r, s, hx, hy, o, k⟩ := q
  obtain ⟨i, j, rfl, rfl, o⟩ := onInts_eq o
  cases o
  exact ⟨_, op_ge, i, j, top_int hx, top_int hy, fin_bool s k⟩
def opNeg : D → Option D
  | .int i => some (.int (-i))
  | _ => none
/-- one-place operators: ints -/
theorem pd_neg {a : Expr} {f : FE} {pos : Pos} (ha : PD X a f) : PD X (.UnaryOp .USub a pos) (cOp opNeg f) := by
  refine ⟨pe_w (pe_un un_neg ha.pe) fun σ H Q q => ?_, fun ρ r ρ' q => ?_⟩
  · obtain ⟨ioA, G0, H0, G, ρ, r, ρ', S, e, k⟩ := q
    obtain ⟨⟨r1, ρ1⟩, e1, e⟩ := bnd e
    obtain ⟨x, ex, e⟩ := bnd e
    obtain ⟨z, ez, e⟩ := bnd e
    cases e
    refine ⟨ioA, G0, H0, G, ρ, r1, ρ1, S, e1, fun G1 v1 H1 g1 S1 R1 => ?_⟩
    cases x with
    | int i =>
      cases ez
      have hv : v1 = .int i := by
        cases r1 with
        | pu d => cases ex; exact dp_int R1
        | nw d =>
          cases ex
          obtain ⟨_, _, _, _, h, _⟩ := R1
          exact h.elim
        | sl j =>
          obtain ⟨ds, e5, _⟩ := cont_sl (show cont ρ1 (.sl j) = some (.int i) from ex)
          cases e5
      exact ⟨i, hv, k G1 _ H1 g1 S1 (Dp.int _)⟩
    | _ => cases ez
  · obtain ⟨⟨r1, ρ1⟩, e1, e⟩ := bnd q
    obtain ⟨x, ex, e⟩ := bnd e
    obtain ⟨z, ez, e⟩ := bnd e
    cases e
    exact ha.kin _ _ _ e1

/-! ### + and * -/
def rCatL (K : PySem.W.Frag) : R2 := fun x y H Q => ∃ l b xs zs, x = .ref l ∧ y = .ref b ∧ SqL K H l xs ∧ SqL K H b zs ∧ xs.length + zs.length ≤ sizeLine ∧ ∀ p, H p = none → Q (.ref p) (upd H p (.lst (xs ++ zs)))
theorem op_catL : OpR X (binaryOp .Add) (rCatL X.K) := by
  intro pins s σ H x y v u Q I rx ry h
  obtain ⟨l, b, xs, zs, rfl, rfl, hH, hB, hz, q⟩ := h
  cases rx
  cases ry
  obtain ⟨its, r, ⟨⟨cls, dd, data, sl⟩, n, ho, hc, _, hd⟩, z⟩ := I.list hH
  obtain ⟨its2, r2, ⟨⟨cls2, dd2, data2, sl2⟩, n2, ho2, hc2, _, hd2⟩, z2⟩ := I.list hB
  simp only at hc hd hc2 hd2
  subst hc hd hc2 hd2
  have h1 := r.length
  have h2 := r2.length
  refine concat_meets ⟨_, ho, rfl⟩ ⟨_, ho2, rfl⟩ noFill_list_add seq_list_add PySem.F.slot_list_add PySem.F.entry_list_add (PySem.F.args_list_add_2 _ _) (list_addW l b its.toArray its2.toArray n n2 dd dd2 sl sl2 (by rw [List.size_toArray, List.size_toArray]; omega)) ⟨ho, ho2, ?_⟩
  have ea : its.toArray ++ its2.toArray = (its ++ its2).toArray := by simp
  rw [ea]
  exact ⟨.ref _, _, I.lnew (t' := s.toks) (r.append r2) (by rw [List.length_append]; omega), rfl, q _ I.fresh⟩
def opAdd : D → D → Option D
  | .int i, .int j => some (.int (i + j))
  | .str x, .str y => if x.length + y.length ≤ lineN then some (.str (x ++ y)) else none
  | .list xs, .list ys => if xs.length + ys.length ≤ lineN then some (.list (xs ++ ys)) else none
  | .tuple xs, .tuple ys => if xs.length + ys.length ≤ lineN then some (.tuple (xs ++ ys)) else none
  | _, _ => none
theorem so_add : OpR X (binaryOp .Add) (rN X.K mk opAdd) := opr_of fun x y H Q q => by
  obtain ⟨G, d, e, r, s, hx, hy, o, k⟩ := q
  unfold opAdd at o
  split at o
  · cases o
    exact ⟨_, op_add, _, _, top_int hx, top_int hy, fin_int s k⟩
  · split at o <;> cases o
    rename_i hz
    exact ⟨_, op_add_str, _, _, top_str hx, top_str hy, by rw [← lineN_eq]; exact hz, fin_str s k⟩
  · split at o <;> cases o
    rename_i hz
    obtain ⟨a, us, e1, h1, h2⟩ := top_list hx s
    obtain ⟨b, vs, e2, h3, h4⟩ := top_list hy s
    exact ⟨_, op_catL, a, b, us, vs, e1, e2, h1, h3, by rw [dps_len h2, dps_len h4, ← lineN_eq]; exact hz, fin_list s (dps_app h2 h4) k⟩
  · rename_i ds es
    split at o <;> cases o
    rename_i hz
    obtain ⟨a, us, e1, h1, h2, h5⟩ := top_tuple hx s
    obtain ⟨b, vs, e2, h3, h4, h6⟩ := top_tuple hy s
    refine ⟨_, op_catA, a, b, us, vs, e1, e2, h1, h3, by rw [dps_len h2, dps_len h4, ← lineN_eq]; exact hz, fun z => ?_, fun z z2 => ?_, fun _ _ => fin_tup s (dps_app h2 h4) k⟩
    · subst z
      cases h2
      subst e2
      exact fin_same s h6 k
    · subst z2
      cases h4
      subst e1
      rw [List.append_nil] at k
      exact fin_same s h5 k
  · cases o

/-! ### == and in -/
def opEq : D → D → Option D := fun a b => if min a.depth b.depth ≤ 64 then some (.bool (PyData.eqv a b)) else none
def opNe : D → D → Option D := fun a b => if min a.depth b.depth ≤ 64 then some (.bool (!PyData.eqv a b)) else none
def rEqP (K : PySem.W.Frag) : R2 := fun x y H Q => ∃ d e, Dp K H x d ∧ Dp K H y e ∧ min d.depth e.depth ≤ 64 ∧ Q (.bl (PyData.eqv d e)) H
def rNeP (K : PySem.W.Frag) : R2 := fun x y H Q => ∃ d e, Dp K H x d ∧ Dp K H y e ∧ min d.depth e.depth ≤ 64 ∧ Q (.bl (!PyData.eqv d e)) H
theorem op_eqP (hu : X.A.units + 65 < cLine) : OpR X (compareOp .Eq) (rEqP X.K) := by
  intro pins s σ H x y v u Q I rx ry h
  obtain ⟨d, e, hd, he, sd, q⟩ := h
  obtain ⟨as, r1⟩ := Dp.reads I d x v hd rx
  obtain ⟨bs, r2⟩ := Dp.reads I e y u he ry
  exact SeqAt.eq_plain r1 r2 (dp_plain d x hd) (dp_plain e y he) (by omega) ⟨.bl _, H, I, rfl, q⟩
theorem op_neP (hu : X.A.units + 65 < cLine) : OpR X (compareOp .NotEq) (rNeP X.K) := by
  intro pins s σ H x y v u Q I rx ry h
  obtain ⟨d, e, hd, he, sd, q⟩ := h
  obtain ⟨as, r1⟩ := Dp.reads I d x v hd rx
  obtain ⟨bs, r2⟩ := Dp.reads I e y u he ry
  exact SeqAt.ne_plain r1 r2 (dp_plain d x hd) (dp_plain e y he) (by omega) ⟨.bl _, H, I, rfl, q⟩
theorem so_eq (hu : X.A.units + 65 < cLine) : OpR X (compareOp .Eq) (rN X.K .pu opEq) := opr_of fun x y H Q q => by
  obtain ⟨G, d, e, r, s, hx, hy, o, k⟩ := q
  unfold opEq at o
  split at o <;> cases o
  rename_i hz
  exact ⟨_, op_eqP hu, d, e, hx.dp s, hy.dp s, hz, fin_bool s k⟩
theorem so_ne (hu : X.A.units + 65 < cLine) : OpR X (compareOp .NotEq) (rN X.K .pu opNe) := opr_of fun x y H Q q => by
  obtain ⟨G, d, e, r, s, hx, hy, o, k⟩ := q
  unfold opNe at o
  split at o <;> cases o
  rename_i hz
  exact ⟨_, op_neP hu, d, e, hx.dp s, hy.dp s, hz, fin_bool s k⟩
def opIn0 (neg : Bool) : D → D → Option D
  | .str ⟨x⟩, .str y => match x.toList with
    | [c] => some (.bool (neg ^^ decide (c ∈ y.cps.toList)))
    | _ => none
  | d, .list ds => if min (PyData.depthAll ds) d.depth ≤ 64 then some (.bool (neg ^^ ds.any fun z => PyData.eqv z d)) else none
  | d, .tuple ds => if min (PyData.depthAll ds) d.depth ≤ 64 then some (.bool (neg ^^ ds.any fun z => PyData.eqv z d)) else none
  | _, _ => none
def opIn := opIn0 false
def opNotIn := opIn0 true
def rInP (K : PySem.W.Frag) (neg : Bool) : R2 := fun x y H Q => ∃ d ds, Dp K H x d ∧ (Dp K H y (.list ds) ∨ Dp K H y (.tuple ds)) ∧ min (PyData.depthAll ds) d.depth ≤ 64 ∧ Q (.bl (neg ^^ ds.any fun z => PyData.eqv z d)) H
theorem op_inP (hu : X.A.units + 65 < cLine) : OpR X (compareOp .In) (rInP X.K false) := by
  intro pins s σ H x y v u Q I rx ry h
  obtain ⟨d, ds, hd, he, sd, q⟩ := h
  rw [Bool.false_xor] at q
  obtain ⟨as, r1⟩ := Dp.reads I d x v hd rx
  rcases he with he | he
  · obtain ⟨bs, r2⟩ := Dp.reads I _ y u he ry
    exact SeqAt.in_list_data r2 r1 (dp_plain (.list ds) y he) (dp_plain d x hd) (by omega) ⟨.bl _, H, I, rfl, q⟩
  · obtain ⟨bs, r2⟩ := Dp.reads I _ y u he ry
    exact SeqAt.in_tuple_data r2 r1 (dp_plain (.tuple ds) y he) (dp_plain d x hd) (by omega) ⟨.bl _, H, I, rfl, q⟩
theorem op_notInP (hu : X.A.units + 65 < cLine) : OpR X (compareOp .NotIn) (rInP X.K true) := by
  intro pins s σ H x y v u Q I rx ry h
  obtain ⟨d, ds, hd, he, sd, q⟩ := h
  rw [Bool.true_xor] at q
  obtain ⟨as, r1⟩ := Dp.reads I d x v hd rx
  rcases he with he | he
  · obtain ⟨bs, r2⟩ := Dp.reads I _ y u he ry
    exact SeqAt.notIn_list_data r2 r1 (dp_plain (.list ds) y he) (dp_plain d x hd) (by omega) ⟨.bl _, H, I, rfl, q⟩
  · obtain ⟨bs, r2⟩ := Dp.reads I _ y u he ry
    exact SeqAt.notIn_tuple_data r2 r1 (dp_plain (.tuple ds) y he) (dp_plain d x hd) (by omega) ⟨.bl _, H, I, rfl, q⟩
theorem opIn_cases {neg : Bool} {d e r : D} (o : opIn0 neg d e = some r) : (∃ c z, d = .str ⟨#[c]⟩ ∧ e = .str z ∧ r = .bool (neg ^^ decide (c ∈ z.cps.toList))) ∨
    ∃ ds, (e = .list ds ∨ e = .tuple ds) ∧ min (PyData.depthAll ds) d.depth ≤ 64 ∧ r = .bool (neg ^^ ds.any fun z => PyData.eqv z d) := by
  unfold opIn0 at o
  split at o
  · rename_i x y
    split at o
    · rename_i c hc
      cases o
      refine .inl ⟨c, y, ?_, rfl, rfl⟩
      have : x = #[c] := by rw [← Array.toArray_toList (xs := x), hc]
      rw [this]
    · cases o
  · split at o <;> cases o
    rename_i hz
    exact .inr ⟨_, .inl rfl, hz, rfl⟩
  · split at o <;> cases o
    rename_i hz
    exact .inr ⟨_, .inr rfl, hz, rfl⟩
  · cases o
theorem so_in (hu : X.A.units + 65 < cLine) : OpR X (compareOp .In) (rN X.K .pu opIn) := opr_of fun x y H Q q => by
  obtain ⟨G, d, e, r, s, hx, hy, o, k⟩ := q
  rcases opIn_cases o with ⟨c, z, rfl, rfl, rfl⟩ | ⟨ds, he, hz, rfl⟩
  · refine ⟨_, op_in_sign, c, z, top_str hx, top_str hy, ?_⟩
    rw [Bool.false_xor] at k
    exact fin_bool s k
  · refine ⟨_, op_inP hu, d, ds, hx.dp s, ?_, hz, fin_bool s k⟩
    rcases he with rfl | rfl
    · exact .inl (hy.dp s)
    · exact .inr (hy.dp s)
theorem so_notIn (hu : X.A.units + 65 < cLine) : OpR X (compareOp .NotIn) (rN X.K .pu opNotIn) := opr_of fun x y H Q q => by
  obtain ⟨G, d, e, r, s, hx, hy, o, k⟩ := q
  rcases opIn_cases o with ⟨c, z, rfl, rfl, rfl⟩ | ⟨ds, he, hz, rfl⟩
  · refine ⟨_, op_notIn_sign, c, z, top_str hx, top_str hy, ?_⟩
    rw [Bool.true_xor] at k
    exact fin_bool s k
  · refine ⟨_, op_notInP hu, d, ds, hx.dp s, ?_, hz, fin_bool s k⟩
    rcases he with rfl | rfl
    · exact .inl (hy.dp s)
    · exact .inr (hy.dp s)
def isN : D → Bool
  | .none => true
  | _ => false
def opIs : D → D → Option D
  | d, .none => some (.bool (isN d))
  | _, _ => none
def opIsNot : D → D → Option D
  | d, .none => some (.bool (!isN d))
  | _, _ => none
theorem top_isN (h : Top K G H v d) : decide (v = .non) = isN d := by
  rcases h with h | ⟨a, rfl, _, h⟩
  · cases h <;> simp [isN]
  · cases d with
    | list ds => simp [isN]
    | _ => exact h.elim
theorem so_is : OpR X (compareOp .Is) (rN X.K .pu opIs) := opr_of fun x y H Q q => by
  obtain ⟨G, d, e, r, s, hx, hy, o, k⟩ := q
  unfold opIs at o
  split at o <;> cases o
  exact ⟨_, op_isN, top_none hy, by rw [top_isN hx]; exact fin_bool s k⟩
theorem so_isNot : OpR X (compareOp .IsNot) (rN X.K .pu opIsNot) := opr_of fun x y H Q q => by
  obtain ⟨G, d, e, r, s, hx, hy, o, k⟩ := q
  unfold opIsNot at o
  split at o <;> cases o
  exact ⟨_, op_notN, top_none hy, by rw [top_isN hx]; exact fin_bool s k⟩
end
end PL

/-! PL: the pure layer, 11: times, turned round, subscripts, slices. -/
namespace PL
open PySem PySem.Spec PyProof.Rows L2
/-! ### tuple * int, all cases -/
theorem tuple_mul1 (l : Addr) (items : Array Value) (n : Nat) (dd : Option Addr) (sl : Array (Option Value)) (x : Int) (u : Tok) (c0 : (decide (x < -(2 ^ 63)) || decide (x ≥ 2 ^ 63)) = false) (c1 : (items.isEmpty || x == 1) = true) :
    Meets (Builtin.«tuple.__mul__» ⟨[.ref l, .int x u], []⟩) (fun _ R s => s.heap.get? l = some { cls := .type "tuple", dict := dd, data := .seq items n, slots := sl } ∧ R (.ok (.ret (Value.ref l))) s) :=
  .of_wp fun prog w A R s h => by
    obtain ⟨hp, g, d, tk, os⟩ := s
    obtain ⟨hl, h⟩ := h
    have f1 := AutoSeq1.idx_int
    wp_walk using wpAny_loadPart' hl
    repeat (first
      | (refine wpAny_ite_false (decide_eq_false (by rw [c0]; exact Bool.false_ne_true)) ?_; wp_walk using wpAny_loadPart' hl)
      | (refine wpAny_ite_true (decide_eq_true (by rw [c1])) ?_; wp_walk using wpAny_loadPart' hl))
    exact ⟨_, rfl, h⟩
theorem tuple_mul0 (l : Addr) (items : Array Value) (n : Nat) (dd : Option Addr) (sl : Array (Option Value)) (x : Int) (u : Tok) (c0 : (decide (x < -(2 ^ 63)) || decide (x ≥ 2 ^ 63)) = false) (c1 : (items.isEmpty || x == 1) = false) (c2 : (decide (x ≤ 0) || items.isEmpty) = true) :
    Meets (Builtin.«tuple.__mul__» ⟨[.ref l, .int x u], []⟩) (fun _ R s => s.heap.get? l = some { cls := .type "tuple", dict := dd, data := .seq items n, slots := sl } ∧
      R (.ok (.ret (Value.ref s.heap.objs.size))) { s with heap := s.heap.push { cls := Value.type "tuple", data := Data.seq #[] }, toks := s.toks }) :=
  .of_wp fun prog w A R s h => by
    obtain ⟨hp, g, d, tk, os⟩ := s
    obtain ⟨hl, h⟩ := h
    have f1 := AutoSeq1.idx_int
    wp_walk using wpAny_loadPart' hl
    repeat (first
      | (refine wpAny_ite_false (decide_eq_false (by rw [c0]; exact Bool.false_ne_true)) ?_; wp_walk using wpAny_loadPart' hl)
      | (refine wpAny_ite_false (decide_eq_false (by rw [c1]; exact Bool.false_ne_true)) ?_; wp_walk using wpAny_loadPart' hl)
      | (refine wpAny_ite_true (decide_eq_true (by rw [c2])) ?_; wp_walk using wpAny_loadPart' hl))
    exact ⟨_, rfl, h⟩
section
variable {X : Cx} {K : PySem.W.Frag} {G G' H H' : Hp} {v : V} {d : D}
theorem dps_rep {xs : List V} {ds : List D} (h : DpAll K G xs ds) : ∀ n, DpAll K G (List.replicate n xs).flatten (List.replicate n ds).flatten
  | 0 => .nil
  | n + 1 => by
    rw [List.replicate_succ, List.replicate_succ, List.flatten_cons, List.flatten_cons]
    exact dps_app h (dps_rep h n)
/-- tuple * int, any small count -/
def rRepA (K : PySem.W.Frag) : R2 := fun x y H Q => ∃ l k xs, x = .ref l ∧ y = .int k ∧ SqT K H l xs ∧ -1000000 ≤ k ∧ k ≤ 1000000 ∧ xs.length * k.toNat ≤ 1000000 ∧
  ((xs = [] ∨ k = 1) → Q (.ref l) H) ∧ (xs ≠ [] → k ≤ 0 → ∀ p, H p = none → Q (.ref p) (upd H p (.tup []))) ∧
  (xs ≠ [] → 2 ≤ k → ∀ p, H p = none → Q (.ref p) (upd H p (.tup (List.replicate k.toNat xs).flatten)))
theorem op_repA : OpR X (binaryOp .Mult) (rRepA X.K) := by
  intro pins s σ H x y v u Q I rx ry h
  obtain ⟨l, k, xs, rfl, rfl, hT, h1, h2, hz, q1, q2, q3⟩ := h
  cases rx
  obtain ⟨t, rfl⟩ := ry
  obtain ⟨its, r, ⟨⟨cls, dd, data, sl⟩, ho, hc, n, hd⟩, hs⟩ := I.tuple hT
  simp only at hc hd
  subst hc hd
  have hle : its.length = xs.length := r.length.symm
  have hsz0 : its.toArray.size = xs.length := by rw [List.size_toArray, hle]
  have hi : its.toArray.isEmpty = xs.isEmpty := by
    cases its with
    | nil => rw [List.eq_nil_of_length_eq_zero hle.symm]; rfl
    | cons a b =>
      cases xs with
      | nil => cases hle
      | cons a b => rfl
  have c0 : (decide (k < -(2 ^ 63)) || decide (k ≥ 2 ^ 63)) = false := by
    rw [decide_eq_false (by omega), decide_eq_false (by omega)] <;> rfl
  have road : ∀ {R : Result → Shared → Prop}, True := trivial
  by_cases a1 : xs = [] ∨ k = 1
  · have c1 : (its.toArray.isEmpty || k == 1) = true := by
      rw [hi]
      rcases a1 with e | e
      · rw [e]; rfl
      · rw [e]; simp
    refine wpAny_binaryOp_repeat_ref (T := "tuple") (U := "int") (by decide) ⟨_, ho, rfl⟩ (fun s' => typeIs_int s' k t) noFill_tuple_mul F.fills_int_mul F.slot_int_rmul repeat_tuple F.slot_int_index.lookup
      (call_meets F.slot_int_rmul (typeIs_int s k t) F.entry_int_rmul (F.args_int_rmul_2 _ _) (int_rmul_tuple k t l its.toArray n dd sl)
        ⟨ho, rfl, ⟨_, ho, rfl⟩, call_meets F.slot_tuple_mul ⟨_, ho, rfl⟩ F.entry_tuple_mul (F.args_tuple_mul_2 _ _) (tuple_mul1 l its.toArray n dd sl k t c0 c1) ⟨ho, ?_⟩⟩)
    exact ⟨.ref l, H, I, rfl, q1 a1⟩
  · have hne : xs ≠ [] := fun e => a1 (.inl e)
    have hk1 : k ≠ 1 := fun e => a1 (.inr e)
    have he : xs.isEmpty = false := by cases xs with
      | nil => exact absurd rfl hne
      | cons a b => rfl
    have c1 : (its.toArray.isEmpty || k == 1) = false := by
      rw [hi, he, Bool.false_or]
      exact beq_eq_false_iff_ne.mpr hk1
    by_cases a2 : k ≤ 0
    · have c2 : (decide (k ≤ 0) || its.toArray.isEmpty) = true := by rw [decide_eq_true a2]; rfl
      refine wpAny_binaryOp_repeat_ref (T := "tuple") (U := "int") (by decide) ⟨_, ho, rfl⟩ (fun s' => typeIs_int s' k t) noFill_tuple_mul F.fills_int_mul F.slot_int_rmul repeat_tuple F.slot_int_index.lookup
        (call_meets F.slot_int_rmul (typeIs_int s k t) F.entry_int_rmul (F.args_int_rmul_2 _ _) (int_rmul_tuple k t l its.toArray n dd sl)
          ⟨ho, rfl, ⟨_, ho, rfl⟩, call_meets F.slot_tuple_mul ⟨_, ho, rfl⟩ F.entry_tuple_mul (F.args_tuple_mul_2 _ _) (tuple_mul0 l its.toArray n dd sl k t c0 c1 c2) ⟨ho, ?_⟩⟩)
      refine ⟨.ref s.heap.objs.size, _, I.laid (t' := s.toks) (o := .tup []) (fun b ob q => Heap.get?_push_of_some _ q) (Nat.le_refl _) ?_, rfl, q2 hne a2 _ (I.hok.fresh (Nat.le_refl _))⟩
      exact ⟨Nat.zero_le _, [], .nil, IsTup.new _ _⟩
    · have c2 : (decide (k ≤ 0) || its.toArray.isEmpty) = false := by
        rw [hi, he, Bool.or_false]
        exact decide_eq_false a2
      have hm : ((its.toArray.size : Nat) : Int) * k ≤ 1000000 := by
        rw [hsz0]
        have e : ((xs.length * k.toNat : Nat) : Int) = (xs.length : Int) * k := by rw [Int.natCast_mul, Int.toNat_of_nonneg (by omega)]
        omega
      have flen : (List.replicate k.toNat its).flatten.length ≤ sizeLine := by
        rw [PyProof.Rows.lm_len_rep_flat, hle, sizeLine_eq, Nat.mul_comm]
        omega
      have c4 : Builtin.Tuple.tupleTooMany (((its.toArray.size : Nat) : Int) * k) = false := by
        unfold Builtin.Tuple.tupleTooMany
        rw [sizeLine_eq]
        exact decide_eq_false (by omega)
      refine wpAny_binaryOp_repeat_ref (T := "tuple") (U := "int") (by decide) ⟨_, ho, rfl⟩ (fun s' => typeIs_int s' k t) noFill_tuple_mul F.fills_int_mul F.slot_int_rmul repeat_tuple F.slot_int_index.lookup
        (call_meets F.slot_int_rmul (typeIs_int s k t) F.entry_int_rmul (F.args_int_rmul_2 _ _) (int_rmul_tuple k t l its.toArray n dd sl)
          ⟨ho, rfl, ⟨_, ho, rfl⟩, call_meets F.slot_tuple_mul ⟨_, ho, rfl⟩ F.entry_tuple_mul (F.args_tuple_mul_2 _ _) (tuple_mulW l its.toArray n dd sl k t c0 c1 c2 (by omega) c4 (by rw [size_rep, List.size_toArray]; exact flen)) ⟨ho, ?_⟩⟩)
      rw [size_rep]
      refine ⟨.ref s.heap.objs.size, _, I.laid (t' := s.toks) (o := .tup (List.replicate k.toNat xs).flatten) (fun b ob q => Heap.get?_push_of_some _ q) (Nat.le_refl _) ?_, rfl, q3 hne (by omega) _ (I.hok.fresh (Nat.le_refl _))⟩
      exact ⟨by rw [PyProof.Rows.lm_len_rep_flat, sizeLine_eq, Nat.mul_comm]; omega, _, r.rep k.toNat, IsTup.new _ _⟩
/-- list * int -/
def rRepL (K : PySem.W.Frag) : R2 := fun x y H Q => ∃ l k xs, x = .ref l ∧ y = .int k ∧ SqL K H l xs ∧ -1000000 ≤ k ∧ k ≤ 1000000 ∧ xs.length * k.toNat ≤ 1000000 ∧
  ∀ p, H p = none → Q (.ref p) (upd H p (.lst (List.replicate k.toNat xs).flatten))
theorem op_repL : OpR X (binaryOp .Mult) (rRepL X.K) := by
  intro pins s σ H x y v u Q I rx ry h
  obtain ⟨l, k, xs, rfl, rfl, hH, h1, h2, hz, q⟩ := h
  cases rx
  obtain ⟨t, rfl⟩ := ry
  obtain ⟨its, r, ⟨⟨cls, dd, data, sl⟩, n, ho, hc, hdd, hd⟩, _⟩ := I.list hH
  simp only at hc hd hdd
  subst hc hd hdd
  have hl : its.length = xs.length := r.length.symm
  have hsz : its.toArray.size * k.toNat ≤ 1000000 := by rw [List.size_toArray, hl]; exact hz
  have hsz2 : its.length * k.toNat ≤ 1000000 := by rw [hl]; exact hz
  refine wpAny_binaryOp_repeat_ref (T := "list") (U := "int") (by decide) ⟨_, ho, rfl⟩ (fun s' => typeIs_int s' k t) noFill_list_mul F.fills_int_mul F.slot_int_rmul repeat_list F.slot_int_index.lookup
    (call_meets F.slot_int_rmul (typeIs_int s k t) F.entry_int_rmul (F.args_int_rmul_2 _ _) (lm_int_rmul_list_any k t l its.toArray n none sl)
      ⟨ho, rfl, ⟨_, ho, rfl⟩, call_meets F.slot_list_mul ⟨_, ho, rfl⟩ F.entry_list_mul (F.args_list_mul_2 _ _)
        (lm_list_mul_any l its.toArray n none sl k t (by simp [Builtin.List.listFitsIndex]; omega) (by omega) (by simp [Builtin.List.listTooLong, sizeLine]; omega)) ⟨ho, ?_⟩⟩)
  rw [listMul_foldl_if]
  have f1 : (List.replicate k.toNat its).flatten.length ≤ sizeLine := by rw [PyProof.Rows.lm_len_rep_flat, hl, sizeLine_eq, Nat.mul_comm]; omega
  have f2 : (List.replicate k.toNat xs).flatten.length ≤ sizeLine := by rw [PyProof.Rows.lm_len_rep_flat, sizeLine_eq, Nat.mul_comm]; omega
  exact ⟨.ref _, _, I.lnew (t' := s.toks) (r.rep k.toNat) (by first | exact f1 | exact f2), rfl, q _ I.fresh⟩
def small64 (i : Int) : Bool := decide (-(2 ^ 64) < i) && decide (i < 2 ^ 64)
def opMul : D → D → Option D
  | .int i, .int j => if (small64 i || small64 j) = true then some (.int (i * j)) else none
  | .str x, .int n => if n.toNat ≤ 16777216 ∧ x.length * n.toNat ≤ 16777216 ∧ -1000000 ≤ n then some (.str (Txt.mul x n)) else none
  | .tuple ds, .int n => if -1000000 ≤ n ∧ n ≤ 1000000 ∧ ds.length * n.toNat ≤ 1000000 then some (.tuple (List.replicate n.toNat ds).flatten) else none
  | .list ds, .int n => if -1000000 ≤ n ∧ n ≤ 1000000 ∧ ds.length * n.toNat ≤ 1000000 then some (.list (List.replicate n.toNat ds).flatten) else none
  | _, _ => none
def rMulS : R2 := fun x y H Q => ∃ z n, x = .str z ∧ y = .int n ∧ MulOk z n ∧ Q (.str (Txt.mul z n)) H
theorem op_mulS : OpR X (binaryOp .Mult) rMulS := by
  intro pins s σ H x y v u Q I rx ry h
  obtain ⟨z, n, rfl, rfl, hz, q⟩ := h
  obtain ⟨t, rfl⟩ := rx
  obtain ⟨t', rfl⟩ := ry
  exact PySem.SB.mul hz fun t' k => ⟨.str _, H, I.tok _, ⟨_, rfl⟩, q⟩
theorem so_mul : OpR X (binaryOp .Mult) (rN X.K mk opMul) := opr_of fun x y H Q q => by
  obtain ⟨G, d, e, r, s, hx, hy, o, k⟩ := q
  unfold opMul at o
  split at o
  · split at o <;> cases o
    rename_i hz
    refine ⟨_, op_mul, _, _, top_int hx, top_int hy, ?_, fin_int s k⟩
    unfold small64 at hz
    simp only [Bool.or_eq_true, Bool.and_eq_true, decide_eq_true_eq] at hz
    exact hz
  · split at o <;> cases o
    rename_i hz
    exact ⟨_, op_mulS, _, _, top_str hx, top_int hy, PyProof.Rows.mulOk_of _ _ (Nat.le_refl _) (by omega) (by omega) hz.1 hz.2.1, fin_str s k⟩
  · rename_i ds n
    split at o <;> cases o
    rename_i hz
    obtain ⟨a, us, e1, h1, h2, h5⟩ := top_tuple hx s
    refine ⟨_, op_repA, a, n, us, e1, top_int hy, h1, hz.1, hz.2.1, by rw [dps_len h2]; exact hz.2.2, fun z => ?_, fun z z2 => ?_, fun z z2 => fin_tup s (dps_rep h2 _) k⟩
    · subst e1
      rcases z with z | z
      · subst z
        cases h2
        have e0 : (List.replicate n.toNat ([] : List D)).flatten = [] := by simp
        rw [e0] at k
        exact fin_same s h5 k
      · subst z
        have e0 : (List.replicate (1 : Int).toNat ds).flatten = ds := by simp
        rw [e0] at k
        exact fin_same s h5 k
    · have e0 : n.toNat = 0 := by omega
      rw [e0] at k
      exact fin_tup s .nil k
  · rename_i ds n
    split at o <;> cases o
    rename_i hz
    obtain ⟨a, us, e1, h1, h2⟩ := top_list hx s
    exact ⟨_, op_repL, a, n, us, e1, top_int hy, h1, hz.1, hz.2.1, by rw [dps_len h2]; exact hz.2.2, fin_list s (dps_rep h2 _) k⟩
  · cases o

/-! ### subscripts -/
theorem atI_dps {xs : List V} {ds : List D} {i : Int} {d : D} (h : DpAll K G xs ds) (e : atI ds i = some d) : ∃ v, atI xs i = some v ∧ Dp K G v d := by
  unfold atI at e ⊢
  rw [dps_len h]
  obtain ⟨j, e1, e2⟩ := bnd e
  obtain ⟨v, h1, h2⟩ := dps_getD h e2
  exact ⟨v, by rw [e1]; exact h1, h2⟩
def opIx : D → D → Option D
  | .list ds, .int i => atI ds i
  | .tuple ds, .int i => atI ds i
  | .str z, .int i => if z.length ≤ lineN then (atI z.cps.toList i).bind fun c => some (.str ⟨#[c]⟩) else none
  | _, _ => none
theorem so_ix : IxR X (rN X.K .pu opIx) := ixr_of fun x y H Q q => by
  obtain ⟨G, d, e, r, s, hx, hy, o, k⟩ := q
  unfold opIx at o
  split at o
  · obtain ⟨a, us, e1, h1, h2⟩ := top_list hx s
    obtain ⟨w, e3, e4⟩ := atI_dps h2 o
    exact ⟨_, ix_list, a, us, _, w, e1, top_int hy, h1, e3, fin_same s e4 k⟩
  · obtain ⟨a, us, e1, h1, h2, h5⟩ := top_tuple hx s
    obtain ⟨w, e3, e4⟩ := atI_dps h2 o
    exact ⟨_, ix_tup, a, us, _, w, e1, top_int hy, h1, e3, fin_same s e4 k⟩
  · split at o
    · rename_i hz
      obtain ⟨c, e1, e2⟩ := bnd o
      cases e2
      exact ⟨_, ix_str, _, _, c, top_str hx, top_int hy, by rw [← lineN_eq]; exact hz, e1, fin_str s k⟩
    · cases o
  · cases o
/-! ### slices -/
def cutD (xs : List D) (lo hi : Option Int) : List D := (xs.drop (HT.sIx xs.length 0 lo)).take (HT.sIx xs.length xs.length hi - HT.sIx xs.length 0 lo)
theorem cut_dps {xs : List V} {ds : List D} {lo hi : Option Int} (h : DpAll K G xs ds) : DpAll K G (cutV xs lo hi) (cutD ds lo hi) := by
  unfold cutV cutD
  rw [dps_len h]
  exact dps_take _ (dps_drop _ h)
def opSl : D → Option Int → Option Int → Option D
  | .list ds, lo, hi => some (.list (cutD ds lo hi))
  | .tuple ds, lo, hi => some (.tuple (cutD ds lo hi))
  | .str z, lo, hi => if z.length ≤ lineN then some (.str (cutS z lo hi)) else none
  | _, _, _ => none
theorem so_sl : SlR X (rNS X.K mk opSl) := slr_of fun x lo hi H Q q => by
  obtain ⟨G, d, r, s, hx, o, k⟩ := q
  unfold opSl at o
  split at o
  · cases o
    obtain ⟨a, us, e1, h1, h2⟩ := top_list hx s
    exact ⟨_, sl_list, a, us, e1, h1, fin_list s (cut_dps h2) k⟩
  · cases o
    obtain ⟨a, us, e1, h1, h2, h5⟩ := top_tuple hx s
    refine ⟨_, sl_tupA, a, us, e1, h1, fun hw => ?_, fun _ => fin_tup s (cut_dps h2) k⟩
    subst e1
    rename_i ds
    have e0 : cutD ds lo hi = ds := by
      unfold cutD
      rw [← dps_len h2, hw.1, hw.2, dps_len h2]
      simp
    rw [e0] at k
    exact fin_same s h5 k
  · split at o <;> cases o
    rename_i hz
    exact ⟨_, sl_str, _, top_str hx, by rw [← lineN_eq]; exact hz, fin_str s k⟩
  · cases o

/-! ### turned round -/
def revS (z : Str) : Str := ⟨z.cps.toList.reverse.toArray⟩
theorem slice_revS (z : Str) (u : Tok) : Txt.sliceBy z none none (-1, u) = revS z := by
  have h := PyProof.Rows.step_rev_list z u
  generalize Txt.sliceBy z none none (-1, u) = w at h
  obtain ⟨⟨l⟩⟩ := w
  have h' : l = (List.range z.length).map fun k => z.cps.getD (z.length - 1 - k) 0 := h
  unfold revS
  congr 1
  congr 1
  rw [h']
  refine List.ext_getElem (by simp [Str.length]) fun i h1 h2 => ?_
  simp only [List.getElem_map, List.getElem_range, List.getElem_reverse]
  simp at h1
  simp [Array.getD, Str.length] at h1 ⊢
  rw [dif_pos (by omega)]
def rRevAll (K : PySem.W.Frag) : V → Hp → VK → Prop := fun x H Q =>
  (∃ a xs, x = .ref a ∧ SqL K H a xs ∧ ∀ p, H p = none → Q (.ref p) (upd H p (.lst xs.reverse))) ∨
  (∃ a xs, x = .ref a ∧ SqT K H a xs ∧ ∀ p, H p = none → Q (.ref p) (upd H p (.tup xs.reverse))) ∨
  ∃ z, x = .str z ∧ z.length ≤ sizeLine ∧ Q (.str (revS z)) H
theorem getItem_tuple_rev {prog : Program} {w : World} {A : Around} {E : Value → Shared → Prop} {s : Shared} {t sl : Addr} {items : Array Value} {u : Tok} {Q : Value → Shared → Prop} (ht : IsTup s.heap t items) (hs : s.heap.IsSliceOf sl .none .none (.int (-1) u))
    (h : Q (.ref s.heap.objs.size) { s with heap := s.heap.push { cls := .type "tuple", data := .seq items.toList.reverse.toArray } })
    (hsz : items.size ≤ sizeLine) : wpAny (model prog w) A (getItem (.ref t) (.ref sl)) Q E s := by
  have htake : sizeOk (.seq items.toList.reverse.toArray) := by
    show items.toList.reverse.toArray.size ≤ sizeLine
    rw [List.size_toArray, List.length_reverse, Array.length_toList]
    omega
  obtain ⟨os, hos, hcs, hds⟩ := id hs
  have hTs : s.TypeIs (.ref sl) "slice" := ⟨os, hos, hcs⟩
  unfold getItem
  try with_reducible refine wpAny_holding ?_
  first | refine wpAny_bind (wpAny_pure ?_) | skip
  refine wpAny_bind (wpAny_sequenceKey ht.typeIs (by decide) ?_)
  refine wpAny_bind (wpAny_callSpecial?_slot (name := Str.ofString "__getitem__") ht.typeIs PyProof.Rows.slot_tuple_getitem
    (wpAny_call_entry PyProof.Rows.slot_tuple_getitem ht.typeIs entry_tuple_getitem ?_ (args_tuple_getitem _ _)))
  show wpAny _ _ (Builtin.Tuple.tupleItemsOf (.ref t) >>= _) _ _ s
  refine wpAny_bind (tupleItemsOf_ ht ?_)
  refine wpAny_bind (wpAny_typeOf hTs ?_)
  rw [if_pos (by decide)]
  have happ : ∀ {A : Around} {R : Int × Int × Nat → Shared → Prop}, R (((items.size : Nat) : Int) - 1, -1, items.size) s → wpAny (model prog w) A (Builtin.Slice.sliceApplied (.ref sl) (pure ((items.size : Nat) : Int))) R E s := fun {A R} hR => by
    unfold Builtin.Slice.sliceApplied Builtin.Slice.sliceFields
    refine wpAny_bind (wpAny_bind (wpAny_field hos hds (x := .none) rfl (wpAny_bind (wpAny_field hos hds (x := .none) rfl (wpAny_bind (wpAny_field hos hds (x := .int (-1) u) rfl (wpAny_pure ?_)))))))
    refine wpAny_bind (slicePart_int ?_)
    show wpAny _ _ (if ((-1 : Int) == 0) = true then _ else _) _ _ s
    rw [if_neg (by decide)]
    refine wpAny_bind (slicePart_none (wpAny_bind (slicePart_none (wpAny_bind (wpAny_pure ?_)))))
    show wpAny _ _ (pure ((((items.size : Nat) : Int) - 1), (-1 : Int), Builtin.Slice.slicePlaces (((items.size : Nat) : Int) - 1) (-1) (-1))) _ _ s
    have e : Builtin.Slice.slicePlaces (((items.size : Nat) : Int) - 1) (-1) (-1) = items.size := by
      unfold Builtin.Slice.slicePlaces
      have h1 : ¬ ((-1 : Int) > 0) := by decide
      simp only [h1, if_false]
      by_cases h2 : (((items.size : Nat) : Int) - 1) > -1
      · rw [if_pos h2]
        have e3 : (-(-1 : Int)) = 1 := rfl
        rw [e3, Int.ediv_one]
        omega
      · rw [if_neg h2]
        omega
    rw [e]
    exact wpAny_pure hR
  refine wpAny_bind (happ ?_)
  show wpAny _ _ (if ((((items.size : Nat) : Int) - 1) == 0 && (-1 : Int) == 1 && items.size == items.size) = true then _ else _) _ _ s
  have hno : ¬ (((((items.size : Nat) : Int) - 1) == 0 && (-1 : Int) == 1 && items.size == items.size) = true) := by
    have : ((-1 : Int) == 1) = false := rfl
    rw [this, Bool.and_false, Bool.false_and]
    exact Bool.false_ne_true
  rw [if_neg hno]
  have epick : ((List.range items.size).filterMap fun (k : Nat) => items[((((items.size : Nat) : Int) - 1) + (k : Int) * (-1)).toNat]?).toArray = items.toList.reverse.toArray := by
    congr 1
    obtain ⟨l⟩ := items
    have e1 : ∀ k ∈ List.range l.length, (l.toArray)[((((l.toArray.size : Nat) : Int) - 1) + (k : Int) * (-1)).toNat]? = some ((l.reverse)[k]?.getD .none) := fun k hk => by
      have hk' : k < l.length := List.mem_range.mp hk
      have e2 : ((((l.toArray.size : Nat) : Int) - 1) + (k : Int) * (-1)).toNat = l.length - 1 - k := by
        rw [List.size_toArray]
        omega
      rw [e2]
      have e3 : l.reverse[k]? = some (l[l.length - 1 - k]'(by omega)) := by
        rw [List.getElem?_eq_getElem (by rw [List.length_reverse]; exact hk'), List.getElem_reverse]
      rw [e3]
      simp
    show (List.range l.length).filterMap (fun (k : Nat) => (l.toArray)[((((l.toArray.size : Nat) : Int) - 1) + (k : Int) * (-1)).toNat]?) = l.reverse
    have e4 : ∀ (ks : List Nat), (∀ k ∈ ks, k ∈ List.range l.length) → ks.filterMap (fun (k : Nat) => (l.toArray)[((((l.toArray.size : Nat) : Int) - 1) + (k : Int) * (-1)).toNat]?) = ks.map fun k => (l.reverse)[k]?.getD .none := fun ks h => by
      induction ks with
      | nil => rfl
      | cons k ks ih =>
        rw [List.filterMap_cons, e1 k (h k List.mem_cons_self), List.map_cons, ih fun j hj => h j (List.mem_cons_of_mem _ hj)]
    rw [e4 _ fun k hk => hk]
    refine List.ext_getElem (by simp) fun i h1 h2 => ?_
    simp only [List.getElem_map, List.getElem_range]
    rw [List.getElem?_eq_getElem h2]
    rfl
  rw [epick]
  first
    | exact wpAny_bind (m := Builtin.Tuple.tupleExact _) (wpAny_newObj_type (wpAny_pure ⟨_, rfl, wpAny_pure h⟩) htake)
    | exact wpAny_bind (m := Builtin.Tuple.tupleExact _) (wpAny_newObj_type (wpAny_bind (wpAny_pure (wpAny_pure ⟨_, rfl, wpAny_pure h⟩))) htake)
    | exact wpAny_bind (wpAny_bind (m := Builtin.Tuple.tupleExact _) (wpAny_newObj_type (wpAny_pure (wpAny_pure ⟨_, rfl, wpAny_pure h⟩)) htake))
    | exact wpAny_bind (wpAny_bind (m := Builtin.Tuple.tupleExact _) (wpAny_newObj_type (wpAny_pure ⟨_, rfl, wpAny_pure h⟩) htake))
def tRevA (K : PySem.W.Frag) (te : TE) : TE := fun σ H Q => te σ H fun x H1 => rRevAll K x H1 Q
theorem pe_revA {e : Expr} {te : TE} {k : Nat} {p1 p2 p3 pos : Pos} (he : PE X e te) : PE X (.Subscript e (.Slice none none (some (.UnaryOp .USub (.Constant (.int 1) k p1) p2)) p3) pos) (tRevA X.K te) := by
  refine ⟨fun pins s σ H Q I h => ?_⟩
  refine Subscript_ (thn (he.run pins s σ H _ I h) fun v s1 ⟨x, H1, I1, r1, q1⟩ => ?_)
  have hst : PO X (some (.UnaryOp .USub (.Constant (.int 1) k p1) p2)) (tPart (tUn (rU fun i => .int (-i)) (tC (.int 1)))) := po_some (pe_un un_neg pe_int)
  refine wpAny_Slice (thn (po_none.run pins s1 σ H1 (fun o H2 => o = none ∧ H2 = H1) I1 ⟨rfl, rfl⟩) fun vl s2 ⟨l, H2, I2, pl, el, e2⟩ => ?_)
  subst el e2
  refine thn (po_none.run pins s2 σ H2 (fun o H3 => o = none ∧ H3 = H2) I2 ⟨rfl, rfl⟩) fun vu s3 ⟨u, H3, I3, pu, eu, e3⟩ => ?_
  subst eu e3
  refine thn (hst.run pins s3 σ H3 (fun o H4 => o = some (-1) ∧ H4 = H3) I3 ⟨1, rfl, -1, rfl, rfl, rfl⟩) fun vs s4 ⟨o, H4, I4, ps, eo, e4⟩ => ?_
  subst eo e4
  have I5 : Inv X pins σ H4 { s4 with heap := s4.heap.push { cls := .type "slice", data := .fields #[vl, vu, vs] } } := I4.kept (t' := s4.toks) fun b ob q => Heap.get?_push_of_some _ q
  rcases q1 with ⟨a, xs, ex, hx, q⟩ | ⟨a, xs, ex, hx, q⟩ | ⟨z, ex, hz, q⟩
  · subst ex
    cases r1
    obtain ⟨its, r, ht, hz⟩ := I5.list hx
    have hlen := r.length
    show wpAny (model X.prog X.w) X.A (subscriptTail e (.Slice none none (some (.UnaryOp .USub (.Constant (.int 1) k p1) p2)) p3) (.ref a) (.ref s4.heap.objs.size)) (EP X pins σ Q) X.xe { s4 with heap := s4.heap.push { cls := .type "slice", data := .fields #[vl, vu, vs] } }
    refine tail_any (ops := [.ref a, .ref s4.heap.objs.size]) ht.isList.typeIs (PySem.slot_list_getitem.lookup) ?_ (by with_unfolding_all rfl)
    refine wpAny_getItem_list_slice ht.isList (Heap.IsSliceOf.new _ vl vu vs) pl pu ps (by decide) ?_ (by rw [List.size_toArray]; omega)
    rw [PySem.W.krv_pick]
    refine ⟨.ref _, _, I5.laid (t' := s4.toks) (o := .lst xs.reverse) (fun b ob q => Heap.get?_push_of_some _ q) (Nat.le_refl _) ?_, rfl, q _ (I5.hok.fresh (Nat.le_refl _))⟩
    exact ⟨by rw [List.length_reverse]; exact hz, _, 0, r.reverse, Heap.get?_push_size _ rfl⟩
  · subst ex
    cases r1
    obtain ⟨its, r, ht, hz⟩ := I5.tuple hx
    have hlen := r.length
    obtain ⟨tk, rfl⟩ : ∃ tk, vs = .int (-1) tk := by cases ps; exact ⟨_, rfl⟩
    cases pl
    cases pu
    show wpAny (model X.prog X.w) X.A (subscriptTail e (.Slice none none (some (.UnaryOp .USub (.Constant (.int 1) k p1) p2)) p3) (.ref a) (.ref s4.heap.objs.size)) (EP X pins σ Q) X.xe { s4 with heap := s4.heap.push { cls := .type "slice", data := .fields #[.none, .none, .int (-1) tk] } }
    refine tail_any (ops := [.ref a, .ref s4.heap.objs.size]) ht.typeIs (PyProof.Rows.slot_tuple_getitem.lookup) ?_ (by with_unfolding_all rfl)
    refine getItem_tuple_rev ht (Heap.IsSliceOf.new _ .none .none (.int (-1) tk)) ?_ (by rw [List.size_toArray]; omega)
    refine ⟨.ref _, _, I5.laid (t' := s4.toks) (o := .tup xs.reverse) (fun b ob q => Heap.get?_push_of_some _ q) (Nat.le_refl _) ?_, rfl, q _ (I5.hok.fresh (Nat.le_refl _))⟩
    exact ⟨by rw [List.length_reverse]; exact hz, _, r.reverse, IsTup.new _ _⟩
  · subst ex
    obtain ⟨t, rfl⟩ := r1
    obtain ⟨tk, rfl⟩ : ∃ tk, vs = .int (-1) tk := by cases ps; exact ⟨_, rfl⟩
    cases pl
    cases pu
    show wpAny (model X.prog X.w) X.A (subscriptTail e (.Slice none none (some (.UnaryOp .USub (.Constant (.int 1) k p1) p2)) p3) (.str z t) (.ref s4.heap.objs.size)) (EP X pins σ Q) X.xe { s4 with heap := s4.heap.push { cls := .type "slice", data := .fields #[.none, .none, .int (-1) tk] } }
    refine tail_any (ops := [.ref s4.heap.objs.size, .str z t]) (typeIs_str _ z t) PySem.F.slot_str_getitem.lookup ?_ (by with_unfolding_all rfl)
    refine wpAny_getItem_str_slice (l := none) (u := none) (st := some (-1, tk)) ⟨_, Heap.get?_push_size _ rfl, rfl, rfl⟩ rfl ?_
    refine post_val_or_str ⟨?_, fun t' c => ⟨.str (revS z), _, I5.tok c, ⟨t', ?_⟩, q⟩⟩
    · exact Nat.le_trans (PySem.Txt.sliceBy_le z none none (-1, tk) (show (-1 : Int) ≠ 0 by decide)) hz
    · rw [← slice_revS z tk]
      rfl
def opRev : D → Option D
  | .list ds => some (.list ds.reverse)
  | .tuple ds => some (.tuple ds.reverse)
  | .str z => if z.length ≤ lineN then some (.str (revS z)) else none
  | _ => none
def cOpn (op : D → Option D) (a : FE) : FE := fun ρ => (a ρ).bind fun p => (cont p.2 (stl p.1)).bind fun x => (op x).bind fun r => some (mk r, p.2)
theorem pd_rev {e : Expr} {f : FE} {k : Nat} {p1 p2 p3 pos : Pos} (he : PD X e f) : PD X (.Subscript e (.Slice none none (some (.UnaryOp .USub (.Constant (.int 1) k p1) p2)) p3) pos) (cOpn opRev f) := by
  refine ⟨pe_w (pe_revA he.pe) fun σ H Q q => ?_, fun ρ r ρ' q => ?_⟩
  · obtain ⟨ioA, G0, H0, G, ρ, r, ρ', S, e, k⟩ := q
    obtain ⟨⟨r1, ρ1⟩, e1, e⟩ := bnd e
    obtain ⟨x, ex, e⟩ := bnd e
    obtain ⟨z, ez, e⟩ := bnd e
    cases e
    refine ⟨ioA, G0, H0, G, ρ, r1, ρ1, S, e1, fun G1 v1 H1 g1 S1 R1 => ?_⟩
    obtain ⟨G1', g1', S1', R1'⟩ := settle S1 R1
    have T := S1'.top R1' ex
    have kk : ∀ G3 v H3, Grow G1' H1 G3 H3 → RepN X.K H1 G3 H3 v (mk z) → Q v H3 := fun G3 v H3 gr R => by
      obtain ⟨S3, R3⟩ := S1'.repN gr R
      exact k G3 v H3 ((g1.trans g1').trans gr.g) S3 R3
    cases x with
    | list ds =>
      cases ez
      obtain ⟨a, us, e1, h1, h2⟩ := top_list T S1'.sub
      exact .inl ⟨a, us, e1, h1, fin_list S1'.sub (dps_rev h2) kk⟩
    | tuple ds =>
      cases ez
      obtain ⟨a, us, e1, h1, h2, _⟩ := top_tuple T S1'.sub
      exact .inr (.inl ⟨a, us, e1, h1, fin_tup S1'.sub (dps_rev h2) kk⟩)
    | str zz =>
      have ez' : (if zz.length ≤ lineN then some (PyData.str (revS zz)) else none) = some z := ez
      by_cases hz : zz.length ≤ lineN
      · rw [if_pos hz] at ez'
        cases ez'
        exact .inr (.inr ⟨_, top_str T, by rw [← lineN_eq]; exact hz, fin_str S1'.sub kk⟩)
      · rw [if_neg hz] at ez'; cases ez'
    | _ => cases ez
  · obtain ⟨⟨r1, ρ1⟩, e1, e⟩ := bnd q
    obtain ⟨x, ex, e⟩ := bnd e
    obtain ⟨z, ez, e⟩ := bnd e
    cases e
    exact he.kin _ _ _ e1
end
end PL

/-! PL: the pure layer, 12: enumerate of a list, a tuple, a text. -/
namespace PL
open PySem PySem.Spec PyProof.Rows L2
theorem meets_enum1 {v : Value} {o : Obj} {H : Heap → Prop} (B : Begins v o H) :
    Meets (Builtin.«enumerate.__new__» ⟨[.type "enumerate", v], []⟩) (fun _ R s => H s.heap ∧
      R (.ok (.ret (.ref (s.heap.push o).objs.size))) { s with heap := (s.heap.push o).push { cls := .type "enumerate", data := .fields #[.none, .bool false, .ref s.heap.objs.size, rawInt 0, .none, .none] } }) :=
  .of_wp fun prog w A R s h => by
    obtain ⟨hp, g, d, tk, os⟩ := s; obtain ⟨h1, h⟩ := h
    have hsub := sub_enumerate
    have q1 : ∀ {A' : Around} {E : Value → Shared → Prop} {Q : Value → Shared → Prop}, Q (.ref hp.objs.size) ⟨hp.push o, g, d, tk, os⟩ → wpAny (model prog w) A' (pyIter v) Q E ⟨hp, g, d, tk, os⟩ :=
      fun q => B.iter prog w _ _ ⟨hp, g, d, tk, os⟩ _ h1 q
    wp_walk using q1
    refine wpAny_stack_any fun st => wpAny_pure ?_
    split
    · rename_i c _ _ _ _ _
      cases (c == Value.type "enumerate")
      · wp_walk using q1
        exact ⟨_, rfl, h⟩
      · wp_walk using q1
        exact ⟨_, rfl, h⟩
    · wp_walk using q1
      exact ⟨_, rfl, h⟩
section
variable {prog : Program} {w : World} {A : Around} {E : Value → Shared → Prop} {s : Shared}
theorem call_enum1 {v : Value} {o : Obj} {H : Heap → Prop} {Q : Value → Shared → Prop} (B : Begins v o H) (h1 : H s.heap)
    (h : ∀ h', IsEnum h' (s.heap.objs.size + 1) s.heap.objs.size 0 .none → h'.get? s.heap.objs.size = some o → h'.objs.size = s.heap.objs.size + 2 →
      (∀ b o, s.heap.get? b = some o → h'.get? b = some o) → Q (.ref (s.heap.objs.size + 1)) { s with heap := h' }) :
    wpAny (model prog w) A (call (.type "enumerate") [v]) Q E s := by
  refine callType_new F.called_enumerate (by decide) (F.typeCall_enumerate_1 _) (F.newCall_enumerate_1 _) (fun obj => F.args_object_init_2 obj _) F.entry_enumerate_new
    (meets_enum1 B) ⟨h1, ?_⟩
  have hz : (s.heap.push o).objs.size = s.heap.objs.size + 1 := Heap.size_push ..
  show _ ∧ _
  rw [hz]
  have he : IsEnum ((s.heap.push o).push { cls := .type "enumerate", data := .fields #[.none, .bool false, .ref s.heap.objs.size, rawInt 0, .none, .none] }) (s.heap.objs.size + 1) s.heap.objs.size 0 .none := by
    have := Heap.get?_push_size (s.heap.push o) (o := { cls := .type "enumerate", data := .fields #[.none, .bool false, .ref s.heap.objs.size, rawInt 0, .none, .none] }) rfl
    rw [hz] at this; exact this
  refine ⟨⟨_, he, rfl⟩, h _ he (Heap.get?_push_of_some _ (Heap.get?_push_size _ B.free)) (by rw [Heap.size_push, hz]) fun b o x => Heap.get?_push_of_some _ (Heap.get?_push_of_some _ x)⟩
end
/-- the tuple at a, each item in a new pair -/
def IteT (K : PySem.W.Frag) (a : Addr) : It :=
  ⟨fun i H => ∃ (xs : List V) (x : V), SqT K H a xs ∧ xs[i]? = some x, fun i H v H' => ∃ T x, v = .ref T ∧ H T = none ∧ H' = upd H T (.tup [.int (i : Nat), x]) ∧ ∀ xs, SqT K H a xs → xs[i]? = some x, fun i H => ∃ xs : List V, SqT K H a xs ∧ xs.length = i⟩
def IteS (x : Str) : It :=
  ⟨fun i H => i < x.cps.size, fun i H v H' => ∃ T c, v = .ref T ∧ H T = none ∧ H' = upd H T (.tup [.int (i : Nat), .str ⟨#[c]⟩]) ∧ x.cps[i]? = some c, fun i H => x.cps.size = i⟩
/-- a pair of the iterator's number and its item, laid -/
theorem enum_turn {X : Cx} {elts : List Expr} {kk : Nat} {tpos : Pos} {i : Nat} {pins : List (Addr × Obj)} {s : Shared} {σ : L2.St} {H : Hp} {E : Value → Shared → Prop} {e it : Addr} {fp : List Addr} {n : Nat} {P : Nat → Value → Prop} {St : Nat → Heap → Prop} {old : Value}
    (I : L2.Inv X pins σ H s) (hf : ∀ b ∈ [e, it], FpOk X pins H b) (D : Draws X.prog X.w X.A.in1 it fp n P St) (he : IsEnum s.heap e it ((i : Nat) : Int) old) (hst : St i s.heap) (hlt : i < n) (hne : e ≠ it) (hef : e ∉ fp)
    {Y : V → Prop} (hy : ∀ u, P i u → ∃ x, RelV x u ∧ Y x) {tn : Nat → Heap → Prop} (ht : ∀ h' old, IsEnum h' e it (((i + 1 : Nat) : Nat) : Int) old → St (i + 1) h' → tn (i + 1) h') :
    wpAny (model X.prog X.w) X.A (pyNext (.ref e)) (fun r s1 => ∃ u, r = some u ∧ wpAny (model X.prog X.w) X.A (letOwnedTupleGo (.Tuple elts kk tpos) (.ref e) u) (fun _ s2 =>
      ∃ (v : V) (H' : Hp), L2.Inv X pins σ H' s2 ∧ RelV v u ∧ (∃ T x, v = .ref T ∧ H T = none ∧ H' = upd H T (.tup [.int (i : Nat), x]) ∧ Y x) ∧ tn (i + 1) s2.heap ∧ ∀ b ∈ [e, it], H' b = none) E s1) E s := by
  have hel : e < s.heap.objs.size := Heap.lt_size he
  have hil : it < s.heap.objs.size := by obtain ⟨_, q⟩ := D.live _ _ hst; exact Heap.lt_size q
  refine wpAny_pyNext_enum_itemD D he hst hlt hne hef fun u h' tk hP ho hs' hT hsz hk => ?_
  obtain ⟨x, ru, yx⟩ := hy u hP
  refine ⟨_, rfl, wpAny_letOwnedTupleGo_enum (s := { s with heap := h', toks := tk + 1 }) ho fun h'' he' sb => ?_⟩
  have hT2 : h''.get? s.heap.objs.size = some { cls := .type "tuple", data := .seq #[.int i tk, u] } := (sb.2 _ (Nat.ne_of_gt hel)).trans hT
  have new : ObjOk X.prog X.w (upd H s.heap.objs.size (.tup [.int (i : Nat), x])) h'' s.heap.objs.size (.tup [.int (i : Nat), x]) :=
    ⟨by show 2 ≤ sizeLine; decide, [.int i tk, u], .cons ⟨_, rfl⟩ (.cons ru .nil), ⟨_, hT2, rfl, _, rfl⟩⟩
  have I1 : L2.Inv X pins σ (upd H s.heap.objs.size (.tup [.int (i : Nat), x])) { s with heap := h'', toks := tk + 1 } :=
    I.turnedNew (ch := [e, it]) (fun b ob hb q => (sb.2 b (fun z => hb (by simp [z]))).trans (hk b ob (fun z => hb (by simp [z])) (fun z => hb (by simp [z])) q)) hf (Nat.le_refl _) new
  refine ⟨.ref s.heap.objs.size, _, I1, rfl, ⟨_, x, rfl, I.hok.fresh (Nat.le_refl _), rfl, yx⟩, ht h'' u ?_ (D.frame _ _ _ hs' fun b hb o q => (sb.2 b fun z => hef (by rw [← z]; exact hb)).trans q), fun b hb => ?_⟩
  · have e1 : ((i + 1 : Nat) : Int) = (i : Int) + 1 := by omega
    rw [e1]; exact he'
  · have hb' : b < s.heap.objs.size := by
      have e' : b = e ∨ b = it := by simpa using hb
      rcases e' with z | z
      · rw [z]; exact hel
      · rw [z]; exact hil
    rw [upd_ne (Nat.ne_of_lt hb')]
    exact (hf b hb).1
theorem ne_cls {h : Heap} {a b : Addr} {o u : Obj} (e : h.get? a = some o) (e' : h.get? b = some u) (hc : o.cls ≠ u.cls) : a ≠ b := fun z => by
  subst z
  rw [e] at e'
  cases e'
  exact hc rfl
theorem turn_enumT {P : Program} {w : World} {K : PySem.W.Frag} {elts : List Expr} {kk : Nat} {tpos : Pos} (a e it : Addr) :
    Turn P w K (.Tuple elts kk tpos) (IteT K a) [e, it] e (fun i h => (∃ old, IsEnum h e it ((i : Nat) : Int) old) ∧ h.IsTupleIter it a i ∧ e ≠ it) where
  mem := by simp
  obj := fun i h st b hb => by
    obtain ⟨⟨old, he⟩, ⟨o, ho, hc, hd⟩, _⟩ := st
    have e' : b = e ∨ b = it := by simpa using hb
    rcases e' with z | z
    · rw [z]; exact ⟨_, he, fun v q => nomatch q⟩
    · rw [z]; exact ⟨o, ho, fun v q => by rw [hd] at q; cases q⟩
  keep := fun i h h' st k => let ⟨⟨old, he⟩, hi, hne⟩ := st; ⟨⟨old, k e (by simp) _ he⟩, hi.at fun o q => k it (by simp) o q, hne⟩
  item := by
    intro X hP hw hK hc i pins s σ H E I hf st hg
    subst hP hw hK
    obtain ⟨⟨old, he⟩, hit, hne⟩ := st
    obtain ⟨xs, x, hq, hx⟩ := hg
    obtain ⟨its, rv, p, hz⟩ := I.tuple hq
    obtain ⟨u, hu, ru⟩ := rv.get hx
    obtain ⟨o1, g1, c1, _⟩ := id hit
    obtain ⟨o2, g2, c2, _⟩ := id p
    have hea : e ≠ a := ne_cls he g2 (by rw [c2]; show Value.type "enumerate" ≠ Value.type "tuple"; decide)
    have hai : a ≠ it := ne_cls g2 g1 (by rw [c1, c2]; decide)
    have hl := rv.length
    refine thn (enum_turn (Y := fun y => ∀ ys, SqT X.K H a ys → ys[i]? = some y) (n := its.toArray.size) (P := fun i v => its.toArray[i]? = some v) (St := fun i h => h.IsTupleIter it a i ∧ h.IsTuple a its.toArray) (tn := fun i h => (∃ old, IsEnum h e it ((i : Nat) : Int) old) ∧ h.IsTupleIter it a i ∧ e ≠ it) I hf
      (Draws.tuple (A := X.A.in1) (I.ok.hd hc) it a hai its.toArray) he ⟨hit, p⟩ (by
        rw [List.size_toArray]
        exact (List.getElem?_eq_some_iff.mp hu).1) hne (fun z => by rcases List.mem_cons.mp z with z | z; exact hne z; exact hea (List.mem_singleton.mp z)) (fun v hv => ⟨x, ?_, fun ys hy => ?_⟩) fun h' old a b => ⟨⟨old, a⟩, b.1, hne⟩) fun r s1 h1 => h1
    · have e0 : its[i]? = some v := by simpa using hv
      rw [hu] at e0
      cases e0
      exact ru
    · rw [I.tuple_inj hy hq]; exact hx
  done := by
    intro X hP hw hK hc i pins s σ H E I hf st hg
    subst hP hw hK
    obtain ⟨⟨old, he⟩, hit, hne⟩ := st
    obtain ⟨xs, hq, hx⟩ := hg
    obtain ⟨its, rv, p, hz⟩ := I.tuple hq
    obtain ⟨f0, f1, f2, f3, f4, f5⟩ := hf it (by simp)
    have hl := rv.length
    obtain ⟨o1, g1, c1, _⟩ := id hit
    obtain ⟨o2, g2, c2, _⟩ := id p
    have hai : a ≠ it := ne_cls g2 g1 (by rw [c1, c2]; decide)
    have ei : i = its.toArray.size := by rw [List.size_toArray, ← hl, hx]
    refine wpAny_pyNext_enum_endD (Draws.tuple (A := X.A.in1) (I.ok.hd hc) it a hai its.toArray) he ⟨by rw [← ei]; exact hit, p⟩ fun h' eb => ⟨rfl, I.turned (t' := s.toks) (fun b o hb q => eb b o hb q) f0 f1 f3 f4 f5⟩
  self := fun A i s Q E st h => let ⟨⟨_, he⟩, _⟩ := st; wpAny_pyIter_enum he h
theorem turn_enumS {P : Program} {w : World} {K : PySem.W.Frag} {elts : List Expr} {kk : Nat} {tpos : Pos} (x : Str) (t : Tok) (e it : Addr) :
    Turn P w K (.Tuple elts kk tpos) (IteS x) [e, it] e (fun i h => (∃ old, IsEnum h e it ((i : Nat) : Int) old) ∧ h.IsStrIter it (strIterType x) x t i ∧ e ≠ it) where
  mem := by simp
  obj := fun i h st b hb => by
    obtain ⟨⟨old, he⟩, ⟨o, ho, hc, hd⟩, _⟩ := st
    have e' : b = e ∨ b = it := by simpa using hb
    rcases e' with z | z
    · rw [z]; exact ⟨_, he, fun v q => nomatch q⟩
    · rw [z]; exact ⟨o, ho, fun v q => by rw [hd] at q; cases q⟩
  keep := fun i h h' st k => let ⟨⟨old, he⟩, ⟨o, ho, r⟩, hne⟩ := st; ⟨⟨old, k e (by simp) _ he⟩, ⟨o, k it (by simp) o ho, r⟩, hne⟩
  item := by
    intro X hP hw hK hc i pins s σ H E I hf st hg
    subst hP hw hK
    obtain ⟨⟨old, he⟩, hit, hne⟩ := st
    have hg' : i < x.cps.size := hg
    have base := (enum_turn (elts := elts) (kk := kk) (tpos := tpos) (Y := fun y => ∃ c, y = .str ⟨#[c]⟩ ∧ x.cps[i]? = some c) (n := x.cps.size) (P := fun i v => ∃ c u, x.cps[i]? = some c ∧ v = .str ⟨#[c]⟩ u) (St := fun i h => h.IsStrIter it (strIterType x) x t i) (tn := fun i h => (∃ old, IsEnum h e it ((i : Nat) : Int) old) ∧ h.IsStrIter it (strIterType x) x t i ∧ e ≠ it) I hf
      (Draws.text (A := X.A.in1) (I.ok.hd hc) it x t) he hit hg' hne (fun z => hne (List.mem_singleton.mp z)) (fun v hv => (by
      obtain ⟨c, u, h1, rfl⟩ := hv
      exact ⟨.str ⟨#[c]⟩, ⟨u, rfl⟩, c, rfl, h1⟩)) fun h' old a b => ⟨⟨old, a⟩, b, hne⟩ : wpAny _ _ _ _ E s)
    refine thn base fun r s1 h1 => ?_
    obtain ⟨u, h2, h3⟩ := h1
    refine ⟨u, h2, thn h3 fun _ s2 ⟨v, H', q1, q2, ⟨T, y, q3, q4, q5, c, q6, q7⟩, q8, q9⟩ => ?_⟩
    subst q6
    exact ⟨v, H', q1, q2, ⟨T, c, q3, q4, q5, q7⟩, q8, q9⟩
  done := by
    intro X hP hw hK hc i pins s σ H E I hf st hg
    subst hP hw hK
    obtain ⟨⟨old, he⟩, hit, hne⟩ := st
    obtain ⟨f0, f1, f2, f3, f4, f5⟩ := hf it (by simp)
    have hg' : x.cps.size = i := hg
    refine wpAny_pyNext_enum_endD (Draws.text (A := X.A.in1) (I.ok.hd hc) it x t) he (by rw [hg']; exact hit) fun h' eb => ⟨rfl, I.turned (t' := s.toks) (fun b o hb q => eb b o hb q) f0 f1 f3 f4 f5⟩
  self := fun A i s Q E st h => let ⟨⟨_, he⟩, _⟩ := st; wpAny_pyIter_enum he h
/-- enumerate(list | tuple | text) -/
def iEnumA (K : PySem.W.Frag) (ta : TA) : TI := fun σ H R => ta σ H fun vs H1 => ∃ x, vs = [x] ∧ ((∃ a xs, x = .ref a ∧ SqL K H1 a xs ∧ R (Ite K a) H1) ∨ (∃ a xs, x = .ref a ∧ SqT K H1 a xs ∧ R (IteT K a) H1) ∨ ∃ z, x = .str z ∧ R (IteS z) H1)
section
variable {X : Cx}
theorem pi_enumA {e : Expr} {ta : TA} {p pos tpos : Pos} {elts : List Expr} {kk : Nat} (hg : Gl X "enumerate") (hm : X.mg "enumerate" = none) (ha : PA X [e] ta) (hs : starEach [e] X.env = [(false, eval e X.env)] := by rfl) :
    PI X (.Tuple elts kk tpos) (.Call (.Name "enumerate" p) [e] [] pos) (iEnumA X.K ta) := by
  refine ⟨fun pins s σ H R I h => ?_⟩
  refine Call_ (ld_blt I hg hm boot_enumerate (PyProof.Rows.callWith_type1 (thn (ha.run pos pins s σ H _ I h) fun us s1 ⟨vs, H1, I1, r1, q1⟩ => ?_) hs rfl))
  obtain ⟨x, rfl, q⟩ := q1
  obtain ⟨u, rfl, ru⟩ := vals1 r1
  have ffp : ∀ b ∈ [s1.heap.objs.size + 1, s1.heap.objs.size], FpOk X pins H1 b := fun b hb => by
    have e' : b = s1.heap.objs.size + 1 ∨ b = s1.heap.objs.size := by simpa using hb
    have hle : s1.heap.objs.size ≤ b := by
      rcases e' with z | z
      · rw [z]; exact Nat.le_add_right _ _
      · rw [z]; exact Nat.le_refl _
    exact I1.fpOk hle (I1.hok.fresh hle)
  rcases q with ⟨a, xs, rfl, hq, q⟩ | ⟨a, xs, rfl, hq, q⟩ | ⟨z, rfl, q⟩
  · obtain rfl : u = Value.ref a := ru
    obtain ⟨its, rv, p', hz⟩ := I1.list hq
    refine call_enumerate_list p'.isList fun h' he hit hsz hk => wpAny_pyIter_enum he ?_
    have I2 : L2.Inv X pins σ H1 { s1 with heap := h' } := I1.kept (t' := s1.toks) hk
    exact ⟨s1.heap.objs.size + 1, [s1.heap.objs.size + 1, s1.heap.objs.size], _, _, H1, rfl, I2, turn_enum a (s1.heap.objs.size + 1) s1.heap.objs.size, ⟨⟨.none, he⟩, hit, Nat.succ_ne_self _⟩, ffp, q⟩
  · obtain rfl : u = Value.ref a := ru
    obtain ⟨its, rv, p', hz⟩ := I1.tuple hq
    refine call_enum1 (begins_tuple a its.toArray) p' fun h' he hit hsz hk => wpAny_pyIter_enum he ?_
    have I2 : L2.Inv X pins σ H1 { s1 with heap := h' } := I1.kept (t' := s1.toks) hk
    exact ⟨s1.heap.objs.size + 1, [s1.heap.objs.size + 1, s1.heap.objs.size], _, _, H1, rfl, I2, turn_enumT a (s1.heap.objs.size + 1) s1.heap.objs.size, ⟨⟨.none, he⟩, ⟨_, hit, rfl, rfl⟩, Nat.succ_ne_self _⟩, ffp, q⟩
  · obtain ⟨t, rfl⟩ := ru
    refine call_enumerate_str fun h' he hit hsz hk => wpAny_pyIter_enum he ?_
    have I2 : L2.Inv X pins σ H1 { s1 with heap := h' } := I1.kept (t' := s1.toks) hk
    exact ⟨s1.heap.objs.size + 1, [s1.heap.objs.size + 1, s1.heap.objs.size], _, _, H1, rfl, I2, turn_enumS z t (s1.heap.objs.size + 1) s1.heap.objs.size, ⟨⟨.none, he⟩, hit, Nat.succ_ne_self _⟩, ffp, q⟩
end
section
variable {X : Cx} {K : PySem.W.Frag} {ioA : Nat → Option Addr} {G0 H0 G G' H H' : Hp} {σ σ' : L2.St} {ρ ρ' : Rho} {v : V} {r : Vl}
theorem enumD_get {ds : List D} {i : Nat} {d : D} (e : (enumD ds)[i]? = some d) : ∃ d1, ds[i]? = some d1 ∧ d = .tuple [.int (i : Nat), d1] := by
  unfold enumD at e
  rw [List.getElem?_map] at e
  obtain ⟨⟨d1, k⟩, e1, e2⟩ := Option.map_eq_some_iff.mp e
  rw [List.getElem?_zipIdx] at e1
  obtain ⟨d2, e3, e4⟩ := Option.map_eq_some_iff.mp e1
  cases e4
  exact ⟨d1, e3, by rw [← e2]; simp⟩
theorem enumD_len (ds : List D) : (enumD ds).length = ds.length := by simp [enumD]
theorem wk_enum {a : Addr} {xs : List V} {ds : List D} (h : SqL K G a xs) (hd : DpAll K G xs ds) : WkD K G (Ite K a) (enumD ds) := by
  have hl := dps_len hd
  have hn := enumD_len ds
  refine ⟨fun i H hi s => ?_, fun H s => ⟨xs, s.seq h, by omega⟩, fun i H x H' hi s y => ?_⟩
  · exact ⟨xs, xs[i], s.seq h, List.getElem?_eq_getElem (by omega)⟩
  · obtain ⟨T, x1, rfl, hT, rfl, f1⟩ := y
    intro Gi g1 g2 d e
    obtain ⟨d1, e1, rfl⟩ := enumD_get e
    obtain ⟨v1, q1, q2⟩ := dps_getD hd e1
    have z1 := (f1 xs (s.seq h)).symm.trans q1
    cases z1
    exact grow_pair g2 hT (.int _) (dpM g1 _ _ q2)
theorem wk_enumT {a : Addr} {xs : List V} {ds : List D} (h : SqT K G a xs) (hd : DpAll K G xs ds) : WkD K G (IteT K a) (enumD ds) := by
  have hl := dps_len hd
  have hn := enumD_len ds
  refine ⟨fun i H hi s => ?_, fun H s => ⟨xs, seqT s h, by omega⟩, fun i H x H' hi s y => ?_⟩
  · exact ⟨xs, xs[i], seqT s h, List.getElem?_eq_getElem (by omega)⟩
  · obtain ⟨T, x1, rfl, hT, rfl, f1⟩ := y
    intro Gi g1 g2 d e
    obtain ⟨d1, e1, rfl⟩ := enumD_get e
    obtain ⟨v1, q1, q2⟩ := dps_getD hd e1
    have z1 := (f1 xs (seqT s h)).symm.trans q1
    cases z1
    exact grow_pair g2 hT (.int _) (dpM g1 _ _ q2)
theorem wk_enumS {x : Str} : WkD K G (IteS x) (enumD (x.cps.toList.map fun c => .str ⟨#[c]⟩)) := by
  have hn : (enumD (x.cps.toList.map fun c => (.str ⟨#[c]⟩ : D))).length = x.cps.size := by rw [enumD_len]; simp
  refine ⟨fun i H hi s => ?_, fun H s => ?_, fun i H v H' hi s y => ?_⟩
  · show i < x.cps.size
    omega
  · show x.cps.size = _
    omega
  · obtain ⟨T, c, rfl, hT, rfl, hc⟩ := y
    intro Gi g1 g2 d e
    obtain ⟨d1, e1, rfl⟩ := enumD_get e
    have hc' : x.cps.toList[i]? = some c := by simpa using hc
    rw [List.getElem?_map, hc'] at e1
    cases e1
    exact grow_pair g2 hT (.int _) (.str _)
theorem pd_enum {e : Expr} {f : FE} {p pos tpos : Pos} {elts : List Expr} {kk : Nat} (hg : Gl X "enumerate") (hm : X.mg "enumerate" = none) (he : PD X e f) (hs : starEach [e] X.env = (false, eval e X.env) :: starEach [] X.env := by rfl) :
    PDI X (.Tuple elts kk tpos) (.Call (.Name "enumerate" p) [e] [] pos) (iEnum f) := by
  have hp : PDA X [e] (aCons f aNil) := pd_cons he pd_nil hs
  refine ⟨pi_w (pi_enumA hg hm hp.pa (by rw [hs]; rfl)) fun σ H R q => ?_, fun ρ r ρ' q => ?_⟩
  · obtain ⟨ioA, G0, H0, G, ρ, ds, ρ', S, e, k⟩ := q
    obtain ⟨⟨r1, ρ1⟩, e1, e⟩ := bnd e
    simp only at e
    split at e
    · rename_i d z
      obtain ⟨ds', e2, e⟩ := bnd e
      cases e
      refine ⟨ioA, G0, H0, G, ρ, [stl r1], ρ', S, by unfold aCons aNil; simp only [e1, Option.bind_some], fun G1 vs H1 g1 S1 R1 => ?_⟩
      rw [z] at R1
      cases R1 with
      | cons h t =>
        cases t
        rename_i v
        refine ⟨v, rfl, ?_⟩
        cases d with
        | list l =>
          cases e2
          obtain ⟨a, xs, h1, h2, h3⟩ := dp_list h
          exact .inl ⟨a, xs, h1, S1.sub.seq h2, k G1 _ H1 g1 S1 (wk_enum h2 h3)⟩
        | tuple l =>
          cases e2
          obtain ⟨a, xs, h1, h2, h3⟩ := dp_tuple h
          exact .inr (.inl ⟨a, xs, h1, seqT S1.sub h2, k G1 _ H1 g1 S1 (wk_enumT h2 h3)⟩)
        | str x =>
          cases e2
          exact .inr (.inr ⟨x, dp_str h, k G1 _ H1 g1 S1 wk_enumS⟩)
        | _ => cases e2
    · cases e
  · obtain ⟨⟨r1, ρ1⟩, e1, e⟩ := bnd q
    simp only at e
    split at e
    · obtain ⟨ds', e2, e⟩ := bnd e
      cases e
      exact he.kin _ _ _ e1
    · cases e
end
end PL

/-! PL: the pure layer, 13: calls of built-ins. -/
namespace PL
open PySem PySem.Spec PyProof.Rows L2
section
variable {X : Cx} {K : PySem.W.Frag} {G G' H H' : Hp} {v : V} {d : D}
theorem tops1 {vs : List V} (h : Tops K G H vs [d]) : ∃ v, vs = [v] ∧ Top K G H v d := by
  cases h with
  | cons h t => cases t; exact ⟨_, rfl, h⟩
theorem tops2 {vs : List V} {d e : D} (h : Tops K G H vs [d, e]) : ∃ v w, vs = [v, w] ∧ Top K G H v d ∧ Top K G H w e := by
  cases h with
  | cons h t =>
    cases t with
    | cons h' t => cases t; exact ⟨_, _, rfl, h, h'⟩
def on1 (f : D → Option D) : List D → Option D
  | [d] => f d
  | _ => none
theorem on1_eq {f : D → Option D} {ds : List D} {r : D} (h : on1 f ds = some r) : ∃ d, ds = [d] ∧ f d = some r := by
  cases ds with
  | nil => cases h
  | cons d ds =>
    cases ds with
    | nil => exact ⟨d, rfl, h⟩
    | cons _ _ => cases h
def on2 (f : D → D → Option D) : List D → Option D
  | [d, e] => f d e
  | _ => none
theorem on2_eq {f : D → D → Option D} {ds : List D} {r : D} (h : on2 f ds = some r) : ∃ d e, ds = [d, e] ∧ f d e = some r := by
  cases ds with
  | nil => cases h
  | cons d ds =>
    cases ds with
    | nil => cases h
    | cons e ds =>
      cases ds with
      | nil => exact ⟨d, e, rfl, h⟩
      | cons _ _ => cases h
/-- the items of a list or tuple value -/
theorem top_seq {ds : List D} (h : Top K G H v d) (s : Same G H) (e : d = .list ds ∨ d = .tuple ds) : ∃ a xs, v = .ref a ∧ (SqL K H a xs ∨ SqT K H a xs) ∧ DpAll K G xs ds := by
  rcases e with rfl | rfl
  · obtain ⟨a, xs, h1, h2, h3⟩ := top_list h s
    exact ⟨a, xs, h1, .inl h2, h3⟩
  · obtain ⟨a, xs, h1, h2, h3, _⟩ := top_tuple h s
    exact ⟨a, xs, h1, .inr h2, h3⟩
def seqOf : D → Option (List D)
  | .list ds => some ds
  | .tuple ds => some ds
  | _ => none
theorem seqOf_eq {ds : List D} (h : seqOf d = some ds) : d = .list ds ∨ d = .tuple ds := by
  cases d <;> cases h
  · exact .inl rfl
  · exact .inr rfl

/-! ### len -/
def fLen : List D → Option D := on1 fun d => match d with
  | .str z => if z.length ≤ lineN then some (.int z.length) else none
  | .list ds => some (.int ds.length)
  | .tuple ds => some (.int ds.length)
  | _ => none
theorem so_len : CallR X (.builtin "len") (rNA X.K .pu fLen) := callr_of fun vs H Q q => by
  obtain ⟨G, ds, r, s, hv, o, k⟩ := q
  obtain ⟨d, rfl, o⟩ := on1_eq o
  obtain ⟨v, rfl, hx⟩ := tops1 hv
  cases d with
  | str z =>
    have o' : (if z.length ≤ lineN then some (PyData.int z.length) else none) = some r := o
    by_cases hz : z.length ≤ lineN
    · rw [if_pos hz] at o'
      cases o'
      exact ⟨_, call_len_str, z, by rw [top_str hx], by rw [← lineN_eq]; exact hz, fin_int s k⟩
    · rw [if_neg hz] at o'; cases o'
  | list ds =>
    cases o
    obtain ⟨a, xs, rfl, h2, h3⟩ := top_seq hx s (.inl rfl)
    refine ⟨_, call_len_seq, a, xs, rfl, h2, ?_⟩
    rw [dps_len h3]
    exact fin_int s k
  | tuple ds =>
    cases o
    obtain ⟨a, xs, rfl, h2, h3⟩ := top_seq hx s (.inr rfl)
    refine ⟨_, call_len_seq, a, xs, rfl, h2, ?_⟩
    rw [dps_len h3]
    exact fin_int s k
  | _ => cases o

/-! ### sum, max, min -/
def rSumA (K : PySem.W.Frag) : List V → Hp → VK → Prop := fun vs H Q => ∃ (a : Addr) (ns : List Int), vs = [V.ref a] ∧ (SqL K H a (ns.map V.int) ∨ SqT K H a (ns.map V.int)) ∧ Q (.int ns.sum) H
theorem cr_sumA (hc : X.calm = true) : CallR X (.builtin "sum") (rSumA X.K) := by
  intro pins s σ H vs us Q I r h
  obtain ⟨a, ns, rfl, hs, q⟩ := h
  rcases hs with hs | hs
  · exact cr_sum hc pins s σ H _ us Q I r ⟨a, ns, rfl, hs, q⟩
  · obtain ⟨its, rv, hl, _⟩ := I.tuple hs
    rw [Vals.ref1 r]
    have hi := rv.ints
    obtain ⟨xs, e⟩ := hi.allInts.items
    have hn : numsOf (intItems xs).toList = ns := by rw [← e]; exact hi.numsOf
    rw [nums_intItems] at hn
    have hl' : s.heap.IsTuple a (intItems xs) := by rw [← e]; exact hl
    refine PySem.W.ktm_sumG (I.ok.hd hc) hl' fun h' tk t' hk => ?_
    rw [preSum_eq, List.take_of_length_le (by simp), hn]
    exact ⟨.int _, H, I.kept hk, ⟨_, rfl⟩, q⟩
def fSum : List D → Option D := on1 fun d => (seqOf d).bind fun ds => (intsOf ds).bind fun ns => some (.int ns.sum)
theorem so_sum (hc : X.calm = true) : CallR X (.builtin "sum") (rNA X.K .pu fSum) := callr_of fun vs H Q q => by
  obtain ⟨G, ds, r, s, hv, o, k⟩ := q
  obtain ⟨d, rfl, o⟩ := on1_eq o
  obtain ⟨v, rfl, hx⟩ := tops1 hv
  obtain ⟨es, e1, o⟩ := bnd o
  obtain ⟨ns, e2, o⟩ := bnd o
  cases o
  obtain ⟨a, xs, rfl, h2, h3⟩ := top_seq hx s (seqOf_eq e1)
  rw [intsOf_eq e2] at h3
  rw [dps_ints h3] at h2
  exact ⟨_, cr_sumA hc, a, ns, rfl, h2, fin_int s k⟩
def rMaxA (K : PySem.W.Frag) : List V → Hp → VK → Prop := fun vs H Q => ∃ (a : Addr) (n : Int) (ns : List Int), vs = [V.ref a] ∧ (SqL K H a ((n :: ns).map V.int) ∨ SqT K H a ((n :: ns).map V.int)) ∧ Q (.int (ns.foldl max n)) H
theorem alike_ints0 (n : Int) (ns : List Int) : PySem.W.AlikeAll (.int n :: ns.map .int) := by
  refine ⟨fun x hx y hy => ?_, fun x hx => ?_⟩
  · have h1 : ∃ i, x = .int i := by
      rcases List.mem_cons.mp hx with e | e
      · exact ⟨n, e⟩
      · obtain ⟨i, _, e⟩ := List.mem_map.mp e; exact ⟨i, e.symm⟩
    have h2 : ∃ i, y = .int i := by
      rcases List.mem_cons.mp hy with e | e
      · exact ⟨n, e⟩
      · obtain ⟨i, _, e⟩ := List.mem_map.mp e; exact ⟨i, e.symm⟩
    obtain ⟨i, rfl⟩ := h1
    obtain ⟨j, rfl⟩ := h2
    rfl
  · rcases List.mem_cons.mp hx with e | e
    · rw [e]; exact fun z => nomatch z
    · obtain ⟨i, _, e⟩ := List.mem_map.mp e
      rw [← e]; exact fun z => nomatch z
theorem depth_ints0 (n : Int) (ns : List Int) : PyData.depthAll (.int n :: ns.map .int) = 0 := PySem.W.depth_ints (n :: ns)
theorem reads_ints {h : Heap} : ∀ {ns : List Int} {us : List Value}, Vals (ns.map V.int) us → ∃ as, ReadsAll h us (ns.map .int) as
  | [], us, r => by cases r; exact ⟨_, .nil⟩
  | n :: ns, us, r => by
    cases r with
    | cons r1 r2 =>
      obtain ⟨t, rfl⟩ := r1
      obtain ⟨as, h2⟩ := reads_ints r2
      exact ⟨_, .cons (.int n t) h2⟩
theorem cr_maxA (hc : X.calm = true) (hu : X.A.units + 65 < cLine) : CallR X (.builtin "max") (rMaxA X.K) := by
  intro pins s σ H vs us Q I r h
  obtain ⟨a, n, ns, rfl, hs, q⟩ := h
  rw [Vals.ref1 r]
  rcases hs with hs | hs
  · obtain ⟨its, rv, hl, _⟩ := I.list hs
    obtain ⟨as, hr⟩ := reads_ints (h := s.heap) (ns := n :: ns) rv
    refine PySem.W.max_list_data (vs := its.toArray) (x := .int n) (xs := ns.map .int) (I.ok.hd hc) hl.isList (by simpa using hr) (alike_ints0 n ns) (by rw [depth_ints0]; omega) fun i w h' tk bs hw hrd hk => ?_
    rw [PySem.W.maxD_ints] at hrd
    cases hrd
    exact ⟨.int _, H, I.kept hk, ⟨_, rfl⟩, q⟩
  · obtain ⟨its, rv, hl, _⟩ := I.tuple hs
    obtain ⟨as, hr⟩ := reads_ints (h := s.heap) (ns := n :: ns) rv
    refine PySem.W.max_tuple_data (vs := its.toArray) (x := .int n) (xs := ns.map .int) (I.ok.hd hc) hl (by simpa using hr) (alike_ints0 n ns) (by rw [depth_ints0]; omega) fun i w h' tk bs hw hrd hk => ?_
    rw [PySem.W.maxD_ints] at hrd
    cases hrd
    exact ⟨.int _, H, I.kept hk, ⟨_, rfl⟩, q⟩
def rMinA (K : PySem.W.Frag) : List V → Hp → VK → Prop := fun vs H Q => ∃ (a : Addr) (n : Int) (ns : List Int), vs = [V.ref a] ∧ (SqL K H a ((n :: ns).map V.int) ∨ SqT K H a ((n :: ns).map V.int)) ∧ Q (.int (ns.foldl min n)) H
theorem cr_minA (hc : X.calm = true) (hu : X.A.units + 65 < cLine) : CallR X (.builtin "min") (rMinA X.K) := by
  intro pins s σ H vs us Q I r h
  obtain ⟨a, n, ns, rfl, hs, q⟩ := h
  rw [Vals.ref1 r]
  rcases hs with hs | hs
  · obtain ⟨its, rv, hl, _⟩ := I.list hs
    obtain ⟨as, hr⟩ := reads_ints (h := s.heap) (ns := n :: ns) rv
    refine PySem.W.min_list_data (vs := its.toArray) (x := .int n) (xs := ns.map .int) (I.ok.hd hc) hl.isList (by simpa using hr) (alike_ints0 n ns) (by rw [depth_ints0]; omega) fun i w h' tk bs hw hrd hk => ?_
    rw [PySem.W.minD_ints] at hrd
    cases hrd
    exact ⟨.int _, H, I.kept hk, ⟨_, rfl⟩, q⟩
  · obtain ⟨its, rv, hl, _⟩ := I.tuple hs
    obtain ⟨as, hr⟩ := reads_ints (h := s.heap) (ns := n :: ns) rv
    refine PySem.W.min_tuple_data (vs := its.toArray) (x := .int n) (xs := ns.map .int) (I.ok.hd hc) hl (by simpa using hr) (alike_ints0 n ns) (by rw [depth_ints0]; omega) fun i w h' tk bs hw hrd hk => ?_
    rw [PySem.W.minD_ints] at hrd
    cases hrd
    exact ⟨.int _, H, I.kept hk, ⟨_, rfl⟩, q⟩
def maxI : List Int → Option D
  | n :: ns => some (.int (ns.foldl max n))
  | [] => none
def minI : List Int → Option D
  | n :: ns => some (.int (ns.foldl min n))
  | [] => none
def fMax : List D → Option D
  | [d] => (seqOf d).bind fun ds => (intsOf ds).bind maxI
  | [.int i, .int j] => some (.int (if j > i then j else i))
  | _ => none
def fMin : List D → Option D
  | [d] => (seqOf d).bind fun ds => (intsOf ds).bind minI
  | [.int i, .int j] => some (.int (if j < i then j else i))
  | _ => none
theorem so_max (hc : X.calm = true) (hu : X.A.units + 65 < cLine) : CallR X (.builtin "max") (rNA X.K .pu fMax) := callr_of fun vs H Q q => by
  obtain ⟨G, ds, r, s, hv, o, k⟩ := q
  unfold fMax at o
  split at o
  · obtain ⟨v, rfl, hx⟩ := tops1 hv
    obtain ⟨es, e1, o⟩ := bnd o
    obtain ⟨ns, e2, o⟩ := bnd o
    cases ns with
    | nil => cases o
    | cons n ns =>
      cases o
      obtain ⟨a, xs, rfl, h2, h3⟩ := top_seq hx s (seqOf_eq e1)
      rw [intsOf_eq e2] at h3
      rw [dps_ints h3] at h2
      exact ⟨_, cr_maxA hc hu, a, n, ns, rfl, h2, fin_int s k⟩
  · cases o
    obtain ⟨v, w, rfl, hx, hy⟩ := tops2 hv
    exact ⟨_, call_max2 hc, _, _, by rw [top_int hx, top_int hy], fin_int s k⟩
  · cases o
theorem so_min (hc : X.calm = true) (hu : X.A.units + 65 < cLine) : CallR X (.builtin "min") (rNA X.K .pu fMin) := callr_of fun vs H Q q => by
  obtain ⟨G, ds, r, s, hv, o, k⟩ := q
  unfold fMin at o
  split at o
  · obtain ⟨v, rfl, hx⟩ := tops1 hv
    obtain ⟨es, e1, o⟩ := bnd o
    obtain ⟨ns, e2, o⟩ := bnd o
    cases ns with
    | nil => cases o
    | cons n ns =>
      cases o
      obtain ⟨a, xs, rfl, h2, h3⟩ := top_seq hx s (seqOf_eq e1)
      rw [intsOf_eq e2] at h3
      rw [dps_ints h3] at h2
      exact ⟨_, cr_minA hc hu, a, n, ns, rfl, h2, fin_int s k⟩
  · cases o
    obtain ⟨v, w, rfl, hx, hy⟩ := tops2 hv
    exact ⟨_, call_min2 hc, _, _, by rw [top_int hx, top_int hy], fin_int s k⟩
  · cases o

/-! ### all, any of a list of bools -/
def fAll : List D → Option D := on1 fun d => match d with
  | .list ds => (boolsOf ds).bind fun bs => some (.bool (bs.all id))
  | _ => none
theorem so_all (hc : X.calm = true) : CallR X (.builtin "all") (rNA X.K .pu fAll) := callr_of fun vs H Q q => by
  obtain ⟨G, ds, r, s, hv, o, k⟩ := q
  obtain ⟨d, rfl, o⟩ := on1_eq o
  obtain ⟨v, rfl, hx⟩ := tops1 hv
  cases d with
  | list ds =>
    obtain ⟨bs, e2, o⟩ := bnd (show (boolsOf ds).bind (fun bs => some (PyData.bool (bs.all id))) = some r from o)
    cases o
    obtain ⟨a, xs, rfl, h2, h3⟩ := top_list hx s
    rw [boolsOf_eq e2] at h3
    rw [dps_bools h3] at h2
    exact ⟨_, cr_all hc, a, bs, rfl, h2, fin_bool s k⟩
  | _ => cases o
def fAny : List D → Option D := on1 fun d => match d with
  | .list ds => (boolsOf ds).bind fun bs => some (.bool (bs.any id))
  | _ => none
theorem so_any (hc : X.calm = true) : CallR X (.builtin "any") (rNA X.K .pu fAny) := callr_of fun vs H Q q => by
  obtain ⟨G, ds, r, s, hv, o, k⟩ := q
  obtain ⟨d, rfl, o⟩ := on1_eq o
  obtain ⟨v, rfl, hx⟩ := tops1 hv
  cases d with
  | list ds =>
    obtain ⟨bs, e2, o⟩ := bnd (show (boolsOf ds).bind (fun bs => some (PyData.bool (bs.any id))) = some r from o)
    cases o
    obtain ⟨a, xs, rfl, h2, h3⟩ := top_list hx s
    rw [boolsOf_eq e2] at h3
    rw [dps_bools h3] at h2
    exact ⟨_, cr_any hc, a, bs, rfl, h2, fin_bool s k⟩
  | _ => cases o

/-! ### tuple, list, abs, int -/
def fTuple : List D → Option D := on1 fun d => (seqOf d).bind fun ds => some (.tuple ds)
theorem so_tuple : CallR X (.type "tuple") (rNA X.K .pu fTuple) := callr_of fun vs H Q q => by
  obtain ⟨G, ds, r, s, hv, o, k⟩ := q
  obtain ⟨d, rfl, o⟩ := on1_eq o
  obtain ⟨v, rfl, hx⟩ := tops1 hv
  obtain ⟨es, e1, o⟩ := bnd o
  cases o
  rcases seqOf_eq e1 with rfl | rfl
  · obtain ⟨a, xs, rfl, h2, h3⟩ := top_list hx s
    exact ⟨_, call_tuple_of, a, xs, rfl, .inl ⟨h2, fin_tup s h3 k⟩⟩
  · obtain ⟨a, xs, rfl, h2, h3, h4⟩ := top_tuple hx s
    exact ⟨_, call_tuple_of, a, xs, rfl, .inr ⟨h2, fin_same s h4 k⟩⟩
def signsD (x : Str) : List D := x.cps.toList.map fun c => .str ⟨#[c]⟩
def signsV (x : Str) : List V := x.cps.toList.map fun c => .str ⟨#[c]⟩
theorem signs_dps : ∀ (l : List Nat), DpAll K G (l.map fun c => V.str ⟨#[c]⟩) (l.map fun c => PyData.str ⟨#[c]⟩)
  | [] => .nil
  | c :: l => .cons (.str _) (signs_dps l)
theorem vals_signs {x : Str} {acc : Array Value} (h : ItemsOf (SignAt x) acc x.cps.size) : Vals (signsV x) acc.toList := by
  have h1 : acc.size = x.cps.size := h.1
  have key : ∀ (l : List Nat) (us : List Value), us.length = l.length → (∀ (j : Nat) u, us[j]? = some u → ∃ (c : Nat) (t : Tok), l[j]? = some c ∧ u = Value.str ⟨#[c]⟩ t) → Vals (l.map fun c => V.str ⟨#[c]⟩) us := by
    intro l
    induction l with
    | nil =>
      intro us h _
      cases us with
      | nil => exact .nil
      | cons u us => cases h
    | cons c l ih =>
      intro us hl hg
      cases us with
      | nil => cases hl
      | cons u us =>
        obtain ⟨c', t, e1, e2⟩ := hg 0 u rfl
        have e3 : c = c' := by simpa using e1
        subst e3
        refine .cons ⟨t, e2⟩ (ih us (by simpa using hl) fun j u' hj => ?_)
        obtain ⟨c2, t2, e4, e5⟩ := hg (j + 1) u' (by simpa using hj)
        exact ⟨c2, t2, by simpa using e4, e5⟩
  refine key _ _ (by simpa using h1) fun j u hj => ?_
  obtain ⟨c, t, hc, hu⟩ := h.2 j u (by simpa using hj)
  exact ⟨c, t, by simpa using hc, hu⟩
def rListStr : List V → Hp → VK → Prop := fun vs H Q => ∃ x, vs = [V.str x] ∧ x.length ≤ sizeLine ∧ ∀ l, H l = none → Q (.ref l) (upd H l (.lst (signsV x)))
theorem cr_listStr (hc : X.calm = true) : CallR X (.type "list") rListStr := by
  intro pins s σ H vs us Q I r h
  obtain ⟨x, rfl, hz, q⟩ := h
  obtain ⟨u, rfl, t, rfl⟩ := vals1 r
  refine call_list_str (I.ok.hd hc) x t (hn := hz) fun h' tk acc c' hk e' hi => ?_
  refine ⟨.ref s.heap.objs.size, upd H s.heap.objs.size (.lst (signsV x)), I.laid (t' := tk) hk (Nat.le_refl _) (show ObjOk X.prog X.w _ _ _ (.lst (signsV x)) from ⟨?_, acc.toList, c', vals_signs hi, ?_⟩), rfl, q _ (I.hok.fresh (Nat.le_refl _))⟩
  · unfold signsV
    rw [List.length_map, Array.length_toList]
    exact hz
  · rw [Array.toArray_toList]; exact e'
def fList : List D → Option D := on1 fun d => match d with
  | .list ds => some (.list ds)
  | .tuple ds => some (.list ds)
  | .str x => if x.length ≤ lineN then some (.list (signsD x)) else none
  | _ => none
theorem so_list (hc : X.calm = true) : CallR X (.type "list") (rNA X.K mk fList) := callr_of fun vs H Q q => by
  obtain ⟨G, ds, r, s, hv, o, k⟩ := q
  obtain ⟨d, rfl, o⟩ := on1_eq o
  obtain ⟨v, rfl, hx⟩ := tops1 hv
  cases d with
  | list ds =>
    cases o
    obtain ⟨a, xs, rfl, h2, h3⟩ := top_seq hx s (.inl rfl)
    exact ⟨_, call_list_of, a, xs, rfl, h2, fin_list s h3 k⟩
  | tuple ds =>
    cases o
    obtain ⟨a, xs, rfl, h2, h3⟩ := top_seq hx s (.inr rfl)
    exact ⟨_, call_list_of, a, xs, rfl, h2, fin_list s h3 k⟩
  | str x =>
    have o' : (if x.length ≤ lineN then some (PyData.list (signsD x)) else none) = some r := o
    by_cases hz : x.length ≤ lineN
    · rw [if_pos hz] at o'
      cases o'
      exact ⟨_, cr_listStr hc, x, by rw [top_str hx], by rw [← lineN_eq]; exact hz, fin_list s (signs_dps _) k⟩
    · rw [if_neg hz] at o'; cases o'
  | _ => cases o
def fAbs : List D → Option D := on1 fun d => match d with
  | .int i => some (.int (if i < 0 then -i else i))
  | _ => none
theorem so_abs : CallR X (.builtin "abs") (rNA X.K .pu fAbs) := callr_of fun vs H Q q => by
  obtain ⟨G, ds, r, s, hv, o, k⟩ := q
  obtain ⟨d, rfl, o⟩ := on1_eq o
  obtain ⟨v, rfl, hx⟩ := tops1 hv
  cases d with
  | int i =>
    cases o
    exact ⟨_, call_abs, i, by rw [top_int hx], fin_int s k⟩
  | _ => cases o
def fInt : List D → Option D := on1 fun d => match d with
  | .int i => some (.int i)
  | .bool b => some (.int (if b then 1 else 0))
  | _ => none
theorem so_int : CallR X (.type "int") (rNA X.K .pu fInt) := callr_of fun vs H Q q => by
  obtain ⟨G, ds, r, s, hv, o, k⟩ := q
  obtain ⟨d, rfl, o⟩ := on1_eq o
  obtain ⟨v, rfl, hx⟩ := tops1 hv
  cases d with
  | int i =>
    cases o
    exact ⟨_, call_int1, .inl ⟨i, by rw [top_int hx], fin_int s k⟩⟩
  | bool b =>
    cases o
    exact ⟨_, call_int1, .inr ⟨b, by rw [top_bool hx], fin_int s k⟩⟩
  | _ => cases o

/-! ### sorted, ints -/
/-- by insertion: the kernel works it out -/
def insUp (a : Int) : List Int → List Int
  | [] => [a]
  | b :: l => if a ≤ b then a :: b :: l else b :: insUp a l
def srtUp : List Int → List Int
  | [] => []
  | a :: l => insUp a (srtUp l)
theorem insUp_perm (a : Int) : ∀ l : List Int, (insUp a l).Perm (a :: l)
  | [] => List.Perm.refl _
  | b :: l => by
    unfold insUp
    split
    · exact List.Perm.refl _
    · exact ((insUp_perm a l).cons b).trans (List.Perm.swap a b l)
theorem insUp_srt (a : Int) : ∀ l : List Int, l.Pairwise (· ≤ ·) → (insUp a l).Pairwise (· ≤ ·)
  | [], _ => List.pairwise_singleton _ _
  | b :: l, h => by
    obtain ⟨h1, h2⟩ := List.pairwise_cons.mp h
    unfold insUp
    split
    · rename_i hab
      refine List.pairwise_cons.mpr ⟨fun x hx => ?_, h⟩
      rcases List.mem_cons.mp hx with rfl | hx
      · exact hab
      · exact Int.le_trans hab (h1 x hx)
    · rename_i hab
      refine List.pairwise_cons.mpr ⟨fun x hx => ?_, insUp_srt a l h2⟩
      rcases List.mem_cons.mp ((insUp_perm a l).mem_iff.mp hx) with rfl | hx
      · omega
      · exact h1 x hx
theorem srtUp_perm : ∀ l : List Int, (srtUp l).Perm l
  | [] => List.Perm.refl _
  | a :: l => (insUp_perm a (srtUp l)).trans ((srtUp_perm l).cons a)
theorem srtUp_srt : ∀ l : List Int, (srtUp l).Pairwise (· ≤ ·)
  | [] => List.Pairwise.nil
  | a :: l => insUp_srt a (srtUp l) (srtUp_srt l)
def srtDn (ns : List Int) : List Int := (srtUp ns).reverse
theorem srtUp_eq {ns ms : List Int} (h : ms.Perm ns) (p : ms.Pairwise (· ≤ ·)) : ms = srtUp ns :=
  List.Perm.eq_of_pairwise (fun x y _ _ h1 h2 => Int.le_antisymm h1 h2) p (srtUp_srt ns) (h.trans (srtUp_perm ns).symm)
theorem srtDn_eq {ns ms : List Int} (h : ms.Perm ns) (p : ms.Pairwise (· ≥ ·)) : ms = srtDn ns := by
  have p2 : (srtDn ns).Pairwise (· ≥ ·) := by
    unfold srtDn
    rw [List.pairwise_reverse]
    exact srtUp_srt ns
  exact List.Perm.eq_of_pairwise (fun x y _ _ h1 h2 => Int.le_antisymm h2 h1) p p2 (h.trans ((List.reverse_perm _).trans (srtUp_perm ns)).symm)
def fSorted : List D → Option D := on1 fun d => match d with
  | .list ds => (intsOf ds).bind fun ns => some (.list ((srtUp ns).map .int))
  | _ => none
theorem so_sorted : CallR X (.builtin "sorted") (rNA X.K mk fSorted) := callr_of fun vs H Q q => by
  obtain ⟨G, ds, r, s, hv, o, k⟩ := q
  obtain ⟨d, rfl, o⟩ := on1_eq o
  obtain ⟨v, rfl, hx⟩ := tops1 hv
  cases d with
  | list ds =>
    obtain ⟨ns, e2, o⟩ := bnd (show (intsOf ds).bind (fun ns => some (PyData.list ((srtUp ns).map .int))) = some r from o)
    cases o
    obtain ⟨a, xs, rfl, h2, h3⟩ := top_list hx s
    rw [intsOf_eq e2] at h3
    rw [dps_ints h3] at h2
    refine ⟨_, cr_sortedI, a, ns, rfl, h2, fun ns' p h4 h5 hp => ?_⟩
    rw [srtUp_eq h4 h5]
    exact fin_list s ints_dps k p hp
  | _ => cases o
/-- sorted(e, reverse=True) -/
def fSortedR : List D → Option D := on1 fun d => match d with
  | .list ds => (intsOf ds).bind fun ns => some (.list ((srtDn ns).map .int))
  | _ => none
theorem pd_sortedR {e : Expr} {f : FE} {p pos kp : Pos} {kj : Nat} {kpos : Pos} (hg : Gl X "sorted") (hm : X.mg "sorted" = none) (hv : bootBuiltins "sorted" = some (.builtin "sorted")) (ha : PD X e f)
    (hst : starEach [e] X.env = (false, eval e X.env) :: starEach [] X.env := by rfl)
    (he : backTo pos (starEach [e] X.env) = (false, eval e X.env) :: backTo pos (starEach [] X.env) := by rfl) (hpl : (backTo pos (starEach [e] X.env)).any (·.1) = false := by rfl)
    (hall : (backToKw pos (keywordEach [⟨some "reverse", .Constant (.bool true) kj kp, kpos⟩] X.env)).all (·.1.isSome) = true := by rfl) (hnone : (backToKw pos (keywordEach [⟨some "reverse", .Constant (.bool true) kj kp, kpos⟩] X.env)).any (·.1.isNone) = false := by rfl)
    (hks : (backToKw pos (keywordEach [⟨some "reverse", .Constant (.bool true) kj kp, kpos⟩] X.env)).filterMap (·.1) = [Str.ofString "reverse"] := by rfl) :
    PD X (.Call (.Name "sorted" p) [e] [⟨some "reverse", .Constant (.bool true) kj kp, kpos⟩] pos) (cOpAn fSortedR (aCons f aNil)) := by
  have hp : PDA X [e] (aCons f aNil) := pd_cons ha pd_nil hst
  refine ⟨pe_w (pe_callBK (cr_sortedRev (b := true)) hg hm hv hp.pa (pk_cons pe_bl pk_nil) (by decide) (by decide) he hpl hall hnone hks) fun σ H Q q => ?_, kin_opA hp.kin⟩
  obtain ⟨ioA, G0, H0, G, ρ, r, ρ', S, e, k⟩ := argsB q
  refine ⟨ioA, G0, H0, G, ρ, r, ρ', S, e, fun G' vs H' g S' R => ?_⟩
  obtain ⟨G, ds, r, s, hv, o, k⟩ := k G' vs H' g S' R
  obtain ⟨d, rfl, o⟩ := on1_eq o
  obtain ⟨v, rfl, hx⟩ := tops1 hv
  cases d with
  | list ds =>
    obtain ⟨ns, e2, o⟩ := bnd (show (intsOf ds).bind (fun ns => some (PyData.list ((srtDn ns).map .int))) = some r from o)
    cases o
    obtain ⟨a, xs, rfl, h2, h3⟩ := top_list hx s
    rw [intsOf_eq e2] at h3
    rw [dps_ints h3] at h2
    refine ⟨a, ns, rfl, rfl, h2, fun ns' p h4 h5 hp => ?_⟩
    rw [srtDn_eq h4 h5]
    exact fin_list s ints_dps k p hp
  | _ => cases o

/-! ### tuple(range(..)), list(range(..)) -/
def rgOkB (a b : Int) : Bool := small a && small b && decide ((b - a).toNat ≤ 16777216)
theorem rgOkB_ok {a b : Int} (h : rgOkB a b = true) : RgOk a b := by
  unfold rgOkB at h
  rw [Bool.and_eq_true, Bool.and_eq_true, decide_eq_true_eq] at h
  obtain ⟨h1, h2⟩ := small_ok h.1.1
  obtain ⟨h3, h4⟩ := small_ok h.1.2
  exact ⟨h1, h2, h3, h4, h.2⟩
theorem rg_dps (a : Int) (b : Int) : DpAll K G (rgV a b) (intsD a (b - a).toNat) := by
  unfold rgV intsD
  induction List.range (b - a).toNat with
  | nil => exact .nil
  | cons i l ih => exact .cons (.int _) ih
def cTupRg1 (a : FE) : FE := fun ρ => (a ρ).bind fun p => match p.1 with
  | .pu (.int j) => if rgOkB 0 j = true then some (.pu (.tuple (intsD 0 j.toNat)), p.2) else none
  | _ => none
theorem pd_tupRg1 {e : Expr} {f : FE} {p p2 pos pos2 : Pos} (hc : X.calm = true) (hg : Gl X "tuple") (hm : X.mg "tuple" = none) (hg2 : Gl X "range") (hm2 : X.mg "range" = none) (ha : PD X e f)
    (na : starEach [e] X.env = (false, eval e X.env) :: starEach [] X.env := by rfl)
    (nb : starEach [.Call (.Name "range" p2) [e] [] pos2] X.env = (false, eval (.Call (.Name "range" p2) [e] [] pos2) X.env) :: starEach [] X.env := by rfl) : PD X (.Call (.Name "tuple" p) [.Call (.Name "range" p2) [e] [] pos2] [] pos) (cTupRg1 f) := by
  refine ⟨pe_w (pe_tupRg hc hg hm (prg_1 hg2 hm2 ha.pe na) nb) fun σ H Q q => ?_, fun ρ r ρ' q => ?_⟩
  · obtain ⟨ioA, G0, H0, G, ρ, r, ρ', S, e, k⟩ := q
    obtain ⟨⟨r1, ρ1⟩, e1, e⟩ := bnd e
    simp only at e
    split at e
    · rename_i j
      by_cases hz : rgOkB 0 j = true
      · rw [if_pos hz] at e
        cases e
        refine ⟨ioA, G0, H0, G, ρ, _, _, S, e1, fun G1 v1 H1 g1 S1 R1 => ?_⟩
        cases R1
        refine ⟨j, rfl, rgOkB_ok hz, fun q hq => ?_⟩
        have hd := rg_dps (K := X.K) (G := G1) 0 j
        have ej : (j - 0).toNat = j.toNat := by rw [Int.sub_zero]
        rw [ej] at hd
        obtain ⟨S2, R2⟩ := S1.repN (w := .pu (.tuple (intsD 0 j.toNat))) (grow_new (o := .tup (rgV 0 j)) S1.sub hq) (dp_tup S1.sub hq hd)
        exact k _ _ _ (g1.trans (grow_new (o := .tup (rgV 0 j)) S1.sub hq).g) S2 R2
      · rw [if_neg hz] at e; cases e
    · cases e
  · obtain ⟨⟨r1, ρ1⟩, e1, e⟩ := bnd q
    simp only at e
    split at e
    · split at e <;> cases e
      exact ha.kin _ _ _ e1
    · cases e

/-! ### isinstance of a built-in type -/
def tyName : D → String
  | .none => "NoneType" | .bool _ => "bool" | .int _ => "int" | .str _ => "str" | .list _ => "list" | .tuple _ => "tuple" | .dict _ => "dict"
def isiD (T : String) (d : D) : Bool := tyName d == T || (T == "int" && tyName d == "bool")
def isiOk (T : String) : Bool := ["NoneType", "bool", "int", "str", "list", "tuple"].all fun t => kitB t T == some (t == T || (T == "int" && t == "bool"))
theorem isi_int : isiOk "int" = true := by decide +kernel
theorem isi_bool : isiOk "bool" = true := by decide +kernel
theorem isi_str : isiOk "str" = true := by decide +kernel
theorem isi_list : isiOk "list" = true := by decide +kernel
theorem isi_tuple : isiOk "tuple" = true := by decide +kernel
theorem tyx_of (h : Dp K H v d) : TyX K H v (.type (tyName d)) := by
  cases h with
  | non => exact .base .non
  | bl b => exact .base (.bl b)
  | int i => exact .base (.int i)
  | str x => exact .base (.str x)
  | lst hs _ =>
    rcases hs with (h | ⟨o, h⟩) | ⟨o, its, n, h1, h2, _⟩
    · exact .base (.lst h)
    · exact .base (.frz h)
    · exact .kList h1 h2
  | tup h _ => exact .base (.tup h)
theorem kit_d {T : String} (hT : isiOk T = true) (hd : d.plain = true) : kitB (tyName d) T = some (isiD T d) := by
  unfold isiOk at hT
  rw [List.all_eq_true] at hT
  have key : ∀ t ∈ ["NoneType", "bool", "int", "str", "list", "tuple"], kitB t T = some (t == T || (T == "int" && t == "bool")) := fun t ht => eq_of_beq (hT t ht)
  unfold isiD
  cases d with
  | dict _ => cases hd
  | _ => exact key _ (by simp [tyName])
def opIsi (T : String) : D → Option D := fun d => some (.bool (isiD T d))
theorem pd_isi {T : String} {a : Expr} {f : FE} {Tn : Str} {p p2 pos : Pos} (hT : isiOk T = true) (hg : Gl X "isinstance") (hm : X.mg "isinstance" = none) (hv : bootBuiltins "isinstance" = some (.builtin "isinstance")) (ht : PE X (.Name Tn p2) (tC (.ty T))) (ha : PD X a f)
    (h1 : starEach [a, .Name Tn p2] X.env = (false, eval a X.env) :: starEach [.Name Tn p2] X.env := by rfl) (h2 : starEach [.Name Tn p2] X.env = (false, eval (.Name Tn p2) X.env) :: starEach [] X.env := by rfl)
    (hpl : (backTo pos (starEach [.Name Tn p2] X.env)).any (·.1) = false := by rfl) :
    PD X (.Call (.Name "isinstance" p) [a, .Name Tn p2] [] pos) (cOpn (opIsi T) f) := by
  refine ⟨pe_w (pe_callB call_isi hg hm hv (pa_cons ha.pe (pa_cons ht pa_nil h2) h1) (by decide) (by decide) h1 hpl) fun σ H Q q => ?_, fun ρ r ρ' q => ?_⟩
  · obtain ⟨ioA, G0, H0, G, ρ, r, ρ', S, e, k⟩ := q
    obtain ⟨⟨r1, ρ1⟩, e1, e⟩ := bnd e
    obtain ⟨x, ex, e⟩ := bnd e
    obtain ⟨z, ez, e⟩ := bnd e
    cases e
    cases ez
    show tD X.K f σ H _
    refine ⟨ioA, G0, H0, G, ρ, r1, ρ1, S, e1, fun G1 v1 H1 g1 S1 R1 => ?_⟩
    obtain ⟨G1', g1', S1', R1'⟩ := settle S1 R1
    have T1 := (S1'.top R1' ex).dp S1'.sub
    exact ⟨v1, .ty T, .type (tyName x), .type T, isiD T x, rfl, .ty T, tyx_of T1, kit_ty (kit_d hT (dp_plain x v1 T1)), k G1' _ H1 (g1.trans g1') S1' (Dp.bl _)⟩
  · obtain ⟨⟨r1, ρ1⟩, e1, e⟩ := bnd q
    obtain ⟨x, ex, e⟩ := bnd e
    obtain ⟨z, ez, e⟩ := bnd e
    cases e
    exact ha.kin _ _ _ e1

/-! ### methods of texts -/
def mCount : D → List D → Option D
  | .str a, [.str b] => some (.int (Txt.count a b))
  | _, _ => none
theorem so_count : MtR X "str.count" (rNM X.K .pu mCount) := mtr_of fun x xs H Q q => by
  obtain ⟨G, d, ds, r, s, hx, hv, o, k⟩ := q
  unfold mCount at o
  split at o
  · cases o
    obtain ⟨w, rfl, hy⟩ := tops1 hv
    exact ⟨_, mt_count, _, _, top_str hx, by rw [top_str hy], fin_int s k⟩
  · cases o
def mUpper : D → List D → Option D
  | .str a, [] => if a.length ≤ 5592405 then some (.str (Txt.upper a)) else none
  | _, _ => none
theorem so_upper : MtR X "str.upper" (rNM X.K .pu mUpper) := mtr_of fun x xs H Q q => by
  obtain ⟨G, d, ds, r, s, hx, hv, o, k⟩ := q
  unfold mUpper at o
  split at o
  · split at o <;> cases o
    rename_i hz
    cases hv
    exact ⟨_, mt_upper, _, top_str hx, rfl, hz, fin_str s k⟩
  · cases o
def mJoin : D → List D → Option D
  | .str a, [d] => (seqOf d).bind fun ds => (strsOf ds).bind fun ys => if (ys.map (·.length)).sum + ys.length * a.length ≤ 16777216 then some (.str (Txt.join a ys)) else none
  | _, _ => none
theorem so_join : MtR X "str.join" (rNM X.K .pu mJoin) := mtr_of fun x xs H Q q => by
  obtain ⟨G, d, ds, r, s, hx, hv, o, k⟩ := q
  obtain ⟨a, e, rfl, rfl, o⟩ : ∃ a e, d = .str a ∧ ds = [e] ∧ ((seqOf e).bind fun ds => (strsOf ds).bind fun ys => if (ys.map (·.length)).sum + ys.length * a.length ≤ 16777216 then some (PyData.str (Txt.join a ys)) else none) = some r := by
    unfold mJoin at o
    split at o
    · exact ⟨_, _, rfl, rfl, o⟩
    · cases o
  obtain ⟨w, rfl, hy⟩ := tops1 hv
  obtain ⟨es, e1, o⟩ := bnd o
  obtain ⟨ys, e2, o⟩ := bnd o
  by_cases hz : (ys.map (·.length)).sum + ys.length * a.length ≤ 16777216
  · rw [if_pos hz] at o
    cases o
    obtain ⟨b, us, rfl, h2, h3⟩ := top_seq hy s (seqOf_eq e1)
    rw [strsOf_eq e2] at h3
    rw [dps_strs h3] at h2
    exact ⟨_, mt_join, a, b, ys, top_str hx, rfl, h2, hz, fin_str s k⟩
  · rw [if_neg hz] at o; cases o
end
end PL

/-! PL: sorting tuples, some of them empty. -/
namespace PL
open PySem PySem.Calls PySem.SeqAt PySem.W PyProof.Rows

/-- all are tuples, or none is a tuple or None -/
def SortableG (ds : List PyData) : Prop := (∀ d, d ∈ ds → ∃ xs, d = .tuple xs) ∨ ∀ d, d ∈ ds → d ≠ .none ∧ ∀ xs, d ≠ .tuple xs
section
variable {prog : Program} {w : World} {A : Around} {s : Shared}
theorem call_tuple_lt {E : Value → Shared → Prop} {Q : Value → Shared → Prop} {l b : Addr} {items items2 : Array Value} {e r : Nat → Bool} (hl : s.heap.IsTuple l items) (hb : s.heap.IsTuple b items2)
    (he : ∀ j (h1 : j < items.size) (h2 : j < items2.size), EqAt A.in1 s items[j] items2[j] (e j)) (hr : ∀ j (h1 : j < items.size) (h2 : j < items2.size), e j = false → RcLt A.in1 s items[j] items2[j] (r j))
    (h : Q (.bool (firstLt e r (decide (items.size < items2.size)) (List.range (min items.size items2.size)))) s) : wpAny (model prog w) A (call (.builtin "tuple.__lt__") [.ref l, .ref b]) Q E s := by
  obtain ⟨⟨cls, dd, data, sl⟩, ho, hc, n, hd⟩ := id hl
  obtain ⟨⟨cls2, dd2, data2, sl2⟩, ho2, hc2, n2, hd2⟩ := id hb
  simp only at hc hd hc2 hd2
  subst hc hd hc2 hd2
  exact call_meets F.slot_tuple_lt ⟨_, ho, rfl⟩ F.entry_tuple_lt (F.args_tuple_lt_2 _ _) (tuple_ltAt l b items items2 n n2 dd dd2 sl sl2 e r) ⟨ho, ho2, he, hr, h⟩
theorem oneLt_tup {E : Value → Shared → Prop} {f : Bool} {xs ys : List PyData} {a b : Value} {as bs : List Addr} {Q : Bool → Shared → Prop} (ra : Reads s.heap a (.tuple xs) as) (rb : Reads s.heap b (.tuple ys) bs) (h : alike (.tuple xs) (.tuple ys) = true)
    (hu : A.units + min (PyData.tuple xs).depth (PyData.tuple ys).depth < cLine) (hq : Q (dataLt (.tuple xs) (.tuple ys)) s) : wpAny (model prog w) A (oneLt' f a b) Q E s := by
  cases f with
  | false => exact oneLt_alike (fun z => nomatch z) ra rb h (fun z => nomatch z) hu hq
  | true =>
    have hal : alikeAll xs ys = true := by simpa [alike] using h
    cases ra with
    | @tuple l o vs n _ as₁ h1 h2 h3 h4 =>
      cases rb with
      | @tuple l' o' vs' n' _ bs₁ k1 k2 k3 k4 =>
        have n1 : vs.size = xs.length := by simpa using ReadsAll.length _ _ _ h4
        have n2 : vs'.size = ys.length := by simpa using ReadsAll.length _ _ _ k4
        rw [dataLt_tuple, ← firstLt_toks xs ys hal, ← n1, ← n2] at hq
        rw [oneLt'_eq]
        simp only [if_true]
        refine wpAny_bind (wpAny_cRoomFor (room_here hu) ?_)
        refine wpAny_bind (wpAny_callSpecialIfBound?_slot (T := "tuple") ⟨_, h1, h2⟩ F.slot_tuple_lt (call_tuple_lt (e := pairEq xs ys) (r := fun j => dataLt (xs.getD j .none) (ys.getD j .none)) ⟨_, h1, h2, _, h3⟩ ⟨_, k1, k2, _, k3⟩ (fun j j1 j2 => ?_) (fun j j1 j2 hj => ?_) ?_))
        · have := eqAt_alikeAll xs ys A.in1 s vs.toList vs'.toList _ _ h4 k4 hal (room_in hu) j (by simpa using j1) (by simpa using j2)
          simpa using this
        · have := rcLt_alikeAll xs ys A.in1 s vs.toList vs'.toList _ _ h4 k4 hal (room_in hu) j (by simpa using j1) (by simpa using j2) hj
          simpa using this
        · exact wpAny_truthy_bool hq
def neT : PyData → Bool
  | .tuple (_ :: _) => true
  | _ => false
theorem firsts_any {M : Model} {E : Value → Shared → Prop} : ∀ {vs : List Value} {ds : List PyData}, EachIs (fun v d => ∃ as, Reads s.heap v d as) vs ds → (∀ d, d ∈ ds → ∃ xs, d = .tuple xs) →
    ∃ fs : List (Option Value), fs.map (·.isSome) = ds.map neT ∧ ∀ {Q : List (Option Value) → Shared → Prop}, Q fs s → wpAny M A (vs.mapM firstOfTuple') Q E s
  | _, _, .nil, _ => ⟨[], rfl, fun h => by rw [List.mapM_nil]; exact wpAny_pure h⟩
  | _, _, .cons (b := d) ⟨as, r⟩ t, ht => by
    obtain ⟨fs, h1, h2⟩ := firsts_any (M := M) (E := E) t fun d hd => ht d (List.mem_cons_of_mem _ hd)
    obtain ⟨xs, rfl⟩ := ht d (List.mem_cons_self ..)
    cases r with
    | @tuple a o vs n _ _ ho hc hd hr =>
      refine ⟨vs[0]? :: fs, ?_, fun {Q} h => ?_⟩
      · rw [List.map_cons, List.map_cons, h1]
        have e : vs[0]?.isSome = neT (.tuple xs) := by
          have n1 : vs.size = xs.length := by simpa using ReadsAll.length _ _ _ hr
          cases xs with
          | nil =>
            rw [List.length_nil] at n1
            rw [Array.getElem?_eq_none (by omega)]
            rfl
          | cons x r =>
            rw [List.length_cons] at n1
            rw [Array.getElem?_eq_getElem (by omega)]
            rfl
        rw [e]
      · rw [List.mapM_cons]
        refine wpAny_bind ?_
        rw [kas_first_eq]
        refine wpAny_bind (Looks.here (show Looks M s.heap (typeOf (.ref a)) o.cls from (Looks.ld ho).andThen .now) ?_)
        rw [hc, if_neg (by first | decide | simp)]
        refine wpAny_bind (listItems_at ho hd (wpAny_pure ?_))
        exact wpAny_bind (h2 (Q := fun bs s' => wpAny M A (pure (vs[0]? :: bs)) Q E s') (wpAny_pure h))
/-- not all have an item -/
theorem kind_mix {M : Model} {E : Value → Shared → Prop} {vs : List Value} {d : PyData} {ds : List PyData} {Q : SortKind → Shared → Prop} (e : EachIs (fun v d => ∃ as, Reads s.heap v d as) vs (d :: ds)) (ht : ∀ x, x ∈ d :: ds → ∃ xs, x = .tuple xs)
    (hn : ((d :: ds).all neT) = false) (h : Q (if neT d = true then general' else oneType') s) : wpAny M A (keyKind' vs.toArray) Q E s := by
  obtain ⟨fs, h1, h2⟩ := firsts_any (M := M) (E := E) (A := A) e ht
  rw [keyKind'_eq, List.mapM_toArray, map_eq_pure_bind]
  refine wpAny_bind (wpAny_bind (h2 (wpAny_pure ?_)))
  cases fs with
  | nil => simp at h1
  | cons f fr =>
    rw [List.map_cons, List.map_cons] at h1
    injection h1 with h1 h3
    have hall : ((f :: fr).toArray.all fun x => x.isSome) = false := by
      rw [List.all_toArray]
      have q : ((f :: fr).map (·.isSome)).all id = ((d :: ds).map neT).all id := by rw [List.map_cons, List.map_cons, h1, h3]
      rw [List.all_map, List.all_map] at q
      exact q.trans hn
    rw [if_neg (by rw [hall]; exact Bool.false_ne_true)]
    have h0 : ((f :: fr).toArray[0]?.bind id) = f := by simp
    rw [h0, h1]
    by_cases hd : neT d = true
    · rw [if_pos hd] at h
      rw [if_pos hd]
      exact wpAny_pure h
    · rw [if_neg hd] at h
      rw [if_neg hd]
      have hT : ∀ v ∈ vs, Looks M s.heap (typeOf v) (.type "tuple") := fun v hv => by
        obtain ⟨x, hx, as, r⟩ := e.left v hv
        obtain ⟨xs, rfl⟩ := ht x hx
        exact looks_reads r
      obtain ⟨v, vr, rfl⟩ : ∃ v vr, vs = v :: vr := by
        cases e with
        | cons a b => exact ⟨_, _, rfl⟩
      rw [oneTypeOnly'_eq, List.mapM_toArray, map_eq_pure_bind]
      refine wpAny_bind (wpAny_bind (wpAny_bind (kas_mapM (r := Value.type "tuple") _ (fun v hv Q' hq => (hT v hv).here hq) (wpAny_pure ?_))))
      have hall : ((List.map (fun _ => Value.type "tuple") (v :: vr)).toArray.all fun x => x == Value.type "tuple") = true := by
        simp only [List.all_toArray, List.all_map, List.all_eq_true]
        intro _ _
        exact beq_self_eq_true _
      have h0 : (List.map (fun _ => Value.type "tuple") (v :: vr)).toArray[0]? = some (Value.type "tuple") := by simp
      rw [h0]
      simp only [hall, if_true]
      exact wpAny_pure (wpAny_pure h)
theorem sortsG {vs : List Value} {ds : List PyData} (e : EachIs (fun v d => ∃ as, Reads s.heap v d as) vs ds) (hal : AllAlike ds) (hk : SortableG ds) (hu : ∀ d, d ∈ ds → A.units + d.depth < cLine) : SortsAt prog w A s (dataKind s.heap ds) vs := by
  rcases hk with ht | hn
  · cases hb : ds.all neT with
    | true =>
      refine SortsAt.data e hal (.inl fun d hd => ?_) hu
      have q := List.all_eq_true.mp hb d hd
      obtain ⟨xs, rfl⟩ := ht d hd
      cases xs with
      | nil => cases q
      | cons x r => exact ⟨x, r, rfl⟩
    | false =>
      have room : ∀ {d d' : PyData}, d ∈ ds → A.units + min d.depth d'.depth < cLine := fun {d d'} hd => Nat.lt_of_le_of_lt (Nat.add_le_add_left (Nat.min_le_left _ _) _) (hu d hd)
      refine ⟨fun v hv => ?_, ?_⟩
      · obtain ⟨d, hd, as, r⟩ := e.left v hv
        exact ⟨_, dataKind_some hal hd r⟩
      · cases ds with
        | nil => cases hb
        | cons d₀ ds₀ =>
          have lt : ∀ f : Bool, ∀ (E : Value → Shared → Prop) (x y : Value) (a b : (dataKind s.heap (d₀ :: ds₀)).α) {Q : Bool → Shared → Prop}, (dataKind s.heap (d₀ :: ds₀)).keyOf x = some a → (dataKind s.heap (d₀ :: ds₀)).keyOf y = some b → Q ((dataKind s.heap (d₀ :: ds₀)).blt a b) s → wpAny (model prog w) A (oneLt' f x y) Q E s := by
            intro f E x y a b Q ha hb hq
            obtain ⟨d, as, hd, ra, rfl⟩ := dataKind_inv ha
            obtain ⟨d', as', hd', rb, rfl⟩ := dataKind_inv hb
            obtain ⟨xs, rfl⟩ := ht d hd
            obtain ⟨ys, rfl⟩ := ht d' hd'
            exact oneLt_tup ra rb (hal _ hd _ hd') (room hd) hq
          refine ⟨if neT d₀ = true then general' else oneType', ?_, fun h2 E Q hq => kind_mix e ht hb hq⟩
          by_cases hd : neT d₀ = true
          · rw [if_pos hd]
            exact fun E x y a b Q ha hb hq => lt false E x y a b ha hb hq
          · rw [if_neg hd]
            exact fun E x y a b Q ha hb hq => lt true E x y a b ha hb hq
  · exact SortsAt.data e hal (.inr hn) hu
end
end PL

/-! PL: the pure layer, 18: sorted of any data, list.count, lists and tuples of ranges. -/
namespace PL
open PySem PySem.Spec PyProof.Rows L2
/-! ### sorted -/
def leD (a b : D) : Bool := PySem.W.dataLe false (fun d : D => d) a b
def insD (a : D) : List D → List D
  | [] => [a]
  | b :: l => if leD a b = true then a :: b :: l else b :: insD a l
def srtD : List D → List D
  | [] => []
  | a :: l => insD a (srtD l)
theorem leD_tot : PySem.W.TotalLe leD := PySem.W.sortLe_total (PyProof.Rows.listOrd PyProof.Rows.itemOrd) false fun b : D => PySem.W.keyToks b
theorem insD_mid (a : D) : ∀ (l1 l2 : List D), (∀ b ∈ l1, leD a b = false) → (∀ b ∈ l2, leD a b = true) → insD a (l1 ++ l2) = l1 ++ a :: l2
  | [], [], _, _ => rfl
  | [], b :: l, _, h => by
    show (if leD a b = true then _ else _) = _
    rw [if_pos (h b List.mem_cons_self)]; rfl
  | b :: l1, l2, h1, h2 => by
    show (if leD a b = true then _ else _) = _
    rw [if_neg (by rw [h1 b List.mem_cons_self]; exact Bool.false_ne_true)]
    show b :: insD a (l1 ++ l2) = _
    rw [insD_mid a l1 l2 (fun c hc => h1 c (List.mem_cons_of_mem _ hc)) h2]
    rfl
theorem srtD_eq : ∀ l : List D, srtD l = l.mergeSort leD
  | [] => by simp [srtD]
  | a :: l => by
    obtain ⟨l1, l2, e1, e2, h⟩ := List.mergeSort_cons (le := leD) (fun a b c => leD_tot.trans a b c) (fun a b => by
      have := leD_tot.total a b
      rcases this with q | q <;> simp [q]) a l
    have ih := srtD_eq l
    show insD a (srtD l) = _
    rw [ih, e2, e1]
    refine insD_mid a l1 l2 (fun b hb => by simpa using h b hb) fun b hb => ?_
    have p := PySem.W.sort_pairwise leD_tot (a :: l)
    rw [e1] at p
    have p2 := (List.pairwise_append.mp p).2.1
    exact (List.pairwise_cons.mp p2).1 b hb
def tupB : D → Bool
  | .tuple _ => true
  | _ => false
def plnB : D → Bool
  | .none => false
  | .tuple _ => false
  | _ => true
def sortableB (ds : List D) : Bool := ds.all tupB || ds.all plnB
theorem sortableB_ok {ds : List D} (h : sortableB ds = true) : SortableG ds := by
  unfold sortableB at h
  rcases Bool.or_eq_true_iff.mp h with h | h
  · refine .inl fun d hd => ?_
    have := List.all_eq_true.mp h d hd
    cases d with
    | tuple xs => exact ⟨xs, rfl⟩
    | _ => cases this
  · refine .inr fun d hd => ?_
    have := List.all_eq_true.mp h d hd
    cases d with
    | none => cases this
    | tuple xs => cases this
    | _ => exact ⟨(fun z => by cases z), fun xs z => by cases z⟩
def alikeB (ds : List D) : Bool := ds.all fun d => ds.all fun e => PySem.W.alike d e
theorem alikeB_ok {ds : List D} (h : alikeB ds = true) : PySem.W.AllAlike ds := fun d hd e he => List.all_eq_true.mp (List.all_eq_true.mp h d hd) e he
section
variable {X : Cx} {K : PySem.W.Frag} {G G' H H' : Hp} {v : V} {d : D}
def RvD (K : PySem.W.Frag) (H : Hp) (u : Value) (d : D) : Prop := ∃ x, RelV x u ∧ Dp K H x d
theorem each_of : ∀ {xs : List V} {us : List Value} {ds : List D}, Vals xs us → DpAll K H xs ds → PySem.W.EachIs (RvD K H) us ds
  | [], _, _, r, h => by cases r; cases h; exact .nil
  | x :: xs, _, _, r, h => by
    cases r with
    | cons r1 r2 =>
      cases h with
      | cons h1 h2 => exact .cons ⟨x, r1, h1⟩ (each_of r2 h2)
theorem each_back : ∀ {us : List Value} {ds : List D}, PySem.W.EachIs (RvD K H) us ds → ∃ xs, Vals xs us ∧ DpAll K H xs ds
  | _, _, .nil => ⟨[], .nil, .nil⟩
  | _, _, .cons ⟨x, r, h⟩ t => by
    obtain ⟨xs, r2, h2⟩ := each_back t
    exact ⟨x :: xs, .cons r r2, .cons h h2⟩
theorem sorted_any {pins : List (Addr × Obj)} {σ : L2.St} {s : Shared} {u : Value} {W : List D → Prop} {Q : VK} {Gs : Hp} (sg : Same Gs H) (hu : X.A.units + 65 < cLine)
    (hcol : ∀ R : List Value → Shared → Prop, (∀ (s1 : Shared) (acc : List Value) (ds' : List D), Inv X pins σ H s1 → W ds' → PySem.W.EachIs (RvD X.K Gs) acc ds' → R acc s1) → wpAny (model X.prog X.w) X.A.in1 (collect u) R X.xe s)
    (hW : ∀ ds, W ds → PySem.W.AllAlike ds ∧ SortableG ds ∧ (∀ d ∈ ds, d.depth ≤ 60) ∧ ds.length ≤ sizeLine)
    (q : ∀ (ys : List V) (p : Addr) (ds' : List D), W ds' → H p = none → DpAll X.K Gs ys (srtD ds') → Q (.ref p) (upd H p (.lst ys))) :
    wpAny (model X.prog X.w) X.A (call (.builtin "sorted") [u]) (EP X pins σ Q) X.xe s := by
  refine Calls.call_function_entry PyProof.Rows.kind_sorted PyProof.Rows.plain_sorted PyProof.Rows.entry_sorted (PyProof.Rows.args_sorted1 _) ?_
  unfold Builtin.«sorted»
  refine wpAny_bind (m := checkCount "sorted" 1 1 _) (wpAny_pure ?_)
  refine wpAny_bind (hcol _ fun s1 acc ds' I1 pm e => ?_)
  obtain ⟨hal', hk', hd, hl'⟩ := hW ds' pm
  have hla : acc.length = ds'.length := e.length
  refine wpAny_bind (wpAny_newList ?_ (by rw [hla]; exact hl'))
  have hoL : (s1.heap.push (seqObj "list" acc.toArray 0)).get? s1.heap.objs.size = some (seqObj "list" acc.toArray 0) := Heap.get?_push_size _ rfl
  show wpAny _ _ _ _ _ { s1 with heap := s1.heap.push (seqObj "list" acc.toArray 0) }
  have kp2 : ∀ b o, s1.heap.get? b = some o → (PySem.W.sortingHeap (s1.heap.push (seqObj "list" acc.toArray 0)) s1.heap.objs.size acc).get? b = some o := fun b o eb => by
    have hb : b < s1.heap.objs.size := Heap.lt_size eb
    exact PySem.W.sortingHeap_old (Nat.ne_of_lt hb) (Heap.get?_push_of_some _ eb)
  have er : PySem.W.EachIs (fun v (d : D) => ∃ as, Reads (PySem.W.sortingHeap (s1.heap.push (seqObj "list" acc.toArray 0)) s1.heap.objs.size acc) v ((fun d : D => d) d) as) acc ds' := e.mono fun u d ⟨x, r1, h1⟩ => by
    obtain ⟨as, r⟩ := Dp.reads I1 d x u (dpM sg d x h1) r1
    exact ⟨as, PyProof.Rows.Reads.keeps kp2 r⟩
  have hm : ds'.map (fun d : D => d) = ds' := List.map_id' ds'
  have er2 := PySem.W.each_map (R := fun v d => ∃ as, Reads (PySem.W.sortingHeap (s1.heap.push (seqObj "list" acc.toArray 0)) s1.heap.objs.size acc) v d as) (fun d : D => d) er
  refine wpAny_bind (wpAny_holding (wpAny_call_entry PyProof.Rows.slot_list_sort ⟨_, hoL, rfl⟩ PyProof.Rows.entry_list_sort
    (PySem.W.list_sort_vals (s := { s1 with heap := s1.heap.push (seqObj "list" acc.toArray 0) }) (κ := PySem.W.dataKind (PySem.W.sortingHeap (s1.heap.push (seqObj "list" acc.toArray 0)) s1.heap.objs.size acc) (ds'.map fun d : D => d)) hoL
      (sortsG (s := { s1 with heap := PySem.W.sortingHeap (s1.heap.push (seqObj "list" acc.toArray 0)) s1.heap.objs.size acc }) er2 (by rw [hm]; exact hal') (by rw [hm]; exact hk')
        (fun d h => by rw [hm] at h; have := hd d h; show X.A.units + 1 + 1 + d.depth < cLine; omega)) (by rw [hla]; exact hl') ⟨.none, rfl, ?_⟩) (PyProof.Rows.args_list_sort _)))
  have ho := PySem.W.sortVals_length (κ := PySem.W.dataKind (PySem.W.sortingHeap (s1.heap.push (seqObj "list" acc.toArray 0)) s1.heap.objs.size acc) (ds'.map fun d : D => d)) (vs := acc) false rfl
  have hR : PySem.W.EachIs (RvD X.K Gs) _ (ds'.mergeSort leD) := PySem.W.sortVals_data (R := RvD X.K Gs) (enc := fun d : D => d) false e er (by rw [hm]; exact hal')
  rw [← srtD_eq] at hR
  obtain ⟨ys, ry, hy⟩ := each_back hR
  obtain ⟨e', he'⟩ := PyProof.Rows.sortedHeap_at (vs := acc) (out := List.toArray _) hoL
  have hlen : ys.length ≤ sizeLine := by
    rw [ry.length, ho, hla]
    exact hl'
  refine wpAny_pure ⟨_, rfl, .ref s1.heap.objs.size, upd H s1.heap.objs.size (.lst ys), I1.laid (t' := s1.toks) (fun b u e => ?_) (Nat.le_refl _)
    (show ObjOk X.prog X.w _ _ _ (.lst ys) from ⟨hlen, _, e', ry, he'⟩), rfl, q ys _ ds' pm (I1.hok.fresh (Nat.le_refl _)) hy⟩
  have hb : b < s1.heap.objs.size := Heap.lt_size e
  rw [PyProof.Rows.sortedHeap_old (Nat.ne_of_lt hb) (by rw [size_push']; exact Nat.lt_succ_of_lt hb)]
  exact Heap.get?_push_of_some _ e
/-- the tuples of H are taken in -/
def GT (G H : Hp) : Hp := fun b => match H b with
  | some (.tup xs) => some (.tup xs)
  | _ => G b
theorem gt_tup {b : Addr} {xs : List V} (h : H b = some (.tup xs)) : GT G H b = some (.tup xs) := by unfold GT; rw [h]
theorem gt_le (s : Same G H) : Same G (GT G H) := fun b o e => by
  have q := s b o e
  unfold GT
  rw [q]
  cases o <;> first | rfl | exact e
theorem gt_sub (s : Same G H) : Same (GT G H) H := fun b o e => by
  unfold GT at e
  split at e
  · rename_i z; rw [z, ← e]
  · exact s b o e
theorem gt_grow (s : Same G H) : Grow G H (GT G H) H := ⟨gt_le s, Same.refl _, gt_sub s, fun b o e => by
  unfold GT at e
  split at e
  · rename_i xs z; exact .inr (.inr ⟨xs, z⟩)
  · exact .inl ⟨o, e⟩⟩
def rSortG (K : PySem.W.Frag) : List V → Hp → VK → Prop := fun vs H Q => ∃ (G : Hp) (a : Addr) (xs : List V) (ds : List D), Same G H ∧ vs = [V.ref a] ∧ SqL K H a xs ∧ DpAll K G xs ds ∧ PySem.W.AllAlike ds ∧ SortableG ds ∧ (∀ d ∈ ds, d.depth ≤ 60) ∧
  ∀ (ys : List V) (p : Addr), DpAll K G ys (srtD ds) → H p = none → Q (.ref p) (upd H p (.lst ys))
theorem cr_sortG (hu : X.A.units + 65 < cLine) : CallR X (.builtin "sorted") (rSortG X.K) := by
  intro pins s σ H vs us Q I r h
  obtain ⟨G, a, xs, ds, sg, rfl, hs, hd, ha, hk, hz, q⟩ := h
  obtain ⟨its, rv, hl, hlen⟩ := I.list hs
  rw [Vals.ref1 r]
  have hl2 : ds.length ≤ sizeLine := by rw [← dps_len hd]; exact hlen
  have e0 : PySem.W.EachIs (RvD X.K G) its ds := each_of rv hd
  refine sorted_any (W := fun l => l = ds) sg hu (fun R hR => ?_) (fun l e => by subst e; exact ⟨ha, hk, hz, hl2⟩) fun ys p ds' e hp hy => ?_
  · refine PyProof.Rows.collect_list hl.isList (hR _ its ds (I.kept (t' := s.toks) fun b o eb => ?_) rfl e0) (by rw [← rv.length]; exact hlen)
    have hb : b < s.heap.objs.size := Heap.lt_size eb
    rw [Heap.get?_update_ne _ _ _ _ (Nat.ne_of_lt hb)]
    exact Heap.get?_push_of_some _ eb
  · subst e
    exact q ys p hy hp
def fSortG : List D → Option D := on1 fun d => match d with
  | .list ds => match intsOf ds with
    | some ns => some (.list ((srtUp ns).map .int))
    | none => if (alikeB ds && sortableB ds && ds.all fun d => decide (d.depth ≤ 60)) = true then some (.list (srtD ds)) else none
  | _ => none
theorem so_sortG (hu : X.A.units + 65 < cLine) : CallR X (.builtin "sorted") (rNA X.K mk fSortG) := callr_of fun vs H Q q => by
  obtain ⟨G, ds, r, s, hv, o, k⟩ := q
  obtain ⟨d, rfl, o⟩ := on1_eq o
  obtain ⟨v, rfl, hx⟩ := tops1 hv
  cases d with
  | list ds =>
    obtain ⟨a, xs, rfl, h2, h3⟩ := top_list hx s
    have o : (match intsOf ds with
      | some ns => some (PyData.list ((srtUp ns).map .int))
      | none => if (alikeB ds && sortableB ds && ds.all fun d => decide (d.depth ≤ 60)) = true then some (.list (srtD ds)) else none) = some r := o
    cases hi : intsOf ds with
    | some ns =>
      rw [hi] at o
      cases o
      rw [intsOf_eq hi] at h3
      rw [dps_ints h3] at h2
      refine ⟨_, cr_sortedI, a, ns, rfl, h2, fun ns' p h4 h5 hp => ?_⟩
      rw [srtUp_eq h4 h5]
      exact fin_list s ints_dps k p hp
    | none =>
      rw [hi] at o
      simp only at o
      by_cases hb : (alikeB ds && sortableB ds && ds.all fun d => decide (d.depth ≤ 60)) = true
      · rw [if_pos hb] at o
        cases o
        rw [Bool.and_eq_true, Bool.and_eq_true] at hb
        refine ⟨_, cr_sortG hu, G, a, xs, ds, s, rfl, h2, h3, alikeB_ok hb.1.1, sortableB_ok hb.1.2, fun d hd => of_decide_eq_true (List.all_eq_true.mp hb.2 d hd), fun ys p h5 hp => ?_⟩
        exact fin_list s h5 k p hp
      · rw [if_neg hb] at o; cases o
  | _ => cases o

/-! ### list.count, ints -/
def mLCount : D → List D → Option D
  | .list ds, [.int k] => (intsOf ds).bind fun ns => some (.int (ns.count k : Nat))
  | _, _ => none
theorem so_lcount : MtR X "list.count" (rNM X.K .pu mLCount) := mtr_of fun x xs H Q q => by
  obtain ⟨G, d, ds, r, s, hx, hv, o, k⟩ := q
  unfold mLCount at o
  split at o
  · obtain ⟨ns, e, o⟩ := bnd o
    cases o
    obtain ⟨w, rfl, hy⟩ := tops1 hv
    obtain ⟨a, us, e1, h1, h2⟩ := top_list hx s
    rw [intsOf_eq e] at h2
    rw [dps_ints h2] at h1
    exact ⟨_, mt_lcount, a, ns, _, e1, by rw [top_int hy], h1, fin_int s k⟩
  · cases o
/-! ### list(range(n)) -/
def cLstRg1 (a : FE) : FE := fun ρ => (a ρ).bind fun p => match p.1 with
  | .pu (.int j) => if rgOkB 0 j = true then some (.nw (.list (intsD 0 j.toNat)), p.2) else none
  | _ => none
theorem pd_lstRg1 {e : Expr} {f : FE} {p p2 pos pos2 : Pos} (hc : X.calm = true) (hg : Gl X "list") (hm : X.mg "list" = none) (hg2 : Gl X "range") (hm2 : X.mg "range" = none) (ha : PD X e f)
    (na : starEach [e] X.env = (false, eval e X.env) :: starEach [] X.env := by rfl)
    (nb : starEach [.Call (.Name "range" p2) [e] [] pos2] X.env = (false, eval (.Call (.Name "range" p2) [e] [] pos2) X.env) :: starEach [] X.env := by rfl) : PD X (.Call (.Name "list" p) [.Call (.Name "range" p2) [e] [] pos2] [] pos) (cLstRg1 f) := by
  refine ⟨pe_w (pe_listRg hc hg hm (prg_1 hg2 hm2 ha.pe na) nb) fun σ H Q q => ?_, fun ρ r ρ' q => ?_⟩
  · obtain ⟨ioA, G0, H0, G, ρ, r, ρ', S, e, k⟩ := q
    obtain ⟨⟨r1, ρ1⟩, e1, e⟩ := bnd e
    simp only at e
    split at e
    · rename_i j
      by_cases hz : rgOkB 0 j = true
      · rw [if_pos hz] at e
        cases e
        refine ⟨ioA, G0, H0, G, ρ, _, _, S, e1, fun G1 v1 H1 g1 S1 R1 => ?_⟩
        cases R1
        refine ⟨j, rfl, rgOkB_ok hz, fun q hq => ?_⟩
        have hd := rg_dps (K := X.K) (G := G1) 0 j
        have ej : (j - 0).toNat = j.toNat := by rw [Int.sub_zero]
        rw [ej] at hd
        have g2 := grow_nw (o := .lst (rgV 0 j)) S1.sub hq
        obtain ⟨S2, R2⟩ := S1.repN (w := .nw (.list (intsD 0 j.toNat))) g2 (repN_lst S1.sub hq hd)
        exact k _ _ _ (g1.trans g2.g) S2 R2
      · rw [if_neg hz] at e; cases e
    · cases e
  · obtain ⟨⟨r1, ρ1⟩, e1, e⟩ := bnd q
    simp only at e
    split at e
    · split at e <;> cases e
      exact ha.kin _ _ _ e1
    · cases e
/-! ### tuple(range(i, j, c)) -/
def rgC (i c : Int) (n : Nat) : List V := (List.range n).map fun k => V.int (i + (k : Nat) * c)
def intsC (i c : Int) (n : Nat) : List D := (List.range n).map fun k => .int (i + (k : Nat) * c)
theorem rgC_len (i c : Int) (n : Nat) : (rgC i c n).length = n := by simp [rgC]
theorem rgC_dps (i c : Int) (n : Nat) : DpAll K G (rgC i c n) (intsC i c n) := by
  unfold rgC intsC
  induction List.range n with
  | nil => exact .nil
  | cons i l ih => exact .cons (.int _) ih
theorem vals_rgC {a c : Int} {n : Nat} {acc : Array Value} (h : ItemsOf (fun i v => ∃ t, v = .int (a + i * c) t) acc n) : Vals (rgC a c n) acc.toList := by
  have e : acc.toList.length = n := by rw [Array.length_toList]; exact h.1
  unfold rgC
  rw [← e]
  refine vals_of_get acc.toList _ fun j u hj => ?_
  obtain ⟨t, rfl⟩ := h.2 j u (by rw [← hj, Array.getElem?_toList])
  exact ⟨t, rfl⟩
def tTupRg3 (ta : TA) : TE := fun σ H Q => ta σ H fun vs H1 => ∃ (i j c : Int) (n : Nat), vs = [.int i, .int j, .int c] ∧ RgC i j c n ∧ n ≤ 2 ^ 24 ∧ ∀ q, H1 q = none → Q (.ref q) (upd H1 q (.tup (rgC i c n)))
theorem pe_tupRg3 {a b c : Expr} {ta : TA} {p p2 pos pos2 : Pos} (hc : X.calm = true) (hg : Gl X "tuple") (hm : X.mg "tuple" = none) (hg2 : Gl X "range") (hm2 : X.mg "range" = none) (ha : PA X [a, b, c] ta)
    (hs : starEach [a, b, c] X.env = (false, eval a X.env) :: starEach [b, c] X.env := by rfl) (hpl : (backTo pos2 (starEach [b, c] X.env)).any (·.1) = false := by rfl)
    (nb : starEach [.Call (.Name "range" p2) [a, b, c] [] pos2] X.env = (false, eval (.Call (.Name "range" p2) [a, b, c] [] pos2) X.env) :: starEach [] X.env := by rfl) :
    PE X (.Call (.Name "tuple" p) [.Call (.Name "range" p2) [a, b, c] [] pos2] [] pos) (tTupRg3 ta) := by
  refine ⟨fun pins s σ H Q I h => ?_⟩
  have R : wpAny (model X.prog X.w) X.A (eval (.Call (.Name "range" p2) [a, b, c] [] pos2) X.env) (fun x s' => ∃ r i j c n t u v H', x = .ref r ∧ IsRange s'.heap r i j c t u v ∧ Inv X pins σ H' s' ∧ RgC i j c n ∧ n ≤ 2 ^ 24 ∧ ∀ q, H' q = none → Q (.ref q) (upd H' q (.tup (rgC i c n)))) X.xe s := by
    refine Call_ (ld_blt I hg2 hm2 boot_range (PyProof.Rows.callWith_type1 (thn (ha.run pos2 pins s σ H _ I h) fun us s1 ⟨vs, H1, I1, r1, q1⟩ => ?_) hs hpl))
    obtain ⟨i, j, k, n, e, hrg, hn, q⟩ := q1
    subst e
    cases r1 with
    | cons r rr =>
      cases rr with
      | cons r' rr =>
        cases rr with
        | cons r'' rr =>
          cases rr
          obtain ⟨t, rfl⟩ := r
          obtain ⟨t', rfl⟩ := r'
          obtain ⟨t'', rfl⟩ := r''
          exact call_range_3 hrg.1 ⟨_, i, j, k, n, _, _, _, H1, rfl, IsRange.new _ _ _ _ _ _ _, I1.kept fun b u e => Heap.get?_push_of_some _ e, hrg, hn, q⟩ (.inl (PyProof.noPylong_small hrg.2.1))
  refine Call_ (ld_blt I hg hm boot_tuple (PyProof.Rows.callWith_type1 (args_cons (thn R fun x s1 ⟨r, i, j, c, n, t, u, v, H1, ex, hr, I1, hrg, hn, q⟩ => PyProof.Rows.args_nil ?_) nb) nb))
  subst ex
  refine call_tuple_range (n := n) (I1.ok.hd hc) hr hrg.2.2.1 hrg.2.2.2 hn fun h' tk acc hk hi => ?_
  have I2 : Inv X pins σ H1 { s1 with heap := h', toks := tk } := I1.kept hk
  refine ⟨.ref h'.objs.size, upd H1 h'.objs.size (.tup (rgC i c n)), I2.laid (t' := tk) (fun c o e => Heap.get?_push_of_some _ e) (Nat.le_refl _) (show ObjOk X.prog X.w _ _ _ (.tup (rgC i c n)) from ⟨?_, acc.toList, vals_rgC hi, ?_⟩), rfl, q _ (I2.hok.fresh (Nat.le_refl _))⟩
  · rw [rgC_len, sizeLine_eq]; omega
  · rw [Array.toArray_toList]; exact IsTup.new _ _
def rgCB (i j c : Int) : Bool := decide (c ≠ 0) && decide (c.natAbs < 1073741824) && Builtin.Range.small i j c && decide (0 ≤ Builtin.Range.rangeSize i j c) && decide ((Builtin.Range.rangeSize i j c).toNat ≤ 16777216)
def cTupRg3 (as : FA) : FE := fun ρ => (as ρ).bind fun p => (conts p.2 p.1).bind fun ds => match ds with
  | [.int i, .int j, .int c] => if rgCB i j c = true then some (.pu (.tuple (intsC i c (Builtin.Range.rangeSize i j c).toNat)), p.2) else none
  | _ => none
theorem pd_tupRg3 {a b c : Expr} {f : FA} {p p2 pos pos2 : Pos} (hc : X.calm = true) (hg : Gl X "tuple") (hm : X.mg "tuple" = none) (hg2 : Gl X "range") (hm2 : X.mg "range" = none) (ha : PDA X [a, b, c] f)
    (hs : starEach [a, b, c] X.env = (false, eval a X.env) :: starEach [b, c] X.env := by rfl) (hpl : (backTo pos2 (starEach [b, c] X.env)).any (·.1) = false := by rfl)
    (nb : starEach [.Call (.Name "range" p2) [a, b, c] [] pos2] X.env = (false, eval (.Call (.Name "range" p2) [a, b, c] [] pos2) X.env) :: starEach [] X.env := by rfl) :
    PD X (.Call (.Name "tuple" p) [.Call (.Name "range" p2) [a, b, c] [] pos2] [] pos) (cTupRg3 f) := by
  refine ⟨pe_w (pe_tupRg3 hc hg hm hg2 hm2 ha.pa hs hpl nb) fun σ H Q q => ?_, fun ρ r ρ' q => ?_⟩
  · obtain ⟨ioA, G0, H0, G, ρ, r, ρ', S, e, k⟩ := q
    obtain ⟨⟨r1, ρ1⟩, e1, e⟩ := bnd e
    obtain ⟨ds, ed, e⟩ := bnd e
    simp only at e
    split at e
    · rename_i i j c
      by_cases hz : rgCB i j c = true
      · rw [if_pos hz] at e
        cases e
        refine ⟨ioA, G0, H0, G, ρ, _, _, S, e1, fun G1 vs H1 g1 S1 R1 => ?_⟩
        have ht := S1.tops R1 ed
        have hv : vs = [.int i, .int j, .int c] := by
          cases ht with
          | cons h1 t =>
            cases t with
            | cons h2 t =>
              cases t with
              | cons h3 t =>
                cases t
                rw [top_int h1, top_int h2, top_int h3]
        unfold rgCB at hz
        simp only [Bool.and_eq_true, decide_eq_true_eq] at hz
        obtain ⟨⟨⟨⟨z1, z2⟩, z3⟩, z4⟩, z5⟩ := hz
        refine ⟨i, j, c, (Builtin.Range.rangeSize i j c).toNat, hv, ⟨z1, z2, z3, by omega⟩, by omega, fun q hq => ?_⟩
        have hd := rgC_dps (K := X.K) (G := G1) i c (Builtin.Range.rangeSize i j c).toNat
        obtain ⟨S2, R2⟩ := S1.repN (w := .pu (.tuple (intsC i c (Builtin.Range.rangeSize i j c).toNat))) (grow_new (o := .tup (rgC i c (Builtin.Range.rangeSize i j c).toNat)) S1.sub hq) (dp_tup S1.sub hq hd)
        exact k _ _ _ (g1.trans (grow_new (o := .tup (rgC i c (Builtin.Range.rangeSize i j c).toNat)) S1.sub hq).g) S2 R2
      · rw [if_neg hz] at e; cases e
    · cases e
  · obtain ⟨⟨r1, ρ1⟩, e1, e⟩ := bnd q
    obtain ⟨ds, ed, e⟩ := bnd e
    simp only at e
    split at e
    · split at e <;> cases e
      exact ha.kin _ _ _ e1
    · cases e
end
end PL

/-! PL: the pure layer, 14: what stands behind a def's name; a test run of a def. -/
namespace PL
open PySem PySem.Spec PyProof.Rows L2
structure Cal (P : Program) (w : World) (K : PySem.W.Frag) (mg : Str → Option Value) (base : Heap) (x : Str) (n : Nat) (m : Mir) (k : Nat) : Prop where
  ex : ∃ (f : Addr) (fd : FuncData) (ps : List Str), FnOk P w K mg base CX0 k f fd ps (spM K n m) ∧ mg x = some (.ref f) ∧ PySem.W.keepIn K (.ref f) = true ∧ Binds K fd ps []
section
variable {X : Cx} {x : Str} {n k k' : Nat} {m : Mir} {p pos : Pos} {e : Expr} {es : List Expr} {fa : FA}
theorem pd_cal (c : Cal X.prog X.w X.K X.mg X.base x n m k) (hr : Room k' X.A) (h : k ≤ k') (hg : Gl X x) (hl : LenA n fa) (ha : PDA X (e :: es) fa) (hdb : (x == ("__debug__" : Str)) = false := by decide)
    (he : starEach (e :: es) X.env = (false, eval e X.env) :: starEach es X.env := by rfl) (hpl : (backTo pos (starEach es X.env)).any (·.1) = false := by rfl) : PD X (.Call (.Name x p) (e :: es) [] pos) (cCall m fa) := by
  obtain ⟨f, fd, ps, F, hm, hk, hb⟩ := c.ex
  exact pd_call F (hr.mono h) hg hm hk hb hl ha hdb he hpl
theorem pd_cal0 (c : Cal X.prog X.w X.K X.mg X.base x 0 m k) (hr : Room k' X.A) (h : k ≤ k') (hg : Gl X x) (hdb : (x == ("__debug__" : Str)) = false := by decide) : PD X (.Call (.Name x p) [] [] pos) (cCall m aNil) := by
  obtain ⟨f, fd, ps, F, hm, hk, hb⟩ := c.ex
  exact pd_call0 F (hr.mono h) hg hm hk hb hdb
end
theorem fn_none {P : Program} {w : World} {K : PySem.W.Frag} {mg : Str → Option Value} {base : Heap} {k n : Nat} {f : Addr} {fd : FuncData} {ps : List Str} (h : ps.length = n) : FnOk P w K mg base CX0 k f fd ps (spM K n fun _ => none) :=
  ⟨fun vs H Q E q => q.1.trans h.symm, fun A outer s H args us vs Q E hr he hb hv q => by
    obtain ⟨_, G, ars, r, outs, _, _, _, e, _⟩ := q
    cases e⟩
end PL
namespace PL
open PySem PySem.Spec PyProof.Rows L2
section
variable {X : Cx} {elt tg iter : Expr} {ifs : List Expr} {scope : Scope} {own : List (Str × Nat)} {pos : Pos} {it : FI} {g : FG} {t : FT} {f : FE} {ts : List Nat}
theorem pd_lcE (hc : X.calm = true) (hN : X.N.Nodup) (hi : PDI X tg iter it) (ok : BlkOk X.N X.env.scope scope own)
    (hg : ∀ (s : Shared) (H : Hp) (C : Addr) (cl : List (Str × Addr)) (fp : List Addr), PDG (X.blk s H scope (compEnvC scope cl C X.env) fp) tg g ts) (hts : ∀ j ∈ ts, j ∈ own.map (·.2))
    (ht : ∀ (s : Shared) (H : Hp) (C : Addr) (cl : List (Str × Addr)) (fp : List Addr), PDTs (X.blk s H scope (compEnvC scope cl C X.env) fp) ifs t)
    (he : ∀ (s : Shared) (H : Hp) (C : Addr) (cl : List (Str × Addr)) (fp : List Addr), PD (X.blk s H scope (compEnvC scope cl C X.env) fp) elt f) (hs : ∀ x, foldedSetIterable iter X.env x = pure x := by intro _; rfl) :
    PD X (.ListComp elt [⟨tg, iter, ifs, 0⟩] scope pos) (cLc (own.map (·.2)) it g t f) := (pd_lc hc hN hi ok hg hts ht he hs).1
end
end PL

/-! PL: the pure layer, 15: the law's def called with the script. -/
namespace PL
open PySem PySem.Spec PyProof.Rows L2
theorem end_ok {K : PySem.W.Frag} {H : Hp} {a : Addr} {ns : List Int} {m : Mir} (hm : m [.v (.list (ns.map .int))] = some (.pu (.bool true), [])) (hS : SqL K H a (ns.map V.int)) :
    spM K 1 m [.ref a] H (fun v _ => v = .bl true) fun _ _ _ => False := by
  let G : Hp := fun b => if b = a then H a else none
  have gH : Same G H := fun b o e => by
    have e' : (if b = a then H a else none) = some o := e
    by_cases hb : b = a
    · rw [if_pos hb] at e'; rw [hb]; exact e'
    · rw [if_neg hb] at e'; cases e'
  have ga : G a = H a := if_pos rfl
  have hG : SqL K G a (ns.map V.int) := by
    rcases hS with (h | ⟨o, h⟩) | h
    · exact .inl (.inl (ga.trans h))
    · exact .inl (.inr ⟨o, ga.trans h⟩)
    · exact .inr h
  refine ⟨rfl, G, [.v (.list (ns.map .int))], _, _, gH, .cons (Dp.lst hG ints_dps) .nil, List.nodup_nil, hm, fun G' v H' _ _ _ _ _ _ R => ?_⟩
  exact dp_bool R
end PL

/-! PL: the pure layer, 16: its functions worked out. -/
namespace PL
open PySem PySem.Spec PyProof.Rows L2
section
variable {ρ : Rho} {i j : Nat} {d e : D} {v : Vl} {a b c : FE} {as : FA} {t u : FT} {f h : FS} {g : FG}
@[simp] theorem ev_c : cC d ρ = some (.pu d, ρ) := rfl
@[simp] theorem ev_stl_pu : stl (.pu d) = .pu d := rfl
@[simp] theorem ev_stl_nw : stl (.nw d) = .pu d := rfl
@[simp] theorem ev_stl_sl : stl (.sl i) = .sl i := rfl
@[simp] theorem ev_cont_pu : cont ρ (.pu d) = some d := rfl
@[simp] theorem ev_cont_nw : cont ρ (.nw d) = some d := rfl
@[simp] theorem ev_mk_int {k : Int} : mk (.int k) = .pu (.int k) := rfl
@[simp] theorem ev_mk_bool {k : Bool} : mk (.bool k) = .pu (.bool k) := rfl
@[simp] theorem ev_mk_str {k : Str} : mk (.str k) = .pu (.str k) := rfl
@[simp] theorem ev_mk_tup {k : List D} : mk (.tuple k) = .pu (.tuple k) := rfl
@[simp] theorem ev_mk_lst {k : List D} : mk (.list k) = .nw (.list k) := rfl
@[simp] theorem ev_yes : tYes ρ = some (true, ρ) := rfl
@[simp] theorem ev_pass : sPass ρ = some (.nx ρ) := rfl
@[simp] theorem ev_never : sNever ρ = none := rfl
@[simp] theorem ev_anil : aNil ρ = some ([], ρ) := rfl
@[simp] theorem ev_ono : oNo ρ = some (none, ρ) := rfl
theorem ev_var_pu (h : ρ[i]? = some (.pu d)) : cVar i ρ = some (.pu d, ρ) := by unfold cVar; rw [h]
theorem ev_var_own (h : ρ[i]? = some (.own d)) : cVar i ρ = some (.sl i, ρ) := by unfold cVar; rw [h]
theorem ev_var_io (h : ρ[i]? = some (.io d)) : cVar i ρ = some (.sl i, ρ) := by unfold cVar; rw [h]
/-! loops of pure comprehensions -/
theorem wipe_rst {vs : List Nat} {ρ ρ' : Rho} (h : wipeR vs ρ' = wipeR vs ρ) : rst vs ρ ρ' = ρ := by
  have hl : ρ'.length = ρ.length := by
    have q := congrArg List.length h
    rw [wipeR_len, wipeR_len] at q
    exact q
  refine List.ext_getElem? fun j => ?_
  rw [rst_get vs hl.symm]
  by_cases hj : j ∈ vs
  · rw [if_pos hj]
  · rw [if_neg hj]
    have q : (wipeR vs ρ')[j]? = (wipeR vs ρ)[j]? := by rw [h]
    rw [wipeR_get, wipeR_get, if_neg hj, if_neg hj] at q
    exact q
theorem compGo_eq {vs : List Nat} {g : FG} {t : FT} {f : FE} {ρ0 : Rho} {R : D → Rho} {Pd : D → Bool} {F : D → D} : ∀ {ds : List D} {ρ : Rho}, wipeR vs ρ = ρ0 →
    (∀ x ∈ ds, g x ρ0 = some (R x) ∧ wipeR vs (R x) = ρ0 ∧ t (R x) = some (Pd x, R x) ∧ (Pd x = true → ∃ r, f (R x) = some (r, R x) ∧ stl r = .pu (F x))) →
    ∃ ρ', compGo vs g t f ds ρ = some ((ds.filter Pd).map F, ρ') ∧ wipeR vs ρ' = ρ0
  | [], ρ, h, _ => ⟨ρ, rfl, h⟩
  | x :: ds, ρ, h, k => by
    obtain ⟨k1, k2, k3, k4⟩ := k x List.mem_cons_self
    obtain ⟨ρ', e, e2⟩ := compGo_eq (ds := ds) k2 fun y hy => k y (List.mem_cons_of_mem _ hy)
    refine ⟨ρ', ?_, e2⟩
    unfold compGo
    rw [h, k1]
    simp only [Option.bind_some, k3]
    cases hp : Pd x with
    | true =>
      obtain ⟨r, q1, q2⟩ := k4 hp
      simp only [if_true, q1, Option.bind_some, q2, e]
      rw [List.filter_cons_of_pos hp]
      rfl
    | false =>
      simp only [Bool.false_eq_true, if_false, e]
      rw [List.filter_cons_of_neg (by rw [hp]; exact Bool.false_ne_true)]
theorem cLc_eq {vs : List Nat} {it : FI} {g : FG} {t : FT} {f : FE} {ρ : Rho} {ds : List D} (R : D → Rho) (Pd : D → Bool) (F : D → D) (hi : it ρ = some (ds, ρ)) (ok : okW vs ρ = true)
    (k : ∀ x ∈ ds, g x (wipeR vs ρ) = some (R x) ∧ wipeR vs (R x) = wipeR vs ρ ∧ t (R x) = some (Pd x, R x) ∧ (Pd x = true → ∃ r, f (R x) = some (r, R x) ∧ stl r = .pu (F x)))
    (hz : ds.length ≤ lineN) : cLc vs it g t f ρ = some (.nw (.list ((ds.filter Pd).map F)), ρ) := by
  obtain ⟨ρ', e, e2⟩ := compGo_eq (ρ := ρ) rfl k
  unfold cLc
  simp only [hi, Option.bind_some, ok, if_true, e]
  rw [if_pos (by rw [List.length_map]; exact Nat.le_trans (List.length_filter_le _ _) hz), wipe_rst e2]
end
end PL

/-! PL: the pure layer, 17: loops by invariants. -/
namespace PL
open PySem PySem.Spec PyProof.Rows L2
/-- a loop that only goes on: P what holds of what is left and the state -/
theorem forGo_inv {α : Type} {g : FG} {b : FS} (P : List D → α → Rho → Prop) (F : α → D → α)
    (step : ∀ (x : D) (ds : List D) (a : α) (ρ : Rho), P (x :: ds) a ρ → ∃ ρ1 ρ2, g x ρ = some ρ1 ∧ (b ρ1 = some (.nx ρ2) ∨ b ρ1 = some (.ct ρ2)) ∧ P ds (F a x) ρ2) :
    ∀ (ds : List D) (a : α) (ρ : Rho), P ds a ρ → ∃ ρ', forGo g b ds ρ = some (.nx ρ') ∧ P [] (ds.foldl F a) ρ'
  | [], a, ρ, h => ⟨ρ, rfl, h⟩
  | x :: ds, a, ρ, h => by
    obtain ⟨ρ1, ρ2, e1, e2, h2⟩ := step x ds a ρ h
    obtain ⟨ρ', e3, h3⟩ := forGo_inv P F step ds (F a x) ρ2 h2
    refine ⟨ρ', ?_, h3⟩
    unfold forGo
    rw [e1, Option.bind_some]
    rcases e2 with e2 | e2 <;> rw [e2] <;> exact e3
/-- the same without a result of its own -/
theorem forGo_P {g : FG} {b : FS} (P : List D → Rho → Prop)
    (step : ∀ (x : D) (ds : List D) (ρ : Rho), P (x :: ds) ρ → ∃ ρ1 ρ2, g x ρ = some ρ1 ∧ (b ρ1 = some (.nx ρ2) ∨ b ρ1 = some (.ct ρ2)) ∧ P ds ρ2) :
    ∀ (ds : List D) (ρ : Rho), P ds ρ → ∃ ρ', forGo g b ds ρ = some (.nx ρ') ∧ P [] ρ'
  | [], ρ, h => ⟨ρ, rfl, h⟩
  | x :: ds, ρ, h => by
    obtain ⟨ρ1, ρ2, e1, e2, h2⟩ := step x ds ρ h
    obtain ⟨ρ', e3, h3⟩ := forGo_P P step ds ρ2 h2
    refine ⟨ρ', ?_, h3⟩
    unfold forGo
    rw [e1, Option.bind_some]
    rcases e2 with e2 | e2 <;> rw [e2] <;> exact e3
/-- a while loop by a measure -/
theorem whileGo_P {t : FT} {b : FS} (P : Nat → Rho → Prop) (Q : Rho → Prop)
    (step : ∀ (m : Nat) (ρ : Rho), P m ρ → (∃ ρ1, t ρ = some (false, ρ1) ∧ Q ρ1) ∨ ∃ ρ1 ρ2 k, t ρ = some (true, ρ1) ∧ (b ρ1 = some (.nx ρ2) ∨ b ρ1 = some (.ct ρ2)) ∧ k < m ∧ P k ρ2) :
    ∀ (F m : Nat) (ρ : Rho), m < F → P m ρ → ∃ ρ', whileGo t b F ρ = some (.nx ρ') ∧ Q ρ'
  | 0, m, ρ, h, _ => absurd h (Nat.not_lt_zero _)
  | F + 1, m, ρ, h, hP => by
    rcases step m ρ hP with ⟨ρ1, e1, q⟩ | ⟨ρ1, ρ2, k, e1, e2, hk, h2⟩
    · refine ⟨ρ1, ?_, q⟩
      unfold whileGo
      rw [e1]
      rfl
    · obtain ⟨ρ', e3, q⟩ := whileGo_P P Q step F k ρ2 (by omega) h2
      refine ⟨ρ', ?_, q⟩
      unfold whileGo
      rw [e1, Option.bind_some]
      rcases e2 with e2 | e2
      · simp only [if_true, e2, Option.bind_some]; exact e3
      · simp only [if_true, e2, Option.bind_some]; exact e3
theorem iRg1_eq {a : FE} {ρ ρ' : Rho} {j : Int} (h : a ρ = some (.pu (.int j), ρ')) (hs : small j = true) : iRg1 a ρ = some (intsD 0 j.toNat, ρ') := by
  unfold iRg1
  rw [h]
  simp only [Option.bind_some, hs, if_true]
theorem iRg2_eq {a b : FE} {ρ ρ1 ρ' : Rho} {i j : Int} (h : a ρ = some (.pu (.int i), ρ1)) (h2 : b ρ1 = some (.pu (.int j), ρ')) (hs : small i = true) (hs2 : small j = true) : iRg2 a b ρ = some (intsD i (j - i).toNat, ρ') := by
  unfold iRg2
  rw [h]
  simp only [Option.bind_some, h2, hs, hs2, and_self, if_true]
theorem small_nat {n : Nat} (h : n ≤ 1000000000) : small (n : Int) = true := by
  unfold small
  rw [Bool.and_eq_true, decide_eq_true_eq, decide_eq_true_eq]
  omega
theorem small64_nat {n : Nat} (h : n ≤ 1000000000) : small64 (n : Int) = true := by
  unfold small64
  rw [Bool.and_eq_true, decide_eq_true_eq, decide_eq_true_eq]
  omega
theorem sSeq_nx {a b : FS} {ρ ρ' : Rho} (h : a ρ = some (.nx ρ')) : sSeq a b ρ = b ρ' := by
  unfold sSeq
  rw [h]; rfl
theorem sSeq_rt {a b : FS} {ρ ρ' : Rho} {v : Vl} (h : a ρ = some (.rt v ρ')) : sSeq a b ρ = some (.rt v ρ') := by
  unfold sSeq
  rw [h]; rfl
theorem sFor_eq {it : FI} {g : FG} {b : FS} {ρ ρ' : Rho} {ds : List D} (h : it ρ = some (ds, ρ')) : sFor it g b ρ = forGo g b ds ρ' := by
  unfold sFor
  rw [h]; rfl
theorem cOp2_pu {op : D → D → Option D} {a b : FE} {ρ ρ1 ρ2 : Rho} {x y r : D} (h1 : a ρ = some (.pu x, ρ1)) (h2 : b ρ1 = some (.pu y, ρ2)) (h3 : op x y = some r) : cOp2 op a b ρ = some (.pu r, ρ2) := by
  unfold cOp2
  rw [h1, Option.bind_some, h2, Option.bind_some]
  show (op x y).bind _ = _
  rw [h3]; rfl
theorem cOp2n_pu {op : D → D → Option D} {a b : FE} {ρ ρ1 ρ2 : Rho} {x y r : D} (h1 : a ρ = some (.pu x, ρ1)) (h2 : b ρ1 = some (.pu y, ρ2)) (h3 : op x y = some r) : cOp2n op a b ρ = some (mk r, ρ2) := by
  unfold cOp2n
  rw [h1, Option.bind_some, h2, Option.bind_some]
  show (op x y).bind _ = _
  rw [h3]; rfl
theorem cOpA_pu {op : List D → Option D} {a : FE} {ρ ρ1 : Rho} {x r : D} (h1 : a ρ = some (.pu x, ρ1)) (h3 : op [x] = some r) : cOpA op (aCons a aNil) ρ = some (.pu r, ρ1) := by
  have h : aCons a aNil ρ = some ([.pu x], ρ1) := by
    unfold aCons
    rw [h1]; rfl
  unfold cOpA
  rw [h, Option.bind_some]
  show (op [x]).bind _ = _
  rw [h3]; rfl
theorem cOpA_nw {op : List D → Option D} {a : FE} {ρ ρ1 : Rho} {x r : D} (h1 : a ρ = some (.nw x, ρ1)) (h3 : op [x] = some r) : cOpA op (aCons a aNil) ρ = some (.pu r, ρ1) := by
  have h : aCons a aNil ρ = some ([.pu x], ρ1) := by
    unfold aCons
    rw [h1]; rfl
  unfold cOpA
  rw [h, Option.bind_some]
  show (op [x]).bind _ = _
  rw [h3]; rfl
theorem sRet_eq {a : FE} {ρ ρ1 : Rho} {v : Vl} (h1 : a ρ = some (v, ρ1)) : sRet a ρ = some (.rt v ρ1) := by
  unfold sRet
  rw [h1]; rfl
theorem sAsg_pu {i : Nat} {a : FE} {ρ ρ1 ρ2 : Rho} {x : D} (h1 : a ρ = some (.pu x, ρ1)) (h2 : setS i (.pu x) ρ1 = some ρ2) : sAsg i a ρ = some (.nx ρ2) := by
  unfold sAsg
  rw [h1, Option.bind_some]
  show (setS i (.pu x) ρ1).bind _ = _
  rw [h2]; rfl
theorem sAsg_nw {i : Nat} {a : FE} {ρ ρ1 ρ2 : Rho} {x : D} (h1 : a ρ = some (.nw x, ρ1)) (h2 : setS i (.pu x) ρ1 = some ρ2) : sAsg i a ρ = some (.nx ρ2) := by
  unfold sAsg
  rw [h1, Option.bind_some]
  show (setS i (.pu x) ρ1).bind _ = _
  rw [h2]; rfl
theorem tBl_eq {a : FE} {ρ ρ1 : Rho} {k : Bool} (h1 : a ρ = some (.pu (.bool k), ρ1)) : tBl a ρ = some (k, ρ1) := by
  unfold tBl
  rw [h1]; rfl
theorem sIf_t {t : FT} {a b : FS} {ρ ρ1 : Rho} (h : t ρ = some (true, ρ1)) : sIf t a b ρ = a ρ1 := by
  unfold sIf
  rw [h]; rfl
theorem sIf_f {t : FT} {a b : FS} {ρ ρ1 : Rho} (h : t ρ = some (false, ρ1)) : sIf t a b ρ = b ρ1 := by
  unfold sIf
  rw [h]; rfl
theorem cIf_t {t : FT} {a b : FE} {ρ ρ1 : Rho} (h : t ρ = some (true, ρ1)) : cIf t a b ρ = a ρ1 := by
  unfold cIf
  rw [h]; rfl
theorem cIf_f {t : FT} {a b : FE} {ρ ρ1 : Rho} (h : t ρ = some (false, ρ1)) : cIf t a b ρ = b ρ1 := by
  unfold cIf
  rw [h]; rfl
theorem cAnd_t {a b : FE} {ρ ρ1 : Rho} {r : Vl × Rho} (h : a ρ = some (.pu (.bool true), ρ1)) (h2 : b ρ1 = some r) : cAnd a b ρ = some r := by
  unfold cAnd
  rw [h, ← h2]; rfl
theorem cAnd_f {a b : FE} {ρ ρ1 : Rho} (h : a ρ = some (.pu (.bool false), ρ1)) : cAnd a b ρ = some (.pu (.bool false), ρ1) := by
  unfold cAnd
  rw [h]; rfl
theorem cOr_t {a b : FE} {ρ ρ1 : Rho} (h : a ρ = some (.pu (.bool true), ρ1)) : cOr a b ρ = some (.pu (.bool true), ρ1) := by
  unfold cOr
  rw [h]; rfl
theorem cOr_f {a b : FE} {ρ ρ1 : Rho} {r : Vl × Rho} (h : a ρ = some (.pu (.bool false), ρ1)) (h2 : b ρ1 = some r) : cOr a b ρ = some r := by
  unfold cOr
  rw [h, ← h2]; rfl
/-! ### argument lists -/
def Args (as : FA) (ρ : Rho) (ds : List D) (ρ' : Rho) : Prop := as ρ = some (ds.map .pu, ρ')
theorem args_nil {ρ : Rho} : Args aNil ρ [] ρ := rfl
theorem args_pu {a : FE} {as : FA} {ρ ρ1 ρ2 : Rho} {x : D} {xs : List D} (h1 : a ρ = some (.pu x, ρ1)) (h2 : Args as ρ1 xs ρ2) : Args (aCons a as) ρ (x :: xs) ρ2 := by
  have h2' : as ρ1 = some (xs.map .pu, ρ2) := h2
  show aCons a as ρ = _
  unfold aCons
  rw [h1, Option.bind_some, h2']; rfl
theorem args_nw {a : FE} {as : FA} {ρ ρ1 ρ2 : Rho} {x : D} {xs : List D} (h1 : a ρ = some (.nw x, ρ1)) (h2 : Args as ρ1 xs ρ2) : Args (aCons a as) ρ (x :: xs) ρ2 := by
  have h2' : as ρ1 = some (xs.map .pu, ρ2) := h2
  show aCons a as ρ = _
  unfold aCons
  rw [h1, Option.bind_some, h2']; rfl
theorem conts_pus {ρ : Rho} : ∀ xs : List D, conts ρ (xs.map .pu) = some xs
  | [] => rfl
  | x :: xs => by
    show (some x).bind (fun d => (conts ρ (xs.map .pu)).bind fun ds => some (d :: ds)) = _
    rw [conts_pus xs]; rfl
theorem pures_pus : ∀ xs : List D, pures (xs.map .pu) = some xs
  | [] => rfl
  | x :: xs => by
    have ih := pures_pus xs
    simp [pures, ih]
theorem toArs_pus {ρ : Rho} : ∀ xs : List D, toArs ρ (xs.map .pu) = some (xs.map .v)
  | [] => rfl
  | x :: xs => by
    show (some (Ar.v x)).bind (fun a => (toArs ρ (xs.map .pu)).bind fun as => some (a :: as)) = _
    rw [toArs_pus xs]; rfl
theorem slotsOf_pus : ∀ xs : List D, slotsOf (xs.map .pu) = []
  | [] => rfl
  | x :: xs => slotsOf_pus xs
theorem cLst_args {as : FA} {ρ ρ' : Rho} {xs : List D} (h : Args as ρ xs ρ') (hl : xs.length ≤ lineN) : cLst as ρ = some (.nw (.list xs), ρ') := by
  have h' : as ρ = some (xs.map .pu, ρ') := h
  unfold cLst
  rw [h', Option.bind_some]
  show (pures (xs.map .pu)).bind _ = _
  rw [pures_pus, Option.bind_some, if_pos hl]
theorem cTup_args {as : FA} {ρ ρ' : Rho} {xs : List D} (h : Args as ρ xs ρ') (hl : xs.length ≤ lineN) : cTup as ρ = some (.pu (.tuple xs), ρ') := by
  have h' : as ρ = some (xs.map .pu, ρ') := h
  unfold cTup
  rw [h', Option.bind_some]
  show (pures (xs.map .pu)).bind _ = _
  rw [pures_pus, Option.bind_some, if_pos hl]
theorem cOpA_args {op : List D → Option D} {as : FA} {ρ ρ' : Rho} {xs : List D} {r : D} (h : Args as ρ xs ρ') (h3 : op xs = some r) : cOpA op as ρ = some (.pu r, ρ') := by
  have h' : as ρ = some (xs.map .pu, ρ') := h
  unfold cOpA
  rw [h', Option.bind_some]
  show (conts ρ' (xs.map .pu)).bind _ = _
  rw [conts_pus, Option.bind_some, h3]; rfl
theorem cOpAn_args {op : List D → Option D} {as : FA} {ρ ρ' : Rho} {xs : List D} {r : D} (h : Args as ρ xs ρ') (h3 : op xs = some r) : cOpAn op as ρ = some (mk r, ρ') := by
  have h' : as ρ = some (xs.map .pu, ρ') := h
  unfold cOpAn
  rw [h', Option.bind_some]
  show (conts ρ' (xs.map .pu)).bind _ = _
  rw [conts_pus, Option.bind_some, h3]; rfl
theorem cCall_args {m : Mir} {as : FA} {ρ ρ' : Rho} {xs : List D} {r : Vl} (h : Args as ρ xs ρ') (h3 : m (xs.map .v) = some (r, [])) : cCall m as ρ = some (r, ρ') := by
  have h' : as ρ = some (xs.map .pu, ρ') := h
  unfold cCall
  rw [h', Option.bind_some]
  show (toArs ρ' (xs.map .pu)).bind _ = _
  rw [toArs_pus, Option.bind_some]
  show (if (slotsOf (xs.map .pu)).Nodup then _ else none) = _
  rw [slotsOf_pus, if_pos List.nodup_nil, h3]; rfl
/-- the first argument is lent -/
theorem cCall_io {m : Mir} {i : Nat} {as : FA} {ρ ρ' ρ2 : Rho} {d d' : D} {xs : List D} {r : Vl} (h0 : cVar i ρ = some (.sl i, ρ)) (h : Args as ρ xs ρ') (hi : toAr ρ' (.sl i) = some (.m d))
    (h3 : m (.m d :: xs.map .v) = some (r, [d'])) (hp : putS i d' ρ' = some ρ2) : cCall m (aCons (cVar i) as) ρ = some (r, ρ2) := by
  have h' : as ρ = some (xs.map .pu, ρ') := h
  have ha : aCons (cVar i) as ρ = some (.sl i :: xs.map .pu, ρ') := by
    unfold aCons
    rw [h0, Option.bind_some, h']; rfl
  unfold cCall
  rw [ha, Option.bind_some]
  have ht : toArs ρ' (.sl i :: xs.map .pu) = some (.m d :: xs.map .v) := by
    show (toAr ρ' (.sl i)).bind _ = _
    rw [hi, Option.bind_some, toArs_pus]; rfl
  show (toArs ρ' (.sl i :: xs.map .pu)).bind _ = _
  rw [ht, Option.bind_some]
  have hs : slotsOf (.sl i :: xs.map .pu) = [i] := by
    show i :: slotsOf (xs.map .pu) = _
    rw [slotsOf_pus]
  show (if (slotsOf (.sl i :: xs.map .pu)).Nodup then _ else none) = _
  rw [hs, if_pos (by simp), h3, Option.bind_some]
  show ((putS i d' ρ').bind _).bind _ = _
  rw [hp]; rfl
theorem cSl_pu {op : D → Option Int → Option Int → Option D} {a : FE} {lo hi : FO} {ρ ρ1 ρ2 ρ3 : Rho} {x r : D} {l h : Option Int} (h1 : a ρ = some (.pu x, ρ1)) (h2 : lo ρ1 = some (l, ρ2)) (h3 : hi ρ2 = some (h, ρ3)) (h4 : op x l h = some r) : cSl mk op a lo hi ρ = some (mk r, ρ3) := by
  unfold cSl
  rw [h1, Option.bind_some, h2, Option.bind_some, h3, Option.bind_some]
  show (op x l h).bind _ = _
  rw [h4]; rfl
theorem oSo_pu {a : FE} {ρ ρ1 : Rho} {i : Int} (h1 : a ρ = some (.pu (.int i), ρ1)) : oSo a ρ = some (some i, ρ1) := by
  unfold oSo
  rw [h1]; rfl
theorem cM_args {T : String} {op : D → List D → Option D} {o : FE} {as : FA} {ρ ρ1 ρ2 : Rho} {x r : D} {xs : List D} (h1 : o ρ = some (.pu x, ρ1)) (ht : tyD T x = true) (h2 : Args as ρ1 xs ρ2) (h3 : op x xs = some r) : cM T .pu op o as ρ = some (.pu r, ρ2) := by
  have h' : as ρ1 = some (xs.map .pu, ρ2) := h2
  unfold cM
  rw [h1, Option.bind_some]
  show (if tyD T x = true then _ else none) = _
  rw [if_pos ht, h', Option.bind_some]
  show (conts ρ2 (xs.map .pu)).bind _ = _
  rw [conts_pus, Option.bind_some, h3]; rfl
theorem iE_pu {a : FE} {ρ ρ1 : Rho} {x : D} {ds : List D} (h1 : a ρ = some (.pu x, ρ1)) (h2 : itemsOf x = some ds) : iE a ρ = some (ds, ρ1) := by
  unfold iE
  rw [h1, Option.bind_some]
  show (itemsOf x).bind _ = _
  rw [h2]; rfl
theorem iE_nw {a : FE} {ρ ρ1 : Rho} {x : D} {ds : List D} (h1 : a ρ = some (.nw x, ρ1)) (h2 : itemsOf x = some ds) : iE a ρ = some (ds, ρ1) := by
  unfold iE
  rw [h1, Option.bind_some]
  show (itemsOf x).bind _ = _
  rw [h2]; rfl
theorem cOpn_pu {op : D → Option D} {a : FE} {ρ ρ1 : Rho} {x r : D} (h1 : a ρ = some (.pu x, ρ1)) (h3 : op x = some r) : cOpn op a ρ = some (mk r, ρ1) := by
  unfold cOpn
  rw [h1, Option.bind_some]
  show (op x).bind _ = _
  rw [h3]; rfl
theorem sTgt_pu {g : FG} {a : FE} {ρ ρ1 ρ2 : Rho} {x : D} (h1 : a ρ = some (.pu x, ρ1)) (h2 : g x ρ1 = some ρ2) : sTgt g a ρ = some (.nx ρ2) := by
  unfold sTgt
  rw [h1, Option.bind_some]
  show (g x ρ1).bind _ = _
  rw [h2]; rfl
theorem sNew_nw {i : Nat} {a : FE} {ρ ρ1 ρ2 : Rho} {x : D} (h1 : a ρ = some (.nw x, ρ1)) (h2 : setS i (.own x) ρ1 = some ρ2) : sNew i a ρ = some (.nx ρ2) := by
  unfold sNew
  rw [h1, Option.bind_some]
  show (setS i (.own x) ρ1).bind _ = _
  rw [h2]; rfl
/-- the second one is new -/
theorem cOp2n_pl {op : D → D → Option D} {a b : FE} {ρ ρ1 ρ2 : Rho} {x y r : D} (h1 : a ρ = some (.pu x, ρ1)) (h2 : b ρ1 = some (.nw y, ρ2)) (h3 : op x y = some r) : cOp2n op a b ρ = some (mk r, ρ2) := by
  unfold cOp2n
  rw [h1, Option.bind_some, h2, Option.bind_some]
  show (op x y).bind _ = _
  rw [h3]; rfl
theorem cOp2n_lp {op : D → D → Option D} {a b : FE} {ρ ρ1 ρ2 : Rho} {x y r : D} (h1 : a ρ = some (.nw x, ρ1)) (h2 : b ρ1 = some (.pu y, ρ2)) (h3 : op x y = some r) : cOp2n op a b ρ = some (mk r, ρ2) := by
  unfold cOp2n
  rw [h1, Option.bind_some, h2, Option.bind_some]
  show (op x y).bind _ = _
  rw [h3]; rfl
theorem cOp2n_ll {op : D → D → Option D} {a b : FE} {ρ ρ1 ρ2 : Rho} {x y r : D} (h1 : a ρ = some (.nw x, ρ1)) (h2 : b ρ1 = some (.nw y, ρ2)) (h3 : op x y = some r) : cOp2n op a b ρ = some (mk r, ρ2) := by
  unfold cOp2n
  rw [h1, Option.bind_some, h2, Option.bind_some]
  show (op x y).bind _ = _
  rw [h3]; rfl
theorem cOp2_lp {op : D → D → Option D} {a b : FE} {ρ ρ1 ρ2 : Rho} {x y r : D} (h1 : a ρ = some (.nw x, ρ1)) (h2 : b ρ1 = some (.pu y, ρ2)) (h3 : op x y = some r) : cOp2 op a b ρ = some (.pu r, ρ2) := by
  unfold cOp2
  rw [h1, Option.bind_some, h2, Option.bind_some]
  show (op x y).bind _ = _
  rw [h3]; rfl
theorem cOp2_pl {op : D → D → Option D} {a b : FE} {ρ ρ1 ρ2 : Rho} {x y r : D} (h1 : a ρ = some (.pu x, ρ1)) (h2 : b ρ1 = some (.nw y, ρ2)) (h3 : op x y = some r) : cOp2 op a b ρ = some (.pu r, ρ2) := by
  unfold cOp2
  rw [h1, Option.bind_some, h2, Option.bind_some]
  show (op x y).bind _ = _
  rw [h3]; rfl
theorem cOp2_ll {op : D → D → Option D} {a b : FE} {ρ ρ1 ρ2 : Rho} {x y r : D} (h1 : a ρ = some (.nw x, ρ1)) (h2 : b ρ1 = some (.nw y, ρ2)) (h3 : op x y = some r) : cOp2 op a b ρ = some (.pu r, ρ2) := by
  unfold cOp2
  rw [h1, Option.bind_some, h2, Option.bind_some]
  show (op x y).bind _ = _
  rw [h3]; rfl
theorem sParA_args {is : List Nat} {as : FA} {ρ ρ' ρ2 : Rho} {xs : List D} (h : Args as ρ xs ρ') (h2 : setAll is (xs.map .pu) ρ' = some ρ2) : sParA is as ρ = some (.nx ρ2) := by
  have h' : as ρ = some (xs.map .pu, ρ') := h
  unfold sParA
  rw [h', Option.bind_some]
  show (setAll is (xs.map .pu) ρ').bind _ = _
  rw [h2]; rfl
theorem rgOkB_nat {n : Nat} (h : n ≤ 1000000) : rgOkB 0 (n : Int) = true := by
  have h1 : small 0 = true := by decide
  have h2 : small (n : Int) = true := small_nat (by omega)
  have h3 : ((n : Int) - 0).toNat ≤ 16777216 := by omega
  unfold rgOkB
  rw [h1, h2, decide_eq_true h3]; rfl
theorem cTupRg1_eq {a : FE} {ρ ρ1 : Rho} {j : Int} (h : a ρ = some (.pu (.int j), ρ1)) (hs : rgOkB 0 j = true) : cTupRg1 a ρ = some (.pu (.tuple (intsD 0 j.toNat)), ρ1) := by
  unfold cTupRg1
  rw [h, Option.bind_some]
  show (if rgOkB 0 j = true then _ else none) = _
  rw [if_pos hs]
theorem seq3 {a b c d : FS} {ρ ρ' : Rho} (h : sSeq a (sSeq b (sSeq c sPass)) ρ = some (.nx ρ')) : sSeq a (sSeq b (sSeq c d)) ρ = d ρ' := by
  unfold sSeq at h ⊢
  cases ha : a ρ with
  | none => rw [ha] at h; cases h
  | some o =>
    rw [ha] at h
    cases o with
    | nx ρ1 =>
      simp only [Option.bind_some] at h ⊢
      cases hb : b ρ1 with
      | none => rw [hb] at h; cases h
      | some o =>
        rw [hb] at h
        cases o with
        | nx ρ2 =>
          simp only [Option.bind_some] at h ⊢
          cases hc : c ρ2 with
          | none => rw [hc] at h; cases h
          | some o =>
            rw [hc] at h
            cases o with
            | nx ρ3 =>
              simp only [Option.bind_some, ev_pass] at h ⊢
              cases h; rfl
            | _ => simp at h
        | _ => simp at h
    | _ => simp at h
theorem tOr_ff {a b : FT} {ρ ρ1 ρ2 : Rho} {k : Bool} (h1 : a ρ = some (false, ρ1)) (h2 : b ρ1 = some (k, ρ2)) : tOr a b ρ = some (k, ρ2) := by
  unfold tOr
  rw [h1, Option.bind_some]
  simp only [Bool.false_eq_true, if_false, h2]
theorem tOr_t {a b : FT} {ρ ρ1 : Rho} (h1 : a ρ = some (true, ρ1)) : tOr a b ρ = some (true, ρ1) := by
  unfold tOr
  rw [h1]; rfl
theorem tAnd_tt {a b : FT} {ρ ρ1 ρ2 : Rho} {k : Bool} (h1 : a ρ = some (true, ρ1)) (h2 : b ρ1 = some (k, ρ2)) : tAnd a b ρ = some (k, ρ2) := by
  unfold tAnd
  rw [h1, Option.bind_some]
  simp only [if_true, h2]
theorem tAnd_f {a b : FT} {ρ ρ1 : Rho} (h1 : a ρ = some (false, ρ1)) : tAnd a b ρ = some (false, ρ1) := by
  unfold tAnd
  rw [h1]; rfl
theorem tNot_eq {a : FT} {ρ ρ1 : Rho} {k : Bool} (h1 : a ρ = some (k, ρ1)) : tNot a ρ = some (!k, ρ1) := by
  unfold tNot
  rw [h1]; rfl
/-! ### owned lists -/
theorem cOp2n_sn {op : D → D → Option D} {a b : FE} {ρ ρ1 ρ2 : Rho} {i : Nat} {x y r : D} (h1 : a ρ = some (.sl i, ρ1)) (h2 : b ρ1 = some (.nw y, ρ2)) (hc : cont ρ2 (.sl i) = some x) (h3 : op x y = some r) : cOp2n op a b ρ = some (mk r, ρ2) := by
  unfold cOp2n
  rw [h1, Option.bind_some, h2, Option.bind_some]
  show (cont ρ2 (.sl i)).bind _ = _
  rw [hc, Option.bind_some]
  show (op x y).bind _ = _
  rw [h3]; rfl
theorem cOp2n_sp {op : D → D → Option D} {a b : FE} {ρ ρ1 ρ2 : Rho} {i : Nat} {x y r : D} (h1 : a ρ = some (.sl i, ρ1)) (h2 : b ρ1 = some (.pu y, ρ2)) (hc : cont ρ2 (.sl i) = some x) (h3 : op x y = some r) : cOp2n op a b ρ = some (mk r, ρ2) := by
  unfold cOp2n
  rw [h1, Option.bind_some, h2, Option.bind_some]
  show (cont ρ2 (.sl i)).bind _ = _
  rw [hc, Option.bind_some]
  show (op x y).bind _ = _
  rw [h3]; rfl
theorem cOp2_sp {op : D → D → Option D} {a b : FE} {ρ ρ1 ρ2 : Rho} {i : Nat} {x y r : D} (h1 : a ρ = some (.sl i, ρ1)) (h2 : b ρ1 = some (.pu y, ρ2)) (hc : cont ρ2 (.sl i) = some x) (h3 : op x y = some r) : cOp2 op a b ρ = some (.pu r, ρ2) := by
  unfold cOp2
  rw [h1, Option.bind_some, h2, Option.bind_some]
  show (cont ρ2 (.sl i)).bind _ = _
  rw [hc, Option.bind_some]
  show (op x y).bind _ = _
  rw [h3]; rfl
theorem sApp_pu {i : Nat} {e : FE} {ρ ρ1 ρ2 : Rho} {d : D} {ds : List D} (h : e ρ = some (.pu d, ρ1)) (hc : cont ρ1 (.sl i) = some (.list ds)) (hl : ds.length < lineN) (hp : putS i (.list (ds ++ [d])) ρ1 = some ρ2) (h0 : (cont ρ (.sl i)).isSome = true := by rfl) : sApp i e ρ = some (.nx ρ2) := by
  obtain ⟨c0, hc0⟩ := Option.isSome_iff_exists.mp h0
  unfold sApp
  rw [hc0, Option.bind_some, h, Option.bind_some]
  simp only [stl, hc, if_pos hl, hp, Option.bind_some]
theorem sSet_pu {i : Nat} {k e : FE} {ρ ρ1 ρ2 ρ3 : Rho} {d : D} {j : Int} {n : Nat} {ds : List D} (h : e ρ = some (.pu d, ρ1)) (h2 : k ρ1 = some (.pu (.int j), ρ2)) (hc : cont ρ2 (.sl i) = some (.list ds)) (hn : ixD ds.length j = some n) (hp : putS i (.list (ds.set n d)) ρ2 = some ρ3) : sSet i k e ρ = some (.nx ρ3) := by
  unfold sSet
  rw [h, Option.bind_some, h2, Option.bind_some]
  simp only [stl, hc, hn, hp, Option.bind_some]
theorem sPar2_np {i j : Nat} {a b : FE} {ρ ρ1 ρ2 ρ3 ρ4 : Rho} {x y : D} (h1 : a ρ = some (.nw x, ρ1)) (h2 : b ρ1 = some (.pu y, ρ2)) (h3 : setS i (.own x) ρ2 = some ρ3) (h4 : setS j (.pu y) ρ3 = some ρ4) : sPar2 true false i j a b ρ = some (.nx ρ4) := by
  unfold sPar2
  rw [h1, Option.bind_some, h2, Option.bind_some]
  show (setS i (.own x) ρ2).bind _ = _
  rw [h3, Option.bind_some]
  show (setS j (.pu y) ρ3).bind _ = _
  rw [h4]; rfl
theorem sFrz_eq {i : Nat} {f : FS} {ρ ρ1 : Rho} (h : frz i ρ = ρ1) : sFrz i f ρ = f ρ1 := by
  unfold sFrz
  rw [h]
theorem iEnum_pu {a : FE} {ρ ρ1 : Rho} {x : D} {ds : List D} (h1 : a ρ = some (.pu x, ρ1)) (h2 : itemsOf x = some ds) : iEnum a ρ = some (enumD ds, ρ1) := by
  unfold iEnum
  rw [h1, Option.bind_some]
  show (itemsOf x).bind _ = _
  rw [h2]; rfl
theorem sExp_eq {e : FE} {ρ ρ1 : Rho} {v : Vl} (h : e ρ = some (v, ρ1)) : sExp e ρ = some (.nx ρ1) := by
  unfold sExp
  rw [h]; rfl
theorem cOp_pu {op : D → Option D} {a : FE} {ρ ρ1 : Rho} {x r : D} (h1 : a ρ = some (.pu x, ρ1)) (h3 : op x = some r) : cOp op a ρ = some (.pu r, ρ1) := by
  unfold cOp
  rw [h1, Option.bind_some]
  show (op x).bind _ = _
  rw [h3]; rfl
/-- one turn of a loop -/
theorem forGo_nx {g : FG} {b : FS} {x : D} {ds : List D} {ρ ρ1 ρ2 : Rho} (h1 : g x ρ = some ρ1) (h2 : b ρ1 = some (.nx ρ2)) : forGo g b (x :: ds) ρ = forGo g b ds ρ2 := by
  rw [forGo, h1, Option.bind_some, h2]; rfl
theorem tTru_b {a : FE} {ρ ρ1 : Rho} {k : Bool} (h : a ρ = some (.pu (.bool k), ρ1)) : tTru' a ρ = some (k, ρ1) := by
  unfold tTru'
  rw [h]; rfl
theorem run_rt {b : FS} {ars : List Ar} {p n : Nat} {d : D} {ρ0 ρ' : Rho} {outs : List D} (hp : ars.length = p) (h0 : ars.map arS ++ List.replicate (n - p) .non = ρ0) (h : b ρ0 = some (.rt (.pu d) ρ')) (ho : outsOf ars ρ' = some outs) : runDef p n b ars = some (.pu d, outs) := by
  unfold runDef
  rw [if_pos hp, h0, h]
  simp only [Option.bind_some, retV, ho]
theorem run_rn {b : FS} {ars : List Ar} {p n : Nat} {d : D} {ρ0 ρ' : Rho} {outs : List D} (hp : ars.length = p) (h0 : ars.map arS ++ List.replicate (n - p) .non = ρ0) (h : b ρ0 = some (.rt (.nw d) ρ')) (ho : outsOf ars ρ' = some outs) : runDef p n b ars = some (.nw d, outs) := by
  unfold runDef
  rw [if_pos hp, h0, h]
  simp only [Option.bind_some, retV, ho]
/-- an owned list is given back -/
theorem run_ro {b : FS} {ars : List Ar} {p n i : Nat} {ds : List D} {ρ0 ρ' : Rho} {outs : List D} (hp : ars.length = p) (h0 : ars.map arS ++ List.replicate (n - p) .non = ρ0) (h : b ρ0 = some (.rt (.sl i) ρ')) (hi : ρ'[i]? = some (.own (.list ds))) (ho : outsOf ars ρ' = some outs) : runDef p n b ars = some (.nw (.list ds), outs) := by
  unfold runDef
  rw [if_pos hp, h0, h]
  simp only [Option.bind_some, retV, hi, ho]
theorem run_nx {b : FS} {ars : List Ar} {p n : Nat} {ρ0 ρ' : Rho} {outs : List D} (hp : ars.length = p) (h0 : ars.map arS ++ List.replicate (n - p) .non = ρ0) (h : b ρ0 = some (.nx ρ')) (ho : outsOf ars ρ' = some outs) : runDef p n b ars = some (.pu .none, outs) := by
  unfold runDef
  rw [if_pos hp, h0, h]
  simp only [Option.bind_some, ho]
/-! ### the same, the value told by what is wanted -/
theorem cOp2n_pu' {op : D → D → Option D} {a b : FE} {ρ ρ1 ρ2 : Rho} {x y r : D} (h1 : a ρ = some (.pu x, ρ1)) (h2 : b ρ1 = some (.pu y, ρ2)) (h3 : op x y = some r) {v : Vl} (hm : mk r = v := by rfl) : cOp2n op a b ρ = some (v, ρ2) := hm ▸ cOp2n_pu h1 h2 h3
theorem cOp2n_pl' {op : D → D → Option D} {a b : FE} {ρ ρ1 ρ2 : Rho} {x y r : D} (h1 : a ρ = some (.pu x, ρ1)) (h2 : b ρ1 = some (.nw y, ρ2)) (h3 : op x y = some r) {v : Vl} (hm : mk r = v := by rfl) : cOp2n op a b ρ = some (v, ρ2) := hm ▸ cOp2n_pl h1 h2 h3
theorem cOp2n_lp' {op : D → D → Option D} {a b : FE} {ρ ρ1 ρ2 : Rho} {x y r : D} (h1 : a ρ = some (.nw x, ρ1)) (h2 : b ρ1 = some (.pu y, ρ2)) (h3 : op x y = some r) {v : Vl} (hm : mk r = v := by rfl) : cOp2n op a b ρ = some (v, ρ2) := hm ▸ cOp2n_lp h1 h2 h3
theorem cOp2n_ll' {op : D → D → Option D} {a b : FE} {ρ ρ1 ρ2 : Rho} {x y r : D} (h1 : a ρ = some (.nw x, ρ1)) (h2 : b ρ1 = some (.nw y, ρ2)) (h3 : op x y = some r) {v : Vl} (hm : mk r = v := by rfl) : cOp2n op a b ρ = some (v, ρ2) := hm ▸ cOp2n_ll h1 h2 h3
theorem cOp2n_sn' {op : D → D → Option D} {a b : FE} {ρ ρ1 ρ2 : Rho} {i : Nat} {x y r : D} (h1 : a ρ = some (.sl i, ρ1)) (h2 : b ρ1 = some (.nw y, ρ2)) (hc : cont ρ2 (.sl i) = some x) (h3 : op x y = some r) {v : Vl} (hm : mk r = v := by rfl) : cOp2n op a b ρ = some (v, ρ2) := hm ▸ cOp2n_sn h1 h2 hc h3
theorem cOp2n_sp' {op : D → D → Option D} {a b : FE} {ρ ρ1 ρ2 : Rho} {i : Nat} {x y r : D} (h1 : a ρ = some (.sl i, ρ1)) (h2 : b ρ1 = some (.pu y, ρ2)) (hc : cont ρ2 (.sl i) = some x) (h3 : op x y = some r) {v : Vl} (hm : mk r = v := by rfl) : cOp2n op a b ρ = some (v, ρ2) := hm ▸ cOp2n_sp h1 h2 hc h3
theorem cOpAn_args' {op : List D → Option D} {as : FA} {ρ ρ' : Rho} {xs : List D} {r : D} (h : Args as ρ xs ρ') (h3 : op xs = some r) {v : Vl} (hm : mk r = v := by rfl) : cOpAn op as ρ = some (v, ρ') := hm ▸ cOpAn_args h h3
theorem cSl_pu' {op : D → Option Int → Option Int → Option D} {a : FE} {lo hi : FO} {ρ ρ1 ρ2 ρ3 : Rho} {x r : D} {l h : Option Int} (h1 : a ρ = some (.pu x, ρ1)) (h2 : lo ρ1 = some (l, ρ2)) (h3 : hi ρ2 = some (h, ρ3)) (h4 : op x l h = some r) {v : Vl} (hm : mk r = v := by rfl) : cSl mk op a lo hi ρ = some (v, ρ3) := hm ▸ cSl_pu h1 h2 h3 h4
theorem cOpn_pu' {op : D → Option D} {a : FE} {ρ ρ1 : Rho} {x r : D} (h1 : a ρ = some (.pu x, ρ1)) (h3 : op x = some r) {v : Vl} (hm : mk r = v := by rfl) : cOpn op a ρ = some (v, ρ1) := hm ▸ cOpn_pu h1 h3
end PL

/-! PL: the pure layer: dicts in slots. -/
namespace PL
open PySem PySem.Spec PyProof.Rows L2

/-! ### keys and tables -/
def eqK : D → D → Bool
  | .int i, .int j => decide (i = j)
  | .str x, .str y => decide (x = y)
  | _, _ => false
def eqKs : List D → List D → Bool
  | [], [] => true
  | a :: as, b :: bs => eqK a b && eqKs as bs
  | _, _ => false
def eqD : D → D → Bool
  | .tuple as, .tuple bs => eqKs as bs
  | a, b => eqK a b
def keyB : D → Bool
  | .int _ => true
  | .str _ => true
  | _ => false
def kindD : D → Nat
  | .int _ => 1
  | .str _ => 1
  | .tuple ds => if ds.all keyB = true then 2 else 0
  | _ => 0
def dfind : List (D × D) → D → Option D
  | [], _ => none
  | p :: r, k => if eqD p.1 k = true then some p.2 else dfind r k
def dputD (kvs : List (D × D)) (k v : D) : List (D × D) := if (kvs.any fun p => eqD p.1 k) = true then kvs.map (fun p => if eqD p.1 k = true then (p.1, v) else p) else kvs ++ [(k, v)]
def okK : List (D × D) → D → Bool
  | [], k => kindD k != 0
  | p :: _, k => kindD k != 0 && kindD p.1 == kindD k
theorem eqK_kD (a b : Key) : eqK (kD a) (kD b) = decide (a = b) := by
  cases a <;> cases b <;> simp [kD, eqK]
theorem eqD_kD (a b : Key) : eqD (kD a) (kD b) = decide (a = b) := by
  rw [← eqK_kD]
  cases a <;> cases b <;> rfl
theorem eqKs_kD : ∀ a b : List Key, eqKs (a.map kD) (b.map kD) = decide (a = b)
  | [], [] => by simp [eqKs]
  | [], _ :: _ => by simp [eqKs]
  | _ :: _, [] => by simp [eqKs]
  | a :: as, b :: bs => by
    rw [List.map_cons, List.map_cons]
    unfold eqKs
    rw [eqK_kD, eqKs_kD as bs]
    by_cases h1 : a = b <;> by_cases h2 : as = bs <;> simp [h1, h2]
theorem eqD_kT (a b : List Key) : eqD (kT a) (kT b) = decide (a = b) := eqKs_kD a b
theorem keyB_kD (a : Key) : keyB (kD a) = true := by cases a <;> rfl
theorem kind_kD (a : Key) : kindD (kD a) = 1 := by cases a <;> rfl
theorem kind_kT (a : List Key) : kindD (kT a) = 2 := by
  show (if (a.map kD).all keyB = true then 2 else 0) = 2
  rw [if_pos]
  rw [List.all_map, List.all_eq_true]
  intro x _
  exact keyB_kD x
section
variable {κ : Type} [DecidableEq κ] {K : PySem.W.Frag} {G : Hp} {f : κ → D}
theorem ent_find (hf : ∀ a b, eqD (f a) (f b) = decide (a = b)) (k : κ) : ∀ {es : List (κ × V)} {kvs : List (D × D)}, Ent K G f es kvs → (valV es k = none ∧ dfind kvs (f k) = none) ∨ ∃ v d, valV es k = some v ∧ dfind kvs (f k) = some d ∧ Dp K G v d
  | _, _, .nil => .inl ⟨rfl, rfl⟩
  | _, _, .cons (a := p) (b := q) r t => by
    obtain ⟨r1, r2⟩ := r
    unfold dfind
    rw [r1, hf]
    by_cases e : p.1 = k
    · rw [valV_pos e, if_pos (decide_eq_true e)]
      exact .inr ⟨_, _, rfl, rfl, r2⟩
    · rw [valV_neg e, if_neg (by simp [e])]
      exact ent_find hf k t
theorem ent_any (hf : ∀ a b, eqD (f a) (f b) = decide (a = b)) (k : κ) : ∀ {es : List (κ × V)} {kvs : List (D × D)}, Ent K G f es kvs → (kvs.any fun p => eqD p.1 (f k)) = es.any fun kv => decide (kv.1 = k)
  | _, _, .nil => rfl
  | _, _, .cons (a := p) (b := q) r t => by
    rw [List.any_cons, List.any_cons, ent_any hf k t, r.1, hf]
theorem ent_map (hf : ∀ a b, eqD (f a) (f b) = decide (a = b)) (k : κ) {v : V} {d : D} (hd : Dp K G v d) : ∀ {es : List (κ × V)} {kvs : List (D × D)}, Ent K G f es kvs →
    Ent K G f (es.map fun kv => if kv.1 = k then (kv.1, v) else kv) (kvs.map fun p => if eqD p.1 (f k) = true then (p.1, d) else p)
  | _, _, .nil => .nil
  | _, _, .cons (a := p) (b := q) r t => by
    rw [List.map_cons, List.map_cons]
    refine .cons ?_ (ent_map hf k hd t)
    rw [r.1, hf]
    by_cases e : p.1 = k
    · rw [if_pos e, if_pos (decide_eq_true e)]
      exact ⟨rfl, hd⟩
    · rw [if_neg e, if_neg (by simp [e])]
      exact r
theorem ent_snoc {k : κ} {v : V} {d : D} (hd : Dp K G v d) : ∀ {es : List (κ × V)} {kvs : List (D × D)}, Ent K G f es kvs → Ent K G f (es ++ [(k, v)]) (kvs ++ [(f k, d)])
  | _, _, .nil => .cons ⟨rfl, hd⟩ .nil
  | _, _, .cons r t => .cons r (ent_snoc hd t)
theorem ent_put (hf : ∀ a b, eqD (f a) (f b) = decide (a = b)) (k : κ) {v : V} {d : D} (hd : Dp K G v d) {es : List (κ × V)} {kvs : List (D × D)} (h : Ent K G f es kvs) : Ent K G f (putK es k v) (dputD kvs (f k) d) := by
  unfold putK dputD
  rw [ent_any hf k h]
  split
  · exact ent_map hf k hd h
  · exact ent_snoc hd h
theorem ent_len {es : List (κ × V)} {kvs : List (D × D)} (h : Ent K G f es kvs) : es.length = kvs.length := Paired.length h
end
/-! ### the key's object -/
section
variable {K : PySem.W.Frag} {G H : Hp} {y : V} {kd : D} {a : Addr} {kvs : List (D × D)}
theorem key1 (h : Dp K G y kd) (hk : keyB kd = true) : ∃ k, kd = kD k ∧ y = kV k := by
  cases h with
  | int i => exact ⟨.inl i, rfl, rfl⟩
  | str x => exact ⟨.inr x, rfl, rfl⟩
  | _ => cases hk
theorem keys1 : ∀ {xs : List V} {ds : List D}, DpAll K G xs ds → ds.all keyB = true → ∃ k : List Key, ds = k.map kD ∧ xs = k.map kV
  | _, _, .nil, _ => ⟨[], rfl, rfl⟩
  | _, _, .cons h t, hk => by
    rw [List.all_cons, Bool.and_eq_true] at hk
    obtain ⟨k, rfl, rfl⟩ := key1 h hk.1
    obtain ⟨ks, rfl, rfl⟩ := keys1 t hk.2
    exact ⟨k :: ks, rfl, rfl⟩
theorem kind_1 (h : kindD kd = 1) : keyB kd = true := by
  cases kd with
  | int i => rfl
  | str x => rfl
  | tuple ds =>
    have h' : (if ds.all keyB = true then 2 else 0) = 1 := h
    by_cases z : ds.all keyB = true
    · rw [if_pos z] at h'; cases h'
    · rw [if_neg z] at h'; cases h'
  | _ => cases h
theorem kind_2 (h : kindD kd = 2) : ∃ ds, kd = .tuple ds ∧ ds.all keyB = true := by
  cases kd with
  | tuple ds =>
    have h' : (if ds.all keyB = true then 2 else 0) = 2 := h
    by_cases z : ds.all keyB = true
    · exact ⟨ds, rfl, z⟩
    · rw [if_neg z] at h'; cases h'
  | _ => cases h
theorem key2 (h : Dp K G y kd) (hk : kindD kd = 2) : ∃ k b, kd = kT k ∧ y = .ref b ∧ G b = some (.tup (k.map kV)) := by
  obtain ⟨ds, rfl, hb⟩ := kind_2 hk
  obtain ⟨b, xs, rfl, h1, h2⟩ := dp_tupleT h
  obtain ⟨k, rfl, rfl⟩ := keys1 h2 hb
  exact ⟨k, b, rfl, rfl, h1⟩
theorem kind_cases (kd : D) : kindD kd = 0 ∨ kindD kd = 1 ∨ kindD kd = 2 := by
  cases kd with
  | tuple ds =>
    show (if ds.all keyB = true then 2 else 0) = 0 ∨ (if ds.all keyB = true then 2 else 0) = 1 ∨ (if ds.all keyB = true then 2 else 0) = 2
    by_cases z : ds.all keyB = true
    · rw [if_pos z]; exact .inr (.inr rfl)
    · rw [if_neg z]; exact .inl rfl
  | int i => exact .inr (.inl rfl)
  | str i => exact .inr (.inl rfl)
  | _ => exact .inl rfl
end
/-! ### an empty dict may change its kind -/
section
variable {X : Cx} {pins : List (Addr × Obj)} {σ : L2.St} {H : Hp} {s : Shared} {a : Addr}
theorem pairs_nil {prog : Program} {w : World} {κ : Type} [DecidableEq κ] {knd : KeyKind prog w κ} {es : List DictEntry} (h : Pairs knd es []) : es = [] := by
  cases es with
  | nil => rfl
  | cons e r => cases h
theorem mut_dK {es : List (Key × V)} {H : Hp} {a : Addr} (e : H a = some (.dK es)) : Mut (H a) := by rw [e]; exact True.intro
theorem mut_dT {es : List (List Key × V)} {H : Hp} {a : Addr} (e : H a = some (.dT es)) : Mut (H a) := by rw [e]; exact True.intro
theorem Inv.toK (e : H a = some (.dT [])) (I : Inv X pins σ H s) : Inv X pins σ (upd H a (.dK [])) s := by
  obtain ⟨z, hs, xs, pr, o, es, ep, ho, hx, hdt, he, hn⟩ := (show ObjOk X.prog X.w H s.heap a (.dT []) from I.hok a _ e)
  cases pr
  have ee : es = #[] := Array.toList_inj.mp he
  subst ee
  exact I.write (x := a) (e := a) (h' := s.heap) (t' := s.toks) (mut_dT e) (.inl rfl) (fun _ _ _ q => q) ⟨o, ho⟩ ⟨Nat.zero_le _, hs, [], .nil, o, #[], ep, ho, hx, hdt, (fun x hx => by simp at hx), .nil, List.nodup_nil⟩
theorem Inv.toT (e : H a = some (.dK [])) (I : Inv X pins σ H s) : Inv X pins σ (upd H a (.dT [])) s := by
  obtain ⟨z, hs, xs, pr, o, es, ep, ho, hx, hdt, _, he, hn⟩ := (show ObjOk X.prog X.w H s.heap a (.dK []) from I.hok a _ e)
  cases pr
  have ee : es = #[] := Array.toList_inj.mp (pairs_nil he)
  subst ee
  exact I.write (x := a) (e := a) (h' := s.heap) (t' := s.toks) (mut_dK e) (.inl rfl) (fun _ _ _ q => q) ⟨o, ho⟩ ⟨Nat.zero_le _, hs, [], .nil, o, #[], ep, ho, hx, hdt, rfl, List.nodup_nil⟩
end
theorem upd_upd {H : Hp} {a : Addr} {o o' : HO} : upd (upd H a o) a o' = upd H a o' := by
  funext b
  by_cases h : b = a
  · subst h; rw [upd_same, upd_same]
  · rw [upd_ne h, upd_ne h, upd_ne h]
theorem upd_id {H : Hp} {a : Addr} {o : HO} (h : H a = some o) : upd H a o = H := by
  funext b
  by_cases hb : b = a
  · subst hb; rw [upd_same, h]
  · rw [upd_ne hb]
/-- the same state, the dict's object read as ob -/
def Sw (H : Hp) (a : Addr) (ob : HO) : Prop := ∀ (X : Cx) pins (σ : L2.St) (s : Shared), Inv X pins σ H s ↔ Inv X pins σ (upd H a ob) s
theorem sw_id {H : Hp} {a : Addr} {o : HO} (h : H a = some o) : Sw H a o := fun X pins σ s => by rw [upd_id h]
theorem sw_toK {H : Hp} {a : Addr} (h : H a = some (.dT [])) : Sw H a (.dK []) := fun X pins σ s => ⟨fun I => Inv.toK h I, fun I => by
  have q := Inv.toT (H := upd H a (.dK [])) upd_same I
  rw [upd_upd, upd_id h] at q
  exact q⟩
theorem sw_toT {H : Hp} {a : Addr} (h : H a = some (.dK [])) : Sw H a (.dT []) := fun X pins σ s => ⟨fun I => Inv.toT h I, fun I => by
  have q := Inv.toK (H := upd H a (.dT [])) upd_same I
  rw [upd_upd, upd_id h] at q
  exact q⟩
/-- the dict at a, read as ob, and the key y -/
def Kyd (K : PySem.W.Frag) (G H : Hp) (a : Addr) (kvs : List (D × D)) (y : V) (kd : D) (ob : HO) : Prop :=
  (∃ es k, ob = .dK es ∧ y = kV k ∧ kd = kD k ∧ Ent K G kD es kvs) ∨
  ∃ es k b, ob = .dT es ∧ y = .ref b ∧ b ≠ a ∧ H b = some (.tup (k.map kV)) ∧ kd = kT k ∧ Ent K G kT es kvs
theorem prep {K : PySem.W.Frag} {G H : Hp} {y : V} {kd : D} {a : Addr} {kvs : List (D × D)} (o : OwnDict K G H a kvs) (hk : Dp K G y kd) (sg : Same G H) (ok : okK kvs kd = true) : ∃ ob, Sw H a ob ∧ Kyd K G H a kvs y kd ob := by
  have ne : ∀ {b : Addr} {k : List Key}, G b = some (.tup (k.map kV)) → b ≠ a := fun {b k} hb z => by
    subst z
    have e := sg _ _ hb
    rcases o with ⟨es, h1, _⟩ | ⟨es, h1, _⟩ <;> (rw [h1] at e; cases e)
  rcases o with ⟨es, h1, h2⟩ | ⟨es, h1, h2⟩
  · rcases kind_cases kd with q | q | q
    · cases kvs with
      | nil =>
        have ok' : (kindD kd != 0) = true := ok
        rw [q] at ok'; cases ok'
      | cons p r =>
        have ok' : (kindD kd != 0 && kindD p.1 == kindD kd) = true := ok
        rw [q] at ok'; cases ok'
    · obtain ⟨k, rfl, rfl⟩ := key1 hk (kind_1 q)
      exact ⟨.dK es, sw_id h1, .inl ⟨es, k, rfl, rfl, rfl, h2⟩⟩
    · obtain ⟨k, b, rfl, rfl, hb⟩ := key2 hk q
      cases h2 with
      | nil => exact ⟨.dT [], sw_toT h1, .inr ⟨[], k, b, rfl, rfl, ne hb, sg _ _ hb, rfl, .nil⟩⟩
      | cons r t =>
        have ok' : (kindD (kT k) != 0 && kindD _ == kindD (kT k)) = true := ok
        rw [r.1, kind_kD, q] at ok'
        simp at ok'
  · rcases kind_cases kd with q | q | q
    · cases kvs with
      | nil =>
        have ok' : (kindD kd != 0) = true := ok
        rw [q] at ok'; cases ok'
      | cons p r =>
        have ok' : (kindD kd != 0 && kindD p.1 == kindD kd) = true := ok
        rw [q] at ok'; cases ok'
    · obtain ⟨k, rfl, rfl⟩ := key1 hk (kind_1 q)
      cases h2 with
      | nil => exact ⟨.dK [], sw_toK h1, .inl ⟨[], k, rfl, rfl, rfl, .nil⟩⟩
      | cons r t =>
        have ok' : (kindD _ != 0 && kindD _ == kindD _) = true := ok
        rw [r.1, kind_kT, q] at ok'
        simp at ok'
    · obtain ⟨k, b, rfl, rfl, hb⟩ := key2 hk q
      exact ⟨.dT es, sw_id h1, .inr ⟨es, k, b, rfl, rfl, ne hb, sg _ _ hb, rfl, h2⟩⟩
/-- what stands at the key -/
theorem Kyd.get {K : PySem.W.Frag} {G H : Hp} {y : V} {kd : D} {a : Addr} {kvs : List (D × D)} {ob : HO} (h : Kyd K G H a kvs y kd ob) :
    ∃ o, DGet (upd H a ob) a y o ∧ ((o = none ∧ dfind kvs kd = none) ∨ ∃ v d, o = some v ∧ dfind kvs kd = some d ∧ Dp K G v d) := by
  rcases h with ⟨es, k, rfl, rfl, rfl, h⟩ | ⟨es, k, b, rfl, rfl, hn, hb, rfl, h⟩
  · exact ⟨valV es k, DGet.k upd_same, ent_find eqD_kD k h⟩
  · exact ⟨valV es k, DGet.t upd_same (by rw [upd_ne hn]; exact hb), ent_find eqD_kT k h⟩
theorem Kyd.put {K : PySem.W.Frag} {G H : Hp} {y v : V} {kd d : D} {a : Addr} {kvs : List (D × D)} {ob : HO} (h : Kyd K G H a kvs y kd ob) (hl : kvs.length < sizeLine) (hv : Dp K G v d) :
    ∃ ob', DPut (upd H a ob) a y v (upd H a ob') ∧ NT ob' ∧ OwnDict K G (upd H a ob') a (dputD kvs kd d) := by
  rcases h with ⟨es, k, rfl, rfl, rfl, h⟩ | ⟨es, k, b, rfl, rfl, hn, hb, rfl, h⟩
  · have q := DPut.k (H := upd H a (.dK es)) (a := a) (k := k) (v := v) upd_same (by rw [ent_len h]; exact hl)
    rw [upd_upd] at q
    exact ⟨_, q, (fun _ z => nomatch z), .inl ⟨_, upd_same, ent_put eqD_kD k hv h⟩⟩
  · have q := DPut.t (H := upd H a (.dT es)) (a := a) (b := b) (k := k) (v := v) upd_same (by rw [upd_ne hn]; exact hb) (by rw [ent_len h]; exact hl)
    rw [upd_upd] at q
    exact ⟨_, q, (fun _ z => nomatch z), .inr ⟨_, upd_same, ent_put eqD_kT k hv h⟩⟩
end PL

/-! PL: dicts, 2: sorted(d), list(d), reading and writing a dict in a slot. -/
namespace PL
open PySem PySem.Spec PyProof.Rows L2

section
variable {X : Cx} {pins : List (Addr × Obj)} {σ : L2.St} {G H : Hp} {s : Shared} {a : Addr} {kvs : List (D × D)}
theorem dp_key (k : Key) : Dp X.K G (kV k) (kD k) := by
  cases k with
  | inl i => exact .int i
  | inr x => exact .str x
theorem dps_key : ∀ k : List Key, DpAll X.K G (k.map kV) (k.map kD)
  | [] => .nil
  | k :: ks => .cons (dp_key k) (dps_key ks)
theorem rel_key {k : Key} {v : Value} (h : keyIs k v = true) : RelV (kV k) v := by
  rcases keyIs_shape h with ⟨i, t, rfl, rfl⟩ | ⟨z, t, rfl, rfl⟩
  · exact ⟨t, rfl⟩
  · exact ⟨t, rfl⟩
theorem own_len (I : Inv X pins σ H s) (o : OwnDict X.K G H a kvs) : kvs.length ≤ sizeLine := by
  rcases o with ⟨es, h1, h2⟩ | ⟨es, h1, h2⟩
  · rw [← ent_len h2]; exact (dk_of I.hok h1).1
  · rw [← ent_len h2]; exact (dt_of I.hok h1).1
theorem each_get {R : Value → D → Prop} : ∀ {us : List Value} {ds : List D}, us.length = ds.length → (∀ (j : Nat) (u : Value), us[j]? = some u → ∃ d, ds[j]? = some d ∧ R u d) → PySem.W.EachIs R us ds
  | [], [], _, _ => .nil
  | u :: us, d :: ds, hl, h => by
    obtain ⟨d', e1, e2⟩ := h 0 u rfl
    cases e1
    refine .cons e2 (each_get (by simpa using hl) fun j u e => ?_)
    obtain ⟨d', a, b⟩ := h (j + 1) u (by simpa using e)
    exact ⟨d', by simpa using a, b⟩
  | [], _ :: _, hl, _ => by simp at hl
  | _ :: _, [], hl, _ => by simp at hl
theorem ent_at {κ : Type} {K : PySem.W.Frag} {f : κ → D} : ∀ {es : List (κ × V)} {kvs : List (D × D)}, Ent K G f es kvs → kvs.map (·.1) = es.map fun e => f e.1
  | _, _, .nil => rfl
  | _, _, .cons r t => by rw [List.map_cons, List.map_cons, ent_at t, r.1]
theorem paired_at {α β : Type} {F : α → β → Prop} : ∀ {xs : List α} {ys : List β}, Paired F xs ys → ∀ {i : Nat} {y : β}, ys[i]? = some y → ∃ x, xs[i]? = some x ∧ F x y
  | _, _, .nil, i, y, h => by simp at h
  | _, _, .cons r t, 0, y, h => by
    have e := Option.some.inj h
    subst e
    exact ⟨_, rfl, r⟩
  | _, _, .cons r t, i + 1, y, h => by
    obtain ⟨x, h1, h2⟩ := paired_at t (i := i) (by simpa using h)
    exact ⟨x, by simpa using h1, h2⟩
theorem collect_dict {R : List Value → Shared → Prop} (hc : X.calm = true) (I : Inv X pins σ H s) (o : OwnDict X.K G H a kvs)
    (hR : ∀ (h' : Heap) (tk : Nat) (acc : List Value), (∀ b o, s.heap.get? b = some o → h'.get? b = some o) → PySem.W.EachIs (RvD X.K (GT G H)) acc (kvs.map (·.1)) → R acc { s with heap := h', toks := tk }) :
    wpAny (model X.prog X.w) X.A.in1 (collect (.ref a)) R X.xe s := by
  rcases o with ⟨es, h1, h2⟩ | ⟨es, h1, h2⟩
  · obtain ⟨z, lo, vs, rel, dd⟩ := dk_of I.hok h1
    obtain ⟨ep, hat⟩ := dd.dictAt
    have hl : vs.length = es.length := rel.length.symm
    refine PySem.W.kdu_collect (A := X.A.in1) (PySem.W.kdl_dict (knd := mixKind X.prog X.w) (kvs := vs) (ep := ep) lo) (I.ok.hd hc) hat (by rw [hl]; exact z) fun h' tk acc hk hacc => hR h' tk _ hk ?_
    rw [ent_at h2]
    refine each_get (by rw [Array.length_toList, hacc.1, hl, List.length_map]) fun j v e => ?_
    obtain ⟨k, x, e1, e2⟩ := hacc.2 j v (by rw [← Array.getElem?_toList]; exact e)
    have e3 : (vs.map (·.1))[j]? = some k := by rw [List.getElem?_map, e1]; rfl
    rw [← rel.keys, List.getElem?_map] at e3
    cases e4 : es[j]? with
    | none => rw [e4] at e3; cases e3
    | some p =>
      rw [e4] at e3
      have e5 : p.1 = k := Option.some.inj e3
      refine ⟨kD k, by rw [List.getElem?_map, e4, ← e5]; rfl, kV k, rel_key e2, dp_key k⟩
  · obtain ⟨z, hs, ks, pr, o, es', ep, ho, hx, hdt, he, hn⟩ := (show ObjOk X.prog X.w H s.heap a (.dT es) from I.hok a _ h1)
    have l1 : es'.size = ks.length := size_of_entries he
    have l2 : es.length = ks.length := Paired.length pr
    refine PySem.W.kdu_collect (A := X.A.in1) (kdl_raw hs hx hdt) (I.ok.hd hc) ho (by omega) fun h' tk acc' kp it => hR h' tk _ kp ?_
    rw [ent_at h2]
    refine each_get (by rw [Array.length_toList, it.1, l1, List.length_map, l2]) fun j v e => ?_
    obtain ⟨en, hen, hv⟩ := it.2 j v (by rw [← Array.getElem?_toList]; exact e)
    have qe := entry_at he j
    rw [hen] at qe
    cases hb : ks[j]? with
    | none => rw [hb] at qe; exact nomatch (show some en = none from qe)
    | some b =>
      rw [hb] at qe
      have e2 : en = entryOfKey (tupleKind (mixKind X.prog X.w)) b := Option.some.inj qe
      have q := paired_at pr hb
      obtain ⟨p, hp, q1, q2, q3⟩ := q
      refine ⟨kT p.1, by rw [List.getElem?_map, hp]; rfl, V.ref b.2.1, ?_, .tup (gt_tup q2) (dps_key p.1)⟩
      rw [hv, e2]
      rfl
def rSortD (K : PySem.W.Frag) : List V → Hp → VK → Prop := fun vs H Q => ∃ (G : Hp) (a : Addr) (kvs : List (D × D)), Same G H ∧ vs = [V.ref a] ∧ OwnDict K G H a kvs ∧ PySem.W.AllAlike (kvs.map (·.1)) ∧ SortableG (kvs.map (·.1)) ∧ (∀ d ∈ kvs.map (·.1), d.depth ≤ 60) ∧
  ∀ (ys : List V) (p : Addr), DpAll K (GT G H) ys (srtD (kvs.map (·.1))) → H p = none → Q (.ref p) (upd H p (.lst ys))
theorem cr_sortD (hc : X.calm = true) (hu : X.A.units + 65 < cLine) : CallR X (.builtin "sorted") (rSortD X.K) := by
  intro pins s σ H vs us Q I r h
  obtain ⟨G, a, kvs, sg, rfl, hd, ha, hk, hz, q⟩ := h
  rw [Vals.ref1 r]
  have hl2 := own_len I hd
  refine sorted_any (W := fun l => l = kvs.map (·.1)) (gt_sub sg) hu (fun R hR => collect_dict hc I hd fun h' tk acc kp e => hR _ _ _ (I.kept kp) rfl e) (fun l e => by subst e; exact ⟨ha, hk, hz, by rw [List.length_map]; exact hl2⟩) fun ys p ds' e hp hy => ?_
  subst e
  exact q ys p hy hp
end

/-! ### a dict in a slot -/
def dcont (ρ : Rho) (i : Nat) : Option (List (D × D)) := match ρ[i]? with
  | some (.own (.dict kvs)) => some kvs
  | some (.io (.dict kvs)) => some kvs
  | _ => none
section
variable {K : PySem.W.Frag} {ioA : Nat → Option Addr} {G0 H0 G G' H H' : Hp} {σ : L2.St} {ρ ρ' : Rho} {v : V} {i : Nat} {kvs : List (D × D)}
theorem dcont_sl (c : dcont ρ i = some kvs) : ρ[i]? = some (.own (.dict kvs)) ∨ ρ[i]? = some (.io (.dict kvs)) := by
  unfold dcont at c
  split at c
  · rename_i ds z; cases c; exact .inl z
  · rename_i ds z; cases c; exact .inr z
  · cases c
theorem dcont_mtb (c : dcont ρ i = some kvs) : mtb ρ[i]? = true := by
  rcases dcont_sl c with e | e <;> (rw [e]; rfl)
theorem Sg.md (S : Sg K ioA G0 H0 G H σ ρ) (c : dcont ρ i = some kvs) : ∃ a, σ[i]? = some (some (.ref a)) ∧ G a = none ∧ OwnDict K G H a kvs := by
  rcases dcont_sl c with e | e
  · obtain ⟨a, h1, h2, h3, h4⟩ := S.own i _ e
    exact ⟨a, h1, h2, h4⟩
  · obtain ⟨a, h1, h2, h4⟩ := S.io i _ e
    exact ⟨a, h2, (S.ioh i a h1).2.1, h4⟩
theorem OwnDict.isD {a : Addr} (h : OwnDict K G H a kvs) : IsD H a := by
  rcases h with ⟨es, h, _⟩ | ⟨es, h, _⟩
  · exact .inl ⟨_, .inl h⟩
  · exact .inr ⟨_, .inl h⟩
/-- the object of slot i is written -/
theorem Sg.putO {d' : D} {a : Addr} {ob : HO} (S : Sg K ioA G0 H0 G H σ ρ) (hm : mtb ρ[i]? = true) (hs : σ[i]? = some (some (.ref a))) (hn : NT ob) (hd : Own K G (upd H a ob) a d') (e : putS i d' ρ = some ρ') :
    Sg K ioA G0 H0 G (upd H a ob) σ ρ' := by
  obtain ⟨a', d0, h1, h2, h3, _⟩ := S.mt hm
  have e1 := hs.symm.trans h1
  cases e1
  have key : ρ'.length = ρ.length ∧ (∀ j, j ≠ i → ρ'[j]? = ρ[j]?) ∧ ((∃ d0, ρ[i]? = some (.own d0) ∧ ρ'[i]? = some (.own d')) ∨ (∃ d0, ρ[i]? = some (.io d0) ∧ ρ'[i]? = some (.io d'))) := by
    unfold putS at e
    split at e
    · rename_i d0 e0
      cases e
      exact ⟨by simp, fun j hj => List.getElem?_set_ne (Ne.symm hj), .inl ⟨d0, e0, List.getElem?_set_self (List.getElem?_eq_some_iff.mp e0).1⟩⟩
    · rename_i d0 e0
      cases e
      exact ⟨by simp, fun j hj => List.getElem?_set_ne (Ne.symm hj), .inr ⟨d0, e0, List.getElem?_set_self (List.getElem?_eq_some_iff.mp e0).1⟩⟩
    · cases e
  obtain ⟨k1, k2, k3⟩ := key
  have mt : ∀ (j : Nat), mtb ρ'[j]? = mtb ρ[j]? := fun j => by
    by_cases hj : j = i
    · subst hj
      rcases k3 with ⟨d0, q1, q2⟩ | ⟨d0, q1, q2⟩ <;> (rw [q1, q2]; rfl)
    · rw [k2 j hj]
  have ne : ∀ (j : Nat) (b : Addr), j ≠ i → mtb ρ[j]? = true → σ[j]? = some (some (.ref b)) → b ≠ a := fun j b hj hm' hb z => by
    rw [z] at hb
    exact hj (S.apart j i a hm' hm hb hs)
  refine ⟨S.len.trans k1.symm, fun b u q => ?_, S.g0, S.new, fun b u q k => ?_, fun j b q => ?_, fun j e' q => ?_, fun j e' q => ?_, fun j e' q => ?_, fun j l b q1 q2 q3 q4 => S.apart j l b ((mt j).symm.trans q1) ((mt l).symm.trans q2) q3 q4, fun j d q => S.fx j d (by
    have hj : j ≠ i := fun z => by
      subst z
      rcases k3 with ⟨d0, q1, q2⟩ | ⟨d0, q1, q2⟩ <;> (rw [q2] at q; cases q)
    rw [k2 j hj] at q
    exact q)⟩
  · have hb : b ≠ a := fun z => by rw [z, h2] at q; cases q
    rw [upd_ne hb]; exact S.sub b u q
  · have hb : b ≠ a := fun z => by
      rcases k3 with ⟨d0, q1, q2⟩ | ⟨d0, q1, q2⟩
      · obtain ⟨a', w1, w2, w3, w4⟩ := S.own i d0 q1
        have w5 := hs.symm.trans w1
        cases w5
        rw [z, w3] at q; cases q
      · obtain ⟨a', w1, w2, w4⟩ := S.io i d0 q1
        have w5 := hs.symm.trans w2
        cases w5
        exact k i (by rw [w1, z])
    rw [upd_ne hb]; exact S.fr b u q k
  · obtain ⟨⟨u, w1, wn⟩, w2, w3⟩ := S.ioh j b q
    refine ⟨?_, w2, w3⟩
    by_cases hb : b = a
    · exact ⟨ob, by rw [hb]; exact upd_same, hn⟩
    · exact ⟨u, by rw [upd_ne hb]; exact w1, wn⟩
  · have hj : j ≠ i := fun z => by
      subst z
      rcases k3 with ⟨d0, q1, q2⟩ | ⟨d0, q1, q2⟩ <;> (rw [q2] at q; cases q)
    rw [k2 j hj] at q
    exact S.pu j e' q
  · by_cases hj : j = i
    · subst hj
      rcases k3 with ⟨d0, q1, q2⟩ | ⟨d0, q1, q2⟩
      · rw [q2] at q
        cases q
        obtain ⟨a', w1, w2, w3, w4⟩ := S.own j d0 q1
        have w5 := hs.symm.trans w1
        cases w5
        exact ⟨a, hs, w2, w3, hd⟩
      · rw [q2] at q; cases q
    · rw [k2 j hj] at q
      obtain ⟨b, w1, w2, w3, w4⟩ := S.own j e' q
      have hb := ne j b hj (by rw [q]; rfl) w1
      exact ⟨b, w1, w2, w3, w4.keep (Same.refl _) fun u w => by rw [upd_ne hb]; exact w⟩
  · by_cases hj : j = i
    · subst hj
      rcases k3 with ⟨d0, q1, q2⟩ | ⟨d0, q1, q2⟩
      · rw [q2] at q; cases q
      · rw [q2] at q
        cases q
        obtain ⟨a', w1, w2, w4⟩ := S.io j d0 q1
        have w5 := hs.symm.trans w2
        cases w5
        exact ⟨a, w1, hs, hd⟩
    · rw [k2 j hj] at q
      obtain ⟨b, w1, w2, w4⟩ := S.io j e' q
      have hb := ne j b hj (by rw [q]; rfl) w2
      exact ⟨b, w1, w2, w4.keep (Same.refl _) fun u w => by rw [upd_ne hb]; exact w⟩
end

/-! ### {} -/
def sDNew (i : Nat) : FS := fun ρ => (setS i (.own (.dict [])) ρ).bind fun ρ' => some (.nx ρ')
/-! ### x[k] = e -/
def sDSet (i : Nat) (k e : FE) : FS := fun ρ => (e ρ).bind fun p => (k p.2).bind fun q => match stl p.1, stl q.1, dcont q.2 i with
  | .pu d, .pu kd, some kvs => if okK kvs kd = true ∧ kvs.length < lineN then (putS i (.dict (dputD kvs kd d)) q.2).bind fun ρ' => some (.nx ρ') else none
  | _, _, _ => none
/-! ### k in x, x[k], x.get(k, e) -/
def cDIn (neg : Bool) (k : FE) (i : Nat) : FE := fun ρ => (k ρ).bind fun p => match stl p.1, dcont p.2 i with
  | .pu kd, some kvs => if okK kvs kd = true then some (.pu (.bool (if neg = true then !(dfind kvs kd).isSome else (dfind kvs kd).isSome)), p.2) else none
  | _, _ => none
def cDGet (i : Nat) (k : FE) : FE := fun ρ => (k ρ).bind fun p => match stl p.1, dcont p.2 i with
  | .pu kd, some kvs => if okK kvs kd = true then (dfind kvs kd).bind fun d => some (.pu d, p.2) else none
  | _, _ => none
def cDGet2 (i : Nat) (k e : FE) : FE := fun ρ => (dcont ρ i).bind fun _ => (k ρ).bind fun p => (e p.2).bind fun q => match stl p.1, stl q.1, dcont q.2 i with
  | .pu kd, .pu d, some kvs => if okK kvs kd = true then some (.pu ((dfind kvs kd).getD d), q.2) else none
  | _, _, _ => none
/-! ### sorted(x) -/
def cDSrt (i : Nat) : FE := fun ρ => (dcont ρ i).bind fun kvs => if (alikeB (kvs.map (·.1)) && sortableB (kvs.map (·.1)) && (kvs.map (·.1)).all fun d => decide (d.depth ≤ 60)) = true then some (.nw (.list (srtD (kvs.map (·.1)))), ρ) else none
section
variable {X : Cx} {i : Nat} {x : Str} {e ke o : Expr} {f fk : FE} {pos pos' apos cpos : Pos}
theorem ent_head {κ : Type} {K : PySem.W.Frag} {G : Hp} {f : κ → D} {n : Nat} (hf : ∀ k, kindD (f k) = n) {es : List (κ × V)} {p : D × D} {r : List (D × D)} (h : Ent K G f es (p :: r)) : kindD p.1 = n := by
  cases h with
  | cons r t => rw [r.1]; exact hf _
theorem ds_dnew (hN : X.N.Nodup) (hi : X.N[i]? = some x) (hx : Loc X.env.scope x) (hs : swapsWith (.Dict [] [] cpos) (some (.Name x pos')) pos.line X.env = pure false := by rfl)
    (hf : X.fn x = true ∨ X.env.scope.names.lookup x = some .local := by first | exact .inl rfl | exact .inr rfl | assumption) : PDS X (.Assign [.Name x pos'] (.Dict [] [] cpos) pos) (sDNew i) := ps_w (ps_set hN hi hx pe_dnewK hs hf) fun E σ H q => by
  obtain ⟨ioA, G0, H0, G, ρ, o, S, e, k⟩ := q
  obtain ⟨ρ1, e1, e⟩ := bnd e
  cases e
  obtain ⟨h1, rfl, _⟩ := setS_eq e1
  intro p hp
  have S2 : Sg X.K ioA G0 H0 G (upd H p (.dK [])) σ ρ := S.grow (Same.refl _) (same_upd hp) (S.sub.trans (same_upd hp)) fun b o e => .inl ⟨o, e⟩
  refine k G _ _ (Same.refl _) (S2.setOwn h1 (not_in S.sub hp) (S.fresh hp) (.inl ⟨[], upd_same, .nil⟩) fun j hj z => ?_)
  obtain ⟨b, d', q1, _, q3, _⟩ := S.mt hj
  obtain ⟨o, q4⟩ := q3.there
  have e2 := z.symm.trans q1
  cases e2
  rw [hp] at q4; cases q4
/-- the kit's rule, the dict read as the key wants it -/
def tDPutS (td ty tv : TE) : TS := fun D σ H => tv σ H fun v H1 => td σ H1 fun x H2 => ty σ H2 fun y H3 => ∃ a ob H4, x = .ref a ∧ Sw H3 a ob ∧ DPut (upd H3 a ob) a y v H4 ∧ D.nx σ H4
theorem ps_dputS {o i value : Expr} {td ty tv : TE} (hu : X.A.units + 1 < cLine) (ho : PE X o td) (hi : PE X i ty) (hv : PE X value tv) (hs : swapsWith value (some (.Subscript o i pos')) pos.line X.env = pure false) :
    PS X (.Assign [.Subscript o i pos'] value pos) (tDPutS td ty tv) := by
  refine ⟨fun pins s σ H D I h => ?_⟩
  refine wpAny_Assign_Subscript (thn (hv.run pins s σ H _ I h) fun r s1 ⟨v, H1, I1, rv, q1⟩ => thn (ho.run pins s1 σ H1 _ I1 q1) fun u s2 ⟨x, H2, I2, rx, q2⟩ => thn (hi.run pins s2 σ H2 _ I2 q2) fun iv s3 ⟨y, H3, I3, ry, a, ob, H4, ex, sw, g, q3⟩ => ?_) hs
  subst ex
  obtain rfl : u = Value.ref a := rx
  exact d_setItem hu ((sw _ _ _ _).mp I3) g ry rv fun s4 I4 => ⟨σ, H4, I4, q3⟩
theorem ds_dset (hu : X.A.units + 65 < cLine) (ho : PE X o (tVar i)) (h : PD X e f) (hk : PD X ke fk) (hs : swapsWith e (some (.Subscript o ke pos')) pos.line X.env = pure false := by rfl) : PDS X (.Assign [.Subscript o ke pos'] e pos) (sDSet i fk f) := by
  refine ps_w (ps_dputS (by omega) ho hk.pe h.pe hs) fun E σ H q => ?_
  obtain ⟨ioA, G0, H0, G, ρ, o, S, e, k⟩ := q
  obtain ⟨⟨r1, ρ1⟩, e1, e⟩ := bnd e
  obtain ⟨⟨r2, ρ2⟩, e2, e⟩ := bnd e
  simp only at e
  split at e
  · rename_i d kd kvs z1 z2 z3
    by_cases hz : okK kvs kd = true ∧ kvs.length < lineN
    case neg => rw [if_neg hz] at e; cases e
    rw [if_pos hz] at e
    obtain ⟨ρ3, e3, e⟩ := bnd e
    cases e
    refine ⟨ioA, G0, H0, G, ρ, r1, ρ1, S, e1, fun G1 v1 H1 g1 S1 R1 => ?_⟩
    obtain ⟨G1', g1', S1', R1'⟩ := settle S1 R1
    rw [z1] at R1'
    have hm1 : mtb ρ1[i]? = true := ((hk.kin _ _ _ e2) i).1.symm.trans (dcont_mtb z3)
    obtain ⟨a, d0, q1, q2, q3, _⟩ := S1'.mt hm1
    refine ⟨.ref a, q1, ioA, G0, H0, G1', ρ1, r2, ρ2, S1', e2, fun G2 y H2 g2 S2 R2 => ?_⟩
    obtain ⟨G2', g2', S2', R2'⟩ := settle S2 R2
    rw [z2] at R2'
    obtain ⟨a', w1, w2, w3⟩ := S2'.md z3
    have w4 := q1.symm.trans w1
    cases w4
    obtain ⟨ob, sw, ky⟩ := prep w3 R2' S2'.sub hz.1
    have hv : Dp X.K G2' v1 d := dpM (g2.trans g2') _ _ R1'
    obtain ⟨ob', dp, hn, ow⟩ := ky.put (by rw [← lineN_eq]; exact hz.2) hv
    refine ⟨a, ob, _, rfl, sw, dp, ?_⟩
    exact k G2' σ _ ((g1.trans g1').trans (g2.trans g2')) (S2'.putO (d' := .dict (dputD kvs kd d)) (dcont_mtb z3) q1 hn ow e3)
  · cases e
def tDInS (neg : Bool) (ty td : TE) : TE := fun σ H Q => ty σ H fun y H1 => td σ H1 fun x H2 => ∃ a ob o, x = .ref a ∧ Sw H2 a ob ∧ DGet (upd H2 a ob) a y o ∧ Q (.bl (if neg = true then !o.isSome else o.isSome)) H2
theorem pc_dinS {o i : Expr} {td ty : TE} (neg : Bool) (hu : X.A.units + 1 < cLine) (hi : PE X i ty) (ho : PE X o td) : PC X (if neg = true then .NotIn else .In) i o (tDInS neg ty td) := by
  refine ⟨fun pins s σ H Q I h => ?_⟩
  refine thn (hi.run pins s σ H _ I h) fun iv s1 ⟨y, H1, I1, ry, q1⟩ => thn (ho.run pins s1 σ H1 _ I1 q1) fun u s2 ⟨x, H2, I2, rx, a, ob, ov, ex, sw, g, q2⟩ => ?_
  subst ex
  obtain rfl : u = Value.ref a := rx
  cases neg with
  | true => exact d_notIn hu ((sw _ _ _ _).mp I2) g ry fun s3 I3 => ⟨.bl (!ov.isSome), H2, (sw _ _ _ _).mpr I3, rfl, q2⟩
  | false => exact d_in hu ((sw _ _ _ _).mp I2) g ry fun s3 I3 => ⟨.bl ov.isSome, H2, (sw _ _ _ _).mpr I3, rfl, q2⟩
theorem din_ok {neg : Bool} {σ : L2.St} {H : Hp} {Q : VK} (q : tD X.K (cDIn neg fk i) σ H Q) : tDInS neg (tD X.K fk) (tVar i) σ H Q := by
  obtain ⟨ioA, G0, H0, G, ρ, r, ρ', S, e, k⟩ := q
  obtain ⟨⟨r1, ρ1⟩, e1, e⟩ := bnd e
  simp only at e
  split at e
  · rename_i kd kvs z1 z2
    by_cases hz : okK kvs kd = true
    case neg => rw [if_neg hz] at e; cases e
    rw [if_pos hz] at e
    cases e
    refine ⟨ioA, G0, H0, G, ρ, r1, _, S, e1, fun G1 y H1 g1 S1 R1 => ?_⟩
    obtain ⟨G1', g1', S1', R1'⟩ := settle S1 R1
    rw [z1] at R1'
    obtain ⟨a, w1, w2, w3⟩ := S1'.md z2
    obtain ⟨ob, sw, ky⟩ := prep w3 R1' S1'.sub hz
    obtain ⟨o, dg, c⟩ := ky.get
    refine ⟨.ref a, w1, a, ob, o, rfl, sw, dg, ?_⟩
    have eo : o.isSome = (dfind kvs kd).isSome := by
      rcases c with ⟨c1, c2⟩ | ⟨v, d, c1, c2, _⟩ <;> (rw [c1, c2]; rfl)
    rw [eo]
    exact k G1' _ H1 (g1.trans g1') S1' (.bl _)
  · cases e
theorem kin_din {neg : Bool} (hk : KinE fk) : KinE (cDIn neg fk i) := fun ρ r ρ' q => by
  obtain ⟨⟨r1, ρ1⟩, e1, e⟩ := bnd q
  simp only at e
  split at e
  · split at e <;> cases e
    exact hk _ _ _ e1
  · cases e
theorem pd_din (hu : X.A.units + 65 < cLine) (ho : PE X o (tVar i)) (hk : PD X ke fk) (hb : behindInMarks .In o = false := by rfl) : PD X (.Compare ke [.In] [o] pos) (cDIn false fk i) :=
  ⟨pe_w (pe_cmp (pc_dinS false (by omega) hk.pe ho) hb) fun _ _ _ q => din_ok q, kin_din hk.kin⟩
theorem pd_dnin (hu : X.A.units + 65 < cLine) (ho : PE X o (tVar i)) (hk : PD X ke fk) (hb : behindInMarks .NotIn o = false := by rfl) : PD X (.Compare ke [.NotIn] [o] pos) (cDIn true fk i) :=
  ⟨pe_w (pe_cmp (pc_dinS true (by omega) hk.pe ho) hb) fun _ _ _ q => din_ok q, kin_din hk.kin⟩
theorem pt_din (hu : X.A.units + 65 < cLine) (ho : PE X o (tVar i)) (hk : PD X ke fk) (hb : behindInMarks .In o = false := by rfl) : PDT X (.Compare ke [.In] [o] pos) (tBl (cDIn false fk i)) :=
  ⟨pt_w (pt_cmp (pc_dinS false (by omega) hk.pe ho) hb) fun σ H Q q => din_ok (tst q), kin_bl (kin_din hk.kin)⟩
theorem pt_dnin (hu : X.A.units + 65 < cLine) (ho : PE X o (tVar i)) (hk : PD X ke fk) (hb : behindInMarks .NotIn o = false := by rfl) : PDT X (.Compare ke [.NotIn] [o] pos) (tBl (cDIn true fk i)) :=
  ⟨pt_w (pt_cmp (pc_dinS true (by omega) hk.pe ho) hb) fun σ H Q q => din_ok (tst q), kin_bl (kin_din hk.kin)⟩
theorem pd_dget (hu : X.A.units + 65 < cLine) (ho : PE X o (tVar i)) (hk : PD X ke fk) (hs : NoSl ke) : PD X (.Subscript o ke pos) (cDGet i fk) := by
  refine ⟨pe_w (pe_dget (by omega) ho hk.pe hs) fun σ H Q q => ?_, fun ρ r ρ' q => ?_⟩
  · obtain ⟨ioA, G0, H0, G, ρ, r, ρ', S, e, k⟩ := q
    obtain ⟨⟨r1, ρ1⟩, e1, e⟩ := bnd e
    simp only at e
    split at e
    · rename_i kd kvs z1 z2
      by_cases hz : okK kvs kd = true
      case neg => rw [if_neg hz] at e; cases e
      rw [if_pos hz] at e
      obtain ⟨d, ed, e⟩ := bnd e
      cases e
      have hm1 : mtb ρ[i]? = true := ((hk.kin _ _ _ e1) i).1.symm.trans (dcont_mtb z2)
      obtain ⟨a, d0, q1, q2, q3, _⟩ := S.mt hm1
      refine ⟨.ref a, q1, ioA, G0, H0, G, ρ, r1, _, S, e1, fun G1 y H1 g1 S1 R1 => ?_⟩
      obtain ⟨G1', g1', S1', R1'⟩ := settle S1 R1
      rw [z1] at R1'
      obtain ⟨a', w1, w2, w3⟩ := S1'.md z2
      have w4 := q1.symm.trans w1
      cases w4
      have fin : ∃ v, DGet H1 a y (some v) ∧ Dp X.K G1' v d := by
        have key : ∀ ob, H1 a = some ob → Kyd X.K G1' H1 a kvs y kd ob → ∃ v, DGet H1 a y (some v) ∧ Dp X.K G1' v d := fun ob h1 ky => by
          obtain ⟨o, dg, c⟩ := ky.get
          rw [upd_id h1] at dg
          rcases c with ⟨_, c2⟩ | ⟨v, d', c1, c2, c3⟩
          · rw [ed] at c2; cases c2
          · rw [ed] at c2; cases c2
            rw [c1] at dg
            exact ⟨v, dg, c3⟩
        cases kvs with
        | nil => cases ed
        | cons p r =>
          have okk : (kindD kd != 0 && kindD p.1 == kindD kd) = true := hz
          rw [Bool.and_eq_true] at okk
          have kk : kindD p.1 = kindD kd := eq_of_beq okk.2
          rcases w3 with ⟨es, h1, h2⟩ | ⟨es, h1, h2⟩
          · have kp : kindD p.1 = 1 := ent_head kind_kD h2
            obtain ⟨k', rfl, rfl⟩ := key1 R1' (kind_1 (kk.symm.trans kp))
            exact key _ h1 (.inl ⟨es, k', rfl, rfl, rfl, h2⟩)
          · have kp : kindD p.1 = 2 := ent_head kind_kT h2
            obtain ⟨k', b, rfl, rfl, hb⟩ := key2 R1' (kk.symm.trans kp)
            have hb2 := S1'.sub _ _ hb
            refine key _ h1 (.inr ⟨es, k', b, rfl, rfl, fun z => ?_, hb2, rfl, h2⟩)
            subst z
            rw [h1] at hb2; cases hb2
      obtain ⟨v, dg, hv⟩ := fin
      exact ⟨a, v, rfl, dg, k G1' v H1 (g1.trans g1') S1' hv⟩
    · cases e
  · obtain ⟨⟨r1, ρ1⟩, e1, e⟩ := bnd q
    simp only at e
    split at e
    · split at e
      · obtain ⟨d, ed, e⟩ := bnd e
        cases e
        exact hk.kin _ _ _ e1
      · cases e
    · cases e
def tDGet2S (td ty tx : TE) : TE := fun σ H Q => td σ H fun x H1 => ∃ a, x = .ref a ∧ IsD H1 a ∧ ty σ H1 fun y H2 => tx σ H2 fun z H3 => ∃ ob o, Sw H3 a ob ∧ DGet (upd H3 a ob) a y o ∧ Q (o.getD z) H3
theorem pe_dget2S {o e f : Expr} {td ty tx : TE} (hu : X.A.units + 1 < cLine) (ho : PE X o td) (he : PE X e ty) (hf : PE X f tx) (m : M2 X o "get" apos e f cpos) : PE X (.Call (.Attribute o "get" apos) [e, f] [] cpos) (tDGet2S td ty tx) := by
  refine ⟨fun pins s σ H Q I h => ?_⟩
  refine wpAny_Call_method m.base m.few m.line PySem.F.plainAttrs_dict PySem.F.slot_dict_get PySem.F.type_dict_get (thn (ho.run pins s σ H _ I h) fun u s1 ⟨x, H1, I1, rx, a, ex, d, q1⟩ => ?_)
  subst ex
  obtain rfl : u = Value.ref a := rx
  obtain ⟨t1, t2, _⟩ := isD_at I1 d
  refine ⟨t1, t2, ?_⟩
  rw [m.trees]
  refine Calls.callWith_builtin rfl (Calls.evalArgs_plain (Calls.spliced_cons (thn (he.run pins s1 σ H1 _ I1 q1) fun iv s2 ⟨y, H2, I2, ry, q2⟩ =>
    Calls.spliced_cons (thn (hf.run pins s2 σ H2 _ I2 q2) fun fv s3 ⟨z, H3, I3, rz, ob, ov, sw, g, q3⟩ => Calls.spliced_nil ?_))))
  exact d_get2 hu ((sw _ _ _ _).mp I3) g ry rz fun w' s4 I4 rw' => ⟨_, H3, (sw _ _ _ _).mpr I4, rw', q3⟩
theorem pd_dget2 {e2 : Expr} {f2 : FE} (hu : X.A.units + 65 < cLine) (ho : PE X o (tVar i)) (hk : PD X ke fk) (h2 : PD X e2 f2) (m : M2 X o "get" apos ke e2 cpos) : PD X (.Call (.Attribute o "get" apos) [ke, e2] [] cpos) (cDGet2 i fk f2) := by
  refine ⟨pe_w (pe_dget2S (by omega) ho hk.pe h2.pe m) fun σ H Q q => ?_, fun ρ r ρ' q => ?_⟩
  · obtain ⟨ioA, G0, H0, G, ρ, r, ρ', S, e, k⟩ := q
    obtain ⟨kv0, e0, e⟩ := bnd e
    obtain ⟨⟨r1, ρ1⟩, e1, e⟩ := bnd e
    obtain ⟨⟨r2, ρ2⟩, e2, e⟩ := bnd e
    simp only at e
    split at e
    · rename_i kd d kvs z1 z2 z3
      by_cases hz : okK kvs kd = true
      case neg => rw [if_neg hz] at e; cases e
      rw [if_pos hz] at e
      cases e
      obtain ⟨a, q1, q2, q3⟩ := S.md e0
      refine ⟨.ref a, q1, a, rfl, q3.isD, ioA, G0, H0, G, ρ, r1, ρ1, S, e1, fun G1 y H1 g1 S1 R1 => ?_⟩
      obtain ⟨G1', g1', S1', R1'⟩ := settle S1 R1
      rw [z1] at R1'
      refine ⟨ioA, G0, H0, G1', ρ1, r2, _, S1', e2, fun G2 w H2 g2 S2 R2 => ?_⟩
      obtain ⟨G2', g2', S2', R2'⟩ := settle S2 R2
      rw [z2] at R2'
      obtain ⟨a', w1, w2, w3⟩ := S2'.md z3
      have w4 := q1.symm.trans w1
      cases w4
      have hy : Dp X.K G2' y kd := dpM (g2.trans g2') _ _ R1'
      obtain ⟨ob, sw, ky⟩ := prep w3 hy S2'.sub hz
      obtain ⟨o, dg, c⟩ := ky.get
      refine ⟨ob, o, sw, dg, k G2' _ H2 ((g1.trans g1').trans (g2.trans g2')) S2' ?_⟩
      rcases c with ⟨c1, c2⟩ | ⟨v, d', c1, c2, c3⟩
      · rw [c1, c2]; exact R2'
      · rw [c1, c2]; exact c3
    · cases e
  · obtain ⟨kv0, e0, e⟩ := bnd q
    obtain ⟨⟨r1, ρ1⟩, e1, e⟩ := bnd e
    obtain ⟨⟨r2, ρ2⟩, e2, e⟩ := bnd e
    simp only at e
    split at e
    · split at e <;> cases e
      exact (hk.kin _ _ _ e1).trans (h2.kin _ _ _ e2)
    · cases e
theorem pd_dsrt {p : Pos} (hc : X.calm = true) (hu : X.A.units + 65 < cLine) (hg : Gl X "sorted") (hm : X.mg "sorted" = none) (hv : bootBuiltins "sorted" = some (.builtin "sorted")) (ho : PE X o (tVar i))
    (h1 : starEach [o] X.env = (false, eval o X.env) :: starEach [] X.env := by rfl) (hpl : (backTo pos (starEach [] X.env)).any (·.1) = false := by rfl) : PD X (.Call (.Name "sorted" p) [o] [] pos) (cDSrt i) := by
  refine ⟨pe_w (pe_callB (cr_sortD hc hu) hg hm hv (pa_cons ho pa_nil h1) (by decide) (by decide) h1 hpl) fun σ H Q q => ?_, fun ρ r ρ' q => ?_⟩
  · obtain ⟨ioA, G0, H0, G, ρ, r, ρ', S, e, k⟩ := q
    obtain ⟨kvs, ek, e⟩ := bnd e
    split at e
    · rename_i hb
      cases e
      obtain ⟨a, q1, q2, q3⟩ := S.md ek
      rw [Bool.and_eq_true, Bool.and_eq_true] at hb
      refine ⟨.ref a, q1, G, a, kvs, S.sub, rfl, q3, alikeB_ok hb.1.1, sortableB_ok hb.1.2, fun d hd => of_decide_eq_true (List.all_eq_true.mp hb.2 d hd), fun ys p hy hp => ?_⟩
      have g1 := gt_grow S.sub
      have S1 : Sg X.K ioA G0 H0 (GT G H) H σ ρ := S.grow g1.g g1.h g1.s g1.n
      have g2 := grow_nw (o := .lst ys) S1.sub hp
      obtain ⟨S2, R2⟩ := S1.repN (w := .nw (.list (srtD (kvs.map (·.1))))) g2 (repN_lst S1.sub hp hy)
      exact k _ _ _ (g1.g.trans g2.g) S2 R2
    · cases e
  · obtain ⟨kvs, ek, e⟩ := bnd q
    split at e <;> cases e
    exact Kin.refl _
end
end PL

/-! PL: sorted(set(e)), e a list of tuples of ints. -/
namespace PL
open PySem PySem.Spec PyProof.Rows L2

def tupD (ns : List Int) : D := .tuple (ns.map .int)
def tupsOf : List D → Option (List (List Int))
  | [] => some []
  | .tuple ds :: r => (intsOf ds).bind fun ns => (tupsOf r).bind fun rs => some (ns :: rs)
  | _ => none
theorem tupsOf_eq : ∀ {ds : List D} {ns : List (List Int)}, tupsOf ds = some ns → ds = ns.map tupD
  | [], _, h => by cases h; rfl
  | d :: ds, ns, h => by
    cases d with
    | tuple es =>
      obtain ⟨a, h1, h⟩ := bnd h
      obtain ⟨b, h2, h⟩ := bnd h
      cases h
      rw [intsOf_eq h1, tupsOf_eq h2]
      rfl
    | _ => cases h
theorem tupsOf_map : ∀ ns : List (List Int), tupsOf (ns.map tupD) = some ns
  | [] => rfl
  | n :: ns => by
    have e : intsOf (n.map .int) = some n := by
      induction n with
      | nil => rfl
      | cons i r ih =>
        show (intsOf (r.map .int)).bind _ = _
        rw [ih]; rfl
    show (intsOf (n.map .int)).bind _ = _
    rw [e]
    show (tupsOf (ns.map tupD)).bind _ = _
    rw [tupsOf_map ns]
    rfl
/-- without doublets -/
def nubL : List (List Int) → List (List Int)
  | [] => []
  | a :: l => if (nubL l).contains a = true then nubL l else a :: nubL l
theorem nubL_mem : ∀ {l : List (List Int)} {x : List Int}, x ∈ nubL l ↔ x ∈ l
  | [], _ => by simp [nubL]
  | a :: l, x => by
    unfold nubL
    by_cases h : (nubL l).contains a = true
    · rw [if_pos h, nubL_mem]
      have ha : a ∈ l := nubL_mem.mp (List.contains_iff_mem.mp h)
      constructor
      · exact fun q => List.mem_cons_of_mem _ q
      · intro q
        rcases List.mem_cons.mp q with rfl | q
        · exact ha
        · exact q
    · rw [if_neg h, List.mem_cons, List.mem_cons, nubL_mem]
theorem nubL_nodup : ∀ l : List (List Int), (nubL l).Nodup
  | [] => List.nodup_nil
  | a :: l => by
    unfold nubL
    by_cases h : (nubL l).contains a = true
    · rw [if_pos h]; exact nubL_nodup l
    · rw [if_neg h]
      exact List.nodup_cons.mpr ⟨fun q => h (List.contains_iff_mem.mpr q), nubL_nodup l⟩
theorem leD_tup (a b : List Int) : leD (tupD a) (tupD b) = !decide (b < a) := by
  show (!PySem.W.dataLt (.tuple (b.map .int)) (.tuple (a.map .int))) = _
  rw [PySem.W.dataLt_tuple]
  show (!PySem.W.rowLt (b.map .int) (a.map .int)) = _
  rw [PySem.W.dataLt_ints]
theorem lt_tri {a b : List Int} (h1 : ¬ a < b) (h2 : ¬ b < a) : a = b := List.le_antisymm (List.not_lt.mp h2) (List.not_lt.mp h1)
theorem srtD_perm {l l' : List (List Int)} (h : l.Perm l') : srtD (l.map tupD) = srtD (l'.map tupD) := by
  rw [srtD_eq, srtD_eq]
  refine List.Perm.eq_of_pairwise (le := fun a b => leD a b = true) (fun x y hx hy h1 h2 => ?_) (PySem.W.sort_pairwise leD_tot _) (PySem.W.sort_pairwise leD_tot _) (((List.mergeSort_perm _ _).trans (h.map tupD)).trans (List.mergeSort_perm _ _).symm)
  obtain ⟨a, _, rfl⟩ := List.mem_map.mp ((List.mergeSort_perm _ _).mem_iff.mp hx)
  obtain ⟨b, _, rfl⟩ := List.mem_map.mp ((List.mergeSort_perm _ _).mem_iff.mp hy)
  rw [leD_tup] at h1 h2
  have e : a = b := lt_tri (by simpa using h2) (by simpa using h1)
  rw [e]
theorem perm_lift {α β : Type} {f : α → β} {l m : List β} (h : l.Perm m) : ∀ L : List α, m = L.map f → ∃ L' : List α, L'.Perm L ∧ l = L'.map f := by
  induction h with
  | nil => exact fun L e => ⟨L, .refl _, e⟩
  | cons x t ih =>
    intro L e
    cases L with
    | nil => cases e
    | cons a L =>
      rw [List.map_cons] at e
      injection e with e1 e2
      obtain ⟨L', h1, h2⟩ := ih L e2
      exact ⟨a :: L', h1.cons a, by rw [List.map_cons, e1, h2]⟩
  | swap x y t =>
    intro L e
    match L, e with
    | a :: b :: L, e =>
      rw [List.map_cons, List.map_cons] at e
      injection e with e1 e2
      injection e2 with e2 e3
      exact ⟨b :: a :: L, .swap a b L, by rw [List.map_cons, List.map_cons, e1, e2, e3]⟩
  | trans _ _ ih1 ih2 =>
    intro L e
    obtain ⟨L2, h1, h2⟩ := ih2 L e
    obtain ⟨L3, h3, h4⟩ := ih1 L2 h2
    exact ⟨L3, h3.trans h1, h4⟩
theorem alike_tups (l : List (List Int)) : PySem.W.AllAlike (l.map tupD) := fun d hd e he => by
  obtain ⟨a, _, rfl⟩ := List.mem_map.mp hd
  obtain ⟨b, _, rfl⟩ := List.mem_map.mp he
  show PySem.W.alike (.tuple _) (.tuple _) = true
  simp only [PySem.W.alike]
  exact PySem.W.alike_ints a b
theorem sortG_tups (l : List (List Int)) : SortableG (l.map tupD) := .inl fun d hd => by
  obtain ⟨a, _, rfl⟩ := List.mem_map.mp hd
  exact ⟨_, rfl⟩
theorem depth_tupL (a : List Int) : (tupD a).depth ≤ 60 := by
  show (PyData.tuple (a.map .int)).depth ≤ 60
  rw [PyData.depth, PySem.W.depth_ints]
  decide
section
variable {X : Cx} {K : PySem.W.Frag} {G H : Hp}
def rSortS (K : PySem.W.Frag) (P : Program) (w : World) : List V → Hp → VK → Prop := fun vs H Q => ∃ (G : Hp) (a : Addr) (L : List (Addr × List Int)), Same G H ∧ vs = [V.ref a] ∧ H a = some (SetTO P w a L) ∧ (∀ p ∈ L, G p.1 = some (.tup (p.2.map V.int))) ∧
  ∀ (ys : List V) (p : Addr), (L.map (·.2)).Nodup → DpAll K G ys (srtD ((L.map (·.2)).map tupD)) → H p = none → Q (.ref p) (upd H p (.lst ys))
theorem cr_sortS (hc : X.calm = true) (hu : X.A.units + 65 < cLine) : CallR X (.builtin "sorted") (rSortS X.K X.prog X.w) := by
  intro pins s σ H vs us Q I r h
  obtain ⟨G, a, L, sg, rfl, ha, hk, q⟩ := h
  have R0 : SetT0 X.prog X.w s.heap a L := (I.hok a _ ha).1
  obtain ⟨es, ep, t, R⟩ := R0.full fun p hp => I.isT (.of (sg _ _ (hk p hp)))
  rw [Vals.ref1 r]
  obtain ⟨o, ho, hex, hd⟩ := R.ob
  have hfew := R.few
  have hsz := R.size
  refine sorted_any (W := fun l => ∃ L' : List (Addr × List Int), L'.Perm L ∧ l = (L'.map (·.2)).map tupD) sg hu (fun Rr hR => ?_) (fun l ⟨L', pm, e⟩ => ?_) fun ys p ds' ⟨L', pm, e⟩ hp hy => ?_
  · refine collect_set (A := X.A.in1) (I.ok.hd hc) ⟨o, ho, hex.1, hd⟩ R.fits (by unfold scanBound; omega) R.tab.ris R.led fun s1 vs k1 hz g1 o1 pm => ?_
    have hes : es.toList.map (·.2) = L.map fun q => Value.ref q.1 := by
      rw [R.rows]
      unfold rowsOf
      rw [List.map_map] <;> rfl
    rw [hes] at pm
    obtain ⟨L', pm', rfl⟩ := perm_lift pm L rfl
    have J : Inv X pins σ H { s with heap := s1.heap, gens := s1.gens, drawn := s1.drawn, toks := s1.toks } :=
      I.call (ch := []) (Un.kept k1) (I.hok.kept k1) (by rw [g1]; exact I.bare) (fun _ z => nomatch z)
    have e : s1 = { s with heap := s1.heap, gens := s1.gens, drawn := s1.drawn, toks := s1.toks } := by
      cases s1
      cases s
      cases o1
      rfl
    rw [← e] at J
    refine hR s1 _ ((L'.map (·.2)).map tupD) J ⟨L', pm', rfl⟩ ?_
    have hm : ∀ p ∈ L', G p.1 = some (.tup (p.2.map V.int)) := fun p hp => hk p (pm'.mem_iff.mp hp)
    clear J e pm pm' hR
    induction L' with
    | nil => exact .nil
    | cons p L' ih =>
      refine .cons ⟨V.ref p.1, rfl, .tup (hm p List.mem_cons_self) ints_dps⟩ (ih fun q hq => hm q (List.mem_cons_of_mem _ hq))
  · subst e
    refine ⟨alike_tups _, sortG_tups _, fun d hd => ?_, ?_⟩
    · obtain ⟨b, _, rfl⟩ := List.mem_map.mp hd
      exact depth_tupL b
    · rw [List.length_map, List.length_map, pm.length_eq, sizeLine_eq]; omega
  · subst e
    rw [srtD_perm (pm.map (·.2))] at hy
    exact q ys p R.nd hy hp
theorem ks_of : ∀ {xs : List V} {nss : List (List Int)}, DpAll K G xs (nss.map tupD) → ∃ ks : List (Addr × List Int), xs = ks.map (fun p => V.ref p.1) ∧ ks.map (·.2) = nss ∧ ∀ p ∈ ks, G p.1 = some (.tup (p.2.map V.int))
  | _, [], .nil => ⟨[], rfl, rfl, fun _ h => nomatch h⟩
  | _, n :: nss, .cons h t => by
    obtain ⟨b, xs, rfl, h1, h2⟩ := dp_tupleT h
    have e := dps_ints h2
    subst e
    obtain ⟨ks, rfl, rfl, h3⟩ := ks_of t
    refine ⟨(b, n) :: ks, rfl, rfl, fun p hp => ?_⟩
    rcases List.mem_cons.mp hp with rfl | hp
    · exact h1
    · exact h3 p hp
def cSrtSet (e : FE) : FE := fun ρ => (e ρ).bind fun p => (cont p.2 (stl p.1)).bind fun x => match x with
  | .list ds => (tupsOf ds).bind fun nss => if nss.length < 64 then some (.nw (.list (srtD ((nubL nss).map tupD))), p.2) else none
  | _ => none
theorem pd_srtSet {e : Expr} {f : FE} {p p2 pos pos2 : Pos} (hc : X.calm = true) (hu : X.A.units + 65 < cLine) (hg : Gl X "sorted") (hm : X.mg "sorted" = none) (hv : bootBuiltins "sorted" = some (.builtin "sorted"))
    (hg2 : Gl X "set") (hm2 : X.mg "set" = none) (hv2 : bootBuiltins "set" = some (.type "set")) (ha : PD X e f)
    (h1 : starEach [e] X.env = (false, eval e X.env) :: starEach [] X.env := by rfl) (hpl : (backTo pos2 (starEach [] X.env)).any (·.1) = false := by rfl)
    (h3 : starEach [.Call (.Name "set" p2) [e] [] pos2] X.env = (false, eval (.Call (.Name "set" p2) [e] [] pos2) X.env) :: starEach [] X.env := by rfl) (hpl2 : (backTo pos (starEach [] X.env)).any (·.1) = false := by rfl) :
    PD X (.Call (.Name "sorted" p) [.Call (.Name "set" p2) [e] [] pos2] [] pos) (cSrtSet f) := by
  refine ⟨pe_w (pe_callB (cr_sortS hc hu) hg hm hv (pa_cons (pe_callTy (cr_setOfT hc (by omega)) hg2 hm2 hv2 (pa_cons ha.pe pa_nil h1) (by decide) (by decide) h1 hpl) pa_nil h3) (by decide) (by decide) h3 hpl2) fun σ H Q q => ?_, fun ρ r ρ' q => ?_⟩
  · obtain ⟨ioA, G0, H0, G, ρ, r, ρ', S, e, k⟩ := q
    obtain ⟨⟨r1, ρ1⟩, e1, e⟩ := bnd e
    obtain ⟨x, ex, e⟩ := bnd e
    simp only at e
    split at e
    · rename_i ds
      obtain ⟨nss, en, e⟩ := bnd e
      by_cases hz : nss.length < 64
      case neg => rw [if_neg hz] at e; cases e
      rw [if_pos hz] at e
      cases e
      refine ⟨ioA, G0, H0, G, ρ, r1, _, S, e1, fun G1 v1 H1 g1 S1 R1 => ?_⟩
      obtain ⟨G1', g1', S1', R1'⟩ := settle S1 R1
      obtain ⟨l, xs, rfl, h2, h3⟩ := top_list (S1'.top R1' ex) S1'.sub
      rw [tupsOf_eq en] at h3
      obtain ⟨ks, rfl, rfl, h4⟩ := ks_of h3
      refine ⟨l, ks, rfl, h2, fun p hp => .of (S1'.sub _ _ (h4 p hp)), by rw [← List.length_map (f := (·.2))]; exact hz, fun a L ha hL1 hL2 => ?_⟩
      have g2 := grow_nw (o := SetTO X.prog X.w a L) S1'.sub ha
      have S2 := S1'.grow g2.g g2.h g2.s g2.n
      refine ⟨G1', a, L, S2.sub, rfl, upd_same, fun p hp => h4 p (hL1 p hp), fun ys p nd hy hp => ?_⟩
      have pm : (L.map (·.2)).Perm (nubL (ks.map (·.2))) := (List.perm_ext_iff_of_nodup nd (nubL_nodup _)).mpr fun z => by
        rw [nubL_mem]
        constructor
        · intro hz
          obtain ⟨p, hp, rfl⟩ := List.mem_map.mp hz
          exact List.mem_map.mpr ⟨p, hL1 p hp, rfl⟩
        · intro hz
          obtain ⟨p, hp, rfl⟩ := List.mem_map.mp hz
          exact hL2 p hp
      rw [srtD_perm pm] at hy
      have g3 := grow_nw (o := .lst ys) S2.sub hp
      obtain ⟨S3, R3⟩ := S2.repN (w := .nw (.list (srtD ((nubL (ks.map (·.2))).map tupD)))) g3 (repN_lst S2.sub hp hy)
      exact k _ _ _ (g1.trans (g1'.trans (g2.g.trans g3.g))) S3 R3
    · cases e
  · obtain ⟨⟨r1, ρ1⟩, e1, e⟩ := bnd q
    obtain ⟨x, ex, e⟩ := bnd e
    simp only at e
    split at e
    · obtain ⟨nss, en, e⟩ := bnd e
      split at e <;> cases e
      exact ha.kin _ _ _ e1
    · cases e
end
end PL

/-! PL: comprehensions of two clauses. -/
namespace PL
open PySem PySem.Spec PyProof.Rows L2
section
variable {X : Cx} {K : PySem.W.Frag} {ioA : Nat → Option Addr} {G0 H0 G G' H H' : Hp} {σ : L2.St} {ρ ρ' : Rho}
theorem KinX.mono {vs vs1 : List Nat} (h : KinX vs1 ρ ρ') (s : ∀ i ∈ vs1, i ∈ vs) : KinX vs ρ ρ' := ⟨h.1, fun i hi => h.2 i fun z => hi (s i z)⟩
theorem wipe_wipe {vs vs1 : List Nat} (s : ∀ i ∈ vs1, i ∈ vs) : L2.wipe (L2.wipe σ vs1) vs = L2.wipe σ vs := by
  refine List.ext_getElem? fun j => ?_
  have e1 := wipe_get (L2.wipe σ vs1) vs j
  have e2 := wipe_get σ vs j
  have e3 := wipe_get σ vs1 j
  rw [e1, e2]
  by_cases hj : j ∈ vs
  · rw [if_pos hj, if_pos hj, wipe_length]
  · rw [if_neg hj, if_neg hj, e3, if_neg fun z => hj (s j z)]
theorem wipeR_wipeR {vs vs1 : List Nat} (s : ∀ i ∈ vs1, i ∈ vs) : wipeR vs (wipeR vs1 ρ) = wipeR vs ρ := by
  refine List.ext_getElem? fun j => ?_
  have e1 := wipeR_get vs (wipeR vs1 ρ) j
  have e2 := wipeR_get vs ρ j
  have e3 := wipeR_get vs1 ρ j
  rw [e1, e2]
  by_cases hj : j ∈ vs
  · rw [if_pos hj, if_pos hj, wipeR_len]
  · rw [if_neg hj, if_neg hj, e3, if_neg fun z => hj (s j z)]
theorem kinX_comp2 {vs vs1 ts ts1 : List Nat} {g g1 : FG} {t t1 : FT} {it1 : FI} {f : FE} (hv : ∀ i ∈ vs1, i ∈ vs) (hg : ∀ d ρ ρ', g d ρ = some ρ' → (∀ j : Nat, j ∉ ts → ρ'[j]? = ρ[j]?) ∧ ρ'.length = ρ.length) (hts : ∀ j ∈ ts, j ∈ vs) (ht : KinT t)
    (hi1 : ∀ ρ r ρ', it1 ρ = some (r, ρ') → Kin ρ ρ') (hg1 : ∀ d ρ ρ', g1 d ρ = some ρ' → (∀ j : Nat, j ∉ ts1 → ρ'[j]? = ρ[j]?) ∧ ρ'.length = ρ.length) (hts1 : ∀ j ∈ ts1, j ∈ vs1) (ht1 : KinT t1) (hf : KinE f) :
    ∀ {ds : List D} {ρ ρ' : Rho} {res : List D}, compGo2 vs vs1 g t it1 g1 t1 f ds ρ = some (res, ρ') → KinX vs ρ ρ'
  | [], ρ, ρ', res, e => by cases e; exact ⟨rfl, fun _ _ => ⟨rfl, fun _ => rfl⟩⟩
  | d :: ds, ρ, ρ', res, e => by
    obtain ⟨ρ1, e1, e⟩ := bnd e
    obtain ⟨⟨b, ρ2⟩, e2, e⟩ := bnd e
    have k1 : KinX vs ρ ρ2 := ((kinX_wipe vs ρ).trans (kinX_g hg hts e1)).trans ((ht _ _ _ e2).x vs)
    cases b with
    | true =>
      obtain ⟨⟨r3, ρ3⟩, e3, e⟩ := bnd (show (it1 ρ2).bind _ = _ from e)
      obtain ⟨⟨r4, ρ4⟩, e4, e⟩ := bnd e
      obtain ⟨⟨r5, ρ5⟩, e5, e⟩ := bnd e
      cases e
      exact ((k1.trans ((hi1 _ _ _ e3).x vs)).trans ((kinX_comp hg1 hts1 ht1 hf e4).mono hv)).trans (kinX_comp2 hv hg hts ht hi1 hg1 hts1 ht1 hf e5)
    | false => exact k1.trans (kinX_comp2 hv hg hts ht hi1 hg1 hts1 ht1 hf (show compGo2 vs vs1 g t it1 g1 t1 f ds ρ2 = _ from e))
theorem pd_lc2 {elt tg iter tg1 iter1 : Expr} {ifs ifs1 : List Expr} {scope : Scope} {own : List (Str × Nat)} {vs1 : List Nat} {pos : Pos} {it it1 : FI} {g g1 : FG} {t t1 : FT} {f : FE} {ts ts1 : List Nat} (hc : X.calm = true) (hN : X.N.Nodup) (hi : PDI X tg iter it) (ok : BlkOk X.N X.env.scope scope own) (hv : ∀ i ∈ vs1, i ∈ own.map (·.2))
    (hg : ∀ (s : Shared) (H : Hp) (C : Addr) (cl : List (Str × Addr)) (fp : List Addr), PDG (X.blk s H scope (compEnvC scope cl C X.env) fp) tg g ts) (hts : ∀ j ∈ ts, j ∈ own.map (·.2))
    (ht : ∀ (s : Shared) (H : Hp) (C : Addr) (cl : List (Str × Addr)) (fp : List Addr), PDTs (X.blk s H scope (compEnvC scope cl C X.env) fp) ifs t)
    (hi1 : ∀ (s : Shared) (H : Hp) (C : Addr) (cl : List (Str × Addr)) (fp : List Addr), PDI (X.blk s H scope (compEnvC scope cl C X.env) fp) tg1 iter1 it1)
    (hg1 : ∀ (s : Shared) (H : Hp) (C : Addr) (cl : List (Str × Addr)) (fp : List Addr), PDG (X.blk s H scope (compEnvC scope cl C X.env) fp) tg1 g1 ts1) (hts1 : ∀ j ∈ ts1, j ∈ vs1)
    (ht1 : ∀ (s : Shared) (H : Hp) (C : Addr) (cl : List (Str × Addr)) (fp : List Addr), PDTs (X.blk s H scope (compEnvC scope cl C X.env) fp) ifs1 t1)
    (he : ∀ (s : Shared) (H : Hp) (C : Addr) (cl : List (Str × Addr)) (fp : List Addr), PD (X.blk s H scope (compEnvC scope cl C X.env) fp) elt f)
    (hs : ∀ x, foldedSetIterable iter X.env x = pure x := by intro _; rfl) (hs1 : ∀ env x, foldedSetIterable iter1 env x = pure x := by intro _ _; rfl) :
    PD X (.ListComp elt [⟨tg, iter, ifs, 0⟩, ⟨tg1, iter1, ifs1, 0⟩] scope pos) (cLc2 (own.map (·.2)) vs1 it g t it1 g1 t1 f) := by
  have hgk := (hg X.s_0 (fun _ => none) 0 [] []).kin
  have htk := (ht X.s_0 (fun _ => none) 0 [] []).kin
  have hek := (he X.s_0 (fun _ => none) 0 [] []).kin
  have hgk1 := (hg1 X.s_0 (fun _ => none) 0 [] []).kin
  have htk1 := (ht1 X.s_0 (fun _ => none) 0 [] []).kin
  have hik1 := (hi1 X.s_0 (fun _ => none) 0 [] []).kin
  have main : ∀ σ H Q, tD X.K (cLc2 (own.map (·.2)) vs1 it g t it1 g1 t1 f) σ H Q → tLc2 (tDI X.K it)
      (tDG' X.K g ts) (tDT X.K t) (tDI X.K it1) (tDG' X.K g1 ts1) (tDT X.K t1) (tD X.K f) (own.map (·.2)) vs1 σ H Q := by
    intro σ H Q q
    generalize own.map (·.2) = vs at q hts hv ⊢
    obtain ⟨ioA, G0, H0, G, ρ, r, ρ', S, e, k⟩ := q
    obtain ⟨⟨ds, ρ1⟩, e1, e⟩ := bnd e
    simp only at e
    by_cases hok : okW vs ρ1 = true
    case neg => rw [if_neg hok] at e; cases e
    rw [if_pos hok] at e
    obtain ⟨⟨res, ρe⟩, e2, e⟩ := bnd e
    simp only at e
    by_cases hz : res.length ≤ lineN
    case neg => rw [if_neg hz] at e; cases e
    rw [if_pos hz] at e
    cases e
    refine ⟨ioA, G0, H0, G, ρ, ds, ρ1, S, e1, fun G1 J H1 g1' S1 wk D hD => ?_⟩
    have h0D : H0 D = none := S1.fresh hD
    have g0D : G0 D = none := not_in (S1.g0.trans S1.sub) hD
    have hio := S1.noD h0D
    let Pv : Nat → Hp → Prop := fun i H => ∃ Gi ρi acc ads rest, Same G1 Gi ∧ Sg X.K ioA G0 (upd H0 D (.lst acc)) Gi H (wipe σ vs) (wipeR vs ρi) ∧ DpAll X.K Gi acc ads ∧ compGo2 vs vs1 g t it1 g1 t1 f (ds.drop i) ρi = some (rest, ρe) ∧ ads ++ rest = res
    refine ⟨fun i m H => m = ds.length - i ∧ i ≤ ds.length ∧ Pv i H, ⟨ds.length, by simp, Nat.zero_le _, G1, ρ1, [], [], res, Same.refl _, (S1.withNew hD).wipe vs, .nil, e2, rfl⟩, ?_⟩
    rintro i m H ⟨rfl, hile, hp⟩
    have hGH : Same G1 H := by
      obtain ⟨Gi, ρi, acc, ads, rest, q1, q2, _⟩ := hp
      exact q1.trans q2.sub
    by_cases hlt : i < ds.length
    · refine .inr ⟨wk.goes i H hlt hGH, Pv (i + 1), fun H' p' => ⟨ds.length - (i + 1), by omega, rfl, hlt, p'⟩, fun x H' yy => ?_⟩
      have y := wk.yields i H x H' hlt hGH yy
      obtain ⟨Gi, ρi, acc, ads, rest, q1, q2, q3, q4, q5⟩ := hp
      have hd : ds[i]? = some ds[i] := List.getElem?_eq_getElem hlt
      obtain ⟨Gj, gr, hx⟩ := y Gi q1 q2.sub _ hd
      have S2 := q2.grow gr.g gr.h gr.s gr.n
      rw [List.drop_eq_getElem_cons hlt] at q4
      obtain ⟨ρ2, e3, q4⟩ := bnd q4
      obtain ⟨⟨b, ρ3⟩, e4, q4⟩ := bnd q4
      refine ⟨ioA, G0, upd H0 D (.lst acc), Gj, _, _, ρ2, S2, hx, e3, fun σ2 S3 k2 => ?_⟩
      have hl : σ2.length = σ.length := by
        rw [S3.len, (hgk _ _ _ e3).2, wipeR_len, ← (S2.len.trans (wipeR_len vs ρi)), wipe_length]
      have we : wipe σ2 vs = wipe σ vs := wipe_eq hl hts k2
      refine ⟨we, ioA, G0, upd H0 D (.lst acc), Gj, ρ2, b, ρ3, S3, e4, fun G3 H3 g3 S4 => ?_⟩
      cases b with
      | false =>
        refine iteF ⟨G3, ρ3, acc, ads, rest, q1.trans (gr.g.trans g3), ?_, dpsM (gr.g.trans g3) _ _ q3, q4, q5⟩
        rw [← we]
        exact S4.wipe vs
      | true =>
        obtain ⟨⟨ds1, ρ4⟩, e5, q4⟩ := bnd (show (it1 ρ3).bind _ = _ from q4)
        obtain ⟨⟨r1, ρ5⟩, e6, q4⟩ := bnd q4
        obtain ⟨⟨r2, ρ6⟩, e7, q4⟩ := bnd q4
        cases q4
        refine iteT ⟨ioA, G0, upd H0 D (.lst acc), G3, ρ3, ds1, ρ4, S4, e5, fun G4 J1 H4 g4 S5 wk1 => ?_⟩
        have g14 : Same G1 G4 := q1.trans ((gr.g.trans g3).trans g4)
        let Pw : Nat → Hp → Prop := fun j H => ∃ Gj ρj acc' ads' rest1, Same G4 Gj ∧ Sg X.K ioA G0 (upd H0 D (.lst acc')) Gj H (wipe σ2 vs1) (wipeR vs1 ρj) ∧ DpAll X.K Gj acc' ads' ∧ compGo vs1 g1 t1 f (ds1.drop j) ρj = some (rest1, ρ5) ∧ ads' ++ rest1 = ads ++ r1
        refine ⟨fun j m H => m = ds1.length - j ∧ j ≤ ds1.length ∧ Pw j H, ⟨ds1.length, by simp, Nat.zero_le _, G4, ρ4, acc, ads, r1, Same.refl _, S5.wipe vs1, dpsM ((gr.g.trans g3).trans g4) _ _ q3, e6, rfl⟩, ?_⟩
        rintro j m H ⟨rfl, hjle, hp1⟩
        have hGH1 : Same G4 H := by
          obtain ⟨Gi, ρi, acc, ads, rest, q1, q2, _⟩ := hp1
          exact q1.trans q2.sub
        by_cases hlt1 : j < ds1.length
        · refine .inr ⟨wk1.goes j H hlt1 hGH1, Pw (j + 1), fun H' p' => ⟨ds1.length - (j + 1), by omega, rfl, hlt1, p'⟩, fun x1 H5 yy1 => ?_⟩
          have y1 := wk1.yields j H x1 H5 hlt1 hGH1 yy1
          obtain ⟨Gk, ρk, acc', ads', rest1, w1, w2, w3, w4, w5⟩ := hp1
          have hd1 : ds1[j]? = some ds1[j] := List.getElem?_eq_getElem hlt1
          obtain ⟨Gl, gr1, hx1⟩ := y1 Gk w1 w2.sub _ hd1
          have T2 := w2.grow gr1.g gr1.h gr1.s gr1.n
          rw [List.drop_eq_getElem_cons hlt1] at w4
          obtain ⟨ρ7, f3, w4⟩ := bnd w4
          obtain ⟨⟨b1, ρ8⟩, f4, w4⟩ := bnd w4
          refine ⟨ioA, G0, upd H0 D (.lst acc'), Gl, _, _, ρ7, T2, hx1, f3, fun σ3 T3 k3 => ?_⟩
          have hl1 : σ3.length = σ2.length := by
            rw [T3.len, (hgk1 _ _ _ f3).2, wipeR_len, ← (T2.len.trans (wipeR_len vs1 ρk)), wipe_length]
          have we1 : wipe σ3 vs1 = wipe σ2 vs1 := wipe_eq hl1 hts1 k3
          refine ⟨we1, ioA, G0, upd H0 D (.lst acc'), Gl, ρ7, b1, ρ8, T3, f4, fun G7 H7 g7 T4 => ?_⟩
          cases b1 with
          | false =>
            refine iteF ⟨G7, ρ8, acc', ads', rest1, w1.trans (gr1.g.trans g7), ?_, dpsM (gr1.g.trans g7) _ _ w3, w4, w5⟩
            rw [← we1]
            exact T4.wipe vs1
          | true =>
            obtain ⟨⟨r8, ρ9⟩, f5, w4⟩ := bnd (show (f ρ8).bind _ = _ from w4)
            refine iteT ⟨ioA, G0, upd H0 D (.lst acc'), G7, ρ8, r8, ρ9, T4, f5, fun G8 y8 H8 g8 T5 R8 => ?_⟩
            obtain ⟨G8', g8', T5', R8'⟩ := settle T5 R8
            simp only at w4
            split at w4
            · rename_i d' z
              rw [z] at R8'
              obtain ⟨⟨rest2, ρ10⟩, f6, w4⟩ := bnd w4
              cases w4
              have g9 : Same Gk G8' := (gr1.g.trans g7).trans (g8.trans g8')
              have hacc := dpsM g9 _ _ w3
              refine ⟨acc', T5'.fr D _ upd_same hio, ?_, G8', ρ9, acc' ++ [y8], ads' ++ [d'], rest2, w1.trans g9, ?_, dps_app hacc (.cons R8' .nil), f6, by rw [← w5]; simp⟩
              · rw [dps_len hacc, ← lineN_eq]
                have l1 := congrArg List.length w5
                have l2 := congrArg List.length q5
                rw [List.length_append, List.length_append, List.length_cons] at l1
                rw [List.length_append, List.length_append] at l2
                dsimp only at l1 l2 ⊢
                omega
              · rw [← we1]
                exact (T5'.bump h0D g0D hio (fun _ z => nomatch z)).wipe vs1
            · cases w4
        · have ej : j = ds1.length := by omega
          subst ej
          refine .inl ⟨wk1.stops H hGH1, ?_⟩
          obtain ⟨Gk, ρk, acc', ads', rest1, w1, w2, w3, w4, w5⟩ := hp1
          rw [List.drop_length] at w4
          cases w4
          rw [List.append_nil] at w5
          refine ⟨Gk, ρ5, acc', ads', r2, g14.trans w1, ?_, w3, e7, by rw [w5, ← q5, List.append_assoc]⟩
          have T := w2.wipe vs
          rw [wipe_wipe hv, wipeR_wipeR hv, we] at T
          exact T
    · have ei : i = ds.length := by omega
      subst ei
      refine .inl ⟨wk.stops H hGH, ?_⟩
      obtain ⟨Gi, ρi, acc, ads, rest, q1, q2, q3, q4, q5⟩ := hp
      rw [List.drop_length] at q4
      cases q4
      rw [List.append_nil] at q5
      subst q5
      have gD : Gi D = none := by
        cases z : Gi D with
        | none => rfl
        | some u =>
          rcases q2.new D u z with ⟨_, q⟩ | q
          · rw [g0D] at q; cases q
          · exact (q.no upd_same (fun _ z => nomatch z)).elim
      have Sf := S1.restore q2 q1 hok h0D
      refine k Gi (.ref D) H (g1'.trans q1) Sf ⟨D, rfl, gD, h0D, ⟨acc, q2.fr D _ upd_same hio, q3⟩, fun i hi he => ?_⟩
      obtain ⟨a, d, z1, z2, z3, z4⟩ := Sf.mt hi
      have z5 := he.symm.trans z1
      cases z5
      cases z6 : (rst vs ρ1 ρe)[i]? with
      | none => rw [z6] at hi; cases hi
      | some s =>
        have hiv : i ∉ vs := fun hm => by
          rw [rst_get vs (by have := q2.len; rw [wipe_length, wipeR_len] at this; exact S1.len.symm.trans this), if_pos hm] at hi
          have q := okW_at hok hm
          cases w : ρ1[i]? with
          | none => rw [w] at hi; cases hi
          | some s' => rw [w] at hi q; cases s' <;> first | (cases q; done) | (cases hi; done)
        have z7 := z6
        rw [rst_get vs (by have := q2.len; rw [wipe_length, wipeR_len] at this; exact S1.len.symm.trans this), if_neg hiv] at z7
        have z8 : (wipeR vs ρe)[i]? = some s := by rw [wipeR_get, if_neg hiv]; exact z7
        have z9 : (wipe σ vs)[i]? = σ[i]? := by rw [wipe_get, if_neg hiv]
        cases s with
        | own d' =>
          obtain ⟨a, w1, w2, w3, w4⟩ := q2.own i d' z8
          rw [z9, he] at w1
          cases w1
          rw [upd_same] at w3; cases w3
        | io d' =>
          obtain ⟨a, w1, w2, w4⟩ := q2.io i d' z8
          rw [z9, he] at w2
          cases w2
          exact hio i w1
        | _ => rw [z6] at hi; cases hi
  refine ⟨pe_w (pe_lc2 hc hN hi.pi ok hv (fun s H C cl fp => (hg s H C cl fp).pg) (fun s H C cl fp => (ht s H C cl fp).pts) (fun s H C cl fp => (hi1 s H C cl fp).pi) (fun s H C cl fp => (hg1 s H C cl fp).pg) (fun s H C cl fp => (ht1 s H C cl fp).pts) (fun s H C cl fp => (he s H C cl fp).pe) hs hs1) main, fun ρ r ρ' q => ?_⟩
  obtain ⟨⟨ds, ρ1⟩, e1, e⟩ := bnd q
  simp only at e
  split at e
  · obtain ⟨⟨res, ρe⟩, e2, e⟩ := bnd e
    simp only at e
    split at e <;> cases e
    exact (hi.kin _ _ _ e1).trans (kin_rst (kinX_comp2 hv hgk hts htk hik1 hgk1 hts1 htk1 hek e2))
  · cases e
end
end PL

/-! PL: a module's tuple. -/
namespace PL
open PySem PySem.Spec PyProof.Rows L2
def cInC (neg : Bool) (ds : List D) (f : FE) : FE := fun ρ => (f ρ).bind fun p => (cont p.2 (stl p.1)).bind fun x => if min (PyData.depthAll ds) x.depth ≤ 64 then some (.pu (.bool (neg ^^ ds.any fun z => PyData.eqv z x)), p.2) else none
theorem l2_flat {K : PySem.W.Frag} {H : Hp} : ∀ {xs : List Str}, L2.DpAll K H (xs.map V.str) (xs.map .str)
  | [] => .nil
  | x :: xs => .cons (.str x) l2_flat
section
variable {X : Cx} {f : FE} {e : Expr} {pos p : Pos}
def rInK (K : PySem.W.Frag) (neg : Bool) (a : Addr) (ds : List D) : R2 := fun x y H Q => ∃ d, Dp K H x d ∧ y = .ref a ∧ min (PyData.depthAll ds) d.depth ≤ 64 ∧ Q (.bl (neg ^^ ds.any fun z => PyData.eqv z d)) H
theorem op_inK {a : Addr} {ds : List D} (hu : X.A.units + 65 < cLine) (hT : ∀ H, L2.Dp X.K H (.ref a) (.tuple ds)) (hp : (PyData.tuple ds).plain = true) : OpR X (compareOp .In) (rInK X.K false a ds) := by
  intro pins s σ H x y v u Q I rx ry h
  obtain ⟨d, hd, rfl, sd, q⟩ := h
  rw [Bool.false_xor] at q
  obtain ⟨as, r1⟩ := Dp.reads I d x v hd rx
  obtain ⟨bs, r2⟩ := L2.Dp.reads I _ _ u (hT H) ry
  exact SeqAt.in_tuple_data r2 r1 hp (dp_plain d x hd) (by omega) ⟨.bl _, H, I, rfl, q⟩
theorem op_notInK {a : Addr} {ds : List D} (hu : X.A.units + 65 < cLine) (hT : ∀ H, L2.Dp X.K H (.ref a) (.tuple ds)) (hp : (PyData.tuple ds).plain = true) : OpR X (compareOp .NotIn) (rInK X.K true a ds) := by
  intro pins s σ H x y v u Q I rx ry h
  obtain ⟨d, hd, rfl, sd, q⟩ := h
  rw [Bool.true_xor] at q
  obtain ⟨as, r1⟩ := Dp.reads I d x v hd rx
  obtain ⟨bs, r2⟩ := L2.Dp.reads I _ _ u (hT H) ry
  exact SeqAt.notIn_tuple_data r2 r1 hp (dp_plain d x hd) (by omega) ⟨.bl _, H, I, rfl, q⟩
theorem inC_ok {neg : Bool} {a : Addr} {ds : List D} {σ : L2.St} {H : Hp} {Q : VK} (q : tD X.K (cInC neg ds f) σ H Q) : tOp (rInK X.K neg a ds) (tD X.K f) (tC (.ref a)) σ H Q := by
  obtain ⟨ioA, G0, H0, G, ρ, r, ρ', S, e, k⟩ := q
  obtain ⟨⟨r1, ρ1⟩, e1, e⟩ := bnd e
  obtain ⟨x, ex, e⟩ := bnd e
  by_cases hz : min (PyData.depthAll ds) x.depth ≤ 64
  case neg => rw [if_neg hz] at e; cases e
  rw [if_pos hz] at e
  cases e
  refine ⟨ioA, G0, H0, G, ρ, r1, _, S, e1, fun G1 v1 H1 g1 S1 R1 => ?_⟩
  obtain ⟨G1', g1', S1', R1'⟩ := settle S1 R1
  exact ⟨x, (S1'.top R1' ex).dp S1'.sub, rfl, hz, k G1' _ H1 (g1.trans g1') S1' (.bl _)⟩
theorem kin_inC {neg : Bool} {ds : List D} (h : KinE f) : KinE (cInC neg ds f) := fun ρ r ρ' q => by
  obtain ⟨⟨r1, ρ1⟩, e1, e⟩ := bnd q
  obtain ⟨x, ex, e⟩ := bnd e
  split at e <;> cases e
  exact h _ _ _ e1
variable {x : Str} {ds : List D}
theorem pd_inC (hu : X.A.units + 65 < cLine) (hg : Gl X x) (hm : ∃ a, X.mg x = some (.ref a) ∧ ∀ H, L2.Dp X.K H (.ref a) (.tuple ds)) (ha : PD X e f) (hp : (PyData.tuple ds).plain = true := by decide) (hd : (x == ("__debug__" : Str)) = false := by decide)
    (hb : behindInMarks .In (.Name x p) = false := by rfl) : PD X (.Compare e [.In] [.Name x p] pos) (cInC false ds f) := by
  obtain ⟨a, h1, h2⟩ := hm
  exact ⟨pe_w (pe_cmpR (op_inK hu h2 hp) ha.pe (pe_glob hg h1 (v := .ref a) rfl hd) hb) fun _ _ _ q => inC_ok q, kin_inC ha.kin⟩
theorem pd_ninC (hu : X.A.units + 65 < cLine) (hg : Gl X x) (hm : ∃ a, X.mg x = some (.ref a) ∧ ∀ H, L2.Dp X.K H (.ref a) (.tuple ds)) (ha : PD X e f) (hp : (PyData.tuple ds).plain = true := by decide) (hd : (x == ("__debug__" : Str)) = false := by decide)
    (hb : behindInMarks .NotIn (.Name x p) = false := by rfl) : PD X (.Compare e [.NotIn] [.Name x p] pos) (cInC true ds f) := by
  obtain ⟨a, h1, h2⟩ := hm
  exact ⟨pe_w (pe_cmpR (op_notInK hu h2 hp) ha.pe (pe_glob hg h1 (v := .ref a) rfl hd) hb) fun _ _ _ q => inC_ok q, kin_inC ha.kin⟩
theorem pt_inC (hu : X.A.units + 65 < cLine) (hg : Gl X x) (hm : ∃ a, X.mg x = some (.ref a) ∧ ∀ H, L2.Dp X.K H (.ref a) (.tuple ds)) (ha : PD X e f) (hp : (PyData.tuple ds).plain = true := by decide) (hd : (x == ("__debug__" : Str)) = false := by decide)
    (hb : behindInMarks .In (.Name x p) = false := by rfl) : PDT X (.Compare e [.In] [.Name x p] pos) (tBl (cInC false ds f)) := by
  obtain ⟨a, h1, h2⟩ := hm
  exact ⟨pt_w (pt_cmpR (op_inK hu h2 hp) ha.pe (pe_glob hg h1 (v := .ref a) rfl hd) hb) fun _ _ _ q => inC_ok (tst q), kin_bl (kin_inC ha.kin)⟩
theorem pt_ninC (hu : X.A.units + 65 < cLine) (hg : Gl X x) (hm : ∃ a, X.mg x = some (.ref a) ∧ ∀ H, L2.Dp X.K H (.ref a) (.tuple ds)) (ha : PD X e f) (hp : (PyData.tuple ds).plain = true := by decide) (hd : (x == ("__debug__" : Str)) = false := by decide)
    (hb : behindInMarks .NotIn (.Name x p) = false := by rfl) : PDT X (.Compare e [.NotIn] [.Name x p] pos) (tBl (cInC true ds f)) := by
  obtain ⟨a, h1, h2⟩ := hm
  exact ⟨pt_w (pt_cmpR (op_notInK hu h2 hp) ha.pe (pe_glob hg h1 (v := .ref a) rfl hd) hb) fun _ _ _ q => inC_ok (tst q), kin_bl (kin_inC ha.kin)⟩
end
end PL

/-! PL: evaluation of comprehensions over any lists, dicts. -/
namespace PL
open PySem PySem.Spec PyProof.Rows L2
section
variable {α β : Type} {vs vs1 : List Nat} {it it1 : FI} {g g1 : FG} {t t1 : FT} {f : FE} {ρ : Rho}
theorem compGo_of {e : α → D} {P : α → Bool} {F : α → D} {ρ0 : Rho} : ∀ {l : List α} {ρ : Rho}, wipeR vs ρ = ρ0 →
    (∀ a ∈ l, ∃ ρ1, g (e a) ρ0 = some ρ1 ∧ wipeR vs ρ1 = ρ0 ∧ t ρ1 = some (P a, ρ1) ∧ (P a = true → ∃ r, f ρ1 = some (r, ρ1) ∧ stl r = .pu (F a))) →
    ∃ ρ', compGo vs g t f (l.map e) ρ = some ((l.filter P).map F, ρ') ∧ wipeR vs ρ' = ρ0
  | [], ρ, h, _ => ⟨ρ, rfl, h⟩
  | x :: l, ρ, h, k => by
    obtain ⟨ρ1, k1, k2, k3, k4⟩ := k x List.mem_cons_self
    obtain ⟨ρ', e1, e2⟩ := compGo_of (l := l) k2 fun y hy => k y (List.mem_cons_of_mem _ hy)
    refine ⟨ρ', ?_, e2⟩
    rw [List.map_cons]
    unfold compGo
    rw [h, k1]
    simp only [Option.bind_some, k3]
    cases hp : P x with
    | true =>
      obtain ⟨r, q1, q2⟩ := k4 hp
      simp only [if_true, q1, Option.bind_some, q2, e1]
      rw [List.filter_cons_of_pos hp]
      rfl
    | false =>
      simp only [Bool.false_eq_true, if_false, e1]
      rw [List.filter_cons_of_neg (by rw [hp]; exact Bool.false_ne_true)]
theorem cLc_of {e : α → D} {l : List α} (P : α → Bool) (F : α → D) (hi : it ρ = some (l.map e, ρ)) (ok : okW vs ρ = true)
    (k : ∀ a ∈ l, ∃ ρ1, g (e a) (wipeR vs ρ) = some ρ1 ∧ wipeR vs ρ1 = wipeR vs ρ ∧ t ρ1 = some (P a, ρ1) ∧ (P a = true → ∃ r, f ρ1 = some (r, ρ1) ∧ stl r = .pu (F a)))
    (hz : l.length ≤ lineN) : cLc vs it g t f ρ = some (.nw (.list ((l.filter P).map F)), ρ) := by
  obtain ⟨ρ', e1, e2⟩ := compGo_of (ρ := ρ) rfl k
  unfold cLc
  simp only [hi, Option.bind_some, ok, if_true, e1]
  rw [if_pos (by rw [List.length_map]; exact Nat.le_trans (List.length_filter_le _ _) hz), wipe_rst e2]
/-- no condition -/
theorem cLc_map {e : α → D} {l : List α} (F : α → D) (hi : it ρ = some (l.map e, ρ)) (ok : okW vs ρ = true)
    (k : ∀ a ∈ l, ∃ ρ1 r, g (e a) (wipeR vs ρ) = some ρ1 ∧ wipeR vs ρ1 = wipeR vs ρ ∧ f ρ1 = some (r, ρ1) ∧ stl r = .pu (F a))
    (hz : l.length ≤ lineN) : cLc vs it g tYes f ρ = some (.nw (.list (l.map F)), ρ) := by
  have h := cLc_of (t := tYes) (P := fun _ => true) (F := F) hi ok (fun a ha => by
    obtain ⟨ρ1, r, k1, k2, k3, k4⟩ := k a ha
    exact ⟨ρ1, k1, k2, rfl, fun _ => ⟨r, k3, k4⟩⟩) hz
  rw [List.filter_eq_self.mpr (fun _ _ => rfl)] at h
  exact h
theorem compGo2_of {e : α → D} {l1 : α → List β} {e1 : β → D} {F : α → β → D} {ρ0 : Rho} (hv : ∀ i ∈ vs1, i ∈ vs) : ∀ {l : List α} {ρ : Rho}, wipeR vs ρ = ρ0 →
    (∀ a ∈ l, ∃ ρ1, g (e a) ρ0 = some ρ1 ∧ wipeR vs ρ1 = ρ0 ∧ it1 ρ1 = some ((l1 a).map e1, ρ1) ∧ ∀ b ∈ l1 a, ∃ ρ2 r, g1 (e1 b) (wipeR vs1 ρ1) = some ρ2 ∧ wipeR vs1 ρ2 = wipeR vs1 ρ1 ∧ f ρ2 = some (r, ρ2) ∧ stl r = .pu (F a b)) →
    ∃ ρ', compGo2 vs vs1 g tYes it1 g1 tYes f (l.map e) ρ = some (l.flatMap fun a => (l1 a).map (F a), ρ') ∧ wipeR vs ρ' = ρ0
  | [], ρ, h, _ => ⟨ρ, rfl, h⟩
  | x :: l, ρ, h, k => by
    obtain ⟨ρ1, k1, k2, k3, k4⟩ := k x List.mem_cons_self
    obtain ⟨ρ2, e3, e4⟩ := compGo_of (vs := vs1) (g := g1) (t := tYes) (f := f) (e := e1) (P := fun _ => true) (F := F x) (l := l1 x) (ρ := ρ1) rfl (fun b hb => by
      obtain ⟨ρ2, r, q1, q2, q3, q4⟩ := k4 b hb
      exact ⟨ρ2, q1, q2, rfl, fun _ => ⟨r, q3, q4⟩⟩)
    have w : wipeR vs ρ2 = ρ0 := by
      have q := congrArg (wipeR vs) e4
      rw [wipeR_wipeR hv, wipeR_wipeR hv, k2] at q
      exact q
    obtain ⟨ρ', e1, e2⟩ := compGo2_of hv (l := l) w fun y hy => k y (List.mem_cons_of_mem _ hy)
    refine ⟨ρ', ?_, e2⟩
    rw [List.filter_eq_self.mpr (fun _ _ => rfl)] at e3
    rw [List.map_cons]
    unfold compGo2
    rw [h, k1]
    simp only [Option.bind_some, tYes, if_true, k3, e3, e1]
    rfl
theorem cLc2_of {e : α → D} {l : List α} {l1 : α → List β} {e1 : β → D} (F : α → β → D) (hv : ∀ i ∈ vs1, i ∈ vs) (hi : it ρ = some (l.map e, ρ)) (ok : okW vs ρ = true)
    (k : ∀ a ∈ l, ∃ ρ1, g (e a) (wipeR vs ρ) = some ρ1 ∧ wipeR vs ρ1 = wipeR vs ρ ∧ it1 ρ1 = some ((l1 a).map e1, ρ1) ∧ ∀ b ∈ l1 a, ∃ ρ2 r, g1 (e1 b) (wipeR vs1 ρ1) = some ρ2 ∧ wipeR vs1 ρ2 = wipeR vs1 ρ1 ∧ f ρ2 = some (r, ρ2) ∧ stl r = .pu (F a b))
    (hz : (l.flatMap fun a => (l1 a).map (F a)).length ≤ lineN) : cLc2 vs vs1 it g tYes it1 g1 tYes f ρ = some (.nw (.list (l.flatMap fun a => (l1 a).map (F a))), ρ) := by
  obtain ⟨ρ', e1, e2⟩ := compGo2_of hv (ρ := ρ) rfl k
  unfold cLc2
  simp only [hi, Option.bind_some, ok, if_true, e1]
  rw [if_pos hz, wipe_rst e2]
end
theorem cOpn_nw {op : D → Option D} {a : FE} {ρ ρ1 : Rho} {x r : D} (h1 : a ρ = some (.nw x, ρ1)) (h3 : op x = some r) : cOpn op a ρ = some (mk r, ρ1) := by
  unfold cOpn
  rw [h1, Option.bind_some]
  show (op x).bind _ = _
  rw [h3]
  rfl
theorem cOpn_nw' {op : D → Option D} {a : FE} {ρ ρ1 : Rho} {x r : D} (h1 : a ρ = some (.nw x, ρ1)) (h3 : op x = some r) {v : Vl} (hm : mk r = v := by rfl) : cOpn op a ρ = some (v, ρ1) := hm ▸ cOpn_nw h1 h3
/-! ### dicts -/
theorem sDNew_eq {i : Nat} {ρ ρ' : Rho} (h : setS i (.own (.dict [])) ρ = some ρ') : sDNew i ρ = some (.nx ρ') := by
  unfold sDNew
  rw [h]; rfl
theorem sDSet_pu {i : Nat} {k e : FE} {ρ ρ1 ρ2 ρ3 : Rho} {d kd : D} {kvs : List (D × D)} (h : e ρ = some (.pu d, ρ1)) (h2 : k ρ1 = some (.pu kd, ρ2)) (hc : dcont ρ2 i = some kvs) (hk : okK kvs kd = true) (hl : kvs.length < lineN)
    (hp : putS i (.dict (dputD kvs kd d)) ρ2 = some ρ3) : sDSet i k e ρ = some (.nx ρ3) := by
  unfold sDSet
  rw [h]
  show (k ρ1).bind _ = _
  rw [h2]
  simp only [Option.bind_some, stl, hc]
  rw [if_pos ⟨hk, hl⟩, hp]
  rfl
theorem cDGet_pu {i : Nat} {k : FE} {ρ ρ1 : Rho} {d kd : D} {kvs : List (D × D)} (h : k ρ = some (.pu kd, ρ1)) (hc : dcont ρ1 i = some kvs) (hk : okK kvs kd = true) (hd : dfind kvs kd = some d) : cDGet i k ρ = some (.pu d, ρ1) := by
  unfold cDGet
  rw [h]
  simp only [Option.bind_some, stl, hc]
  rw [if_pos hk, hd]
  rfl
theorem cDGet2_pu {i : Nat} {k e : FE} {ρ ρ1 ρ2 : Rho} {d kd : D} {kv0 kvs : List (D × D)} (h0 : dcont ρ i = some kv0) (h : k ρ = some (.pu kd, ρ1)) (h2 : e ρ1 = some (.pu d, ρ2)) (hc : dcont ρ2 i = some kvs) (hk : okK kvs kd = true) :
    cDGet2 i k e ρ = some (.pu ((dfind kvs kd).getD d), ρ2) := by
  unfold cDGet2
  rw [h0]
  show (k ρ).bind _ = _
  rw [h]
  show (e ρ1).bind _ = _
  rw [h2]
  simp only [Option.bind_some, stl, hc]
  rw [if_pos hk]
theorem cDSrt_eq {i : Nat} {ρ : Rho} {kvs : List (D × D)} (hc : dcont ρ i = some kvs) (h1 : alikeB (kvs.map (·.1)) = true) (h2 : sortableB (kvs.map (·.1)) = true) (h3 : ((kvs.map (·.1)).all fun d => decide (d.depth ≤ 60)) = true) :
    cDSrt i ρ = some (.nw (.list (srtD (kvs.map (·.1)))), ρ) := by
  unfold cDSrt
  rw [hc]
  simp only [Option.bind_some]
  rw [if_pos (by rw [h1, h2, h3]; rfl)]
theorem cSrtSet_nw {e : FE} {ρ ρ1 : Rho} {nss : List (List Int)} {v : Vl} (h : e ρ = some (v, ρ1)) (hv : stl v = .pu (.list (nss.map tupD))) (hz : nss.length < 64) : cSrtSet e ρ = some (.nw (.list (srtD ((nubL nss).map tupD))), ρ1) := by
  unfold cSrtSet
  rw [h]
  simp only [Option.bind_some, hv, cont, tupsOf_map]
  rw [if_pos hz]
theorem cInC_pu {neg : Bool} {ds : List D} {f : FE} {ρ ρ1 : Rho} {x : D} (h : f ρ = some (.pu x, ρ1)) (hz : min (PyData.depthAll ds) x.depth ≤ 64) : cInC neg ds f ρ = some (.pu (.bool (neg ^^ ds.any fun z => PyData.eqv z x)), ρ1) := by
  unfold cInC
  rw [h]
  simp only [Option.bind_some, stl, cont]
  rw [if_pos hz]
end PL

/-! PL: more operators: ^. -/
namespace PL
open PySem PySem.Spec PyProof.Rows L2
def opXor : D → D → Option D
  | .int i, .int j => some (.int (Builtin.bitXor i j))
  | _, _ => none
section
variable {X : Cx}
theorem so_xor : OpR X (binaryOp .BitXor) (rN X.K .pu opXor) := opr_of fun x y H Q q => by
  obtain ⟨G, d, e, r, s, hx, hy, o, k⟩ := q
  unfold opXor at o
  split at o <;> cases o
  exact ⟨_, op_xor, _, _, top_int hx, top_int hy, fin_int s k⟩
end
end PL

/-! PL: expressions that make a dict: {}, dict(pairs); stored, and lent to a call as its last argument. -/
namespace PL
open PySem PySem.Spec PyProof.Rows L2
abbrev FD := Rho → Option (List (D × D) × Rho)
def KinD (f : FD) : Prop := ∀ ρ r ρ', f ρ = some (r, ρ') → Kin ρ ρ'
/-- v is a new dict -/
def NewD (K : PySem.W.Frag) (H0 G H : Hp) (σ : L2.St) (ρ : Rho) (v : V) (kvs : List (D × D)) : Prop :=
  ∃ a, v = .ref a ∧ G a = none ∧ H0 a = none ∧ OwnDict K G H a kvs ∧ ∀ (i : Nat), mtb ρ[i]? = true → σ[i]? ≠ some (some (V.ref a))
def tDD (K : PySem.W.Frag) (f : FD) : TE := fun σ H Q => ∃ ioA G0 H0 G ρ r ρ', Sg K ioA G0 H0 G H σ ρ ∧ f ρ = some (r, ρ') ∧
  ∀ G' v H', Same G G' → Sg K ioA G0 H0 G' H' σ ρ' → NewD K H0 G' H' σ ρ' v r → Q v H'
structure PDD (X : Cx) (e : Expr) (f : FD) : Prop where
  pe : PE X e (tDD X.K f)
  kin : KinD f
section
variable {K : PySem.W.Frag} {ioA : Nat → Option Addr} {G0 H0 G G' H H' : Hp} {σ σ' : L2.St} {ρ ρ' : Rho} {v : V} {r : Vl}
/-- a new dict is laid -/
theorem Sg.newD {p : Addr} {o : HO} {kvs : List (D × D)} (S : Sg K ioA G0 H0 G H σ ρ) (hp : H p = none) (h : OwnDict K G (upd H p o) p kvs) : Sg K ioA G0 H0 G (upd H p o) σ ρ ∧ NewD K H0 G (upd H p o) σ ρ (.ref p) kvs := by
  refine ⟨S.grow (Same.refl _) (same_upd hp) (S.sub.trans (same_upd hp)) fun b o e => .inl ⟨o, e⟩, p, rfl, not_in S.sub hp, S.fresh hp, h, fun j hj z => ?_⟩
  obtain ⟨b, d', q1, _, q3, _⟩ := S.mt hj
  obtain ⟨o, q4⟩ := q3.there
  have e2 := z.symm.trans q1
  cases e2
  rw [hp] at q4; cases q4
end
def cD0 : FD := fun ρ => some ([], ρ)
section
variable {X : Cx} {i : Nat} {x : Str} {e : Expr} {f : FE} {fd : FD} {pos pos' cpos : Pos}
theorem pdd_0 : PDD X (.Dict [] [] cpos) cD0 := ⟨pe_w pe_dnewK fun σ H Q q => by
  obtain ⟨ioA, G0, H0, G, ρ, r, ρ', S, e, k⟩ := q
  cases e
  intro p hp
  obtain ⟨S2, n⟩ := S.newD (o := .dK []) (kvs := []) hp (.inl ⟨[], upd_same, .nil⟩)
  exact k G _ _ (Same.refl _) S2 n, fun ρ r ρ' q => by cases q; exact Kin.refl _⟩
/-- x = a new dict -/
def sDNw (i : Nat) (fd : FD) : FS := fun ρ => (fd ρ).bind fun p => (setS i (.own (.dict p.1)) p.2).bind fun ρ' => some (.nx ρ')
theorem ds_dnw (h : PDD X e fd) (hN : X.N.Nodup) (hi : X.N[i]? = some x) (hx : Loc X.env.scope x) (hs : swapsWith e (some (.Name x pos')) pos.line X.env = pure false := by rfl)
    (hf : X.fn x = true ∨ X.env.scope.names.lookup x = some .local := by first | exact .inl rfl | exact .inr rfl | assumption) : PDS X (.Assign [.Name x pos'] e pos) (sDNw i fd) := ps_w (ps_set hN hi hx h.pe hs hf) fun E σ H q => by
  obtain ⟨ioA, G0, H0, G, ρ, o, S, e, k⟩ := q
  obtain ⟨⟨r1, ρ1⟩, e1, e⟩ := bnd e
  obtain ⟨ρ2, e2, e⟩ := bnd e
  cases e
  obtain ⟨h1, rfl, _⟩ := setS_eq e2
  refine ⟨ioA, G0, H0, G, ρ, r1, ρ1, S, e1, fun G1 v H1 g1 S1 R1 => ?_⟩
  obtain ⟨a, rfl, q1, q2, q3, q4⟩ := R1
  exact k G1 _ H1 g1 (S1.setOwn h1 q1 q2 q3 q4)
/-- x, y = a plain value, a new dict -/
def sParR (i j : Nat) (f : FE) (fd : FD) : FS := fun ρ => (f ρ).bind fun p => match stl p.1 with
  | .pu d => (fd p.2).bind fun q => (setS i (.pu d) q.2).bind fun ρ1 => (setS j (.own (.dict q.1)) ρ1).bind fun ρ2 => some (.nx ρ2)
  | _ => none
/-- x, y = a new dict, a plain value -/
def sParL (i j : Nat) (fd : FD) (f : FE) : FS := fun ρ => (fd ρ).bind fun q => (f q.2).bind fun p => match stl p.1 with
  | .pu d => (setS i (.own (.dict q.1)) p.2).bind fun ρ1 => (setS j (.pu d) ρ1).bind fun ρ2 => some (.nx ρ2)
  | _ => none
theorem ds_parR {j : Nat} {y : Str} {a b : Expr} {px py pt pos : Pos} {kt k2 pt2} (ha : PD X a f) (hb : PDD X b fd) (hc : X.calm = true) (hN : X.N.Nodup) (hi : X.N[i]? = some x) (hj : X.N[j]? = some y) (hij : i ≠ j)
    (hx : X.env.scope.names.lookup x = some .local) (hy : X.env.scope.names.lookup y = some .local)
    (hw : swappedStores [.Tuple [.Name x px, .Name y py] kt pt] (.Tuple [a, b] k2 pt2) X.env = pure (some [x, y]))
    (hst : starEach [a, b] X.env = (false, eval a X.env) :: starEach [b] X.env := by rfl) (hst2 : starEach [b] X.env = (false, eval b X.env) :: starEach [] X.env := by rfl)
    (hs : swapsWithSole [.Tuple [.Name x px, .Name y py] kt pt] (.Tuple [a, b] k2 pt2) pos.line X.env = pure false := by rfl) :
    PDS X (.Assign [.Tuple [.Name x px, .Name y py] kt pt] (.Tuple [a, b] k2 pt2) pos) (sParR i j f fd) := by
  refine ps_w (ps_par hc hN hi hj hij hx hy (pa_cons ha.pe (pa_cons hb.pe pa_nil hst2) hst) hw hs) fun E σ H q => ?_
  obtain ⟨ioA, G0, H0, G, ρ, o, S, e, kk⟩ := q
  obtain ⟨⟨r1, ρ1⟩, e1, e⟩ := bnd e
  refine ⟨ioA, G0, H0, G, ρ, r1, ρ1, S, e1, fun G1 v H1 g1 S1 R1 => ?_⟩
  obtain ⟨G1', g1', S1', R1'⟩ := settle S1 R1
  simp only at e
  split at e
  · rename_i d z
    obtain ⟨⟨r2, ρ2⟩, e2, e⟩ := bnd e
    obtain ⟨ρ3, e3, e⟩ := bnd e
    obtain ⟨ρ4, e4, e⟩ := bnd e
    cases e
    rw [z] at R1'
    refine ⟨ioA, G0, H0, G1', ρ1, r2, ρ2, S1', e2, fun G2 w H2 g2 S2 R2 => ?_⟩
    obtain ⟨b, rfl, q1, q2, q3, q4⟩ := R2
    refine ⟨v, .ref b, rfl, ?_⟩
    obtain ⟨h1, rfl, hl⟩ := setS_eq e3
    obtain ⟨h2, rfl, _⟩ := setS_eq e4
    have S3 := S2.set h1 (.inr ⟨d, v, rfl, rfl, dpM g2 _ _ R1'⟩)
    refine kk G2 _ H2 ((g1.trans g1').trans g2) (S3.setOwn h2 q1 q2 q3 fun n hn z => ?_)
    by_cases hni : n = i
    · subst hni
      rw [List.getElem?_set_self hl] at hn
      cases hn
    · rw [List.getElem?_set_ne (Ne.symm hni)] at z hn
      exact q4 n hn z
  · cases e
theorem ds_parL {j : Nat} {y : Str} {a b : Expr} {px py pt pos : Pos} {kt k2 pt2} (ha : PDD X a fd) (hb : PD X b f) (hc : X.calm = true) (hN : X.N.Nodup) (hi : X.N[i]? = some x) (hj : X.N[j]? = some y) (hij : i ≠ j)
    (hx : X.env.scope.names.lookup x = some .local) (hy : X.env.scope.names.lookup y = some .local)
    (hw : swappedStores [.Tuple [.Name x px, .Name y py] kt pt] (.Tuple [a, b] k2 pt2) X.env = pure (some [x, y]))
    (hst : starEach [a, b] X.env = (false, eval a X.env) :: starEach [b] X.env := by rfl) (hst2 : starEach [b] X.env = (false, eval b X.env) :: starEach [] X.env := by rfl)
    (hs : swapsWithSole [.Tuple [.Name x px, .Name y py] kt pt] (.Tuple [a, b] k2 pt2) pos.line X.env = pure false := by rfl) :
    PDS X (.Assign [.Tuple [.Name x px, .Name y py] kt pt] (.Tuple [a, b] k2 pt2) pos) (sParL i j fd f) := by
  refine ps_w (ps_par hc hN hi hj hij hx hy (pa_cons ha.pe (pa_cons hb.pe pa_nil hst2) hst) hw hs) fun E σ H q => ?_
  obtain ⟨ioA, G0, H0, G, ρ, o, S, e, kk⟩ := q
  obtain ⟨⟨r1, ρ1⟩, e1, e⟩ := bnd e
  obtain ⟨⟨r2, ρ2⟩, e2, e⟩ := bnd e
  simp only at e
  split at e
  · rename_i d z
    obtain ⟨ρ3, e3, e⟩ := bnd e
    obtain ⟨ρ4, e4, e⟩ := bnd e
    cases e
    refine ⟨ioA, G0, H0, G, ρ, r1, ρ1, S, e1, fun G1 v H1 g1 S1 R1 => ?_⟩
    obtain ⟨p, rfl, h1, h2, h3, h4⟩ := R1
    have kin := hb.kin _ _ _ e2
    obtain ⟨u, hu, hnu⟩ := (show Own X.K G1 H1 p (.dict r1) from h3).nt
    have hio := S1.noIo h2
    refine ⟨ioA, G0, upd H0 p u, G1, ρ1, r2, ρ2, hold S1 hu hnu h1 h4, e2, fun G2 w H2 g2 S2 R2 => ?_⟩
    obtain ⟨G3, g3, S3, R3⟩ := settle S2 R2
    rw [z] at R3
    have g0p : G0 p = none := by
      cases z : G0 p with
      | none => rfl
      | some u' => have q := S1.g0 _ _ z; rw [h1] at q; cases q
    have gp : G3 p = none := by
      cases z : G3 p with
      | none => rfl
      | some u' =>
        rcases S3.new p u' z with ⟨_, q⟩ | q
        · rw [g0p] at q; cases q
        · exact (q.no upd_same hnu).elim
    have hp : H2 p = some u := S3.fr p u upd_same hio
    have S4 := unhold S3 h2 hio
    obtain ⟨z1, rfl, hl⟩ := setS_eq e3
    have ow : Own X.K G3 H2 p (.dict r1) := Own.keep (g2.trans g3) (fun u' z => by rw [hu] at z; cases z; exact hp) (show Own X.K G1 H1 p (.dict r1) from h3)
    have S5 := S4.setOwn z1 gp h2 ow fun n hn => h4 n ((kin n).1.symm.trans hn)
    obtain ⟨z2, rfl, _⟩ := setS_eq e4
    exact ⟨_, w, rfl, kk G3 _ H2 (g1.trans (g2.trans g3)) (S5.set z2 (.inr ⟨d, w, rfl, rfl, R3⟩))⟩
  · cases e
end
/-! ### a call whose last argument is a new dict -/
def tDAD (K : PySem.W.Frag) (fa : FA) (fd : FD) : TA := fun σ H Q => ∃ ioA G0 H0 G ρ r ρ1 kvs ρ', Sg K ioA G0 H0 G H σ ρ ∧ fa ρ = some (r, ρ1) ∧ fd ρ1 = some (kvs, ρ') ∧
  ∀ G' vs v H', Same G G' → Sg K ioA G0 H0 G' H' σ ρ' → RepVs K G' σ ρ' vs r → NewD K H0 G' H' σ ρ' v kvs → Q (vs ++ [v]) H'
structure PDAD (X : Cx) (e : List Expr) (fa : FA) (fd : FD) : Prop where
  pa : PA X e (tDAD X.K fa fd)
  kin : KinA fa
  kind : KinD fd
section
variable {X : Cx} {e : Expr} {es : List Expr} {f : FE} {fa : FA} {fd : FD}
theorem pdad_one (h : PDD X e fd) (hx : starEach [e] X.env = (false, eval e X.env) :: starEach [] X.env := by rfl) : PDAD X [e] aNil fd := by
  refine ⟨pa_w (pa_cons h.pe pa_nil hx) fun σ H Q q => ?_, fun ρ r ρ' q => by cases q; exact Kin.refl _, h.kin⟩
  obtain ⟨ioA, G0, H0, G, ρ, r, ρ1, kvs, ρ', S, e, e2, k⟩ := q
  cases e
  exact ⟨ioA, G0, H0, G, ρ, kvs, ρ', S, e2, fun G1 v H1 g1 S1 R1 => k G1 [] v H1 g1 S1 .nil R1⟩
theorem pdad_cons (ha : PD X e f) (hs : PDAD X es fa fd) (hx : starEach (e :: es) X.env = (false, eval e X.env) :: starEach es X.env := by rfl) : PDAD X (e :: es) (aCons f fa) fd := by
  refine ⟨pa_w (pa_cons ha.pe hs.pa hx) fun σ H Q q => ?_, fun ρ r ρ' q => ?_, hs.kind⟩
  · obtain ⟨ioA, G0, H0, G, ρ, r, ρ', kvs, ρ3, S, e, ed, k⟩ := q
    obtain ⟨⟨r1, ρ1⟩, e1, e⟩ := bnd e
    obtain ⟨⟨r2, ρ2⟩, e2, e⟩ := bnd e
    cases e
    refine ⟨ioA, G0, H0, G, ρ, r1, ρ1, S, e1, fun G1 v1 H1 g1 S1 R1 => ?_⟩
    obtain ⟨G1', g1', S1', R1'⟩ := settle S1 R1
    refine ⟨ioA, G0, H0, G1', ρ1, r2, _, kvs, _, S1', e2, ed, fun G2 vs v H2 g2 S2 R2 N2 => ?_⟩
    refine k G2 (v1 :: vs) v H2 ((g1.trans g1').trans g2) S2 (.cons ?_ R2) N2
    have hm := (hs.kin _ _ _ e2).trans (hs.kind _ _ _ ed)
    cases r1 with
    | pu d => exact dpM g2 _ _ R1'
    | sl i => exact ⟨hm.mt i R1'.1, R1'.2⟩
    | nw d => exact dpM g2 _ _ R1'
  · obtain ⟨⟨r1, ρ1⟩, e1, e⟩ := bnd q
    obtain ⟨⟨r2, ρ2⟩, e2, e⟩ := bnd e
    cases e
    exact (ha.kin _ _ _ e1).trans (hs.kin _ _ _ e2)
end
def cCallD (m : Mir) (as : FA) (fd : FD) : FE := fun ρ => (as ρ).bind fun p => (fd p.2).bind fun q => (toArs q.2 p.1).bind fun ars =>
  if (slotsOf p.1).Nodup then (m (ars ++ [.m (.dict q.1)])).bind fun r => if r.2.length = (slotsOf p.1).length + 1 then (wb (slotsOf p.1) r.2.dropLast q.2).bind fun ρ' => some (r.1, ρ') else none else none
section
variable {K : PySem.W.Frag} {ioA : Nat → Option Addr} {G0 H0 G G' H H' : Hp} {σ σ' : L2.St} {ρ ρ' : Rho} {v : V} {r : Vl}
theorem ars_snoc {a : Addr} {d : D} (h1 : G a = none) (h2 : Own K G H a d) : ∀ {vs : List V} {ars : List Ar}, ArsOk K G H vs ars → ArsOk K G H (vs ++ [.ref a]) (ars ++ [.m d]) ∧ mA (vs ++ [.ref a]) (ars ++ [.m d]) = mA vs ars ++ [a]
  | [], [], .nil => ⟨.cons ⟨a, rfl, h1, h2⟩ .nil, rfl⟩
  | v :: vs, b :: ars, .cons h t => by
    obtain ⟨k1, k2⟩ := ars_snoc h1 h2 t
    refine ⟨.cons h k1, ?_⟩
    cases b with
    | v d' =>
      have e1 : ∀ (us : List V) (bs : List Ar), mA (v :: us) (.v d' :: bs) = mA us bs := fun us bs => by cases v <;> rfl
      rw [List.cons_append, List.cons_append, e1, e1, k2]
    | m d' =>
      obtain ⟨c, rfl, _⟩ := h
      show c :: mA (vs ++ [.ref a]) (ars ++ [.m d]) = c :: (mA vs ars ++ [a])
      rw [k2]
theorem paired_snoc {α β : Type} {F : α → β → Prop} : ∀ {as : List α} {a : α} {bs : List β}, Paired F (as ++ [a]) bs → Paired F as bs.dropLast ∧ bs.length = as.length + 1
  | [], a, _, .cons r t => by cases t; exact ⟨.nil, rfl⟩
  | x :: as, a, _, .cons (b := b) (l₂ := bs) r t => by
    obtain ⟨k1, k2⟩ := paired_snoc t
    cases bs with
    | nil => simp at k2
    | cons c cs => exact ⟨.cons r k1, by simpa using k2⟩
theorem callD_ok {n : Nat} {m : Mir} {fa : FA} {fd : FD} {Q : VK} {E : XK} (hn : ∀ ρ r ρ', fa ρ = some (r, ρ') → r.length + 1 = n) (q : tD K (cCallD m fa fd) σ H Q) : tCall (spM K n m) [] E (tDAD K fa fd) σ H Q := by
  obtain ⟨ioA, G0, H0, G, ρ, r, ρ', S, e, k⟩ := q
  obtain ⟨⟨r1, ρ1⟩, e1, e⟩ := bnd e
  obtain ⟨⟨kvs, ρ1'⟩, ed, e⟩ := bnd e
  obtain ⟨ars, ea, e⟩ := bnd e
  simp only at e
  split at e
  · rename_i nd
    obtain ⟨⟨r2, outs⟩, em, e⟩ := bnd e
    simp only at e
    split at e
    · rename_i hlen
      obtain ⟨ρ2, ew, e⟩ := bnd e
      cases e
      refine ⟨ioA, G0, H0, G, ρ, r1, ρ1, kvs, ρ1', S, e1, ed, fun G1 vs w H1 g1 S1 R1 N1 => ?_⟩
      obtain ⟨a, rfl, n1, n2, n3, n4⟩ := N1
      obtain ⟨k1, k2⟩ := ars_of S1 R1 ea
      obtain ⟨k3, k4⟩ := ars_snoc n1 (show Own K G1 H1 a (.dict kvs) from n3) k1
      have ha : a ∉ mA vs ars := fun hm => by
        obtain ⟨j, hj, h1, h2⟩ := paired_mem' k2 hm
        exact n4 j h2 h1
      rw [List.append_nil]
      refine ⟨by rw [List.length_append, Paired.length R1]; exact hn _ _ _ e1, G1, _, r, outs, S1.sub, k3, by rw [k4]; exact List.nodup_append.mpr ⟨mA_nodup S1 k2 nd, by simp, fun x hx y hy => by
        rw [List.mem_singleton] at hy
        subst hy
        intro z
        exact ha (z ▸ hx)⟩, em, fun G2 v H2 q1 q2 q3 q4 q5 q6 q7 => ?_⟩
      rw [k4] at q4 q5 q6
      obtain ⟨q6', _⟩ := paired_snoc q6
      obtain ⟨u, hu, hnu⟩ := (show Own K G1 H1 a (.dict kvs) from n3).nt
      -- the dict is held, so that the slots' rule speaks of the rest
      have S1h := hold S1 hu hnu n1 n4
      have hio := S1.noIo n2
      have key : Sg K ioA G0 H0 G2 H2 σ ρ' ∧ Kin ρ1' ρ' := by
        have S1u : Sg K ioA G0 H0 G1 (fun b => if b = a then none else H1 b) σ ρ1' := by
          have ne : ∀ (i : Nat) b, mtb ρ1'[i]? = true → σ[i]? = some (some (.ref b)) → b ≠ a := fun i b hm hs z => n4 i hm (by rw [← z]; exact hs)
          refine ⟨S1.len, fun b o z => ?_, S1.g0, S1.new, fun b o z kk => ?_, fun i b z => ?_, S1.pu, fun i d z => ?_, fun i d z => ?_, S1.apart, S1.fx⟩
          · have hb : b ≠ a := fun y => by rw [y, n1] at z; cases z
            show (if b = a then none else H1 b) = some o
            rw [if_neg hb]; exact S1.sub b o z
          · have hb : b ≠ a := fun y => by rw [y, n2] at z; cases z
            show (if b = a then none else H1 b) = some o
            rw [if_neg hb]; exact S1.fr b o z kk
          · have hb : b ≠ a := fun y => hio i (by rw [z, y])
            obtain ⟨⟨o, y1, y2⟩, y3⟩ := S1.ioh i b z
            exact ⟨⟨o, by show (if b = a then none else H1 b) = some o; rw [if_neg hb]; exact y1, y2⟩, y3⟩
          · obtain ⟨b, y1, y2, y3, y4⟩ := S1.own i d z
            have hb := ne i b (by rw [z]; rfl) y1
            exact ⟨b, y1, y2, y3, y4.keep (Same.refl _) fun o w => by show (if b = a then none else H1 b) = some o; rw [if_neg hb]; exact w⟩
          · obtain ⟨b, y1, y2, y4⟩ := S1.io i d z
            have hb := ne i b (by rw [z]; rfl) y2
            exact ⟨b, y1, y2, y4.keep (Same.refl _) fun o w => by show (if b = a then none else H1 b) = some o; rw [if_neg hb]; exact w⟩
        refine S1u.called k2 nd ew q1 q2 (fun b o z => ?_) (fun b o z hb => ?_) (fun b hb => q5 b (List.mem_append_left _ hb)) q6'
        · rcases q3 b o z with y | y
          · exact .inl y
          · refine .inr ?_
            have hb : b ≠ a := fun w => y.no (by rw [w]; exact hu) hnu
            unfold Lax at y ⊢
            simp only [if_neg hb]
            exact y
        · by_cases hba : b = a
          · simp only [if_pos hba] at z; cases z
          · simp only [if_neg hba] at z
            exact q4 b o z fun hm => by
              rcases List.mem_append.mp hm with hm | hm
              · exact hb hm
              · exact hba (List.mem_singleton.mp hm)
      obtain ⟨S2, kin⟩ := key
      refine k G2 v H2 (g1.trans q1) S2 ?_
      cases r with
      | pu d => exact q7
      | sl i => exact q7.elim
      | nw d =>
        obtain ⟨a', rfl, h1, h2, h3⟩ := q7
        refine ⟨a', rfl, h2, S1.fresh h1, h3, fun i hi e => ?_⟩
        obtain ⟨b, d', z1, _, z3, _⟩ := S1.mt ((kin i).1.symm.trans hi)
        obtain ⟨o, z4⟩ := z3.there
        have e2 := e.symm.trans z1
        cases e2
        rw [h1] at z4; cases z4
    · cases e
  · cases e
theorem kin_wb {is : List Nat} {ds : List D} (ew : wb is ds ρ = some ρ') (nd : is.Nodup) : Kin ρ ρ' := fun i => by
  obtain ⟨w1, w2, w3⟩ := wb_spec ew nd
  by_cases hi : i ∈ is
  · obtain ⟨d, _, h4⟩ := paired_mem w2 hi
    rcases h4 with ⟨d0, e1, e2⟩ | ⟨d0, e1, e2⟩
    · rw [e1, e2]; exact ⟨rfl, fun z => by cases z⟩
    · rw [e1, e2]; exact ⟨rfl, fun z => by cases z⟩
  · rw [w1 i hi]; exact ⟨rfl, fun _ => rfl⟩
theorem kin_callD {m : Mir} {fa : FA} {fd : FD} (ha : KinA fa) (hd : KinD fd) : KinE (cCallD m fa fd) := fun ρ r ρ' q => by
  obtain ⟨⟨r1, ρ1⟩, e1, e⟩ := bnd q
  obtain ⟨⟨kvs, ρ1'⟩, ed, e⟩ := bnd e
  obtain ⟨ars, ea, e⟩ := bnd e
  simp only at e
  split at e
  · rename_i nd
    obtain ⟨⟨r2, outs⟩, em, e⟩ := bnd e
    simp only at e
    split at e
    · obtain ⟨ρ2, ew, e⟩ := bnd e
      cases e
      exact ((ha _ _ _ e1).trans (hd _ _ _ ed)).trans (kin_wb ew nd)
    · cases e
  · cases e
end
def LenD (n : Nat) (fa : FA) : Prop := ∀ ρ r ρ', fa ρ = some (r, ρ') → r.length + 1 = n
theorem LenA.d {n : Nat} {fa : FA} (h : LenA n fa) : LenD (n + 1) fa := fun ρ r ρ' q => by rw [h _ _ _ q]
section
variable {X : Cx} {x : Str} {n k k' : Nat} {m : Mir} {p pos : Pos} {e : Expr} {es : List Expr} {fa : FA} {fd : FD}
theorem pd_calD (c : Cal X.prog X.w X.K X.mg X.base x n m k) (hr : Room k' X.A) (h : k ≤ k') (hg : Gl X x) (hl : LenD n fa) (ha : PDAD X (e :: es) fa fd) (hdb : (x == ("__debug__" : Str)) = false := by decide)
    (he : starEach (e :: es) X.env = (false, eval e X.env) :: starEach es X.env := by rfl) (hpl : (backTo pos (starEach es X.env)).any (·.1) = false := by rfl) : PD X (.Call (.Name x p) (e :: es) [] pos) (cCallD m fa fd) := by
  obtain ⟨f, fd', ps, F, hm, hk, hb⟩ := c.ex
  exact ⟨pe_w (pe_call F (hr.mono h) hg hm hk hb .nil pass0 ha.pa hdb he hpl) fun _ _ _ q => callD_ok hl q, kin_callD ha.kin ha.kind⟩
end
end PL

/-! PL: dict(a list of pairs), keys ints and texts, or tuples of them. -/
namespace PL
open PySem PySem.Spec PyProof.Rows L2
section
variable {X : Cx}
abbrev EntT := List L2.Key × Addr × V
def foldT (acc : List (List L2.Key × V)) (es : List EntT) : List (List L2.Key × V) := es.foldl (fun acc e => putK acc e.1 e.2.2) acc
theorem kt_fold {H : Hp} : ∀ {es : List EntT} {prs : List (List L2.Key × Addr × Value)} {acc : List (List L2.Key × V)} {xs : List (List L2.Key × Addr × Value)},
    Paired (fun e q => e.1 = q.1 ∧ e.2.1 = q.2.1 ∧ H e.2.1 = some (.tup (e.1.map kV)) ∧ RelV e.2.2 q.2.2) es prs → KT H acc xs → KT H (foldT acc es) (storedAllH xs prs)
  | _, _, _, _, .nil, h => h
  | _, _, _, _, .cons (a := e) (b := q) r t, h => by
    obtain ⟨r1, r2, r3, r4⟩ := r
    have z := h.put e.1 (b := q.2.1) (by rw [← r2]; exact r3) r4
    rw [r1] at z
    rw [← r1] at z
    have := kt_fold t (by rw [r1] at z; exact z)
    show KT H (foldT (putK _ e.1 e.2.2) _) _
    rw [r1]
    exact this
theorem foldT_len : ∀ (es : List EntT) (acc : List (List L2.Key × V)), (foldT acc es).length ≤ acc.length + es.length
  | [], acc => Nat.le_refl _
  | e :: es, acc => by
    have h1 := foldT_len es (putK acc e.1 e.2.2)
    have h2 := length_putK acc e.1 e.2.2
    show (foldT (putK acc e.1 e.2.2) es).length ≤ _
    rw [List.length_cons]; omega
theorem pairsT_of {pins : List (Addr × Obj)} {σ : L2.St} {H : Hp} {s : Shared} (I : Inv X pins σ H s) : ∀ {ps : List Addr} {es : List EntT}, Paired (fun p e => SqT X.K H p [.ref e.2.1, e.2.2] ∧ H e.2.1 = some (.tup (e.1.map kV))) ps es →
    ∃ prs : List (List L2.Key × Addr × Value), Paired (fun e q => e.1 = q.1 ∧ e.2.1 = q.2.1 ∧ H e.2.1 = some (.tup (e.1.map kV)) ∧ RelV e.2.2 q.2.2) es prs ∧ prs.length = ps.length ∧
      ∀ (j : Nat) (q : List L2.Key × Addr × Value), prs[j]? = some q → ∃ b : Addr, ps[j]? = some b ∧ IsTup s.heap b #[.ref q.2.1, q.2.2]
  | _, _, .nil => ⟨[], .nil, rfl, fun j q e => by simp at e⟩
  | _, _, .cons (a := p) (b := en) h t => by
    obtain ⟨prs, r, hl, hp⟩ := pairsT_of I t
    obtain ⟨its, rv, ht, _⟩ := I.tuple h.1
    obtain ⟨u, y, ei, ru, ry⟩ := vals2 rv
    subst ei
    cases ru
    refine ⟨(en.1, en.2.1, y) :: prs, .cons ⟨rfl, rfl, h.2, ry⟩ r, by rw [List.length_cons, List.length_cons, hl], fun j q e => ?_⟩
    cases j with
    | zero =>
      have z := Option.some.inj e
      subst z
      exact ⟨p, rfl, ht⟩
    | succ j =>
      obtain ⟨b, e1, e2⟩ := hp j q (by simpa using e)
      exact ⟨b, by simpa using e1, e2⟩
/-- the rule -/
theorem cr_dictT (hcalm : X.calm = true) (hu : X.A.units + 65 < cLine) : CallR X (.type "dict") (fun xs H Q => ∃ (a : Addr) (ps : List Addr) (es : List EntT), xs = [.ref a] ∧ SqL X.K H a (ps.map V.ref) ∧
    Paired (fun p e => SqT X.K H p [.ref e.2.1, e.2.2] ∧ H e.2.1 = some (.tup (e.1.map kV))) ps es ∧ ∀ p, H p = none → Q (.ref p) (upd H p (.dT (foldT [] es)))) := by
  intro pins s σ H xs us Q I r q
  obtain ⟨a, ps, es, rfl, hq, hp, q⟩ := q
  obtain ⟨u, rfl, rx⟩ := vals1 r
  cases rx
  obtain ⟨its, rv, pl, hz⟩ := I.list hq
  have ei := refs_at rv
  subst ei
  rw [List.length_map] at hz
  obtain ⟨prs, rel, hl, hpr⟩ := pairsT_of I hp
  obtain ⟨o, n, ho, hc, hd, hdat⟩ := pl
  have lp : prs.length ≤ sizeLine := by rw [hl]; exact hz
  have hu2 : (tupleKind (mixKind X.prog X.w)).room X.A.in1.in1 := tupleKind_room_in1 (by show X.A.units + 1 + 1 < cLine; omega)
  let vals : List (Value × Value) := prs.map fun p => (Value.ref p.2.1, p.2.2)
  have hv : vals.length = prs.length := List.length_map _
  refine PySem.call_dict_pairsH (knd := tupleKind (mixKind X.prog X.w)) (ps := prs) (PySem.PairArg.list (prog := X.prog) (w := X.w) a (ps.map Value.ref).toArray (fun j => ps[j]?.getD 0) vals) (I.ok.hd hcalm) hu2
    ⟨⟨o, n, ho, hc, hd, hdat⟩, by simp [hv, hl], fun j k v e => ?_⟩ ⟨hv.symm, fun i k v e => ?_⟩ (fun h' kp x hx => ?_) (by rw [hv]; exact lp) fun h' tk dd kp => ?_
  · rw [List.getElem?_map] at e
    cases e2 : prs[j]? with
    | none => rw [e2] at e; cases e
    | some p =>
      rw [e2] at e
      cases (Option.some.inj e)
      obtain ⟨b, h1, h2⟩ := hpr j p e2
      refine ⟨by simp [h1], .inl ?_⟩
      simp only [h1, Option.getD_some]
      obtain ⟨ob, q1, q2, q3⟩ := h2
      exact ⟨ob, q1, q2, q3⟩
  · have e : (prs.map fun p => (Value.ref p.2.1, p.2.2))[i]? = some (k, v) := e
    rw [List.getElem?_map] at e
    cases e2 : prs[i]? with
    | none => rw [e2] at e; cases e
    | some p =>
      rw [e2] at e
      cases (Option.some.inj e)
      exact ⟨p.1, p.2.1, rfl, rfl⟩
  · obtain ⟨en, _, z1, z2, z3, z4⟩ := paired_mem' rel hx
    have kk := key_of I.hok z3
    rw [z1, z2] at kk
    obtain ⟨ob, its, m, q1, q2, q3, q4⟩ := kk
    exact ⟨ob, its, m, kp _ _ (Nat.ne_of_lt (Heap.lt_size q1)) (fun z => nomatch z) q1, q2, q3, q4⟩
  · have hm : (s.heap.objs.size == sysModules) = false := beq_eq_false_iff_ne.mpr (Nat.ne_of_gt I.big)
    have hf : H s.heap.objs.size = none := I.hok.fresh (Nat.le_refl _)
    have hlen : (foldT [] es).length ≤ sizeLine := by
      refine Nat.le_trans (foldT_len es []) ?_
      rw [List.length_nil, Nat.zero_add, Paired.length rel]
      exact lp
    obtain ⟨q0, es', ep, hq0, h2, h3, h4, _, h5⟩ := dd
    have ktt : KT (upd H s.heap.objs.size (.dT (foldT [] es))) (foldT [] es) (storedAllH [] prs) := (kt_fold rel .nil).keeps fun b ys eb => by
      rw [upd_ne (ne_of_none eb hf)]; exact eb
    exact ⟨.ref s.heap.objs.size, upd H s.heap.objs.size (.dT (foldT [] es)), I.laid (t' := tk) (fun b ob e => kp b ob (fun z => nomatch z) e) (Nat.le_refl _) (show ObjOk X.prog X.w _ _ _ (.dT (foldT [] es)) from ⟨hlen, hm, _, ktt, q0, es', ep, hq0, h2, h3, h4, h5⟩), rfl, q _ hf⟩
end
/-! ### the pure side -/
def pairsD : List D → Option (List (D × D))
  | [] => some []
  | .tuple [k, v] :: r => (pairsD r).bind fun l => some ((k, v) :: l)
  | _ :: _ => none
def foldD (acc : List (D × D)) (l : List (D × D)) : List (D × D) := l.foldl (fun acc p => dputD acc p.1 p.2) acc
def cDOf (f : FE) : FD := fun ρ => (f ρ).bind fun p => (cont p.2 (stl p.1)).bind fun x => match x with
  | .list ds => (pairsD ds).bind fun l => if (l.all fun p => kindD p.1 == 1) || (l.all fun p => kindD p.1 == 2) then some (foldD [] l, p.2) else none
  | _ => none
section
variable {X : Cx} {K : PySem.W.Frag} {G H : Hp}
theorem prs1 : ∀ {vs : List V} {ds : List D} {l : List (D × D)}, DpAll K G vs ds → pairsD ds = some l → (l.all fun p => kindD p.1 == 1) = true →
    ∃ (ps : List Addr) (kvs : List (L2.Key × V)), vs = ps.map V.ref ∧ Paired (fun p kv => G p = some (.tup [kV kv.1, kv.2])) ps kvs ∧ Ent K G kD kvs l
  | _, [], _, .nil, e, _ => by cases e; exact ⟨[], [], rfl, .nil, .nil⟩
  | _, d :: ds, l, .cons h t, e, hk => by
    unfold pairsD at e
    split at e
    · rename_i heq; cases heq
    · rename_i _ k v r heq
      cases heq
      obtain ⟨l', e1, e⟩ := bnd e
      cases e
      rw [List.all_cons, Bool.and_eq_true] at hk
      obtain ⟨ps, kvs, rfl, h2, h3⟩ := prs1 t e1 hk.2
      obtain ⟨b, xs, rfl, h4, h5⟩ := dp_tupleT h
      cases h5 with
      | cons y1 y2 =>
        cases y2 with
        | cons y3 y4 =>
          cases y4
          obtain ⟨kk, rfl, rfl⟩ := key1 y1 (kind_1 (eq_of_beq hk.1))
          exact ⟨b :: ps, (kk, _) :: kvs, rfl, .cons h4 h2, .cons ⟨rfl, y3⟩ h3⟩
    · cases e
theorem prs2 : ∀ {vs : List V} {ds : List D} {l : List (D × D)}, DpAll K G vs ds → pairsD ds = some l → (l.all fun p => kindD p.1 == 2) = true →
    ∃ (ps : List Addr) (es : List EntT), vs = ps.map V.ref ∧ Paired (fun p e => G p = some (.tup [.ref e.2.1, e.2.2]) ∧ G e.2.1 = some (.tup (e.1.map kV))) ps es ∧ Ent K G kT (es.map fun e => (e.1, e.2.2)) l
  | _, [], _, .nil, e, _ => by cases e; exact ⟨[], [], rfl, .nil, .nil⟩
  | _, d :: ds, l, .cons h t, e, hk => by
    unfold pairsD at e
    split at e
    · rename_i heq; cases heq
    · rename_i _ k v r heq
      cases heq
      obtain ⟨l', e1, e⟩ := bnd e
      cases e
      rw [List.all_cons, Bool.and_eq_true] at hk
      obtain ⟨ps, es, rfl, h2, h3⟩ := prs2 t e1 hk.2
      obtain ⟨b, xs, rfl, h4, h5⟩ := dp_tupleT h
      cases h5 with
      | cons y1 y2 =>
        cases y2 with
        | cons y3 y4 =>
          cases y4
          obtain ⟨kk, c, rfl, rfl, hb⟩ := key2 y1 (eq_of_beq hk.1)
          exact ⟨b :: ps, (kk, c, _) :: es, rfl, .cons ⟨h4, hb⟩ h2, .cons ⟨rfl, y3⟩ h3⟩
    · cases e
theorem foldK_ent : ∀ {kvs : List (L2.Key × V)} {l : List (D × D)} {acc : List (L2.Key × V)} {ad : List (D × D)}, Ent K G kD kvs l → Ent K G kD acc ad → Ent K G kD (mergeK acc kvs) (foldD ad l)
  | _, _, _, _, .nil, h => h
  | _, _, _, _, .cons (a := p) (b := q) r t, h => by
    have z := ent_put eqD_kD p.1 r.2 h
    rw [← r.1] at z
    have y := foldK_ent t z
    exact y
theorem foldT_ent : ∀ {es : List EntT} {l : List (D × D)} {acc : List (List L2.Key × V)} {ad : List (D × D)}, Ent K G kT (es.map fun e => (e.1, e.2.2)) l → Ent K G kT acc ad → Ent K G kT (foldT acc es) (foldD ad l)
  | [], _, _, _, .nil, h => h
  | e :: es, _, _, _, .cons (b := q) r t, h => by
    have z := ent_put eqD_kT e.1 r.2 h
    have r1 : q.1 = kT e.1 := r.1
    rw [← r1] at z
    have y := foldT_ent t z
    exact y
variable {e : Expr} {f : FE} {p pos : Pos}
theorem kin_dof (hk : KinE f) : KinD (cDOf f) := fun ρ r ρ' q => by
  obtain ⟨⟨r1, ρ1⟩, e1, e⟩ := bnd q
  obtain ⟨x, ex, e⟩ := bnd e
  simp only at e
  split at e
  · obtain ⟨l, el, e⟩ := bnd e
    split at e <;> cases e
    exact hk _ _ _ e1
  · cases e
def rDOf (K : PySem.W.Frag) : List V → Hp → VK → Prop := fun vs H Q => (∃ (a : Addr) (ps : List Addr) (kvs : List (L2.Key × V)), vs = [.ref a] ∧ SqL K H a (ps.map V.ref) ∧ Paired (fun p kv => SqT K H p [kV kv.1, kv.2]) ps kvs ∧
    ∀ p, H p = none → Q (.ref p) (upd H p (.dK (mergeK [] kvs)))) ∨ ∃ (a : Addr) (ps : List Addr) (es : List EntT), vs = [.ref a] ∧ SqL K H a (ps.map V.ref) ∧
    Paired (fun p e => SqT K H p [.ref e.2.1, e.2.2] ∧ H e.2.1 = some (.tup (e.1.map kV))) ps es ∧ ∀ p, H p = none → Q (.ref p) (upd H p (.dT (foldT [] es)))
theorem cr_dof (hc : X.calm = true) (hu : X.A.units + 65 < cLine) : CallR X (.type "dict") (rDOf X.K) := by
  intro pins s σ H vs us Q I r h
  rcases h with h | h
  · exact call_dictP hc pins s σ H vs us Q I r h
  · exact cr_dictT hc hu pins s σ H vs us Q I r h
theorem pair_map {α β : Type} {F R : α → β → Prop} : ∀ {xs : List α} {ys : List β}, Paired F xs ys → (∀ x y, F x y → R x y) → Paired R xs ys
  | _, _, .nil, _ => .nil
  | _, _, .cons r t, k => .cons (k _ _ r) (pair_map t k)
theorem pdd_of (hc : X.calm = true) (hu : X.A.units + 65 < cLine) (hg : Gl X "dict") (hm : X.mg "dict" = none) (hv : bootBuiltins "dict" = some (.type "dict")) (ha : PD X e f)
    (he : starEach [e] X.env = (false, eval e X.env) :: starEach [] X.env := by rfl) (hpl : (backTo pos (starEach [] X.env)).any (·.1) = false := by rfl) : PDD X (.Call (.Name "dict" p) [e] [] pos) (cDOf f) := by
  refine ⟨pe_w (pe_callTy (cr_dof hc hu) hg hm hv (pa_cons ha.pe pa_nil he) (by decide) (by decide) he hpl) fun σ H Q q => ?_, kin_dof ha.kin⟩
  obtain ⟨ioA, G0, H0, G, ρ, r, ρ', S, e, k⟩ := q
  obtain ⟨⟨r1, ρ1⟩, e1, e⟩ := bnd e
  obtain ⟨x, ex, e⟩ := bnd e
  simp only at e
  split at e
  · rename_i ds
    obtain ⟨l, el, e⟩ := bnd e
    split at e
    · rename_i hk
      cases e
      refine ⟨ioA, G0, H0, G, ρ, r1, _, S, e1, fun G1 v1 H1 g1 S1 R1 => ?_⟩
      obtain ⟨G1', g1', S1', R1'⟩ := settle S1 R1
      obtain ⟨a, xs, rfl, h2, h3⟩ := top_list (S1'.top R1' ex) S1'.sub
      rcases (Bool.or_eq_true _ _).mp hk with hk | hk
      · obtain ⟨ps, kvs, rfl, h4, h5⟩ := prs1 h3 el hk
        refine .inl ⟨a, ps, kvs, rfl, h2, pair_map h4 fun p kv z => .of (S1'.sub _ _ z), fun p hp => ?_⟩
        obtain ⟨S2, n⟩ := S1'.newD (o := .dK (mergeK [] kvs)) (kvs := foldD [] l) hp (.inl ⟨_, upd_same, foldK_ent h5 .nil⟩)
        exact k G1' _ _ (g1.trans g1') S2 n
      · obtain ⟨ps, es, rfl, h4, h5⟩ := prs2 h3 el hk
        refine .inr ⟨a, ps, es, rfl, h2, pair_map h4 fun p kv z => ⟨.of (S1'.sub _ _ z.1), S1'.sub _ _ z.2⟩, fun p hp => ?_⟩
        obtain ⟨S2, n⟩ := S1'.newD (o := .dT (foldT [] es)) (kvs := foldD [] l) hp (.inr ⟨_, upd_same, foldT_ent h5 .nil⟩)
        exact k G1' _ _ (g1.trans g1') S2 n
    · cases e
  · cases e
end
end PL

/-! PL: range(i, j, -1). -/
namespace PL
open PySem PySem.Spec PyProof.Rows L2
def downD (lo : Int) (n : Nat) : List D := (List.range n).map fun k => .int (lo - (k : Nat))
def iRgDn (a b : FE) : FI := fun ρ => (a ρ).bind fun p => (b p.2).bind fun q => match p.1, q.1 with
  | .pu (.int i), .pu (.int j) => if small i = true ∧ small j = true then some (downD i (i - j).toNat, q.2) else none
  | _, _ => none
section
variable {X : Cx} {K : PySem.W.Frag} {G : Hp} {pos : Pos}
theorem wk_down {lo : Int} {n : Nat} : WkD K G (Itc lo (-1) n) (downD lo n) := by
  have hl : (downD lo n).length = n := by simp [downD]
  refine ⟨fun i H hi s => by rw [hl] at hi; exact hi, fun H s => by rw [hl]; exact Nat.le_refl n, fun i H v H' hi s y => ?_⟩
  obtain ⟨rfl, rfl⟩ := y
  intro Gi g1 g2 d e
  rw [hl] at hi
  unfold downD at e
  rw [List.getElem?_map, List.getElem?_range hi] at e
  cases e
  have z : lo + (i : Nat) * (-1 : Int) = lo - (i : Nat) := by omega
  rw [z]
  exact ⟨Gi, Grow.refl g2, .int _⟩
theorem pd_rangeDn {tg a b c : Expr} {ga gb : FE} {p : Pos} (hg : Gl X "range") (hm : X.mg "range" = none) (ha : PD X a ga) (hb : PD X b gb) (hc : PD X c (cC (.int (-1))))
    (hs : starEach [a, b, c] X.env = (false, eval a X.env) :: starEach [b, c] X.env := by rfl) (hs2 : starEach [b, c] X.env = (false, eval b X.env) :: starEach [c] X.env := by rfl)
    (hs3 : starEach [c] X.env = (false, eval c X.env) :: starEach [] X.env := by rfl) (hpl : (backTo pos (starEach [b, c] X.env)).any (·.1) = false := by rfl) : PDI X tg (.Call (.Name "range" p) [a, b, c] [] pos) (iRgDn ga gb) := by
  have hp : PDA X [a, b, c] (aCons ga (aCons gb (aCons (cC (.int (-1))) aNil))) := pd_cons ha (pd_cons hb (pd_cons hc pd_nil hs3) hs2) hs
  refine ⟨pi_w (pi_range3 hg hm hp.pa hs hpl) fun σ H R q => ?_, fun ρ r ρ' q => ?_⟩
  · obtain ⟨ioA, G0, H0, G, ρ, ds, ρ', S, e, k⟩ := q
    obtain ⟨⟨r1, ρ1⟩, e1, e⟩ := bnd e
    obtain ⟨⟨r2, ρ2⟩, e2, e⟩ := bnd e
    simp only at e
    split at e
    · rename_i i j e2
      by_cases hs : small i = true ∧ small j = true
      · rw [if_pos hs] at e
        cases e
        obtain ⟨h1, h2⟩ := small_ok hs.1
        obtain ⟨h3, h4⟩ := small_ok hs.2
        refine ⟨ioA, G0, H0, G, ρ, [.pu (.int i), .pu (.int j), .pu (.int (-1))], ρ', S, by unfold aCons aNil cC; simp only [e1, e2, Option.bind_some, stl], fun G1 vs H1 g1 S1 R1 => ?_⟩
        cases R1 with
        | cons h t =>
          cases t with
          | cons h' t =>
            cases t with
            | cons h'' t =>
              cases t
              cases h
              cases h'
              cases h''
              exact ⟨i, j, -1, _, rfl, RgC.neg h1 h2 h3 h4, k G1 _ H1 g1 S1 wk_down⟩
      · rw [if_neg hs] at e; cases e
    · cases e
  · obtain ⟨⟨r1, ρ1⟩, e1, e⟩ := bnd q
    obtain ⟨⟨r2, ρ2⟩, e2, e⟩ := bnd e
    simp only at e
    split at e
    · split at e <;> cases e
      exact (ha.kin _ _ _ e1).trans (hb.kin _ _ _ e2)
    · cases e
end
end PL
namespace PL
theorem pd_m1 {X : L2.Cx} {c : PySem.Expr} (h : PD X c (cOp opNeg (cC (.int 1)))) : PD X c (cC (.int (-1))) := h
end PL

/-! PL: a dict of four new dicts under texts, made by a def's first statement; the four stand in slots behind the def's names. -/
namespace PL
open PySem PySem.Spec PyProof.Rows L2
section
variable {X : Cx} {K : PySem.W.Frag} {ioA : Nat → Option Addr} {G0 H0 G G1 G' H H1 H' : Hp} {σ σ' : L2.St} {ρ ρ' : Rho} {v : V} {r : Vl} {i : Nat}
/-- x[k], x the dict of dicts: the lent one's slot -/
def cNst (i : Nat) (k : FE) : FE := fun ρ => (k ρ).bind fun p => match stl p.1, p.2[i]? with
  | .pu (.str s), some (.fx kjs) => (kjs.lookup s).bind fun j => match p.2[j]? with
    | some (.io d) => some (.sl j, p.2)
    | _ => none
  | _, _ => none
theorem pd_nst {o ke : Expr} {fk : FE} {pos : Pos} (hu : X.A.units + 65 < cLine) (ho : PE X o (tVar i)) (hk : PD X ke fk) (hs : NoSl ke) : PD X (.Subscript o ke pos) (cNst i fk) := by
  refine ⟨pe_w (pe_dget (by omega) ho hk.pe hs) fun σ H Q q => ?_, fun ρ r ρ' q => ?_⟩
  · obtain ⟨ioA, G0, H0, G, ρ, r, ρ', S, e, k⟩ := q
    obtain ⟨⟨r1, ρ1⟩, e1, e⟩ := bnd e
    simp only at e
    split at e
    · rename_i x kjs z1 z2
      obtain ⟨j, ej, e⟩ := bnd e
      split at e
      · rename_i d z3
        cases e
        have kin := hk.kin _ _ _ e1 i
        have zi : ρ[i]? = some (.fx kjs) := by
          have h1 := kin.1
          rw [z2] at h1
          rw [← kin.2 h1.symm]; exact z2
        obtain ⟨a, es, q1, q2, q3⟩ := S.fx i kjs zi
        obtain ⟨b, q4, q5⟩ := q3 x j ej
        refine ⟨.ref a, q1, ioA, G0, H0, G, ρ, r1, _, S, e1, fun G1 y H1 g1 S1 R1 => ?_⟩
        obtain ⟨G1', g1', S1', R1'⟩ := settle S1 R1
        rw [z1] at R1'
        cases R1'
        have ha : H1 a = some (.dK es) := S1'.sub _ _ (S1'.g0 _ _ q2)
        obtain ⟨c, w1, w2, w3⟩ := S1'.io j d z3
        have e5 := w1.symm.trans q5
        cases e5
        refine ⟨a, .ref b, rfl, ?_, k G1' _ H1 (g1.trans g1') S1' ⟨by rw [z3]; rfl, w2⟩⟩
        have dg := DGet.k (H := H1) (a := a) (kvs := es) (k := .inr x) ha
        rw [q4] at dg
        exact dg
      · cases e
    · cases e
  · obtain ⟨⟨r1, ρ1⟩, e1, e⟩ := bnd q
    simp only at e
    split at e
    · obtain ⟨j, ej, e⟩ := bnd e
      split at e
      · cases e
        exact hk.kin _ _ _ e1
      · cases e
    · cases e
/-! ### slots behind the names -/
def Ph (X : Cx) (σ σ' : L2.St) : Prop := σ'.length = σ.length ∧ ∀ (i : Nat) (x : Str), X.N[i]? = some x → Vis X.env.scope x → σ'[i]? = σ[i]?
theorem inv_ph {pins : List (Addr × Obj)} {s : Shared} (I : Inv X pins σ H s) (h : Ph X σ σ') : Inv X pins σ' H s := by
  obtain ⟨a, b, c, d, ⟨m, l1, l2⟩, f, g, g2, p, hk, ln⟩ := I
  exact ⟨a, b, c, d, ⟨m, l1, fun i x v h1 h2 h3 => l2 i x v h1 (by rw [← h.2 i x h1 h3]; exact h2) h3⟩, f, g, g2, p, hk, h.1.trans ln⟩
theorem ps_ph {st : Stmt} {t : TS} (h : PS X st t) : PS X st (fun E σ H => t { E with nx := fun σ1 H1 => ∃ σ2, Ph X σ1 σ2 ∧ E.nx σ2 H1 } σ H) := ⟨fun pins s σ H D I q => by
  refine thn (h.run pins s σ H _ I q) fun f s1 w => ?_
  cases f with
  | next =>
    obtain ⟨σ1, H1, I1, σ2, hp, q2⟩ := w
    exact ⟨σ2, H1, inv_ph I1 hp, q2⟩
  | ret v => exact w
  | brk => exact w
  | cont => exact w⟩
theorem Sg.rebase (S : Sg K ioA G H G H σ ρ) (no : ∀ (i : Nat) (d : D), ρ[i]? ≠ some (Sl.own d)) (nf : ∀ (i : Nat) (k : List (Str × Nat)), ρ[i]? ≠ some (Sl.fx k)) (g1 : Same G G1) (h1 : Same H H1) (s1 : Same G1 H1) (n1 : ∀ b o, G1 b = some o → (∃ o', G b = some o') ∨ Lax H b) :
    Sg K ioA G1 H1 G1 H1 σ ρ := by
  have S1 := S.grow g1 h1 s1 n1
  exact ⟨S1.len, s1, Same.refl _, fun b o e => .inl ⟨o, e⟩, fun b o e _ => e, fun i b e => ⟨(S1.ioh i b e).1, (S1.ioh i b e).2.1, (S1.ioh i b e).1⟩, S1.pu, fun i d e => absurd e (no i d), S1.io, S1.apart, fun i k e => absurd e (nf i k)⟩
theorem Sg.addIo {b : Addr} (S : Sg K ioA G0 H0 G H σ ρ) (hi : ρ[i]? = some .non) (hn : ioA i = none) (hb : H b = some (.dK [])) (hb0 : H0 b = some (.dK [])) (hg : G b = none) (ap : ∀ (j : Nat), mtb ρ[j]? = true → σ[j]? ≠ some (some (V.ref b))) (nfx : ∀ (j : Nat) (k : List (Str × Nat)), ρ[j]? ≠ some (Sl.fx k)) :
    Sg K (fun j => if j = i then some b else ioA j) G0 H0 G H (σ.set i (some (.ref b))) (ρ.set i (.io (.dict []))) := by
  have hl := (List.getElem?_eq_some_iff.mp hi).1
  have at1 : (ρ.set i (.io (.dict [])))[i]? = some (.io (.dict [])) := List.getElem?_set_self hl
  have at2 : ∀ (j : Nat), j ≠ i → (ρ.set i (.io (.dict [])))[j]? = ρ[j]? := fun j hj => List.getElem?_set_ne (Ne.symm hj)
  have st1 : (σ.set i (some (V.ref b)))[i]? = some (some (.ref b)) := List.getElem?_set_self (by rw [S.len]; exact hl)
  have st2 : ∀ (j : Nat), j ≠ i → (σ.set i (some (V.ref b)))[j]? = σ[j]? := fun j hj => List.getElem?_set_ne (Ne.symm hj)
  refine ⟨by rw [List.length_set, List.length_set]; exact S.len, S.sub, S.g0, S.new, fun c o e k => S.fr c o e fun j hj => ?_, fun j c e => ?_, fun j d e => ?_, fun j d e => ?_, fun j d e => ?_, fun j l a h1 h2 h3 h4 => ?_, fun j d e => ?_⟩
  · by_cases h : j = i
    · subst h; rw [hn] at hj; cases hj
    · exact k j (by simp only [if_neg h]; exact hj)
  · by_cases h : j = i
    · simp only [if_pos h] at e
      cases e
      exact ⟨⟨_, hb, fun _ z => nomatch z⟩, hg, _, hb0, fun _ z => nomatch z⟩
    · simp only [if_neg h] at e
      exact S.ioh j c e
  · by_cases h : j = i
    · subst h; rw [at1] at e; cases e
    · rw [at2 j h] at e; rw [st2 j h]; exact S.pu j d e
  · by_cases h : j = i
    · subst h; rw [at1] at e; cases e
    · rw [at2 j h] at e; rw [st2 j h]; exact S.own j d e
  · by_cases h : j = i
    · subst h
      rw [at1] at e
      cases e
      exact ⟨b, by simp only [if_pos], st1, .inl ⟨[], hb, .nil⟩⟩
    · rw [at2 j h] at e; rw [st2 j h]
      obtain ⟨a, q1, q2, q3⟩ := S.io j d e
      exact ⟨a, by simp only [if_neg h]; exact q1, q2, q3⟩
  · by_cases hj : j = i
    · by_cases hl : l = i
      · rw [hj, hl]
      · rw [hj, st1] at h3
        cases h3
        rw [at2 l hl] at h2
        rw [st2 l hl] at h4
        exact absurd h4 (ap l h2)
    · by_cases hl : l = i
      · rw [hl, st1] at h4
        cases h4
        rw [at2 j hj] at h1
        rw [st2 j hj] at h3
        exact absurd h3 (ap j h1)
      · rw [at2 j hj] at h1
        rw [at2 l hl] at h2
        rw [st2 j hj] at h3
        rw [st2 l hl] at h4
        exact S.apart j l a h1 h2 h3 h4
  · by_cases h : j = i
    · subst h; rw [at1] at e; cases e
    · rw [at2 j h] at e; exact absurd e (nfx j d)
theorem Sg.setFx {a : Addr} {es : List (L2.Key × V)} {kjs : List (Str × Nat)} (S : Sg K ioA G0 H0 G H σ ρ) (hi : ρ[i]? = some .non) (h : G0 a = some (.dK es)) (hk : ∀ (k : Str) (j : Nat), kjs.lookup k = some j → ∃ b, L2.valV es (.inr k) = some (.ref b) ∧ ioA j = some b)
    (nfx : ∀ (j : Nat) (k : List (Str × Nat)), ρ[j]? ≠ some (Sl.fx k)) : Sg K ioA G0 H0 G H (σ.set i (some (.ref a))) (ρ.set i (.fx kjs)) := by
  have hl := (List.getElem?_eq_some_iff.mp hi).1
  have at1 : (ρ.set i (.fx kjs))[i]? = some (.fx kjs) := List.getElem?_set_self hl
  have at2 : ∀ (j : Nat), j ≠ i → (ρ.set i (.fx kjs))[j]? = ρ[j]? := fun j hj => List.getElem?_set_ne (Ne.symm hj)
  have st1 : (σ.set i (some (V.ref a)))[i]? = some (some (.ref a)) := List.getElem?_set_self (by rw [S.len]; exact hl)
  have st2 : ∀ (j : Nat), j ≠ i → (σ.set i (some (V.ref a)))[j]? = σ[j]? := fun j hj => List.getElem?_set_ne (Ne.symm hj)
  have ne : ∀ (j : Nat), mtb (ρ.set i (.fx kjs))[j]? = true → j ≠ i := fun j hm z => by
    rw [z, at1] at hm; cases hm
  refine ⟨by rw [List.length_set, List.length_set]; exact S.len, S.sub, S.g0, S.new, S.fr, S.ioh, fun j d e => ?_, fun j d e => ?_, fun j d e => ?_, fun j l c h1 h2 h3 h4 => ?_, fun j d e => ?_⟩
  · by_cases h : j = i
    · subst h; rw [at1] at e; cases e
    · rw [at2 j h] at e; rw [st2 j h]; exact S.pu j d e
  · by_cases h : j = i
    · subst h; rw [at1] at e; cases e
    · rw [at2 j h] at e; rw [st2 j h]; exact S.own j d e
  · by_cases h : j = i
    · subst h; rw [at1] at e; cases e
    · rw [at2 j h] at e; rw [st2 j h]; exact S.io j d e
  · have n1 := ne j h1
    have n2 := ne l h2
    rw [at2 j n1] at h1
    rw [at2 l n2] at h2
    rw [st2 j n1] at h3
    rw [st2 l n2] at h4
    exact S.apart j l c h1 h2 h3 h4
  · by_cases h' : j = i
    · subst h'
      rw [at1] at e
      cases e
      exact ⟨a, es, st1, h, hk⟩
    · rw [at2 j h'] at e; exact absurd e (nfx j d)
/-! ### the def -/
def nestR (p ki n0 : Nat) (k1 k2 k3 k4 : Str) (ars : List Ar) : Rho :=
  (((((ars.map arS ++ List.replicate (n0 + 4 - p) Sl.non).set n0 (.io (.dict []))).set (n0 + 1) (.io (.dict []))).set (n0 + 2) (.io (.dict []))).set (n0 + 3) (.io (.dict []))).set ki (.fx [(k1, n0), (k2, n0 + 1), (k3, n0 + 2), (k4, n0 + 3)])
def runNest (p ki n0 : Nat) (k1 k2 k3 k4 : Str) (f : FS) : Mir := fun ars => if ars.length = p then
  (f (nestR p ki n0 k1 k2 k3 k4 ars)).bind fun o => match o with
    | .rt (.pu d) ρ => (outsOf ars ρ).bind fun ds => some (.pu d, ds)
    | _ => none
  else none
end
section
variable {K : PySem.W.Frag}
theorem outs_take : ∀ {ars : List Ar} {ρ : Rho} {outs : List D} {n : Nat}, ars.length ≤ n → outsOf ars ρ = some outs → outsOf ars (ρ.take n) = some outs
  | [], _, _, _, _, e => by cases e; rfl
  | b :: ars, [], _, _, _, e => by cases b <;> cases e
  | b :: ars, s :: ρ, outs, 0, hl, e => by simp at hl
  | b :: ars, s :: ρ, outs, n + 1, hl, e => by
    have hl' : ars.length ≤ n := by simpa using hl
    rw [List.take_succ_cons]
    cases b with
    | v d => exact outs_take (ars := ars) hl' e
    | m d =>
      cases s with
      | io d' =>
        obtain ⟨ds, e1, e2⟩ := bnd e
        cases e2
        show (outsOf ars (ρ.take n)).bind _ = _
        rw [outs_take hl' e1]
        rfl
      | _ => cases e
theorem nest_ok {X : Cx} {N : List Str} {p ki n0 : Nat} {k1 k2 k3 k4 : Str} {f : FS} {vs : List V} {H : Hp} {Q : VK} {E : XK} (hX : X.N = N) (hN : N.length = n0 + 4) (hp : p ≤ ki) (hki : ki < n0) (hv : ∀ (j : Nat) (x : Str), n0 ≤ j → N[j]? = some x → ¬ Vis X.env.scope x)
    (n12 : k1 ≠ k2) (n13 : k1 ≠ k3) (n14 : k1 ≠ k4) (n23 : k2 ≠ k3) (n24 : k2 ≠ k4) (n34 : k3 ≠ k4) (q : spM K p (runNest p ki n0 k1 k2 k3 k4 f) vs H Q E) :
    tAsg (tDisp [(tC (.str k1), tDNewK), (tC (.str k2), tDNewK), (tC (.str k3), tDNewK), (tC (.str k4), tDNewK)]) (gName ki)
      { nx := fun σ1 H1 => ∃ σ2, Ph X σ1 σ2 ∧ tDS K f { nx := fun _ H' => Q .non H', rt := Q } σ2 H1, rt := Q } (L2.start N vs) H := by
  obtain ⟨hl, G, ars, r, outs, gH, ao, nd, e, k⟩ := q
  unfold runNest at e
  have hva : vs.length = ars.length := Paired.length ao
  have ha : ars.length = p := hva.symm.trans hl
  rw [if_pos ha] at e
  obtain ⟨o, e1, e⟩ := bnd e
  intro a hA b1 hB1 b2 hB2 b3 hB3 b4 hB4
  have S := start_sg (N := N) (by omega) gH ao nd
  rw [ha, hN] at S
  -- the addresses are apart
  have d1 : b1 ≠ a := fun z => by rw [z, upd_same] at hB1; cases hB1
  have d2 : b2 ≠ b1 := fun z => by rw [z, upd_same] at hB2; cases hB2
  rw [upd_ne d2] at hB2
  have d3 : b2 ≠ a := fun z => by rw [z, upd_same] at hB2; cases hB2
  have d4 : b3 ≠ b2 := fun z => by rw [z, upd_same] at hB3; cases hB3
  rw [upd_ne d4] at hB3
  have d5 : b3 ≠ b1 := fun z => by rw [z, upd_same] at hB3; cases hB3
  rw [upd_ne d5] at hB3
  have d6 : b3 ≠ a := fun z => by rw [z, upd_same] at hB3; cases hB3
  have d7 : b4 ≠ b3 := fun z => by rw [z, upd_same] at hB4; cases hB4
  rw [upd_ne d7] at hB4
  have d8 : b4 ≠ b2 := fun z => by rw [z, upd_same] at hB4; cases hB4
  rw [upd_ne d8] at hB4
  have d9 : b4 ≠ b1 := fun z => by rw [z, upd_same] at hB4; cases hB4
  rw [upd_ne d9] at hB4
  have d10 : b4 ≠ a := fun z => by rw [z, upd_same] at hB4; cases hB4
  rw [upd_ne d1] at hB1
  rw [upd_ne d3] at hB2
  rw [upd_ne d6] at hB3
  rw [upd_ne d10] at hB4
  let es : List (L2.Key × V) := mergeK [] [(.inr k1, .ref b1), (.inr k2, .ref b2), (.inr k3, .ref b3), (.inr k4, .ref b4)]
  have hes : ∀ x, L2.valV es (.inr x) = if x = k4 then some (.ref b4) else if x = k3 then some (.ref b3) else if x = k2 then some (.ref b2) else if x = k1 then some (.ref b1) else none := fun x => by
    show L2.valV (putK (putK (putK (putK [] _ _) _ _) _ _) _ _) _ = _
    rw [valV_put, valV_put, valV_put, valV_put]
    simp only [Sum.inr.injEq]
    rfl
  let H2 : Hp := upd (upd (upd (upd (upd H a (.dK [])) b1 (.dK [])) b2 (.dK [])) b3 (.dK [])) b4 (.dK [])
  let H3 : Hp := upd H2 a (.dK es)
  let G1 : Hp := upd G a (.dK es)
  refine ⟨by rw [upd_ne (Ne.symm d10), upd_ne (Ne.symm d6), upd_ne (Ne.symm d3), upd_ne (Ne.symm d1), upd_same], [(.inr k1, .ref b1), (.inr k2, .ref b2), (.inr k3, .ref b3), (.inr k4, .ref b4)], rfl, by simp, ?_⟩
  have h3a : H3 a = some (.dK es) := upd_same
  have h31 : H3 b1 = some (.dK []) := by show upd H2 a _ b1 = _; rw [upd_ne d1]; show upd (upd (upd (upd _ _ _) _ _) _ _) _ _ b1 = _; rw [upd_ne (Ne.symm d9), upd_ne (Ne.symm d5), upd_ne (Ne.symm d2), upd_same]
  have h32 : H3 b2 = some (.dK []) := by show upd H2 a _ b2 = _; rw [upd_ne d3]; show upd (upd (upd _ _ _) _ _) _ _ b2 = _; rw [upd_ne (Ne.symm d8), upd_ne (Ne.symm d4), upd_same]
  have h33 : H3 b3 = some (.dK []) := by show upd H2 a _ b3 = _; rw [upd_ne d6]; show upd (upd _ _ _) _ _ b3 = _; rw [upd_ne (Ne.symm d7), upd_same]
  have h34 : H3 b4 = some (.dK []) := by show upd H2 a _ b4 = _; rw [upd_ne d10]; show upd _ _ _ b4 = _; rw [upd_same]
  have h3o : ∀ c, c ≠ a → c ≠ b1 → c ≠ b2 → c ≠ b3 → c ≠ b4 → H3 c = H c := fun c z0 z1 z2 z3 z4 => by
    show upd (upd (upd (upd (upd (upd H _ _) _ _) _ _) _ _) _ _) _ _ c = _
    rw [upd_ne z0, upd_ne z4, upd_ne z3, upd_ne z2, upd_ne z1, upd_ne z0]
  have hH : Same H H3 := fun c u z => by
    rw [h3o c (ne_of_none z hA) (ne_of_none z hB1) (ne_of_none z hB2) (ne_of_none z hB3) (ne_of_none z hB4)]
    exact z
  have hGa := not_in gH hA
  have g01 : Same G G1 := same_upd hGa
  have hGH : Same G1 H3 := fun c u z => by
    by_cases hc : c = a
    · subst hc
      have z' : upd G c (.dK es) c = some u := z
      rw [upd_same] at z'
      cases z'
      exact h3a
    · have z' : upd G a (.dK es) c = some u := z
      rw [upd_ne hc] at z'
      exact hH _ _ (gH _ _ z')
  have hn1 : ∀ b o, G1 b = some o → (∃ o', G b = some o') ∨ Lax H b := fun b o z => by
    by_cases hc : b = a
    · subst hc; exact .inr (.inl hA)
    · have z' : upd G a (.dK es) b = some o := z
      rw [upd_ne hc] at z'
      exact .inl ⟨_, z'⟩
  have rhoAt : ∀ (i : Nat) s, (ars.map arS ++ List.replicate (n0 + 4 - p) Sl.non)[i]? = some s → s = .non ∨ ∃ c, ars[i]? = some c ∧ s = arS c := fun i s e => by
    rw [List.getElem?_append] at e
    split at e
    · rw [List.getElem?_map] at e
      obtain ⟨c, z1, z2⟩ := Option.map_eq_some_iff.mp e
      exact .inr ⟨c, z1, z2.symm⟩
    · rw [List.getElem?_replicate] at e
      split at e <;> cases e
      exact .inl rfl
  have nOwn : ∀ (i : Nat) (d : D), (ars.map arS ++ List.replicate (n0 + 4 - p) Sl.non)[i]? ≠ some (Sl.own d) := fun i d z => by
    rcases rhoAt i _ z with h | ⟨c, _, h⟩
    · cases h
    · cases c <;> cases h
  have nFx : ∀ (i : Nat) (d : List (Str × Nat)), (ars.map arS ++ List.replicate (n0 + 4 - p) Sl.non)[i]? ≠ some (Sl.fx d) := fun i d z => by
    rcases rhoAt i _ z with h | ⟨c, _, h⟩
    · cases h
    · cases c <;> cases h
  have nonAt : ∀ i, p ≤ i → i < n0 + 4 → (ars.map arS ++ List.replicate (n0 + 4 - p) Sl.non)[i]? = some .non := fun i z1 z2 => by
    rw [List.getElem?_append_right (by rw [List.length_map, ha]; exact z1), List.getElem?_replicate, if_pos (by rw [List.length_map, ha]; omega)]
  have ioN : ∀ i, p ≤ i → ioOf vs ars i = none := fun i z => by
    cases y : ioOf vs ars i with
    | none => rfl
    | some b =>
      obtain ⟨d, _, w⟩ := ioOf_get y
      have := (List.getElem?_eq_some_iff.mp w).1
      omega
  have S1 := S.rebase nOwn nFx g01 hH hGH hn1
  have newB : ∀ b, H b = none → ∀ (j : Nat), mtb (ars.map arS ++ List.replicate (n0 + 4 - p) Sl.non)[j]? = true → (L2.start N vs)[j]? ≠ some (some (V.ref b)) := fun b hb j hm z => by
    obtain ⟨c, d, w1, _, w3, _⟩ := S.mt hm
    have := z.symm.trans w1
    cases this
    obtain ⟨u, w4⟩ := w3.there
    rw [hb] at w4; cases w4
  have gB : ∀ b, b ≠ a → H b = none → G1 b = none := fun b z hb => by
    show upd G a _ b = none
    rw [upd_ne z]; exact not_in gH hb
  let R : Rho := ars.map arS ++ List.replicate (n0 + 4 - p) Sl.non
  have T1 := S1.addIo (i := n0) (b := b1) (nonAt n0 (by omega) (by omega)) (ioN n0 (by omega)) h31 h31 (gB b1 d1 hB1) (newB b1 hB1) nFx
  have keep1 : ∀ {τ : Rho} {m : Nat} (i : Nat) s, i ≠ m → (τ.set m (.io (.dict [])))[i]? = some s → τ[i]? = some s := fun {τ m} i s hi z => by rw [List.getElem?_set_ne (Ne.symm hi)] at z; exact z
  have nfxS : ∀ {τ : Rho} {m : Nat}, (∀ (i : Nat) (d : List (Str × Nat)), τ[i]? ≠ some (Sl.fx d)) → ∀ (i : Nat) (d : List (Str × Nat)), (τ.set m (.io (.dict [])))[i]? ≠ some (Sl.fx d) := fun {τ m} h i d z => by
    rw [List.getElem?_set] at z
    split at z
    · split at z <;> cases z
    · exact h i d z
  have apS : ∀ {τ : Rho} {s : L2.St} {m : Nat} {b c : Addr}, b ≠ c → (∀ (j : Nat), mtb τ[j]? = true → s[j]? ≠ some (some (V.ref b))) → ∀ (j : Nat), mtb (τ.set m (.io (.dict [])))[j]? = true → (s.set m (some (V.ref c)))[j]? ≠ some (some (V.ref b)) := fun {τ s m b c} hbc h j hm z => by
    by_cases hj : j = m
    · subst hj
      rw [List.getElem?_set] at z
      rw [if_pos rfl] at z
      split at z
      · cases z; exact hbc rfl
      · cases z
    · rw [List.getElem?_set_ne (Ne.symm hj)] at hm z
      exact h j hm z
  have atS : ∀ {τ : Rho} {m i : Nat} {s : Sl}, i ≠ m → τ[i]? = some s → (τ.set m (.io (.dict [])))[i]? = some s := fun {τ m i s} h z => by rw [List.getElem?_set_ne (Ne.symm h)]; exact z
  have N1 := nfxS (m := n0) nFx
  have T2 := T1.addIo (i := n0 + 1) (b := b2) (atS (by omega) (nonAt _ (by omega) (by omega))) (by rw [if_neg (by omega)]; exact ioN _ (by omega)) h32 h32 (gB b2 d3 hB2) (apS d2 (newB b2 hB2)) N1
  have N2 := nfxS (m := n0 + 1) N1
  have T3 := T2.addIo (i := n0 + 2) (b := b3) (atS (by omega) (atS (by omega) (nonAt _ (by omega) (by omega)))) (by rw [if_neg (by omega), if_neg (by omega)]; exact ioN _ (by omega)) h33 h33 (gB b3 d6 hB3) (apS d4 (apS d5 (newB b3 hB3))) N2
  have N3 := nfxS (m := n0 + 2) N2
  have T4 := T3.addIo (i := n0 + 3) (b := b4) (atS (by omega) (atS (by omega) (atS (by omega) (nonAt _ (by omega) (by omega))))) (by rw [if_neg (by omega), if_neg (by omega), if_neg (by omega)]; exact ioN _ (by omega)) h34 h34 (gB b4 d10 hB4) (apS d7 (apS d8 (apS d9 (newB b4 hB4)))) N3
  have N4 := nfxS (m := n0 + 3) N3
  have T5 := T4.setFx (i := ki) (a := a) (es := es) (kjs := [(k1, n0), (k2, n0 + 1), (k3, n0 + 2), (k4, n0 + 3)]) (atS (by omega) (atS (by omega) (atS (by omega) (atS (by omega) (nonAt _ (by omega) (by omega)))))) upd_same (fun x j z => by
    simp only [List.lookup] at z
    rw [hes]
    split at z
    · rename_i w
      have w := eq_of_beq w
      cases z
      subst w
      exact ⟨b1, by rw [if_neg n14, if_neg n13, if_neg n12, if_pos rfl], by rw [if_neg (by omega), if_neg (by omega), if_neg (by omega), if_pos rfl]⟩
    · split at z
      · rename_i w
        have w := eq_of_beq w
        cases z
        subst w
        exact ⟨b2, by rw [if_neg n24, if_neg n23, if_pos rfl], by rw [if_neg (by omega), if_neg (by omega), if_pos rfl]⟩
      · split at z
        · rename_i w
          have w := eq_of_beq w
          cases z
          subst w
          exact ⟨b3, by rw [if_neg n34, if_pos rfl], by rw [if_neg (by omega), if_pos rfl]⟩
        · split at z
          · rename_i w
            have w := eq_of_beq w
            cases z
            subst w
            exact ⟨b4, by rw [if_pos rfl], by rw [if_pos rfl]⟩
          · cases z) N4
  refine ⟨((((((L2.start N vs).set n0 (some (.ref b1))).set (n0 + 1) (some (.ref b2))).set (n0 + 2) (some (.ref b3))).set (n0 + 3) (some (.ref b4))).set ki (some (.ref a))), ⟨by simp, fun j x z1 z2 => ?_⟩, ?_⟩
  · have hj : ¬ n0 ≤ j := fun h => hv j x h (by rw [← hX]; exact z1) z2
    by_cases hk : j = ki
    · subst hk
      have hlt : j < (L2.start N vs).length := by rw [S.len, List.length_append, List.length_map, List.length_replicate, ha]; omega
      rw [List.getElem?_set_self (by simpa using hlt), List.getElem?_set_self hlt]
    · rw [List.getElem?_set_ne (by omega), List.getElem?_set_ne (by omega), List.getElem?_set_ne (by omega), List.getElem?_set_ne (by omega), List.getElem?_set_ne (by omega), List.getElem?_set_ne (by omega)]
  · refine ⟨_, _, _, _, _, o, T5, e1, ?_⟩
    cases o with
    | rt v ρ' =>
      cases v with
      | pu d =>
        obtain ⟨ds, e3, e⟩ := bnd e
        cases e
        intro G' w σ' H' g S' Rw
        refine k G' w H' (g01.trans g) S'.sub (fun b o z => ?_) (fun b o z hb => ?_) (fun c hc => ?_) (outs_ok hva (ρ := ρ'.take p) (fun i d z => ?_) (outs_take (by omega) e3)) Rw
        · rcases S'.new b o z with ⟨o', y⟩ | y
          · exact hn1 b o' y
          · refine .inr ?_
            by_cases hc : H b = none
            · exact .inl hc
            · cases hb : H b with
              | none => exact .inl hb
              | some u =>
                rcases y with y | ⟨xs, y⟩
                · rw [hH b u hb] at y; cases y
                · rw [hH b u hb] at y; cases y
                  exact .inr ⟨xs, hb⟩
        · refine S'.fr b o (hH b o z) fun i y => ?_
          split at y
          · cases y; rw [hB4] at z; cases z
          · split at y
            · cases y; rw [hB3] at z; cases z
            · split at y
              · cases y; rw [hB2] at z; cases z
              · split at y
                · cases y; rw [hB1] at z; cases z
                · exact hb (mem_mA.mpr ⟨i, y⟩)
        · obtain ⟨i, hi⟩ := mem_mA.mp hc
          have hip : i < p := by
            rcases Nat.lt_or_ge i p with y | y
            · exact y
            · rw [ioN i y] at hi; cases hi
          exact (S'.ioh i c (by rw [if_neg (by omega), if_neg (by omega), if_neg (by omega), if_neg (by omega)]; exact hi)).2.1
        · have hip : i < p := by
            have := (List.getElem?_eq_some_iff.mp z).1
            rw [List.length_take] at this
            omega
          rw [List.getElem?_take_of_lt hip] at z
          obtain ⟨c, q1, q2, q3⟩ := S'.io i d z
          rw [if_neg (by omega), if_neg (by omega), if_neg (by omega), if_neg (by omega)] at q1
          exact ⟨c, q1, q3⟩
      | _ => cases e
    | _ => cases e
end
section
variable {P : Program} {w : World} {K : PySem.W.Frag} {mg : Str → Option Value} {base : Heap} {x qual : Str} {params : Arguments} {body : List Stmt} {scope : Scope} {dvs : List V} {kws : List (Str × V)} {fa : Addr} {fd : FuncData}
theorem fn_nest {N ps : List Str} {k ki n0 : Nat} {k1 k2 k3 k4 : Str} {f : FS} (F : FunD K x qual params body scope dvs kws fa fd) (S : FnScope N ps scope) (hN : N.length = n0 + 4) (hp : ps.length ≤ ki) (hki : ki < n0)
    (hv : ((N.drop n0).all fun x => (scope.names.lookup x).isNone) = true) (hd : [k1, k2, k3, k4].Nodup)
    (hbody : ∀ (cdv : Value) (A : Around) (outer : List Env) (s : Shared) (H : Hp) (E : XK), Room k (A.deeper (envOfC qual scope s.heap.objs.size fa cdv)) →
      PSs (cxOf CX0 P w K mg base N qual scope fa cdv A outer s H E) body (tSeq (fun E1 σ H1 => tAsg (tDisp [(tC (.str k1), tDNewK), (tC (.str k2), tDNewK), (tC (.str k3), tDNewK), (tC (.str k4), tDNewK)]) (gName ki)
        { E1 with nx := fun σ1 H1 => ∃ σ2, Ph (cxOf CX0 P w K mg base N qual scope fa cdv A outer s H E) σ1 σ2 ∧ E1.nx σ2 H1 } σ H1) (tDS K f))) :
    FnOk P w K mg base CX0 (k + 1) fa fd ps (spM K ps.length (runNest ps.length ki n0 k1 k2 k3 k4 f)) :=
  F.ok S (fun vs H Q E h => h.1) fun cdv A outer s H vs Q E hr h => by
    refine ⟨_, hbody cdv A outer s H E hr, ?_⟩
    simp only [List.nodup_cons, List.mem_cons, List.not_mem_nil, or_false, not_or, not_false_eq_true, and_true, List.nodup_nil] at hd
    refine nest_ok (X := cxOf CX0 P w K mg base N qual scope fa cdv A outer s H E) rfl hN hp hki (fun j y hj e v => ?_) hd.1.1 hd.1.2.1 hd.1.2.2 hd.2.1.1 hd.2.1.2 hd.2.2 h
    have hm : y ∈ N.drop n0 := by
      refine List.mem_of_getElem? (i := j - n0) ?_
      rw [List.getElem?_drop, Nat.add_sub_cancel' hj]
      exact e
    have z := List.all_eq_true.mp hv y hm
    have v : Vis scope y := v
    rcases v with v | v | v <;> (rw [v] at z; cases z)
end
end PL

namespace PL
open PySem PySem.Spec PyProof.Rows L2
/-- is_integer: slots 0 value -/
def b_is_integer : FS :=
  (sRet (cAnd (cOpn (opIsi "int") (cVar 0)) (cNotB (cOpn (opIsi "bool") (cVar 0)))))
def m_is_integer : Mir := runDef 1 1 b_is_integer
/-- is_whole: slots 0 value, 1 low, 2 high -/
def b_is_whole : FS :=
  (sRet (cAnd (cCall m_is_integer (aCons (cVar 0) aNil)) (cChain opLe opLe (cVar 1) (cVar 0) (cVar 2))))
def m_is_whole : Mir := runDef 3 3 b_is_whole
/-- is_tuple_of: slots 0 value, 1 low, 2 high -/
def b_is_tuple_of : FS :=
  (sRet (cAnd (cOpn (opIsi "tuple") (cVar 0)) (cChain opLe opLe (cVar 1) (cOpA fLen (aCons (cVar 0) aNil)) (cVar 2))))
def m_is_tuple_of : Mir := runDef 3 3 b_is_tuple_of
/-- is_falling: slots 0 things, 1 one, 2 other -/
def b_is_falling : FS :=
  (sRet (cOpA fAll (aCons (cLc [1, 2] (iZip (cVar 0) (cSl mk opSl (cVar 0) (oSo (cC (.int 1))) oNo)) (gT ((gN 1) :: ((gN 2) :: []))) tYes (cOp2 opGe (cVar 1) (cVar 2))) aNil)))
def m_is_falling : Mir := runDef 1 3 b_is_falling
/-- are_heights: slots 0 value, 1 least, 2 height -/
def b_are_heights : FS :=
  (sSeq (sIf (tOr (tNot (tTru' (cCall m_is_tuple_of (aCons (cVar 0) (aCons (cC (.int 0)) (aCons (cC (.int 300)) aNil)))))) (tNot (tTru' (cOpA fAll (aCons (cLc [2] (iE (cVar 0)) (gN 2) tYes (cCall m_is_whole (aCons (cVar 2) (aCons (cVar 1) (aCons (cC (.int 300)) aNil))))) aNil))))) (sRet (cC (.bool false))) sPass)
  (sRet (cOp2 opLe (cOpA fSum (aCons (cVar 0) aNil)) (cC (.int 300)))))
def m_are_heights : Mir := runDef 2 3 b_are_heights
/-- fits_piles: slots 0 value -/
def b_fits_piles : FS :=
  (sRet (cAnd (cCall m_are_heights (aCons (cVar 0) (aCons (cC (.int 1)) aNil))) (cCall m_is_falling (aCons (cVar 0) aNil))))
def m_fits_piles : Mir := runDef 1 1 b_fits_piles
/-- need_piles: slots 0 value -/
def b_need_piles : FS :=
  (sIf (tNot (tTru' (cCall m_fits_piles (aCons (cVar 0) aNil)))) sNever sPass)
def m_need_piles : Mir := runDef 1 1 b_need_piles
/-- turned_in: slots 0 piles, 1 column, 2 height -/
def b_turned_in : FS :=
  (sRet (cOpA fTuple (aCons (cLc [1] (iRg1 (cOpA fMax (aCons (cOp2n opAdd (cTup (aCons (cC (.int 0)) aNil)) (cVar 0)) aNil))) (gN 1) tYes (cOpA fLen (aCons (cLc [2] (iE (cVar 0)) (gN 2) (tBl (cOp2 opGt (cVar 2) (cVar 1))) (cVar 2)) aNil))) aNil)))
def m_turned_in : Mir := runDef 1 3 b_turned_in
/-- squares_in: slots 0 piles, 1 column, 2 row, 3 height -/
def b_squares_in : FS :=
  (sRet (cOpA fTuple (aCons (cLc2 [2, 3, 1] [1] (iEnum (cVar 0)) (gT ((gN 2) :: ((gN 3) :: []))) tYes (iRg1 (cVar 3)) (gN 1) tYes (cTup (aCons (cVar 2) (aCons (cVar 1) aNil)))) aNil)))
def m_squares_in : Mir := runDef 1 4 b_squares_in
/-- leg_in: slots 0 piles, 1 square, 2 height -/
def b_leg_in : FS :=
  (sRet (cOpA fLen (aCons (cLc [2] (iE (cSl mk opSl (cVar 0) (oSo (cOp2n opAdd (cOp2 opIx (cVar 1) (cC (.int 0))) (cC (.int 1)))) oNo)) (gN 2) (tBl (cOp2 opGt (cVar 2) (cOp2 opIx (cVar 1) (cC (.int 1))))) (cVar 2)) aNil)))
def m_leg_in : Mir := runDef 2 3 b_leg_in
/-- hook_rows: slots 0 piles, 1 columns, 2 found, 3 row, 4 height, 5 column -/
def b_hook_rows : FS :=
  (sSeq (sAsg 1 (cCall m_turned_in (aCons (cVar 0) aNil)))
  (sSeq (sNew 2 (cLst aNil))
  (sSeq (sFor (iEnum (cVar 0)) (gT ((gN 3) :: ((gN 4) :: []))) (sApp 2 (cLc [5] (iRg1 (cVar 4)) (gN 5) tYes (cOp2 opSub (cOp2n opAdd (cOp2 opSub (cOp2 opSub (cVar 4) (cVar 5)) (cC (.int 1))) (cOp2 opIx (cVar 1) (cVar 5))) (cVar 3)))))
  (sRet (cVar 2)))))
def m_hook_rows : Mir := runDef 1 6 b_hook_rows
/-- hooks_in: slots 0 piles, 1 row, 2 hook -/
def b_hooks_in : FS :=
  (sRet (cOpA fTuple (aCons (cOpAn fSortedR (aCons (cLc2 [1, 2] [2] (iE (cCall m_hook_rows (aCons (cVar 0) aNil))) (gN 1) tYes (iE (cVar 1)) (gN 2) tYes (cVar 2)) aNil)) aNil)))
def m_hooks_in : Mir := runDef 1 3 b_hooks_in
/-- laid: slots 0 heights, 1 height -/
def b_laid : FS :=
  (sRet (cOpA fTuple (aCons (cOpAn fSortedR (aCons (cLc [1] (iE (cVar 0)) (gN 1) (tBl (cOp2 opGt (cVar 1) (cC (.int 0)))) (cVar 1)) aNil)) aNil)))
def m_laid : Mir := runDef 1 2 b_laid
/-- turned: slots 0 piles -/
def b_turned : FS :=
  (sSeq (sExp (cCall m_need_piles (aCons (cVar 0) aNil)))
  (sRet (cCall m_turned_in (aCons (cVar 0) aNil))))
def m_turned : Mir := runDef 1 1 b_turned
/-- need_game: slots 0 game -/
def b_need_game : FS :=
  (sIf (tOr (tNot (tTru' (cOpn (opIsi "str") (cVar 0)))) (tBl (cInC true [.str (Str.ofString "heights"), .str (Str.ofString "rims"), .str (Str.ofString "edges"), .str (Str.ofString "lines")] (cVar 0)))) sNever sPass)
def m_need_game : Mir := runDef 1 1 b_need_game
/-- need_game_piles: slots 0 game, 1 piles -/
def b_need_game_piles : FS :=
  (sSeq (sExp (cCall m_need_game (aCons (cVar 0) aNil)))
  (sExp (cCall m_need_piles (aCons (cVar 1) aNil))))
def m_need_game_piles : Mir := runDef 2 2 b_need_game_piles
/-- without_rim: slots 0 piles, 1 square, 2 leg, 3 pushed, 4 row, 5 column, 6 height -/
def b_without_rim : FS :=
  (sSeq (sTgt (gT ((gN 4) :: ((gN 5) :: []))) (cVar 1))
  (sSeq (sAsg 2 (cCall m_leg_in (aCons (cVar 0) (aCons (cVar 1) aNil))))
  (sSeq (sAsg 3 (cOp2n opAdd (cLc [6] (iE (cSl mk opSl (cVar 0) (oSo (cOp2n opAdd (cVar 4) (cC (.int 1)))) (oSo (cOp2n opAdd (cOp2n opAdd (cVar 4) (cVar 2)) (cC (.int 1)))))) (gN 6) tYes (cOp2 opSub (cVar 6) (cC (.int 1)))) (cLst (aCons (cVar 5) aNil))))
  (sRet (cCall m_laid (aCons (cOp2n opAdd (cOp2n opAdd (cOpAn fList (aCons (cSl mk opSl (cVar 0) oNo (oSo (cVar 4))) aNil)) (cVar 3)) (cOpAn fList (aCons (cSl mk opSl (cVar 0) (oSo (cOp2n opAdd (cOp2n opAdd (cVar 4) (cVar 2)) (cC (.int 1)))) oNo) aNil))) aNil))))))
def m_without_rim : Mir := runDef 2 7 b_without_rim
/-- without_column: slots 0 piles, 1 column, 2 height -/
def b_without_column : FS :=
  (sRet (cCall m_laid (aCons (cLc [2] (iE (cVar 0)) (gN 2) tYes (cIf (tBl (cOp2 opGt (cVar 2) (cVar 1))) (cOp2 opSub (cVar 2) (cC (.int 1))) (cVar 2))) aNil)))
def m_without_column : Mir := runDef 2 3 b_without_column
/-- taken_from_heights: slots 0 piles, 1 found, 2 at, 3 height, 4 left -/
def b_taken_from_heights : FS :=
  (sSeq (sAsg 1 (cLst aNil))
  (sSeq (sFor (iEnum (cVar 0)) (gT ((gN 2) :: ((gN 3) :: []))) (sAsg 1 (cOp2n opAdd (cVar 1) (cLc [4] (iRg1 (cVar 3)) (gN 4) tYes (cCall m_laid (aCons (cOp2n opAdd (cOp2n opAdd (cSl mk opSl (cVar 0) oNo (oSo (cVar 2))) (cTup (aCons (cVar 4) aNil))) (cSl mk opSl (cVar 0) (oSo (cOp2n opAdd (cVar 2) (cC (.int 1)))) oNo)) aNil))))))
  (sRet (cVar 1))))
def m_taken_from_heights : Mir := runDef 1 5 b_taken_from_heights
/-- moves_in: slots 0 game, 1 piles, 2 found, 3 square, 4 at, 5 column -/
def b_moves_in : FS :=
  (sSeq (sIf (tBl (cOp2 opEq (cVar 1) (cTup aNil))) (sRet (cLst aNil)) sPass)
  (sSeq (sIf (tBl (cOp2 opEq (cVar 0) (cC (.str (Str.ofString "heights"))))) (sAsg 2 (cCall m_taken_from_heights (aCons (cVar 1) aNil))) (sIf (tBl (cOp2 opEq (cVar 0) (cC (.str (Str.ofString "rims"))))) (sAsg 2 (cLc [3] (iE (cCall m_squares_in (aCons (cVar 1) aNil))) (gN 3) tYes (cCall m_without_rim (aCons (cVar 1) (aCons (cVar 3) aNil))))) (sIf (tBl (cOp2 opEq (cVar 0) (cC (.str (Str.ofString "edges"))))) (sAsg 2 (cLst (aCons (cSl mk opSl (cVar 1) (oSo (cC (.int 1))) oNo) (aCons (cCall m_without_column (aCons (cVar 1) (aCons (cC (.int 0)) aNil))) aNil)))) (sSeq (sAsg 2 (cLc [4] (iRg1 (cOpA fLen (aCons (cVar 1) aNil))) (gN 4) tYes (cOp2n opAdd (cSl mk opSl (cVar 1) oNo (oSo (cVar 4))) (cSl mk opSl (cVar 1) (oSo (cOp2n opAdd (cVar 4) (cC (.int 1)))) oNo))))
  (sAsg 2 (cOp2n opAdd (cVar 2) (cLc [5] (iRg1 (cOp2 opIx (cVar 1) (cC (.int 0)))) (gN 5) tYes (cCall m_without_column (aCons (cVar 1) (aCons (cVar 5) aNil))))))))))
  (sRet (cSrtSet (cVar 2)))))
def m_moves_in : Mir := runDef 2 6 b_moves_in
/-- least_beside: slots 0 worths, 1 known, 2 found, 3 worth -/
def b_least_beside : FS :=
  (sSeq (sParL 1 2 (cDOf (cLc [3] (iE (cVar 0)) (gN 3) tYes (cTup (aCons (cVar 3) (aCons (cC (.bool true)) aNil))))) (cC (.int 0)))
  (sSeq (sWhile (tBl (cDIn false (cVar 2) 1)) (sAsg 2 (cOp2n opAdd (cVar 2) (cC (.int 1)))))
  (sRet (cVar 2))))
def m_least_beside : Mir := runDef 1 4 b_least_beside
/-- sum_by_figures: slots 0 numbers, 1 found, 2 number -/
def b_sum_by_figures : FS :=
  (sSeq (sAsg 1 (cC (.int 0)))
  (sSeq (sFor (iE (cVar 0)) (gN 2) (sAsg 1 (cOp2 opXor (cVar 1) (cVar 2))))
  (sRet (cVar 1))))
def m_sum_by_figures : Mir := runDef 1 3 b_sum_by_figures
/-- edges_worth: slots 0 piles, 1 wide, 2 below, 3 row, 4 own, 5 column -/
def b_edges_worth : FS :=
  (sSeq (sAsg 1 (cOpA fMax (aCons (cOp2n opAdd (cTup (aCons (cC (.int 0)) aNil)) (cVar 0)) aNil)))
  (sSeq (sAsg 2 (cOp2n opMul (cLst (aCons (cC (.int 0)) aNil)) (cOp2n opAdd (cVar 1) (cC (.int 1)))))
  (sSeq (sFor (iRgDn (cOp2 opSub (cOpA fLen (aCons (cVar 0) aNil)) (cC (.int 1))) (cOp opNeg (cC (.int 1)))) (gN 3) (sSeq (sNew 4 (cOp2n opMul (cLst (aCons (cC (.int 0)) aNil)) (cOp2n opAdd (cVar 1) (cC (.int 1)))))
  (sSeq (sFor (iRgDn (cOp2 opSub (cOp2 opIx (cVar 0) (cVar 3)) (cC (.int 1))) (cOp opNeg (cC (.int 1)))) (gN 5) (sSet 4 (cVar 5) (cCall m_least_beside (aCons (cLst (aCons (cOp2 opIx (cVar 2) (cVar 5)) (aCons (cOp2 opIx (cVar 4) (cOp2n opAdd (cVar 5) (cC (.int 1)))) aNil))) aNil))))
  (sFrz 4 (sAsg 2 (cVar 4))))))
  (sRet (cOp2 opIx (cVar 2) (cC (.int 0)))))))
def m_edges_worth : Mir := runDef 1 6 b_edges_worth
/-- lines_worth: slots 0 piles, 1 known, 2 later -/
def b_lines_worth (m_lines_worth : Mir) : FS :=
  (sSeq (sIf (tBl (cDIn true (cVar 0) 1)) (sDSet 1 (cVar 0) (cCall m_least_beside (aCons (cLc [2] (iE (cCall m_moves_in (aCons (cC (.str (Str.ofString "lines"))) (aCons (cVar 0) aNil)))) (gN 2) tYes (cCall m_lines_worth (aCons (cVar 2) (aCons (cVar 1) aNil)))) aNil))) sPass)
  (sRet (cDGet 1 (cVar 0))))
def r_lines_worth : Nat → Mir
  | 0 => fun _ => none
  | k + 1 => runDef 2 3 (b_lines_worth (r_lines_worth k))
def m_lines_worth : Mir := r_lines_worth 26
/-- worth_in_game: slots 0 game, 1 piles, 2 known, 3 hook -/
def b_worth_in_game : FS :=
  (sSeq (sIf (tBl (cOp2 opEq (cVar 0) (cC (.str (Str.ofString "heights"))))) (sRet (cCall m_sum_by_figures (aCons (cVar 1) aNil))) sPass)
  (sSeq (sIf (tBl (cOp2 opEq (cVar 0) (cC (.str (Str.ofString "rims"))))) (sRet (cCall m_sum_by_figures (aCons (cLc [3] (iE (cCall m_hooks_in (aCons (cVar 1) aNil))) (gN 3) tYes (cOp2 opXor (cVar 3) (cOp2 opSub (cVar 3) (cC (.int 1))))) aNil))) sPass)
  (sSeq (sIf (tBl (cOp2 opEq (cVar 0) (cC (.str (Str.ofString "edges"))))) (sRet (cCall m_edges_worth (aCons (cVar 1) aNil))) sPass)
  (sSeq (sIf (tBl (cOp2 opGt (cOpA fSum (aCons (cVar 1) aNil)) (cC (.int 24)))) sNever sPass)
  (sRet (cCall m_lines_worth (aCons (cVar 1) (aCons (cVar 2) aNil))))))))
def m_worth_in_game : Mir := runDef 3 4 b_worth_in_game
/-- game_worth: slots 0 game, 1 piles -/
def b_game_worth : FS :=
  (sSeq (sExp (cCall m_need_game_piles (aCons (cVar 0) (aCons (cVar 1) aNil))))
  (sRet (cCallD m_worth_in_game (aCons (cVar 0) (aCons (cVar 1) aNil)) cD0)))
def m_game_worth : Mir := runDef 2 2 b_game_worth
/-- is_won: slots 0 game, 1 piles -/
def b_is_won : FS :=
  (sSeq (sExp (cCall m_need_game_piles (aCons (cVar 0) (aCons (cVar 1) aNil))))
  (sRet (cOp2 opGt (cCallD m_worth_in_game (aCons (cVar 0) (aCons (cVar 1) aNil)) cD0) (cC (.int 0)))))
def m_is_won : Mir := runDef 2 2 b_is_won
/-- _law_cup: slots 0 script, 1 cell -/
def b__law_cup : FS :=
  (sSeq (sAsg 1 (cOpA fAbs (aCons (cOp2 opIx (cOp2n opAdd (cOpAn fList (aCons (cVar 0) aNil)) (cLst (aCons (cC (.int 0)) aNil))) (cC (.int 0))) aNil)))
  (sRet (cLst (aCons (cIf (tBl (cOp2 opGe (cVar 1) (cOp2 opPow (cC (.int 10)) (cC (.int 18))))) (cOp2 opFdiv (cVar 1) (cC (.int 73))) (cC (.int 0))) (aCons (cOp2n opAdd (cOp2 opMod (cOpA fInt (aCons (cOp2n opAdd (cOp2n opMul (cVar 1) (cC (.int 283))) (cC (.int 3907))) aNil)) (cC (.int 2077503167))) (cC (.int 167))) aNil)))))
def m__law_cup : Mir := runDef 1 2 b__law_cup
/-- _law_roll: slots 0 cup, 1 many, 2 deep, 3 found -/
def b__law_roll : FS :=
  (sSeq (sIf (tBl (cOp2 opGt (cOp2 opIx (cVar 0) (cC (.int 0))) (cC (.int 0)))) (sSeq (sAsg 3 (cOp2 opMod (cOpA fInt (aCons (cOp2 opIx (cVar 0) (cC (.int 0))) aNil)) (cVar 1)))
  (sSeq (sSet 0 (cC (.int 0)) (cOp2 opFdiv (cOp2 opIx (cVar 0) (cC (.int 0))) (cVar 1)))
  (sRet (cVar 3)))) sPass)
  (sSeq (sSet 0 (cC (.int 1)) (cOp2 opMod (cOpA fInt (aCons (cOp2n opAdd (cOp2n opMul (cOp2 opIx (cVar 0) (cC (.int 1))) (cC (.int 31051))) (cC (.int 7993))) aNil)) (cC (.int 2147483543))))
  (sSeq (sAsg 2 (cOp2 opMod (cOpA fInt (aCons (cOp2n opMul (cOp2 opIx (cVar 0) (cC (.int 1))) (cOp2n opAdd (cOp2 opIx (cVar 0) (cC (.int 1))) (cC (.int 229)))) aNil)) (cC (.int 2147483587))))
  (sRet (cOp2 opMod (cOpA fInt (aCons (cOp2 opFdiv (cVar 2) (cC (.int 821))) aNil)) (cVar 1))))))
def m__law_roll : Mir := runDef 2 4 b__law_roll
/-- _law_sort: slots 0 value -/
def b__law_sort : FS :=
  (sSeq (sIf (tOr (tBl (cOp2 opIs (cVar 0) (cC .none))) (tTru' (cOpn (opIsi "bool") (cVar 0)))) (sRet (cIf (tBl (cOp2 opIs (cVar 0) (cC .none))) (cC (.int 0)) (cC (.int 1)))) sPass)
  (sSeq (sIf (tOr (tTru' (cOpn (opIsi "int") (cVar 0))) (tTru' (cOpn (opIsi "str") (cVar 0)))) (sRet (cIf (tTru' (cOpn (opIsi "int") (cVar 0))) (cC (.int 2)) (cC (.int 3)))) sPass)
  (sRet (cIf (tTru' (cOpn (opIsi "tuple") (cVar 0))) (cC (.int 4)) (cIf (tTru' (cOpn (opIsi "list") (cVar 0))) (cC (.int 5)) (cC (.int 6)))))))
def m__law_sort : Mir := runDef 1 1 b__law_sort
/-- _law_like: slots 0 one, 1 other, 2 sort, 3 first, 4 second -/
def b__law_like (m__law_like : Mir) : FS :=
  (sSeq (sAsg 2 (cCall m__law_sort (aCons (cVar 1) aNil)))
  (sSeq (sIf (tOr (tBl (cOp2 opNe (cCall m__law_sort (aCons (cVar 0) aNil)) (cVar 2))) (tBl (cOp2 opEq (cVar 2) (cC (.int 6))))) (sRet (cC (.bool false))) sPass)
  (sSeq (sIf (tBl (cOp2 opIn (cVar 2) (cTup (aCons (cC (.int 4)) (aCons (cC (.int 5)) aNil))))) (sRet (cAnd (cOp2 opEq (cOpA fLen (aCons (cVar 0) aNil)) (cOpA fLen (aCons (cVar 1) aNil))) (cOp2 opEq (cLc [3, 4] (iZip (cVar 0) (cVar 1)) (gT ((gN 3) :: ((gN 4) :: []))) (tNot (tTru' (cCall m__law_like (aCons (cVar 3) (aCons (cVar 4) aNil))))) (cC (.int 1))) (cLst aNil)))) sPass)
  (sRet (cOp2 opEq (cVar 0) (cVar 1))))))
def r__law_like : Nat → Mir
  | 0 => fun _ => none
  | k + 1 => runDef 2 5 (b__law_like (r__law_like k))
def m__law_like : Mir := r__law_like 8
/-- _law_piles: slots 0 cup, 1 most, 2 top, 3 left, 4 found, 5 height -/
def b__law_piles : FS :=
  (sSeq (sPar2 false true 3 4 (cCall m__law_roll (aCons (cVar 0) (aCons (cOp2n opAdd (cVar 1) (cC (.int 1))) aNil))) (cLst aNil))
  (sSeq (sAsg 2 (cIf (tBl (cOp2 opEq (cCall m__law_roll (aCons (cVar 0) (aCons (cC (.int 2)) aNil))) (cC (.int 0)))) (cVar 3) (cOpA fMin (aCons (cVar 3) (aCons (cOp2n opAdd (cC (.int 1)) (cCall m__law_roll (aCons (cVar 0) (aCons (cC (.int 6)) aNil)))) aNil)))))
  (sSeq (sWhile (tBl (cOp2 opGt (cVar 3) (cC (.int 0)))) (sSeq (sAsg 5 (cOp2n opAdd (cC (.int 1)) (cCall m__law_roll (aCons (cVar 0) (aCons (cOpA fMin (aCons (cVar 3) (aCons (cOpA fMax (aCons (cC (.int 1)) (aCons (cVar 2) aNil))) aNil))) aNil)))))
  (sSeq (sApp 4 (cVar 5))
  (sAsg 3 (cOp2 opSub (cVar 3) (cVar 5))))))
  (sFrz 4 (sRet (cOpA fTuple (aCons (cOpn opRev (cOpAn fSortG (aCons (cVar 4) aNil))) aNil)))))))
def m__law_piles : Mir := runDef 2 6 b__law_piles
/-- _law_ways: slots 0 stones, 1 top, 2 found, 3 height, 4 rest -/
def b__law_ways (m__law_ways : Mir) : FS :=
  (sSeq (sIf (tBl (cOp2 opEq (cVar 0) (cC (.int 0)))) (sRet (cLst (aCons (cTup aNil) aNil))) sPass)
  (sSeq (sAsg 2 (cLst aNil))
  (sSeq (sFor (iRgDn (cOpA fMin (aCons (cVar 0) (aCons (cVar 1) aNil))) (cC (.int 0))) (gN 3) (sAsg 2 (cOp2n opAdd (cVar 2) (cLc [4] (iE (cCall m__law_ways (aCons (cOp2 opSub (cVar 0) (cVar 3)) (aCons (cVar 3) aNil)))) (gN 4) tYes (cOp2n opAdd (cTup (aCons (cVar 3) aNil)) (cVar 4))))))
  (sRet (cVar 2)))))
def r__law_ways : Nat → Mir
  | 0 => fun _ => none
  | k + 1 => runDef 2 5 (b__law_ways (r__law_ways k))
def m__law_ways : Mir := r__law_ways 8
/-- _law_hook: slots 0 piles, 1 row, 2 column, 3 height -/
def b__law_hook : FS :=
  (sRet (cOp2n opAdd (cOp2 opSub (cOp2 opIx (cVar 0) (cVar 1)) (cVar 2)) (cOpA fLen (aCons (cLc [3] (iE (cSl mk opSl (cVar 0) (oSo (cOp2n opAdd (cVar 1) (cC (.int 1)))) oNo)) (gN 3) (tBl (cOp2 opGt (cVar 3) (cVar 2))) (cVar 3)) aNil))))
def m__law_hook : Mir := runDef 3 4 b__law_hook
/-- _law_laid: slots 0 heights, 1 height -/
def b__law_laid : FS :=
  (sRet (cOpA fTuple (aCons (cOpn opRev (cOpAn fSortG (aCons (cLc [1] (iE (cVar 0)) (gN 1) (tBl (cOp2 opGt (cVar 1) (cC (.int 0)))) (cVar 1)) aNil))) aNil)))
def m__law_laid : Mir := runDef 1 2 b__law_laid
/-- _law_without_rim: slots 0 piles, 1 row, 2 column, 3 rows, 4 at, 5 place, 6 near -/
def b__law_without_rim : FS :=
  (sSeq (sDNew 3)
  (sSeq (sFor (iRg1 (cOpA fLen (aCons (cVar 0) aNil))) (gN 4) (sFor (iRg1 (cOp2 opIx (cVar 0) (cVar 4))) (gN 5) (sSeq (sIf (tOr (tAnd (tBl (cOp2 opEq (cVar 4) (cVar 1))) (tBl (cOp2 opGe (cVar 5) (cVar 2)))) (tAnd (tBl (cOp2 opEq (cVar 5) (cVar 2))) (tBl (cOp2 opGe (cVar 4) (cVar 1))))) sCont sPass)
  (sSeq (sAsg 6 (cIf (tAnd (tBl (cOp2 opGt (cVar 4) (cVar 1))) (tBl (cOp2 opGt (cVar 5) (cVar 2)))) (cOp2 opSub (cVar 4) (cC (.int 1))) (cVar 4)))
  (sDSet 3 (cVar 6) (cOp2n opAdd (cDGet2 3 (cVar 6) (cC (.int 0))) (cC (.int 1))))))))
  (sRet (cCall m__law_laid (aCons (cLc [4] (iE (cDSrt 3)) (gN 4) tYes (cDGet 3 (cVar 4))) aNil)))))
def m__law_without_rim : Mir := runDef 3 7 b__law_without_rim
/-- _law_moves: slots 0 game, 1 piles, 2 found, 3 at, 4 height, 5 column, 6 own -/
def b__law_moves : FS :=
  (sSeq (sDNew 2)
  (sSeq (sFor (iEnum (cVar 1)) (gT ((gN 3) :: ((gN 4) :: []))) (sSeq (sFor (iRg1 (cVar 4)) (gN 5) (sSeq (sIf (tBl (cOp2 opEq (cVar 0) (cC (.str (Str.ofString "heights"))))) (sDSet 2 (cCall m__law_laid (aCons (cOp2n opAdd (cOp2n opAdd (cOpAn fList (aCons (cSl mk opSl (cVar 1) oNo (oSo (cVar 3))) aNil)) (cLst (aCons (cVar 5) aNil))) (cOpAn fList (aCons (cSl mk opSl (cVar 1) (oSo (cOp2n opAdd (cVar 3) (cC (.int 1)))) oNo) aNil))) aNil)) (cC (.bool true))) sPass)
  (sSeq (sIf (tBl (cOp2 opEq (cVar 0) (cC (.str (Str.ofString "rims"))))) (sDSet 2 (cCall m__law_without_rim (aCons (cVar 1) (aCons (cVar 3) (aCons (cVar 5) aNil)))) (cC (.bool true))) sPass)
  (sIf (tAnd (tBl (cOp2 opEq (cVar 0) (cC (.str (Str.ofString "lines"))))) (tBl (cOp2 opEq (cVar 3) (cC (.int 0))))) (sDSet 2 (cCall m__law_laid (aCons (cLc [6] (iE (cVar 1)) (gN 6) tYes (cOp2 opSub (cVar 6) (cIf (tBl (cOp2 opGt (cVar 6) (cVar 5))) (cC (.int 1)) (cC (.int 0))))) aNil)) (cC (.bool true))) sPass))))
  (sIf (tOr (tBl (cOp2 opEq (cVar 0) (cC (.str (Str.ofString "lines"))))) (tAnd (tBl (cOp2 opEq (cVar 0) (cC (.str (Str.ofString "edges"))))) (tBl (cOp2 opEq (cVar 3) (cC (.int 0)))))) (sDSet 2 (cOp2n opAdd (cSl mk opSl (cVar 1) oNo (oSo (cVar 3))) (cSl mk opSl (cVar 1) (oSo (cOp2n opAdd (cVar 3) (cC (.int 1)))) oNo)) (cC (.bool true))) sPass)))
  (sSeq (sIf (tAnd (tBl (cOp2 opEq (cVar 0) (cC (.str (Str.ofString "edges"))))) (tBl (cOp2 opNe (cVar 1) (cTup aNil)))) (sDSet 2 (cCall m__law_laid (aCons (cLc [6] (iE (cVar 1)) (gN 6) tYes (cOp2 opSub (cVar 6) (cC (.int 1)))) aNil)) (cC (.bool true))) sPass)
  (sRet (cOpA fTuple (aCons (cDSrt 2) aNil))))))
def m__law_moves : Mir := runDef 2 7 b__law_moves
/-- _law_figures: slots 0 numbers, 1 whole, 2 power, 3 left, 4 odd, 5 one -/
def b__law_figures : FS :=
  (sSeq (sParA [1, 2, 3] (aCons (cC (.int 0)) (aCons (cC (.int 1)) (aCons (cOpAn fList (aCons (cVar 0) aNil)) aNil))))
  (sSeq (sWhile (tBl (cOp2 opNe (cLc [5] (iE (cVar 3)) (gN 5) (tBl (cOp2 opGt (cVar 5) (cC (.int 0)))) (cVar 5)) (cLst aNil))) (sSeq (sAsg 4 (cOpA fLen (aCons (cLc [5] (iE (cVar 3)) (gN 5) (tBl (cOp2 opEq (cOp2 opMod (cOpA fInt (aCons (cVar 5) aNil)) (cC (.int 2))) (cC (.int 1)))) (cVar 5)) aNil)))
  (sParA [1, 2, 3] (aCons (cOp2n opAdd (cVar 1) (cOp2n opMul (cVar 2) (cOp2 opMod (cOpA fInt (aCons (cVar 4) aNil)) (cC (.int 2))))) (aCons (cOp2n opMul (cC (.int 2)) (cVar 2)) (aCons (cLc [5] (iE (cVar 3)) (gN 5) tYes (cOpA fInt (aCons (cOp2 opFdiv (cVar 5) (cC (.int 2))) aNil))) aNil))))))
  (sRet (cVar 1))))
def m__law_figures : Mir := runDef 1 6 b__law_figures
/-- _law_worth: slots 0 game, 1 piles, 2 known, 3 worths, 4 later, 5 number -/
def b__law_worth (m__law_worth : Mir) : FS :=
  (sSeq (sIf (tBl (cDIn true (cVar 1) 2)) (sSeq (sAsg 3 (cLc [4] (iE (cCall m__law_moves (aCons (cVar 0) (aCons (cVar 1) aNil)))) (gN 4) tYes (cCall m__law_worth (aCons (cVar 0) (aCons (cVar 4) (aCons (cVar 2) aNil))))))
  (sDSet 2 (cVar 1) (cOp2 opIx (cLc [5] (iRg1 (cOp2n opAdd (cOpA fLen (aCons (cVar 3) aNil)) (cC (.int 1)))) (gN 5) (tBl (cOp2 opNotIn (cVar 5) (cVar 3))) (cVar 5)) (cC (.int 0))))) sPass)
  (sRet (cDGet 2 (cVar 1))))
def r__law_worth : Nat → Mir
  | 0 => fun _ => none
  | k + 1 => runDef 3 6 (b__law_worth (r__law_worth k))
def m__law_worth : Mir := r__law_worth 20
/-- _law_edges: slots 0 piles, 1 known, 2 row, 3 column, 4 beside, 5 number -/
def b__law_edges : FS :=
  (sSeq (sDNew 1)
  (sSeq (sFor (iRgDn (cOpA fLen (aCons (cVar 0) aNil)) (cOp opNeg (cC (.int 1)))) (gN 2) (sFor (iRgDn (cOpA fMax (aCons (cOp2n opAdd (cTup (aCons (cC (.int 0)) aNil)) (cVar 0)) aNil)) (cOp opNeg (cC (.int 1)))) (gN 3) (sIf (tOr (tBl (cOp2 opEq (cVar 2) (cOpA fLen (aCons (cVar 0) aNil)))) (tBl (cOp2 opGe (cVar 3) (cOp2 opIx (cVar 0) (cVar 2))))) (sDSet 1 (cTup (aCons (cVar 2) (aCons (cVar 3) aNil))) (cC (.int 0))) (sSeq (sAsg 4 (cLst (aCons (cDGet 1 (cTup (aCons (cOp2n opAdd (cVar 2) (cC (.int 1))) (aCons (cVar 3) aNil)))) (aCons (cDGet 1 (cTup (aCons (cVar 2) (aCons (cOp2n opAdd (cVar 3) (cC (.int 1))) aNil)))) aNil))))
  (sDSet 1 (cTup (aCons (cVar 2) (aCons (cVar 3) aNil))) (cOp2 opIx (cLc [5] (iRg1 (cC (.int 3))) (gN 5) (tBl (cOp2 opNotIn (cVar 5) (cVar 4))) (cVar 5)) (cC (.int 0))))))))
  (sRet (cDGet 1 (cTup (aCons (cC (.int 0)) (aCons (cC (.int 0)) aNil)))))))
def m__law_edges : Mir := runDef 1 6 b__law_edges
/-- _law_right: slots 0 cup, 1 piles, 2 told, 3 halves, 4 row, 5 other, 6 column, 7 hook, 8 power -/
def b__law_right : FS :=
  (sSeq (sAsg 2 (cLst (aCons (cCall m_game_worth (aCons (cC (.str (Str.ofString "heights"))) (aCons (cVar 1) aNil))) (aCons (cCall m_game_worth (aCons (cC (.str (Str.ofString "rims"))) (aCons (cVar 1) aNil))) (aCons (cCall m_game_worth (aCons (cC (.str (Str.ofString "edges"))) (aCons (cVar 1) aNil))) aNil)))))
  (sSeq (sNew 3 (cLst aNil))
  (sSeq (sFor (iRg1 (cOpA fLen (aCons (cVar 1) aNil))) (gN 4) (sFor (iRg1 (cOp2 opIx (cVar 1) (cVar 4))) (gN 6) (sSeq (sParA [7, 8] (aCons (cCall m__law_hook (aCons (cVar 1) (aCons (cVar 4) (aCons (cVar 6) aNil)))) (aCons (cC (.int 2)) aNil)))
  (sSeq (sWhile (tBl (cOp2 opEq (cOp2 opMod (cOpA fInt (aCons (cVar 7) aNil)) (cVar 8)) (cC (.int 0)))) (sAsg 8 (cOp2n opMul (cC (.int 2)) (cVar 8))))
  (sApp 3 (cOp2 opSub (cVar 8) (cC (.int 1))))))))
  (sFrz 3 (sSeq (sIf (tNot (tTru' (cCall m__law_like (aCons (cVar 2) (aCons (cLst (aCons (cCall m__law_figures (aCons (cVar 1) aNil)) (aCons (cCall m__law_figures (aCons (cVar 3) aNil)) (aCons (cCall m__law_edges (aCons (cVar 1) aNil)) aNil)))) aNil))))) (sRet (cC (.bool false))) sPass)
  (sSeq (sAsg 5 (cCall m_turned (aCons (cVar 1) aNil)))
  (sRet (cCall m__law_like (aCons (cLst (aCons (cCall m_game_worth (aCons (cC (.str (Str.ofString "rims"))) (aCons (cVar 5) aNil))) (aCons (cCall m_game_worth (aCons (cC (.str (Str.ofString "edges"))) (aCons (cVar 5) aNil))) (aCons (cCall m_is_won (aCons (cC (.str (Str.ofString "heights"))) (aCons (cVar 1) aNil))) aNil)))) (aCons (cLst (aCons (cOp2 opIx (cVar 2) (cC (.int 1))) (aCons (cOp2 opIx (cVar 2) (cC (.int 2))) (aCons (cOp2 opNe (cOp2 opIx (cVar 2) (cC (.int 0))) (cC (.int 0))) aNil)))) aNil))))))))))
def m__law_right : Mir := runDef 2 9 b__law_right
/-- _law_all_right: slots 0 cup, 1 stones, 2 known, 3 piles, 4 game, 5 due, 6 0a, 7 0b, 8 0c, 9 0d -/
def b__law_all_right : FS :=
  (sSeq (sFor (iE (cCall m__law_ways (aCons (cVar 1) (aCons (cVar 1) aNil)))) (gN 3) (sSeq (sFor (iE (cTup (aCons (cC (.str (Str.ofString "heights"))) (aCons (cC (.str (Str.ofString "rims"))) (aCons (cC (.str (Str.ofString "edges"))) (aCons (cC (.str (Str.ofString "lines"))) aNil)))))) (gN 4) (sSeq (sAsg 5 (cCall m__law_worth (aCons (cVar 4) (aCons (cVar 3) (aCons (cNst 2 (cVar 4)) aNil)))))
  (sIf (tNot (tTru' (cCall m__law_like (aCons (cLst (aCons (cCall m_game_worth (aCons (cVar 4) (aCons (cVar 3) aNil))) (aCons (cCall m_is_won (aCons (cVar 4) (aCons (cVar 3) aNil))) aNil))) (aCons (cLst (aCons (cVar 5) (aCons (cOp2 opNe (cVar 5) (cC (.int 0))) aNil))) aNil))))) (sRet (cC (.bool false))) sPass)))
  (sIf (tBl (cOp2 opNe (cCall m_game_worth (aCons (cC (.str (Str.ofString "lines"))) (aCons (cCall m_turned (aCons (cVar 3) aNil)) aNil))) (cCall m_game_worth (aCons (cC (.str (Str.ofString "lines"))) (aCons (cVar 3) aNil))))) (sRet (cC (.bool false))) sPass)))
  (sRet (cC (.bool true))))
def m__law_all_right : Mir := runNest 2 2 6 (Str.ofString "heights") (Str.ofString "rims") (Str.ofString "edges") (Str.ofString "lines") b__law_all_right
/-- _law_lines_right: slots 0 cup, 1 piles -/
def b__law_lines_right : FS :=
  (sRet (cCall m__law_like (aCons (cLst (aCons (cCall m_game_worth (aCons (cC (.str (Str.ofString "lines"))) (aCons (cVar 1) aNil))) (aCons (cCall m_game_worth (aCons (cC (.str (Str.ofString "lines"))) (aCons (cCall m_turned (aCons (cVar 1) aNil)) aNil))) aNil))) (aCons (cOp2n opMul (cLst (aCons (cCallD m__law_worth (aCons (cC (.str (Str.ofString "lines"))) (aCons (cVar 1) aNil)) cD0) aNil)) (cC (.int 2))) aNil))))
def m__law_lines_right : Mir := runDef 2 2 b__law_lines_right
/-- law: slots 0 script, 1 cup, 2 one, 3 told, 4 most, 5 piles, 6 stones, 7 row, 8 column, 9 due -/
def b_law : FS :=
  (sSeq (sNew 1 (cCall m__law_cup (aCons (cVar 0) aNil)))
  (sSeq (sAsg 2 (cTup (aCons (cC (.int 3)) (aCons (cC (.int 2)) aNil))))
  (sSeq (sAsg 3 (cLst (aCons (cCall m_game_worth (aCons (cC (.str (Str.ofString "heights"))) (aCons (cVar 2) aNil))) (aCons (cCall m_game_worth (aCons (cC (.str (Str.ofString "rims"))) (aCons (cVar 2) aNil))) (aCons (cCall m_game_worth (aCons (cC (.str (Str.ofString "edges"))) (aCons (cVar 2) aNil))) (aCons (cCall m_game_worth (aCons (cC (.str (Str.ofString "lines"))) (aCons (cVar 2) aNil))) (aCons (cCall m_is_won (aCons (cC (.str (Str.ofString "rims"))) (aCons (cTup (aCons (cC (.int 2)) (aCons (cC (.int 1)) aNil))) aNil))) aNil)))))))
  (sSeq (sIf (tNot (tTru' (cCall m__law_like (aCons (cOp2n opAdd (cVar 3) (cLst (aCons (cCall m_game_worth (aCons (cC (.str (Str.ofString "rims"))) (aCons (cTup (aCons (cC (.int 2)) (aCons (cC (.int 2)) aNil))) aNil))) aNil))) (aCons (cLst (aCons (cC (.int 1)) (aCons (cC (.int 5)) (aCons (cC (.int 1)) (aCons (cC (.int 3)) (aCons (cC (.bool true)) (aCons (cC (.int 0)) aNil))))))) aNil))))) (sRet (cC (.bool false))) sPass)
  (sSeq (sFor (iE (cTup (aCons (cC (.int 10)) (aCons (cC (.int 60)) (aCons (cC (.int 300)) aNil))))) (gN 4) (sIf (tNot (tTru' (cCall m__law_right (aCons (cVar 1) (aCons (cCall m__law_piles (aCons (cVar 1) (aCons (cVar 4) aNil))) aNil))))) (sRet (cC (.bool false))) sPass))
  (sSeq (sIf (tOr (tNot (tTru' (cCall m__law_all_right (aCons (cVar 1) (aCons (cCall m__law_roll (aCons (cVar 1) (aCons (cC (.int 8)) aNil))) aNil))))) (tNot (tTru' (cCall m__law_lines_right (aCons (cVar 1) (aCons (cCall m__law_piles (aCons (cVar 1) (aCons (cC (.int 12)) aNil))) aNil)))))) (sRet (cC (.bool false))) sPass)
  (sSeq (sAsg 5 (cCall m__law_piles (aCons (cVar 1) (aCons (cC (.int 18)) aNil))))
  (sSeq (sIf (tAnd (tBl (cOp2 opEq (cCall m__law_roll (aCons (cVar 1) (aCons (cC (.int 4)) aNil))) (cC (.int 0)))) (tNot (tTru' (cCall m__law_lines_right (aCons (cVar 1) (aCons (cVar 5) aNil)))))) (sRet (cC (.bool false))) sPass)
  (sSeq (sAsg 6 (cOp2n opAdd (cC (.int 1)) (cCall m__law_roll (aCons (cVar 1) (aCons (cC (.int 24)) aNil)))))
  (sSeq (sParA [7, 8, 9] (aCons (cTup (aCons (cVar 6) aNil)) (aCons (cOp2n opMul (cTup (aCons (cC (.int 1)) aNil)) (cVar 6)) (aCons (cIf (tBl (cOp2 opEq (cOp2 opMod (cOpA fInt (aCons (cVar 6) aNil)) (cC (.int 2))) (cC (.int 1)))) (cC (.int 1)) (cC (.int 2))) aNil))))
  (sSeq (sAsg 3 (cLst (aCons (cCall m_game_worth (aCons (cC (.str (Str.ofString "heights"))) (aCons (cVar 7) aNil))) (aCons (cCall m_game_worth (aCons (cC (.str (Str.ofString "rims"))) (aCons (cVar 7) aNil))) (aCons (cCall m_game_worth (aCons (cC (.str (Str.ofString "rims"))) (aCons (cVar 8) aNil))) (aCons (cCall m_game_worth (aCons (cC (.str (Str.ofString "edges"))) (aCons (cVar 7) aNil))) (aCons (cCall m_game_worth (aCons (cC (.str (Str.ofString "lines"))) (aCons (cVar 8) aNil))) aNil)))))))
  (sRet (cCall m__law_like (aCons (cOp2n opAdd (cVar 3) (cLst (aCons (cCall m_game_worth (aCons (cC (.str (Str.ofString "heights"))) (aCons (cVar 8) aNil))) (aCons (cCall m_game_worth (aCons (cC (.str (Str.ofString "rims"))) (aCons (cTup aNil) aNil))) aNil)))) (aCons (cLst (aCons (cVar 6) (aCons (cVar 6) (aCons (cVar 6) (aCons (cVar 9) (aCons (cVar 9) (aCons (cOp2 opMod (cOpA fInt (aCons (cVar 6) aNil)) (cC (.int 2))) (aCons (cC (.int 0)) aNil)))))))) aNil)))))))))))))))
def m_law : Mir := runDef 1 10 b_law
end PL

namespace PL
open PySem PySem.Spec PyProof.Rows L2
theorem e_is_integer (d : D) : m_is_integer [.v d] = some (.pu (.bool (isiD "int" d && !isiD "bool" d)), []) := by
  simp [m_is_integer, runDef, b_is_integer, sRet, cAnd, cOpn, opIsi, cVar, arS, cNotB, outsOf, retV]
  cases isiD "int" d <;> cases isiD "bool" d <;> simp [outsOf, retV]
def wholeB (lo hi : Int) : D → Bool
  | .int i => decide (lo ≤ i) && decide (i ≤ hi)
  | _ => false
theorem e_is_whole (d : D) (lo hi : Int) : m_is_whole [.v d, .v (.int lo), .v (.int hi)] = some (.pu (.bool (wholeB lo hi d)), []) := by
  cases d <;> simp [m_is_whole, runDef, b_is_whole, sRet, cAnd, cCall, aCons, toArs, toAr, slotsOf, wb, e_is_integer, cVar, arS, outsOf, retV, isiD, tyName, cChain, opLe, onInts, wholeB]
  split <;> simp_all [outsOf, retV]
  omega
theorem e_is_tuple_of (ds : List D) (lo hi : Int) : m_is_tuple_of [.v (.tuple ds), .v (.int lo), .v (.int hi)] = some (.pu (.bool (decide (lo ≤ ds.length) && decide ((ds.length : Int) ≤ hi))), []) := by
  simp [m_is_tuple_of, runDef, b_is_tuple_of, sRet, cAnd, aCons, cVar, arS, outsOf, retV, cChain, opLe, onInts, cOpn, opIsi, isiD, tyName, cOpA, conts, fLen, on1]
  split <;> simp_all [outsOf, retV]
  omega
/-- each at least the next -/
def fallI : List Int → Bool
  | a :: b :: l => decide (b ≤ a) && fallI (b :: l)
  | _ => true
theorem boolsOf_maps {α : Type} (f : α → Bool) : ∀ l : List α, boolsOf (l.map fun x => .bool (f x)) = some (l.map f)
  | [] => rfl
  | a :: l => by
    show (boolsOf (l.map fun x => .bool (f x))).bind _ = _
    rw [boolsOf_maps f l]; rfl
theorem sIx_one (n : Nat) : HT.sIx n 0 (some 1) = min 1 n := HT.sIx_nat n 0 1
theorem cut_tail (ds : List D) : cutD ds (some 1) none = ds.drop 1 := by
  unfold cutD
  rw [sIx_one, HT.sIx_none]
  cases ds with
  | nil => rfl
  | cons a l =>
    have : min 1 (a :: l).length = 1 := by simp
    rw [this]
    simp
theorem filter_yes {α : Type} (l : List α) : l.filter (fun _ => true) = l := by simp
theorem zip_fall : ∀ ns : List Int, ((ns.zip (ns.drop 1)).map fun p => decide (p.2 ≤ p.1)).all id = fallI ns
  | [] => rfl
  | [a] => rfl
  | a :: b :: l => by
    have ih := zip_fall (b :: l)
    simp only [List.drop_succ_cons, List.drop_zero, List.zip_cons_cons, List.map_cons, List.all_cons, id, fallI] at ih ⊢
    rw [← ih]
theorem zipD_ints (ns ms : List Int) : zipD (ns.map .int) (ms.map .int) = (ns.zip ms).map fun p => .tuple [.int p.1, .int p.2] := by
  unfold zipD
  rw [List.zip_map, List.map_map]
  rfl
theorem e_is_falling (ns : List Int) (hz : ns.length ≤ 1000) : m_is_falling [.v (.tuple (ns.map .int))] = some (.pu (.bool (fallI ns)), []) := by
  have hd : (ns.map (PyData.int)).drop 1 = (ns.drop 1).map .int := by rw [List.map_drop]
  have h := cLc_eq (vs := [1, 2]) (it := iZip (cVar 0) (cSl mk opSl (cVar 0) (oSo (cC (.int 1))) oNo)) (g := gT ((gN 1) :: ((gN 2) :: []))) (t := tYes) (f := cOp2 opGe (cVar 1) (cVar 2))
    (ρ := [.pu (.tuple (ns.map .int)), .non, .non]) (ds := zipD (ns.map .int) ((ns.drop 1).map .int))
    (fun x => match x with | .tuple [a, b] => [.pu (.tuple (ns.map .int)), .pu a, .pu b] | _ => []) (fun _ => true) (fun x => match x with | .tuple [.int a, .int b] => .bool (decide (b ≤ a)) | _ => .none)
    (by simp [iZip, cVar, cSl, oSo, opSl, cut_tail, hd]) rfl (fun x hx => by
      rw [zipD_ints] at hx
      obtain ⟨⟨a, b⟩, _, rfl⟩ := List.mem_map.mp hx
      simp [gT, gAll, gN, setS, wipeR, cOp2, cVar, opGe, onInts]) (by
      simp [zipD]
      have : lineN = 16777216 := rfl
      omega)
  have hm : (zipD (ns.map .int) ((ns.drop 1).map .int)).map (fun x => match x with | .tuple [.int a, .int b] => PyData.bool (decide (b ≤ a)) | _ => .none) = ((ns.zip (ns.drop 1)).map fun p => PyData.bool (decide (p.2 ≤ p.1))) := by
    rw [zipD_ints, List.map_map]
    rfl
  rw [filter_yes, hm] at h
  simp [m_is_falling, runDef, b_is_falling, sRet, cOpA, aCons, arS, outsOf, retV, List.replicate, h, conts, fAll, on1, boolsOf_maps]
  have z := zip_fall ns
  simp at z
  exact z

theorem line_le {n : Nat} (h : n ≤ 1000000) : n ≤ lineN := by
  have : lineN = 16777216 := rfl
  omega
def heightsB (least : Int) (ns : List Int) : Bool := (decide (ns.length ≤ 300) && ns.all fun n => decide (least ≤ n) && decide (n ≤ 300)) && decide (ns.sum ≤ 300)
theorem e_are_heights (ns : List Int) (hz : ns.length ≤ 1000) : m_are_heights [.v (.tuple (ns.map .int)), .v (.int 1)] = some (.pu (.bool (heightsB 1 ns)), []) := by
  have h := cLc_eq (vs := [2]) (it := iE (cVar 0)) (g := gN 2) (t := tYes) (f := cCall m_is_whole (aCons (cVar 2) (aCons (cVar 1) (aCons (cC (.int 300)) aNil))))
    (ρ := [.pu (.tuple (ns.map .int)), .pu (.int 1), .non]) (ds := ns.map .int)
    (fun x => [.pu (.tuple (ns.map .int)), .pu (.int 1), .pu x]) (fun _ => true) (fun x => .bool (wholeB 1 300 x))
    (by simp [iE, cVar, itemsOf]) rfl (fun x hx => by
      simp [gN, setS, wipeR, cCall, aCons, toArs, toAr, slotsOf, wb, cVar, e_is_whole]) (line_le (by simp; omega))
  have hm : (ns.map PyData.int).map (fun x => PyData.bool (wholeB 1 300 x)) = ns.map fun n => PyData.bool (decide (1 ≤ n) && decide (n ≤ 300)) := by
    rw [List.map_map]; rfl
  rw [filter_yes, hm] at h
  by_cases hl : ns.length ≤ 300
  · have hl2 : ¬ 300 < (ns.length : Int) := by omega
    have hl3 : (ns.length : Int) ≤ 300 := by omega
    by_cases ha : (ns.all fun n => decide (1 ≤ n) && decide (n ≤ 300)) = true
    · have ha2 : ((ns.map fun n => decide (1 ≤ n) && decide (n ≤ 300)).all id) = true := by rw [List.all_map]; exact ha
      simp [m_are_heights, runDef, b_are_heights, sSeq, sIf, tOr, tNot, tTru', sRet, cOpA, cCall, aCons, toArs, toAr, slotsOf, wb, e_is_tuple_of, arS, List.replicate, h, conts, fAll, on1, boolsOf_maps, cVar, truD, cOp2, opLe, onInts, fSum, seqOf, intsOf_map, outsOf, retV, heightsB, hl, hl2, hl3, ha, ha2]
    · have ha' : (ns.all fun n => decide (1 ≤ n) && decide (n ≤ 300)) = false := by simpa using ha
      have ha2 : ((ns.map fun n => decide (1 ≤ n) && decide (n ≤ 300)).all id) = false := by rw [List.all_map]; exact ha'
      simp [m_are_heights, runDef, b_are_heights, sSeq, sIf, tOr, tNot, tTru', sRet, cOpA, cCall, aCons, toArs, toAr, slotsOf, wb, e_is_tuple_of, arS, List.replicate, h, conts, fAll, on1, boolsOf_maps, cVar, truD, outsOf, retV, heightsB, hl, hl2, hl3, ha', ha2]
  · have hl' : ¬ (ns.length : Int) ≤ 300 := by omega
    simp [m_are_heights, runDef, b_are_heights, sSeq, sIf, tOr, tNot, tTru', sRet, cCall, aCons, toArs, toAr, slotsOf, wb, e_is_tuple_of, arS, List.replicate, cVar, truD, outsOf, retV, heightsB, hl, hl']
theorem e_fits_piles (ns : List Int) (hz : ns.length ≤ 1000) : m_fits_piles [.v (.tuple (ns.map .int))] = some (.pu (.bool (heightsB 1 ns && fallI ns)), []) := by
  simp [m_fits_piles, runDef, b_fits_piles, sRet, cAnd, cCall, aCons, toArs, toAr, slotsOf, wb, cVar, arS, e_are_heights ns hz, e_is_falling ns hz]
  cases heightsB 1 ns <;> simp [outsOf, retV]
theorem e_need_piles (ns : List Int) (hz : ns.length ≤ 1000) (h : (heightsB 1 ns && fallI ns) = true) : m_need_piles [.v (.tuple (ns.map .int))] = some (.pu .none, []) := by
  simp [m_need_piles, runDef, b_need_piles, sIf, tNot, tTru', cCall, aCons, toArs, toAr, slotsOf, wb, e_fits_piles ns hz, h, cVar, arS, outsOf, truD]
def maxZ (ns : List Int) : Int := ns.foldl max 0
def turnI (ns : List Int) : List Int := (List.range (maxZ ns).toNat).map fun (c : Nat) => ((ns.countP fun n => decide ((c : Int) < n) : Nat) : Int)
theorem intsD_zero (n : Nat) : intsD 0 n = (List.range n).map fun k => .int (k : Nat) := by
  unfold intsD
  simp
def gtB (c : Int) : D → Bool
  | .int n => decide (c < n)
  | _ => false
def cntD (ns : List Int) : D → D
  | .int c => .int ((ns.countP fun n => decide (c < n) : Nat) : Int)
  | _ => .none
theorem turn_inner (ns : List Int) (hz : ns.length ≤ 1000) (c : Int) (r2 : Sl) (hr : plainS (some r2) = true) : cLc [2] (iE (cVar 0)) (gN 2) (tBl (cOp2 opGt (cVar 2) (cVar 1))) (cVar 2) [.pu (.tuple (ns.map .int)), .pu (.int c), r2] =
    some (.nw (.list ((ns.filter fun n => decide (c < n)).map .int)), [.pu (.tuple (ns.map .int)), .pu (.int c), r2]) := by
  have h := cLc_eq (vs := [2]) (it := iE (cVar 0)) (g := gN 2) (t := tBl (cOp2 opGt (cVar 2) (cVar 1))) (f := cVar 2)
    (ρ := [.pu (.tuple (ns.map .int)), .pu (.int c), r2]) (ds := ns.map .int)
    (fun x => [.pu (.tuple (ns.map .int)), .pu (.int c), .pu x]) (gtB c) (fun x => x)
    (by simp [iE, cVar, itemsOf]) (by simp [okW, hr]) (fun x hx => by
      obtain ⟨n, _, rfl⟩ := List.mem_map.mp hx
      simp [gN, setS, wipeR, tBl, cOp2, cVar, opGt, onInts, gtB]) (line_le (by simp; omega))
  rw [List.filter_map, List.map_map] at h
  exact h
theorem e_turned_in (ns : List Int) (hz : ns.length ≤ 1000) (hm : maxZ ns ≤ 1000) : m_turned_in [.v (.tuple (ns.map .int))] = some (.pu (.tuple ((turnI ns).map .int)), []) := by
  have hmx : fMax [.tuple (.int 0 :: ns.map .int)] = some (.int (maxZ ns)) := by
    simp [fMax, seqOf]
    have : intsOf (.int 0 :: ns.map .int) = some (0 :: ns) := intsOf_map (0 :: ns)
    rw [this]; rfl
  have hsm : small (maxZ ns) = true := by
    have h0 : 0 ≤ maxZ ns := by
      unfold maxZ
      have : ∀ (l : List Int) (a : Int), a ≤ l.foldl max a := by
        intro l
        induction l with
        | nil => intro a; exact Int.le_refl a
        | cons x l ih => intro a; exact Int.le_trans (Int.le_max_left a x) (ih _)
      exact this ns 0
    unfold small
    simp
    omega
  have ti := fun c => turn_inner ns hz c .non rfl
  have h := cLc_eq (vs := [1]) (it := iRg1 (cOpA fMax (aCons (cOp2n opAdd (cTup (aCons (cC (.int 0)) aNil)) (cVar 0)) aNil))) (g := gN 1) (t := tYes)
    (f := cOpA fLen (aCons (cLc [2] (iE (cVar 0)) (gN 2) (tBl (cOp2 opGt (cVar 2) (cVar 1))) (cVar 2)) aNil))
    (ρ := [.pu (.tuple (ns.map .int)), .non, .non]) (ds := intsD 0 (maxZ ns).toNat)
    (fun x => [.pu (.tuple (ns.map .int)), .pu x, .non]) (fun _ => true) (cntD ns)
    (by
      have hl : 1 + ns.length ≤ lineN := line_le (by omega)
      have h1 : (1 : Nat) ≤ lineN := line_le (by omega)
      simp [iRg1, cOpA, aCons, cOp2n, cTup, pures, cVar, opAdd, conts, hl, h1, hmx, hsm]) rfl (fun x hx => by
      rw [intsD_zero] at hx
      obtain ⟨c, _, rfl⟩ := List.mem_map.mp hx
      simp [gN, setS, wipeR, cOpA, aCons, ti, conts, fLen, on1, List.countP_eq_length_filter, cntD]) (line_le (by simp [intsD]; omega))
  rw [filter_yes, intsD_zero, List.map_map] at h
  simp [m_turned_in, runDef, b_turned_in, sRet, cOpA, aCons, arS, List.replicate, h, conts, fTuple, on1, seqOf, outsOf, retV, turnI]
  intro a _
  rfl
def laidI (ns : List Int) : List Int := srtDn (ns.filter fun n => decide (0 < n))
theorem e_laid (ns : List Int) (hz : ns.length ≤ 1000) : m_laid [.v (.list (ns.map .int))] = some (.pu (.tuple ((laidI ns).map .int)), []) := by
  have h := cLc_eq (vs := [1]) (it := iE (cVar 0)) (g := gN 1) (t := tBl (cOp2 opGt (cVar 1) (cC (.int 0)))) (f := cVar 1)
    (ρ := [.pu (.list (ns.map .int)), .non]) (ds := ns.map .int)
    (fun x => [.pu (.list (ns.map .int)), .pu x]) (gtB 0) (fun x => x)
    (by simp [iE, cVar, itemsOf]) rfl (fun x hx => by
      obtain ⟨n, _, rfl⟩ := List.mem_map.mp hx
      simp [gN, setS, wipeR, tBl, cOp2, cVar, opGt, onInts, gtB]) (line_le (by simp; omega))
  rw [List.filter_map, List.map_map] at h
  have h' : cLc [1] (iE (cVar 0)) (gN 1) (tBl (cOp2 opGt (cVar 1) (cC (.int 0)))) (cVar 1) [.pu (.list (ns.map .int)), .non] = some (.nw (.list ((ns.filter fun n => decide (0 < n)).map .int)), [.pu (.list (ns.map .int)), .non]) := h
  simp [m_laid, runDef, b_laid, sRet, cOpA, cOpAn, aCons, arS, List.replicate, h', conts, fSortedR, fTuple, on1, seqOf, intsOf_map, outsOf, retV, laidI]
theorem e_turned (ns : List Int) (hz : ns.length ≤ 1000) (hm : maxZ ns ≤ 1000) (h : (heightsB 1 ns && fallI ns) = true) : m_turned [.v (.tuple (ns.map .int))] = some (.pu (.tuple ((turnI ns).map .int)), []) := by
  simp [m_turned, runDef, b_turned, sSeq, sExp, sRet, cCall, aCons, toArs, toAr, slotsOf, wb, e_need_piles ns hz h, e_turned_in ns hz hm, cVar, arS, outsOf, retV]

theorem opEq_int (i j : Int) : opEq (.int i) (.int j) = some (.bool (i == j)) := by
  simp [opEq, PyData.depth, PyData.eqv]
theorem cut_from (ds : List D) (k : Nat) : cutD ds (some (k : Int)) none = ds.drop k := by
  unfold cutD
  rw [HT.sIx_nat, HT.sIx_none]
  by_cases h : k ≤ ds.length
  · rw [Nat.min_eq_left h, List.take_of_length_le (by simp)]
  · rw [Nat.min_eq_right (by omega), List.drop_eq_nil_of_le (Nat.le_refl _), List.drop_eq_nil_of_le (by omega)]
    simp
theorem enum_ints (ns : List Int) : enumD (ns.map .int) = ns.zipIdx.map fun p => .tuple [.int (p.2 : Nat), .int p.1] := by
  unfold enumD
  rw [List.zipIdx_map, List.map_map]
  rfl
theorem ix_at (hs : List Int) (x : Int) (h0 : 0 ≤ x) (h : x < hs.length) : opIx (.list (hs.map .int)) (.int x) = some (.int (hs.getD x.toNat 0)) := by
  obtain ⟨k, rfl⟩ : ∃ k : Nat, x = k := ⟨x.toNat, by omega⟩
  rw [Int.toNat_natCast]
  have hlt : k < hs.length := by omega
  have e : (hs.map PyData.int)[k]? = some (.int (hs.getD k 0)) := by
    rw [List.getElem?_map, List.getElem?_eq_getElem hlt]
    simp [List.getD, List.getElem?_eq_getElem hlt]
  exact atI_nat e
def cupD (a b : Int) : D := .list [.int a, .int b]
def CupOk (a b : Int) : Prop := 0 ≤ a ∧ 0 ≤ b ∧ b < 2 ^ 40
theorem small_b {b : Int} (h0 : 0 ≤ b) (h1 : b < 2 ^ 40) : small64 b = true := by
  unfold small64
  simp
  omega
theorem e_roll (a b many : Int) (h : CupOk a b) (h0 : 0 < many) (h1 : many ≤ 1000) : ∃ r a' b', m__law_roll [.m (cupD a b), .v (.int many)] = some (.pu (.int r), [cupD a' b']) ∧ 0 ≤ r ∧ r < many ∧ CupOk a' b' := by
  obtain ⟨ha, hb, hb2⟩ := h
  by_cases hp : 0 < a
  · have hf : opFdiv (.int a) (.int many) = some (.int (a / many)) := by
      have : many < 1073741824 := by omega
      simp [opFdiv, onInts, h0, this]
    have hm : opMod (.int a) (.int many) = some (.int (a % many)) := by simp [opMod, onInts, h0]
    refine ⟨a % many, a / many, b, ?_, Int.emod_nonneg _ (by omega), Int.emod_lt_of_pos _ h0, Int.ediv_nonneg ha (by omega), hb, hb2⟩
    have e0 : opGt (.int a) (.int 0) = some (.bool true) := by simp [opGt, onInts, hp]
    have i0 : opIx (.list [.int a, .int b]) (.int 0) = some (.int a) := rfl
    simp [m__law_roll, runDef, arS, List.replicate, b__law_roll, sSeq, sIf, tBl, cOp2, cVar, cont, i0, e0, sAsg, cOpA, aCons, conts, fInt, on1, hm, setS, sSet, hf, cupD, ixD, putS, sRet, outsOf, retV]
  · have ha0 : a = 0 := by omega
    subst ha0
    have e0 : opGt (.int 0) (.int 0) = some (.bool false) := by kernel_rfl
    have m1 : opMul (.int b) (.int 31051) = some (.int (b * 31051)) := by
      have : small64 31051 = true := by decide
      simp [opMul, this]
    generalize hb1 : (b * 31051 + 7993) % 2147483543 = b1
    have b10 : 0 ≤ b1 := by rw [← hb1]; exact Int.emod_nonneg _ (by decide)
    have b11 : b1 < 2147483543 := by rw [← hb1]; exact Int.emod_lt_of_pos _ (by decide)
    have d1 : opMod (.int (b * 31051 + 7993)) (.int 2147483543) = some (.int b1) := by simp [opMod, onInts, hb1]
    have m2 : opMul (.int b1) (.int (b1 + 229)) = some (.int (b1 * (b1 + 229))) := by
      have : small64 b1 = true := small_b b10 (by omega)
      simp [opMul, this]
    generalize hd : (b1 * (b1 + 229)) % 2147483587 = dp
    have d2 : opMod (.int (b1 * (b1 + 229))) (.int 2147483587) = some (.int dp) := by simp [opMod, onInts, hd]
    have f1 : opFdiv (.int dp) (.int 821) = some (.int (dp / 821)) := by simp [opFdiv, onInts]
    have d3 : opMod (.int (dp / 821)) (.int many) = some (.int (dp / 821 % many)) := by simp [opMod, onInts, h0]
    refine ⟨dp / 821 % many, 0, b1, ?_, Int.emod_nonneg _ (by omega), Int.emod_lt_of_pos _ h0, Int.le_refl _, b10, by omega⟩
    have a1 : opAdd (.int (b * 31051)) (.int 7993) = some (.int (b * 31051 + 7993)) := rfl
    have a2 : opAdd (.int b1) (.int 229) = some (.int (b1 + 229)) := rfl
    have i0 : opIx (.list [.int 0, .int b]) (.int 0) = some (.int 0) := rfl
    have i1 : opIx (.list [.int 0, .int b]) (.int 1) = some (.int b) := rfl
    have i2 : opIx (.list [.int 0, .int b1]) (.int 1) = some (.int b1) := rfl
    simp [m__law_roll, runDef, arS, List.replicate, b__law_roll, sSeq, sIf, tBl, cOp2, cOp2n, cVar, cont, i0, i1, i2, e0, sAsg, cOpA, aCons, conts, fInt, on1, m1, a1, d1, m2, a2, d2, f1, d3, setS, sSet, cupD, ixD, putS, sRet, outsOf, retV]
theorem e_cup (ns : List Int) (hz : ns.length ≤ 1000) : ∃ a b, m__law_cup [.v (.list (ns.map .int))] = some (.nw (cupD a b), []) ∧ CupOk a b := by
  have hx := ix_at (ns ++ [0]) 0 (by omega) (by simp <;> omega)
  generalize hq : (ns ++ [0]).getD (0 : Int).toNat 0 = q at hx
  generalize hc : (if q < 0 then -q else q) = c
  have hc0 : 0 ≤ c := by rw [← hc]; split <;> omega
  have hl : ns.length + 1 ≤ lineN := line_le (by omega)
  have o1 : (1 : Nat) ≤ lineN := line_le (by omega)
  have o2 : (2 : Nat) ≤ lineN := line_le (by omega)
  have hpow : opPow (.int 10) (.int 18) = some (.int 1000000000000000000) := by kernel_rfl
  have m1 : opMul (.int c) (.int 283) = some (.int (c * 283)) := by
    have : small64 283 = true := by decide
    simp [opMul, this]
  have a1 : opAdd (.int (c * 283)) (.int 3907) = some (.int (c * 283 + 3907)) := rfl
  generalize hb : (c * 283 + 3907) % 2077503167 = b
  have b0 : 0 ≤ b := by rw [← hb]; exact Int.emod_nonneg _ (by decide)
  have b1 : b < 2077503167 := by rw [← hb]; exact Int.emod_lt_of_pos _ (by decide)
  have d1 : opMod (.int (c * 283 + 3907)) (.int 2077503167) = some (.int b) := by simp [opMod, onInts, hb]
  have a2 : opAdd (.int b) (.int 167) = some (.int (b + 167)) := rfl
  have f1 : opFdiv (.int c) (.int 73) = some (.int (c / 73)) := by simp [opFdiv, onInts]
  have habs : fAbs [.int q] = some (.int c) := by simp [fAbs, on1, hc]
  have hadd : opAdd (.list (ns.map .int)) (.list [.int 0]) = some (.list ((ns ++ [0]).map .int)) := by simp [opAdd, hl]
  refine ⟨if 1000000000000000000 ≤ c then c / 73 else 0, b + 167, ?_, ?_, by omega, by omega⟩
  · have hge : opGe (.int c) (.int 1000000000000000000) = some (.bool (decide (1000000000000000000 ≤ c))) := rfl
    by_cases hbig : 1000000000000000000 ≤ c
    · simp [m__law_cup, runDef, arS, List.replicate, b__law_cup, sSeq, sAsg, cOpA, cOpAn, cOp2, cOp2n, aCons, conts, fList, on1, cLst, pures, o1, o2, cVar, hadd, hx, habs, setS, sRet, cIf, tBl, hpow, hge, hbig, f1, m1, a1, fInt, d1, a2, outsOf, retV, cupD, -List.map_append]
    · simp [m__law_cup, runDef, arS, List.replicate, b__law_cup, sSeq, sAsg, cOpA, cOpAn, cOp2, cOp2n, aCons, conts, fList, on1, cLst, pures, o1, o2, cVar, hadd, hx, habs, setS, sRet, cIf, tBl, hpow, hge, hbig, f1, m1, a1, fInt, d1, a2, outsOf, retV, cupD, -List.map_append]
  · split
    · exact Int.ediv_nonneg hc0 (by decide)
    · omega
def sortI : D → Int
  | .none => 0
  | .bool _ => 1
  | .int _ => 2
  | .str _ => 3
  | .tuple _ => 4
  | .list _ => 5
  | .dict _ => 6
theorem e_sort (d : D) : m__law_sort [.v d] = some (.pu (.int (sortI d)), []) := by
  cases d <;> simp [m__law_sort, runDef, arS, List.replicate, b__law_sort, sSeq, sIf, tOr, tBl, tTru', cOp2, cOpn, opIs, isN, opIsi, isiD, tyName, cVar, truD, sRet, cIf, outsOf, retV, sortI]
mutual
/-- no dict, rows no longer than n -/
def narrow (n : Nat) : D → Bool
  | .list ds => decide (ds.length ≤ n) && narrowAll n ds
  | .tuple ds => decide (ds.length ≤ n) && narrowAll n ds
  | .dict _ => false
  | _ => true
def narrowAll (n : Nat) : List D → Bool
  | [] => true
  | d :: ds => narrow n d && narrowAll n ds
end
mutual
theorem narrow_plain (n : Nat) : ∀ d : D, narrow n d = true → d.plain = true
  | .none, _ => rfl
  | .bool _, _ => rfl
  | .int _, _ => rfl
  | .str _, _ => rfl
  | .list ds, h => by
    simp only [narrow, Bool.and_eq_true] at h
    exact narrowAll_plain n ds h.2
  | .tuple ds, h => by
    simp only [narrow, Bool.and_eq_true] at h
    exact narrowAll_plain n ds h.2
  | .dict _, h => by simp [narrow] at h
theorem narrowAll_plain (n : Nat) : ∀ ds : List D, narrowAll n ds = true → PyData.plainAll ds = true
  | [], _ => rfl
  | d :: ds, h => by
    simp only [narrowAll, Bool.and_eq_true] at h
    show (d.plain && PyData.plainAll ds) = true
    rw [narrow_plain n d h.1, narrowAll_plain n ds h.2]; rfl
end
theorem narrow_mem {n : Nat} : ∀ {ds : List D} {d : D}, narrowAll n ds = true → d ∈ ds → narrow n d = true
  | e :: ds, d, h, hm => by
    simp only [narrowAll, Bool.and_eq_true] at h
    rcases List.mem_cons.mp hm with rfl | hm
    · exact h.1
    · exact narrow_mem h.2 hm
theorem depth_mem : ∀ {ds : List D} {d : D}, d ∈ ds → d.depth ≤ PyData.depthAll ds
  | e :: ds, d, hm => by
    simp only [PyData.depthAll]
    rcases List.mem_cons.mp hm with rfl | hm
    · exact Nat.le_max_left _ _
    · exact Nat.le_trans (depth_mem hm) (Nat.le_max_right _ _)
theorem zip_self_mem {ds : List D} {x : D} (h : x ∈ zipD ds ds) : ∃ d, d ∈ ds ∧ x = .tuple [d, d] := by
  unfold zipD at h
  obtain ⟨⟨a, b⟩, h1, rfl⟩ := List.mem_map.mp h
  have : ∀ (l : List D), (a, b) ∈ l.zip l → a = b ∧ a ∈ l := by
    intro l
    induction l with
    | nil => intro q; cases q
    | cons c l ih =>
      intro q
      rw [List.zip_cons_cons] at q
      rcases List.mem_cons.mp q with q | q
      · cases q; exact ⟨rfl, List.mem_cons_self⟩
      · obtain ⟨q1, q2⟩ := ih q
        exact ⟨q1, List.mem_cons_of_mem _ q2⟩
  obtain ⟨q1, q2⟩ := this ds h1
  subst q1
  exact ⟨a, q2, rfl⟩
theorem like_seq (k : Nat) (ds : List D) (one : D) (ho : one = .list ds ∨ one = .tuple ds) (hl : ds.length ≤ 1000) (ih : ∀ d ∈ ds, r__law_like k [.v d, .v d] = some (.pu (.bool true), [])) (s : D) :
    cLc [3, 4] (iZip (cVar 0) (cVar 1)) (gT ((gN 3) :: ((gN 4) :: []))) (tNot (tTru' (cCall (r__law_like k) (aCons (cVar 3) (aCons (cVar 4) aNil))))) (cC (.int 1)) [.pu one, .pu one, .pu s, .non, .non] =
      some (.nw (.list []), [.pu one, .pu one, .pu s, .non, .non]) := by
  have hz : iZip (cVar 0) (cVar 1) [.pu one, .pu one, .pu s, .non, .non] = some (zipD ds ds, [.pu one, .pu one, .pu s, .non, .non]) := by
    rcases ho with rfl | rfl <;> simp [iZip, cVar]
  have h := cLc_eq (vs := [3, 4]) (it := iZip (cVar 0) (cVar 1)) (g := gT ((gN 3) :: ((gN 4) :: []))) (t := tNot (tTru' (cCall (r__law_like k) (aCons (cVar 3) (aCons (cVar 4) aNil))))) (f := cC (.int 1))
    (ρ := [.pu one, .pu one, .pu s, .non, .non]) (ds := zipD ds ds)
    (fun x => match x with | .tuple [a, b] => [.pu one, .pu one, .pu s, .pu a, .pu b] | _ => []) (fun _ => false) (fun x => x) hz rfl (fun x hx => by
      obtain ⟨d, hd, rfl⟩ := zip_self_mem hx
      simp [gT, gAll, gN, setS, wipeR, tNot, tTru', cCall, aCons, toArs, toAr, slotsOf, wb, cVar, ih d hd, truD]) (line_le (by simp [zipD]; omega))
  have e0 : (zipD ds ds).filter (fun _ => false) = [] := List.filter_eq_nil_iff.mpr (by simp)
  rw [e0] at h
  exact h
theorem like_refl : ∀ (k : Nat) (d : D), narrow 1000 d = true → d.depth < k → k ≤ 8 → r__law_like k [.v d, .v d] = some (.pu (.bool true), [])
  | 0, d, _, h, _ => absurd h (Nat.not_lt_zero _)
  | k + 1, d, hn, hd, hk => by
    have heq : opEq d d = some (.bool true) := by
      unfold opEq
      rw [if_pos (by rw [Nat.min_self]; omega), SeqAt.eqv_refl_plain d (narrow_plain _ d hn)]
    have n1 : opNe (.int (sortI d)) (.int (sortI d)) = some (.bool false) := by
      simp [opNe, PyData.depth, PyData.eqv]
    have n2 : opEq (.int (sortI d)) (.int 6) = some (.bool (sortI d == 6)) := opEq_int _ _
    have o2 : (2 : Nat) ≤ lineN := line_le (by omega)
    have hin : opIn (.int (sortI d)) (.tuple [.int 4, .int 5]) = some (.bool (decide (sortI d = 4) || decide (sortI d = 5))) := by
      cases d <;> kernel_rfl
    have hnil : opEq (.list []) (.list []) = some (.bool true) := by kernel_rfl
    show runDef 2 5 (b__law_like (r__law_like k)) [.v d, .v d] = _
    have seq : ∀ ds, (d = .list ds ∨ d = .tuple ds) → ds.length ≤ 1000 → narrowAll 1000 ds = true → PyData.depthAll ds < k → runDef 2 5 (b__law_like (r__law_like k)) [.v d, .v d] = some (.pu (.bool true), []) := fun ds ho hl hna hdep => by
      have hs := like_seq k ds d ho hl (fun e he => like_refl k e (narrow_mem hna he) (Nat.lt_of_le_of_lt (depth_mem he) hdep) (by omega)) (.int (sortI d))
      have s6 : (sortI d == 6) = false := by rcases ho with rfl | rfl <;> rfl
      have s45 : (decide (sortI d = 4) || decide (sortI d = 5)) = true := by rcases ho with rfl | rfl <;> rfl
      have hlen : fLen [d] = some (.int (ds.length : Nat)) := by rcases ho with rfl | rfl <;> simp [fLen, on1]
      have hle : opEq (.int (ds.length : Nat)) (.int (ds.length : Nat)) = some (.bool true) := by rw [opEq_int]; simp
      simp [runDef, arS, List.replicate, b__law_like, sSeq, sAsg, cCall, aCons, toArs, toAr, slotsOf, wb, cVar, e_sort, setS, sIf, tOr, tBl, cOp2, n1, n2, s6, cTup, pures, o2, hin, s45, sRet, cAnd, cOpA, conts, hlen, hle, hs, cLst, hnil, outsOf, retV]
    cases d with
    | list ds =>
      simp only [narrow, Bool.and_eq_true, decide_eq_true_eq] at hn
      have : PyData.depth (.list ds) = PyData.depthAll ds + 1 := by simp [PyData.depth]
      exact seq ds (.inl rfl) hn.1 hn.2 (by omega)
    | tuple ds =>
      simp only [narrow, Bool.and_eq_true, decide_eq_true_eq] at hn
      have : PyData.depth (.tuple ds) = PyData.depthAll ds + 1 := by simp [PyData.depth]
      exact seq ds (.inr rfl) hn.1 hn.2 (by omega)
    | dict _ => simp [narrow] at hn
    | _ =>
      simp only [sortI] at n1 n2 hin
      simp [runDef, arS, List.replicate, b__law_like, sSeq, sAsg, cCall, aCons, toArs, toAr, slotsOf, wb, cVar, e_sort, sortI, setS, sIf, tOr, tBl, cOp2, n1, n2, cTup, pures, o2, hin, sRet, heq, outsOf, retV]
theorem e_like (d : D) (hn : narrow 1000 d = true) (hd : d.depth < 8) : m__law_like [.v d, .v d] = some (.pu (.bool true), []) := like_refl 8 d hn hd (Nat.le_refl _)

theorem fall_of : ∀ (ns : List Int), ns.Pairwise (· ≥ ·) → fallI ns = true
  | [], _ => rfl
  | [a], _ => rfl
  | a :: b :: ns, h => by
    obtain ⟨p1, p2⟩ := List.pairwise_cons.mp h
    have ih := fall_of (b :: ns) p2
    have := p1 b List.mem_cons_self
    simp only [fallI, ih, Bool.and_true, decide_eq_true_eq]
    exact this
theorem sum_filter_pos : ∀ (ns : List Int), (∀ x ∈ ns, 0 ≤ x) → (ns.filter fun n => decide (0 < n)).sum = ns.sum
  | [], _ => rfl
  | a :: ns, h => by
    have ih := sum_filter_pos ns fun x hx => h x (List.mem_cons_of_mem _ hx)
    have := h a List.mem_cons_self
    rw [List.filter_cons]
    split
    · simp [ih]
    · rename_i hn
      have : a = 0 := by simp at hn; omega
      simp [ih, this]
theorem maxZ_ge (ns : List Int) : ∀ x ∈ ns, x ≤ maxZ ns := by
  unfold maxZ
  have key : ∀ (l : List Int) (a : Int), a ≤ l.foldl max a ∧ ∀ x ∈ l, x ≤ l.foldl max a := by
    intro l
    induction l with
    | nil => intro a; exact ⟨Int.le_refl a, fun x h => by cases h⟩
    | cons b l ih =>
      intro a
      obtain ⟨h1, h2⟩ := ih (max a b)
      refine ⟨Int.le_trans (Int.le_max_left a b) h1, fun x hx => ?_⟩
      rcases List.mem_cons.mp hx with rfl | hx
      · exact Int.le_trans (Int.le_max_right a x) h1
      · exact h2 x hx
  exact (key ns 0).2
theorem maxZ_nn (ns : List Int) : 0 ≤ maxZ ns := by
  unfold maxZ
  have key : ∀ (l : List Int) (a : Int), a ≤ l.foldl max a := by
    intro l
    induction l with
    | nil => intro a; exact Int.le_refl a
    | cons b l ih => intro a; exact Int.le_trans (Int.le_max_left a b) (ih _)
  exact key ns 0
theorem maxZ_mem (ns : List Int) : 0 < maxZ ns → maxZ ns ∈ ns := by
  unfold maxZ
  have key : ∀ (l : List Int) (a : Int), l.foldl max a = a ∨ l.foldl max a ∈ l := by
    intro l
    induction l with
    | nil => intro a; exact .inl rfl
    | cons b l ih =>
      intro a
      rw [List.foldl_cons]
      rcases ih (max a b) with h | h
      · rw [h]
        by_cases hab : a ≤ b
        · right; rw [Int.max_eq_right hab]; exact List.mem_cons_self
        · left; rw [Int.max_eq_left (by omega)]
      · exact .inr (List.mem_cons_of_mem _ h)
  intro h
  rcases key ns 0 with e | e
  · omega
  · exact e
theorem filter_range_map (f : Nat → Int) : ∀ (N M : Nat), M ≤ N → (∀ j, j < N → (0 < f j ↔ j < M)) → ((List.range N).map f).filter (fun n => decide (0 < n)) = (List.range M).map f
  | 0, M, h, _ => by
    have : M = 0 := by omega
    subst this; rfl
  | N + 1, M, h, k => by
    rw [List.range_succ, List.map_append, List.filter_append]
    by_cases hM : M = N + 1
    · subst hM
      have e : ((List.range N).map f).filter (fun n => decide (0 < n)) = (List.range N).map f := List.filter_eq_self.mpr fun x hx => by
        obtain ⟨j, hj, rfl⟩ := List.mem_map.mp hx
        have hj' := List.mem_range.mp hj
        have := (k j (by omega)).mpr (by omega)
        simpa using this
      have e2 : ([N].map f).filter (fun n => decide (0 < n)) = [N].map f := List.filter_eq_self.mpr fun x hx => by
        obtain ⟨j, hj, rfl⟩ := List.mem_map.mp hx
        have hj' : j = N := by simpa using hj
        have := (k j (by omega)).mpr (by omega)
        simpa using this
      rw [e, e2, List.range_succ, List.map_append]
    · have ih := filter_range_map f N M (by omega) fun j hj => k j (by omega)
      rw [ih]
      have hN := k N (by omega)
      have : ¬ 0 < f N := fun q => by have := hN.mp q; omega
      simp [this]
theorem ix_nat (ns : List Int) (k : Nat) (a : Int) (h : ns[k]? = some a) : opIx (.list (ns.map .int)) (.int (k : Nat)) = some (.int a) :=
  atI_nat (by rw [List.getElem?_map, h]; rfl)
theorem intsD_range' (j n : Nat) : intsD (j : Nat) n = (List.range' j n).map fun k => .int (k : Nat) := by
  unfold intsD
  rw [List.range'_eq_map_range, List.map_map]
  refine List.map_congr_left fun k _ => ?_
  simp
theorem narrowAll_ints (n : Nat) : ∀ ns : List Int, narrowAll n (ns.map .int) = true
  | [] => rfl
  | a :: ns => by
    show (narrow n (.int a) && narrowAll n (ns.map .int)) = true
    rw [narrowAll_ints n ns]; rfl
theorem narrow_tup {ns : List Int} (h : ns.length ≤ 1000) : narrow 1000 (.tuple (ns.map .int)) = true := by
  simp [narrow, narrowAll_ints, h]
theorem eq_self (d : D) (hp : d.plain = true) (hd : d.depth ≤ 64) : opEq d d = some (.bool true) := by
  unfold opEq
  rw [Nat.min_self, if_pos hd, SeqAt.eqv_refl_plain d hp]
theorem ne_self (d : D) (hp : d.plain = true) (hd : d.depth ≤ 64) : opNe d d = some (.bool false) := by
  unfold opNe
  rw [Nat.min_self, if_pos hd, SeqAt.eqv_refl_plain d hp]
  rfl
theorem like_run {a b : FE} {ρ ρ1 ρ2 : Rho} {d : D} {v w : Vl} (ha : a ρ = some (v, ρ1)) (hv : stl v = .pu d) (hb : b ρ1 = some (w, ρ2)) (hw : stl w = .pu d) (hl : m__law_like [.v d, .v d] = some (.pu (.bool true), [])) :
    cCall m__law_like (aCons a (aCons b aNil)) ρ = some (.pu (.bool true), ρ2) := by
  unfold cCall aCons
  rw [ha, Option.bind_some]
  show ((((b ρ1).bind fun p => (aNil p.2).bind fun q => some (stl p.1 :: q.1, q.2)).bind fun q => some (stl v :: q.1, q.2)).bind _) = _
  rw [hb, hv]
  simp only [Option.bind_some, ev_anil, hw, toArs, toAr, hl, slotsOf, List.nodup_nil, if_true, wb]
theorem not_f {a : FE} {ρ ρ1 : Rho} (h : a ρ = some (.pu (.bool true), ρ1)) : tNot (tTru' a) ρ = some (false, ρ1) := by
  unfold tNot tTru'
  rw [h]; rfl
theorem guard {a : FE} {c d : FS} {ρ ρ1 : Rho} (h : a ρ = some (.pu (.bool true), ρ1)) : sSeq (sIf (tNot (tTru' a)) c sPass) d ρ = d ρ1 := sSeq_nx ((sIf_f (not_f h)).trans rfl)
theorem add_lst (xs ys : List D) (h : xs.length + ys.length ≤ 100000) : opAdd (.list xs) (.list ys) = some (.list (xs ++ ys)) := by
  have : xs.length + ys.length ≤ lineN := line_le (by omega)
  simp only [opAdd, if_pos this]

theorem small_le {x : Int} (h0 : 0 ≤ x) (h1 : x ≤ 1000) : small x = true := by
  obtain ⟨n, rfl⟩ : ∃ n : Nat, x = n := ⟨x.toNat, by omega⟩
  exact small_nat (by omega)
theorem cut_mid (ds : List D) (a b : Nat) (hab : a ≤ b) : cutD ds (some (a : Int)) (some (b : Int)) = (ds.drop a).take (b - a) := by
  unfold cutD
  rw [HT.sIx_nat, HT.sIx_nat]
  by_cases h : a ≤ ds.length
  · rw [Nat.min_eq_left h]
    by_cases h2 : b ≤ ds.length
    · rw [Nat.min_eq_left h2]
    · rw [Nat.min_eq_right (by omega), List.take_of_length_le (by simp), List.take_of_length_le (by simp; omega)]
  · have e1 : min a ds.length = ds.length := by omega
    have e2 : min b ds.length = ds.length := by omega
    rw [e1, e2, List.drop_of_length_le (Nat.le_refl _), List.drop_of_length_le (by omega)]
    simp
theorem cut_toD (ds : List D) (b : Nat) : cutD ds none (some (b : Int)) = ds.take b := by
  unfold cutD
  rw [HT.sIx_nat, HT.sIx_none]
  by_cases h2 : b ≤ ds.length
  · rw [Nat.min_eq_left h2]; simp
  · rw [Nat.min_eq_right (by omega), List.drop_zero, Nat.sub_zero, List.take_length, List.take_of_length_le (by omega)]
theorem sl_midT (p : List Int) (a b : Nat) (hab : a ≤ b) : opSl (tupD p) (some (a : Int)) (some (b : Int)) = some (tupD ((p.drop a).take (b - a))) := by
  show some (PyData.tuple (cutD _ _ _)) = _
  rw [cut_mid _ _ _ hab, ← List.map_drop, ← List.map_take]
  rfl
theorem sl_toT (p : List Int) (b : Nat) : opSl (tupD p) none (some (b : Int)) = some (tupD (p.take b)) := by
  show some (PyData.tuple (cutD _ _ _)) = _
  rw [cut_toD, ← List.map_take]
  rfl
theorem sl_fromT (p : List Int) (a : Nat) : opSl (tupD p) (some (a : Int)) none = some (tupD (p.drop a)) := by
  show some (PyData.tuple (cutD _ _ _)) = _
  rw [cut_from, ← List.map_drop]
  rfl
theorem ix_T (p : List Int) (k : Nat) (a : Int) (h : p[k]? = some a) : opIx (tupD p) (.int (k : Nat)) = some (.int a) := by
  have := ix_nat p k a h
  exact this
def sqs (p : List Int) : List (Nat × Nat) := p.zipIdx.flatMap fun q => (List.range q.1.toNat).map fun c => (q.2, c)
def sqD (q : Nat × Nat) : D := .tuple [.int (q.1 : Nat), .int (q.2 : Nat)]
def enD (q : Int × Nat) : D := .tuple [.int (q.2 : Nat), .int q.1]
def nD (n : Nat) : D := .int (n : Nat)
def iD (n : Int) : D := .int n
/-- what is known of piles here -/
def Bd (p : List Int) : Prop := p.length ≤ 300 ∧ ∀ x ∈ p, 0 ≤ x ∧ x ≤ 300
theorem zip_mem {p : List Int} {q : Int × Nat} (h : q ∈ p.zipIdx) : p[q.2]? = some q.1 := List.mem_zipIdx_iff_getElem?.mp h
theorem flat_len {α β : Type} (f : α → List β) (k : Nat) : ∀ (l : List α), (∀ a ∈ l, (f a).length ≤ k) → (l.flatMap f).length ≤ l.length * k
  | [], _ => by simp
  | a :: l, h => by
    have ih := flat_len f k l fun b hb => h b (List.mem_cons_of_mem _ hb)
    have := h a List.mem_cons_self
    rw [List.flatMap_cons, List.length_append, List.length_cons, Nat.succ_mul]
    omega
theorem squares_ev (p : List Int) (hb : Bd p) : cLc2 [2, 3, 1] [1] (iEnum (cVar 0)) (gT ((gN 2) :: ((gN 3) :: []))) tYes (iRg1 (cVar 3)) (gN 1) tYes (cTup (aCons (cVar 2) (aCons (cVar 1) aNil))) [.pu (tupD p), .non, .non, .non] =
    some (.nw (.list ((sqs p).map sqD)), [.pu (tupD p), .non, .non, .non]) := by
  have h := cLc2_of (vs := [2, 3, 1]) (vs1 := [1]) (it := iEnum (cVar 0)) (g := gT ((gN 2) :: ((gN 3) :: []))) (it1 := iRg1 (cVar 3)) (g1 := gN 1) (f := cTup (aCons (cVar 2) (aCons (cVar 1) aNil))) (ρ := [.pu (tupD p), .non, .non, .non])
    (e := enD) (l := p.zipIdx) (l1 := fun q => List.range q.1.toNat) (e1 := nD) (fun q c => sqD (q.2, c)) (by decide)
    (by rw [iEnum_pu rfl (show itemsOf (tupD p) = some (p.map .int) from rfl), enum_ints]; rfl) rfl
    (fun q hq => by
      have hm := List.mem_of_getElem? (zip_mem hq)
      have hx := hb.2 _ hm
      refine ⟨[.pu (tupD p), .non, .pu (nD q.2), .pu (.int q.1)], rfl, rfl, ?_, fun c hc => ?_⟩
      · rw [iRg1_eq rfl (small_le hx.1 (by omega)), intsD_zero]
        rfl
      · exact ⟨[.pu (tupD p), .pu (nD c), .pu (nD q.2), .pu (.int q.1)], .pu (sqD (q.2, c)), rfl, rfl, cTup_args (args_pu rfl (args_pu rfl args_nil)) (line_le (by show (2 : Nat) ≤ 1000000; decide)), rfl⟩)
    (by
      refine line_le (Nat.le_trans (flat_len _ 300 _ fun q hq => ?_) ?_)
      · have hx := hb.2 _ (List.mem_of_getElem? (zip_mem hq))
        rw [List.length_map, List.length_range]
        omega
      · rw [List.length_zipIdx]
        have := hb.1
        omega)
  rw [h]
  have e : (p.zipIdx.flatMap fun a => (List.range a.1.toNat).map fun c => sqD (a.2, c)) = (sqs p).map sqD := by
    unfold sqs
    rw [List.map_flatMap]
    congr 1
    funext q
    rw [List.map_map]
    rfl
  rw [e]
theorem fTuple_l (ds : List D) : fTuple [.list ds] = some (.tuple ds) := rfl
theorem e_squares_in (p : List Int) (hb : Bd p) : m_squares_in [.v (tupD p)] = some (.pu (.tuple ((sqs p).map sqD)), []) := by
  have e2 : b_squares_in [.pu (tupD p), .non, .non, .non] = some (.rt (.pu (.tuple ((sqs p).map sqD))) [.pu (tupD p), .non, .non, .non]) := sRet_eq (cOpA_args (args_nw (squares_ev p hb) args_nil) (fTuple_l _))
  exact run_rt rfl rfl e2 rfl
def leg (p : List Int) (r c : Nat) : Nat := (p.drop (r + 1)).countP fun h => decide ((c : Int) < h)
theorem leg_ev (p : List Int) (hb : Bd p) (r c : Nat) : cLc [2] (iE (cSl mk opSl (cVar 0) (oSo (cOp2n opAdd (cOp2 opIx (cVar 1) (cC (.int 0))) (cC (.int 1)))) oNo)) (gN 2) (tBl (cOp2 opGt (cVar 2) (cOp2 opIx (cVar 1) (cC (.int 1))))) (cVar 2) [.pu (tupD p), .pu (sqD (r, c)), .non] =
    some (.nw (.list (((p.drop (r + 1)).filter fun h => decide ((c : Int) < h)).map iD)), [.pu (tupD p), .pu (sqD (r, c)), .non]) :=
  cLc_of (e := iD) (l := p.drop (r + 1)) (fun h => decide ((c : Int) < h)) iD
    (iE_pu (x := tupD (p.drop (r + 1))) (cSl_pu' rfl (oSo_pu (i := ((r + 1 : Nat) : Int)) (cOp2n_pu' (cOp2_pu rfl rfl rfl) rfl rfl)) rfl (sl_fromT p (r + 1))) rfl) rfl
    (fun h _ => ⟨[.pu (tupD p), .pu (sqD (r, c)), .pu (.int h)], rfl, rfl, tBl_eq (cOp2_pu rfl (cOp2_pu rfl rfl rfl) rfl), fun _ => ⟨_, rfl, rfl⟩⟩) (line_le (by
      have := hb.1
      rw [List.length_drop]; omega))
theorem fLen_l (ds : List D) : fLen [.list ds] = some (.int (ds.length : Nat)) := rfl
theorem e_leg_in (p : List Int) (hb : Bd p) (r c : Nat) : m_leg_in [.v (tupD p), .v (sqD (r, c))] = some (.pu (nD (leg p r c)), []) := by
  have e2 : b_leg_in [.pu (tupD p), .pu (sqD (r, c)), .non] = some (.rt (.pu (nD (leg p r c))) [.pu (tupD p), .pu (sqD (r, c)), .non]) := by
    have e1 := cOpA_args (op := fLen) (args_nw (leg_ev p hb r c) args_nil) (fLen_l _)
    rw [List.length_map, ← List.countP_eq_length_filter] at e1
    exact sRet_eq e1
  exact run_rt rfl rfl e2 rfl
def rimL (p : List Int) (r c : Nat) : List Int := p.take r ++ (((p.drop (r + 1)).take (leg p r c)).map (· - 1) ++ [(c : Int)]) ++ p.drop (r + leg p r c + 1)
theorem rimL_len (p : List Int) (r c : Nat) : (rimL p r c).length ≤ p.length + 1 := by
  unfold rimL
  simp only [List.length_append, List.length_map, List.length_take, List.length_drop, List.length_cons, List.length_nil]
  omega
theorem fList_t (ds : List D) : fList [.tuple ds] = some (.list ds) := rfl
theorem push_ev (p : List Int) (hb : Bd p) (r c k : Nat) : cLc [6] (iE (cSl mk opSl (cVar 0) (oSo (cOp2n opAdd (cVar 4) (cC (.int 1)))) (oSo (cOp2n opAdd (cOp2n opAdd (cVar 4) (cVar 2)) (cC (.int 1)))))) (gN 6) tYes (cOp2 opSub (cVar 6) (cC (.int 1)))
    [.pu (tupD p), .pu (sqD (r, c)), .pu (nD k), .non, .pu (nD r), .pu (nD c), .non] =
    some (.nw (.list (((p.drop (r + 1)).take k).map fun h => iD (h - 1))), [.pu (tupD p), .pu (sqD (r, c)), .pu (nD k), .non, .pu (nD r), .pu (nD c), .non]) := by
  have e := sl_midT p (r + 1) (r + k + 1) (by omega)
  have hk : r + k + 1 - (r + 1) = k := by omega
  rw [hk] at e
  exact cLc_map (e := iD) (l := (p.drop (r + 1)).take k) (fun h => iD (h - 1))
    (iE_pu (x := tupD ((p.drop (r + 1)).take k)) (cSl_pu' rfl (oSo_pu (i := ((r + 1 : Nat) : Int)) (cOp2n_pu' rfl rfl rfl)) (oSo_pu (i := ((r + k + 1 : Nat) : Int)) (cOp2n_pu' (cOp2n_pu' rfl rfl rfl) rfl rfl)) e) rfl) rfl
    (fun h _ => ⟨[.pu (tupD p), .pu (sqD (r, c)), .pu (nD k), .non, .pu (nD r), .pu (nD c), .pu (.int h)], _, rfl, rfl, cOp2_pu rfl rfl rfl, rfl⟩) (line_le (by
      have := hb.1
      rw [List.length_take, List.length_drop]; omega))
theorem add_l (a b : List Int) (h : a.length + b.length ≤ 100000) : opAdd (.list (a.map .int)) (.list (b.map .int)) = some (.list ((a ++ b).map .int)) := by
  rw [add_lst _ _ (by rw [List.length_map, List.length_map]; exact h), List.map_append]
theorem e_without_rim (p : List Int) (hb : Bd p) (r c : Nat) : m_without_rim [.v (tupD p), .v (sqD (r, c))] = some (.pu (tupD (laidI (rimL p r c))), []) := by
  have hl := hb.1
  have e1 : sTgt (gT ((gN 4) :: ((gN 5) :: []))) (cVar 1) [.pu (tupD p), .pu (sqD (r, c)), .non, .non, .non, .non, .non] = some (.nx [.pu (tupD p), .pu (sqD (r, c)), .non, .non, .pu (nD r), .pu (nD c), .non]) := sTgt_pu rfl rfl
  have e2 : sAsg 2 (cCall m_leg_in (aCons (cVar 0) (aCons (cVar 1) aNil))) [.pu (tupD p), .pu (sqD (r, c)), .non, .non, .pu (nD r), .pu (nD c), .non] = some (.nx [.pu (tupD p), .pu (sqD (r, c)), .pu (nD (leg p r c)), .non, .pu (nD r), .pu (nD c), .non]) :=
    sAsg_pu (cCall_args (args_pu rfl (args_pu rfl args_nil)) (e_leg_in p hb r c)) rfl
  have hm : ((p.drop (r + 1)).take (leg p r c)).map (fun h => iD (h - 1)) = (((p.drop (r + 1)).take (leg p r c)).map (· - 1)).map .int := by rw [List.map_map]; rfl
  have e3 : sAsg 3 (cOp2n opAdd (cLc [6] (iE (cSl mk opSl (cVar 0) (oSo (cOp2n opAdd (cVar 4) (cC (.int 1)))) (oSo (cOp2n opAdd (cOp2n opAdd (cVar 4) (cVar 2)) (cC (.int 1)))))) (gN 6) tYes (cOp2 opSub (cVar 6) (cC (.int 1)))) (cLst (aCons (cVar 5) aNil)))
      [.pu (tupD p), .pu (sqD (r, c)), .pu (nD (leg p r c)), .non, .pu (nD r), .pu (nD c), .non] =
      some (.nx [.pu (tupD p), .pu (sqD (r, c)), .pu (nD (leg p r c)), .pu (.list ((((p.drop (r + 1)).take (leg p r c)).map (· - 1) ++ [(c : Int)]).map .int)), .pu (nD r), .pu (nD c), .non]) := by
    have q := push_ev p hb r c (leg p r c)
    rw [hm] at q
    exact sAsg_nw (cOp2n_ll' q (cLst_args (args_pu rfl args_nil) (line_le (by show (1 : Nat) ≤ 1000000; decide))) (add_l _ [(c : Int)] (by
      rw [List.length_map, List.length_take, List.length_drop]
      simp only [List.length_cons, List.length_nil]
      omega))) rfl
  have e4 : cCall m_laid (aCons (cOp2n opAdd (cOp2n opAdd (cOpAn fList (aCons (cSl mk opSl (cVar 0) oNo (oSo (cVar 4))) aNil)) (cVar 3)) (cOpAn fList (aCons (cSl mk opSl (cVar 0) (oSo (cOp2n opAdd (cOp2n opAdd (cVar 4) (cVar 2)) (cC (.int 1)))) oNo) aNil))) aNil)
      [.pu (tupD p), .pu (sqD (r, c)), .pu (nD (leg p r c)), .pu (.list ((((p.drop (r + 1)).take (leg p r c)).map (· - 1) ++ [(c : Int)]).map .int)), .pu (nD r), .pu (nD c), .non] =
      some (.pu (tupD (laidI (rimL p r c))), [.pu (tupD p), .pu (sqD (r, c)), .pu (nD (leg p r c)), .pu (.list ((((p.drop (r + 1)).take (leg p r c)).map (· - 1) ++ [(c : Int)]).map .int)), .pu (nD r), .pu (nD c), .non]) := by
    refine cCall_args (args_nw (cOp2n_ll' (cOp2n_lp' (cOpAn_args' (args_pu (cSl_pu' rfl rfl (oSo_pu rfl) (sl_toT p r)) args_nil) (fList_t _)) rfl (add_l (p.take r) _ ?_))
      (cOpAn_args' (args_pu (cSl_pu' rfl (oSo_pu (i := ((r + leg p r c + 1 : Nat) : Int)) (cOp2n_pu' (cOp2n_pu' rfl rfl rfl) rfl rfl)) rfl (sl_fromT p (r + leg p r c + 1))) args_nil) (fList_t _)) (add_l _ (p.drop (r + leg p r c + 1)) ?_)) args_nil) (e_laid (rimL p r c) (by have := rimL_len p r c; omega))
    · simp only [List.length_append, List.length_map, List.length_take, List.length_drop, List.length_cons, List.length_nil]
      omega
    · simp only [List.length_append, List.length_map, List.length_take, List.length_drop, List.length_cons, List.length_nil]
      omega
  have e5 : b_without_rim [.pu (tupD p), .pu (sqD (r, c)), .non, .non, .non, .non, .non] = some (.rt (.pu (tupD (laidI (rimL p r c)))) [.pu (tupD p), .pu (sqD (r, c)), .pu (nD (leg p r c)), .pu (.list ((((p.drop (r + 1)).take (leg p r c)).map (· - 1) ++ [(c : Int)]).map .int)), .pu (nD r), .pu (nD c), .non]) :=
    (sSeq_nx e1).trans ((sSeq_nx e2).trans ((sSeq_nx e3).trans (sRet_eq e4)))
  exact run_rt rfl rfl e5 rfl

def colL (p : List Int) (c : Nat) : List Int := p.map fun h => if (c : Int) < h then h - 1 else h
def htL (p : List Int) (r c : Nat) : List Int := p.take r ++ [(c : Int)] ++ p.drop (r + 1)
def rmL (p : List Int) (r : Nat) : List Int := p.take r ++ p.drop (r + 1)
theorem e_without_column (p : List Int) (hb : Bd p) (c : Nat) : m_without_column [.v (tupD p), .v (nD c)] = some (.pu (tupD (laidI (colL p c))), []) := by
  have hl := hb.1
  have h := cLc_map (vs := [2]) (it := iE (cVar 0)) (g := gN 2) (f := cIf (tBl (cOp2 opGt (cVar 2) (cVar 1))) (cOp2 opSub (cVar 2) (cC (.int 1))) (cVar 2)) (ρ := [.pu (tupD p), .pu (nD c), .non]) (e := iD) (l := p)
    (fun h => iD (if (c : Int) < h then h - 1 else h)) (iE_pu (x := tupD p) rfl rfl) rfl (fun h _ => by
      refine ⟨[.pu (tupD p), .pu (nD c), .pu (.int h)], .pu (iD (if (c : Int) < h then h - 1 else h)), rfl, rfl, ?_, rfl⟩
      by_cases hc : (c : Int) < h
      · rw [if_pos hc]
        exact (cIf_t (tBl_eq (k := true) (cOp2_pu rfl rfl (by show some (PyData.bool (decide (h > (c : Int)))) = _; rw [decide_eq_true hc])))).trans (cOp2_pu rfl rfl rfl)
      · rw [if_neg hc]
        exact (cIf_f (tBl_eq (k := false) (cOp2_pu rfl rfl (by show some (PyData.bool (decide (h > (c : Int)))) = _; rw [decide_eq_false hc])))).trans rfl) (line_le (by omega))
  have hm : (p.map fun h => iD (if (c : Int) < h then h - 1 else h)) = (colL p c).map .int := by
    unfold colL
    rw [List.map_map]; rfl
  rw [hm] at h
  have e2 : b_without_column [.pu (tupD p), .pu (nD c), .non] = some (.rt (.pu (tupD (laidI (colL p c)))) [.pu (tupD p), .pu (nD c), .non]) :=
    sRet_eq (cCall_args (args_nw h args_nil) (e_laid (colL p c) (by unfold colL; rw [List.length_map]; omega)))
  exact run_rt rfl rfl e2 rfl
theorem e_laidT (ns : List Int) (hz : ns.length ≤ 1000) : m_laid [.v (tupD ns)] = some (.pu (tupD (laidI ns)), []) := by
  have h := cLc_of (vs := [1]) (it := iE (cVar 0)) (g := gN 1) (t := tBl (cOp2 opGt (cVar 1) (cC (.int 0)))) (f := cVar 1) (ρ := [.pu (tupD ns), .non]) (e := iD) (l := ns) (fun n => decide (0 < n)) iD
    (iE_pu (x := tupD ns) rfl rfl) rfl (fun n _ => ⟨[.pu (tupD ns), .pu (.int n)], rfl, rfl, tBl_eq (cOp2_pu rfl rfl rfl), fun _ => ⟨_, rfl, rfl⟩⟩) (line_le (by omega))
  have e2 : b_laid [.pu (tupD ns), .non] = some (.rt (.pu (tupD (laidI ns))) [.pu (tupD ns), .non]) :=
    sRet_eq (cOpA_args (args_nw (cOpAn_args' (args_nw h args_nil) (show fSortedR [.list ((ns.filter fun n => decide (0 < n)).map iD)] = some (.list ((laidI ns).map .int)) by
      have q : fSortedR [.list ((ns.filter fun n => decide (0 < n)).map .int)] = (intsOf ((ns.filter fun n => decide (0 < n)).map .int)).bind fun ns => some (.list ((srtDn ns).map .int)) := rfl
      rw [intsOf_map] at q
      exact q)) args_nil) (fTuple_l _))
  exact run_rt rfl rfl e2 rfl
theorem add_t (a b : List Int) (h : a.length + b.length ≤ 100000) : opAdd (tupD a) (tupD b) = some (tupD (a ++ b)) := by
  have : (a.map PyData.int).length + (b.map PyData.int).length ≤ lineN := line_le (by rw [List.length_map, List.length_map]; omega)
  show opAdd (.tuple (a.map .int)) (.tuple (b.map .int)) = _
  simp only [opAdd, if_pos this]
  rw [← List.map_append]
  rfl
def fH (p : List Int) : List (List Int) := p.zipIdx.flatMap fun q => (List.range q.1.toNat).map fun c => laidI (htL p q.2 c)
theorem fH_len (p : List Int) (hb : Bd p) : (fH p).length ≤ 90000 := by
  refine Nat.le_trans (flat_len _ 300 _ fun q hq => ?_) ?_
  · have hx := hb.2 _ (List.mem_of_getElem? (zip_mem hq))
    rw [List.length_map, List.length_range]
    omega
  · rw [List.length_zipIdx]
    have := hb.1
    omega
theorem htL_len (p : List Int) (r c : Nat) : (htL p r c).length ≤ p.length + 1 := by
  unfold htL
  simp only [List.length_append, List.length_take, List.length_drop, List.length_cons, List.length_nil]
  omega
theorem tak_ev (p : List Int) (hb : Bd p) (f : D) (r : Nat) (h : Int) (h0 : 0 ≤ h) (h1 : h ≤ 300) : cLc [4] (iRg1 (cVar 3)) (gN 4) tYes (cCall m_laid (aCons (cOp2n opAdd (cOp2n opAdd (cSl mk opSl (cVar 0) oNo (oSo (cVar 2))) (cTup (aCons (cVar 4) aNil))) (cSl mk opSl (cVar 0) (oSo (cOp2n opAdd (cVar 2) (cC (.int 1)))) oNo)) aNil))
    [.pu (tupD p), .pu f, .pu (nD r), .pu (.int h), .non] = some (.nw (.list (((List.range h.toNat).map fun c => laidI (htL p r c)).map tupD)), [.pu (tupD p), .pu f, .pu (nD r), .pu (.int h), .non]) := by
  have hl := hb.1
  have q := cLc_map (vs := [4]) (it := iRg1 (cVar 3)) (g := gN 4) (f := cCall m_laid (aCons (cOp2n opAdd (cOp2n opAdd (cSl mk opSl (cVar 0) oNo (oSo (cVar 2))) (cTup (aCons (cVar 4) aNil))) (cSl mk opSl (cVar 0) (oSo (cOp2n opAdd (cVar 2) (cC (.int 1)))) oNo)) aNil))
    (ρ := [.pu (tupD p), .pu f, .pu (nD r), .pu (.int h), .non]) (e := nD) (l := List.range h.toNat) (fun c => tupD (laidI (htL p r c)))
    (by rw [iRg1_eq rfl (small_le h0 (by omega)), intsD_zero]; rfl) rfl (fun c _ => by
      refine ⟨[.pu (tupD p), .pu f, .pu (nD r), .pu (.int h), .pu (nD c)], _, rfl, rfl, cCall_args (args_pu (cOp2n_pu' (cOp2n_pu' (cSl_pu' rfl rfl (oSo_pu rfl) (sl_toT p r)) (cTup_args (args_pu rfl args_nil) (line_le (by show (1 : Nat) ≤ 1000000; decide))) (add_t (p.take r) [(c : Int)] ?_))
        (cSl_pu' rfl (oSo_pu (i := ((r + 1 : Nat) : Int)) (cOp2n_pu' rfl rfl rfl)) rfl (sl_fromT p (r + 1))) (add_t _ (p.drop (r + 1)) ?_)) args_nil) (e_laidT (htL p r c) (by have := htL_len p r c; omega)), rfl⟩
      · simp only [List.length_append, List.length_take, List.length_cons, List.length_nil]
        omega
      · simp only [List.length_append, List.length_take, List.length_drop, List.length_cons, List.length_nil]
        omega) (line_le (by rw [List.length_range]; omega))
  rw [q, List.map_map]
  rfl
theorem add_ll (a b : List (List Int)) (h : a.length + b.length ≤ 100000) : opAdd (.list (a.map tupD)) (.list (b.map tupD)) = some (.list ((a ++ b).map tupD)) := by
  rw [add_lst _ _ (by rw [List.length_map, List.length_map]; exact h), List.map_append]
def bdTak : FS := (sAsg 1 (cOp2n opAdd (cVar 1) (cLc [4] (iRg1 (cVar 3)) (gN 4) tYes (cCall m_laid (aCons (cOp2n opAdd (cOp2n opAdd (cSl mk opSl (cVar 0) oNo (oSo (cVar 2))) (cTup (aCons (cVar 4) aNil))) (cSl mk opSl (cVar 0) (oSo (cOp2n opAdd (cVar 2) (cC (.int 1)))) oNo)) aNil)))))
theorem tak_go (p : List Int) (hb : Bd p) : ∀ (l : List (Int × Nat)) (f : List (List Int)) (s2 s3 : Sl), plainS (some s2) = true → plainS (some s3) = true → (∀ q ∈ l, q ∈ p.zipIdx) → f.length + l.length * 300 ≤ 95000 →
    ∃ s2' s3', forGo (gT ((gN 2) :: ((gN 3) :: []))) bdTak (l.map enD) [.pu (tupD p), .pu (.list (f.map tupD)), s2, s3, .non] =
      some (.nx [.pu (tupD p), .pu (.list ((f ++ l.flatMap fun q => (List.range q.1.toNat).map fun c => laidI (htL p q.2 c)).map tupD)), s2', s3', .non])
  | [], f, s2, s3, _, _, _, _ => ⟨s2, s3, by rw [List.flatMap_nil, List.append_nil]; rfl⟩
  | q :: l, f, s2, s3, h2, h3, hm, hz => by
    have hx := hb.2 _ (List.mem_of_getElem? (zip_mem (hm q List.mem_cons_self)))
    rw [List.length_cons] at hz
    have e1 : bdTak [.pu (tupD p), .pu (.list (f.map tupD)), .pu (nD q.2), .pu (.int q.1), .non] = some (.nx [.pu (tupD p), .pu (.list ((f ++ (List.range q.1.toNat).map fun c => laidI (htL p q.2 c)).map tupD)), .pu (nD q.2), .pu (.int q.1), .non]) :=
      sAsg_nw (cOp2n_pl' rfl (tak_ev p hb _ q.2 q.1 hx.1 hx.2) (add_ll f _ (by rw [List.length_map, List.length_range]; omega))) rfl
    obtain ⟨s2', s3', e2⟩ := tak_go p hb l (f ++ (List.range q.1.toNat).map fun c => laidI (htL p q.2 c)) (.pu (nD q.2)) (.pu (.int q.1)) rfl rfl (fun z hz => hm z (List.mem_cons_of_mem _ hz)) (by rw [List.length_append, List.length_map, List.length_range]; omega)
    refine ⟨s2', s3', ?_⟩
    have e0 : gT ((gN 2) :: ((gN 3) :: [])) (enD q) [.pu (tupD p), .pu (.list (f.map tupD)), s2, s3, .non] = some [.pu (tupD p), .pu (.list (f.map tupD)), .pu (nD q.2), .pu (.int q.1), .non] := by
      cases s2 <;> first | (cases h2; done) | (cases s3 <;> first | (cases h3; done) | rfl)
    rw [List.map_cons, forGo_nx e0 e1, e2, List.flatMap_cons, List.append_assoc]
theorem e_taken (p : List Int) (hb : Bd p) : m_taken_from_heights [.v (tupD p)] = some (.pu (.list ((fH p).map tupD)), []) := by
  have hl := hb.1
  have e1 : sAsg 1 (cLst aNil) [.pu (tupD p), .non, .non, .non, .non] = some (.nx [.pu (tupD p), .pu (.list (([] : List (List Int)).map tupD)), .non, .non, .non]) := sAsg_nw (cLst_args args_nil (Nat.zero_le _)) rfl
  obtain ⟨s2, s3, e2⟩ := tak_go p hb p.zipIdx [] .non .non rfl rfl (fun _ h => h) (by rw [List.length_zipIdx, List.length_nil]; omega)
  have e3 : iEnum (cVar 0) [.pu (tupD p), .pu (.list (([] : List (List Int)).map tupD)), .non, .non, .non] = some (p.zipIdx.map enD, [.pu (tupD p), .pu (.list (([] : List (List Int)).map tupD)), .non, .non, .non]) := by
    rw [iEnum_pu rfl (show itemsOf (tupD p) = some (p.map .int) from rfl), enum_ints]; rfl
  have e4 : b_taken_from_heights [.pu (tupD p), .non, .non, .non, .non] = some (.rt (.pu (.list ((fH p).map tupD))) [.pu (tupD p), .pu (.list ((fH p).map tupD)), s2, s3, .non]) :=
    (sSeq_nx e1).trans ((sSeq_nx ((sFor_eq e3).trans e2)).trans (sRet_eq rfl))
  exact run_rt rfl rfl e4 rfl

inductive Gm where
  | h | r | e | l
def gS : Gm → Str
  | .h => Str.ofString "heights"
  | .r => Str.ofString "rims"
  | .e => Str.ofString "edges"
  | .l => Str.ofString "lines"
def fR (p : List Int) : List (List Int) := (sqs p).map fun q => laidI (rimL p q.1 q.2)
def fE (p : List Int) : List (List Int) := [p.drop 1, laidI (colL p 0)]
def fL (p : List Int) : List (List Int) := ((List.range p.length).map fun r => rmL p r) ++ (List.range (p.headD 0).toNat).map fun c => laidI (colL p c)
def gF (g : Gm) (p : List Int) : List (List Int) := if p = [] then [] else match g with
  | .h => fH p
  | .r => fR p
  | .e => fE p
  | .l => fL p
def MV (g : Gm) (p : List Int) : List D := srtD ((nubL (gF g p)).map tupD)
theorem eq_hh : opEq (.str (gS .h)) (.str (Str.ofString "heights")) = some (.bool true) := by kernel_rfl
theorem eq_rh : opEq (.str (gS .r)) (.str (Str.ofString "heights")) = some (.bool false) := by kernel_rfl
theorem eq_rr : opEq (.str (gS .r)) (.str (Str.ofString "rims")) = some (.bool true) := by kernel_rfl
theorem eq_eh : opEq (.str (gS .e)) (.str (Str.ofString "heights")) = some (.bool false) := by kernel_rfl
theorem eq_er : opEq (.str (gS .e)) (.str (Str.ofString "rims")) = some (.bool false) := by kernel_rfl
theorem eq_ee : opEq (.str (gS .e)) (.str (Str.ofString "edges")) = some (.bool true) := by kernel_rfl
theorem eq_lh : opEq (.str (gS .l)) (.str (Str.ofString "heights")) = some (.bool false) := by kernel_rfl
theorem eq_lr : opEq (.str (gS .l)) (.str (Str.ofString "rims")) = some (.bool false) := by kernel_rfl
theorem eq_le : opEq (.str (gS .l)) (.str (Str.ofString "edges")) = some (.bool false) := by kernel_rfl
theorem eq_nilT (p : List Int) : opEq (tupD p) (.tuple []) = some (.bool p.isEmpty) := by
  have h : min (tupD p).depth (PyData.tuple []).depth ≤ 64 := Nat.le_trans (Nat.min_le_right _ _) (by decide)
  unfold opEq
  rw [if_pos h]
  cases p with
  | nil => rfl
  | cons x p => rfl
def bdMoves : FS := (sSeq (sIf (tBl (cOp2 opEq (cVar 0) (cC (.str (Str.ofString "heights"))))) (sAsg 2 (cCall m_taken_from_heights (aCons (cVar 1) aNil))) (sIf (tBl (cOp2 opEq (cVar 0) (cC (.str (Str.ofString "rims"))))) (sAsg 2 (cLc [3] (iE (cCall m_squares_in (aCons (cVar 1) aNil))) (gN 3) tYes (cCall m_without_rim (aCons (cVar 1) (aCons (cVar 3) aNil))))) (sIf (tBl (cOp2 opEq (cVar 0) (cC (.str (Str.ofString "edges"))))) (sAsg 2 (cLst (aCons (cSl mk opSl (cVar 1) (oSo (cC (.int 1))) oNo) (aCons (cCall m_without_column (aCons (cVar 1) (aCons (cC (.int 0)) aNil))) aNil)))) (sSeq (sAsg 2 (cLc [4] (iRg1 (cOpA fLen (aCons (cVar 1) aNil))) (gN 4) tYes (cOp2n opAdd (cSl mk opSl (cVar 1) oNo (oSo (cVar 4))) (cSl mk opSl (cVar 1) (oSo (cOp2n opAdd (cVar 4) (cC (.int 1)))) oNo))))
  (sAsg 2 (cOp2n opAdd (cVar 2) (cLc [5] (iRg1 (cOp2 opIx (cVar 1) (cC (.int 0)))) (gN 5) tYes (cCall m_without_column (aCons (cVar 1) (aCons (cVar 5) aNil))))))))))
  (sRet (cSrtSet (cVar 2))))
theorem b_moves_eq : b_moves_in = sSeq (sIf (tBl (cOp2 opEq (cVar 1) (cTup aNil))) (sRet (cLst aNil)) sPass) bdMoves := rfl
abbrev ρM (g : Gm) (p : List Int) (f : Sl) : Rho := [.pu (.str (gS g)), .pu (tupD p), f, .non, .non, .non]
theorem ret_set (g : Gm) (p : List Int) (nss : List (List Int)) (hz : nss.length < 64) : sRet (cSrtSet (cVar 2)) (ρM g p (.pu (.list (nss.map tupD)))) = some (.rt (.nw (.list (srtD ((nubL nss).map tupD)))) (ρM g p (.pu (.list (nss.map tupD))))) :=
  sRet_eq (cSrtSet_nw rfl rfl hz)
theorem mv_h (p : List Int) (hb : Bd p) (hz : (fH p).length < 64) : ∃ s, bdMoves (ρM .h p .non) = some (.rt (.nw (.list (srtD ((nubL (fH p)).map tupD)))) (ρM .h p s)) := by
  refine ⟨_, (sSeq_nx ?_).trans (ret_set .h p (fH p) hz)⟩
  exact (sIf_t (tBl_eq (cOp2_pu rfl rfl eq_hh))).trans (sAsg_pu (cCall_args (args_pu rfl args_nil) (e_taken p hb)) rfl)
theorem sqs_mem {p : List Int} {q : Nat × Nat} (h : q ∈ sqs p) : ∃ x, p[q.1]? = some x ∧ (q.2 : Int) < x := by
  obtain ⟨z, hz, h⟩ := List.mem_flatMap.mp h
  obtain ⟨c, hc, rfl⟩ := List.mem_map.mp h
  have := List.mem_range.mp hc
  exact ⟨z.1, zip_mem hz, by show ((c : Nat) : Int) < z.1; omega⟩
theorem sqs_len (p : List Int) (hb : Bd p) : (sqs p).length ≤ 90000 := by
  refine Nat.le_trans (flat_len _ 300 _ fun q hq => ?_) ?_
  · have hx := hb.2 _ (List.mem_of_getElem? (zip_mem hq))
    rw [List.length_map, List.length_range]
    omega
  · rw [List.length_zipIdx]
    have := hb.1
    omega
theorem mv_r (p : List Int) (hb : Bd p) (hz : (fR p).length < 64) : ∃ s, bdMoves (ρM .r p .non) = some (.rt (.nw (.list (srtD ((nubL (fR p)).map tupD)))) (ρM .r p s)) := by
  have h := cLc_map (vs := [3]) (it := iE (cCall m_squares_in (aCons (cVar 1) aNil))) (g := gN 3) (f := cCall m_without_rim (aCons (cVar 1) (aCons (cVar 3) aNil))) (ρ := ρM .r p .non) (e := sqD) (l := sqs p) (fun q => tupD (laidI (rimL p q.1 q.2)))
    (iE_pu (cCall_args (args_pu rfl args_nil) (e_squares_in p hb)) rfl) rfl (fun q _ => ⟨[.pu (.str (gS .r)), .pu (tupD p), .non, .pu (sqD q), .non, .non], _, rfl, rfl, cCall_args (args_pu rfl (args_pu rfl args_nil)) (e_without_rim p hb q.1 q.2), rfl⟩) (line_le (by have := sqs_len p hb; omega))
  have hm : ((sqs p).map fun q => tupD (laidI (rimL p q.1 q.2))) = (fR p).map tupD := by
    unfold fR
    rw [List.map_map]; rfl
  rw [hm] at h
  refine ⟨_, (sSeq_nx ?_).trans (ret_set .r p (fR p) hz)⟩
  exact (sIf_f (tBl_eq (cOp2_pu rfl rfl eq_rh))).trans ((sIf_t (tBl_eq (cOp2_pu rfl rfl eq_rr))).trans (sAsg_nw h rfl))
theorem mv_e (p : List Int) (hb : Bd p) : ∃ s, bdMoves (ρM .e p .non) = some (.rt (.nw (.list (srtD ((nubL (fE p)).map tupD)))) (ρM .e p s)) := by
  have h : cLst (aCons (cSl mk opSl (cVar 1) (oSo (cC (.int 1))) oNo) (aCons (cCall m_without_column (aCons (cVar 1) (aCons (cC (.int 0)) aNil))) aNil)) (ρM .e p .non) = some (.nw (.list ((fE p).map tupD)), ρM .e p .non) :=
    cLst_args (args_pu (cSl_pu' rfl (oSo_pu (i := ((1 : Nat) : Int)) rfl) rfl (sl_fromT p 1)) (args_pu (cCall_args (args_pu rfl (args_pu rfl args_nil)) (e_without_column p hb 0)) args_nil)) (line_le (by show (2 : Nat) ≤ 1000000; decide))
  refine ⟨_, (sSeq_nx ?_).trans (ret_set .e p (fE p) (by show (2 : Nat) < 64; decide))⟩
  exact (sIf_f (tBl_eq (cOp2_pu rfl rfl eq_eh))).trans ((sIf_f (tBl_eq (cOp2_pu rfl rfl eq_er))).trans ((sIf_t (tBl_eq (cOp2_pu rfl rfl eq_ee))).trans (sAsg_nw h rfl)))
theorem fLen_t (p : List Int) : fLen [tupD p] = some (.int (p.length : Nat)) := by
  show some (PyData.int (((p.map PyData.int).length : Nat) : Int)) = _
  rw [List.length_map]
theorem mv_l (p : List Int) (hp : p ≠ []) (hb : Bd p) (hz : (fL p).length < 64) : ∃ s, bdMoves (ρM .l p .non) = some (.rt (.nw (.list (srtD ((nubL (fL p)).map tupD)))) (ρM .l p s)) := by
  have hl := hb.1
  obtain ⟨x, p', rfl⟩ : ∃ x p', p = x :: p' := by
    cases p with
    | nil => exact absurd rfl hp
    | cons x p' => exact ⟨x, p', rfl⟩
  generalize hq : x :: p' = p at *
  have hx : 0 ≤ x ∧ x ≤ 300 := hb.2 x (by rw [← hq]; exact List.mem_cons_self)
  have hd : p.headD 0 = x := by rw [← hq]; rfl
  have h1 := cLc_map (vs := [4]) (it := iRg1 (cOpA fLen (aCons (cVar 1) aNil))) (g := gN 4) (f := cOp2n opAdd (cSl mk opSl (cVar 1) oNo (oSo (cVar 4))) (cSl mk opSl (cVar 1) (oSo (cOp2n opAdd (cVar 4) (cC (.int 1)))) oNo)) (ρ := ρM .l p .non) (e := nD) (l := List.range p.length) (fun r => tupD (rmL p r))
    (by rw [iRg1_eq (cOpA_args (args_pu rfl args_nil) (fLen_t p)) (small_nat (by omega)), intsD_zero]; rfl) rfl (fun r _ => ⟨[.pu (.str (gS .l)), .pu (tupD p), .non, .non, .pu (nD r), .non], _, rfl, rfl, cOp2n_pu' (cSl_pu' rfl rfl (oSo_pu rfl) (sl_toT p r)) (cSl_pu' rfl (oSo_pu (i := ((r + 1 : Nat) : Int)) (cOp2n_pu' rfl rfl rfl)) rfl (sl_fromT p (r + 1))) (add_t (p.take r) (p.drop (r + 1)) (by rw [List.length_take, List.length_drop]; omega)), rfl⟩) (line_le (by rw [List.length_range]; omega))
  have m1 : ((List.range p.length).map fun r => tupD (rmL p r)) = ((List.range p.length).map fun r => rmL p r).map tupD := by rw [List.map_map]; rfl
  rw [m1] at h1
  have h2 : ∀ f : D, cLc [5] (iRg1 (cOp2 opIx (cVar 1) (cC (.int 0)))) (gN 5) tYes (cCall m_without_column (aCons (cVar 1) (aCons (cVar 5) aNil))) (ρM .l p (.pu f)) = some (.nw (.list (((List.range x.toNat).map fun c => laidI (colL p c)).map tupD)), ρM .l p (.pu f)) := fun f => by
    have q := cLc_map (vs := [5]) (it := iRg1 (cOp2 opIx (cVar 1) (cC (.int 0)))) (g := gN 5) (f := cCall m_without_column (aCons (cVar 1) (aCons (cVar 5) aNil))) (ρ := ρM .l p (.pu f)) (e := nD) (l := List.range x.toNat) (fun c => tupD (laidI (colL p c)))
      (by rw [iRg1_eq (cOp2_pu rfl rfl (ix_T p 0 x (by rw [← hq]; rfl))) (small_le hx.1 (by omega)), intsD_zero]; rfl) rfl (fun c _ => ⟨[.pu (.str (gS .l)), .pu (tupD p), .pu f, .non, .non, .pu (nD c)], _, rfl, rfl, cCall_args (args_pu rfl (args_pu rfl args_nil)) (e_without_column p hb c), rfl⟩) (line_le (by rw [List.length_range]; omega))
    rw [q, List.map_map]; rfl
  have e1 : sAsg 2 (cLc [4] (iRg1 (cOpA fLen (aCons (cVar 1) aNil))) (gN 4) tYes (cOp2n opAdd (cSl mk opSl (cVar 1) oNo (oSo (cVar 4))) (cSl mk opSl (cVar 1) (oSo (cOp2n opAdd (cVar 4) (cC (.int 1)))) oNo))) (ρM .l p .non) = some (.nx (ρM .l p (.pu (.list (((List.range p.length).map fun r => rmL p r).map tupD))))) := sAsg_nw h1 rfl
  have e2 : sAsg 2 (cOp2n opAdd (cVar 2) (cLc [5] (iRg1 (cOp2 opIx (cVar 1) (cC (.int 0)))) (gN 5) tYes (cCall m_without_column (aCons (cVar 1) (aCons (cVar 5) aNil))))) (ρM .l p (.pu (.list (((List.range p.length).map fun r => rmL p r).map tupD)))) = some (.nx (ρM .l p (.pu (.list ((fL p).map tupD))))) := by
    have q := add_ll ((List.range p.length).map fun r => rmL p r) ((List.range x.toNat).map fun c => laidI (colL p c)) (by
      rw [List.length_map, List.length_map, List.length_range, List.length_range]; omega)
    have ef : ((List.range p.length).map fun r => rmL p r) ++ ((List.range x.toNat).map fun c => laidI (colL p c)) = fL p := by unfold fL; rw [hd]
    rw [ef] at q
    exact sAsg_nw (cOp2n_pl' rfl (h2 _) q) rfl
  refine ⟨_, (sSeq_nx ?_).trans (ret_set .l p (fL p) hz)⟩
  exact (sIf_f (tBl_eq (cOp2_pu rfl rfl eq_lh))).trans ((sIf_f (tBl_eq (cOp2_pu rfl rfl eq_lr))).trans ((sIf_f (tBl_eq (cOp2_pu rfl rfl eq_le))).trans ((sSeq_nx e1).trans e2)))
theorem e_moves_in (g : Gm) (p : List Int) (hb : Bd p) (hz : (gF g p).length < 64) : m_moves_in [.v (.str (gS g)), .v (tupD p)] = some (.nw (.list (MV g p)), []) := by
  have et : cOp2 opEq (cVar 1) (cTup aNil) (ρM g p .non) = some (.pu (.bool p.isEmpty), ρM g p .non) := cOp2_pu rfl (cTup_args args_nil (Nat.zero_le _)) (eq_nilT p)
  by_cases hp : p = []
  · subst hp
    have e1 : b_moves_in (ρM g [] .non) = some (.rt (.nw (.list [])) (ρM g [] .non)) := by
      rw [b_moves_eq]
      exact sSeq_rt ((sIf_t (tBl_eq et)).trans (sRet_eq (cLst_args args_nil (Nat.zero_le _))))
    exact run_rn rfl rfl e1 rfl
  · have he : p.isEmpty = false := by cases p with
      | nil => exact absurd rfl hp
      | cons x p => rfl
    rw [he] at et
    unfold MV
    unfold gF at hz ⊢
    rw [if_neg hp] at hz ⊢
    have key : ∀ f, (∃ s, bdMoves (ρM g p .non) = some (.rt (.nw (.list f)) (ρM g p s))) → m_moves_in [.v (.str (gS g)), .v (tupD p)] = some (.nw (.list f), []) := fun f ⟨s, e⟩ => by
      refine run_rn rfl rfl (ρ0 := ρM g p .non) (ρ' := ρM g p s) ?_ ?_
      · rw [b_moves_eq]
        exact (sSeq_nx (sIf_f (tBl_eq et))).trans e
      · rfl
    cases g with
    | h => exact key _ (mv_h p hb hz)
    | r => exact key _ (mv_r p hb hz)
    | e => exact key _ (mv_e p hb)
    | l => exact key _ (mv_l p hp hb hz)

def fitsI (p : List Int) : Bool := heightsB 1 p && fallI p
theorem fits_bd {p : List Int} (h : fitsI p = true) : Bd p := by
  unfold fitsI heightsB at h
  simp only [Bool.and_eq_true, decide_eq_true_eq, List.all_eq_true] at h
  obtain ⟨⟨⟨h1, h2⟩, h3⟩, h4⟩ := h
  exact ⟨h1, fun x hx => by have := h2 x hx; omega⟩
theorem e_need_game (g : Gm) : m_need_game [.v (.str (gS g))] = some (.pu .none, []) := by
  cases g <;> kernel_rfl
theorem e_need_gp (g : Gm) (p : List Int) (h : fitsI p = true) : m_need_game_piles [.v (.str (gS g)), .v (tupD p)] = some (.pu .none, []) := by
  have hl := (fits_bd h).1
  have e : b_need_game_piles [.pu (.str (gS g)), .pu (tupD p)] = some (.nx [.pu (.str (gS g)), .pu (tupD p)]) :=
    (sSeq_nx (sExp_eq (cCall_args (args_pu rfl args_nil) (e_need_game g)))).trans (sExp_eq (cCall_args (args_pu rfl args_nil) (e_need_piles p (by omega) h)))
  exact run_nx rfl rfl e rfl
def fitsD : D → Bool
  | .tuple ds => match intsOf ds with
    | some ns => fitsI ns
    | none => false
  | _ => false
theorem tup_no (d : D) (h : ∀ ds, d ≠ .tuple ds) : m_is_tuple_of [.v d, .v (.int 0), .v (.int 300)] = some (.pu (.bool false), []) := by
  have hi : isiD "tuple" d = false := by
    cases d with
    | tuple ds => exact absurd rfl (h ds)
    | _ => rfl
  have e : b_is_tuple_of [.pu d, .pu (.int 0), .pu (.int 300)] = some (.rt (.pu (.bool false)) [.pu d, .pu (.int 0), .pu (.int 300)]) :=
    sRet_eq (cAnd_f (cOpn_pu' rfl (show opIsi "tuple" d = some (.bool false) by unfold opIsi; rw [hi])))
  exact run_rt rfl rfl e rfl
theorem heights_no (d : D) (h : m_is_tuple_of [.v d, .v (.int 0), .v (.int 300)] = some (.pu (.bool false), [])) : m_are_heights [.v d, .v (.int 1)] = some (.pu (.bool false), []) := by
  have e1 : tNot (tTru' (cCall m_is_tuple_of (aCons (cVar 0) (aCons (cC (.int 0)) (aCons (cC (.int 300)) aNil))))) [.pu d, .pu (.int 1), .non] = some (true, [.pu d, .pu (.int 1), .non]) :=
    tNot_eq (k := false) (tTru_b (cCall_args (args_pu rfl (args_pu rfl (args_pu rfl args_nil))) h))
  have e : b_are_heights [.pu d, .pu (.int 1), .non] = some (.rt (.pu (.bool false)) [.pu d, .pu (.int 1), .non]) := sSeq_rt ((sIf_t (tOr_t e1)).trans (sRet_eq rfl))
  exact run_rt rfl rfl e rfl
theorem fits_no (d : D) (h : m_are_heights [.v d, .v (.int 1)] = some (.pu (.bool false), [])) : m_fits_piles [.v d] = some (.pu (.bool false), []) := by
  have e : b_fits_piles [.pu d] = some (.rt (.pu (.bool false)) [.pu d]) := sRet_eq (cAnd_f (cCall_args (args_pu rfl (args_pu rfl args_nil)) h))
  exact run_rt rfl rfl e rfl
theorem not_ints : ∀ ds : List D, intsOf ds = none → (ds.map (wholeB 1 300)).all id = false
  | [], h => by cases h
  | d :: ds, h => by
    rw [List.map_cons, List.all_cons]
    cases d with
    | int i =>
      have q : (intsOf ds).bind (fun ns => some (i :: ns)) = none := h
      cases e : intsOf ds with
      | none => rw [not_ints ds e, Bool.and_false]
      | some ns => rw [e] at q; cases q
    | _ => rfl
theorem heights_odd (ds : List D) (hz : ds.length ≤ 300) (h : intsOf ds = none) : m_are_heights [.v (.tuple ds), .v (.int 1)] = some (.pu (.bool false), []) := by
  have c := cLc_map (vs := [2]) (it := iE (cVar 0)) (g := gN 2) (f := cCall m_is_whole (aCons (cVar 2) (aCons (cVar 1) (aCons (cC (.int 300)) aNil)))) (ρ := [.pu (.tuple ds), .pu (.int 1), .non]) (e := fun d => d) (l := ds) (fun d => .bool (wholeB 1 300 d))
    (by rw [List.map_id']; exact iE_pu (x := .tuple ds) rfl rfl) rfl (fun d _ => ⟨[.pu (.tuple ds), .pu (.int 1), .pu d], _, rfl, rfl, cCall_args (args_pu rfl (args_pu rfl (args_pu rfl args_nil))) (e_is_whole d 1 300), rfl⟩) (line_le (by omega))
  have ha : fAll [.list (ds.map fun d => .bool (wholeB 1 300 d))] = some (.bool false) := by
    have q : fAll [.list (ds.map fun d => .bool (wholeB 1 300 d))] = (boolsOf (ds.map fun d => .bool (wholeB 1 300 d))).bind fun bs => some (.bool (bs.all id)) := rfl
    rw [boolsOf_maps] at q
    rw [q]
    show some (PyData.bool ((ds.map (wholeB 1 300)).all id)) = _
    rw [not_ints ds h]
  have e0 : m_is_tuple_of [.v (.tuple ds), .v (.int 0), .v (.int 300)] = some (.pu (.bool true), []) := by
    rw [e_is_tuple_of]
    have h1 : (decide ((0 : Int) ≤ ds.length) && decide ((ds.length : Int) ≤ 300)) = true := by
      rw [decide_eq_true (by omega), decide_eq_true (by omega)]; rfl
    rw [h1]
  have e1 : tNot (tTru' (cCall m_is_tuple_of (aCons (cVar 0) (aCons (cC (.int 0)) (aCons (cC (.int 300)) aNil))))) [.pu (.tuple ds), .pu (.int 1), .non] = some (false, [.pu (.tuple ds), .pu (.int 1), .non]) :=
    tNot_eq (k := true) (tTru_b (cCall_args (args_pu rfl (args_pu rfl (args_pu rfl args_nil))) e0))
  have e2 := tNot_eq (k := false) (tTru_b (cOpA_args (op := fAll) (args_nw c args_nil) ha))
  have e : b_are_heights [.pu (.tuple ds), .pu (.int 1), .non] = some (.rt (.pu (.bool false)) [.pu (.tuple ds), .pu (.int 1), .non]) := sSeq_rt ((sIf_t (tOr_ff e1 e2)).trans (sRet_eq rfl))
  exact run_rt rfl rfl e rfl
theorem e_fits_any (d : D) (hz : ∀ ds, d = .tuple ds → ds.length ≤ 1000) : m_fits_piles [.v d] = some (.pu (.bool (fitsD d)), []) := by
  by_cases ht : ∃ ds, d = .tuple ds
  · obtain ⟨ds, rfl⟩ := ht
    have hl := hz ds rfl
    cases e : intsOf ds with
    | some ns =>
      have hf : fitsD (.tuple ds) = fitsI ns := by show (match intsOf ds with | some ns => fitsI ns | none => false) = _; rw [e]
      rw [hf, intsOf_eq e]
      exact e_fits_piles ns (by rw [intsOf_eq e, List.length_map] at hl; exact hl)
    | none =>
      have hf : fitsD (.tuple ds) = false := by show (match intsOf ds with | some ns => fitsI ns | none => false) = _; rw [e]
      rw [hf]
      refine fits_no _ ?_
      by_cases h3 : ds.length ≤ 300
      · exact heights_odd ds h3 e
      · refine heights_no _ ?_
        rw [e_is_tuple_of]
        have h1 : (decide ((0 : Int) ≤ ds.length) && decide ((ds.length : Int) ≤ 300)) = false := by
          rw [decide_eq_false (p := (ds.length : Int) ≤ 300) (by omega), Bool.and_false]
        rw [h1]
  · have hf : fitsD d = false := by
      cases d with
      | tuple ds => exact absurd ⟨ds, rfl⟩ ht
      | _ => rfl
    rw [hf]
    exact fits_no _ (heights_no _ (tup_no d fun ds e => ht ⟨ds, e⟩))
theorem fits_shape {d : D} (h : fitsD d = true) : ∃ ns, d = tupD ns ∧ fitsI ns = true := by
  cases d with
  | tuple ds =>
    have h' : (match intsOf ds with | some ns => fitsI ns | none => false) = true := h
    cases e : intsOf ds with
    | some ns =>
      rw [e] at h'
      exact ⟨ns, by rw [intsOf_eq e]; rfl, h'⟩
    | none => rw [e] at h'; cases h'
  | _ => cases h
def inB (d : D) (ds : List D) : Bool := ds.any fun z => PyData.eqv z d
theorem depth_tup1 (ns : List Int) : (tupD ns).depth = 1 := by
  show (PyData.tuple (ns.map .int)).depth = 1
  rw [PyData.depth, PySem.W.depth_ints]
theorem in_list (ns : List Int) (ds : List D) : opIn (tupD ns) (.list ds) = some (.bool (inB (tupD ns) ds)) := by
  have h : min (PyData.depthAll ds) (tupD ns).depth ≤ 64 := by rw [depth_tup1]; omega
  show (if min (PyData.depthAll ds) (tupD ns).depth ≤ 64 then some (PyData.bool (false ^^ ds.any fun z => PyData.eqv z (tupD ns))) else none) = _
  rw [if_pos h, Bool.false_xor]
  rfl
theorem in_tup (ns : List Int) (ds : List D) : opIn (tupD ns) (.tuple ds) = some (.bool (inB (tupD ns) ds)) := by
  have h : min (PyData.depthAll ds) (tupD ns).depth ≤ 64 := by rw [depth_tup1]; omega
  show (if min (PyData.depthAll ds) (tupD ns).depth ≤ 64 then some (PyData.bool (false ^^ ds.any fun z => PyData.eqv z (tupD ns))) else none) = _
  rw [if_pos h, Bool.false_xor]
  rfl
theorem forGo_ct {g : FG} {b : FS} {x : D} {ds : List D} {ρ ρ1 ρ2 : Rho} (h1 : g x ρ = some ρ1) (h2 : b ρ1 = some (.ct ρ2)) : forGo g b (x :: ds) ρ = forGo g b ds ρ2 := by
  show (g x ρ).bind _ = _
  rw [h1]
  show (b ρ1).bind _ = _
  rw [h2]
  rfl
theorem sSeq_ct {a b : FS} {ρ ρ' : Rho} (h : a ρ = some (.ct ρ')) : sSeq a b ρ = some (.ct ρ') := by
  show (a ρ).bind _ = _
  rw [h]
  rfl
theorem fSortG_ints (ns : List Int) : fSortG [.list (ns.map .int)] = some (.list ((srtUp ns).map .int)) := by
  have q : fSortG [.list (ns.map .int)] = (match intsOf (ns.map .int) with
      | some ns => some (PyData.list ((srtUp ns).map .int))
      | none => if (alikeB (ns.map PyData.int) && sortableB (ns.map PyData.int) && (ns.map PyData.int).all fun d : D => decide (d.depth ≤ 60)) = true then some (PyData.list (srtD (ns.map PyData.int))) else none) := rfl
  rw [intsOf_map] at q
  exact q
theorem e_law_laidX (ns : List Int) (hz : ns.length ≤ 95000) : m__law_laid [.v (.list (ns.map .int))] = some (.pu (tupD (laidI ns)), []) := by
  have h := cLc_of (vs := [1]) (it := iE (cVar 0)) (g := gN 1) (t := tBl (cOp2 opGt (cVar 1) (cC (.int 0)))) (f := cVar 1) (ρ := [.pu (.list (ns.map .int)), .non]) (e := iD) (l := ns) (fun n => decide (0 < n)) iD
    (iE_pu (x := .list (ns.map .int)) rfl rfl) rfl (fun n _ => ⟨[.pu (.list (ns.map .int)), .pu (.int n)], rfl, rfl, tBl_eq (cOp2_pu rfl rfl rfl), fun _ => ⟨_, rfl, rfl⟩⟩) (line_le (by omega))
  have e1 := cOpAn_args' (op := fSortG) (args_nw h args_nil) (fSortG_ints (ns.filter fun n => decide (0 < n)))
  have hr : opRev (.list ((srtUp (ns.filter fun n => decide (0 < n))).map .int)) = some (.list ((laidI ns).map .int)) := by
    show some (PyData.list ((srtUp (ns.filter fun n => decide (0 < n))).map .int).reverse) = _
    rw [← List.map_reverse]
    rfl
  have e2 : b__law_laid [.pu (.list (ns.map .int)), .non] = some (.rt (.pu (tupD (laidI ns))) [.pu (.list (ns.map .int)), .non]) :=
    sRet_eq (cOpA_args (args_nw (cOpn_nw' e1 hr) args_nil) (fTuple_l _))
  exact run_rt rfl rfl e2 rfl
theorem e_law_laid (ns : List Int) (hz : ns.length ≤ 1000) : m__law_laid [.v (.list (ns.map .int))] = some (.pu (tupD (laidI ns)), []) := e_law_laidX ns (by omega)
def dI (C : List (Nat × Nat)) : List (D × D) := C.map fun p => (nD p.1, nD p.2)
def getI : List (Nat × Nat) → Nat → Nat
  | [], _ => 0
  | p :: r, k => if p.1 = k then p.2 else getI r k
def bumpI : List (Nat × Nat) → Nat → List (Nat × Nat)
  | [], k => [(k, 1)]
  | p :: r, k => if p.1 = k then (p.1, p.2 + 1) :: r else p :: bumpI r k
theorem eqD_n (a b : Nat) : eqD (nD a) (nD b) = decide (a = b) := by
  show decide ((a : Int) = b) = _
  by_cases h : a = b
  · subst h; simp
  · rw [decide_eq_false h, decide_eq_false (by omega)]
theorem find_dI : ∀ (C : List (Nat × Nat)) (k : Nat), (dfind (dI C) (nD k)).getD (nD 0) = nD (getI C k)
  | [], k => rfl
  | p :: r, k => by
    show ((if eqD (nD p.1) (nD k) = true then some (nD p.2) else dfind (dI r) (nD k)).getD (nD 0)) = nD (if p.1 = k then p.2 else getI r k)
    rw [eqD_n]
    by_cases h : p.1 = k
    · rw [if_pos (decide_eq_true h), if_pos h]; rfl
    · rw [if_neg (by simp [h]), if_neg h]; exact find_dI r k
theorem bump_keys : ∀ (C : List (Nat × Nat)) (k x : Nat), x ∈ (bumpI C k).map (·.1) ↔ x = k ∨ x ∈ C.map (·.1)
  | [], k, x => by simp [bumpI]
  | p :: r, k, x => by
    unfold bumpI
    by_cases h : p.1 = k
    · rw [if_pos h]
      simp only [List.map_cons, List.mem_cons]
      rw [← h]
      constructor
      · intro q; exact .inr q
      · intro q; rcases q with q | q
        · exact .inl q
        · exact q
    · rw [if_neg h]
      simp only [List.map_cons, List.mem_cons]
      rw [bump_keys r k x]
      constructor
      · intro q; rcases q with q | q | q
        · exact .inr (.inl q)
        · exact .inl q
        · exact .inr (.inr q)
      · intro q; rcases q with q | q | q
        · exact .inr (.inl q)
        · exact .inl q
        · exact .inr (.inr q)
theorem bump_nodup : ∀ (C : List (Nat × Nat)) (k : Nat), (C.map (·.1)).Nodup → ((bumpI C k).map (·.1)).Nodup
  | [], k, _ => by simp [bumpI]
  | p :: r, k, h => by
    unfold bumpI
    by_cases e : p.1 = k
    · rw [if_pos e]; exact h
    · rw [if_neg e]
      rw [List.map_cons, List.nodup_cons] at h ⊢
      refine ⟨fun q => ?_, bump_nodup r k h.2⟩
      rcases (bump_keys r k p.1).mp q with q | q
      · exact e q
      · exact h.1 q
theorem bump_get : ∀ (C : List (Nat × Nat)) (k x : Nat), getI (bumpI C k) x = getI C x + (if k = x then 1 else 0)
  | [], k, x => by
    show (if k = x then 1 else 0) = 0 + _
    rw [Nat.zero_add]
  | p :: r, k, x => by
    unfold bumpI
    by_cases e : p.1 = k
    · rw [if_pos e]
      show (if p.1 = x then p.2 + 1 else getI r x) = (if p.1 = x then p.2 else getI r x) + _
      rw [e]
      by_cases h : k = x
      · rw [if_pos h, if_pos h, if_pos h]
      · rw [if_neg h, if_neg h, if_neg h, Nat.add_zero]
    · rw [if_neg e]
      show (if p.1 = x then p.2 else getI (bumpI r k) x) = (if p.1 = x then p.2 else getI r x) + _
      by_cases h : p.1 = x
      · rw [if_pos h, if_pos h, if_neg (fun z => e (h.trans z.symm)), Nat.add_zero]
      · rw [if_neg h, if_neg h, bump_get r k x]
theorem bump_len : ∀ (C : List (Nat × Nat)) (k : Nat), (bumpI C k).length ≤ C.length + 1
  | [], k => by simp [bumpI]
  | p :: r, k => by
    unfold bumpI
    split
    · simp
    · have := bump_len r k
      simp only [List.length_cons]
      omega
theorem get_no : ∀ (C : List (Nat × Nat)) (k : Nat), k ∉ C.map (·.1) → getI C k = 0
  | [], k, _ => rfl
  | p :: r, k, h => by
    rw [List.map_cons, List.mem_cons, not_or] at h
    show (if p.1 = k then p.2 else getI r k) = 0
    rw [if_neg (Ne.symm h.1)]
    exact get_no r k h.2
theorem put_dI : ∀ (C : List (Nat × Nat)) (k : Nat), (C.map (·.1)).Nodup → dputD (dI C) (nD k) (nD (getI C k + 1)) = dI (bumpI C k) := by
  have put_no : ∀ (C : List (Nat × Nat)) (k : Nat) (v : D), k ∉ C.map (·.1) → (dI C).map (fun p => if eqD p.1 (nD k) = true then (p.1, v) else p) = dI C := by
    intro C k v h
    unfold dI
    rw [List.map_map]
    refine List.map_congr_left fun p hp => ?_
    show (if eqD (nD p.1) (nD k) = true then (nD p.1, v) else (nD p.1, nD p.2)) = _
    rw [eqD_n, if_neg]
    intro z
    exact h (List.mem_map.mpr ⟨p, hp, of_decide_eq_true z⟩)
  have any_dI : ∀ (C : List (Nat × Nat)) (k : Nat), ((dI C).any fun p => eqD p.1 (nD k)) = decide (k ∈ C.map (·.1)) := by
    intro C k
    unfold dI
    rw [List.any_map]
    rw [Bool.eq_iff_iff, List.any_eq_true, decide_eq_true_iff, List.mem_map]
    constructor
    · rintro ⟨p, hp, h⟩
      exact ⟨p, hp, of_decide_eq_true ((eqD_n p.1 k).symm.trans h)⟩
    · rintro ⟨p, hp, h⟩
      exact ⟨p, hp, (eqD_n p.1 k).trans (decide_eq_true h)⟩
  intro C
  induction C with
  | nil => intro k _; rfl
  | cons p r ih =>
    intro k nd
    rw [List.map_cons, List.nodup_cons] at nd
    unfold dputD
    rw [any_dI]
    unfold bumpI
    by_cases e : p.1 = k
    · rw [if_pos (decide_eq_true (by rw [← e]; exact List.mem_cons_self)), if_pos e]
      have hr := put_no r k (nD (p.2 + 1)) (by rw [← e]; exact nd.1)
      have hg : getI (p :: r) k = p.2 := by show (if p.1 = k then p.2 else getI r k) = _; rw [if_pos e]
      rw [hg]
      show (if eqD (nD p.1) (nD k) = true then (nD p.1, nD (p.2 + 1)) else (nD p.1, nD p.2)) :: _ = _
      rw [eqD_n, if_pos (decide_eq_true e)]
      show _ :: (dI r).map _ = _
      rw [hr]
      rfl
    · rw [if_neg e]
      have hg : getI (p :: r) k = getI r k := by show (if p.1 = k then p.2 else getI r k) = _; rw [if_neg e]
      rw [hg]
      have ih' := ih k nd.2
      unfold dputD at ih'
      rw [any_dI] at ih'
      by_cases hm : k ∈ r.map (·.1)
      · rw [if_pos (decide_eq_true (show k ∈ (p :: r).map (·.1) from List.mem_cons_of_mem _ hm))]
        rw [if_pos (decide_eq_true hm)] at ih'
        show (if eqD (nD p.1) (nD k) = true then _ else (nD p.1, nD p.2)) :: (dI r).map _ = _
        rw [eqD_n, if_neg (by simp [e]), ih']
        rfl
      · rw [if_neg (by simp only [decide_eq_true_eq, List.map_cons, List.mem_cons, not_or]; exact ⟨Ne.symm e, hm⟩)]
        rw [if_neg (by simp only [decide_eq_true_eq]; exact hm)] at ih'
        show (nD p.1, nD p.2) :: (dI r ++ _) = _
        rw [ih']
        rfl
theorem okK_dI (C : List (Nat × Nat)) (k : Nat) : okK (dI C) (nD k) = true := by
  cases C <;> rfl

theorem line_lt {n : Nat} (h : n ≤ 1000000) : n < lineN := by
  have : lineN = 16777216 := rfl
  omega
theorem eqN (a b : Nat) : opEq (nD a) (nD b) = some (.bool (decide (a = b))) := by
  show opEq (.int a) (.int b) = _
  rw [opEq_int]
  congr 2
  rw [Bool.eq_iff_iff, beq_iff_eq, decide_eq_true_iff]
  omega
theorem geN (a b : Nat) : opGe (nD a) (nD b) = some (.bool (decide (b ≤ a))) := by
  show some (PyData.bool (decide ((a : Int) ≥ b))) = _
  congr 2
  rw [decide_eq_decide]
  omega
theorem gtN (a b : Nat) : opGt (nD a) (nD b) = some (.bool (decide (b < a))) := by
  show some (PyData.bool (decide ((a : Int) > b))) = _
  congr 2
  rw [decide_eq_decide]
  omega
theorem tAnd_kk {a b : FT} {ρ : Rho} {k l : Bool} (h1 : a ρ = some (k, ρ)) (h2 : b ρ = some (l, ρ)) : tAnd a b ρ = some (k && l, ρ) := by
  cases k with
  | true => exact tAnd_tt h1 h2
  | false => exact tAnd_f h1
theorem tOr_kk {a b : FT} {ρ : Rho} {k l : Bool} (h1 : a ρ = some (k, ρ)) (h2 : b ρ = some (l, ρ)) : tOr a b ρ = some (k || l, ρ) := by
  cases k with
  | true => exact tOr_t h1
  | false => exact tOr_ff h1 h2
def hookB (r c at_ pl : Nat) : Bool := (decide (at_ = r) && decide (c ≤ pl)) || (decide (pl = c) && decide (r ≤ at_))
def near (r c at_ pl : Nat) : Nat := if r < at_ ∧ c < pl then at_ - 1 else at_
def bdRim : FS := (sSeq (sIf (tOr (tAnd (tBl (cOp2 opEq (cVar 4) (cVar 1))) (tBl (cOp2 opGe (cVar 5) (cVar 2)))) (tAnd (tBl (cOp2 opEq (cVar 5) (cVar 2))) (tBl (cOp2 opGe (cVar 4) (cVar 1))))) sCont sPass)
  (sSeq (sAsg 6 (cIf (tAnd (tBl (cOp2 opGt (cVar 4) (cVar 1))) (tBl (cOp2 opGt (cVar 5) (cVar 2)))) (cOp2 opSub (cVar 4) (cC (.int 1))) (cVar 4)))
  (sDSet 3 (cVar 6) (cOp2n opAdd (cDGet2 3 (cVar 6) (cC (.int 0))) (cC (.int 1))))))
def ρR (p : List Int) (r c : Nat) (C : List (Nat × Nat)) (s4 s5 s6 : Sl) : Rho := [.pu (tupD p), .pu (nD r), .pu (nD c), .own (.dict (dI C)), s4, s5, s6]
def stp (r c at_ : Nat) (C : List (Nat × Nat)) (pl : Nat) : List (Nat × Nat) := if hookB r c at_ pl = true then C else bumpI C (near r c at_ pl)
theorem dI_len (C : List (Nat × Nat)) : (dI C).length = C.length := by unfold dI; rw [List.length_map]
theorem set6 {p : List Int} {r c : Nat} {C : List (Nat × Nat)} {s4 s5 s6 : Sl} (h : plainS (some s6) = true) (d : D) : setS 6 (.pu d) (ρR p r c C s4 s5 s6) = some (ρR p r c C s4 s5 (.pu d)) := by
  cases s6 <;> first | rfl | cases h
theorem set5 {p : List Int} {r c : Nat} {C : List (Nat × Nat)} {s4 s5 s6 : Sl} (h : plainS (some s5) = true) (d : D) : setS 5 (.pu d) (ρR p r c C s4 s5 s6) = some (ρR p r c C s4 (.pu d) s6) := by
  cases s5 <;> first | rfl | cases h
theorem set4 {p : List Int} {r c : Nat} {C : List (Nat × Nat)} {s4 s5 s6 : Sl} (h : plainS (some s4) = true) (d : D) : setS 4 (.pu d) (ρR p r c C s4 s5 s6) = some (ρR p r c C (.pu d) s5 s6) := by
  cases s4 <;> first | rfl | cases h
theorem rim_body (p : List Int) (r c at_ pl : Nat) (C : List (Nat × Nat)) (s6 : Sl) (h6 : plainS (some s6) = true) (nd : (C.map (·.1)).Nodup) (hl : C.length ≤ 99000) :
    ∃ s6', plainS (some s6') = true ∧ (bdRim (ρR p r c C (.pu (nD at_)) (.pu (nD pl)) s6) = some (.nx (ρR p r c (stp r c at_ C pl) (.pu (nD at_)) (.pu (nD pl)) s6')) ∨
      bdRim (ρR p r c C (.pu (nD at_)) (.pu (nD pl)) s6) = some (.ct (ρR p r c (stp r c at_ C pl) (.pu (nD at_)) (.pu (nD pl)) s6'))) := by
  have et : tOr (tAnd (tBl (cOp2 opEq (cVar 4) (cVar 1))) (tBl (cOp2 opGe (cVar 5) (cVar 2)))) (tAnd (tBl (cOp2 opEq (cVar 5) (cVar 2))) (tBl (cOp2 opGe (cVar 4) (cVar 1)))) (ρR p r c C (.pu (nD at_)) (.pu (nD pl)) s6) = some (hookB r c at_ pl, ρR p r c C (.pu (nD at_)) (.pu (nD pl)) s6) :=
    tOr_kk (tAnd_kk (tBl_eq (cOp2_pu rfl rfl (eqN _ _))) (tBl_eq (cOp2_pu rfl rfl (geN _ _)))) (tAnd_kk (tBl_eq (cOp2_pu rfl rfl (eqN _ _))) (tBl_eq (cOp2_pu rfl rfl (geN _ _))))
  cases hh : hookB r c at_ pl with
  | true =>
    rw [hh] at et
    refine ⟨s6, h6, .inr ?_⟩
    have e : stp r c at_ C pl = C := by unfold stp; rw [if_pos hh]
    rw [e]
    exact sSeq_ct ((sIf_t et).trans rfl)
  | false =>
    rw [hh] at et
    refine ⟨.pu (nD (near r c at_ pl)), rfl, .inl ?_⟩
    have e : stp r c at_ C pl = bumpI C (near r c at_ pl) := by unfold stp; rw [if_neg (by rw [hh]; exact Bool.false_ne_true)]
    rw [e]
    have en : cIf (tAnd (tBl (cOp2 opGt (cVar 4) (cVar 1))) (tBl (cOp2 opGt (cVar 5) (cVar 2)))) (cOp2 opSub (cVar 4) (cC (.int 1))) (cVar 4) (ρR p r c C (.pu (nD at_)) (.pu (nD pl)) s6) = some (.pu (nD (near r c at_ pl)), ρR p r c C (.pu (nD at_)) (.pu (nD pl)) s6) := by
      have ea : tAnd (tBl (cOp2 opGt (cVar 4) (cVar 1))) (tBl (cOp2 opGt (cVar 5) (cVar 2))) (ρR p r c C (.pu (nD at_)) (.pu (nD pl)) s6) = some (decide (r < at_) && decide (c < pl), ρR p r c C (.pu (nD at_)) (.pu (nD pl)) s6) :=
        tAnd_kk (tBl_eq (cOp2_pu rfl rfl (gtN _ _))) (tBl_eq (cOp2_pu rfl rfl (gtN _ _)))
      unfold near
      by_cases hn : r < at_ ∧ c < pl
      · rw [if_pos hn]
        rw [decide_eq_true hn.1, decide_eq_true hn.2] at ea
        have es : opSub (nD at_) (.int 1) = some (nD (at_ - 1)) := by
          show some (PyData.int ((at_ : Int) - 1)) = some (PyData.int ((at_ - 1 : Nat) : Int))
          congr 2
          omega
        exact (cIf_t ea).trans (cOp2_pu rfl rfl es)
      · rw [if_neg hn]
        have eb : (decide (r < at_) && decide (c < pl)) = false := by
          rw [Bool.eq_false_iff]
          intro z
          rw [Bool.and_eq_true, decide_eq_true_eq, decide_eq_true_eq] at z
          exact hn z
        rw [eb] at ea
        exact (cIf_f ea).trans rfl
    have e1 := sAsg_pu en (set6 h6 (nD (near r c at_ pl)))
    generalize near r c at_ pl = k at e1 ⊢
    have eg : cDGet2 3 (cVar 6) (cC (.int 0)) (ρR p r c C (.pu (nD at_)) (.pu (nD pl)) (.pu (nD k))) = some (.pu (nD (getI C k)), ρR p r c C (.pu (nD at_)) (.pu (nD pl)) (.pu (nD k))) := by
      have q := cDGet2_pu (i := 3) (k := cVar 6) (e := cC (.int 0)) (ρ := ρR p r c C (.pu (nD at_)) (.pu (nD pl)) (.pu (nD k))) (kv0 := dI C) rfl rfl rfl (kvs := dI C) rfl (okK_dI C k)
      have f := find_dI C k
      have f' : (dfind (dI C) (nD k)).getD (.int 0) = nD (getI C k) := f
      rw [f'] at q
      exact q
    have e2 : sDSet 3 (cVar 6) (cOp2n opAdd (cDGet2 3 (cVar 6) (cC (.int 0))) (cC (.int 1))) (ρR p r c C (.pu (nD at_)) (.pu (nD pl)) (.pu (nD k))) = some (.nx (ρR p r c (bumpI C k) (.pu (nD at_)) (.pu (nD pl)) (.pu (nD k)))) := by
      refine sDSet_pu (d := nD (getI C k + 1)) (kd := nD k) (kvs := dI C) (cOp2n_pu' eg rfl rfl) rfl rfl (okK_dI C k) (by rw [dI_len]; exact Nat.lt_of_le_of_lt hl (line_lt (by omega))) ?_
      rw [put_dI C k nd]
      rfl
    exact (sSeq_nx (sIf_f et)).trans ((sSeq_nx e1).trans e2)
theorem stp_len (r c at_ pl : Nat) (C : List (Nat × Nat)) : (stp r c at_ C pl).length ≤ C.length + 1 := by
  unfold stp
  split
  · omega
  · exact bump_len _ _
theorem stp_nd (r c at_ pl : Nat) (C : List (Nat × Nat)) (h : (C.map (·.1)).Nodup) : ((stp r c at_ C pl).map (·.1)).Nodup := by
  unfold stp
  split
  · exact h
  · exact bump_nodup _ _ h
theorem inner_go (p : List Int) (r c at_ : Nat) : ∀ (l : List Nat) (C : List (Nat × Nat)) (s5 s6 : Sl), plainS (some s5) = true → plainS (some s6) = true → (C.map (·.1)).Nodup → C.length + l.length ≤ 99000 →
    ∃ s5' s6', plainS (some s5') = true ∧ plainS (some s6') = true ∧ forGo (gN 5) bdRim (l.map nD) (ρR p r c C (.pu (nD at_)) s5 s6) = some (.nx (ρR p r c (l.foldl (stp r c at_) C) (.pu (nD at_)) s5' s6'))
  | [], C, s5, s6, h5, h6, _, _ => ⟨s5, s6, h5, h6, rfl⟩
  | pl :: l, C, s5, s6, h5, h6, nd, hl => by
    rw [List.length_cons] at hl
    obtain ⟨s6', h6', e⟩ := rim_body p r c at_ pl C s6 h6 nd (by omega)
    have := stp_len r c at_ pl C
    obtain ⟨t5, t6, k5, k6, e2⟩ := inner_go p r c at_ l (stp r c at_ C pl) (.pu (nD pl)) s6' rfl h6' (stp_nd r c at_ pl C nd) (by omega)
    refine ⟨t5, t6, k5, k6, ?_⟩
    rw [List.map_cons, List.foldl_cons]
    rcases e with e | e
    · exact (forGo_nx (set5 h5 (nD pl)) e).trans e2
    · exact (forGo_ct (set5 h5 (nD pl)) e).trans e2
def rowC (p : List Int) (r c : Nat) (C : List (Nat × Nat)) (at_ : Nat) : List (Nat × Nat) := (List.range (p.getD at_ 0).toNat).foldl (stp r c at_) C
theorem fold_len (r c at_ : Nat) : ∀ (l : List Nat) (C : List (Nat × Nat)), (l.foldl (stp r c at_) C).length ≤ C.length + l.length
  | [], C => by simp
  | pl :: l, C => by
    have h1 := fold_len r c at_ l (stp r c at_ C pl)
    have h2 := stp_len r c at_ pl C
    rw [List.foldl_cons, List.length_cons]
    omega
theorem fold_nd (r c at_ : Nat) : ∀ (l : List Nat) (C : List (Nat × Nat)), (C.map (·.1)).Nodup → ((l.foldl (stp r c at_) C).map (·.1)).Nodup
  | [], C, h => h
  | pl :: l, C, h => fold_nd r c at_ l _ (stp_nd r c at_ pl C h)
theorem outer_go (p : List Int) (hb : Bd p) (r c : Nat) : ∀ (l : List Nat) (C : List (Nat × Nat)) (s4 s5 s6 : Sl), plainS (some s4) = true → plainS (some s5) = true → plainS (some s6) = true → (C.map (·.1)).Nodup → (∀ a ∈ l, a < p.length) → C.length + l.length * 300 ≤ 95000 →
    ∃ s4' s5' s6', plainS (some s4') = true ∧ plainS (some s5') = true ∧ plainS (some s6') = true ∧ forGo (gN 4) (sFor (iRg1 (cOp2 opIx (cVar 0) (cVar 4))) (gN 5) bdRim) (l.map nD) (ρR p r c C s4 s5 s6) = some (.nx (ρR p r c (l.foldl (rowC p r c) C) s4' s5' s6'))
  | [], C, s4, s5, s6, h4, h5, h6, _, _, _ => ⟨s4, s5, s6, h4, h5, h6, rfl⟩
  | a :: l, C, s4, s5, s6, h4, h5, h6, nd, hm, hl => by
    rw [List.length_cons] at hl
    have ha := hm a List.mem_cons_self
    have hx := hb.2 _ (List.getElem_mem ha)
    have hd : p.getD a 0 = p[a] := by rw [List.getD_eq_getElem?_getD, List.getElem?_eq_getElem ha]; rfl
    have hlen : (List.range (p.getD a 0).toNat).length ≤ 300 := by rw [List.length_range, hd]; omega
    obtain ⟨s5', s6', k5, k6, e⟩ := inner_go p r c a (List.range (p.getD a 0).toNat) C s5 s6 h5 h6 nd (by omega)
    have ei : iRg1 (cOp2 opIx (cVar 0) (cVar 4)) (ρR p r c C (.pu (nD a)) s5 s6) = some ((List.range (p.getD a 0).toNat).map nD, ρR p r c C (.pu (nD a)) s5 s6) := by
      rw [iRg1_eq (j := p[a]) (cOp2_pu rfl rfl (ix_T p a _ (List.getElem?_eq_getElem ha))) (small_le hx.1 (by omega)), intsD_zero, hd]
      rfl
    have h1 := fold_len r c a (List.range (p.getD a 0).toNat) C
    obtain ⟨t4, t5, t6, j4, j5, j6, e2⟩ := outer_go p hb r c l (rowC p r c C a) (.pu (nD a)) s5' s6' rfl k5 k6 (fold_nd r c a _ C nd) (fun b hb => hm b (List.mem_cons_of_mem _ hb)) (by unfold rowC; omega)
    refine ⟨t4, t5, t6, j4, j5, j6, ?_⟩
    rw [List.map_cons, List.foldl_cons]
    exact (forGo_nx (set4 h4 (nD a)) ((sFor_eq ei).trans e)).trans e2

theorem leD_int (a b : Int) : leD (.int a) (.int b) = decide (a ≤ b) := by
  have q := congrFun (congrFun (PySem.W.dataLe_int (fun n : Int => n)) a) b
  exact q
theorem srtD_ints : ∀ ns : List Int, srtD (ns.map .int) = (srtUp ns).map .int
  | [] => rfl
  | a :: ns => by
    have ins : ∀ l : List Int, insD (.int a) (l.map .int) = (insUp a l).map .int := by
      intro l
      induction l with
      | nil => rfl
      | cons b l ih =>
        show (if leD (.int a) (.int b) = true then _ else _) = ((if a ≤ b then a :: b :: l else b :: insUp a l).map PyData.int)
        rw [leD_int]
        by_cases h : a ≤ b
        · rw [if_pos (decide_eq_true h), if_pos h]; rfl
        · rw [if_neg (by simp [h]), if_neg h]
          show _ :: insD (.int a) (l.map .int) = _
          rw [ih]; rfl
    show insD (.int a) (srtD (ns.map .int)) = _
    rw [srtD_ints ns, ins]
    rfl
theorem keys_dI (C : List (Nat × Nat)) : (dI C).map (·.1) = (C.map (·.1)).map nD := by
  unfold dI
  rw [List.map_map, List.map_map]
  rfl
theorem find_some : ∀ (C : List (Nat × Nat)) (k : Nat), k ∈ C.map (·.1) → dfind (dI C) (nD k) = some (nD (getI C k))
  | p :: r, k, h => by
    show (if eqD (nD p.1) (nD k) = true then some (nD p.2) else dfind (dI r) (nD k)) = some (nD (if p.1 = k then p.2 else getI r k))
    rw [eqD_n]
    by_cases e : p.1 = k
    · rw [if_pos (decide_eq_true e), if_pos e]
    · rw [if_neg (by simp [e]), if_neg e]
      rw [List.map_cons, List.mem_cons] at h
      exact find_some r k (h.resolve_left (Ne.symm e))
  | [], k, h => nomatch h
theorem nD_alike (ks : List Nat) : alikeB (ks.map nD) = true := by
  unfold alikeB
  rw [List.all_eq_true]
  intro d hd
  obtain ⟨a, _, rfl⟩ := List.mem_map.mp hd
  rw [List.all_eq_true]
  intro e he
  obtain ⟨b, _, rfl⟩ := List.mem_map.mp he
  rfl
theorem nD_sortable (ks : List Nat) : sortableB (ks.map nD) = true := by
  unfold sortableB
  rw [Bool.or_eq_true]
  refine .inr ?_
  rw [List.all_eq_true]
  intro d hd
  obtain ⟨a, _, rfl⟩ := List.mem_map.mp hd
  rfl
theorem nD_depth (ks : List Nat) : ((ks.map nD).all fun d => decide (d.depth ≤ 60)) = true := by
  rw [List.all_eq_true]
  intro d hd
  obtain ⟨a, _, rfl⟩ := List.mem_map.mp hd
  rfl
theorem srtD_nats (ks : List Nat) : ∃ L : List Nat, L.Perm ks ∧ srtD (ks.map nD) = L.map nD := by
  have e : ks.map nD = (ks.map fun k => ((k : Nat) : Int)).map .int := by rw [List.map_map]; rfl
  obtain ⟨L, h1, h2⟩ := perm_lift (srtUp_perm (ks.map fun k => ((k : Nat) : Int))) ks rfl
  refine ⟨L, h1, ?_⟩
  rw [e, srtD_ints, h2, List.map_map]
  rfl
def rowsC (p : List Int) (r c : Nat) : List (Nat × Nat) := (List.range p.length).foldl (rowC p r c) []
theorem rows_nd (p : List Int) (r c : Nat) : ((rowsC p r c).map (·.1)).Nodup := by
  have : ∀ (l : List Nat) (C : List (Nat × Nat)), (C.map (·.1)).Nodup → ((l.foldl (rowC p r c) C).map (·.1)).Nodup := by
    intro l
    induction l with
    | nil => exact fun C h => h
    | cons a l ih => exact fun C h => ih _ (fold_nd r c a _ C h)
  exact this _ _ List.nodup_nil
theorem rows_len (p : List Int) (hb : Bd p) (r c : Nat) : (rowsC p r c).length ≤ 95000 := by
  have : ∀ (l : List Nat) (C : List (Nat × Nat)), (∀ a ∈ l, a < p.length) → (l.foldl (rowC p r c) C).length ≤ C.length + l.length * 300 := by
    intro l
    induction l with
    | nil => intro C _; simp
    | cons a l ih =>
      intro C hm
      have h1 := ih (rowC p r c C a) fun b hb => hm b (List.mem_cons_of_mem _ hb)
      have h2 : (rowC p r c C a).length ≤ C.length + _ := fold_len r c a (List.range (p.getD a 0).toNat) C
      have ha := hm a List.mem_cons_self
      have hx := hb.2 _ (List.getElem_mem ha)
      have hd : p.getD a 0 = p[a] := by rw [List.getD_eq_getElem?_getD, List.getElem?_eq_getElem ha]; rfl
      rw [List.length_range, hd] at h2
      rw [List.foldl_cons, List.length_cons]
      omega
  have h := this (List.range p.length) [] fun a ha => List.mem_range.mp ha
  have := hb.1
  rw [List.length_range, List.length_nil] at h
  unfold rowsC
  omega
theorem e_rim_raw (p : List Int) (hb : Bd p) (r c : Nat) : ∃ L : List Nat, L.Perm ((rowsC p r c).map (·.1)) ∧ m__law_without_rim [.v (tupD p), .v (nD r), .v (nD c)] = some (.pu (tupD (laidI (L.map fun k => ((getI (rowsC p r c) k : Nat) : Int)))), []) := by
  have hl := hb.1
  obtain ⟨L, h1, h2⟩ := srtD_nats ((rowsC p r c).map (·.1))
  refine ⟨L, h1, ?_⟩
  have e1 : sDNew 3 [.pu (tupD p), .pu (nD r), .pu (nD c), .non, .non, .non, .non] = some (.nx (ρR p r c [] .non .non .non)) := sDNew_eq rfl
  obtain ⟨s4, s5, s6, k4, k5, k6, e2⟩ := outer_go p hb r c (List.range p.length) [] .non .non .non rfl rfl rfl List.nodup_nil (fun a ha => List.mem_range.mp ha) (by rw [List.length_range, List.length_nil]; omega)
  have ei : iRg1 (cOpA fLen (aCons (cVar 0) aNil)) (ρR p r c [] .non .non .non) = some ((List.range p.length).map nD, ρR p r c [] .non .non .non) := by
    rw [iRg1_eq (cOpA_args (args_pu rfl args_nil) (fLen_t p)) (small_nat (by omega)), intsD_zero]
    rfl
  have hL : L.length ≤ 95000 := by
    have := rows_len p hb r c
    rw [h1.length_eq, List.length_map]
    exact this
  have okw : okW [4] (ρR p r c (rowsC p r c) s4 s5 s6) = true := by
    show ([4].all fun v => plainS (ρR p r c (rowsC p r c) s4 s5 s6)[v]?) = true
    show (plainS (some s4) && true) = true
    rw [k4]; rfl
  have e3 : cLc [4] (iE (cDSrt 3)) (gN 4) tYes (cDGet 3 (cVar 4)) (ρR p r c (rowsC p r c) s4 s5 s6) = some (.nw (.list (L.map fun k => nD (getI (rowsC p r c) k))), ρR p r c (rowsC p r c) s4 s5 s6) := by
    have es : cDSrt 3 (ρR p r c (rowsC p r c) s4 s5 s6) = some (.nw (.list (L.map nD)), ρR p r c (rowsC p r c) s4 s5 s6) := by
      have q := cDSrt_eq (i := 3) (ρ := ρR p r c (rowsC p r c) s4 s5 s6) (kvs := dI (rowsC p r c)) rfl (by rw [keys_dI]; exact nD_alike _) (by rw [keys_dI]; exact nD_sortable _) (by rw [keys_dI]; exact nD_depth _)
      rw [keys_dI, h2] at q
      exact q
    refine cLc_map (e := nD) (l := L) (fun k => nD (getI (rowsC p r c) k)) (iE_nw es rfl) okw (fun k hk => ?_) (line_le (by omega))
    refine ⟨ρR p r c (rowsC p r c) (.pu (nD k)) s5 s6, _, rfl, rfl, cDGet_pu (kd := nD k) (kvs := dI (rowsC p r c)) rfl rfl (okK_dI _ k) (find_some _ k (h1.mem_iff.mp hk)), rfl⟩
  have em : (L.map fun k => nD (getI (rowsC p r c) k)) = (L.map fun k => ((getI (rowsC p r c) k : Nat) : Int)).map .int := by rw [List.map_map]; rfl
  rw [em] at e3
  have e4 : b__law_without_rim [.pu (tupD p), .pu (nD r), .pu (nD c), .non, .non, .non, .non] = some (.rt (.pu (tupD (laidI (L.map fun k => ((getI (rowsC p r c) k : Nat) : Int))))) (ρR p r c (rowsC p r c) s4 s5 s6)) := by
    refine (sSeq_nx e1).trans ((sSeq_nx ((sFor_eq ei).trans e2)).trans (sRet_eq (cCall_args (args_nw e3 args_nil) (e_law_laidX _ (by rw [List.length_map]; exact hL)))))
  exact run_rt rfl rfl e4 rfl

def ownN (r c x h : Nat) : Nat := if x < r then h else min h c
def frN (r x h : Nat) (c : Nat) : Nat := if r < x then h - (c + 1) else 0
theorem stp_get (r c at_ pl x : Nat) (C : List (Nat × Nat)) : getI (stp r c at_ C pl) x = getI C x + (if (at_ = r ∧ c ≤ pl) ∨ (pl = c ∧ r ≤ at_) then 0 else if near r c at_ pl = x then 1 else 0) := by
  unfold stp
  have hh : hookB r c at_ pl = true ↔ ((at_ = r ∧ c ≤ pl) ∨ (pl = c ∧ r ≤ at_)) := by
    unfold hookB
    simp only [Bool.or_eq_true, Bool.and_eq_true, decide_eq_true_eq]
  by_cases h : (at_ = r ∧ c ≤ pl) ∨ (pl = c ∧ r ≤ at_)
  · rw [if_pos (hh.mpr h), if_pos h, Nat.add_zero]
  · rw [if_neg (fun z => h (hh.mp z)), if_neg h, bump_get]
theorem row_get (r c at_ x : Nat) (C : List (Nat × Nat)) : ∀ k : Nat, getI ((List.range k).foldl (stp r c at_) C) x = getI C x + ((if x = at_ then ownN r c at_ k else 0) + (if x + 1 = at_ then frN r at_ k c else 0))
  | 0 => by
    show getI C x = _
    unfold ownN frN
    repeat' split
    all_goals omega
  | k + 1 => by
    rw [List.range_succ, List.foldl_append]
    show getI (stp r c at_ ((List.range k).foldl (stp r c at_) C) k) x = _
    rw [stp_get, row_get r c at_ x C k]
    unfold ownN frN near
    repeat' split
    all_goals omega
def hN (p : List Int) (i : Nat) : Nat := (p.getD i 0).toNat
theorem rows_get (p : List Int) (r c x : Nat) : ∀ m : Nat, getI ((List.range m).foldl (rowC p r c) []) x = (if x < m then ownN r c x (hN p x) else 0) + (if x + 1 < m then frN r (x + 1) (hN p (x + 1)) c else 0)
  | 0 => by
    rw [if_neg (Nat.not_lt_zero _), if_neg (Nat.not_lt_zero _)]
    rfl
  | m + 1 => by
    rw [List.range_succ, List.foldl_append]
    show getI (rowC p r c ((List.range m).foldl (rowC p r c) []) m) x = _
    unfold rowC
    rw [row_get]
    show getI ((List.range m).foldl (rowC p r c) []) x + _ = _
    rw [rows_get p r c x m]
    show _ + ((if x = m then ownN r c m (hN p m) else 0) + (if x + 1 = m then frN r m (hN p m) c else 0)) = _
    by_cases h1 : x = m
    · subst h1
      rw [if_neg (Nat.lt_irrefl x), if_neg (by omega), if_pos rfl, if_neg (by omega), if_pos (by omega), if_neg (by omega)]
      omega
    · by_cases h2 : x + 1 = m
      · subst h2
        rw [if_pos (by omega), if_neg (by omega), if_neg (by omega), if_pos rfl, if_pos (by omega), if_pos (by omega)]
        omega
      · by_cases h3 : x < m
        · rw [if_pos h3, if_pos (by omega), if_neg h1, if_neg h2, if_pos (by omega), if_pos (by omega)]
          omega
        · rw [if_neg h3, if_neg (by omega), if_neg h1, if_neg h2, if_neg (by omega), if_neg (by omega)]
theorem key_pos : ∀ (l : List Nat) (r c at_ : Nat) (C : List (Nat × Nat)), (∀ x, x ∈ C.map (·.1) → 0 < getI C x) → ∀ x, x ∈ (l.foldl (stp r c at_) C).map (·.1) → 0 < getI (l.foldl (stp r c at_) C) x
  | [], r, c, at_, C, h => h
  | pl :: l, r, c, at_, C, h => by
    refine key_pos l r c at_ _ fun x hx => ?_
    unfold stp at hx ⊢
    split at hx
    · rw [if_pos ‹_›]; exact h x hx
    · rw [if_neg ‹_›, bump_get]
      rcases (bump_keys _ _ _).mp hx with q | q
      · rw [if_pos q.symm]; omega
      · have := h x q; omega
theorem rows_pos (p : List Int) (r c : Nat) : ∀ (l : List Nat) (C : List (Nat × Nat)), (∀ x, x ∈ C.map (·.1) → 0 < getI C x) → ∀ x, x ∈ (l.foldl (rowC p r c) C).map (·.1) → 0 < getI (l.foldl (rowC p r c) C) x
  | [], C, h => h
  | a :: l, C, h => rows_pos p r c l _ (key_pos _ r c a C h)
theorem rows_key (p : List Int) (r c x : Nat) : x ∈ (rowsC p r c).map (·.1) ↔ 0 < getI (rowsC p r c) x := by
  constructor
  · exact rows_pos p r c _ _ (fun x hx => by simp at hx) x
  · intro h
    refine Classical.byContradiction fun q => ?_
    rw [get_no _ _ q] at h
    exact Nat.lt_irrefl 0 h
theorem laid_perm {l m : List Int} (h : (l.filter fun n => decide (0 < n)).Perm (m.filter fun n => decide (0 < n))) : laidI l = laidI m := by
  unfold laidI srtDn
  rw [srtUp_eq ((srtUp_perm _).trans h) (srtUp_srt _)]
/-- a falling row: those above a line stand first -/
theorem fall_count (c : Int) : ∀ (l : List Int), l.Pairwise (· ≥ ·) → ∀ i, ∀ h : i < l.length, (c < l[i] ↔ i < l.countP fun x => decide (c < x))
  | [], _, i, h => absurd h (Nat.not_lt_zero _)
  | a :: l, hp, i, h => by
    obtain ⟨h1, h2⟩ := List.pairwise_cons.mp hp
    by_cases ha : c < a
    · rw [List.countP_cons_of_pos (by exact decide_eq_true ha)]
      cases i with
      | zero => exact ⟨fun _ => Nat.succ_pos _, fun _ => ha⟩
      | succ i =>
        have := fall_count c l h2 i (by simpa using h)
        rw [List.getElem_cons_succ, this]
        omega
    · have h0 : (a :: l).countP (fun x => decide (c < x)) = 0 := by
        rw [List.countP_eq_zero]
        intro x hx
        rcases List.mem_cons.mp hx with rfl | hx
        · simp; omega
        · have := h1 x hx
          simp; omega
      rw [h0]
      refine ⟨fun z => ?_, fun z => absurd z (Nat.not_lt_zero _)⟩
      cases i with
      | zero => exact absurd z ha
      | succ i =>
        have := h1 _ (List.getElem_mem (l := l) (n := i) (by simpa using h))
        rw [List.getElem_cons_succ] at z
        omega
def Fall (p : List Int) : Prop := p.Pairwise (· ≥ ·) ∧ ∀ x ∈ p, 0 ≤ x
theorem getD_ge {p : List Int} (hf : p.Pairwise (· ≥ ·)) (h0 : ∀ x ∈ p, 0 ≤ x) {i j : Nat} (h : i ≤ j) : p.getD j 0 ≤ p.getD i 0 := by
  simp only [List.getD_eq_getElem?_getD]
  by_cases hj : j < p.length
  · have hi : i < p.length := by omega
    rw [List.getElem?_eq_getElem hj, List.getElem?_eq_getElem hi]
    show p[j] ≤ p[i]
    rcases Nat.lt_or_eq_of_le h with q | q
    · exact List.pairwise_iff_getElem.mp hf i j hi hj q
    · subst q; exact Int.le_refl _
  · rw [List.getElem?_eq_none (by omega)]
    show (0 : Int) ≤ _
    by_cases hi : i < p.length
    · rw [List.getElem?_eq_getElem hi]; exact h0 _ (List.getElem_mem hi)
    · rw [List.getElem?_eq_none (by omega)]; exact Int.le_refl _
theorem leg_iff {p : List Int} (hf : p.Pairwise (· ≥ ·)) (r c : Nat) (i : Nat) (hi : r < i) : ((c : Int) < p.getD i 0 ↔ i ≤ r + leg p r c) := by
  have hd : (p.drop (r + 1)).Pairwise (· ≥ ·) := hf.drop
  by_cases h : i < p.length
  · have q := fall_count (c : Int) (p.drop (r + 1)) hd (i - (r + 1)) (by rw [List.length_drop]; omega)
    rw [List.getElem_drop] at q
    have e : r + 1 + (i - (r + 1)) = i := by omega
    have e2 : p.getD i 0 = p[i] := by rw [List.getD_eq_getElem?_getD, List.getElem?_eq_getElem h]; rfl
    rw [e2]
    simp only [e] at q
    rw [q]
    unfold leg
    omega
  · rw [List.getD_eq_getElem?_getD, List.getElem?_eq_none (by omega)]
    have : leg p r c ≤ (p.drop (r + 1)).length := List.countP_le_length
    rw [List.length_drop] at this
    show (c : Int) < 0 ↔ _
    omega
theorem leg_le (p : List Int) (r c : Nat) (hr : r < p.length) : r + leg p r c < p.length := by
  have : leg p r c ≤ (p.drop (r + 1)).length := List.countP_le_length
  rw [List.length_drop] at this
  omega
theorem rimL_length (p : List Int) (r c : Nat) (hr : r < p.length) : (rimL p r c).length = p.length := by
  have := leg_le p r c hr
  unfold rimL
  simp only [List.length_append, List.length_map, List.length_take, List.length_drop, List.length_cons, List.length_nil]
  omega
theorem rimL_get (p : List Int) (r c : Nat) (hr : r < p.length) (i : Nat) (hi : i < p.length) : (rimL p r c).getD i 0 = if i < r then p.getD i 0 else if i < r + leg p r c then p.getD (i + 1) 0 - 1 else if i = r + leg p r c then (c : Int) else p.getD i 0 := by
  have hl := leg_le p r c hr
  unfold rimL
  simp only [List.getD_eq_getElem?_getD]
  have l1 : (p.take r).length = r := by rw [List.length_take]; omega
  have l2 : (((p.drop (r + 1)).take (leg p r c)).map (· - 1)).length = leg p r c := by rw [List.length_map, List.length_take, List.length_drop]; omega
  by_cases h1 : i < r
  · rw [if_pos h1, List.getElem?_append_left (by rw [List.length_append, l1]; omega), List.getElem?_append_left (by rw [l1]; exact h1), List.getElem?_take_of_lt h1]
  · rw [if_neg h1]
    by_cases h2 : i < r + leg p r c
    · rw [if_pos h2, List.getElem?_append_left (by rw [List.length_append, l1, List.length_append, l2]; omega), List.getElem?_append_right (by rw [l1]; omega), l1, List.getElem?_append_left (by rw [l2]; omega), List.getElem?_map,
        List.getElem?_take_of_lt (by omega), List.getElem?_drop]
      have e : r + 1 + (i - r) = i + 1 := by omega
      rw [e, List.getElem?_eq_getElem (show i + 1 < p.length by omega)]
      rfl
    · rw [if_neg h2]
      by_cases h3 : i = r + leg p r c
      · rw [if_pos h3, List.getElem?_append_left (by rw [List.length_append, l1, List.length_append, l2]; simp only [List.length_cons, List.length_nil]; omega), List.getElem?_append_right (by rw [l1]; omega), l1, List.getElem?_append_right (by rw [l2]; omega), l2]
        have e : i - r - leg p r c = 0 := by omega
        rw [e]
        rfl
      · rw [if_neg h3, List.getElem?_append_right (by rw [List.length_append, l1, List.length_append, l2]; simp only [List.length_cons, List.length_nil]; omega), List.getElem?_drop]
        congr 2
        rw [List.length_append, l1, List.length_append, l2]
        simp only [List.length_cons, List.length_nil]
        omega
theorem rows_rim (p : List Int) (hf : Fall p) (r c : Nat) (hr : r < p.length) (hc : (c : Int) < p.getD r 0) : (List.range p.length).map (fun x => ((getI (rowsC p r c) x : Nat) : Int)) = rimL p r c := by
  refine List.ext_getElem (by rw [List.length_map, List.length_range, rimL_length p r c hr]) fun i h1 h2 => ?_
  have hi : i < p.length := by rw [List.length_map, List.length_range] at h1; exact h1
  have e2 : (rimL p r c)[i] = (rimL p r c).getD i 0 := by rw [List.getD_eq_getElem?_getD, List.getElem?_eq_getElem h2]; rfl
  rw [e2, rimL_get p r c hr i hi, List.getElem_map, List.getElem_range]
  have eg : getI (rowsC p r c) i = _ := rows_get p r c i p.length
  rw [eg, if_pos hi]
  have n0 : ∀ j, 0 ≤ p.getD j 0 := fun j => by
    have := getD_ge hf.1 hf.2 (i := j) (j := p.length + j) (by omega)
    rw [List.getD_eq_getElem?_getD, List.getElem?_eq_none (by omega)] at this
    exact this
  have k : ∀ j, ((hN p j : Nat) : Int) = p.getD j 0 := fun j => by
    have := n0 j
    unfold hN
    omega
  have last : p.length ≤ i + 1 → hN p (i + 1) = 0 := fun h => by
    unfold hN
    rw [List.getD_eq_getElem?_getD, List.getElem?_eq_none h]
    rfl
  have ki := k i
  have ki1 := k (i + 1)
  have efr : (if i + 1 < p.length then frN r (i + 1) (hN p (i + 1)) c else 0) = frN r (i + 1) (hN p (i + 1)) c := by
    by_cases h : i + 1 < p.length
    · rw [if_pos h]
    · rw [if_neg h, last (by omega)]
      unfold frN
      split <;> omega
  rw [efr]
  have q1 : r < i → ((c : Int) < p.getD i 0 ↔ i ≤ r + leg p r c) := leg_iff hf.1 r c i
  have q2 : r < i + 1 → ((c : Int) < p.getD (i + 1) 0 ↔ i + 1 ≤ r + leg p r c) := leg_iff hf.1 r c (i + 1)
  have hcr : i = r → (c : Int) < p.getD i 0 := fun h => by rw [h]; exact hc
  unfold ownN frN
  repeat' split
  all_goals omega
theorem laid_rows (p : List Int) (hf : Fall p) (r c : Nat) (hr : r < p.length) (hc : (c : Int) < p.getD r 0) {L : List Nat} (hL : L.Perm ((rowsC p r c).map (·.1))) : laidI (L.map fun k => ((getI (rowsC p r c) k : Nat) : Int)) = laidI (rimL p r c) := by
  rw [← rows_rim p hf r c hr hc]
  refine laid_perm ?_
  have h1 : (L.map fun k => ((getI (rowsC p r c) k : Nat) : Int)).filter (fun n => decide (0 < n)) = L.map fun k => ((getI (rowsC p r c) k : Nat) : Int) := by
    rw [List.filter_eq_self]
    intro x hx
    obtain ⟨k, hk, rfl⟩ := List.mem_map.mp hx
    have := (rows_key p r c k).mp (hL.mem_iff.mp hk)
    simp only [decide_eq_true_eq]
    omega
  rw [h1, List.filter_map]
  refine List.Perm.map _ ?_
  refine (List.perm_ext_iff_of_nodup (hL.nodup_iff.mpr (rows_nd p r c)) (List.nodup_range.filter _)).mpr fun x => ?_
  rw [hL.mem_iff, rows_key, List.mem_filter, List.mem_range]
  constructor
  · intro h
    refine ⟨?_, by simp only [Function.comp]; exact decide_eq_true (by omega)⟩
    have e : getI (rowsC p r c) x = _ := rows_get p r c x p.length
    rw [e] at h
    refine Classical.byContradiction fun q => ?_
    rw [if_neg q, if_neg (by omega)] at h
    exact Nat.lt_irrefl 0 h
  · rintro ⟨_, h⟩
    simp only [Function.comp, decide_eq_true_eq] at h
    omega
theorem e_law_rim (p : List Int) (hb : Bd p) (hf : Fall p) (r c : Nat) (hr : r < p.length) (hc : (c : Int) < p.getD r 0) : m__law_without_rim [.v (tupD p), .v (nD r), .v (nD c)] = some (.pu (tupD (laidI (rimL p r c))), []) := by
  obtain ⟨L, h1, h2⟩ := e_rim_raw p hb r c
  rw [laid_rows p hf r c hr hc h1] at h2
  exact h2

def dT (F : List (List Int)) : List (D × D) := F.map fun k => (tupD k, .bool true)
def addK (F : List (List Int)) (k : List Int) : List (List Int) := if k ∈ F then F else F ++ [k]
theorem eqKs_ints : ∀ a b : List Int, eqKs (a.map .int) (b.map .int) = decide (a = b)
  | [], [] => by simp [eqKs]
  | [], _ :: _ => by simp [eqKs]
  | _ :: _, [] => by simp [eqKs]
  | a :: as, b :: bs => by
    show (decide (a = b) && eqKs (as.map .int) (bs.map .int)) = _
    rw [eqKs_ints as bs]
    by_cases h1 : a = b <;> by_cases h2 : as = bs <;> simp [h1, h2]
theorem eqD_tup (a b : List Int) : eqD (tupD a) (tupD b) = decide (a = b) := eqKs_ints a b
theorem keyB_ints (k : List Int) : (k.map PyData.int).all keyB = true := by
  rw [List.all_eq_true]
  intro d hd
  obtain ⟨a, _, rfl⟩ := List.mem_map.mp hd
  rfl
theorem kind_tup (k : List Int) : kindD (tupD k) = 2 := by
  show (if (k.map PyData.int).all keyB = true then 2 else 0) = 2
  rw [if_pos (keyB_ints k)]
theorem okK_dT (F : List (List Int)) (k : List Int) : okK (dT F) (tupD k) = true := by
  cases F with
  | nil => show (kindD (tupD k) != 0) = true; rw [kind_tup]; rfl
  | cons f F => show (kindD (tupD k) != 0 && kindD (tupD f) == kindD (tupD k)) = true; rw [kind_tup, kind_tup]; rfl
theorem put_dT (F : List (List Int)) (k : List Int) : dputD (dT F) (tupD k) (.bool true) = dT (addK F k) := by
  have ha : ((dT F).any fun p => eqD p.1 (tupD k)) = decide (k ∈ F) := by
    unfold dT
    rw [List.any_map, Bool.eq_iff_iff, List.any_eq_true, decide_eq_true_iff]
    constructor
    · rintro ⟨x, hx, h⟩
      have e : x = k := of_decide_eq_true ((eqD_tup x k).symm.trans h)
      rw [← e]; exact hx
    · intro h
      exact ⟨k, h, (eqD_tup k k).trans (decide_eq_true rfl)⟩
  unfold dputD addK
  rw [ha]
  by_cases h : k ∈ F
  · rw [if_pos (decide_eq_true h), if_pos h]
    unfold dT
    rw [List.map_map]
    refine List.map_congr_left fun x _ => ?_
    show (if eqD (tupD x) (tupD k) = true then (tupD x, PyData.bool true) else (tupD x, PyData.bool true)) = _
    split <;> rfl
  · rw [if_neg (by simp [h]), if_neg h]
    unfold dT
    rw [List.map_append]
    rfl
theorem addK_len (F : List (List Int)) (k : List Int) : (addK F k).length ≤ F.length + 1 := by
  unfold addK
  split
  · omega
  · simp
theorem addK_nd (F : List (List Int)) (k : List Int) (h : F.Nodup) : (addK F k).Nodup := by
  unfold addK
  split
  · exact h
  · rename_i q
    rw [List.nodup_append]
    refine ⟨h, by simp, fun a ha b hb => ?_⟩
    rw [List.mem_singleton] at hb
    rintro rfl
    exact q (hb ▸ ha)
theorem addK_mem (F : List (List Int)) (k x : List Int) : x ∈ addK F k ↔ x ∈ F ∨ x = k := by
  unfold addK
  split
  · rename_i q
    constructor
    · exact .inl
    · rintro (h | rfl)
      · exact h
      · exact q
  · rw [List.mem_append, List.mem_singleton]
theorem fold_mem : ∀ (l F : List (List Int)) (x : List Int), x ∈ l.foldl addK F ↔ x ∈ F ∨ x ∈ l
  | [], F, x => by simp
  | k :: l, F, x => by
    rw [List.foldl_cons, fold_mem l, addK_mem, List.mem_cons, or_assoc]
theorem foldK_nd : ∀ (l F : List (List Int)), F.Nodup → (l.foldl addK F).Nodup
  | [], F, h => h
  | k :: l, F, h => foldK_nd l _ (addK_nd F k h)
theorem foldK_len : ∀ (l F : List (List Int)), (l.foldl addK F).length ≤ F.length + l.length
  | [], F => by simp
  | k :: l, F => by
    have h1 := foldK_len l (addK F k)
    have h2 := addK_len F k
    rw [List.foldl_cons, List.length_cons]
    omega
def eqG : Gm → Gm → Bool
  | .h, .h => true
  | .r, .r => true
  | .e, .e => true
  | .l, .l => true
  | _, _ => false
theorem eqG_ev (g k : Gm) : opEq (.str (gS g)) (.str (gS k)) = some (.bool (eqG g k)) := by
  cases g <;> cases k <;> kernel_rfl
def inn (g : Gm) (p : List Int) (r c : Nat) : List (List Int) := match g with
  | .h => [laidI (htL p r c)]
  | .r => [laidI (rimL p r c)]
  | .l => if r = 0 then [laidI (colL p c)] else []
  | .e => []
def out (g : Gm) (p : List Int) (r : Nat) : List (List Int) := match g with
  | .l => [rmL p r]
  | .e => if r = 0 then [rmL p r] else []
  | _ => []
def ρV (g : Gm) (p : List Int) (F : List (List Int)) (s3 s4 s5 s6 : Sl) : Rho := [.pu (.str (gS g)), .pu (tupD p), .own (.dict (dT F)), s3, s4, s5, s6]
def kH : FE := (cCall m__law_laid (aCons (cOp2n opAdd (cOp2n opAdd (cOpAn fList (aCons (cSl mk opSl (cVar 1) oNo (oSo (cVar 3))) aNil)) (cLst (aCons (cVar 5) aNil))) (cOpAn fList (aCons (cSl mk opSl (cVar 1) (oSo (cOp2n opAdd (cVar 3) (cC (.int 1)))) oNo) aNil))) aNil))
def kR : FE := (cCall m__law_without_rim (aCons (cVar 1) (aCons (cVar 3) (aCons (cVar 5) aNil))))
def kL : FE := (cCall m__law_laid (aCons (cLc [6] (iE (cVar 1)) (gN 6) tYes (cOp2 opSub (cVar 6) (cIf (tBl (cOp2 opGt (cVar 6) (cVar 5))) (cC (.int 1)) (cC (.int 0))))) aNil))
def kE : FE := (cCall m__law_laid (aCons (cLc [6] (iE (cVar 1)) (gN 6) tYes (cOp2 opSub (cVar 6) (cC (.int 1)))) aNil))
def kO : FE := (cOp2n opAdd (cSl mk opSl (cVar 1) oNo (oSo (cVar 3))) (cSl mk opSl (cVar 1) (oSo (cOp2n opAdd (cVar 3) (cC (.int 1)))) oNo))
def bdIn : FS := (sSeq (sIf (tBl (cOp2 opEq (cVar 0) (cC (.str (Str.ofString "heights"))))) (sDSet 2 kH (cC (.bool true))) sPass)
  (sSeq (sIf (tBl (cOp2 opEq (cVar 0) (cC (.str (Str.ofString "rims"))))) (sDSet 2 kR (cC (.bool true))) sPass)
  (sIf (tAnd (tBl (cOp2 opEq (cVar 0) (cC (.str (Str.ofString "lines"))))) (tBl (cOp2 opEq (cVar 3) (cC (.int 0))))) (sDSet 2 kL (cC (.bool true))) sPass)))
def bdOut : FS := (sIf (tOr (tBl (cOp2 opEq (cVar 0) (cC (.str (Str.ofString "lines"))))) (tAnd (tBl (cOp2 opEq (cVar 0) (cC (.str (Str.ofString "edges"))))) (tBl (cOp2 opEq (cVar 3) (cC (.int 0)))))) (sDSet 2 kO (cC (.bool true))) sPass)
theorem b_lm_eq : b__law_moves = sSeq (sDNew 2) (sSeq (sFor (iEnum (cVar 1)) (gT ((gN 3) :: ((gN 4) :: []))) (sSeq (sFor (iRg1 (cVar 4)) (gN 5) bdIn) bdOut))
  (sSeq (sIf (tAnd (tBl (cOp2 opEq (cVar 0) (cC (.str (Str.ofString "edges"))))) (tBl (cOp2 opNe (cVar 1) (cTup aNil)))) (sDSet 2 kE (cC (.bool true))) sPass) (sRet (cOpA fTuple (aCons (cDSrt 2) aNil))))) := rfl
theorem dset_ev {g : Gm} {p : List Int} {F : List (List Int)} {s3 s4 s5 s6 : Sl} {k : FE} {ns : List Int} (h : k (ρV g p F s3 s4 s5 s6) = some (.pu (tupD ns), ρV g p F s3 s4 s5 s6)) (hl : F.length ≤ 99000) : sDSet 2 k (cC (.bool true)) (ρV g p F s3 s4 s5 s6) = some (.nx (ρV g p (addK F ns) s3 s4 s5 s6)) := by
  refine sDSet_pu (d := .bool true) (kd := tupD ns) (kvs := dT F) rfl h rfl (okK_dT F ns) (by unfold dT; rw [List.length_map]; exact line_lt (by omega)) ?_
  rw [put_dT]
  rfl
section
variable {g : Gm} {p : List Int} {F : List (List Int)} {s4 s6 : Sl}
theorem kH_ev (hb : Bd p) (r c : Nat) : kH (ρV g p F (.pu (nD r)) s4 (.pu (nD c)) s6) = some (.pu (tupD (laidI (htL p r c))), ρV g p F (.pu (nD r)) s4 (.pu (nD c)) s6) := by
  have hl := hb.1
  refine cCall_args (args_nw (cOp2n_ll' (cOp2n_ll' (cOpAn_args' (args_pu (cSl_pu' rfl rfl (oSo_pu rfl) (sl_toT p r)) args_nil) (fList_t _)) (cLst_args (args_pu rfl args_nil) (line_le (by show (1 : Nat) ≤ 1000000; decide))) (add_l (p.take r) [(c : Int)] ?_))
      (cOpAn_args' (args_pu (cSl_pu' rfl (oSo_pu (i := ((r + 1 : Nat) : Int)) (cOp2n_pu' rfl rfl rfl)) rfl (sl_fromT p (r + 1))) args_nil) (fList_t _)) (add_l _ (p.drop (r + 1)) ?_)) args_nil) (e_law_laid (htL p r c) (by have := htL_len p r c; omega))
  · simp only [List.length_take, List.length_cons, List.length_nil]
    omega
  · simp only [List.length_append, List.length_take, List.length_drop, List.length_cons, List.length_nil]
    omega
theorem kO_ev (hb : Bd p) (r : Nat) (s5 : Sl) : kO (ρV g p F (.pu (nD r)) s4 s5 s6) = some (.pu (tupD (rmL p r)), ρV g p F (.pu (nD r)) s4 s5 s6) := by
  have hl := hb.1
  exact cOp2n_pu' (cSl_pu' rfl rfl (oSo_pu rfl) (sl_toT p r)) (cSl_pu' rfl (oSo_pu (i := ((r + 1 : Nat) : Int)) (cOp2n_pu' rfl rfl rfl)) rfl (sl_fromT p (r + 1))) (add_t (p.take r) (p.drop (r + 1)) (by rw [List.length_take, List.length_drop]; omega))
theorem kR_ev (hb : Bd p) (hf : Fall p) (r c : Nat) (hr : r < p.length) (hc : (c : Int) < p.getD r 0) : kR (ρV g p F (.pu (nD r)) s4 (.pu (nD c)) s6) = some (.pu (tupD (laidI (rimL p r c))), ρV g p F (.pu (nD r)) s4 (.pu (nD c)) s6) :=
  cCall_args (args_pu rfl (args_pu rfl (args_pu rfl args_nil))) (e_law_rim p hb hf r c hr hc)
theorem set6V {s3 s5 : Sl} (h : plainS (some s6) = true) (d : D) : setS 6 (.pu d) (wipeR [6] (ρV g p F s3 s4 s5 s6)) = some (ρV g p F s3 s4 s5 (.pu d)) := by
  cases s6 <;> first | rfl | cases h
theorem kL_ev (hb : Bd p) (s3 : Sl) (c : Nat) (h6 : plainS (some s6) = true) : kL (ρV g p F s3 s4 (.pu (nD c)) s6) = some (.pu (tupD (laidI (colL p c))), ρV g p F s3 s4 (.pu (nD c)) s6) := by
  have hl := hb.1
  have q := cLc_map (vs := [6]) (it := iE (cVar 1)) (g := gN 6) (f := cOp2 opSub (cVar 6) (cIf (tBl (cOp2 opGt (cVar 6) (cVar 5))) (cC (.int 1)) (cC (.int 0)))) (ρ := ρV g p F s3 s4 (.pu (nD c)) s6) (e := iD) (l := p)
    (fun h => iD (if (c : Int) < h then h - 1 else h)) (iE_pu (x := tupD p) rfl rfl) (by show (plainS (some s6) && true) = true; rw [h6]; rfl) (fun h _ => by
      refine ⟨ρV g p F s3 s4 (.pu (nD c)) (.pu (.int h)), .pu (iD (if (c : Int) < h then h - 1 else h)), set6V h6 _, rfl, ?_, rfl⟩
      by_cases hc : (c : Int) < h
      · rw [if_pos hc]
        exact cOp2_pu rfl ((cIf_t (tBl_eq (k := true) (cOp2_pu rfl rfl (by show some (PyData.bool (decide (h > (c : Int)))) = _; rw [decide_eq_true hc])))).trans rfl) rfl
      · rw [if_neg hc]
        exact cOp2_pu rfl ((cIf_f (tBl_eq (k := false) (cOp2_pu rfl rfl (by show some (PyData.bool (decide (h > (c : Int)))) = _; rw [decide_eq_false hc])))).trans rfl) (by show some (PyData.int (h - 0)) = _; rw [Int.sub_zero]; rfl)) (line_le (by omega))
  have hm : (p.map fun h => iD (if (c : Int) < h then h - 1 else h)) = (colL p c).map .int := by
    unfold colL
    rw [List.map_map]; rfl
  rw [hm] at q
  exact cCall_args (args_nw q args_nil) (e_law_laid (colL p c) (by unfold colL; rw [List.length_map]; omega))
theorem kE_ev (hb : Bd p) (s3 s5 : Sl) (h6 : plainS (some s6) = true) : kE (ρV g p F s3 s4 s5 s6) = some (.pu (tupD (laidI (p.map (· - 1)))), ρV g p F s3 s4 s5 s6) := by
  have hl := hb.1
  have q := cLc_map (vs := [6]) (it := iE (cVar 1)) (g := gN 6) (f := cOp2 opSub (cVar 6) (cC (.int 1))) (ρ := ρV g p F s3 s4 s5 s6) (e := iD) (l := p)
    (fun h => iD (h - 1)) (iE_pu (x := tupD p) rfl rfl) (by show (plainS (some s6) && true) = true; rw [h6]; rfl) (fun h _ => ⟨ρV g p F s3 s4 s5 (.pu (.int h)), _, set6V h6 _, rfl, cOp2_pu rfl rfl rfl, rfl⟩) (line_le (by omega))
  have hm : (p.map fun h => iD (h - 1)) = (p.map (· - 1)).map .int := by rw [List.map_map]; rfl
  rw [hm] at q
  exact cCall_args (args_nw q args_nil) (e_law_laid (p.map (· - 1)) (by rw [List.length_map]; omega))
end

theorem g_h {g : Gm} {p F} {s3 s4 s5 s6 : Sl} : tBl (cOp2 opEq (cVar 0) (cC (.str (Str.ofString "heights")))) (ρV g p F s3 s4 s5 s6) = some (eqG g .h, ρV g p F s3 s4 s5 s6) := tBl_eq (cOp2_pu rfl rfl (eqG_ev g .h))
theorem g_r {g : Gm} {p F} {s3 s4 s5 s6 : Sl} : tBl (cOp2 opEq (cVar 0) (cC (.str (Str.ofString "rims")))) (ρV g p F s3 s4 s5 s6) = some (eqG g .r, ρV g p F s3 s4 s5 s6) := tBl_eq (cOp2_pu rfl rfl (eqG_ev g .r))
theorem g_e {g : Gm} {p F} {s3 s4 s5 s6 : Sl} : tBl (cOp2 opEq (cVar 0) (cC (.str (Str.ofString "edges")))) (ρV g p F s3 s4 s5 s6) = some (eqG g .e, ρV g p F s3 s4 s5 s6) := tBl_eq (cOp2_pu rfl rfl (eqG_ev g .e))
theorem g_l {g : Gm} {p F} {s3 s4 s5 s6 : Sl} : tBl (cOp2 opEq (cVar 0) (cC (.str (Str.ofString "lines")))) (ρV g p F s3 s4 s5 s6) = some (eqG g .l, ρV g p F s3 s4 s5 s6) := tBl_eq (cOp2_pu rfl rfl (eqG_ev g .l))
theorem at0 {g : Gm} {p F} {s4 s5 s6 : Sl} {r : Nat} : tBl (cOp2 opEq (cVar 3) (cC (.int 0))) (ρV g p F (.pu (nD r)) s4 s5 s6) = some (decide (r = 0), ρV g p F (.pu (nD r)) s4 s5 s6) := tBl_eq (cOp2_pu rfl rfl (eqN r 0))
theorem pass {ρ : Rho} : sPass ρ = some (.nx ρ) := rfl
theorem in_body (g : Gm) (p : List Int) (hb : Bd p) (hf : Fall p) (r c : Nat) (hr : r < p.length) (hc : (c : Int) < p.getD r 0) (F : List (List Int)) (s4 s6 : Sl) (h6 : plainS (some s6) = true) (hl : F.length ≤ 99000) :
    bdIn (ρV g p F (.pu (nD r)) s4 (.pu (nD c)) s6) = some (.nx (ρV g p ((inn g p r c).foldl addK F) (.pu (nD r)) s4 (.pu (nD c)) s6)) := by
  cases g with
  | h =>
    have e1 := dset_ev (F := F) (kH_ev (g := .h) (F := F) (s4 := s4) (s6 := s6) hb r c) hl
    exact (sSeq_nx ((sIf_t g_h).trans e1)).trans ((sSeq_nx ((sIf_f g_r).trans pass)).trans ((sIf_f (tAnd_f g_l)).trans pass))
  | r =>
    have e1 := dset_ev (F := F) (kR_ev (g := .r) (F := F) (s4 := s4) (s6 := s6) hb hf r c hr hc) hl
    exact (sSeq_nx ((sIf_f g_h).trans pass)).trans ((sSeq_nx ((sIf_t g_r).trans e1)).trans ((sIf_f (tAnd_f g_l)).trans pass))
  | e => exact (sSeq_nx ((sIf_f g_h).trans pass)).trans ((sSeq_nx ((sIf_f g_r).trans pass)).trans ((sIf_f (tAnd_f g_l)).trans pass))
  | l =>
    have et := tAnd_tt (g_l (g := .l) (p := p) (F := F) (s3 := .pu (nD r)) (s4 := s4) (s5 := .pu (nD c)) (s6 := s6)) at0
    refine (sSeq_nx ((sIf_f g_h).trans pass)).trans ((sSeq_nx ((sIf_f g_r).trans pass)).trans ?_)
    by_cases h0 : r = 0
    · rw [decide_eq_true h0] at et
      have e1 := dset_ev (F := F) (kL_ev (g := .l) (F := F) (s4 := s4) (s6 := s6) hb (.pu (nD r)) c h6) hl
      have ei : inn .l p r c = [laidI (colL p c)] := by show (if r = 0 then [laidI (colL p c)] else []) = _; rw [if_pos h0]
      rw [ei]
      exact (sIf_t et).trans e1
    · rw [decide_eq_false h0] at et
      have ei : inn .l p r c = [] := by show (if r = 0 then [laidI (colL p c)] else []) = _; rw [if_neg h0]
      rw [ei]
      exact (sIf_f et).trans pass
theorem inn_len (g : Gm) (p : List Int) (r c : Nat) : (inn g p r c).length ≤ 1 := by
  cases g with
  | h => exact Nat.le_refl 1
  | r => exact Nat.le_refl 1
  | e => exact Nat.zero_le 1
  | l =>
    show (if r = 0 then [laidI (colL p c)] else []).length ≤ 1
    split
    · exact Nat.le_refl 1
    · exact Nat.zero_le 1
theorem out_len (g : Gm) (p : List Int) (r : Nat) : (out g p r).length ≤ 1 := by
  cases g with
  | h => exact Nat.zero_le 1
  | r => exact Nat.zero_le 1
  | l => exact Nat.le_refl 1
  | e =>
    show (if r = 0 then [rmL p r] else []).length ≤ 1
    split
    · exact Nat.le_refl 1
    · exact Nat.zero_le 1
theorem set5V {g : Gm} {p : List Int} {F : List (List Int)} {s3 s4 s5 s6 : Sl} (h : plainS (some s5) = true) (d : D) : setS 5 (.pu d) (ρV g p F s3 s4 s5 s6) = some (ρV g p F s3 s4 (.pu d) s6) := by
  cases s5 <;> first | rfl | cases h
theorem in_go (g : Gm) (p : List Int) (hb : Bd p) (hf : Fall p) (r : Nat) (hr : r < p.length) (s4 s6 : Sl) (h6 : plainS (some s6) = true) : ∀ (l : List Nat) (F : List (List Int)) (s5 : Sl), plainS (some s5) = true → (∀ c ∈ l, (c : Int) < p.getD r 0) → F.length + l.length ≤ 99000 →
    ∃ s5', plainS (some s5') = true ∧ forGo (gN 5) bdIn (l.map nD) (ρV g p F (.pu (nD r)) s4 s5 s6) = some (.nx (ρV g p ((l.flatMap (inn g p r)).foldl addK F) (.pu (nD r)) s4 s5' s6))
  | [], F, s5, h5, _, _ => ⟨s5, h5, rfl⟩
  | c :: l, F, s5, h5, hm, hl => by
    rw [List.length_cons] at hl
    have e := in_body g p hb hf r c hr (hm c List.mem_cons_self) F s4 s6 h6 (by omega)
    have h1 := foldK_len (inn g p r c) F
    have h2 := inn_len g p r c
    obtain ⟨s5', k5, e2⟩ := in_go g p hb hf r hr s4 s6 h6 l ((inn g p r c).foldl addK F) (.pu (nD c)) rfl (fun d hd => hm d (List.mem_cons_of_mem _ hd)) (by omega)
    refine ⟨s5', k5, ?_⟩
    rw [List.map_cons, List.flatMap_cons, List.foldl_append]
    exact (forGo_nx (set5V h5 (nD c)) e).trans e2
theorem out_body (g : Gm) (p : List Int) (hb : Bd p) (r : Nat) (F : List (List Int)) (s4 s5 s6 : Sl) (hl : F.length ≤ 99000) :
    bdOut (ρV g p F (.pu (nD r)) s4 s5 s6) = some (.nx (ρV g p ((out g p r).foldl addK F) (.pu (nD r)) s4 s5 s6)) := by
  have e1 := dset_ev (F := F) (kO_ev (g := g) (F := F) (s4 := s4) (s6 := s6) hb r s5) hl
  have et := tOr_kk (g_l (g := g) (p := p) (F := F) (s3 := .pu (nD r)) (s4 := s4) (s5 := s5) (s6 := s6)) (tAnd_kk g_e at0)
  cases g with
  | h => exact (sIf_f et).trans pass
  | r => exact (sIf_f et).trans pass
  | l => exact (sIf_t et).trans e1
  | e =>
    by_cases h0 : r = 0
    · have eo : out .e p r = [rmL p r] := by show (if r = 0 then [rmL p r] else []) = _; rw [if_pos h0]
      rw [decide_eq_true h0] at et
      rw [eo]
      exact (sIf_t et).trans e1
    · have eo : out .e p r = [] := by show (if r = 0 then [rmL p r] else []) = _; rw [if_neg h0]
      rw [decide_eq_false h0] at et
      rw [eo]
      exact (sIf_f et).trans pass
def perL (g : Gm) (p : List Int) (q : Int × Nat) : List (List Int) := (List.range q.1.toNat).flatMap (inn g p q.2) ++ out g p q.2
theorem perL_len (g : Gm) (p : List Int) (hb : Bd p) (q : Int × Nat) (hq : q ∈ p.zipIdx) : (perL g p q).length ≤ 301 := by
  have hx := hb.2 _ (List.mem_of_getElem? (zip_mem hq))
  have h1 := flat_len (inn g p q.2) 1 (List.range q.1.toNat) fun c _ => inn_len g p q.2 c
  have h2 := out_len g p q.2
  rw [List.length_range] at h1
  unfold perL
  rw [List.length_append]
  omega
theorem mv_go (g : Gm) (p : List Int) (hb : Bd p) (hf : Fall p) : ∀ (l : List (Int × Nat)) (F : List (List Int)) (s3 s4 s5 s6 : Sl), plainS (some s3) = true → plainS (some s4) = true → plainS (some s5) = true → plainS (some s6) = true → (∀ q ∈ l, q ∈ p.zipIdx) → F.length + l.length * 301 ≤ 95000 →
    ∃ s3' s4' s5', plainS (some s3') = true ∧ plainS (some s4') = true ∧ plainS (some s5') = true ∧ forGo (gT ((gN 3) :: ((gN 4) :: []))) (sSeq (sFor (iRg1 (cVar 4)) (gN 5) bdIn) bdOut) (l.map enD) (ρV g p F s3 s4 s5 s6) = some (.nx (ρV g p ((l.flatMap (perL g p)).foldl addK F) s3' s4' s5' s6))
  | [], F, s3, s4, s5, s6, h3, h4, h5, _, _, _ => ⟨s3, s4, s5, h3, h4, h5, rfl⟩
  | q :: l, F, s3, s4, s5, s6, h3, h4, h5, h6, hm, hl => by
    rw [List.length_cons] at hl
    have hq := zip_mem (hm q List.mem_cons_self)
    have hx := hb.2 _ (List.mem_of_getElem? hq)
    have hr : q.2 < p.length := (List.getElem?_eq_some_iff.mp hq).1
    have hd : p.getD q.2 0 = q.1 := by rw [List.getD_eq_getElem?_getD, hq]; rfl
    obtain ⟨s5', k5, e⟩ := in_go g p hb hf q.2 hr (.pu (.int q.1)) s6 h6 (List.range q.1.toNat) F s5 h5 (fun c hc => by rw [hd]; have := List.mem_range.mp hc; omega) (by rw [List.length_range]; omega)
    have ei : iRg1 (cVar 4) (ρV g p F (.pu (nD q.2)) (.pu (.int q.1)) s5 s6) = some ((List.range q.1.toNat).map nD, ρV g p F (.pu (nD q.2)) (.pu (.int q.1)) s5 s6) := by
      rw [iRg1_eq (j := q.1) rfl (small_le hx.1 (by omega)), intsD_zero]
      rfl
    have h1 := foldK_len ((List.range q.1.toNat).flatMap (inn g p q.2)) F
    have h2 := flat_len (inn g p q.2) 1 (List.range q.1.toNat) fun c _ => inn_len g p q.2 c
    rw [List.length_range] at h2
    have eo := out_body g p hb q.2 (((List.range q.1.toNat).flatMap (inn g p q.2)).foldl addK F) (.pu (.int q.1)) s5' s6 (by omega)
    have h3' := foldK_len (perL g p q) F
    have h4' := perL_len g p hb q (hm q List.mem_cons_self)
    obtain ⟨t3, t4, t5, j3, j4, j5, e2⟩ := mv_go g p hb hf l ((perL g p q).foldl addK F) (.pu (nD q.2)) (.pu (.int q.1)) s5' s6 rfl rfl k5 h6 (fun z hz => hm z (List.mem_cons_of_mem _ hz)) (by omega)
    refine ⟨t3, t4, t5, j3, j4, j5, ?_⟩
    have e0 : gT ((gN 3) :: ((gN 4) :: [])) (enD q) (ρV g p F s3 s4 s5 s6) = some (ρV g p F (.pu (nD q.2)) (.pu (.int q.1)) s5 s6) := by
      cases s3 <;> first | (cases h3; done) | (cases s4 <;> first | (cases h4; done) | rfl)
    have eb : sSeq (sFor (iRg1 (cVar 4)) (gN 5) bdIn) bdOut (ρV g p F (.pu (nD q.2)) (.pu (.int q.1)) s5 s6) = some (.nx (ρV g p ((perL g p q).foldl addK F) (.pu (nD q.2)) (.pu (.int q.1)) s5' s6)) := by
      unfold perL
      rw [List.foldl_append]
      exact (sSeq_nx ((sFor_eq ei).trans e)).trans eo
    rw [List.map_cons, List.flatMap_cons, List.foldl_append]
    exact (forGo_nx e0 eb).trans e2
def lastL (g : Gm) (p : List Int) : List (List Int) := match g with
  | .e => if p = [] then [] else [laidI (p.map (· - 1))]
  | _ => []
def keysL (g : Gm) (p : List Int) : List (List Int) := p.zipIdx.flatMap (perL g p) ++ lastL g p
theorem ne_nilT (p : List Int) : opNe (tupD p) (.tuple []) = some (.bool (!p.isEmpty)) := by
  have h : min (tupD p).depth (PyData.tuple []).depth ≤ 64 := Nat.le_trans (Nat.min_le_right _ _) (by decide)
  unfold opNe
  rw [if_pos h]
  cases p with
  | nil => rfl
  | cons x p => rfl
theorem keys_dT (F : List (List Int)) : (dT F).map (·.1) = F.map tupD := by
  unfold dT
  rw [List.map_map]
  rfl
theorem tup_alikeB (F : List (List Int)) : alikeB (F.map tupD) = true := by
  unfold alikeB
  rw [List.all_eq_true]
  intro d hd
  rw [List.all_eq_true]
  intro e he
  exact alike_tups F d hd e he
theorem tup_sortB (F : List (List Int)) : sortableB (F.map tupD) = true := by
  unfold sortableB
  rw [Bool.or_eq_true]
  refine .inl ?_
  rw [List.all_eq_true]
  intro d hd
  obtain ⟨a, _, rfl⟩ := List.mem_map.mp hd
  rfl
theorem tup_depthB (F : List (List Int)) : ((F.map tupD).all fun d => decide (d.depth ≤ 60)) = true := by
  rw [List.all_eq_true]
  intro d hd
  obtain ⟨a, _, rfl⟩ := List.mem_map.mp hd
  exact decide_eq_true (depth_tupL a)
theorem e_law_moves_raw (g : Gm) (p : List Int) (hb : Bd p) (hf : Fall p) : m__law_moves [.v (.str (gS g)), .v (tupD p)] = some (.pu (.tuple (srtD (((keysL g p).foldl addK []).map tupD))), []) := by
  have hl := hb.1
  have e1 : sDNew 2 [.pu (.str (gS g)), .pu (tupD p), .non, .non, .non, .non, .non] = some (.nx (ρV g p [] .non .non .non .non)) := sDNew_eq rfl
  obtain ⟨s3, s4, s5, k3, k4, k5, e2⟩ := mv_go g p hb hf p.zipIdx [] .non .non .non .non rfl rfl rfl rfl (fun _ h => h) (by rw [List.length_zipIdx, List.length_nil]; omega)
  have ee : iEnum (cVar 1) (ρV g p [] .non .non .non .non) = some (p.zipIdx.map enD, ρV g p [] .non .non .non .non) := by
    rw [iEnum_pu rfl (show itemsOf (tupD p) = some (p.map .int) from rfl), enum_ints]; rfl
  have hF : ((p.zipIdx.flatMap (perL g p)).foldl addK []).length ≤ 99000 := by
    have h1 := foldK_len (p.zipIdx.flatMap (perL g p)) []
    have h2 := flat_len (perL g p) 301 p.zipIdx fun q hq => perL_len g p hb q hq
    rw [List.length_zipIdx] at h2
    rw [List.length_nil] at h1
    omega
  have e3 : sIf (tAnd (tBl (cOp2 opEq (cVar 0) (cC (.str (Str.ofString "edges"))))) (tBl (cOp2 opNe (cVar 1) (cTup aNil)))) (sDSet 2 kE (cC (.bool true))) sPass (ρV g p ((p.zipIdx.flatMap (perL g p)).foldl addK []) s3 s4 s5 .non) =
      some (.nx (ρV g p ((keysL g p).foldl addK []) s3 s4 s5 .non)) := by
    unfold keysL
    rw [List.foldl_append]
    generalize (p.zipIdx.flatMap (perL g p)).foldl addK [] = F at hF ⊢
    have et := tAnd_kk (g_e (g := g) (p := p) (F := F) (s3 := s3) (s4 := s4) (s5 := s5) (s6 := .non)) (tBl_eq (k := !p.isEmpty) (cOp2_pu (a := cVar 1) (b := cTup aNil) (ρ1 := ρV g p F s3 s4 s5 .non) (x := tupD p) rfl (cTup_args args_nil (Nat.zero_le _)) (ne_nilT p)))
    cases g with
    | e =>
      by_cases hp : p = []
      · subst hp
        exact (sIf_f et).trans pass
      · have hn : p.isEmpty = false := by cases p with
          | nil => exact absurd rfl hp
          | cons x p => rfl
        have el : lastL .e p = [laidI (p.map (· - 1))] := by show (if p = [] then [] else _) = _; rw [if_neg hp]
        rw [hn] at et
        rw [el]
        exact (sIf_t et).trans (dset_ev (kE_ev (g := .e) (F := F) (s4 := s4) (s6 := .non) hb s3 s5 rfl) hF)
    | _ => exact (sIf_f et).trans pass
  generalize (keysL g p).foldl addK [] = F at e3 ⊢
  have es : cDSrt 2 (ρV g p F s3 s4 s5 .non) = some (.nw (.list (srtD (F.map tupD))), ρV g p F s3 s4 s5 .non) := by
    have q := cDSrt_eq (i := 2) (ρ := ρV g p F s3 s4 s5 .non) (kvs := dT F) rfl (by rw [keys_dT]; exact tup_alikeB F) (by rw [keys_dT]; exact tup_sortB F) (by rw [keys_dT]; exact tup_depthB F)
    rw [keys_dT] at q
    exact q
  have e4 : b__law_moves [.pu (.str (gS g)), .pu (tupD p), .non, .non, .non, .non, .non] = some (.rt (.pu (.tuple (srtD (F.map tupD)))) (ρV g p F s3 s4 s5 .non)) := by
    rw [b_lm_eq]
    exact (sSeq_nx e1).trans ((sSeq_nx ((sFor_eq ee).trans e2)).trans ((sSeq_nx e3).trans (sRet_eq (cOpA_args (args_nw es args_nil) (fTuple_l _)))))
  exact run_rt rfl rfl e4 rfl
theorem keys_same (g : Gm) (p : List Int) (h1 : ∀ x ∈ p, 1 ≤ x) (x : List Int) : x ∈ keysL g p ↔ x ∈ gF g p := by
  unfold keysL gF
  by_cases hp : p = []
  · subst hp
    cases g <;> simp [lastL]
  rw [if_neg hp]
  cases g with
  | h =>
    simp only [lastL, perL, inn, out, fH, List.append_nil, List.mem_flatMap, List.mem_map, List.mem_singleton]
    constructor
    · rintro ⟨q, hq, c, hc, rfl⟩
      exact ⟨q, hq, c, hc, rfl⟩
    · rintro ⟨q, hq, c, hc, rfl⟩
      exact ⟨q, hq, c, hc, rfl⟩
  | r =>
    simp only [lastL, perL, inn, out, fR, sqs, List.append_nil, List.mem_flatMap, List.mem_map, List.mem_singleton]
    constructor
    · rintro ⟨q, hq, c, hc, rfl⟩
      exact ⟨(q.2, c), ⟨q, hq, c, hc, rfl⟩, rfl⟩
    · rintro ⟨z, ⟨q, hq, c, hc, rfl⟩, rfl⟩
      exact ⟨q, hq, c, hc, rfl⟩
  | e =>
    obtain ⟨a, p', rfl⟩ : ∃ a p', p = a :: p' := by
      cases p with
      | nil => exact absurd rfl hp
      | cons a p' => exact ⟨a, p', rfl⟩
    have ec : colL (a :: p') 0 = (a :: p').map (· - 1) := by
      unfold colL
      refine List.map_congr_left fun h hh => ?_
      have := h1 h hh
      rw [if_pos (by omega)]
    have er : rmL (a :: p') 0 = p' := rfl
    simp only [lastL, if_neg hp, fE, ec, List.mem_append, List.mem_flatMap, List.mem_singleton, List.mem_cons, List.not_mem_nil, or_false, perL, inn, out]
    constructor
    · rintro (⟨q, hq, h | h⟩ | h)
      · obtain ⟨c, _, h⟩ := h
        exact h.elim
      · by_cases h0 : q.2 = 0
        · rw [if_pos h0, List.mem_singleton, h0, er] at h
          exact .inl h
        · rw [if_neg h0] at h; cases h
      · exact .inr h
    · rintro (h | h)
      · exact .inl ⟨(a, 0), by simp, .inr (by rw [if_pos rfl, List.mem_singleton, er]; exact h)⟩
      · exact .inr h
  | l =>
    obtain ⟨a, p', rfl⟩ : ∃ a p', p = a :: p' := by
      cases p with
      | nil => exact absurd rfl hp
      | cons a p' => exact ⟨a, p', rfl⟩
    generalize hq : a :: p' = p at *
    have ha : p[0]? = some a := by rw [← hq]; rfl
    have hh : p.headD 0 = a := by rw [← hq]; rfl
    simp only [lastL, fL, hh, List.append_nil, List.mem_append, List.mem_flatMap, List.mem_map, List.mem_range, perL, inn, out, List.mem_singleton]
    constructor
    · rintro ⟨q, hq, h | h⟩
      · obtain ⟨c, hc, h⟩ := h
        by_cases h0 : q.2 = 0
        · rw [if_pos h0, List.mem_singleton] at h
          have hz := zip_mem hq
          rw [h0, ha] at hz
          have hz' : a = q.1 := Option.some.inj hz
          rw [← hz'] at hc
          exact .inr ⟨c, hc, h.symm⟩
        · rw [if_neg h0] at h; cases h
      · exact .inl ⟨q.2, (List.getElem?_eq_some_iff.mp (zip_mem hq)).1, h.symm⟩
    · rintro (⟨r, hr, h⟩ | ⟨c, hc, h⟩)
      · exact ⟨(p[r], r), List.mem_zipIdx_iff_getElem?.mpr (List.getElem?_eq_getElem hr), .inr h.symm⟩
      · exact ⟨(a, 0), List.mem_zipIdx_iff_getElem?.mpr ha, .inl ⟨c, hc, by rw [if_pos rfl, List.mem_singleton]; exact h.symm⟩⟩
theorem e_law_moves (g : Gm) (p : List Int) (hb : Bd p) (hf : Fall p) (h1 : ∀ x ∈ p, 1 ≤ x) : m__law_moves [.v (.str (gS g)), .v (tupD p)] = some (.pu (.tuple (MV g p)), []) := by
  rw [e_law_moves_raw g p hb hf]
  unfold MV
  have e : srtD (((keysL g p).foldl addK []).map tupD) = srtD ((nubL (gF g p)).map tupD) := by
    refine srtD_perm ((List.perm_ext_iff_of_nodup (foldK_nd _ _ List.nodup_nil) (nubL_nodup _)).mpr fun x => ?_)
    rw [fold_mem, nubL_mem, keys_same g p h1]
    simp
  rw [e]

def Par (p : List Int) : Prop := p.Pairwise (· ≥ ·) ∧ ∀ x ∈ p, 1 ≤ x
theorem Par.fall {p : List Int} (h : Par p) : Fall p := ⟨h.1, fun x hx => by have := h.2 x hx; omega⟩
def sq (p : List Int) (i j : Nat) : Prop := (j : Int) < p.getD i 0
theorem getD_nn {p : List Int} (h : Fall p) (i : Nat) : 0 ≤ p.getD i 0 := by
  have := getD_ge h.1 h.2 (i := i) (j := p.length + i) (by omega)
  rw [List.getD_eq_getElem?_getD, List.getElem?_eq_none (by omega)] at this
  exact this
theorem sq_down {p : List Int} (h : Fall p) {i i' j : Nat} (hi : i ≤ i') (hs : sq p i' j) : sq p i j := by
  have := getD_ge h.1 h.2 hi
  unfold sq at hs ⊢
  omega
theorem sq_len {p : List Int} {i j : Nat} (h : sq p i j) : i < p.length := by
  refine Classical.byContradiction fun q => ?_
  unfold sq at h
  rw [List.getD_eq_getElem?_getD, List.getElem?_eq_none (by omega)] at h
  have h' : (j : Int) < 0 := h
  omega
theorem sq_ext {a b : List Int} (ha : Par a) (hb : Par b) (h : ∀ i j, sq a i j ↔ sq b i j) : a = b := by
  have val : ∀ i, a.getD i 0 = b.getD i 0 := fun i => by
    have h1 := getD_nn ha.fall i
    have h2 := getD_nn hb.fall i
    have k1 := h i (a.getD i 0).toNat
    have k2 := h i (b.getD i 0).toNat
    unfold sq at k1 k2
    omega
  have len : ∀ {x y : List Int}, Par x → (∀ i, x.getD i 0 = y.getD i 0) → x.length ≤ y.length := fun {x y} hx hv => by
    refine Nat.le_of_not_lt fun hlt => ?_
    have e := hv y.length
    have e2 : x.getD y.length 0 = x[y.length] := by rw [List.getD_eq_getElem?_getD, List.getElem?_eq_getElem hlt]; rfl
    rw [e2, List.getD_eq_getElem?_getD, List.getElem?_eq_none (Nat.le_refl _)] at e
    have e' : x[y.length] = 0 := e
    have := hx.2 _ (List.getElem_mem hlt)
    omega
  have hl : a.length = b.length := Nat.le_antisymm (len ha val) (len hb fun i => (val i).symm)
  refine List.ext_getElem hl fun i h1 h2 => ?_
  have e := val i
  rw [List.getD_eq_getElem?_getD, List.getD_eq_getElem?_getD, List.getElem?_eq_getElem h1, List.getElem?_eq_getElem h2] at e
  exact e
theorem srtDn_fall {l : List Int} (h : l.Pairwise (· ≥ ·)) : srtDn l = l := (srtDn_eq (List.Perm.refl _) h).symm
theorem srtDn_pw (l : List Int) : (srtDn l).Pairwise (· ≥ ·) := by
  unfold srtDn
  rw [List.pairwise_reverse]
  exact srtUp_srt l
theorem srtDn_perm (l : List Int) : (srtDn l).Perm l := (List.reverse_perm _).trans (srtUp_perm l)
theorem laid_par (l : List Int) : Par (laidI l) := ⟨srtDn_pw _, fun x hx => by
  have := (srtDn_perm _).mem_iff.mp hx
  have := (List.mem_filter.mp this).2
  simp only [decide_eq_true_eq] at this
  omega⟩
theorem filt_get : ∀ (l : List Int), Fall l → ∀ i, (l.filter fun n => decide (0 < n)).getD i 0 = l.getD i 0
  | [], _, i => rfl
  | a :: l, h, i => by
    obtain ⟨h1, h2⟩ := List.pairwise_cons.mp h.1
    have hl : Fall l := ⟨h2, fun x hx => h.2 x (List.mem_cons_of_mem _ hx)⟩
    by_cases ha : 0 < a
    · rw [List.filter_cons_of_pos (p := fun n : Int => decide (0 < n)) (decide_eq_true ha)]
      cases i with
      | zero => rfl
      | succ i => exact filt_get l hl i
    · have a0 := h.2 a List.mem_cons_self
      have hz : ∀ x ∈ a :: l, x = 0 := fun x hx => by
        rcases List.mem_cons.mp hx with rfl | hx
        · omega
        · have := h1 x hx
          have := hl.2 x hx
          omega
      have hf : (a :: l).filter (fun n => decide (0 < n)) = [] := by
        rw [List.filter_eq_nil_iff]
        intro x hx
        have := hz x hx
        simp; omega
      rw [hf, List.getD_eq_getElem?_getD, List.getD_eq_getElem?_getD]
      show (0 : Int) = _
      cases e : (a :: l)[i]? with
      | none => rfl
      | some x => exact (hz x (List.mem_of_getElem? e)).symm
theorem laid_sq {l : List Int} (h : Fall l) (i j : Nat) : sq (laidI l) i j ↔ sq l i j := by
  have hp : (l.filter fun n => decide (0 < n)).Pairwise (· ≥ ·) := h.1.filter _
  unfold sq laidI
  rw [srtDn_fall hp, filt_get l h i]
/-- falling, said of the squares -/
theorem fall_sq {l : List Int} (h0 : ∀ x ∈ l, 0 ≤ x) (h : ∀ i j, sq l (i + 1) j → sq l i j) : Fall l := by
  refine ⟨?_, h0⟩
  have step : ∀ i k, l.getD (i + k) 0 ≤ l.getD i 0 := fun i k => by
    induction k with
    | zero => exact Int.le_refl _
    | succ k ih =>
      refine Int.le_trans ?_ ih
      have := h (i + k) ((l.getD (i + k) 0).toNat)
      have nn : 0 ≤ l.getD (i + k) 0 := by
        rw [List.getD_eq_getElem?_getD]
        cases e : l[i + k]? with
        | none => exact Int.le_refl _
        | some x => exact h0 x (List.mem_of_getElem? e)
      unfold sq at this
      have e : i + (k + 1) = i + k + 1 := by omega
      rw [e]
      omega
  rw [List.pairwise_iff_getElem]
  intro i j hi hj hij
  have q := step i (j - i)
  have e : i + (j - i) = j := by omega
  rw [e, List.getD_eq_getElem?_getD, List.getD_eq_getElem?_getD, List.getElem?_eq_getElem hi, List.getElem?_eq_getElem hj] at q
  exact q
theorem getD_mem {p : List Int} {i : Nat} (h : i < p.length) : p.getD i 0 ∈ p := by
  rw [List.getD_eq_getElem?_getD, List.getElem?_eq_getElem h]
  exact List.getElem_mem h
theorem rim_nn {p : List Int} (h : Fall p) {r c : Nat} (hs : sq p r c) : ∀ x ∈ rimL p r c, 0 ≤ x := fun x hx => by
  have hr := sq_len hs
  obtain ⟨i, hi, rfl⟩ := List.getElem_of_mem hx
  have e : (rimL p r c)[i] = (rimL p r c).getD i 0 := by rw [List.getD_eq_getElem?_getD, List.getElem?_eq_getElem hi]; rfl
  rw [rimL_length p r c hr] at hi
  rw [e, rimL_get p r c hr i hi]
  have q2 : r < i + 1 → ((c : Int) < p.getD (i + 1) 0 ↔ i + 1 ≤ r + leg p r c) := leg_iff h.1 r c (i + 1)
  have := getD_nn h i
  repeat' split
  all_goals omega
theorem rim_sq {p : List Int} (h : Fall p) {r c : Nat} (hs : sq p r c) (i j : Nat) : sq (rimL p r c) i j ↔ (if r ≤ i ∧ c ≤ j then sq p (i + 1) (j + 1) else sq p i j) := by
  have hr := sq_len hs
  by_cases hi : i < p.length
  · have q1 : r < i → ((c : Int) < p.getD i 0 ↔ i ≤ r + leg p r c) := leg_iff h.1 r c i
    have q2 : r < i + 1 → ((c : Int) < p.getD (i + 1) 0 ↔ i + 1 ≤ r + leg p r c) := leg_iff h.1 r c (i + 1)
    have m1 : p.getD (i + 1) 0 ≤ p.getD i 0 := getD_ge h.1 h.2 (by omega)
    have hcr : i = r → (c : Int) < p.getD i 0 := fun z => by rw [z]; exact hs
    unfold sq
    rw [rimL_get p r c hr i hi]
    repeat' split
    all_goals omega
  · have e1 : ¬ sq (rimL p r c) i j := fun z => by
      have := sq_len z
      rw [rimL_length p r c hr] at this
      exact hi this
    have e2 : ¬ sq p (i + 1) (j + 1) := fun z => by have := sq_len z; omega
    have e3 : ¬ sq p i j := fun z => hi (sq_len z)
    split
    · exact ⟨fun z => absurd z e1, fun z => absurd z e2⟩
    · exact ⟨fun z => absurd z e1, fun z => absurd z e3⟩
theorem rim_fall {p : List Int} (h : Fall p) {r c : Nat} (hs : sq p r c) : Fall (rimL p r c) := by
  refine fall_sq (rim_nn h hs) fun i j z => ?_
  rw [rim_sq h hs] at z ⊢
  have left : ∀ {i j : Nat}, sq p i (j + 1) → sq p i j := fun {i j} z => by unfold sq at z ⊢; omega
  by_cases h1 : r ≤ i ∧ c ≤ j
  · rw [if_pos h1]
    rw [if_pos ⟨by omega, h1.2⟩] at z
    exact sq_down h (by omega) z
  · rw [if_neg h1]
    by_cases h2 : r ≤ i + 1 ∧ c ≤ j
    · rw [if_pos h2] at z
      exact left (sq_down h (by omega) z)
    · rw [if_neg h2] at z
      exact sq_down h (by omega) z
theorem col_get (p : List Int) (c i : Nat) : (colL p c).getD i 0 = if (c : Int) < p.getD i 0 then p.getD i 0 - 1 else p.getD i 0 := by
  unfold colL
  rw [List.getD_eq_getElem?_getD, List.getElem?_map, List.getD_eq_getElem?_getD]
  cases p[i]? with
  | none =>
    show (0 : Int) = if (c : Int) < 0 then _ else _
    rw [if_neg (by omega)]
    rfl
  | some x => rfl
theorem col_sq (p : List Int) (c i j : Nat) : sq (colL p c) i j ↔ (if c ≤ j then sq p i (j + 1) else sq p i j) := by
  unfold sq
  rw [col_get]
  repeat' split
  all_goals omega
theorem col_fall {p : List Int} (h : Fall p) (c : Nat) : Fall (colL p c) := by
  refine fall_sq (fun x hx => ?_) fun i j z => ?_
  · obtain ⟨y, hy, rfl⟩ := List.mem_map.mp hx
    have := h.2 y hy
    show 0 ≤ if (c : Int) < y then y - 1 else y
    split <;> omega
  · rw [col_sq] at z ⊢
    split at z
    · rw [if_pos ‹_›]; exact sq_down h (by omega) z
    · rw [if_neg ‹_›]; exact sq_down h (by omega) z
theorem rm_get (p : List Int) (r i : Nat) (hr : r < p.length) : (rmL p r).getD i 0 = if i < r then p.getD i 0 else p.getD (i + 1) 0 := by
  unfold rmL
  have l1 : (p.take r).length = r := by rw [List.length_take]; omega
  simp only [List.getD_eq_getElem?_getD]
  by_cases h : i < r
  · rw [if_pos h, List.getElem?_append_left (by omega), List.getElem?_take_of_lt h]
  · rw [if_neg h, List.getElem?_append_right (by omega), l1, List.getElem?_drop]
    have e : r + 1 + (i - r) = i + 1 := by omega
    rw [e]
theorem rm_sq (p : List Int) (r i j : Nat) (hr : r < p.length) : sq (rmL p r) i j ↔ (if i < r then sq p i j else sq p (i + 1) j) := by
  unfold sq
  rw [rm_get p r i hr]
  split <;> rfl
theorem rm_par {p : List Int} (h : Par p) (r : Nat) : Par (rmL p r) := by
  have hs : (rmL p r).Sublist p := by
    unfold rmL
    have e : p = p.take r ++ p.drop r := (List.take_append_drop r p).symm
    have q : (p.drop (r + 1)).Sublist (p.drop r) := by
      have : p.drop (r + 1) = (p.drop r).drop 1 := by rw [List.drop_drop]
      rw [this]
      exact List.drop_sublist _ _
    have q2 := List.Sublist.append (List.Sublist.refl (p.take r)) q
    rw [List.take_append_drop] at q2
    exact q2
  exact ⟨h.1.sublist hs, fun x hx => h.2 x (hs.subset hx)⟩

theorem cnt_iff {p : List Int} (h : Fall p) (c i : Nat) : ((c : Int) < p.getD i 0 ↔ i < p.countP fun x => decide ((c : Int) < x)) := by
  by_cases hi : i < p.length
  · have q := fall_count (c : Int) p h.1 i hi
    have e : p.getD i 0 = p[i] := by rw [List.getD_eq_getElem?_getD, List.getElem?_eq_getElem hi]; rfl
    rw [e]
    exact q
  · rw [List.getD_eq_getElem?_getD, List.getElem?_eq_none (by omega)]
    have := List.countP_le_length (p := fun x : Int => decide ((c : Int) < x)) (l := p)
    show (c : Int) < 0 ↔ _
    omega
theorem turn_get {p : List Int} (h : Fall p) (j : Nat) : (turnI p).getD j 0 = ((p.countP fun x => decide ((j : Int) < x) : Nat) : Int) := by
  unfold turnI
  rw [List.getD_eq_getElem?_getD, List.getElem?_map]
  by_cases hj : j < (maxZ p).toNat
  · rw [List.getElem?_range hj]; rfl
  · rw [List.getElem?_eq_none (by rw [List.length_range]; omega)]
    have : (p.countP fun x => decide ((j : Int) < x)) = 0 := by
      rw [List.countP_eq_zero]
      intro x hx
      have := maxZ_ge p x hx
      simp; omega
    rw [this]
    rfl
theorem turn_sq {p : List Int} (h : Fall p) (i j : Nat) : sq (turnI p) i j ↔ sq p j i := by
  unfold sq
  rw [turn_get h, cnt_iff h i j]
  omega
theorem turn_par {p : List Int} (h : Fall p) : Par (turnI p) := by
  have h1 : ∀ x ∈ turnI p, 1 ≤ x := fun x hx => by
    unfold turnI at hx
    obtain ⟨c, hc, rfl⟩ := List.mem_map.mp hx
    have hc' := List.mem_range.mp hc
    have hm := maxZ_mem p (by omega)
    have : 0 < p.countP fun n => decide ((c : Int) < n) := List.countP_pos_iff.mpr ⟨_, hm, decide_eq_true (by omega)⟩
    omega
  exact ⟨(fall_sq (fun x hx => by have := h1 x hx; omega) fun i j z => by
    rw [turn_sq h] at z ⊢
    unfold sq at z ⊢
    omega).1, h1⟩
theorem turn_turn {p : List Int} (h : Par p) : turnI (turnI p) = p := sq_ext (turn_par (turn_par h.fall).fall) h fun i j => by
  rw [turn_sq (turn_par h.fall).fall, turn_sq h.fall]
theorem turn_rim {q : List Int} (h : Par q) {r c : Nat} (hs : sq q r c) : turnI (laidI (rimL q r c)) = laidI (rimL (turnI q) c r) := by
  have ht := turn_par h.fall
  have hs' : sq (turnI q) c r := (turn_sq h.fall c r).mpr hs
  have f1 := rim_fall h.fall hs
  have f2 := rim_fall ht.fall hs'
  refine sq_ext (turn_par (laid_par _).fall) (laid_par _) fun i j => ?_
  rw [turn_sq (laid_par _).fall, laid_sq f1, laid_sq f2, rim_sq h.fall hs, rim_sq ht.fall hs', turn_sq h.fall, turn_sq h.fall]
  by_cases hh : r ≤ j ∧ c ≤ i
  · rw [if_pos hh, if_pos hh.symm]
  · rw [if_neg hh, if_neg fun z => hh z.symm]
theorem turn_rm {q : List Int} (h : Par q) {r : Nat} (hr : r < q.length) : turnI (rmL q r) = laidI (colL (turnI q) r) := by
  have ht := turn_par h.fall
  refine sq_ext (turn_par (rm_par h r).fall) (laid_par _) fun i j => ?_
  rw [turn_sq (rm_par h r).fall, laid_sq (col_fall ht.fall r), col_sq, rm_sq q r j i hr, turn_sq h.fall, turn_sq h.fall]
  by_cases hh : j < r
  · rw [if_pos hh, if_neg (by omega)]
  · rw [if_neg hh, if_pos (by omega)]
theorem turn_len {q : List Int} (h : Par q) {c : Nat} : c < (turnI q).length ↔ sq q 0 c := by
  rw [← turn_sq h.fall]
  constructor
  · intro z
    have := (turn_par h.fall).2 _ (getD_mem z)
    unfold sq
    omega
  · exact sq_len
theorem turn_col {q : List Int} (h : Par q) {c : Nat} (hc : sq q 0 c) : turnI (laidI (colL q c)) = rmL (turnI q) c := by
  have ht := turn_par h.fall
  refine sq_ext (turn_par (laid_par _).fall) (rm_par ht c) fun i j => ?_
  rw [turn_sq (laid_par _).fall, laid_sq (col_fall h.fall c), col_sq, rm_sq _ c i j ((turn_len h).mpr hc), turn_sq h.fall, turn_sq h.fall]
  by_cases hh : i < c
  · rw [if_pos hh, if_neg (by omega)]
  · rw [if_neg hh, if_pos (by omega)]
theorem head_get (p : List Int) : p.headD 0 = p.getD 0 0 := by cases p <;> rfl
theorem mem_sqs {p : List Int} (q : Nat × Nat) : q ∈ sqs p ↔ sq p q.1 q.2 := by
  constructor
  · intro h
    obtain ⟨x, h1, h2⟩ := sqs_mem h
    unfold sq
    rw [List.getD_eq_getElem?_getD, h1]
    exact h2
  · intro h
    have hr := sq_len h
    unfold sqs
    refine List.mem_flatMap.mpr ⟨(p[q.1], q.1), List.mem_zipIdx_iff_getElem?.mpr (List.getElem?_eq_getElem hr), List.mem_map.mpr ⟨q.2, List.mem_range.mpr ?_, rfl⟩⟩
    unfold sq at h
    rw [List.getD_eq_getElem?_getD, List.getElem?_eq_getElem hr] at h
    have h' : (q.2 : Int) < p[q.1] := h
    show q.2 < (p[q.1]).toNat
    omega
/-- turning maps the moves of q onto moves of the turned ones -/
theorem turn_moves {q : List Int} (h : Par q) (g : Gm) (hg : g ≠ .h) {x : List Int} (hx : x ∈ gF g q) : turnI x ∈ gF g (turnI q) := by
  have ht := turn_par h.fall
  by_cases hq : q = []
  · subst hq
    unfold gF at hx
    rw [if_pos rfl] at hx
    cases hx
  have hne : turnI q ≠ [] := fun z => by
    have := turn_turn h
    rw [z] at this
    exact hq (this.symm.trans rfl)
  have h0 : sq q 0 0 := by
    have : 0 < q.length := List.length_pos_iff.mpr hq
    have := h.2 _ (getD_mem this)
    unfold sq
    omega
  unfold gF at hx ⊢
  rw [if_neg hq] at hx
  rw [if_neg hne]
  cases g with
  | h => exact absurd rfl hg
  | r =>
    obtain ⟨z, hz, rfl⟩ := List.mem_map.mp hx
    have hs := (mem_sqs z).mp hz
    exact List.mem_map.mpr ⟨(z.2, z.1), (mem_sqs _).mpr ((turn_sq h.fall z.2 z.1).mpr hs), (turn_rim h hs).symm⟩
  | e =>
    have e0 : ∀ p : List Int, p.drop 1 = rmL p 0 := fun p => rfl
    have hx' : x = q.drop 1 ∨ x = laidI (colL q 0) := by simpa [fE] using hx
    show turnI x ∈ [(turnI q).drop 1, laidI (colL (turnI q) 0)]
    rcases hx' with rfl | rfl
    · rw [e0 q, turn_rm h (sq_len h0)]
      simp
    · rw [turn_col h h0, ← e0]
      simp
  | l =>
    show turnI x ∈ ((List.range (turnI q).length).map fun r => rmL (turnI q) r) ++ ((List.range ((turnI q).headD 0).toNat).map fun c => laidI (colL (turnI q) c))
    have hx' : x ∈ ((List.range q.length).map fun r => rmL q r) ++ ((List.range (q.headD 0).toNat).map fun c => laidI (colL q c)) := hx
    rw [List.mem_append] at hx' ⊢
    rcases hx' with hx' | hx'
    · obtain ⟨r, hr, rfl⟩ := List.mem_map.mp hx'
      have hr' := List.mem_range.mp hr
      refine .inr (List.mem_map.mpr ⟨r, List.mem_range.mpr ?_, (turn_rm h hr').symm⟩)
      have : sq (turnI q) 0 r := (turn_sq h.fall 0 r).mpr (by
        have := h.2 _ (getD_mem hr')
        unfold sq
        omega)
      unfold sq at this
      rw [head_get]
      omega
    · obtain ⟨c, hc, rfl⟩ := List.mem_map.mp hx'
      have hc' := List.mem_range.mp hc
      have hs : sq q 0 c := by
        unfold sq
        rw [head_get] at hc'
        omega
      exact .inl (List.mem_map.mpr ⟨c, List.mem_range.mpr ((turn_len h).mpr hs), (turn_col h hs).symm⟩)
theorem sum_perm {l m : List Int} (h : l.Perm m) : l.sum = m.sum := by
  induction h with
  | nil => rfl
  | cons x _ ih => simp [ih]
  | swap x y l => simp; omega
  | trans _ _ h1 h2 => exact h1.trans h2
theorem laid_sum {l : List Int} (h0 : ∀ x ∈ l, 0 ≤ x) : (laidI l).sum = l.sum := by
  unfold laidI
  rw [sum_perm (srtDn_perm _), sum_filter_pos l h0]
theorem split_at {p : List Int} {r : Nat} (hr : r < p.length) : p.sum = (p.take r).sum + (p.getD r 0 + (p.drop (r + 1)).sum) := by
  have e : p = p.take r ++ (p[r] :: p.drop (r + 1)) := by
    rw [← List.drop_eq_getElem_cons hr, List.take_append_drop]
  have e2 : p.getD r 0 = p[r] := by rw [List.getD_eq_getElem?_getD, List.getElem?_eq_getElem hr]; rfl
  rw [e2]
  have := congrArg List.sum e
  rw [List.sum_append, List.sum_cons] at this
  exact this
theorem sub_sum : ∀ l : List Int, (l.map (· - 1)).sum = l.sum - l.length
  | [] => rfl
  | a :: l => by
    rw [List.map_cons, List.sum_cons, List.sum_cons, sub_sum l, List.length_cons]
    omega
theorem rim_sum {p : List Int} (h : Fall p) {r c : Nat} (hs : sq p r c) : (rimL p r c).sum < p.sum := by
  have hr := sq_len hs
  have hl := leg_le p r c hr
  have e1 := split_at hr
  have e2 : (p.drop (r + 1)).sum = ((p.drop (r + 1)).take (leg p r c)).sum + (p.drop (r + leg p r c + 1)).sum := by
    have q := (List.take_append_drop (leg p r c) (p.drop (r + 1))).symm
    have q2 := congrArg List.sum q
    rw [List.sum_append, List.drop_drop] at q2
    have e : r + 1 + leg p r c = r + leg p r c + 1 := by omega
    rw [e] at q2
    exact q2
  have hs' : (c : Int) < p.getD r 0 := hs
  unfold rimL
  rw [List.sum_append, List.sum_append, List.sum_append, sub_sum]
  simp only [List.sum_cons, List.sum_nil]
  omega
theorem ht_sum {p : List Int} {r c : Nat} (hs : sq p r c) : (htL p r c).sum < p.sum := by
  have e1 := split_at (sq_len hs)
  have hs' : (c : Int) < p.getD r 0 := hs
  unfold htL
  rw [List.sum_append, List.sum_append]
  simp only [List.sum_cons, List.sum_nil]
  omega
theorem rm_sum {p : List Int} (h : Par p) {r : Nat} (hr : r < p.length) : (rmL p r).sum < p.sum := by
  have e1 := split_at hr
  have := h.2 _ (getD_mem hr)
  unfold rmL
  rw [List.sum_append]
  omega
theorem col_le : ∀ (l : List Int) (c : Nat), (colL l c).sum ≤ l.sum
  | [], c => Int.le_refl _
  | a :: l, c => by
    have := col_le l c
    show (if (c : Int) < a then a - 1 else a) + (colL l c).sum ≤ _
    rw [List.sum_cons]
    split <;> omega
theorem col_sum {p : List Int} {c : Nat} (hs : sq p 0 c) : (colL p c).sum < p.sum := by
  cases p with
  | nil => exact absurd (sq_len hs) (Nat.not_lt_zero _)
  | cons a l =>
    have := col_le l c
    have hs' : (c : Int) < a := hs
    show (if (c : Int) < a then a - 1 else a) + (colL l c).sum < _
    rw [List.sum_cons, if_pos hs']
    omega
/-- each move is piles of fewer stones -/
theorem moves_par {p : List Int} (h : Par p) (g : Gm) {x : List Int} (hx : x ∈ gF g p) : Par x ∧ x.sum < p.sum := by
  have hF := h.fall
  unfold gF at hx
  by_cases hp : p = []
  · rw [if_pos hp] at hx; cases hx
  rw [if_neg hp] at hx
  have h0 : sq p 0 0 := by
    have : 0 < p.length := List.length_pos_iff.mpr hp
    have := h.2 _ (getD_mem this)
    unfold sq
    omega
  cases g with
  | h =>
    obtain ⟨q, hq, hx⟩ := List.mem_flatMap.mp hx
    obtain ⟨c, hc, rfl⟩ := List.mem_map.mp hx
    have hz := zip_mem hq
    have hs : sq p q.2 c := by
      unfold sq
      rw [List.getD_eq_getElem?_getD, hz]
      have := List.mem_range.mp hc
      show (c : Int) < q.1
      omega
    refine ⟨laid_par _, ?_⟩
    rw [laid_sum fun y hy => ?_]
    · exact ht_sum hs
    · unfold htL at hy
      rw [List.mem_append, List.mem_append, List.mem_singleton] at hy
      rcases hy with (hy | hy) | hy
      · exact hF.2 y (List.mem_of_mem_take hy)
      · omega
      · exact hF.2 y (List.mem_of_mem_drop hy)
  | r =>
    obtain ⟨z, hz, rfl⟩ := List.mem_map.mp hx
    have hs := (mem_sqs z).mp hz
    refine ⟨laid_par _, ?_⟩
    rw [laid_sum (rim_nn hF hs)]
    exact rim_sum hF hs
  | e =>
    have hx' : x = p.drop 1 ∨ x = laidI (colL p 0) := by simpa [fE] using hx
    rcases hx' with rfl | rfl
    · exact ⟨rm_par h 0, rm_sum h (sq_len h0)⟩
    · refine ⟨laid_par _, ?_⟩
      rw [laid_sum (col_fall hF 0).2]
      exact col_sum h0
  | l =>
    have hx' : x ∈ ((List.range p.length).map fun r => rmL p r) ++ ((List.range (p.headD 0).toNat).map fun c => laidI (colL p c)) := hx
    rw [List.mem_append] at hx'
    rcases hx' with hx' | hx'
    · obtain ⟨r, hr, rfl⟩ := List.mem_map.mp hx'
      exact ⟨rm_par h r, rm_sum h (List.mem_range.mp hr)⟩
    · obtain ⟨c, hc, rfl⟩ := List.mem_map.mp hx'
      have hc' := List.mem_range.mp hc
      refine ⟨laid_par _, ?_⟩
      rw [laid_sum (col_fall hF c).2]
      refine col_sum ?_
      unfold sq
      rw [head_get] at hc'
      omega

theorem len_sum : ∀ {p : List Int}, (∀ x ∈ p, 1 ≤ x) → (p.length : Int) ≤ p.sum
  | [], _ => Int.le_refl _
  | a :: l, h => by
    have h1 := h a List.mem_cons_self
    have h2 := len_sum (p := l) fun x hx => h x (List.mem_cons_of_mem _ hx)
    rw [List.length_cons, List.sum_cons]
    omega
theorem le_sum : ∀ {p : List Int}, (∀ x ∈ p, 0 ≤ x) → ∀ x ∈ p, x ≤ p.sum
  | a :: l, h, x, hx => by
    have hl : ∀ y ∈ l, 0 ≤ y := fun y hy => h y (List.mem_cons_of_mem _ hy)
    have ha := h a List.mem_cons_self
    have hs : 0 ≤ l.sum := by
      clear hx
      induction l with
      | nil => exact Int.le_refl _
      | cons b l ih =>
        have := hl b List.mem_cons_self
        have := ih (fun y hy => by rcases List.mem_cons.mp hy with rfl | hy; exact ha; exact hl y (List.mem_cons_of_mem _ hy)) fun y hy => hl y (List.mem_cons_of_mem _ hy)
        rw [List.sum_cons]; omega
    rw [List.sum_cons]
    rcases List.mem_cons.mp hx with rfl | hx
    · omega
    · have := le_sum hl x hx
      omega
theorem par_fits {p : List Int} (h : Par p) (hs : p.sum ≤ 300) : fitsI p = true := by
  have h1 := len_sum h.2
  have h2 := le_sum h.fall.2
  unfold fitsI heightsB
  rw [fall_of p h.1]
  simp only [Bool.and_true, Bool.and_eq_true, decide_eq_true_eq, List.all_eq_true]
  exact ⟨⟨by omega, fun x hx => ⟨h.2 x hx, by have := h2 x hx; omega⟩⟩, hs⟩
theorem flat_sum {β : Type} (f : Int × Nat → List β) (hf : ∀ q, (f q).length = q.1.toNat) : ∀ (l : List Int) (k : Nat), (∀ x ∈ l, 0 ≤ x) → (((l.zipIdx k).flatMap f).length : Int) = l.sum
  | [], _, _ => rfl
  | a :: l, k, h => by
    have ih := flat_sum f hf l (k + 1) fun x hx => h x (List.mem_cons_of_mem _ hx)
    have := h a List.mem_cons_self
    rw [List.zipIdx_cons, List.flatMap_cons, List.length_append, hf, List.sum_cons]
    show ((a.toNat + _ : Nat) : Int) = _
    omega
theorem moves_few {p : List Int} (h : Par p) (g : Gm) (hs : p.sum ≤ 60) : (gF g p).length < 64 := by
  unfold gF
  by_cases hp : p = []
  · rw [if_pos hp]; exact Nat.zero_lt_succ _
  rw [if_neg hp]
  cases g with
  | h =>
    have := flat_sum (fun q => (List.range q.1.toNat).map fun c => laidI (htL p q.2 c)) (fun q => by rw [List.length_map, List.length_range]) p 0 h.fall.2
    show (fH p).length < 64
    unfold fH
    omega
  | r =>
    have := flat_sum (fun q => (List.range q.1.toNat).map fun c => (q.2, c)) (fun q => by rw [List.length_map, List.length_range]) p 0 h.fall.2
    show (fR p).length < 64
    unfold fR sqs
    rw [List.length_map]
    omega
  | e => exact (by decide : (2 : Nat) < 64)
  | l =>
    show (fL p).length < 64
    unfold fL
    rw [List.length_append, List.length_map, List.length_map, List.length_range, List.length_range]
    cases p with
    | nil => exact absurd rfl hp
    | cons a l =>
      have h1 := len_sum (p := l) fun x hx => h.2 x (List.mem_cons_of_mem _ hx)
      have h2 := h.2 a List.mem_cons_self
      rw [List.sum_cons] at hs
      show (l.length + 1) + a.toNat < 64
      omega
theorem srtD_lift (l : List (List Int)) : ∃ M : List (List Int), M.Perm l ∧ srtD (l.map tupD) = M.map tupD := by
  have h : (srtD (l.map tupD)).Perm (l.map tupD) := by rw [srtD_eq]; exact List.mergeSort_perm _ _
  obtain ⟨M, h1, h2⟩ := perm_lift h l rfl
  exact ⟨M, h1, h2⟩
theorem fSortG_tups (l : List (List Int)) : fSortG [.list (l.map tupD)] = some (.list (srtD (l.map tupD))) := by
  cases l with
  | nil => rfl
  | cons a l =>
    have q : fSortG [.list ((a :: l).map tupD)] = (if (alikeB ((a :: l).map tupD) && sortableB ((a :: l).map tupD) && ((a :: l).map tupD).all fun d : D => decide (d.depth ≤ 60)) = true then some (PyData.list (srtD ((a :: l).map tupD))) else none) := rfl
    rw [q, if_pos (by rw [tup_alikeB, tup_sortB, tup_depthB]; rfl)]
theorem tupD_inj {a b : List Int} (h : tupD a = tupD b) : a = b := by
  have q := eqD_tup a b
  rw [h, eqD_tup] at q
  rw [decide_eq_true (rfl : b = b)] at q
  exact of_decide_eq_true q.symm
/-- the turned moves of the turned piles, sorted -/
theorem turn_sorted {p : List Int} (h : Par p) (g : Gm) (hg : g ≠ .h) {M : List (List Int)} (hM : M.Perm (nubL (gF g (turnI p)))) : srtD ((M.map turnI).map tupD) = MV g p := by
  have ht := turn_par h.fall
  have mem : ∀ x, x ∈ M ↔ x ∈ gF g (turnI p) := fun x => by rw [hM.mem_iff, nubL_mem]
  have par : ∀ x ∈ M, Par x := fun x hx => (moves_par ht g ((mem x).mp hx)).1
  have nd : (M.map turnI).Nodup := by
    have nM : M.Nodup := hM.nodup_iff.mpr (nubL_nodup _)
    refine List.pairwise_map.mpr (List.Pairwise.imp_of_mem (fun {a b} ha hb hne e => ?_) nM)
    have := congrArg turnI e
    rw [turn_turn (par a ha), turn_turn (par b hb)] at this
    exact hne this
  refine srtD_perm ((List.perm_ext_iff_of_nodup nd (nubL_nodup _)).mpr fun x => ?_)
  rw [nubL_mem, List.mem_map]
  constructor
  · rintro ⟨y, hy, rfl⟩
    have := turn_moves ht g hg ((mem y).mp hy)
    rw [turn_turn h] at this
    exact this
  · intro hx
    exact ⟨turnI x, (mem _).mpr (turn_moves h g hg hx), turn_turn (moves_par h g hx).1⟩
theorem turn_sum {p : List Int} (h : Par p) (hs : p.sum ≤ 60) : (turnI p).sum ≤ 60 := by
  have ht := turn_par h.fall
  have e1 := flat_sum (fun q => (List.range q.1.toNat).map fun c => (q.2, c)) (fun q => by rw [List.length_map, List.length_range]) p 0 h.fall.2
  have e2 := flat_sum (fun q => (List.range q.1.toNat).map fun c => (q.2, c)) (fun q => by rw [List.length_map, List.length_range]) (turnI p) 0 ht.fall.2
  have nds : ∀ p : List Int, (sqs p).Nodup := fun p => by
    unfold sqs
    have : ∀ (l : List Int) (k : Nat), ((l.zipIdx k).flatMap fun q => (List.range q.1.toNat).map fun c => (q.2, c)).Nodup ∧ ∀ z ∈ ((l.zipIdx k).flatMap fun q => (List.range q.1.toNat).map fun c => (q.2, c)), k ≤ z.1 := by
      intro l
      induction l with
      | nil => exact fun k => ⟨List.nodup_nil, fun z hz => nomatch hz⟩
      | cons a l ih =>
        intro k
        obtain ⟨h1, h2⟩ := ih (k + 1)
        rw [List.zipIdx_cons, List.flatMap_cons]
        refine ⟨List.nodup_append.mpr ⟨?_, h1, fun x hx y hy e => ?_⟩, fun z hz => ?_⟩
        · refine List.pairwise_map.mpr (List.Pairwise.imp (fun {c d} hne e => hne ?_) List.nodup_range)
          exact congrArg Prod.snd e
        · obtain ⟨c, _, rfl⟩ := List.mem_map.mp hx
          have := h2 y hy
          rw [← e] at this
          exact absurd this (by show ¬ k + 1 ≤ k; omega)
        · rcases List.mem_append.mp hz with hz | hz
          · obtain ⟨c, _, rfl⟩ := List.mem_map.mp hz
            exact Nat.le_refl _
          · have := h2 z hz
            omega
    exact (this p 0).1
  have pm : ((sqs (turnI p)).map fun z => (z.2, z.1)).Perm (sqs p) := by
    refine (List.perm_ext_iff_of_nodup ?_ (nds p)).mpr fun z => ?_
    · refine List.pairwise_map.mpr (List.Pairwise.imp (fun {c d} hne e => hne ?_) (nds (turnI p)))
      have e1 := congrArg Prod.fst e
      have e2 := congrArg Prod.snd e
      exact Prod.ext e2 e1
    · rw [List.mem_map, mem_sqs]
      constructor
      · rintro ⟨y, hy, rfl⟩
        exact (turn_sq h.fall _ _).mp ((mem_sqs y).mp hy)
      · intro hz
        exact ⟨(z.2, z.1), (mem_sqs _).mpr ((turn_sq h.fall _ _).mpr hz), rfl⟩
  have el := pm.length_eq
  rw [List.length_map] at el
  unfold sqs at el
  omega
theorem maxZ_le {p : List Int} (h : Fall p) (hs : p.sum ≤ 300) : maxZ p ≤ 1000 := by
  by_cases h0 : 0 < maxZ p
  · have := le_sum h.2 _ (maxZ_mem p h0)
    omega
  · omega
theorem e_turned' {p : List Int} (h : Par p) (hs : p.sum ≤ 300) : m_turned [.v (tupD p)] = some (.pu (tupD (turnI p)), []) := by
  have hf := par_fits h hs
  have hl := (fits_bd hf).1
  exact e_turned p (by omega) (maxZ_le h.fall hs) hf

theorem sPar2_pn {i j : Nat} {a b : FE} {ρ ρ1 ρ2 ρ3 ρ4 : Rho} {x y : D} (h1 : a ρ = some (.pu x, ρ1)) (h2 : b ρ1 = some (.nw y, ρ2)) (h3 : setS i (.pu x) ρ2 = some ρ3) (h4 : setS j (.own y) ρ3 = some ρ4) : sPar2 false true i j a b ρ = some (.nx ρ4) := by
  unfold sPar2
  rw [h1, Option.bind_some, h2, Option.bind_some]
  show (setS i (.pu x) ρ2).bind _ = _
  rw [h3]
  show (setS j (.own y) ρ3).bind _ = _
  rw [h4]
  rfl
theorem roll_ev {i : Nat} {a b : Int} {ρ ρ1 ρ2 : Rho} {e : FE} {n : Int} (h : CupOk a b) (h0 : 0 < n) (h1 : n ≤ 1000) (hv : cVar i ρ = some (.sl i, ρ)) (he : e ρ = some (.pu (.int n), ρ1)) (hi : toAr ρ1 (.sl i) = some (.m (cupD a b)))
    (hp : ∀ a' b', ∃ ρ2, putS i (cupD a' b') ρ1 = some ρ2) : ∃ r a' b' ρ2, cCall m__law_roll (aCons (cVar i) (aCons e aNil)) ρ = some (.pu (.int r), ρ2) ∧ putS i (cupD a' b') ρ1 = some ρ2 ∧ 0 ≤ r ∧ r < n ∧ CupOk a' b' := by
  obtain ⟨r, a', b', e1, r0, r1, hc⟩ := e_roll a b n h h0 h1
  obtain ⟨ρ2, e2⟩ := hp a' b'
  exact ⟨r, a', b', ρ2, cCall_io hv (args_pu he args_nil) hi e1 e2, e2, r0, r1, hc⟩
theorem minI2 (i j : Int) : fMin [.int i, .int j] = some (.int (if j < i then j else i)) := rfl
theorem maxI2 (i j : Int) : fMax [.int i, .int j] = some (.int (if j > i then j else i)) := rfl
def bdPil : FS := (sSeq (sAsg 5 (cOp2n opAdd (cC (.int 1)) (cCall m__law_roll (aCons (cVar 0) (aCons (cOpA fMin (aCons (cVar 3) (aCons (cOpA fMax (aCons (cC (.int 1)) (aCons (cVar 2) aNil))) aNil))) aNil)))))
  (sSeq (sApp 4 (cVar 5))
  (sAsg 3 (cOp2 opSub (cVar 3) (cVar 5)))))
def tsPil : FT := (tBl (cOp2 opGt (cVar 3) (cC (.int 0))))
def ρP (a b : Int) (m : D) (s2 : Sl) (left : Int) (f : List Int) (s5 : Sl) : Rho := [.io (cupD a b), .pu m, s2, .pu (.int left), .own (.list (f.map .int)), s5]
theorem pil_body (a b : Int) (m : D) (top left : Int) (f : List Int) (s5 : Sl) (h : CupOk a b) (h0 : 0 < left) (h1 : left ≤ 300) (h5 : plainS (some s5) = true) (hf : f.length ≤ 1000) :
    ∃ a' b' x, CupOk a' b' ∧ 1 ≤ x ∧ x ≤ left ∧ bdPil (ρP a b m (.pu (.int top)) left f s5) = some (.nx (ρP a' b' m (.pu (.int top)) (left - x) (f ++ [x]) (.pu (.int x)))) := by
  let n : Int := if (if top > 1 then top else 1) < left then (if top > 1 then top else 1) else left
  have n0 : 0 < n := by show 0 < (if (if top > 1 then top else 1) < left then (if top > 1 then top else 1) else left); repeat' split; all_goals omega
  have n1 : n ≤ left := by show (if (if top > 1 then top else 1) < left then (if top > 1 then top else 1) else left) ≤ left; repeat' split; all_goals omega
  have en : cOpA fMin (aCons (cVar 3) (aCons (cOpA fMax (aCons (cC (.int 1)) (aCons (cVar 2) aNil))) aNil)) (ρP a b m (.pu (.int top)) left f s5) = some (.pu (.int n), ρP a b m (.pu (.int top)) left f s5) :=
    cOpA_args (args_pu rfl (args_pu (cOpA_args (args_pu rfl (args_pu rfl args_nil)) (maxI2 1 top)) args_nil)) (minI2 left _)
  obtain ⟨r, a', b', ρ2, e1, e2, r0, r1, hc⟩ := roll_ev (i := 0) (a := a) (b := b) (ρ := ρP a b m (.pu (.int top)) left f s5) (ρ2 := []) h n0 (by omega) rfl en rfl (fun a' b' => ⟨ρP a' b' m (.pu (.int top)) left f s5, rfl⟩)
  have e2' : ρ2 = ρP a' b' m (.pu (.int top)) left f s5 := (Option.some.inj e2).symm
  subst e2'
  refine ⟨a', b', 1 + r, hc, by omega, by omega, ?_⟩
  have e3 : sAsg 5 (cOp2n opAdd (cC (.int 1)) (cCall m__law_roll (aCons (cVar 0) (aCons (cOpA fMin (aCons (cVar 3) (aCons (cOpA fMax (aCons (cC (.int 1)) (aCons (cVar 2) aNil))) aNil))) aNil)))) (ρP a b m (.pu (.int top)) left f s5) = some (.nx (ρP a' b' m (.pu (.int top)) left f (.pu (.int (1 + r))))) :=
    sAsg_pu (cOp2n_pu' rfl e1 rfl) (by cases s5 <;> first | rfl | cases h5)
  have e4 : sApp 4 (cVar 5) (ρP a' b' m (.pu (.int top)) left f (.pu (.int (1 + r)))) = some (.nx (ρP a' b' m (.pu (.int top)) left (f ++ [1 + r]) (.pu (.int (1 + r))))) :=
    sApp_pu (d := .int (1 + r)) (ds := f.map .int) rfl rfl (by rw [List.length_map]; exact line_lt (by omega)) (by
      have : (f.map PyData.int) ++ [.int (1 + r)] = (f ++ [1 + r]).map .int := by rw [List.map_append]; rfl
      rw [this]; rfl)
  have e5 : sAsg 3 (cOp2 opSub (cVar 3) (cVar 5)) (ρP a' b' m (.pu (.int top)) left (f ++ [1 + r]) (.pu (.int (1 + r)))) = some (.nx (ρP a' b' m (.pu (.int top)) (left - (1 + r)) (f ++ [1 + r]) (.pu (.int (1 + r))))) := sAsg_pu (cOp2_pu rfl rfl rfl) rfl
  exact (sSeq_nx e3).trans ((sSeq_nx e4).trans e5)
theorem pil_loop (m : D) (top : Int) : ∀ (k F : Nat) (a b left : Int) (f : List Int) (s5 : Sl), CupOk a b → 0 ≤ left → left ≤ 300 → left.toNat ≤ k → k < F → plainS (some s5) = true → f.length + left.toNat ≤ 1000 → (∀ x ∈ f, 1 ≤ x) →
    ∃ a' b' f' s5', CupOk a' b' ∧ (∀ x ∈ f', 1 ≤ x) ∧ f'.sum = f.sum + left ∧ f'.length ≤ 1000 ∧ whileGo tsPil bdPil F (ρP a b m (.pu (.int top)) left f s5) = some (.nx (ρP a' b' m (.pu (.int top)) 0 f' s5'))
  | k, 0, a, b, left, f, s5, _, _, _, _, hF, _, _, _ => absurd hF (Nat.not_lt_zero _)
  | k, F + 1, a, b, left, f, s5, hc, h0, h1, hk, hF, h5, hf, hx => by
    have et : tsPil (ρP a b m (.pu (.int top)) left f s5) = some (decide (left > 0), ρP a b m (.pu (.int top)) left f s5) := tBl_eq (cOp2_pu rfl rfl rfl)
    by_cases hl : left > 0
    · rw [decide_eq_true hl] at et
      obtain ⟨a1, b1, x, hc1, x1, x2, eb⟩ := pil_body a b m top left f s5 hc hl h1 h5 (by omega)
      cases k with
      | zero => omega
      | succ k =>
        obtain ⟨a', b', f', s5', q1, q2, q3, q4, q5⟩ := pil_loop m top k F a1 b1 (left - x) (f ++ [x]) (.pu (.int x)) hc1 (by omega) (by omega) (by omega) (by omega) rfl (by rw [List.length_append, List.length_singleton]; omega) (fun y hy => by
          rcases List.mem_append.mp hy with hy | hy
          · exact hx y hy
          · rw [List.mem_singleton] at hy; omega)
        refine ⟨a', b', f', s5', q1, q2, ?_, q4, ?_⟩
        · rw [q3, List.sum_append, List.sum_cons, List.sum_nil]; omega
        · unfold whileGo
          rw [et, Option.bind_some]
          simp only [if_true, eb, Option.bind_some]
          exact q5
    · rw [decide_eq_false hl] at et
      have e0 : left = 0 := by omega
      subst e0
      refine ⟨a, b, f, s5, hc, hx, by omega, by omega, ?_⟩
      unfold whileGo
      rw [et]
      rfl
theorem srtDn_par {f : List Int} (h : ∀ x ∈ f, 1 ≤ x) : Par (srtDn f) := ⟨srtDn_pw f, fun x hx => h x ((srtDn_perm f).mem_iff.mp hx)⟩
theorem e_law_piles (a b : Int) (most : Nat) (hc : CupOk a b) (hm : most ≤ 300) : ∃ p a' b', Par p ∧ p.sum ≤ most ∧ CupOk a' b' ∧ m__law_piles [.m (cupD a b), .v (.int most)] = some (.pu (tupD p), [cupD a' b']) := by
  obtain ⟨r, a1, b1, ρ2, e1, e2, r0, r1, hc1⟩ := roll_ev (i := 0) (a := a) (b := b) (ρ := [.io (cupD a b), .pu (nD most), .non, .non, .non, .non]) (ρ2 := []) (e := cOp2n opAdd (cVar 1) (cC (.int 1))) (n := (most : Int) + 1) hc (by omega) (by omega) rfl
    (cOp2n_pu' rfl rfl rfl) rfl (fun a' b' => ⟨[.io (cupD a' b'), .pu (nD most), .non, .non, .non, .non], rfl⟩)
  have e2' : ρ2 = [.io (cupD a1 b1), .pu (nD most), .non, .non, .non, .non] := (Option.some.inj e2).symm
  subst e2'
  have s1 : sPar2 false true 3 4 (cCall m__law_roll (aCons (cVar 0) (aCons (cOp2n opAdd (cVar 1) (cC (.int 1))) aNil))) (cLst aNil) [.io (cupD a b), .pu (nD most), .non, .non, .non, .non] = some (.nx (ρP a1 b1 (nD most) .non r [] .non)) :=
    sPar2_pn e1 (cLst_args args_nil (Nat.zero_le _)) rfl rfl
  have s2 : ∃ a2 b2 top, CupOk a2 b2 ∧ sAsg 2 (cIf (tBl (cOp2 opEq (cCall m__law_roll (aCons (cVar 0) (aCons (cC (.int 2)) aNil))) (cC (.int 0)))) (cVar 3) (cOpA fMin (aCons (cVar 3) (aCons (cOp2n opAdd (cC (.int 1)) (cCall m__law_roll (aCons (cVar 0) (aCons (cC (.int 6)) aNil)))) aNil)))) (ρP a1 b1 (nD most) .non r [] .non) =
      some (.nx (ρP a2 b2 (nD most) (.pu (.int top)) r [] .non)) := by
    obtain ⟨k, a2, b2, ρ3, f1, f2, _, _, hc2⟩ := roll_ev (i := 0) (a := a1) (b := b1) (ρ := ρP a1 b1 (nD most) .non r [] .non) (ρ2 := []) (e := cC (.int 2)) (n := 2) hc1 (by decide) (by decide) rfl rfl rfl (fun a' b' => ⟨ρP a' b' (nD most) .non r [] .non, rfl⟩)
    have f2' : ρ3 = ρP a2 b2 (nD most) .non r [] .non := (Option.some.inj f2).symm
    subst f2'
    have et := tBl_eq (k := k == 0) (cOp2_pu f1 (b := cC (.int 0)) rfl (opEq_int k 0))
    by_cases hk : k = 0
    · subst hk
      exact ⟨a2, b2, r, hc2, sAsg_pu ((cIf_t et).trans rfl) rfl⟩
    · have hk' : (k == 0) = false := by simp [hk]
      rw [hk'] at et
      obtain ⟨z, a3, b3, ρ4, g1, g2, _, _, hc3⟩ := roll_ev (i := 0) (a := a2) (b := b2) (ρ := ρP a2 b2 (nD most) .non r [] .non) (ρ2 := []) (e := cC (.int 6)) (n := 6) hc2 (by decide) (by decide) rfl rfl rfl (fun a' b' => ⟨ρP a' b' (nD most) .non r [] .non, rfl⟩)
      have g2' : ρ4 = ρP a3 b3 (nD most) .non r [] .non := (Option.some.inj g2).symm
      subst g2'
      exact ⟨a3, b3, _, hc3, sAsg_pu ((cIf_f et).trans (cOpA_args (args_pu rfl (args_pu (cOp2n_pu' rfl g1 rfl) args_nil)) (minI2 r _))) rfl⟩
  obtain ⟨a2, b2, top, hc2, s2⟩ := s2
  obtain ⟨a3, b3, f, s5, hc3, f1, f2, f3, s3⟩ := pil_loop (nD most) top r.toNat fuelN a2 b2 r [] .non hc2 r0 (by omega) (Nat.le_refl _) (by
    have : fuelN = 1000000000 := rfl
    omega) rfl (by rw [List.length_nil]; omega) (fun x hx => nomatch hx)
  refine ⟨srtDn f, a3, b3, srtDn_par f1, ?_, hc3, ?_⟩
  · rw [sum_perm (srtDn_perm f), f2, List.sum_nil]; omega
  have hr : opRev (.list ((srtUp f).map .int)) = some (.list ((srtDn f).map .int)) := by
    show some (PyData.list ((srtUp f).map .int).reverse) = _
    rw [← List.map_reverse]
    rfl
  have s4 : sFrz 4 (sRet (cOpA fTuple (aCons (cOpn opRev (cOpAn fSortG (aCons (cVar 4) aNil))) aNil))) (ρP a3 b3 (nD most) (.pu (.int top)) 0 f s5) = some (.rt (.pu (tupD (srtDn f))) [.io (cupD a3 b3), .pu (nD most), .pu (.int top), .pu (.int 0), .pu (.list (f.map .int)), s5]) :=
    (sFrz_eq rfl).trans (sRet_eq (cOpA_args (args_nw (cOpn_nw' (cOpAn_args' (args_pu rfl args_nil) (fSortG_ints f)) hr) args_nil) (fTuple_l _)))
  have s5 : b__law_piles [.io (cupD a b), .pu (nD most), .non, .non, .non, .non] = some (.rt (.pu (tupD (srtDn f))) [.io (cupD a3 b3), .pu (nD most), .pu (.int top), .pu (.int 0), .pu (.list (f.map .int)), s5]) :=
    (sSeq_nx s1).trans ((sSeq_nx s2).trans ((sSeq_nx (a := sWhile tsPil bdPil) s3).trans s4))
  exact run_rt rfl rfl s5 rfl

def Sm (d : D) : Prop := ∀ ds, d = .tuple ds → ds.length ≤ 1000
def bLst : FE := (cLst (aCons (cC .none) (aCons (cC (.bool true)) (aCons (cC (.bool false)) (aCons (cC (.int 0)) (aCons (cC (.int 1)) (aCons (cC (.int 2)) (aCons (cC (.int 5)) (aCons (cOp opNeg (cC (.int 1))) (aCons (cC (.str (Str.ofString ""))) (aCons (cC (.str (Str.ofString "2"))) (aCons (cTup (aCons (cC (.int 1)) (aCons (cC (.int 1)) aNil))) (aCons (cTup (aCons (cC (.int 2)) (aCons (cC (.int 1)) aNil))) (aCons (cTup aNil) (aCons (cLst aNil) aNil)))))))))))))))
def somes : List D := [.none, .bool true, .bool false, .int 0, .int 1, .int 2, .int 5, .int (-1), .str (Str.ofString ""), .str (Str.ofString "2"), .tuple [.int 1, .int 1], .tuple [.int 2, .int 1], .tuple [], .list []]
def ρB (a b : Int) (d : D) (s2 s3 s4 : Sl) : Rho := [.io (cupD a b), .pu d, s2, s3, s4]
theorem two_le : (2 : Nat) ≤ lineN := line_le (by decide)
theorem bLst_ev (ρ : Rho) : bLst ρ = some (.nw (.list somes), ρ) := by
  refine cLst_args (xs := somes) (args_pu rfl (args_pu rfl (args_pu rfl (args_pu rfl (args_pu rfl (args_pu rfl (args_pu rfl (args_pu (cOp_pu rfl rfl) (args_pu rfl (args_pu rfl (args_pu (cTup_args (args_pu rfl (args_pu rfl args_nil)) two_le) (args_pu (cTup_args (args_pu rfl (args_pu rfl args_nil)) two_le)
    (args_pu (cTup_args args_nil (Nat.zero_le _)) (args_nw (cLst_args args_nil (Nat.zero_le _)) args_nil)))))))))))))) (line_le (by show (14 : Nat) ≤ 1000000; decide))
theorem somes_sm : ∀ d ∈ somes, Sm d := fun d hd ds e => by
  subst e
  have key : (somes.all fun d => match d with | .tuple ds => decide (ds.length ≤ 1000) | _ => true) = true := rfl
  exact of_decide_eq_true (List.all_eq_true.mp key _ hd)
def bTest : FT := (tOr (tNot (tTru' (cOpn (opIsi "tuple") (cVar 1)))) (tOr (tBl (cOp2 opEq (cVar 1) (cTup aNil))) (tBl (cOp2 opEq (cCall m__law_roll (aCons (cVar 0) (aCons (cC (.int 8)) aNil))) (cC (.int 0))))))
def bTail (m : Mir) : FS := (sSeq (sIf (tBl (cOp2 opEq (cVar 4) (cC (.int 0)))) (sRet (cOp2n opAdd (cSl mk opSl (cVar 1) oNo (oSo (cVar 3))) (cSl mk opSl (cVar 1) (oSo (cOp2n opAdd (cVar 3) (cC (.int 1)))) oNo))) sPass)
  (sSeq (sIf (tBl (cOp2 opEq (cVar 4) (cC (.int 1)))) (sRet (cOp2n opAdd (cSl mk opSl (cVar 1) oNo (oSo (cOp2n opAdd (cVar 3) (cC (.int 1))))) (cSl mk opSl (cVar 1) (oSo (cVar 3)) oNo))) sPass)
  (sSeq (sIf (tBl (cOp2 opEq (cVar 4) (cC (.int 2)))) (sRet (cOpAn fList (aCons (cVar 1) aNil))) sPass)
  (sSeq (sIf (tBl (cOp2 opEq (cVar 4) (cC (.int 3)))) (sRet (cOpn opRev (cVar 1))) sPass)
  (sRet (cOp2n opAdd (cOp2n opAdd (cSl mk opSl (cVar 1) oNo (oSo (cVar 3))) (cTup (aCons (cCall m (aCons (cVar 0) (aCons (cOp2 opIx (cVar 1) (cVar 3)) aNil))) aNil))) (cSl mk opSl (cVar 1) (oSo (cOp2n opAdd (cVar 3) (cC (.int 1)))) oNo)))))))
theorem sm_tup {ds : List D} (h : ds.length ≤ 1000) : Sm (.tuple ds) := fun es e => by cases e; exact h
theorem eqZ (k : Nat) (w : Int) {ρ : Rho} {a b : Int} {d : D} {s3 : Sl} : tBl (cOp2 opEq (cVar 4) (cC (.int (k : Nat)))) (ρB a b d .non s3 (.pu (.int w))) = some (w == (k : Nat), ρB a b d .non s3 (.pu (.int w))) := tBl_eq (cOp2_pu rfl rfl (opEq_int w k))
theorem narrowAll_tups : ∀ l : List (List Int), (∀ x ∈ l, x.length ≤ 1000) → narrowAll 1000 (l.map tupD) = true
  | [], _ => rfl
  | a :: l, h => by
    show (narrow 1000 (tupD a) && narrowAll 1000 (l.map tupD)) = true
    have e : narrow 1000 (tupD a) = true := narrow_tup (h a List.mem_cons_self)
    rw [e, narrowAll_tups l fun x hx => h x (List.mem_cons_of_mem _ hx)]
    rfl
theorem depthAll_tups : ∀ l : List (List Int), PyData.depthAll (l.map tupD) ≤ 1
  | [] => by show PyData.depthAll [] ≤ 1; rw [PyData.depthAll]; omega
  | a :: l => by
    show PyData.depthAll (tupD a :: l.map tupD) ≤ 1
    rw [PyData.depthAll, depth_tup1]
    have := depthAll_tups l
    omega
def ρG (a b : Int) (g : Gm) (p : List Int) (s3 s4 s5 s6 s7 : Sl) : Rho := [.io (cupD a b), .pu (.str (gS g)), .pu (tupD p), s3, s4, s5, s6, s7]
theorem like_bool (k : Bool) : m__law_like [.v (.bool k), .v (.bool k)] = some (.pu (.bool true), []) := e_like (.bool k) rfl (by show PyData.depth (.bool k) < 8; rw [PyData.depth]; omega)
theorem fSum_t (p : List Int) : fSum [tupD p] = some (.int p.sum) := by
  have q : fSum [tupD p] = (intsOf (p.map .int)).bind fun ns => some (.int ns.sum) := rfl
  rw [intsOf_map] at q
  exact q
def wB : FE := (cLst (aCons (cTup (aCons (cTup (aCons (cC (.int 2)) aNil)) (aCons (cTup (aCons (cC (.int 2)) (aCons (cC (.int 1)) aNil))) (aCons (cTup (aCons (cC (.int 2)) (aCons (cC (.int 2)) aNil))) (aCons (cTup (aCons (cC (.int 3)) aNil)) (aCons (cTup (aCons (cC (.int 3)) (aCons (cC (.int 1)) aNil))) aNil)))))) (aCons (cTup (aCons (cTup (aCons (cC (.int 1)) aNil)) (aCons (cTup (aCons (cC (.int 1)) (aCons (cC (.int 1)) aNil))) (aCons (cTup (aCons (cC (.int 2)) (aCons (cC (.int 2)) aNil))) (aCons (cTup (aCons (cC (.int 3)) aNil)) (aCons (cTup (aCons (cC (.int 3)) (aCons (cC (.int 1)) aNil))) aNil)))))) (aCons (cTup (aCons (cTup (aCons (cC (.int 2)) aNil)) (aCons (cTup (aCons (cC (.int 2)) (aCons (cC (.int 1)) aNil))) aNil))) (aCons (cTup (aCons (cTup (aCons (cC (.int 2)) aNil)) (aCons (cTup (aCons (cC (.int 2)) (aCons (cC (.int 1)) aNil))) (aCons (cTup (aCons (cC (.int 2)) (aCons (cC (.int 2)) aNil))) (aCons (cTup (aCons (cC (.int 3)) aNil)) aNil))))) (aCons (cTup aNil) aNil))))))
def wD : FE := (cLst (aCons (cC (.bool true)) (aCons (cTup (aCons (cTup (aCons (cC (.int 1)) aNil)) (aCons (cTup (aCons (cC (.int 1)) (aCons (cC (.int 1)) aNil))) (aCons (cTup (aCons (cC (.int 2)) aNil)) (aCons (cTup (aCons (cC (.int 2)) (aCons (cC (.int 1)) aNil))) aNil))))) (aCons (cTup (aCons (cTup aNil) aNil)) (aCons (cTup (aCons (cTup aNil) (aCons (cTup (aCons (cC (.int 1)) aNil)) aNil))) (aCons (cTup (aCons (cTup (aCons (cC (.int 1)) aNil)) aNil)) aNil))))))
def gamesE : FE := (cTup (aCons (cC (.str (Str.ofString "heights"))) (aCons (cC (.str (Str.ofString "rims"))) (aCons (cC (.str (Str.ofString "edges"))) (aCons (cC (.str (Str.ofString "lines"))) aNil)))))
def tt (l : List (List Int)) : D := .tuple (l.map tupD)
def dueA : D := .list [tt [[2], [2, 1], [2, 2], [3], [3, 1]], tt [[1], [1, 1], [2, 2], [3], [3, 1]], tt [[2], [2, 1]], tt [[2], [2, 1], [2, 2], [3]], tt []]
def dueC : D := .list [.bool true, tt [[1], [1, 1], [2], [2, 1]], tt [[]], tt [[], [1]], tt [[1]]]
theorem wB_ev (ρ : Rho) : wB ρ = some (.nw dueA, ρ) := by kernel_rfl
theorem wD_ev (ρ : Rho) : wD ρ = some (.nw dueC, ρ) := by kernel_rfl
theorem one_le' : (1 : Nat) ≤ lineN := line_le (by decide)
def ρL (scr : D) (a b : Int) (x y : D) (s5 s6 s7 : Sl) : Rho := [.pu scr, .own (cupD a b), .pu (tupD [3, 2]), .pu x, .pu y, s5, s6, s7]
theorem games_ev (ρ : Rho) : iE gamesE ρ = some ([Gm.h, .r, .e, .l].map (fun g => PyData.str (gS g)), ρ) :=
  iE_pu (cTup_args (args_pu rfl (args_pu rfl (args_pu rfl (args_pu rfl args_nil)))) (line_le (by show (4 : Nat) ≤ 1000000; decide))) rfl
theorem like_A : m__law_like [.v dueA, .v dueA] = some (.pu (.bool true), []) := e_like dueA (by kernel_rfl) (by decide +kernel)
theorem like_C : m__law_like [.v dueC, .v dueC] = some (.pu (.bool true), []) := e_like dueC (by kernel_rfl) (by decide +kernel)
end PL

namespace PL
open PySem PySem.Spec PyProof.Rows L2
/-! k75: the least integer not among some; sums by figures -/
theorem nodup_len {α : Type} [DecidableEq α] : ∀ (l m : List α), l.Nodup → (∀ x ∈ l, x ∈ m) → l.length ≤ m.length
  | [], m, _, _ => Nat.zero_le _
  | a :: l, m, nd, h => by
    obtain ⟨h1, h2⟩ := List.nodup_cons.mp nd
    have ha := h a List.mem_cons_self
    have ih := nodup_len l (m.erase a) h2 fun x hx => (List.mem_erase_of_ne (fun (e : x = a) => h1 (by rw [← e]; exact hx))).mpr (h x (List.mem_cons_of_mem _ hx))
    rw [List.length_erase_of_mem ha] at ih
    have : 0 < m.length := List.length_pos_of_mem ha
    rw [List.length_cons]
    omega
def outB (ns : List Int) (k : Nat) : Bool := !(ns.contains (k : Int))
def mex (ns : List Int) : Nat := ((List.range (ns.length + 1)).find? (outB ns)).getD 0
theorem mex_spec (ns : List Int) : ((mex ns : Nat) : Int) ∉ ns ∧ (∀ j, j < mex ns → (j : Int) ∈ ns) ∧ mex ns ≤ ns.length ∧ (List.range (ns.length + 1)).find? (outB ns) = some (mex ns) := by
  have ex : ∃ k, (List.range (ns.length + 1)).find? (outB ns) = some k := by
    cases h : (List.range (ns.length + 1)).find? (outB ns) with
    | some k => exact ⟨k, rfl⟩
    | none =>
      rw [List.find?_eq_none] at h
      have q := nodup_len ((List.range (ns.length + 1)).map fun k : Nat => (k : Int)) ns (List.pairwise_map.mpr (List.Pairwise.imp (fun {a b : Nat} (hne : a ≠ b) (e : (a : Int) = (b : Int)) => hne (Int.ofNat.inj e)) List.nodup_range)) (fun x hx => by
        obtain ⟨k, hk, rfl⟩ := List.mem_map.mp hx
        have := h k hk
        unfold outB at this
        simpa using this)
      rw [List.length_map, List.length_range] at q
      omega
  obtain ⟨k, hk⟩ := ex
  have e : mex ns = k := by unfold mex; rw [hk]; rfl
  rw [e, hk]
  obtain ⟨h1, h2, h3⟩ := List.find?_range_eq_some.mp hk
  refine ⟨by unfold outB at h1; simpa using h1, fun j hj => ?_, by have := List.mem_range.mp h2; omega, rfl⟩
  have := h3 j hj
  unfold outB at this
  simpa using this
theorem mex_eq {ns : List Int} {k : Nat} (h1 : (k : Int) ∉ ns) (h2 : ∀ j, j < k → (j : Int) ∈ ns) : mex ns = k := by
  obtain ⟨a, b, _⟩ := mex_spec ns
  rcases Nat.lt_trichotomy (mex ns) k with h | h | h
  · exact absurd (h2 _ h) a
  · exact h
  · exact absurd (b _ h) h1
theorem mex_congr {ns ms : List Int} (h : ∀ x, x ∈ ns ↔ x ∈ ms) : mex ns = mex ms := by
  obtain ⟨a, b, _⟩ := mex_spec ms
  exact mex_eq (fun e => a ((h _).mp e)) fun j hj => (h _).mpr (b j hj)
/-! dicts with int keys -/
theorem eqD_int (a b : Int) : eqD (.int a) (.int b) = decide (a = b) := rfl
def IK (kvs : List (D × D)) : Prop := ∀ p ∈ kvs, ∃ i, p.1 = .int i
theorem dfind_some : ∀ (kvs : List (D × D)) (k : D), (dfind kvs k).isSome = kvs.any fun p => eqD p.1 k
  | [], _ => rfl
  | p :: r, k => by
    unfold dfind
    rw [List.any_cons]
    by_cases h : eqD p.1 k = true
    · rw [if_pos h, h]; rfl
    · rw [if_neg h, dfind_some r k]
      simp [h]
theorem put_any {kvs : List (D × D)} (h : IK kvs) (a b : Int) (v : D) : ((dputD kvs (.int a) v).any fun p => eqD p.1 (.int b)) = ((kvs.any fun p => eqD p.1 (.int b)) || decide (a = b)) := by
  unfold dputD
  split
  · rename_i ha
    rw [List.any_map]
    have e : (fun p : D × D => eqD p.1 (.int b)) ∘ (fun p => if eqD p.1 (.int a) = true then (p.1, v) else p) = fun p => eqD p.1 (.int b) := by
      funext p
      show eqD (if eqD p.1 (.int a) = true then (p.1, v) else p).1 (.int b) = _
      split <;> rfl
    rw [e]
    by_cases hab : a = b
    · subst hab
      rw [ha]; simp
    · simp [hab]
  · rw [List.any_append]
    simp [eqD_int]
theorem put_ik {kvs : List (D × D)} (h : IK kvs) (a : Int) (v : D) : IK (dputD kvs (.int a) v) := by
  unfold dputD
  split
  · intro p hp
    obtain ⟨q, hq, rfl⟩ := List.mem_map.mp hp
    split
    · exact h q hq
    · exact h q hq
  · intro p hp
    rcases List.mem_append.mp hp with hp | hp
    · exact h p hp
    · rw [List.mem_singleton] at hp
      subst hp
      exact ⟨a, rfl⟩
def tru (n : Int) : D × D := (.int n, .bool true)
theorem fold_any : ∀ (ns : List Int) (kvs : List (D × D)), IK kvs → IK (foldD kvs (ns.map tru)) ∧ ∀ b : Int, ((foldD kvs (ns.map tru)).any fun p => eqD p.1 (.int b)) = ((kvs.any fun p => eqD p.1 (.int b)) || decide (b ∈ ns))
  | [], kvs, h => ⟨h, fun b => by
    show (kvs.any _) = _
    simp⟩
  | n :: ns, kvs, h => by
    obtain ⟨h1, h2⟩ := fold_any ns (dputD kvs (.int n) (.bool true)) (put_ik h n _)
    refine ⟨h1, fun b => ?_⟩
    show ((foldD (dputD kvs (.int n) (.bool true)) (ns.map tru)).any _) = _
    rw [h2, put_any h, Bool.or_assoc]
    congr 1
    by_cases hb : n = b
    · simp [hb]
    · simp [hb, Ne.symm hb]
theorem ok_ik {kvs : List (D × D)} (h : IK kvs) (b : Int) : okK kvs (.int b) = true := by
  cases kvs with
  | nil => rfl
  | cons p r =>
    obtain ⟨i, e⟩ := h p List.mem_cons_self
    show (kindD (.int b) != 0 && kindD p.1 == kindD (.int b)) = true
    rw [e]; rfl
theorem pairs_tru : ∀ ns : List Int, pairsD (ns.map fun n => .tuple [.int n, .bool true]) = some (ns.map tru)
  | [] => rfl
  | n :: ns => by
    rw [List.map_cons, List.map_cons]
    show (pairsD (ns.map fun n => .tuple [.int n, .bool true])).bind _ = _
    rw [pairs_tru ns]; rfl
theorem kinds_tru (ns : List Int) : ((ns.map tru).all fun p => kindD p.1 == 1) = true := by
  rw [List.all_map, List.all_eq_true]
  intro x _
  rfl
theorem cDIn_own {i : Nat} {k : FE} {ρ ρ1 : Rho} {kd : D} {kvs : List (D × D)} (neg : Bool) (h : k ρ = some (.pu kd, ρ1)) (hc : dcont ρ1 i = some kvs) (hk : okK kvs kd = true) :
    cDIn neg k i ρ = some (.pu (.bool (neg ^^ (kvs.any fun p => eqD p.1 kd))), ρ1) := by
  unfold cDIn
  simp only [h, Option.bind_some, ev_stl_pu, hc, hk, if_true, dfind_some]
  cases neg <;> simp
theorem cDOf_ints {f : FE} {ρ ρ1 : Rho} {ns : List Int} (h : f ρ = some (.nw (.list (ns.map fun n => .tuple [.int n, .bool true])), ρ1)) : cDOf f ρ = some (foldD [] (ns.map tru), ρ1) := by
  unfold cDOf
  simp only [h, Option.bind_some, ev_stl_nw, ev_cont_pu, pairs_tru]
  rw [if_pos (by rw [kinds_tru]; rfl)]
theorem sParL_eq {i j : Nat} {fd : FD} {f : FE} {ρ ρ1 ρ2 ρ3 ρ4 : Rho} {kvs : List (D × D)} {v : Vl} {d : D} (h1 : fd ρ = some (kvs, ρ1)) (h2 : f ρ1 = some (v, ρ2)) (hv : stl v = .pu d) (h3 : setS i (.own (.dict kvs)) ρ2 = some ρ3) (h4 : setS j (.pu d) ρ3 = some ρ4) :
    sParL i j fd f ρ = some (.nx ρ4) := by
  unfold sParL
  simp only [h1, Option.bind_some, h2, hv, h3, h4]
def tsLst : FT := tBl (cDIn false (cVar 2) 1)
def bdLst : FS := sAsg 2 (cOp2n opAdd (cVar 2) (cC (.int 1)))
theorem lst_loop (x : D) (ns : List Int) (s3 : Sl) (hz : mex ns ≤ 100000) : ∀ (k f F : Nat), f + k = mex ns → k < F →
    whileGo tsLst bdLst F [.pu x, .own (.dict (foldD [] (ns.map tru))), .pu (.int (f : Nat)), s3] = some (.nx [.pu x, .own (.dict (foldD [] (ns.map tru))), .pu (.int (mex ns : Nat)), s3])
  | k, f, 0, _, h => absurd h (Nat.not_lt_zero _)
  | k, f, F + 1, hk, hF => by
    obtain ⟨i1, i2⟩ := fold_any ns [] (fun p hp => nomatch hp)
    have ht : tsLst [.pu x, .own (.dict (foldD [] (ns.map tru))), .pu (.int (f : Nat)), s3] = some (decide ((f : Int) ∈ ns), [.pu x, .own (.dict (foldD [] (ns.map tru))), .pu (.int (f : Nat)), s3]) := by
      have q := cDIn_own (i := 1) (k := cVar 2) (ρ := [.pu x, .own (.dict (foldD [] (ns.map tru))), .pu (.int (f : Nat)), s3]) false rfl rfl (ok_ik i1 (f : Nat))
      rw [i2] at q
      have e : (false ^^ (([] : List (D × D)).any (fun p => eqD p.1 (.int (f : Nat))) || decide ((f : Int) ∈ ns))) = decide ((f : Int) ∈ ns) := by simp
      rw [e] at q
      exact tBl_eq q
    obtain ⟨m1, m2, _⟩ := mex_spec ns
    unfold whileGo
    rw [ht, Option.bind_some]
    cases k with
    | zero =>
      have e : f = mex ns := by omega
      subst e
      simp only [m1, decide_false, Bool.false_eq_true, if_false]
    | succ k =>
      have hm := m2 f (by omega)
      simp only [hm, decide_true, if_true]
      have hb : bdLst [.pu x, .own (.dict (foldD [] (ns.map tru))), .pu (.int (f : Nat)), s3] = some (.nx [.pu x, .own (.dict (foldD [] (ns.map tru))), .pu (.int ((f + 1 : Nat) : Int)), s3]) :=
        sAsg_pu (cOp2n_pu' (r := .int ((f + 1 : Nat) : Int)) rfl rfl rfl) rfl
      rw [hb, Option.bind_some]
      exact lst_loop x ns s3 hz k (f + 1) F (by omega) (by omega)
theorem e_least (ns : List Int) (hz : ns.length ≤ 100000) : m_least_beside [.v (.list (ns.map .int))] = some (.pu (.int (mex ns : Nat)), []) := by
  have e1 : cLc [3] (iE (cVar 0)) (gN 3) tYes (cTup (aCons (cVar 3) (aCons (cC (.bool true)) aNil))) [.pu (.list (ns.map .int)), .non, .non, .non] = some (.nw (.list (ns.map fun n => .tuple [.int n, .bool true])), [.pu (.list (ns.map .int)), .non, .non, .non]) :=
    cLc_map (e := iD) (l := ns) (fun n => .tuple [.int n, .bool true]) (iE_pu (x := .list (ns.map .int)) rfl rfl) rfl (fun n _ => ⟨[.pu (.list (ns.map .int)), .non, .non, .pu (.int n)], _, rfl, rfl, cTup_args (args_pu rfl (args_pu rfl args_nil)) (line_le (by show (2 : Nat) ≤ 1000000; decide)), rfl⟩) (line_le (by omega))
  have hm := (mex_spec ns).2.2.1
  have e2 : sParL 1 2 (cDOf (cLc [3] (iE (cVar 0)) (gN 3) tYes (cTup (aCons (cVar 3) (aCons (cC (.bool true)) aNil))))) (cC (.int 0)) [.pu (.list (ns.map .int)), .non, .non, .non] =
      some (.nx [.pu (.list (ns.map .int)), .own (.dict (foldD [] (ns.map tru))), .pu (.int ((0 : Nat) : Int)), .non]) := sParL_eq (cDOf_ints e1) rfl rfl rfl rfl
  have e3 := lst_loop (.list (ns.map .int)) ns .non (by omega) (mex ns) 0 fuelN (by omega) (by
    have : fuelN = 1000000000 := rfl
    omega)
  have e4 : b_least_beside [.pu (.list (ns.map .int)), .non, .non, .non] = some (.rt (.pu (.int (mex ns : Nat))) [.pu (.list (ns.map .int)), .own (.dict (foldD [] (ns.map tru))), .pu (.int (mex ns : Nat)), .non]) :=
    (sSeq_nx e2).trans ((sSeq_nx (a := sWhile tsLst bdLst) e3).trans (sRet_eq rfl))
  exact run_rt rfl rfl e4 rfl
/-! sums by figures -/
def xorL (ns : List Int) : Int := ns.foldl Builtin.bitXor 0
theorem xor_go (x : D) : ∀ (ns : List Int) (f : Int) (s2 : Sl), plainS (some s2) = true → ∃ s2', plainS (some s2') = true ∧ forGo (gN 2) (sAsg 1 (cOp2 opXor (cVar 1) (cVar 2))) (ns.map .int) [.pu x, .pu (.int f), s2] = some (.nx [.pu x, .pu (.int (ns.foldl Builtin.bitXor f)), s2'])
  | [], f, s2, h => ⟨s2, h, rfl⟩
  | n :: ns, f, s2, h => by
    obtain ⟨s2', h', e⟩ := xor_go x ns (Builtin.bitXor f n) (.pu (.int n)) rfl
    refine ⟨s2', h', ?_⟩
    have e0 : gN 2 (.int n) [.pu x, .pu (.int f), s2] = some [.pu x, .pu (.int f), .pu (.int n)] := by cases s2 <;> first | rfl | cases h
    exact (forGo_nx e0 (sAsg_pu (cOp2_pu (r := .int (Builtin.bitXor f n)) rfl rfl rfl) rfl)).trans e
theorem e_sumF (d : D) (ns : List Int) (h : itemsOf d = some (ns.map .int)) : m_sum_by_figures [.v d] = some (.pu (.int (xorL ns)), []) := by
  obtain ⟨s2', _, e⟩ := xor_go d ns 0 .non rfl
  have e4 : b_sum_by_figures [.pu d, .non, .non] = some (.rt (.pu (.int (xorL ns))) [.pu d, .pu (.int (xorL ns)), s2']) :=
    (sSeq_nx (ρ' := [.pu d, .pu (.int 0), .non]) (sAsg_pu rfl rfl)).trans ((sSeq_nx ((sFor_eq (iE_pu (a := cVar 0) rfl h)).trans e)).trans (sRet_eq rfl))
  exact run_rt rfl rfl e4 rfl
def xorN (l : List Nat) : Nat := l.foldl (· ^^^ ·) 0
theorem fold_nat : ∀ (l : List Nat) (a : Nat), (l.map fun n : Nat => (n : Int)).foldl Builtin.bitXor (a : Int) = ((l.foldl (· ^^^ ·) a : Nat) : Int)
  | [], a => rfl
  | n :: l, a => by
    rw [List.map_cons, List.foldl_cons, List.foldl_cons, Bits.bitXor_pp (by omega) (by omega)]
    exact fold_nat l _
theorem xorL_nat (l : List Nat) : xorL (l.map fun n : Nat => (n : Int)) = (xorN l : Nat) := fold_nat l 0
theorem fold_from : ∀ (l : List Nat) (a : Nat), l.foldl (· ^^^ ·) a = a ^^^ xorN l
  | [], a => by show a = a ^^^ 0; rw [Nat.xor_zero]
  | n :: l, a => by
    unfold xorN
    rw [List.foldl_cons, List.foldl_cons, fold_from l, fold_from l (0 ^^^ n), Nat.zero_xor, Nat.xor_assoc]
theorem xorN_cons (n : Nat) (l : List Nat) : xorN (n :: l) = n ^^^ xorN l := by
  show (n :: l).foldl _ 0 = _
  rw [List.foldl_cons, fold_from, Nat.zero_xor]
theorem xorN_perm {l m : List Nat} (h : l.Perm m) : xorN l = xorN m := by
  induction h with
  | nil => rfl
  | cons x _ ih => rw [xorN_cons, xorN_cons, ih]
  | swap x y l =>
    rw [xorN_cons, xorN_cons, xorN_cons, xorN_cons, ← Nat.xor_assoc, ← Nat.xor_assoc, Nat.xor_comm x y]
  | trans _ _ h1 h2 => exact h1.trans h2
/-- figures: the last one, and the others -/
theorem xor_half (a b : Nat) : (a ^^^ b) / 2 = (a / 2) ^^^ (b / 2) := by
  have := Nat.shiftRight_xor_distrib (a := a) (b := b) (i := 1)
  simpa [Nat.shiftRight_eq_div_pow] using this
theorem xor_odd (a b : Nat) : (a ^^^ b) % 2 = (a % 2 + b % 2) % 2 := by
  have h := Nat.testBit_xor a b 0
  simp only [Nat.testBit_zero] at h
  have ha := Nat.mod_two_eq_zero_or_one a
  have hb := Nat.mod_two_eq_zero_or_one b
  have hc := Nat.mod_two_eq_zero_or_one (a ^^^ b)
  rcases ha with ha | ha <;> rcases hb with hb | hb <;> rcases hc with hc | hc <;> simp [ha, hb, hc] at h ⊢
def oddN (l : List Nat) : Nat := l.countP fun n => n % 2 == 1
theorem xorN_odd : ∀ l : List Nat, xorN l % 2 = oddN l % 2
  | [] => rfl
  | n :: l => by
    rw [xorN_cons, xor_odd, xorN_odd l]
    unfold oddN
    rw [List.countP_cons]
    rcases Nat.mod_two_eq_zero_or_one n with h | h <;> simp [h] <;> omega
theorem xorN_half : ∀ l : List Nat, xorN l / 2 = xorN (l.map (· / 2))
  | [] => rfl
  | n :: l => by rw [List.map_cons, xorN_cons, xorN_cons, xor_half, xorN_half l]
theorem xorN_split (l : List Nat) : xorN l = oddN l % 2 + 2 * xorN (l.map (· / 2)) := by
  rw [← xorN_half, ← xorN_odd]; omega
end PL

namespace PL
open PySem PySem.Spec PyProof.Rows L2
/-! k75: the law's figures -/
theorem ne_nilL (ds : List D) : opNe (.list ds) (.list []) = some (.bool (!ds.isEmpty)) := by
  have hd : min (PyData.list ds).depth (PyData.list []).depth ≤ 64 := Nat.le_trans (Nat.min_le_right _ _) (by decide)
  unfold opNe
  rw [if_pos hd]
  cases ds <;> rfl
theorem mulI (a b : Int) (h : small64 a = true ∨ small64 b = true) : opMul (.int a) (.int b) = some (.int (a * b)) := by
  show (if (small64 a || small64 b) = true then some (PyData.int (a * b)) else none) = _
  rw [if_pos]
  rcases h with h | h <;> simp [h]
theorem modI (a : Int) (b : Int) (h : 0 < b) : opMod (.int a) (.int b) = some (.int (a % b)) := by
  show (if 0 < b then some (PyData.int (a % b)) else none) = _
  rw [if_pos h]
theorem divI (a : Int) (b : Int) (h : 0 < b) (h2 : b < 1073741824) : opFdiv (.int a) (.int b) = some (.int (a / b)) := by
  show (if 0 < b ∧ b < 1073741824 then some (PyData.int (a / b)) else none) = _
  rw [if_pos ⟨h, h2⟩]
theorem fInt_i (i : Int) : fInt [.int i] = some (.int i) := rfl
def tsFig : FT := (tBl (cOp2 opNe (cLc [5] (iE (cVar 3)) (gN 5) (tBl (cOp2 opGt (cVar 5) (cC (.int 0)))) (cVar 5)) (cLst aNil)))
def bdFig : FS := (sSeq (sAsg 4 (cOpA fLen (aCons (cLc [5] (iE (cVar 3)) (gN 5) (tBl (cOp2 opEq (cOp2 opMod (cOpA fInt (aCons (cVar 5) aNil)) (cC (.int 2))) (cC (.int 1)))) (cVar 5)) aNil)))
  (sParA [1, 2, 3] (aCons (cOp2n opAdd (cVar 1) (cOp2n opMul (cVar 2) (cOp2 opMod (cOpA fInt (aCons (cVar 4) aNil)) (cC (.int 2))))) (aCons (cOp2n opMul (cC (.int 2)) (cVar 2)) (aCons (cLc [5] (iE (cVar 3)) (gN 5) tYes (cOpA fInt (aCons (cOp2 opFdiv (cVar 5) (cC (.int 2))) aNil))) aNil)))))
def ρF (x : D) (w pw : Nat) (l : List Nat) (s4 : Sl) : Rho := [.pu x, .pu (nD w), .pu (nD pw), .pu (.list (l.map nD)), s4, .non]
theorem any_pos (l : List Nat) : (!((l.filter fun n => decide (0 < n)).map nD).isEmpty) = l.any fun n => decide (0 < n) := by
  induction l with
  | nil => rfl
  | cons a l ih =>
    by_cases h : 0 < a
    · simp [h]
    · rw [List.filter_cons_of_neg (by simp [h]), ih]
      simp [h]
theorem fig_test (x : D) (w pw : Nat) (l : List Nat) (s4 : Sl) (hl : l.length ≤ 100000) : tsFig (ρF x w pw l s4) = some (l.any fun n => decide (0 < n), ρF x w pw l s4) := by
  have q := cLc_of (vs := [5]) (it := iE (cVar 3)) (g := gN 5) (t := tBl (cOp2 opGt (cVar 5) (cC (.int 0)))) (f := cVar 5) (ρ := ρF x w pw l s4) (e := nD) (l := l) (fun n => decide (0 < n)) nD
    (iE_pu (x := .list (l.map nD)) rfl rfl) rfl (fun n _ => ⟨[.pu x, .pu (nD w), .pu (nD pw), .pu (.list (l.map nD)), s4, .pu (nD n)], rfl, rfl, tBl_eq (cOp2_pu (b := cC (.int 0)) rfl rfl (gtN n 0)), fun _ => ⟨_, rfl, rfl⟩⟩) (line_le (by omega))
  have e := tBl_eq (cOp2_ll q (cLst_args (as := aNil) args_nil (Nat.zero_le _)) (ne_nilL _))
  rw [any_pos] at e
  exact e
theorem fig_body (x : D) (w pw : Nat) (l : List Nat) (s4 : Sl) (h4 : plainS (some s4) = true) (hl : l.length ≤ 100000) : ∃ s4', plainS (some s4') = true ∧ bdFig (ρF x w pw l s4) = some (.nx (ρF x (w + pw * (oddN l % 2)) (2 * pw) (l.map (· / 2)) s4')) := by
  have q := cLc_of (vs := [5]) (it := iE (cVar 3)) (g := gN 5) (t := tBl (cOp2 opEq (cOp2 opMod (cOpA fInt (aCons (cVar 5) aNil)) (cC (.int 2))) (cC (.int 1)))) (f := cVar 5) (ρ := ρF x w pw l s4) (e := nD) (l := l) (fun n => n % 2 == 1) nD
    (iE_pu (x := .list (l.map nD)) rfl rfl) rfl (fun n _ => ⟨[.pu x, .pu (nD w), .pu (nD pw), .pu (.list (l.map nD)), s4, .pu (nD n)], rfl, rfl, (by
      have e := tBl_eq (cOp2_pu (ρ := [.pu x, .pu (nD w), .pu (nD pw), .pu (.list (l.map nD)), s4, .pu (nD n)]) (cOp2_pu (b := cC (.int 2)) (cOpA_args (args_pu (a := cVar 5) rfl args_nil) (fInt_i _)) rfl (modI _ 2 (by decide))) (b := cC (.int 1)) rfl (opEq_int ((n : Int) % 2) 1))
      have e3 : ((n : Int) % 2 == 1) = (n % 2 == 1) := by
        rw [Bool.eq_iff_iff, beq_iff_eq, beq_iff_eq]; omega
      rw [e3] at e
      exact e), fun _ => ⟨_, rfl, rfl⟩⟩) (line_le (by omega))
  have cnt : ((l.filter fun n => n % 2 == 1).map nD).length = oddN l := by
    rw [List.length_map]
    unfold oddN
    rw [List.countP_eq_length_filter]
  have e1 : sAsg 4 (cOpA fLen (aCons (cLc [5] (iE (cVar 3)) (gN 5) (tBl (cOp2 opEq (cOp2 opMod (cOpA fInt (aCons (cVar 5) aNil)) (cC (.int 2))) (cC (.int 1)))) (cVar 5)) aNil)) (ρF x w pw l s4) = some (.nx (ρF x w pw l (.pu (nD (oddN l))))) := by
    have z := cOpA_args (args_nw q args_nil) (fLen_l _)
    rw [cnt] at z
    exact sAsg_pu z (by cases s4 <;> first | rfl | cases h4)
  refine ⟨.pu (nD (oddN l)), rfl, (sSeq_nx e1).trans ?_⟩
  have m1 : cOp2 opMod (cOpA fInt (aCons (cVar 4) aNil)) (cC (.int 2)) (ρF x w pw l (.pu (nD (oddN l)))) = some (.pu (nD (oddN l % 2)), ρF x w pw l (.pu (nD (oddN l)))) := by
    have z := cOp2_pu (ρ := ρF x w pw l (.pu (nD (oddN l)))) (cOpA_args (args_pu (a := cVar 4) rfl args_nil) (fInt_i _)) (b := cC (.int 2)) rfl (modI (oddN l : Nat) 2 (by decide))
    exact z
  have sm : small64 ((oddN l % 2 : Nat) : Int) = true := small64_nat (by omega)
  have m2 : cOp2n opAdd (cVar 1) (cOp2n opMul (cVar 2) (cOp2 opMod (cOpA fInt (aCons (cVar 4) aNil)) (cC (.int 2)))) (ρF x w pw l (.pu (nD (oddN l)))) = some (.pu (nD (w + pw * (oddN l % 2))), ρF x w pw l (.pu (nD (oddN l)))) := by
    have z := cOp2n_pu' (ρ := ρF x w pw l (.pu (nD (oddN l)))) (a := cVar 1) (op := opAdd) rfl (cOp2n_pu' (a := cVar 2) rfl m1 (mulI (pw : Nat) ((oddN l % 2 : Nat) : Int) (.inr sm)) (v := .pu (.int (pw * (oddN l % 2 : Nat)))) rfl) (r := .int ((w : Nat) + (pw : Nat) * ((oddN l % 2 : Nat) : Int))) rfl (v := .pu (.int ((w : Nat) + (pw : Nat) * ((oddN l % 2 : Nat) : Int)))) rfl
    have e : ((w : Nat) : Int) + (pw : Nat) * ((oddN l % 2 : Nat) : Int) = ((w + pw * (oddN l % 2) : Nat) : Int) := by rw [Int.natCast_add, Int.natCast_mul]
    rw [e] at z
    exact z
  have m3 : cOp2n opMul (cC (.int 2)) (cVar 2) (ρF x w pw l (.pu (nD (oddN l)))) = some (.pu (nD (2 * pw)), ρF x w pw l (.pu (nD (oddN l)))) := by
    have z := cOp2n_pu' (ρ := ρF x w pw l (.pu (nD (oddN l)))) (a := cC (.int 2)) rfl (b := cVar 2) rfl (mulI 2 (pw : Nat) (.inl (by decide))) (v := .pu (.int (2 * (pw : Nat)))) rfl
    have e : (2 : Int) * (pw : Nat) = ((2 * pw : Nat) : Int) := by rw [Int.natCast_mul]; rfl
    rw [e] at z
    exact z
  have m4 := cLc_map (vs := [5]) (it := iE (cVar 3)) (g := gN 5) (f := cOpA fInt (aCons (cOp2 opFdiv (cVar 5) (cC (.int 2))) aNil)) (ρ := ρF x w pw l (.pu (nD (oddN l)))) (e := nD) (l := l) (fun n => nD (n / 2))
    (iE_pu (x := .list (l.map nD)) rfl rfl) rfl (fun n _ => ⟨[.pu x, .pu (nD w), .pu (nD pw), .pu (.list (l.map nD)), .pu (nD (oddN l)), .pu (nD n)], _, rfl, rfl, cOpA_args (args_pu (cOp2_pu (a := cVar 5) rfl (b := cC (.int 2)) rfl (divI (n : Nat) 2 (by decide) (by decide))) args_nil) (fInt_i _), rfl⟩) (line_le (by omega))
  have e5 : (l.map fun n => nD (n / 2)) = (l.map (· / 2)).map nD := by rw [List.map_map]; rfl
  rw [e5] at m4
  exact sParA_args (args_pu m2 (args_pu m3 (args_nw m4 args_nil))) rfl
theorem xorN_zero {l : List Nat} (h : (l.any fun n => decide (0 < n)) = false) : xorN l = 0 := by
  induction l with
  | nil => rfl
  | cons a l ih =>
    rw [List.any_cons, Bool.or_eq_false_iff] at h
    have : a = 0 := by have := h.1; simp at this; exact this
    rw [xorN_cons, ih h.2, this]
    rfl
theorem fig_loop (x : D) : ∀ (B F w pw : Nat) (l : List Nat) (s4 : Sl), (∀ n ∈ l, n < 2 ^ B) → B < F → l.length ≤ 100000 → plainS (some s4) = true →
    ∃ pw' l' s4', whileGo tsFig bdFig F (ρF x w pw l s4) = some (.nx (ρF x (w + pw * xorN l) pw' l' s4'))
  | B, 0, _, _, _, _, _, h, _, _ => absurd h (Nat.not_lt_zero _)
  | B, F + 1, w, pw, l, s4, hB, hF, hl, h4 => by
    unfold whileGo
    rw [fig_test x w pw l s4 hl, Option.bind_some]
    cases h : l.any fun n => decide (0 < n) with
    | false =>
      refine ⟨pw, l, s4, ?_⟩
      simp only [Bool.false_eq_true, if_false]
      rw [xorN_zero h, Nat.mul_zero, Nat.add_zero]
    | true =>
      obtain ⟨s4', k4, e⟩ := fig_body x w pw l s4 h4 hl
      simp only [if_true]
      rw [e, Option.bind_some]
      cases B with
      | zero =>
        obtain ⟨n, hn, hp⟩ := List.any_eq_true.mp h
        have := hB n hn
        simp at hp
        omega
      | succ B =>
        obtain ⟨pw', l', s5, e2⟩ := fig_loop x B F (w + pw * (oddN l % 2)) (2 * pw) (l.map (· / 2)) s4' (fun n hn => by
          obtain ⟨m, hm, rfl⟩ := List.mem_map.mp hn
          have := hB m hm
          rw [Nat.pow_succ] at this
          show m / 2 < _
          omega) (by omega) (by rw [List.length_map]; exact hl) k4
        refine ⟨pw', l', s5, ?_⟩
        have eq : w + pw * (oddN l % 2) + 2 * pw * xorN (l.map (· / 2)) = w + pw * xorN l := by
          rw [xorN_split l, Nat.mul_add, Nat.add_assoc]
          congr 2
          rw [Nat.mul_comm 2 pw, Nat.mul_assoc]
        rw [eq] at e2
        exact e2
theorem e_figures (d : D) (l : List Nat) (h : fList [d] = some (.list (l.map nD))) (hb : ∀ n ∈ l, n < 2 ^ 40) (hl : l.length ≤ 100000) : m__law_figures [.v d] = some (.pu (nD (xorN l)), []) := by
  have e1 : sParA [1, 2, 3] (aCons (cC (.int 0)) (aCons (cC (.int 1)) (aCons (cOpAn fList (aCons (cVar 0) aNil)) aNil))) [.pu d, .non, .non, .non, .non, .non] = some (.nx (ρF d 0 1 l .non)) :=
    sParA_args (args_pu rfl (args_pu rfl (args_nw (cOpAn_args' (args_pu rfl args_nil) h) args_nil))) rfl
  obtain ⟨pw', l', s4', e2⟩ := fig_loop d 40 fuelN 0 1 l .non hb (by
    have : fuelN = 1000000000 := rfl
    omega) hl rfl
  rw [Nat.zero_add, Nat.one_mul] at e2
  have e3 : b__law_figures [.pu d, .non, .non, .non, .non, .non] = some (.rt (.pu (nD (xorN l))) (ρF d (xorN l) pw' l' s4')) := (sSeq_nx e1).trans ((sSeq_nx (a := sWhile tsFig bdFig) e2).trans (sRet_eq rfl))
  exact run_rt rfl rfl e3 rfl
end PL

namespace PL
open PySem PySem.Spec PyProof.Rows L2
/-! k75: hooks -/
def hkI (p : List Int) (r c : Nat) : Int := p.getD r 0 + (turnI p).getD c 0 - c - r - 1
def hkN (p : List Int) (r c : Nat) : Nat := (hkI p r c).toNat
def HK (p : List Int) : List Nat := (sqs p).map fun q => hkN p q.1 q.2
theorem turn_pos {p : List Int} (h : Par p) {r c : Nat} (hs : sq p r c) : (r : Int) < (turnI p).getD c 0 := by
  rw [turn_get h.fall, Int.ofNat_lt]
  exact (cnt_iff h.fall c r).mp hs
theorem hk_pos {p : List Int} (h : Par p) {r c : Nat} (hs : sq p r c) : 1 ≤ hkI p r c := by
  have h1 := turn_pos h hs
  have h2 : (c : Int) < p.getD r 0 := hs
  unfold hkI
  omega
theorem hk_nat {p : List Int} (h : Par p) {r c : Nat} (hs : sq p r c) : ((hkN p r c : Nat) : Int) = hkI p r c := by
  have := hk_pos h hs
  unfold hkN
  omega
theorem hk_turn {p : List Int} (h : Par p) (r c : Nat) : hkN (turnI p) c r = hkN p r c := by
  unfold hkN hkI
  rw [turn_turn h]
  congr 1
  omega
theorem hk_leg {p : List Int} (h : Par p) {r c : Nat} (hs : sq p r c) : hkI p r c = p.getD r 0 - c + (leg p r c : Nat) := by
  have hm := (cnt_iff h.fall c r).mp hs
  have key : p.countP (fun x => decide ((c : Int) < x)) = r + leg p r c + 1 := by
    have a1 := leg_iff h.1 r c (r + leg p r c + 1) (by omega)
    rw [cnt_iff h.fall c] at a1
    by_cases h0 : leg p r c = 0
    · omega
    · have a2 := leg_iff h.1 r c (r + leg p r c) (by omega)
      rw [cnt_iff h.fall c] at a2
      have := a2.mpr (Nat.le_refl _)
      omega
  unfold hkI
  rw [turn_get h.fall, key]
  omega
theorem sqs_nd (p : List Int) : (sqs p).Nodup := by
  unfold sqs
  rw [List.nodup_iff_pairwise_ne, List.pairwise_flatMap]
  refine ⟨fun q _ => List.pairwise_map.mpr (List.Pairwise.imp (fun {a b : Nat} (hne : a ≠ b) (e : (q.2, a) = (q.2, b)) => hne (congrArg Prod.snd e)) List.nodup_range), ?_⟩
  have hz : (p.zipIdx.map (·.2)).Nodup := by
    rw [List.zipIdx_map_snd]
    exact List.nodup_range'
  refine List.Pairwise.imp (fun {a b} (hne : a.2 ≠ b.2) => ?_) (List.pairwise_map.mp hz)
  intro x hx y hy e
  obtain ⟨c, _, rfl⟩ := List.mem_map.mp hx
  obtain ⟨d, _, rfl⟩ := List.mem_map.mp hy
  exact hne (congrArg Prod.fst e)
theorem sqs_turn {p : List Int} (h : Par p) : (sqs (turnI p)).Perm ((sqs p).map fun q : Nat × Nat => (q.2, q.1)) := by
  refine (List.perm_ext_iff_of_nodup (sqs_nd _) (List.pairwise_map.mpr (List.Pairwise.imp (fun {a b} hne e => hne (by
    obtain ⟨a1, a2⟩ := a
    obtain ⟨b1, b2⟩ := b
    cases e; rfl)) (sqs_nd p)))).mpr fun q => ?_
  rw [mem_sqs, turn_sq h.fall, List.mem_map]
  constructor
  · intro hs
    exact ⟨(q.2, q.1), (mem_sqs _).mpr hs, rfl⟩
  · rintro ⟨z, hz, rfl⟩
    exact (mem_sqs z).mp hz
theorem HK_turn {p : List Int} (h : Par p) : (HK (turnI p)).Perm (HK p) := by
  have q := (sqs_turn h).map fun q => hkN (turnI p) q.1 q.2
  rw [List.map_map] at q
  have e : ((fun q : Nat × Nat => hkN (turnI p) q.1 q.2) ∘ fun q : Nat × Nat => (q.2, q.1)) = fun q => hkN p q.1 q.2 := by
    funext q
    exact hk_turn h q.1 q.2
  rw [e] at q
  exact q
/-! the program's rows -/
def hkD (p : List Int) (q : Int × Nat) : D := .list ((List.range q.1.toNat).map fun c => iD (hkI p q.2 c))
theorem sApp_nw {i : Nat} {e : FE} {ρ ρ1 ρ2 : Rho} {d : D} {ds : List D} (h : e ρ = some (.nw d, ρ1)) (hc : cont ρ1 (.sl i) = some (.list ds)) (hl : ds.length < lineN) (hp : putS i (.list (ds ++ [d])) ρ1 = some ρ2) (h0 : (cont ρ (.sl i)).isSome = true := by rfl) : sApp i e ρ = some (.nx ρ2) := by
  obtain ⟨c0, hc0⟩ := Option.isSome_iff_exists.mp h0
  unfold sApp
  rw [hc0, Option.bind_some, h, Option.bind_some]
  simp only [stl, hc, if_pos hl, hp, Option.bind_some]
def bdHk : FS := (sApp 2 (cLc [5] (iRg1 (cVar 4)) (gN 5) tYes (cOp2 opSub (cOp2n opAdd (cOp2 opSub (cOp2 opSub (cVar 4) (cVar 5)) (cC (.int 1))) (cOp2 opIx (cVar 1) (cVar 5))) (cVar 3))))
def ρH (p : List Int) (F : List D) (s3 s4 : Sl) : Rho := [.pu (tupD p), .pu (tupD (turnI p)), .own (.list F), s3, s4, .non]
theorem hk_row {p : List Int} (h : Par p) (hs : p.sum ≤ 300) (q : Int × Nat) (hq : q ∈ p.zipIdx) (F : List D) :
    cLc [5] (iRg1 (cVar 4)) (gN 5) tYes (cOp2 opSub (cOp2n opAdd (cOp2 opSub (cOp2 opSub (cVar 4) (cVar 5)) (cC (.int 1))) (cOp2 opIx (cVar 1) (cVar 5))) (cVar 3)) (ρH p F (.pu (nD q.2)) (.pu (.int q.1))) =
      some (.nw (hkD p q), ρH p F (.pu (nD q.2)) (.pu (.int q.1))) := by
  have hb := fits_bd (par_fits h hs)
  have hz := zip_mem hq
  have hx := hb.2 _ (List.mem_of_getElem? hz)
  have hg : p.getD q.2 0 = q.1 := by rw [List.getD_eq_getElem?_getD, hz]; rfl
  refine cLc_map (e := nD) (l := List.range q.1.toNat) (fun c => iD (hkI p q.2 c)) (by
    rw [iRg1_eq (j := q.1) rfl (small_le hx.1 (by omega)), intsD_zero]; rfl) rfl (fun c hc => ?_) (line_le (by rw [List.length_range]; omega))
  have hc := List.mem_range.mp hc
  have hsq : sq p q.2 c := by unfold sq; rw [hg]; omega
  have hl : c < (turnI p).length := (turn_len h).mpr (sq_down h.fall (Nat.zero_le _) hsq)
  have ht : (turnI p)[c]? = some ((turnI p).getD c 0) := by rw [List.getD_eq_getElem?_getD, List.getElem?_eq_getElem hl]; rfl
  refine ⟨[.pu (tupD p), .pu (tupD (turnI p)), .own (.list F), .pu (nD q.2), .pu (.int q.1), .pu (nD c)], .pu (iD (hkI p q.2 c)), rfl, rfl, ?_, rfl⟩
  have z := cOp2_pu (ρ := [.pu (tupD p), .pu (tupD (turnI p)), .own (.list F), .pu (nD q.2), .pu (.int q.1), .pu (nD c)])
    (cOp2n_pu' (op := opAdd) (cOp2_pu (op := opSub) (cOp2_pu (op := opSub) (a := cVar 4) (b := cVar 5) rfl rfl rfl) (b := cC (.int 1)) rfl rfl) (cOp2_pu (a := cVar 1) (b := cVar 5) rfl rfl (ix_T (turnI p) c _ ht)) rfl (v := .pu (.int (q.1 - c - 1 + (turnI p).getD c 0))) rfl) (b := cVar 3) rfl (op := opSub) rfl
  have e : q.1 - (c : Int) - 1 + (turnI p).getD c 0 - (q.2 : Nat) = hkI p q.2 c := by unfold hkI; rw [hg]; omega
  rw [e] at z
  exact z
theorem plain_or {s : Sl} (h : plainS (some s) = true) : s = .non ∨ ∃ d, s = .pu d := by
  cases s with
  | non => exact .inl rfl
  | pu d => exact .inr ⟨d, rfl⟩
  | _ => cases h
theorem hk_go {p : List Int} (h : Par p) (hs : p.sum ≤ 300) : ∀ (l : List (Int × Nat)) (F : List D) (s3 s4 : Sl), plainS (some s3) = true → plainS (some s4) = true → (∀ q ∈ l, q ∈ p.zipIdx) → F.length + l.length ≤ 100000 →
    ∃ s3' s4', forGo (gT ((gN 3) :: ((gN 4) :: []))) bdHk (l.map enD) (ρH p F s3 s4) = some (.nx (ρH p (F ++ l.map (hkD p)) s3' s4'))
  | [], F, s3, s4, _, _, _, _ => ⟨s3, s4, by rw [List.map_nil, List.map_nil, List.append_nil]; rfl⟩
  | q :: l, F, s3, s4, h3, h4, hq, hl => by
    rw [List.length_cons] at hl
    obtain ⟨s3', s4', e⟩ := hk_go h hs l (F ++ [hkD p q]) (.pu (nD q.2)) (.pu (.int q.1)) rfl rfl (fun z hz => hq z (List.mem_cons_of_mem _ hz)) (by rw [List.length_append]; show F.length + 1 + _ ≤ _; omega)
    refine ⟨s3', s4', ?_⟩
    have e0 : gT ((gN 3) :: ((gN 4) :: [])) (enD q) (ρH p F s3 s4) = some (ρH p F (.pu (nD q.2)) (.pu (.int q.1))) := by
      rcases plain_or h3 with rfl | ⟨d, rfl⟩ <;> rcases plain_or h4 with rfl | ⟨d', rfl⟩ <;> rfl
    have e1 : bdHk (ρH p F (.pu (nD q.2)) (.pu (.int q.1))) = some (.nx (ρH p (F ++ [hkD p q]) (.pu (nD q.2)) (.pu (.int q.1)))) := sApp_nw (hk_row h hs q (hq q List.mem_cons_self) F) rfl (line_lt (by omega)) rfl
    rw [List.append_assoc] at e
    exact (forGo_nx e0 e1).trans e
theorem e_hook_rows {p : List Int} (h : Par p) (hs : p.sum ≤ 300) : m_hook_rows [.v (tupD p)] = some (.nw (.list (p.zipIdx.map (hkD p))), []) := by
  have hb := fits_bd (par_fits h hs)
  have hl := hb.1
  have e1 : sAsg 1 (cCall m_turned_in (aCons (cVar 0) aNil)) [.pu (tupD p), .non, .non, .non, .non, .non] = some (.nx [.pu (tupD p), .pu (tupD (turnI p)), .non, .non, .non, .non]) := sAsg_pu (cCall_args (args_pu rfl args_nil) (e_turned_in p (by omega) (maxZ_le h.fall hs))) rfl
  have e2 : sNew 2 (cLst aNil) [.pu (tupD p), .pu (tupD (turnI p)), .non, .non, .non, .non] = some (.nx (ρH p [] .non .non)) := sNew_nw (cLst_args args_nil (Nat.zero_le _)) rfl
  obtain ⟨s3, s4, e3⟩ := hk_go h hs p.zipIdx [] .non .non rfl rfl (fun _ z => z) (by rw [List.length_zipIdx]; show 0 + _ ≤ _; omega)
  have ei : iEnum (cVar 0) (ρH p [] .non .non) = some (p.zipIdx.map enD, ρH p [] .non .non) := by rw [iEnum_pu rfl (show itemsOf (tupD p) = some (p.map .int) from rfl), enum_ints]; rfl
  have ef : sFor (iEnum (cVar 0)) (gT ((gN 3) :: ((gN 4) :: []))) bdHk (ρH p [] .non .non) = some (.nx (ρH p (p.zipIdx.map (hkD p)) s3 s4)) := by
    unfold sFor
    rw [ei]
    exact e3
  have e4 : b_hook_rows [.pu (tupD p), .non, .non, .non, .non, .non] = some (.rt (.sl 2) (ρH p (p.zipIdx.map (hkD p)) s3 s4)) := (sSeq_nx e1).trans ((sSeq_nx e2).trans ((sSeq_nx ef).trans (sRet_eq rfl)))
  exact run_ro rfl rfl e4 rfl rfl
def HKI (p : List Int) : List Int := (sqs p).map fun q => hkI p q.1 q.2
theorem HKI_flat (p : List Int) : (p.zipIdx.flatMap fun q => (List.range q.1.toNat).map fun c => iD (hkI p q.2 c)) = (HKI p).map iD := by
  unfold HKI sqs
  rw [List.map_flatMap, List.map_flatMap]
  congr 1
  funext q
  rw [List.map_map, List.map_map]
  rfl
theorem sqs_le {p : List Int} (h : Par p) (hs : p.sum ≤ 300) : (sqs p).length ≤ 300 := by
  have e1 := flat_sum (fun q => (List.range q.1.toNat).map fun c => (q.2, c)) (fun q => by rw [List.length_map, List.length_range]) p 0 h.fall.2
  have : ((sqs p).length : Int) = p.sum := e1
  omega
theorem e_hooks_in {p : List Int} (h : Par p) (hs : p.sum ≤ 300) : m_hooks_in [.v (tupD p)] = some (.pu (.tuple ((srtDn (HKI p)).map .int)), []) := by
  have hb := fits_bd (par_fits h hs)
  have c := cLc2_of (vs := [1, 2]) (vs1 := [2]) (it := iE (cCall m_hook_rows (aCons (cVar 0) aNil))) (g := gN 1) (it1 := iE (cVar 1)) (g1 := gN 2) (f := cVar 2) (ρ := [.pu (tupD p), .non, .non])
    (e := hkD p) (l := p.zipIdx) (l1 := fun q => (List.range q.1.toNat).map fun c => hkI p q.2 c) (e1 := iD) (fun q x => iD x) (by decide)
    (iE_nw (cCall_args (args_pu rfl args_nil) (e_hook_rows h hs)) rfl) rfl (fun q hq => ⟨[.pu (tupD p), .pu (hkD p q), .non], rfl, rfl, iE_pu (x := hkD p q) rfl (by
      show some _ = some _
      rw [List.map_map]; rfl), fun x _ => ⟨[.pu (tupD p), .pu (hkD p q), .pu (iD x)], _, rfl, rfl, rfl, rfl⟩⟩) (line_le (by
        have e : (p.zipIdx.flatMap fun q => ((List.range q.1.toNat).map fun c => hkI p q.2 c).map iD) = (HKI p).map iD := by
          rw [← HKI_flat]
          congr 1
          funext q
          rw [List.map_map]; rfl
        rw [e, List.length_map]
        unfold HKI
        rw [List.length_map]
        have := sqs_le h hs
        omega))
  have e : (p.zipIdx.flatMap fun q => ((List.range q.1.toNat).map fun c => hkI p q.2 c).map fun x => iD x) = (HKI p).map iD := by
    rw [← HKI_flat]
    congr 1
    funext q
    rw [List.map_map]; rfl
  rw [e] at c
  have es : fSortedR [.list ((HKI p).map iD)] = some (.list ((srtDn (HKI p)).map .int)) := by
    have q : fSortedR [.list ((HKI p).map .int)] = (intsOf ((HKI p).map .int)).bind fun ns => some (.list ((srtDn ns).map .int)) := rfl
    rw [intsOf_map] at q
    exact q
  have e4 : b_hooks_in [.pu (tupD p), .non, .non] = some (.rt (.pu (.tuple ((srtDn (HKI p)).map .int))) [.pu (tupD p), .non, .non]) := sRet_eq (cOpA_args (args_nw (cOpAn_args' (args_nw c args_nil) es) args_nil) (fTuple_l _))
  exact run_rt rfl rfl e4 rfl
/-- the worth by hooks -/
def rimW (p : List Int) : Nat := xorN ((HK p).map fun h => h ^^^ (h - 1))
theorem rimW_turn {p : List Int} (h : Par p) : rimW (turnI p) = rimW p := xorN_perm ((HK_turn h).map _)
theorem HKI_nat {p : List Int} (h : Par p) : HKI p = (HK p).map fun n : Nat => (n : Int) := by
  unfold HKI HK
  rw [List.map_map]
  refine List.map_congr_left fun q hq => ?_
  exact (hk_nat h ((mem_sqs q).mp hq)).symm
theorem HK_pos {p : List Int} (h : Par p) : ∀ n ∈ HK p, 1 ≤ n := fun n hn => by
  obtain ⟨q, hq, rfl⟩ := List.mem_map.mp hn
  have h1 := hk_pos h ((mem_sqs q).mp hq)
  have h2 := hk_nat h ((mem_sqs q).mp hq)
  show 1 ≤ hkN p q.1 q.2
  omega
theorem rim_xor {p : List Int} (h : Par p) : xorL ((srtDn (HKI p)).map fun x => Builtin.bitXor x (x - 1)) = (rimW p : Nat) := by
  have pm : (srtDn (HKI p)).Perm ((HK p).map fun n : Nat => (n : Int)) := by
    rw [← HKI_nat h]
    exact srtDn_perm _
  -- a sorted list of naturals
  obtain ⟨L, hL, eL⟩ : ∃ L : List Nat, L.Perm (HK p) ∧ srtDn (HKI p) = L.map fun n : Nat => (n : Int) := by
    refine ⟨(srtDn (HKI p)).map Int.toNat, ?_, ?_⟩
    · have q := pm.map Int.toNat
      rw [List.map_map] at q
      have e : (Int.toNat ∘ fun n : Nat => (n : Int)) = id := by funext n; simp
      rw [e, List.map_id] at q
      exact q
    · rw [List.map_map]
      have e : ∀ x ∈ srtDn (HKI p), ((fun n : Nat => (n : Int)) ∘ Int.toNat) x = x := fun x hx => by
        obtain ⟨n, _, rfl⟩ := List.mem_map.mp (pm.mem_iff.mp hx)
        simp
      rw [List.map_congr_left e, List.map_id']
  rw [eL, List.map_map]
  have e2 : (L.map ((fun x : Int => Builtin.bitXor x (x - 1)) ∘ fun n : Nat => (n : Int))) = (L.map fun n => n ^^^ (n - 1)).map fun n : Nat => (n : Int) := by
    rw [List.map_map]
    refine List.map_congr_left fun n hn => ?_
    have := HK_pos h n (hL.mem_iff.mp hn)
    show Builtin.bitXor (n : Int) ((n : Int) - 1) = ((n ^^^ (n - 1) : Nat) : Int)
    rw [Bits.bitXor_pp (by omega) (by omega)]
    congr 2
    omega
  rw [e2, xorL_nat]
  unfold rimW
  rw [xorN_perm (hL.map _)]
end PL

namespace PL
open PySem PySem.Spec PyProof.Rows L2
/-! k75: edges, the program's way -/
def mex2 (a b : Nat) : Nat := mex [(a : Int), (b : Int)]
theorem mex2_comm (a b : Nat) : mex2 a b = mex2 b a := mex_congr fun x => by simp [or_comm]
def rowK (below : Nat → Nat) (h : Nat) : Nat → Nat
  | 0 => 0
  | k + 1 => mex2 (below (h - (k + 1))) (rowK below h k)
def edgeE : List Int → Nat → Nat
  | [], _ => 0
  | h :: t, c => rowK (edgeE t) h.toNat (h.toNat - c)
def ee (p : List Int) (r c : Nat) : Nat := edgeE (p.drop r) c
theorem edge_cons (h : Int) (t : List Int) (c : Nat) : edgeE (h :: t) c = if (c : Int) < h then mex2 (edgeE t c) (edgeE (h :: t) (c + 1)) else 0 := by
  by_cases hc : (c : Int) < h
  · rw [if_pos hc]
    show rowK (edgeE t) h.toNat (h.toNat - c) = mex2 _ (rowK (edgeE t) h.toNat (h.toNat - (c + 1)))
    have e : h.toNat - c = (h.toNat - (c + 1)) + 1 := by omega
    rw [e]
    show mex2 (edgeE t (h.toNat - (h.toNat - (c + 1) + 1))) _ = _
    have e2 : h.toNat - (h.toNat - (c + 1) + 1) = c := by omega
    rw [e2]
  · rw [if_neg hc]
    show rowK (edgeE t) h.toNat (h.toNat - c) = 0
    have e : h.toNat - c = 0 := by omega
    rw [e]; rfl
instance (p : List Int) (r c : Nat) : Decidable (sq p r c) := inferInstanceAs (Decidable ((c : Int) < p.getD r 0))
theorem ee_rec0 (p : List Int) (r c : Nat) : ee p r c = if (c : Int) < p.getD r 0 then mex2 (ee p (r + 1) c) (ee p r (c + 1)) else 0 := by
  unfold ee
  by_cases hr : r < p.length
  · have e : p.drop r = p[r] :: p.drop (r + 1) := List.drop_eq_getElem_cons hr
    have g : p.getD r 0 = p[r] := by rw [List.getD_eq_getElem?_getD, List.getElem?_eq_getElem hr]; rfl
    rw [g, e]
    exact edge_cons _ _ _
  · have e : p.drop r = [] := List.drop_eq_nil_of_le (by omega)
    have g : p.getD r 0 = 0 := by rw [List.getD_eq_getElem?_getD, List.getElem?_eq_none (by omega)]; rfl
    rw [e, g, if_neg (by omega)]
    rfl
theorem ee_rec (p : List Int) (r c : Nat) : ee p r c = if sq p r c then mex2 (ee p (r + 1) c) (ee p r (c + 1)) else 0 := by
  have key := ee_rec0 p r c
  by_cases hs : sq p r c
  · rw [if_pos hs]
    rw [if_pos (show (c : Int) < p.getD r 0 from hs)] at key
    exact key
  · rw [if_neg hs]
    rw [if_neg (show ¬ (c : Int) < p.getD r 0 from hs)] at key
    exact key
theorem sq_bd {p : List Int} (h : Par p) {r c : Nat} (hs : sq p r c) : r < p.length ∧ c < (turnI p).length := ⟨sq_len hs, (turn_len h).mpr (sq_down h.fall (Nat.zero_le _) hs)⟩
theorem ee_turn {p : List Int} (h : Par p) : ∀ (m r c : Nat), p.length + (turnI p).length ≤ m + r + c → ee (turnI p) c r = ee p r c
  | 0, r, c, hm => by
    rw [ee_rec, ee_rec p]
    have n1 : ¬ sq p r c := fun hs => by have := sq_bd h hs; omega
    rw [if_neg n1, if_neg (fun z => n1 ((turn_sq h.fall c r).mp z))]
  | m + 1, r, c, hm => by
    rw [ee_rec, ee_rec p, ee_turn h m r (c + 1) (by omega), ee_turn h m (r + 1) c (by omega)]
    by_cases hs : sq p r c
    · rw [if_pos hs, if_pos ((turn_sq h.fall c r).mpr hs), mex2_comm]
    · rw [if_neg hs, if_neg (fun z => hs ((turn_sq h.fall c r).mp z))]
def edgW (p : List Int) : Nat := ee p 0 0
theorem edgW_turn {p : List Int} (h : Par p) : edgW (turnI p) = edgW p := ee_turn h (p.length + (turnI p).length) 0 0 (by omega)
/-! the program's loops -/
theorem downD_nat (n : Nat) : downD ((n : Int) - 1) n = ((List.range n).reverse).map nD := by
  unfold downD
  refine List.ext_getElem (by simp) fun i h1 h2 => ?_
  simp only [List.length_map, List.length_range] at h1
  simp only [List.getElem_map, List.getElem_range, List.getElem_reverse, List.length_range]
  unfold nD
  congr 1
  omega
theorem iRgDn_eq {a b : FE} {ρ ρ1 ρ2 : Rho} {i j : Int} (h1 : a ρ = some (.pu (.int i), ρ1)) (h2 : b ρ1 = some (.pu (.int j), ρ2)) (s1 : small i = true) (s2 : small j = true) : iRgDn a b ρ = some (downD i (i - j).toNat, ρ2) := by
  unfold iRgDn
  simp only [h1, Option.bind_some, h2, s1, s2, and_self, if_true]
def OW (p : List Int) (W r k : Nat) : List Int := (List.range (W + 1)).map fun c => if k ≤ c then ((ee p r c : Nat) : Int) else 0
theorem OW_get (p : List Int) (W r k c : Nat) (hc : c ≤ W) : (OW p W r k)[c]? = some (if k ≤ c then ((ee p r c : Nat) : Int) else 0) := by
  unfold OW
  rw [List.getElem?_map, List.getElem?_range (by omega)]
  rfl
theorem OW_set (p : List Int) (W r k : Nat) (hk : k ≤ W) : (OW p W r (k + 1)).set k ((ee p r k : Nat) : Int) = OW p W r k := by
  refine List.ext_getElem? fun c => ?_
  rw [List.getElem?_set]
  by_cases hc : c ≤ W
  · rw [OW_get p W r (k + 1) c hc, OW_get p W r k c hc]
    by_cases h : k = c
    · subst h
      rw [if_pos rfl, if_pos (by unfold OW; rw [List.length_map, List.length_range]; omega), if_pos (Nat.le_refl _)]
    · rw [if_neg h]
      congr 1
      by_cases h2 : k ≤ c
      · rw [if_pos h2, if_pos (by omega)]
      · rw [if_neg h2, if_neg (by omega)]
  · have l1 : (OW p W r (k + 1))[c]? = none := List.getElem?_eq_none (by unfold OW; rw [List.length_map, List.length_range]; omega)
    have l2 : (OW p W r k)[c]? = none := List.getElem?_eq_none (by unfold OW; rw [List.length_map, List.length_range]; omega)
    rw [l1, l2]
    have : ¬ k = c := by omega
    rw [if_neg this]
theorem OW_zero (p : List Int) (W r : Nat) (h : ∀ c, ¬ sq p r c) : OW p W r 0 = List.replicate (W + 1) 0 := by
  unfold OW
  refine List.ext_getElem (by simp) fun i h1 h2 => ?_
  simp only [List.getElem_map, List.getElem_range, List.getElem_replicate]
  rw [ee_rec, if_neg (h i)]
  simp
theorem OW_top (p : List Int) (W r k : Nat) (h : ¬ sq p r k) (hf : ∀ c, k ≤ c → ¬ sq p r c) : OW p W r k = List.replicate (W + 1) 0 := by
  unfold OW
  refine List.ext_getElem (by simp) fun i h1 h2 => ?_
  simp only [List.getElem_map, List.getElem_range, List.getElem_replicate]
  by_cases hi : k ≤ i
  · rw [if_pos hi, ee_rec, if_neg (hf i hi)]; rfl
  · rw [if_neg hi]
def lI (l : List Int) : D := .list (l.map .int)
theorem mulZ (n : Nat) (hn : n ≤ 1000) : opMul (.list [.int 0]) (.int (n : Nat)) = some (lI (List.replicate n 0)) := by
  show (if -1000000 ≤ ((n : Nat) : Int) ∧ ((n : Nat) : Int) ≤ 1000000 ∧ 1 * ((n : Nat) : Int).toNat ≤ 1000000 then some (PyData.list (List.replicate ((n : Nat) : Int).toNat [PyData.int 0]).flatten) else none) = _
  rw [if_pos (by omega)]
  unfold lI
  simp
def bdCol : FS := (sSet 4 (cVar 5) (cCall m_least_beside (aCons (cLst (aCons (cOp2 opIx (cVar 2) (cVar 5)) (aCons (cOp2 opIx (cVar 4) (cOp2n opAdd (cVar 5) (cC (.int 1)))) aNil))) aNil)))
def ρE (p : List Int) (W : Nat) (b : List Int) (r : Nat) (o : List Int) (s5 : Sl) : Rho := [.pu (tupD p), .pu (nD W), .pu (lI b), .pu (nD r), .own (lI o), s5]
theorem set_map (l : List Int) (n : Nat) (a : Int) : (l.map PyData.int).set n (.int a) = (l.set n a).map .int := (List.map_set (f := PyData.int)).symm
theorem col_body (p : List Int) (W r k : Nat) (hW : W ≤ 1000) (hk : k + 1 ≤ W) (hs : sq p r k) (s5 : Sl) (h5 : plainS (some s5) = true) :
    ∃ ρ1, gN 5 (nD k) (ρE p W (OW p W (r + 1) 0) r (OW p W r (k + 1)) s5) = some ρ1 ∧ bdCol ρ1 = some (.nx (ρE p W (OW p W (r + 1) 0) r (OW p W r k) (.pu (nD k)))) := by
  refine ⟨ρE p W (OW p W (r + 1) 0) r (OW p W r (k + 1)) (.pu (nD k)), by rcases plain_or h5 with rfl | ⟨d, rfl⟩ <;> rfl, ?_⟩
  have g1 : cOp2 opIx (cVar 2) (cVar 5) (ρE p W (OW p W (r + 1) 0) r (OW p W r (k + 1)) (.pu (nD k))) = some (.pu (.int (ee p (r + 1) k : Nat)), ρE p W (OW p W (r + 1) 0) r (OW p W r (k + 1)) (.pu (nD k))) := by
    have q := OW_get p W (r + 1) 0 k (by omega)
    rw [if_pos (Nat.zero_le _)] at q
    exact cOp2_pu rfl rfl (ix_nat _ k _ q)
  have g2 : cOp2 opIx (cVar 4) (cOp2n opAdd (cVar 5) (cC (.int 1))) (ρE p W (OW p W (r + 1) 0) r (OW p W r (k + 1)) (.pu (nD k))) = some (.pu (.int (ee p r (k + 1) : Nat)), ρE p W (OW p W (r + 1) 0) r (OW p W r (k + 1)) (.pu (nD k))) := by
    have q := OW_get p W r (k + 1) (k + 1) hk
    rw [if_pos (Nat.le_refl _)] at q
    exact cOp2_sp (y := nD (k + 1)) (x := lI (OW p W r (k + 1))) rfl (cOp2n_pu' rfl rfl rfl) rfl (ix_nat _ (k + 1) _ q)
  have g3 := e_least [((ee p (r + 1) k : Nat) : Int), ((ee p r (k + 1) : Nat) : Int)] (by show 2 ≤ 100000; decide)
  have em : mex [((ee p (r + 1) k : Nat) : Int), ((ee p r (k + 1) : Nat) : Int)] = ee p r k := by
    rw [ee_rec p r k, if_pos hs]; rfl
  rw [em] at g3
  refine sSet_pu (n := k) (j := (k : Nat)) (cCall_args (args_nw (cLst_args (args_pu g1 (args_pu g2 args_nil)) (line_le (by show (2 : Nat) ≤ 1000000; decide))) args_nil) g3) rfl rfl (by
    unfold ixD
    rw [if_pos (by omega), if_pos (by unfold OW; simp; omega)]
    rfl) ?_
  rw [set_map, OW_set p W r k (by omega)]
  rfl
theorem col_go (p : List Int) (W r : Nat) (hW : W ≤ 1000) : ∀ (n : Nat) (s5 : Sl), n ≤ W → (∀ k, k < n → sq p r k) → plainS (some s5) = true →
    ∃ s5', plainS (some s5') = true ∧ forGo (gN 5) bdCol (((List.range n).reverse).map nD) (ρE p W (OW p W (r + 1) 0) r (OW p W r n) s5) = some (.nx (ρE p W (OW p W (r + 1) 0) r (OW p W r 0) s5'))
  | 0, s5, _, _, h5 => ⟨s5, h5, rfl⟩
  | n + 1, s5, hn, hs, h5 => by
    obtain ⟨ρ1, e1, e2⟩ := col_body p W r n hW hn (hs n (by omega)) s5 h5
    obtain ⟨s5', k5, e3⟩ := col_go p W r hW n (.pu (nD n)) (by omega) (fun k hk => hs k (by omega)) rfl
    refine ⟨s5', k5, ?_⟩
    rw [List.range_succ, List.reverse_append, List.reverse_singleton, List.singleton_append, List.map_cons]
    exact (forGo_nx e1 e2).trans e3
def bdRow : FS := (sSeq (sNew 4 (cOp2n opMul (cLst (aCons (cC (.int 0)) aNil)) (cOp2n opAdd (cVar 1) (cC (.int 1)))))
  (sSeq (sFor (iRgDn (cOp2 opSub (cOp2 opIx (cVar 0) (cVar 3)) (cC (.int 1))) (cOp opNeg (cC (.int 1)))) (gN 5) bdCol)
  (sFrz 4 (sAsg 2 (cVar 4)))))
def ρW (p : List Int) (W : Nat) (b : List Int) (s3 s4 s5 : Sl) : Rho := [.pu (tupD p), .pu (nD W), .pu (lI b), s3, s4, s5]
theorem zeros_ev {ρ : Rho} {W : Nat} (hW : W ≤ 900) (h : cVar 1 ρ = some (.pu (nD W), ρ)) : cOp2n opMul (cLst (aCons (cC (.int 0)) aNil)) (cOp2n opAdd (cVar 1) (cC (.int 1))) ρ = some (.nw (lI (List.replicate (W + 1) 0)), ρ) :=
  cOp2n_lp' (cLst_args (args_pu rfl args_nil) (line_le (by decide))) (cOp2n_pu' (y := .int 1) (r := nD (W + 1)) h rfl rfl) (mulZ (W + 1) (by omega))
theorem row_body {p : List Int} (h : Par p) (hs : p.sum ≤ 300) (W r : Nat) (hr : r < p.length) (hW : W = (maxZ p).toNat) (s3 s4 s5 : Sl) (h3 : plainS (some s3) = true) (h4 : plainS (some s4) = true) (h5 : plainS (some s5) = true) :
    ∃ ρ1 s3' s4' s5', gN 3 (nD r) (ρW p W (OW p W (r + 1) 0) s3 s4 s5) = some ρ1 ∧ bdRow ρ1 = some (.nx (ρW p W (OW p W r 0) s3' s4' s5')) ∧ plainS (some s3') = true ∧ plainS (some s4') = true ∧ plainS (some s5') = true := by
  have hb := fits_bd (par_fits h hs)
  have hx := hb.2 _ (List.getElem_mem hr)
  have g : p.getD r 0 = p[r] := by rw [List.getD_eq_getElem?_getD, List.getElem?_eq_getElem hr]; rfl
  have hm := maxZ_ge p _ (List.getElem_mem hr)
  have hW2 : W ≤ 900 := by
    have h1 : maxZ p ≤ 300 := by
      by_cases h0 : 0 < maxZ p
      · exact (hb.2 _ (maxZ_mem p h0)).2
      · omega
    omega
  obtain ⟨n, hn⟩ : ∃ n : Nat, p[r] = (n : Int) := ⟨p[r].toNat, by omega⟩
  have sqr : ∀ k, k < n → sq p r k := fun k hk => by unfold sq; rw [g, hn]; omega
  have nsq : ∀ k, n ≤ k → ¬ sq p r k := fun k hk z => by unfold sq at z; rw [g, hn] at z; omega
  refine ⟨ρW p W (OW p W (r + 1) 0) (.pu (nD r)) s4 s5, ?_⟩
  have e0 : gN 3 (nD r) (ρW p W (OW p W (r + 1) 0) s3 s4 s5) = some (ρW p W (OW p W (r + 1) 0) (.pu (nD r)) s4 s5) := by rcases plain_or h3 with rfl | ⟨d, rfl⟩ <;> rfl
  have e1 : sNew 4 (cOp2n opMul (cLst (aCons (cC (.int 0)) aNil)) (cOp2n opAdd (cVar 1) (cC (.int 1)))) (ρW p W (OW p W (r + 1) 0) (.pu (nD r)) s4 s5) = some (.nx (ρE p W (OW p W (r + 1) 0) r (OW p W r n) s5)) := by
    rw [OW_top p W r n (nsq n (Nat.le_refl _)) nsq]
    exact sNew_nw (zeros_ev hW2 rfl) (by rcases plain_or h4 with rfl | ⟨d, rfl⟩ <;> rfl)
  obtain ⟨s5', k5, e2⟩ := col_go p W r (by omega) n s5 (by omega) sqr h5
  have ei : iRgDn (cOp2 opSub (cOp2 opIx (cVar 0) (cVar 3)) (cC (.int 1))) (cOp opNeg (cC (.int 1))) (ρE p W (OW p W (r + 1) 0) r (OW p W r n) s5) = some (((List.range n).reverse).map nD, ρE p W (OW p W (r + 1) 0) r (OW p W r n) s5) := by
    have q := iRgDn_eq (ρ := ρE p W (OW p W (r + 1) 0) r (OW p W r n) s5) (i := (n : Int) - 1) (j := -1) (cOp2_pu (op := opSub) (cOp2_pu (a := cVar 0) (b := cVar 3) rfl rfl (ix_T p r (n : Int) (by rw [List.getElem?_eq_getElem hr, hn]))) (b := cC (.int 1)) rfl rfl) (b := cOp opNeg (cC (.int 1))) rfl (by
      unfold small
      simp
      omega) (by decide)
    have e : ((n : Int) - 1 - -1).toNat = n := by omega
    rw [e, downD_nat] at q
    exact q
  have e3 : sFrz 4 (sAsg 2 (cVar 4)) (ρE p W (OW p W (r + 1) 0) r (OW p W r 0) s5') = some (.nx (ρW p W (OW p W r 0) (.pu (nD r)) (.pu (lI (OW p W r 0))) s5')) := (sFrz_eq (ρ1 := ρW p W (OW p W (r + 1) 0) (.pu (nD r)) (.pu (lI (OW p W r 0))) s5') rfl).trans (sAsg_pu rfl rfl)
  have ef : sFor (iRgDn (cOp2 opSub (cOp2 opIx (cVar 0) (cVar 3)) (cC (.int 1))) (cOp opNeg (cC (.int 1)))) (gN 5) bdCol (ρE p W (OW p W (r + 1) 0) r (OW p W r n) s5) = some (.nx (ρE p W (OW p W (r + 1) 0) r (OW p W r 0) s5')) := by
    unfold sFor
    rw [ei]
    exact e2
  exact ⟨.pu (nD r), .pu (lI (OW p W r 0)), s5', e0, (sSeq_nx e1).trans ((sSeq_nx ef).trans e3), rfl, rfl, k5⟩
theorem row_go {p : List Int} (h : Par p) (hs : p.sum ≤ 300) (W : Nat) (hW : W = (maxZ p).toNat) : ∀ (n : Nat) (s3 s4 s5 : Sl), n ≤ p.length → plainS (some s3) = true → plainS (some s4) = true → plainS (some s5) = true →
    ∃ s3' s4' s5', forGo (gN 3) bdRow (((List.range n).reverse).map nD) (ρW p W (OW p W n 0) s3 s4 s5) = some (.nx (ρW p W (OW p W 0 0) s3' s4' s5'))
  | 0, s3, s4, s5, _, _, _, _ => ⟨s3, s4, s5, rfl⟩
  | n + 1, s3, s4, s5, hn, h3, h4, h5 => by
    obtain ⟨ρ1, t3, t4, t5, e1, e2, k3, k4, k5⟩ := row_body h hs W n (by omega) hW s3 s4 s5 h3 h4 h5
    obtain ⟨s3', s4', s5', e3⟩ := row_go h hs W hW n t3 t4 t5 (by omega) k3 k4 k5
    refine ⟨s3', s4', s5', ?_⟩
    rw [List.range_succ, List.reverse_append, List.reverse_singleton, List.singleton_append, List.map_cons]
    exact (forGo_nx e1 e2).trans e3
theorem maxT_ev {p : List Int} (hz : p.length ≤ 1000) {ρ : Rho} (h : cVar 0 ρ = some (.pu (tupD p), ρ)) : cOpA fMax (aCons (cOp2n opAdd (cTup (aCons (cC (.int 0)) aNil)) (cVar 0)) aNil) ρ = some (.pu (.int (maxZ p)), ρ) := by
  have hmx : fMax [.tuple (.int 0 :: p.map .int)] = some (.int (maxZ p)) := by
    show (intsOf (.int 0 :: p.map .int)).bind maxI = _
    have : intsOf (.int 0 :: p.map .int) = some (0 :: p) := intsOf_map (0 :: p)
    rw [this]; rfl
  exact cOpA_args (args_pu (cOp2n_pu' (cTup_args (args_pu rfl args_nil) (line_le (by decide))) h (add_t [0] p (by show 1 + p.length ≤ _; omega)) rfl) args_nil) hmx
theorem e_edges {p : List Int} (h : Par p) (hs : p.sum ≤ 300) : m_edges_worth [.v (tupD p)] = some (.pu (nD (edgW p)), []) := by
  have hb := fits_bd (par_fits h hs)
  have hl := hb.1
  obtain ⟨W, hW⟩ : ∃ W : Nat, maxZ p = (W : Int) := ⟨(maxZ p).toNat, by have := maxZ_nn p; omega⟩
  have hW1 : W = (maxZ p).toNat := by omega
  have hW2 : W ≤ 900 := by
    have h1 : maxZ p ≤ 300 := by
      by_cases h0 : 0 < maxZ p
      · exact (hb.2 _ (maxZ_mem p h0)).2
      · omega
    omega
  have e1 : sAsg 1 (cOpA fMax (aCons (cOp2n opAdd (cTup (aCons (cC (.int 0)) aNil)) (cVar 0)) aNil)) [.pu (tupD p), .non, .non, .non, .non, .non] = some (.nx [.pu (tupD p), .pu (nD W), .non, .non, .non, .non]) := by
    have q := maxT_ev (p := p) (by omega) (ρ := [.pu (tupD p), .non, .non, .non, .non, .non]) rfl
    rw [hW] at q
    exact sAsg_pu q rfl
  have hz : OW p W p.length 0 = List.replicate (W + 1) 0 := OW_zero p W p.length fun c z => by
    have := sq_len z
    omega
  have e2 : sAsg 2 (cOp2n opMul (cLst (aCons (cC (.int 0)) aNil)) (cOp2n opAdd (cVar 1) (cC (.int 1)))) [.pu (tupD p), .pu (nD W), .non, .non, .non, .non] = some (.nx (ρW p W (OW p W p.length 0) .non .non .non)) := by
    rw [hz]
    exact sAsg_nw (zeros_ev hW2 rfl) rfl
  obtain ⟨s3, s4, s5, e3⟩ := row_go h hs W hW1 p.length .non .non .non (Nat.le_refl _) rfl rfl rfl
  have ei : iRgDn (cOp2 opSub (cOpA fLen (aCons (cVar 0) aNil)) (cC (.int 1))) (cOp opNeg (cC (.int 1))) (ρW p W (OW p W p.length 0) .non .non .non) = some (((List.range p.length).reverse).map nD, ρW p W (OW p W p.length 0) .non .non .non) := by
    have q := iRgDn_eq (ρ := ρW p W (OW p W p.length 0) .non .non .non) (i := (p.length : Int) - 1) (j := -1) (cOp2_pu (op := opSub) (cOpA_args (args_pu (a := cVar 0) rfl args_nil) (fLen_t p)) (b := cC (.int 1)) rfl rfl) (b := cOp opNeg (cC (.int 1))) rfl (by
      unfold small
      simp
      omega) (by decide)
    have e : ((p.length : Int) - 1 - -1).toNat = p.length := by omega
    rw [e, downD_nat] at q
    exact q
  have ef : sFor (iRgDn (cOp2 opSub (cOpA fLen (aCons (cVar 0) aNil)) (cC (.int 1))) (cOp opNeg (cC (.int 1)))) (gN 3) bdRow (ρW p W (OW p W p.length 0) .non .non .non) = some (.nx (ρW p W (OW p W 0 0) s3 s4 s5)) := by
    unfold sFor
    rw [ei]
    exact e3
  have e4 : sRet (cOp2 opIx (cVar 2) (cC (.int 0))) (ρW p W (OW p W 0 0) s3 s4 s5) = some (.rt (.pu (nD (edgW p))) (ρW p W (OW p W 0 0) s3 s4 s5)) := by
    have q := OW_get p W 0 0 0 (Nat.zero_le _)
    rw [if_pos (Nat.le_refl _)] at q
    exact sRet_eq (cOp2_pu (y := .int 0) rfl rfl (ix_nat _ 0 _ q))
  have e5 : b_edges_worth [.pu (tupD p), .non, .non, .non, .non, .non] = some (.rt (.pu (nD (edgW p))) (ρW p W (OW p W 0 0) s3 s4 s5)) := (sSeq_nx e1).trans ((sSeq_nx e2).trans ((sSeq_nx ef).trans e4))
  exact run_rt rfl rfl e5 rfl
end PL

namespace PL
open PySem PySem.Spec PyProof.Rows L2
/-! k75: worths by moves; all ways to lay stones; what is told once -/
def wv (g : Gm) : Nat → List Int → Nat
  | 0, _ => 0
  | n + 1, p => mex ((gF g p).map fun q => ((wv g n q : Nat) : Int))
def Wt (g : Gm) (p : List Int) : Nat := wv g p.sum.toNat p
theorem sum_nil {p : List Int} (h : Par p) (hs : p.sum ≤ 0) : p = [] := by
  have := len_sum h.2
  cases p with
  | nil => rfl
  | cons a l => rw [List.length_cons] at this; omega
theorem wv_nil (g : Gm) : ∀ n, wv g n [] = 0
  | 0 => rfl
  | n + 1 => by
    show mex ((gF g []).map _) = 0
    have e : gF g [] = [] := by unfold gF; rw [if_pos rfl]
    rw [e, List.map_nil]
    decide
theorem wv_st (g : Gm) : ∀ (n m : Nat) (p : List Int), Par p → p.sum ≤ n → p.sum ≤ m → wv g n p = wv g m p
  | 0, m, p, h, h1, h2 => by rw [sum_nil h h1, wv_nil, wv_nil]
  | n + 1, 0, p, h, h1, h2 => by rw [sum_nil h h2, wv_nil, wv_nil]
  | n + 1, m + 1, p, h, h1, h2 => by
    show mex _ = mex _
    congr 1
    refine List.map_congr_left fun q hq => ?_
    obtain ⟨k1, k2⟩ := moves_par h g hq
    rw [wv_st g n m q k1 (by omega) (by omega)]
theorem par_nn {p : List Int} (h : Par p) : 0 ≤ p.sum := by have := len_sum h.2; omega
theorem Wt_rec (g : Gm) {p : List Int} (h : Par p) : Wt g p = mex ((gF g p).map fun q => ((Wt g q : Nat) : Int)) := by
  have h0 := par_nn h
  unfold Wt
  rw [wv_st g p.sum.toNat (p.sum.toNat + 1) p h (by omega) (by omega)]
  show mex _ = mex _
  congr 1
  refine List.map_congr_left fun q hq => ?_
  obtain ⟨k1, k2⟩ := moves_par h g hq
  have h1 := par_nn k1
  rw [wv_st g p.sum.toNat q.sum.toNat q k1 (by omega) (by omega)]
theorem Wt_turn (g : Gm) (hg : g ≠ .h) : ∀ (n : Nat) {p : List Int}, Par p → p.sum ≤ n → Wt g (turnI p) = Wt g p
  | 0, p, h, hs => by rw [sum_nil h hs]; rfl
  | n + 1, p, h, hs => by
    have ht := turn_par h.fall
    rw [Wt_rec g ht, Wt_rec g h]
    refine mex_congr fun x => ?_
    rw [List.mem_map, List.mem_map]
    constructor
    · rintro ⟨q, hq, rfl⟩
      have k := turn_moves ht g hg hq
      rw [turn_turn h] at k
      obtain ⟨k1, k2⟩ := moves_par h g k
      refine ⟨turnI q, k, ?_⟩
      have := Wt_turn g hg n k1 (by omega)
      rw [turn_turn (moves_par ht g hq).1] at this
      rw [this]
    · rintro ⟨q, hq, rfl⟩
      have k := turn_moves h g hg hq
      obtain ⟨k1, k2⟩ := moves_par h g hq
      exact ⟨turnI q, k, by rw [Wt_turn g hg n k1 (by omega)]⟩
/-! all ways -/
def ways : Nat → Nat → Nat → List (List Int)
  | 0, _, _ => []
  | f + 1, s, t => if s = 0 then [[]] else ((List.range (min s t)).reverse).flatMap fun k => (ways f (s - (k + 1)) (k + 1)).map fun r => ((k + 1 : Nat) : Int) :: r
theorem ways_par : ∀ (f s t : Nat) (p : List Int), p ∈ ways f s t → Par p ∧ p.sum = s ∧ ∀ x ∈ p, x ≤ t
  | 0, _, _, _, h => nomatch h
  | f + 1, s, t, p, h => by
    unfold ways at h
    split at h
    · rename_i hs
      rw [List.mem_singleton] at h
      subst h
      exact ⟨⟨List.Pairwise.nil, fun x hx => nomatch hx⟩, by rw [hs]; rfl, fun x hx => nomatch hx⟩
    · obtain ⟨k, hk, h⟩ := List.mem_flatMap.mp h
      obtain ⟨r, hr, rfl⟩ := List.mem_map.mp h
      rw [List.mem_reverse, List.mem_range] at hk
      obtain ⟨k1, k2, k3⟩ := ways_par f _ _ r hr
      refine ⟨⟨List.pairwise_cons.mpr ⟨fun x hx => k3 x hx, k1.1⟩, fun x hx => ?_⟩, ?_, fun x hx => ?_⟩
      · rcases List.mem_cons.mp hx with rfl | hx
        · omega
        · exact k1.2 x hx
      · rw [List.sum_cons, k2]; omega
      · rcases List.mem_cons.mp hx with rfl | hx
        · omega
        · have := k3 x hx; omega
theorem par_tail {a : Int} {l : List Int} (h : Par (a :: l)) : Par l ∧ 1 ≤ a ∧ ∀ x ∈ l, x ≤ a :=
  ⟨⟨(List.pairwise_cons.mp h.1).2, fun x hx => h.2 x (List.mem_cons_of_mem _ hx)⟩, h.2 a List.mem_cons_self, fun x hx => (List.pairwise_cons.mp h.1).1 x hx⟩
theorem mem_ways : ∀ (p : List Int) (f s t : Nat), Par p → p.sum = s → (∀ x ∈ p, x ≤ t) → s < f → p ∈ ways f s t
  | p, 0, _, _, _, _, _, h => absurd h (Nat.not_lt_zero _)
  | [], f + 1, s, t, _, hs, _, _ => by
    have : s = 0 := by
      have : (0 : Int) = s := hs
      omega
    unfold ways
    rw [if_pos this]
    exact List.mem_singleton.mpr rfl
  | a :: l, f + 1, s, t, h, hs, ht, hf => by
    obtain ⟨h1, h2, h3⟩ := par_tail h
    have h0 := par_nn h1
    rw [List.sum_cons] at hs
    have hat := ht a List.mem_cons_self
    unfold ways
    rw [if_neg (by omega), List.mem_flatMap]
    refine ⟨a.toNat - 1, by rw [List.mem_reverse, List.mem_range]; omega, List.mem_map.mpr ⟨l, mem_ways l f _ _ h1 (by omega) (fun x hx => by have := h3 x hx; omega) (by omega), ?_⟩⟩
    congr 1
    omega
def AP : List (List Int) := (List.range 25).flatMap fun s => ways 25 s s
theorem AP_len : AP.length ≤ 10000 := by decide +kernel
theorem mem_AP {p : List Int} (h : Par p) (hs : p.sum ≤ 24) : p ∈ AP := by
  have h0 := par_nn h
  unfold AP
  rw [List.mem_flatMap]
  exact ⟨p.sum.toNat, by rw [List.mem_range]; omega, mem_ways p _ _ _ h (by omega) (fun x hx => by have := le_sum h.fall.2 x hx; omega) (by omega)⟩
/-! a dict of what was told -/
def GK (F : List (List Int)) : Prop := F.Nodup ∧ ∀ k ∈ F, Par k ∧ k.sum ≤ 24
theorem GK.len {F : List (List Int)} (h : GK F) : F.length ≤ 10000 := Nat.le_trans (nodup_len F AP h.1 fun k hk => mem_AP (h.2 k hk).1 (h.2 k hk).2) AP_len
def dV (v : List Int → D) (F : List (List Int)) : List (D × D) := F.map fun k => (tupD k, v k)
theorem dV_any (v : List Int → D) (F : List (List Int)) (k : List Int) : ((dV v F).any fun p => eqD p.1 (tupD k)) = decide (k ∈ F) := by
  unfold dV
  rw [List.any_map, Bool.eq_iff_iff, List.any_eq_true, decide_eq_true_eq]
  constructor
  · rintro ⟨x, hx, h⟩
    have h : eqD (tupD x) (tupD k) = true := h
    rw [eqD_tup, decide_eq_true_eq] at h
    exact h ▸ hx
  · intro h
    exact ⟨k, h, by show eqD (tupD k) (tupD k) = true; rw [eqD_tup, decide_eq_true rfl]⟩
theorem dV_find (v : List Int → D) : ∀ (F : List (List Int)) (k : List Int), dfind (dV v F) (tupD k) = if k ∈ F then some (v k) else none
  | [], k => rfl
  | a :: F, k => by
    show dfind ((tupD a, v a) :: dV v F) (tupD k) = _
    unfold dfind
    rw [eqD_tup]
    by_cases h : a = k
    · subst h
      simp
    · rw [decide_eq_false h, if_neg (by simp), dV_find v F k]
      simp [Ne.symm h]
theorem dV_ok (v : List Int → D) (F : List (List Int)) (k : List Int) : okK (dV v F) (tupD k) = true := by
  cases F with
  | nil =>
    show (kindD (tupD k) != 0) = true
    rw [kind_tup]; rfl
  | cons a F =>
    show (kindD (tupD k) != 0 && kindD (tupD a) == kindD (tupD k)) = true
    rw [kind_tup, kind_tup]; rfl
theorem dV_put (v : List Int → D) (F : List (List Int)) (k : List Int) : dputD (dV v F) (tupD k) (v k) = dV v (if k ∈ F then F else F ++ [k]) := by
  unfold dputD
  rw [dV_any]
  by_cases h : k ∈ F
  · rw [if_pos (decide_eq_true h), if_pos h]
    unfold dV
    rw [List.map_map]
    refine List.map_congr_left fun a _ => ?_
    show (if eqD (tupD a) (tupD k) = true then (tupD a, v k) else (tupD a, v a)) = (tupD a, v a)
    rw [eqD_tup]
    by_cases ha : a = k
    · subst ha; simp
    · simp [ha]
  · rw [if_neg (by simp [h]), if_neg h]
    unfold dV
    rw [List.map_append]; rfl
theorem GK.add {F : List (List Int)} (h : GK F) {k : List Int} (hk : Par k) (hs : k.sum ≤ 24) : GK (if k ∈ F then F else F ++ [k]) ∧ k ∈ (if k ∈ F then F else F ++ [k]) := by
  by_cases hm : k ∈ F
  · rw [if_pos hm]; exact ⟨h, hm⟩
  · rw [if_neg hm]
    refine ⟨⟨List.nodup_append.mpr ⟨h.1, by simp, fun x hx y hy e => ?_⟩, fun x hx => ?_⟩, List.mem_append_right _ (List.mem_singleton.mpr rfl)⟩
    · rw [List.mem_singleton] at hy
      exact hm (by rw [← hy, ← e]; exact hx)
    · rcases List.mem_append.mp hx with hx | hx
      · exact h.2 x hx
      · rw [List.mem_singleton] at hx
        subst hx
        exact ⟨hk, hs⟩
/-! a comprehension that changes a lent dict -/
theorem compGo_st {α St : Type} {vs : List Nat} {g : FG} {f : FE} (R : St → Rho) (P : St → Prop) (e val : α → D) : ∀ (l : List α),
    (∀ a ∈ l, ∀ F, P F → ∃ ρ1 F' ρ2 r, g (e a) (R F) = some ρ1 ∧ f ρ1 = some (r, ρ2) ∧ stl r = .pu (val a) ∧ wipeR vs ρ2 = R F' ∧ P F') →
    ∀ (F : St) (ρ : Rho), wipeR vs ρ = R F → P F → ∃ ρ' F', compGo vs g tYes f (l.map e) ρ = some (l.map val, ρ') ∧ wipeR vs ρ' = R F' ∧ P F'
  | [], _, F, ρ, h, hP => ⟨ρ, F, rfl, h, hP⟩
  | a :: l, k, F, ρ, h, hP => by
    obtain ⟨ρ1, F1, ρ2, r, k1, k2, k3, k4, k5⟩ := k a List.mem_cons_self F hP
    obtain ⟨ρ', F', e1, e2, e3⟩ := compGo_st R P e val l (fun b hb => k b (List.mem_cons_of_mem _ hb)) F1 ρ2 k4 k5
    refine ⟨ρ', F', ?_, e2, e3⟩
    rw [List.map_cons]
    unfold compGo
    rw [h, k1]
    simp only [Option.bind_some, ev_yes, if_true, k2, k3, e1]
    rfl
theorem cLc_st {α St : Type} {v : Nat} {it : FI} {g : FG} {f : FE} {ρ : Rho} (R : St → Rho) (P : St → Prop) (e val : α → D) (l : List α) (F : St) (hi : it ρ = some (l.map e, ρ)) (hv : ρ[v]? = some .non) (hR : wipeR [v] ρ = R F) (hP : P F)
    (k : ∀ a ∈ l, ∀ F, P F → ∃ ρ1 F' ρ2 r, g (e a) (R F) = some ρ1 ∧ f ρ1 = some (r, ρ2) ∧ stl r = .pu (val a) ∧ wipeR [v] ρ2 = R F' ∧ P F') (hz : l.length ≤ lineN) :
    ∃ F', cLc [v] it g tYes f ρ = some (.nw (.list (l.map val)), R F') ∧ P F' := by
  obtain ⟨ρ', F', e1, e2, e3⟩ := compGo_st R P e val l k F ρ hR hP
  refine ⟨F', ?_, e3⟩
  have ok : okW [v] ρ = true := by
    show ([v].all fun v => plainS ρ[v]?) = true
    rw [List.all_cons, hv]; rfl
  unfold cLc
  simp only [hi, Option.bind_some, ok, if_true, e1]
  rw [if_pos (by rw [List.length_map]; exact hz)]
  have er : rst [v] ρ ρ' = wipeR [v] ρ' := by
    show (match ρ[v]? with
      | some s => (rst [] ρ ρ').set v s
      | none => rst [] ρ ρ') = _
    rw [hv]; rfl
  rw [er, e2]
end PL

namespace PL
open PySem PySem.Spec PyProof.Rows L2
/-! k75: the program's worths -/
theorem nub_le : ∀ l : List (List Int), (nubL l).length ≤ l.length
  | [] => Nat.le_refl _
  | a :: l => by
    have := nub_le l
    unfold nubL
    split <;> simp only [List.length_cons] <;> omega
/-- the moves as a list -/
theorem mv_list {p : List Int} (h : Par p) (g : Gm) (hs : p.sum ≤ 60) : ∃ M : List (List Int), MV g p = M.map tupD ∧ (∀ x, x ∈ M ↔ x ∈ gF g p) ∧ M.length < 64 := by
  obtain ⟨M, hM, e⟩ := srtD_lift (nubL (gF g p))
  refine ⟨M, e, fun x => by rw [hM.mem_iff, nubL_mem], ?_⟩
  have := hM.length_eq
  have := nub_le (gF g p)
  have := moves_few h g hs
  omega
def vW (g : Gm) (k : List Int) : D := nD (Wt g k)
def ρN (p : List Int) (F : List (List Int)) : Rho := [.pu (tupD p), .io (.dict (dV (vW .l) F)), .non]
theorem notin_ev {i : Nat} {k : FE} {ρ ρ1 : Rho} {p : List Int} {v : List Int → D} {F : List (List Int)} (h : k ρ = some (.pu (tupD p), ρ1)) (hc : dcont ρ1 i = some (dV v F)) : tBl (cDIn true k i) ρ = some (!decide (p ∈ F), ρ1) := by
  have q := cDIn_own true h hc (dV_ok v F p)
  rw [dV_any] at q
  have e : (true ^^ decide (p ∈ F)) = !decide (p ∈ F) := by simp
  rw [e] at q
  exact tBl_eq q
theorem nat_ints (l : List (List Int)) (g : Gm) : (l.map (vW g)) = (l.map fun q => ((Wt g q : Nat) : Int)).map PyData.int := by
  rw [List.map_map]; rfl
theorem mex_M {p : List Int} (h : Par p) {g : Gm} {M : List (List Int)} (hm : ∀ x, x ∈ M ↔ x ∈ gF g p) : mex (M.map fun q => ((Wt g q : Nat) : Int)) = Wt g p := by
  rw [Wt_rec g h]
  exact mex_congr fun x => by simp only [List.mem_map, hm]
theorem lines_ev : ∀ (n : Nat) (p : List Int) (F : List (List Int)), Par p → p.sum < n → p.sum ≤ 24 → GK F → ∃ F', GK F' ∧ r_lines_worth n [.v (tupD p), .m (.dict (dV (vW .l) F))] = some (.pu (vW .l p), [.dict (dV (vW .l) F')])
  | 0, p, F, h, hn, _, _ => by have := par_nn h; omega
  | n + 1, p, F, h, hn, hs, hF => by
    have e1 : tBl (cDIn true (cVar 0) 1) (ρN p F) = some (!decide (p ∈ F), ρN p F) := notin_ev rfl rfl
    have last : ∀ F', GK F' → p ∈ F' → sRet (cDGet 1 (cVar 0)) (ρN p F') = some (.rt (.pu (vW .l p)) (ρN p F')) := fun F' _ hm => by
      refine sRet_eq (cDGet_pu (kd := tupD p) rfl rfl (dV_ok _ _ _) ?_)
      rw [dV_find, if_pos hm]
    by_cases hp : p ∈ F
    · rw [decide_eq_true hp] at e1
      refine ⟨F, hF, ?_⟩
      have e2 : b_lines_worth (r_lines_worth n) (ρN p F) = some (.rt (.pu (vW .l p)) (ρN p F)) := (sSeq_nx ((sIf_f e1).trans rfl)).trans (last F hF hp)
      exact run_rt rfl rfl e2 rfl
    · rw [decide_eq_false hp] at e1
      obtain ⟨M, eM, hM, lM⟩ := mv_list h .l (by omega)
      have hb := fits_bd (par_fits h (by omega))
      have em := e_moves_in .l p hb (moves_few h .l (by omega))
      rw [eM] at em
      obtain ⟨F1, c1, c2⟩ := cLc_st (v := 2) (it := iE (cCall m_moves_in (aCons (cC (.str (Str.ofString "lines"))) (aCons (cVar 0) aNil)))) (g := gN 2) (f := cCall (r_lines_worth n) (aCons (cVar 2) (aCons (cVar 1) aNil))) (ρ := ρN p F) (ρN p) GK tupD (vW .l) M F
        (iE_nw (cCall_args (args_pu rfl (args_pu rfl args_nil)) em) rfl) rfl rfl hF (fun q hq F hF => by
          obtain ⟨k1, k2⟩ := moves_par h .l ((hM q).mp hq)
          obtain ⟨F', g1, g2⟩ := lines_ev n q F k1 (by omega) (by omega) hF
          refine ⟨[.pu (tupD p), .io (.dict (dV (vW .l) F)), .pu (tupD q)], F', [.pu (tupD p), .io (.dict (dV (vW .l) F')), .pu (tupD q)], .pu (vW .l q), rfl, ?_, rfl, rfl, g1⟩
          unfold cCall
          show (if [1].Nodup then (r_lines_worth n [.v (tupD q), .m (.dict (dV (vW .l) F))]).bind _ else none) = _
          rw [if_pos (by decide), g2]
          rfl) (line_le (by omega))
      rw [nat_ints] at c1
      have e3 := e_least (M.map fun q => ((Wt .l q : Nat) : Int)) (by rw [List.length_map]; omega)
      rw [mex_M h hM] at e3
      have e4 : cCall m_least_beside (aCons (cLc [2] (iE (cCall m_moves_in (aCons (cC (.str (Str.ofString "lines"))) (aCons (cVar 0) aNil)))) (gN 2) tYes (cCall (r_lines_worth n) (aCons (cVar 2) (aCons (cVar 1) aNil)))) aNil) (ρN p F) = some (.pu (vW .l p), ρN p F1) := cCall_args (args_nw c1 args_nil) e3
      obtain ⟨a1, a2⟩ := c2.add h hs
      refine ⟨_, a1, ?_⟩
      have e5 : sDSet 1 (cVar 0) (cCall m_least_beside (aCons (cLc [2] (iE (cCall m_moves_in (aCons (cC (.str (Str.ofString "lines"))) (aCons (cVar 0) aNil)))) (gN 2) tYes (cCall (r_lines_worth n) (aCons (cVar 2) (aCons (cVar 1) aNil)))) aNil)) (ρN p F) = some (.nx (ρN p (if p ∈ F1 then F1 else F1 ++ [p]))) := by
        refine sDSet_pu (kd := tupD p) e4 rfl rfl (dV_ok _ _ _) (line_lt (by
          have := c2.len
          unfold dV
          rw [List.length_map]; omega)) ?_
        rw [dV_put (vW .l) F1 p]
        rfl
      have e2 : b_lines_worth (r_lines_worth n) (ρN p F) = some (.rt (.pu (vW .l p)) (ρN p (if p ∈ F1 then F1 else F1 ++ [p]))) := (sSeq_nx ((sIf_t e1).trans e5)).trans (last _ a1 a2)
      exact run_rt rfl rfl e2 rfl
/-! each game's worth -/
def natL (p : List Int) : List Nat := p.map Int.toNat
theorem natL_eq {p : List Int} (h : ∀ x ∈ p, 0 ≤ x) : p = (natL p).map fun n : Nat => (n : Int) := by
  unfold natL
  rw [List.map_map]
  have e : ∀ x ∈ p, ((fun n : Nat => (n : Int)) ∘ Int.toNat) x = x := fun x hx => by have := h x hx; show ((x.toNat : Nat) : Int) = x; omega
  rw [List.map_congr_left e, List.map_id']
def FW (g : Gm) (p : List Int) : Nat := match g with
  | .h => xorN (natL p)
  | .r => rimW p
  | .e => edgW p
  | .l => Wt .l p
def ρQ (g : Gm) (p : List Int) (F : List (List Int)) : Rho := [.pu (.str (gS g)), .pu (tupD p), .io (.dict (dV (vW .l) F)), .non]
theorem wig_ev (g : Gm) (p : List Int) (F : List (List Int)) (h : Par p) (hs : p.sum ≤ 300) (hl : g = .l → p.sum ≤ 24) (hF : GK F) : ∃ F', GK F' ∧ m_worth_in_game [.v (.str (gS g)), .v (tupD p), .m (.dict (dV (vW .l) F))] = some (.pu (nD (FW g p)), [.dict (dV (vW .l) F')]) := by
  have th : tBl (cOp2 opEq (cVar 0) (cC (.str (Str.ofString "heights")))) (ρQ g p F) = some (eqG g .h, ρQ g p F) := tBl_eq (cOp2_pu rfl rfl (eqG_ev g .h))
  have tr : tBl (cOp2 opEq (cVar 0) (cC (.str (Str.ofString "rims")))) (ρQ g p F) = some (eqG g .r, ρQ g p F) := tBl_eq (cOp2_pu rfl rfl (eqG_ev g .r))
  have te : tBl (cOp2 opEq (cVar 0) (cC (.str (Str.ofString "edges")))) (ρQ g p F) = some (eqG g .e, ρQ g p F) := tBl_eq (cOp2_pu rfl rfl (eqG_ev g .e))
  cases g with
  | h =>
    refine ⟨F, hF, ?_⟩
    have q := e_sumF (tupD p) p rfl
    have ex : xorL p = ((xorN (natL p) : Nat) : Int) := by
      have z := natL_eq h.fall.2
      have w := xorL_nat (natL p)
      rw [← z] at w
      exact w
    rw [ex] at q
    have e2 : b_worth_in_game (ρQ .h p F) = some (.rt (.pu (nD (FW .h p))) (ρQ .h p F)) := sSeq_rt ((sIf_t th).trans (sRet_eq (cCall_args (args_pu rfl args_nil) q)))
    exact run_rt rfl rfl e2 rfl
  | r =>
    refine ⟨F, hF, ?_⟩
    have hk := sqs_le h hs
    have c := cLc_map (vs := [3]) (it := iE (cCall m_hooks_in (aCons (cVar 1) aNil))) (g := gN 3) (f := cOp2 opXor (cVar 3) (cOp2 opSub (cVar 3) (cC (.int 1)))) (ρ := ρQ .r p F) (e := iD) (l := srtDn (HKI p)) (fun x => iD (Builtin.bitXor x (x - 1)))
      (iE_pu (cCall_args (args_pu rfl args_nil) (e_hooks_in h hs)) rfl) rfl (fun x _ => ⟨[.pu (.str (gS .r)), .pu (tupD p), .io (.dict (dV (vW .l) F)), .pu (iD x)], _, rfl, rfl, cOp2_pu (a := cVar 3) (op := opXor) rfl (cOp2_pu (a := cVar 3) (b := cC (.int 1)) (op := opSub) rfl rfl rfl) rfl, rfl⟩) (line_le (by
        rw [(srtDn_perm _).length_eq]
        unfold HKI
        rw [List.length_map]; omega))
    have e1 : ((srtDn (HKI p)).map fun x => iD (Builtin.bitXor x (x - 1))) = ((srtDn (HKI p)).map fun x => Builtin.bitXor x (x - 1)).map .int := by rw [List.map_map]; rfl
    rw [e1] at c
    have q := e_sumF (.list (((srtDn (HKI p)).map fun x => Builtin.bitXor x (x - 1)).map .int)) _ rfl
    rw [rim_xor h] at q
    have e2 : b_worth_in_game (ρQ .r p F) = some (.rt (.pu (nD (FW .r p))) (ρQ .r p F)) := (sSeq_nx ((sIf_f th).trans rfl)).trans (sSeq_rt ((sIf_t tr).trans (sRet_eq (cCall_args (args_nw c args_nil) q))))
    exact run_rt rfl rfl e2 rfl
  | e =>
    refine ⟨F, hF, ?_⟩
    have e2 : b_worth_in_game (ρQ .e p F) = some (.rt (.pu (nD (FW .e p))) (ρQ .e p F)) := (sSeq_nx ((sIf_f th).trans rfl)).trans ((sSeq_nx ((sIf_f tr).trans rfl)).trans (sSeq_rt ((sIf_t te).trans (sRet_eq (cCall_args (args_pu rfl args_nil) (e_edges h hs))))))
    exact run_rt rfl rfl e2 rfl
  | l =>
    have hl := hl rfl
    obtain ⟨F', h1, h2⟩ := lines_ev 26 p F h (by omega) (by omega) hF
    refine ⟨F', h1, ?_⟩
    have tg : tBl (cOp2 opGt (cOpA fSum (aCons (cVar 1) aNil)) (cC (.int 24))) (ρQ .l p F) = some (false, ρQ .l p F) := by
      have q := tBl_eq (cOp2_pu (ρ := ρQ .l p F) (op := opGt) (cOpA_args (args_pu (a := cVar 1) rfl args_nil) (fSum_t p)) (b := cC (.int 24)) rfl rfl)
      have e : decide ((24 : Int) < p.sum) = false := decide_eq_false (by omega)
      rw [e] at q
      exact q
    have ec : cCall m_lines_worth (aCons (cVar 1) (aCons (cVar 2) aNil)) (ρQ .l p F) = some (.pu (nD (FW .l p)), ρQ .l p F') := by
      unfold cCall
      show (if [2].Nodup then (m_lines_worth [.v (tupD p), .m (.dict (dV (vW .l) F))]).bind _ else none) = _
      rw [if_pos (by decide)]
      show ((r_lines_worth 26 [.v (tupD p), .m (.dict (dV (vW .l) F))]).bind _) = _
      rw [h2]
      rfl
    have e2 : b_worth_in_game (ρQ .l p F) = some (.rt (.pu (nD (FW .l p))) (ρQ .l p F')) := (sSeq_nx ((sIf_f th).trans rfl)).trans ((sSeq_nx ((sIf_f tr).trans rfl)).trans ((sSeq_nx ((sIf_f te).trans rfl)).trans ((sSeq_nx ((sIf_f tg).trans rfl)).trans (sRet_eq ec))))
    exact run_rt rfl rfl e2 rfl
theorem cCallD_args {m : Mir} {as : FA} {fd : FD} {ρ ρ1 ρ2 : Rho} {xs : List D} {kvs : List (D × D)} {d' : D} {r : Vl} (h : Args as ρ xs ρ1) (hd : fd ρ1 = some (kvs, ρ2)) (hm : m (xs.map .v ++ [.m (.dict kvs)]) = some (r, [d'])) : cCallD m as fd ρ = some (r, ρ2) := by
  have h' : as ρ = some (xs.map .pu, ρ1) := h
  unfold cCallD
  rw [h', Option.bind_some]
  simp only [hd, Option.bind_some, toArs_pus, slotsOf_pus]
  rw [if_pos (by simp), hm]
  rfl
theorem e_game_worth (g : Gm) (p : List Int) (h : Par p) (hs : p.sum ≤ 300) (hl : g = .l → p.sum ≤ 24) : m_game_worth [.v (.str (gS g)), .v (tupD p)] = some (.pu (nD (FW g p)), []) := by
  obtain ⟨F', _, e⟩ := wig_ev g p [] h hs hl ⟨List.nodup_nil, fun k hk => nomatch hk⟩
  have e2 : b_game_worth [.pu (.str (gS g)), .pu (tupD p)] = some (.rt (.pu (nD (FW g p))) [.pu (.str (gS g)), .pu (tupD p)]) :=
    (sSeq_nx (sExp_eq (cCall_args (args_pu rfl (args_pu rfl args_nil)) (e_need_gp g p (par_fits h hs))))).trans (sRet_eq (cCallD_args (xs := [.str (gS g), tupD p]) (args_pu rfl (args_pu rfl args_nil)) rfl e))
  exact run_rt rfl rfl e2 rfl
theorem e_is_won (g : Gm) (p : List Int) (h : Par p) (hs : p.sum ≤ 300) (hl : g = .l → p.sum ≤ 24) : m_is_won [.v (.str (gS g)), .v (tupD p)] = some (.pu (.bool (decide (0 < FW g p))), []) := by
  obtain ⟨F', _, e⟩ := wig_ev g p [] h hs hl ⟨List.nodup_nil, fun k hk => nomatch hk⟩
  have e2 : b_is_won [.pu (.str (gS g)), .pu (tupD p)] = some (.rt (.pu (.bool (decide (0 < FW g p)))) [.pu (.str (gS g)), .pu (tupD p)]) :=
    (sSeq_nx (sExp_eq (cCall_args (args_pu rfl (args_pu rfl args_nil)) (e_need_gp g p (par_fits h hs))))).trans (sRet_eq (cOp2_pu (cCallD_args (xs := [.str (gS g), tupD p]) (args_pu rfl (args_pu rfl args_nil)) rfl e) (b := cC (.int 0)) rfl (gtN _ 0)))
  exact run_rt rfl rfl e2 rfl
end PL

namespace PL
open PySem PySem.Spec PyProof.Rows L2
/-! k75: the law's hooks, edges -/
theorem e_law_hook {p : List Int} (h : Par p) (hs : p.sum ≤ 300) {r c : Nat} (hq : sq p r c) : m__law_hook [.v (tupD p), .v (nD r), .v (nD c)] = some (.pu (nD (hkN p r c)), []) := by
  have hb := fits_bd (par_fits h hs)
  have hr := sq_len hq
  have g : p[r]? = some (p.getD r 0) := by rw [List.getD_eq_getElem?_getD, List.getElem?_eq_getElem hr]; rfl
  have l := cLc_of (vs := [3]) (it := iE (cSl mk opSl (cVar 0) (oSo (cOp2n opAdd (cVar 1) (cC (.int 1)))) oNo)) (g := gN 3) (t := tBl (cOp2 opGt (cVar 3) (cVar 2))) (f := cVar 3) (ρ := [.pu (tupD p), .pu (nD r), .pu (nD c), .non]) (e := iD) (l := p.drop (r + 1)) (fun h => decide ((c : Int) < h)) iD
    (iE_pu (x := tupD (p.drop (r + 1))) (cSl_pu' rfl (oSo_pu (i := ((r + 1 : Nat) : Int)) (cOp2n_pu' rfl rfl rfl)) rfl (sl_fromT p (r + 1))) rfl) rfl
    (fun x _ => ⟨[.pu (tupD p), .pu (nD r), .pu (nD c), .pu (.int x)], rfl, rfl, tBl_eq (cOp2_pu rfl rfl rfl), fun _ => ⟨_, rfl, rfl⟩⟩) (line_le (by
      have := hb.1
      rw [List.length_drop]; omega))
  have e1 := cOpA_args (op := fLen) (args_nw l args_nil) (fLen_l _)
  rw [List.length_map, ← List.countP_eq_length_filter] at e1
  have e2 := cOp2n_pu' (op := opAdd) (ρ := [.pu (tupD p), .pu (nD r), .pu (nD c), .non]) (cOp2_pu (op := opSub) (cOp2_pu (a := cVar 0) (b := cVar 1) rfl rfl (ix_T p r _ g)) (b := cVar 2) rfl rfl) e1 rfl (v := .pu (.int (p.getD r 0 - c + (leg p r c : Nat)))) rfl
  rw [← hk_leg h hq, ← hk_nat h hq] at e2
  exact run_rt rfl rfl (sRet_eq e2) rfl
def pwf : Nat → Nat → Nat → Nat
  | 0, _, p => p
  | f + 1, h, p => if h % p = 0 then pwf f h (2 * p) else p
def pw (h : Nat) : Nat := pwf 12 h 2
theorem pw_all : ((List.range 601).all fun h => h == 0 || (h % pw h != 0 && pw h - 1 == h ^^^ (h - 1) && decide (1 ≤ pw h))) = true := by decide +kernel
theorem pw_ok {h : Nat} (h1 : 1 ≤ h) (h2 : h ≤ 600) : h % pw h ≠ 0 ∧ pw h - 1 = h ^^^ (h - 1) ∧ 1 ≤ pw h := by
  have q := List.all_eq_true.mp pw_all h (List.mem_range.mpr (by omega))
  have h0 : (h == 0) = false := by rw [beq_eq_false_iff_ne]; omega
  rw [h0, Bool.false_or, Bool.and_eq_true, Bool.and_eq_true, decide_eq_true_eq, bne_iff_ne, beq_iff_eq] at q
  exact ⟨q.1.1, q.1.2, q.2⟩
def tsPw : FT := (tBl (cOp2 opEq (cOp2 opMod (cOpA fInt (aCons (cVar 7) aNil)) (cVar 8)) (cC (.int 0))))
def bdPw : FS := (sAsg 8 (cOp2n opMul (cC (.int 2)) (cVar 8)))
theorem pw_loop (R : Nat → Rho) (h : Nat) (h7 : ∀ x, cVar 7 (R x) = some (.pu (nD h), R x)) (h8 : ∀ x, cVar 8 (R x) = some (.pu (nD x), R x)) (hset : ∀ x y, setS 8 (.pu (nD y)) (R x) = some (R y)) :
    ∀ (f p F : Nat), 0 < p → h % pwf f h p ≠ 0 → f < F → whileGo tsPw bdPw F (R p) = some (.nx (R (pwf f h p))) := by
  intro f
  have test : ∀ p, 0 < p → tsPw (R p) = some (h % p == 0, R p) := fun p hp => by
    have q := tBl_eq (cOp2_pu (op := opEq) (cOp2_pu (op := opMod) (cOpA_args (args_pu (h7 p) args_nil) (fInt_i _)) (h8 p) (modI _ (p : Nat) (by omega))) (b := cC (.int 0)) rfl (opEq_int _ 0))
    have e : (((h : Nat) : Int) % (p : Nat) == 0) = (h % p == 0) := by
      rw [Bool.eq_iff_iff, beq_iff_eq, beq_iff_eq]
      omega
    rw [e] at q
    exact q
  induction f with
  | zero =>
    intro p F hp hn hF
    obtain ⟨F, rfl⟩ : ∃ G, F = G + 1 := ⟨F - 1, by omega⟩
    unfold whileGo
    have e : (h % p == 0) = false := by rw [beq_eq_false_iff_ne]; exact hn
    rw [test p hp, e]
    rfl
  | succ f ih =>
    intro p F hp hn hF
    obtain ⟨F, rfl⟩ : ∃ G, F = G + 1 := ⟨F - 1, by omega⟩
    unfold whileGo
    rw [test p hp, Option.bind_some]
    by_cases hz : h % p = 0
    · have e : (h % p == 0) = true := by rw [beq_iff_eq]; exact hz
      have ep : pwf (f + 1) h p = pwf f h (2 * p) := by
        show (if h % p = 0 then _ else _) = _
        rw [if_pos hz]
      rw [ep] at hn ⊢
      have hb : bdPw (R p) = some (.nx (R (2 * p))) := by
        have q := cOp2n_pu' (op := opMul) (ρ := R p) (a := cC (.int 2)) rfl (h8 p) (mulI 2 (p : Nat) (.inl (by decide))) (v := .pu (.int (2 * (p : Nat)))) rfl
        have e : (2 : Int) * (p : Nat) = ((2 * p : Nat) : Int) := by rw [Int.natCast_mul]; rfl
        rw [e] at q
        exact sAsg_pu q (hset p (2 * p))
      simp only [e, if_true, hb, Option.bind_some]
      exact ih (2 * p) F (by omega) hn (by omega)
    · have e : (h % p == 0) = false := by rw [beq_eq_false_iff_ne]; exact hz
      have ep : pwf (f + 1) h p = p := by
        show (if h % p = 0 then _ else _) = _
        rw [if_neg hz]
      rw [ep, e]
      rfl
theorem hk_le {p : List Int} (h : Par p) (hs : p.sum ≤ 300) {r c : Nat} (hq : sq p r c) : hkN p r c ≤ 600 := by
  have hb := fits_bd (par_fits h hs)
  have h1 := hk_nat h hq
  have h2 : p.getD r 0 ≤ 300 := (hb.2 _ (getD_mem (sq_len hq))).2
  have h3 : (turnI p).getD c 0 ≤ 300 := by
    rw [turn_get h.fall]
    have := List.countP_le_length (p := fun x => decide ((c : Int) < x)) (l := p)
    have := hb.1
    omega
  unfold hkI at h1
  omega
/-! the least of some numbers that are not among some -/
theorem eqv_int (a b : Int) : PyData.eqv (.int a) (.int b) = (a == b) := by
  have q := opEq_int a b
  unfold opEq at q
  rw [if_pos (Nat.le_trans (Nat.min_le_left _ _) (by rw [PyData.depth]; omega))] at q
  injection q with q
  injection q
theorem depthAll_ints : ∀ ns : List Int, PyData.depthAll (ns.map .int) = 0
  | [] => rfl
  | n :: ns => by
    rw [List.map_cons, PyData.depthAll, depthAll_ints ns]
    rfl
theorem notin_i (ns : List Int) (k : Nat) : opNotIn (nD k) (.list (ns.map .int)) = some (.bool (outB ns k)) := by
  show (if min (PyData.depthAll (ns.map .int)) (nD k).depth ≤ 64 then some (PyData.bool (true ^^ (ns.map PyData.int).any fun z => PyData.eqv z (nD k))) else none) = _
  rw [if_pos (by rw [depthAll_ints]; exact Nat.le_trans (Nat.min_le_left _ _) (by decide))]
  congr 2
  rw [List.any_map, Bool.true_xor]
  unfold outB
  congr 1
  rw [Bool.eq_iff_iff, List.any_eq_true, List.contains_iff_mem]
  constructor
  · rintro ⟨x, hx, h⟩
    have h : PyData.eqv (.int x) (.int (k : Nat)) = true := h
    rw [eqv_int, beq_iff_eq] at h
    rw [← h]; exact hx
  · intro h
    exact ⟨_, h, by show PyData.eqv (.int (k : Nat)) (.int (k : Nat)) = true; rw [eqv_int]; simp⟩
theorem first_ix (n : Nat) (ns : List Int) (k : Nat) (h : (List.range n).find? (outB ns) = some k) : opIx (.list (((List.range n).filter (outB ns)).map nD)) (.int 0) = some (nD k) := by
  rw [← List.head?_filter] at h
  cases e : (List.range n).filter (outB ns) with
  | nil => rw [e] at h; cases h
  | cons a l =>
    rw [e] at h
    cases (Option.some.inj h)
    exact ix_nat ((k : Int) :: (l.map fun z : Nat => (z : Int))) 0 k rfl |> fun q => by
      have e2 : ((k :: l).map nD) = ((k : Int) :: (l.map fun z : Nat => (z : Int))).map PyData.int := by
        rw [List.map_cons, List.map_cons, List.map_map]; rfl
      rw [e2]
      exact q
/-! the law's edges -/
def vE (p : List Int) (k : List Int) : D := nD (ee p (k.getD 0 0).toNat (k.getD 1 0).toNat)
def kyE (r c : Nat) : List Int := [(r : Int), (c : Int)]
theorem vE_ky (p : List Int) (r c : Nat) : vE p (kyE r c) = nD (ee p r c) := rfl
def ρK (p : List Int) (F : List (List Int)) (s2 s3 s4 : Sl) : Rho := [.pu (tupD p), .own (.dict (dV (vE p) F)), s2, s3, s4, .non]
def kRC : FE := (cTup (aCons (cVar 2) (aCons (cVar 3) aNil)))
def bdE : FS := (sIf (tOr (tBl (cOp2 opEq (cVar 2) (cOpA fLen (aCons (cVar 0) aNil)))) (tBl (cOp2 opGe (cVar 3) (cOp2 opIx (cVar 0) (cVar 2))))) (sDSet 1 kRC (cC (.int 0))) (sSeq (sAsg 4 (cLst (aCons (cDGet 1 (cTup (aCons (cOp2n opAdd (cVar 2) (cC (.int 1))) (aCons (cVar 3) aNil)))) (aCons (cDGet 1 (cTup (aCons (cVar 2) (aCons (cOp2n opAdd (cVar 3) (cC (.int 1))) aNil)))) aNil))))
  (sDSet 1 kRC (cOp2 opIx (cLc [5] (iRg1 (cC (.int 3))) (gN 5) (tBl (cOp2 opNotIn (cVar 5) (cVar 4))) (cVar 5)) (cC (.int 0))))))
def addE (F : List (List Int)) (k : List Int) : List (List Int) := if k ∈ F then F else F ++ [k]
theorem addE_len (F : List (List Int)) (k : List Int) : (addE F k).length ≤ F.length + 1 := by
  unfold addE
  split
  · omega
  · rw [List.length_append]; exact Nat.le_refl _
theorem addE_mem (F : List (List Int)) (k x : List Int) : x ∈ addE F k ↔ x ∈ F ∨ x = k := by
  unfold addE
  split
  · rename_i h
    exact ⟨.inl, fun z => z.elim id fun e => e ▸ h⟩
  · rw [List.mem_append, List.mem_singleton]
theorem kRC_ev (p : List Int) (F : List (List Int)) (r c : Nat) (s4 : Sl) : kRC (ρK p F (.pu (nD r)) (.pu (nD c)) s4) = some (.pu (tupD (kyE r c)), ρK p F (.pu (nD r)) (.pu (nD c)) s4) := cTup_args (args_pu rfl (args_pu rfl args_nil)) (line_le (by show (2 : Nat) ≤ 1000000; decide))
theorem edge_body {p : List Int} (h : Par p) (hs : p.sum ≤ 300) (F : List (List Int)) (r c : Nat) (hr : r ≤ p.length) (s4 : Sl) (h4 : plainS (some s4) = true) (hl : F.length ≤ 99000)
    (hF : sq p r c → kyE (r + 1) c ∈ F ∧ kyE r (c + 1) ∈ F) : ∃ s4', plainS (some s4') = true ∧ bdE (ρK p F (.pu (nD r)) (.pu (nD c)) s4) = some (.nx (ρK p (addE F (kyE r c)) (.pu (nD r)) (.pu (nD c)) s4')) := by
  have t1 : tBl (cOp2 opEq (cVar 2) (cOpA fLen (aCons (cVar 0) aNil))) (ρK p F (.pu (nD r)) (.pu (nD c)) s4) = some (decide (r = p.length), ρK p F (.pu (nD r)) (.pu (nD c)) s4) :=
    tBl_eq (cOp2_pu (a := cVar 2) rfl (cOpA_args (args_pu (a := cVar 0) rfl args_nil) (fLen_t p)) (eqN r p.length))
  have put : ∀ (v : FE) (s : Sl), v (ρK p F (.pu (nD r)) (.pu (nD c)) s) = some (.pu (nD (ee p r c)), ρK p F (.pu (nD r)) (.pu (nD c)) s) → sDSet 1 kRC v (ρK p F (.pu (nD r)) (.pu (nD c)) s) = some (.nx (ρK p (addE F (kyE r c)) (.pu (nD r)) (.pu (nD c)) s)) := fun v s hv => by
    refine sDSet_pu (kd := tupD (kyE r c)) hv (kRC_ev p F r c s) rfl (dV_ok _ _ _) (line_lt (by unfold dV; rw [List.length_map]; omega)) ?_
    rw [← vE_ky p r c, dV_put (vE p) F (kyE r c)]
    rfl
  by_cases hsq : sq p r c
  · have hr2 := sq_len hsq
    have g : p[r]? = some (p.getD r 0) := by rw [List.getD_eq_getElem?_getD, List.getElem?_eq_getElem hr2]; rfl
    have t2 : tBl (cOp2 opGe (cVar 3) (cOp2 opIx (cVar 0) (cVar 2))) (ρK p F (.pu (nD r)) (.pu (nD c)) s4) = some (false, ρK p F (.pu (nD r)) (.pu (nD c)) s4) := by
      have q := tBl_eq (cOp2_pu (op := opGe) (ρ := ρK p F (.pu (nD r)) (.pu (nD c)) s4) (a := cVar 3) rfl (cOp2_pu (a := cVar 0) (b := cVar 2) rfl rfl (ix_T p r _ g)) rfl)
      have e : decide (p.getD r 0 ≤ (c : Int)) = false := decide_eq_false (by unfold sq at hsq; omega)
      rw [e] at q
      exact q
    have nr : decide (r = p.length) = false := decide_eq_false (by omega)
    rw [nr] at t1
    obtain ⟨m1, m2⟩ := hF hsq
    have d1 : cDGet 1 (cTup (aCons (cOp2n opAdd (cVar 2) (cC (.int 1))) (aCons (cVar 3) aNil))) (ρK p F (.pu (nD r)) (.pu (nD c)) s4) = some (.pu (nD (ee p (r + 1) c)), ρK p F (.pu (nD r)) (.pu (nD c)) s4) := by
      refine cDGet_pu (kd := tupD (kyE (r + 1) c)) (kvs := dV (vE p) F) (cTup_args (args_pu (cOp2n_pu' (r := nD (r + 1)) rfl rfl rfl) (args_pu rfl args_nil)) (line_le (by show (2 : Nat) ≤ 1000000; decide))) rfl (dV_ok _ _ _) ?_
      rw [dV_find, if_pos m1, vE_ky]
    have d2 : cDGet 1 (cTup (aCons (cVar 2) (aCons (cOp2n opAdd (cVar 3) (cC (.int 1))) aNil))) (ρK p F (.pu (nD r)) (.pu (nD c)) s4) = some (.pu (nD (ee p r (c + 1))), ρK p F (.pu (nD r)) (.pu (nD c)) s4) := by
      refine cDGet_pu (kd := tupD (kyE r (c + 1))) (kvs := dV (vE p) F) (cTup_args (args_pu rfl (args_pu (cOp2n_pu' (r := nD (c + 1)) rfl rfl rfl) args_nil)) (line_le (by show (2 : Nat) ≤ 1000000; decide))) rfl (dV_ok _ _ _) ?_
      rw [dV_find, if_pos m2, vE_ky]
    let B : List Int := [((ee p (r + 1) c : Nat) : Int), ((ee p r (c + 1) : Nat) : Int)]
    have e1 : sAsg 4 (cLst (aCons (cDGet 1 (cTup (aCons (cOp2n opAdd (cVar 2) (cC (.int 1))) (aCons (cVar 3) aNil)))) (aCons (cDGet 1 (cTup (aCons (cVar 2) (aCons (cOp2n opAdd (cVar 3) (cC (.int 1))) aNil)))) aNil))) (ρK p F (.pu (nD r)) (.pu (nD c)) s4) = some (.nx (ρK p F (.pu (nD r)) (.pu (nD c)) (.pu (.list (B.map .int))))) :=
      sAsg_nw (cLst_args (args_pu d1 (args_pu d2 args_nil)) (line_le (by show (2 : Nat) ≤ 1000000; decide))) (by rcases plain_or h4 with rfl | ⟨d, rfl⟩ <;> rfl)
    have c1 := cLc_of (vs := [5]) (it := iRg1 (cC (.int 3))) (g := gN 5) (t := tBl (cOp2 opNotIn (cVar 5) (cVar 4))) (f := cVar 5) (ρ := ρK p F (.pu (nD r)) (.pu (nD c)) (.pu (.list (B.map .int)))) (e := nD) (l := List.range 3) (outB B) nD
      (by rw [iRg1_eq (j := 3) rfl (by decide), intsD_zero]; rfl) rfl (fun k _ => ⟨[.pu (tupD p), .own (.dict (dV (vE p) F)), .pu (nD r), .pu (nD c), .pu (.list (B.map .int)), .pu (nD k)], rfl, rfl, tBl_eq (cOp2_pu (a := cVar 5) (b := cVar 4) rfl rfl (notin_i B k)), fun _ => ⟨_, rfl, rfl⟩⟩) (line_le (by show (3 : Nat) ≤ 1000000; decide))
    have fi := first_ix 3 B (mex B) (mex_spec B).2.2.2
    have em : mex B = ee p r c := by rw [ee_rec p r c, if_pos hsq]; rfl
    rw [em] at fi
    refine ⟨.pu (.list (B.map .int)), rfl, ?_⟩
    exact (sIf_f (tOr_ff t1 t2)).trans ((sSeq_nx e1).trans (put _ _ (cOp2_lp c1 (b := cC (.int 0)) rfl fi)))
  · have ez : ee p r c = 0 := by rw [ee_rec, if_neg hsq]
    refine ⟨s4, h4, ?_⟩
    have pz := put (cC (.int 0)) s4 (by rw [ez]; rfl)
    by_cases hp : r = p.length
    · rw [decide_eq_true hp] at t1
      exact (sIf_t (tOr_t t1)).trans pz
    · have nr : decide (r = p.length) = false := decide_eq_false hp
      rw [nr] at t1
      have hr2 : r < p.length := by omega
      have g : p[r]? = some (p.getD r 0) := by rw [List.getD_eq_getElem?_getD, List.getElem?_eq_getElem hr2]; rfl
      have t2 : tBl (cOp2 opGe (cVar 3) (cOp2 opIx (cVar 0) (cVar 2))) (ρK p F (.pu (nD r)) (.pu (nD c)) s4) = some (true, ρK p F (.pu (nD r)) (.pu (nD c)) s4) := by
        have q := tBl_eq (cOp2_pu (op := opGe) (ρ := ρK p F (.pu (nD r)) (.pu (nD c)) s4) (a := cVar 3) rfl (cOp2_pu (a := cVar 0) (b := cVar 2) rfl rfl (ix_T p r _ g)) rfl)
        have e : decide (p.getD r 0 ≤ (c : Int)) = true := decide_eq_true (by unfold sq at hsq; omega)
        rw [e] at q
        exact q
      exact (sIf_t (tOr_ff t1 t2)).trans pz
end PL

namespace PL
open PySem PySem.Spec PyProof.Rows L2
/-! k75: the law's edges, its loops -/
def HasE (p : List Int) (W : Nat) (F : List (List Int)) (r n : Nat) : Prop := ∀ r' c', r' ≤ p.length → c' ≤ W → (r < r' ∨ (r' = r ∧ n ≤ c')) → kyE r' c' ∈ F
theorem edge_in {p : List Int} (h : Par p) (hs : p.sum ≤ 300) (W : Nat) (hW : W = (maxZ p).toNat) (r : Nat) (hr : r ≤ p.length) : ∀ (n : Nat) (F : List (List Int)) (s3 s4 : Sl), n ≤ W + 1 → plainS (some s3) = true → plainS (some s4) = true → F.length + n ≤ 99000 → HasE p W F r n →
    ∃ F' s3' s4', plainS (some s3') = true ∧ plainS (some s4') = true ∧ F'.length ≤ F.length + n ∧ HasE p W F' r 0 ∧ forGo (gN 3) bdE (((List.range n).reverse).map nD) (ρK p F (.pu (nD r)) s3 s4) = some (.nx (ρK p F' (.pu (nD r)) s3' s4'))
  | 0, F, s3, s4, _, h3, h4, _, hF => ⟨F, s3, s4, h3, h4, Nat.le_refl _, hF, rfl⟩
  | n + 1, F, s3, s4, hn, h3, h4, hl, hF => by
    have hsW : ∀ c, sq p r c → c + 1 ≤ W := fun c hc => by
      have h1 := maxZ_ge p _ (getD_mem (sq_len hc))
      unfold sq at hc
      omega
    obtain ⟨s4', k4, e⟩ := edge_body h hs F r n hr s4 h4 (by omega) fun hq => ⟨hF (r + 1) n (by have := sq_len hq; omega) (by omega) (.inl (by omega)), hF r (n + 1) hr (hsW n hq) (.inr ⟨rfl, Nat.le_refl _⟩)⟩
    have hl2 := addE_len F (kyE r n)
    obtain ⟨F', t3, t4, k3, k4', q1, q2, e2⟩ := edge_in h hs W hW r hr n (addE F (kyE r n)) (.pu (nD n)) s4' (by omega) rfl k4 (by omega) (fun r' c' a1 a2 a3 => by
      rw [addE_mem]
      by_cases hz : r' = r ∧ c' = n
      · obtain ⟨rfl, rfl⟩ := hz
        exact .inr rfl
      · refine .inl (hF r' c' a1 a2 ?_)
        rcases a3 with a3 | ⟨a3, a4⟩
        · exact .inl a3
        · refine .inr ⟨a3, ?_⟩
          have : c' ≠ n := fun z => hz ⟨a3, z⟩
          omega)
    refine ⟨F', t3, t4, k3, k4', by omega, q2, ?_⟩
    rw [List.range_succ, List.reverse_append, List.reverse_singleton, List.singleton_append, List.map_cons]
    have e0 : gN 3 (nD n) (ρK p F (.pu (nD r)) s3 s4) = some (ρK p F (.pu (nD r)) (.pu (nD n)) s4) := by rcases plain_or h3 with rfl | ⟨d, rfl⟩ <;> rfl
    exact (forGo_nx e0 e).trans e2
def bdEr : FS := (sFor (iRgDn (cOpA fMax (aCons (cOp2n opAdd (cTup (aCons (cC (.int 0)) aNil)) (cVar 0)) aNil)) (cOp opNeg (cC (.int 1)))) (gN 3) bdE)
theorem edge_out {p : List Int} (h : Par p) (hs : p.sum ≤ 300) (W : Nat) (hW : maxZ p = (W : Int)) (hW2 : W ≤ 300) : ∀ (n : Nat) (F : List (List Int)) (s2 s3 s4 : Sl), n ≤ p.length + 1 → plainS (some s2) = true → plainS (some s3) = true → plainS (some s4) = true → F.length + n * (W + 1) ≤ 99000 →
    (∀ r' c', r' ≤ p.length → c' ≤ W → n ≤ r' → kyE r' c' ∈ F) →
    ∃ F' s2' s3' s4', (∀ r' c', r' ≤ p.length → c' ≤ W → kyE r' c' ∈ F') ∧ forGo (gN 2) bdEr (((List.range n).reverse).map nD) (ρK p F s2 s3 s4) = some (.nx (ρK p F' s2' s3' s4'))
  | 0, F, s2, s3, s4, _, _, _, _, _, hF => ⟨F, s2, s3, s4, fun r' c' a b => hF r' c' a b (Nat.zero_le _), rfl⟩
  | n + 1, F, s2, s3, s4, hn, h2, h3, h4, hl, hF => by
    rw [Nat.succ_mul] at hl
    obtain ⟨F1, t3, t4, k3, k4, q1, q2, e⟩ := edge_in h hs W (by omega) n (by omega) (W + 1) F s3 s4 (Nat.le_refl _) h3 h4 (by omega) (fun r' c' a1 a2 a3 => by
      rcases a3 with a3 | ⟨a3, a4⟩
      · exact hF r' c' a1 a2 a3
      · omega)
    obtain ⟨F', u2, u3, u4, q3, e2⟩ := edge_out h hs W hW hW2 n F1 (.pu (nD n)) t3 t4 (by omega) rfl k3 k4 (by omega) (fun r' c' a1 a2 a3 => q2 r' c' a1 a2 (by
      by_cases hz : r' = n
      · exact .inr ⟨hz, Nat.zero_le _⟩
      · exact .inl (by omega)))
    refine ⟨F', u2, u3, u4, q3, ?_⟩
    rw [List.range_succ, List.reverse_append, List.reverse_singleton, List.singleton_append, List.map_cons]
    have e0 : gN 2 (nD n) (ρK p F s2 s3 s4) = some (ρK p F (.pu (nD n)) s3 s4) := by rcases plain_or h2 with rfl | ⟨d, rfl⟩ <;> rfl
    have hb := fits_bd (par_fits h hs)
    have ei : iRgDn (cOpA fMax (aCons (cOp2n opAdd (cTup (aCons (cC (.int 0)) aNil)) (cVar 0)) aNil)) (cOp opNeg (cC (.int 1))) (ρK p F (.pu (nD n)) s3 s4) = some (((List.range (W + 1)).reverse).map nD, ρK p F (.pu (nD n)) s3 s4) := by
      have q := maxT_ev (p := p) (by have := hb.1; omega) (ρ := ρK p F (.pu (nD n)) s3 s4) rfl
      rw [hW] at q
      have z := iRgDn_eq (i := (W : Int)) (j := -1) q (b := cOp opNeg (cC (.int 1))) rfl (small_le (by omega) (by omega)) (by decide)
      have e : ((W : Int) - -1).toNat = W + 1 := by omega
      have d := downD_nat (W + 1)
      have e3 : (((W + 1 : Nat) : Int) - 1) = W := by omega
      rw [e3] at d
      rw [e, d] at z
      exact z
    have eb : bdEr (ρK p F (.pu (nD n)) s3 s4) = some (.nx (ρK p F1 (.pu (nD n)) t3 t4)) := by
      show sFor _ (gN 3) bdE _ = _
      unfold sFor
      rw [ei]
      exact e
    exact (forGo_nx e0 eb).trans e2
theorem e_law_edges {p : List Int} (h : Par p) (hs : p.sum ≤ 300) : m__law_edges [.v (tupD p)] = some (.pu (nD (edgW p)), []) := by
  have hb := fits_bd (par_fits h hs)
  have hl := hb.1
  obtain ⟨W, hW⟩ : ∃ W : Nat, maxZ p = (W : Int) := ⟨(maxZ p).toNat, by have := maxZ_nn p; omega⟩
  have hW2 : W ≤ 300 := by
    have h1 : maxZ p ≤ 300 := by
      by_cases h0 : 0 < maxZ p
      · exact (hb.2 _ (maxZ_mem p h0)).2
      · omega
    omega
  have e1 : sDNew 1 [.pu (tupD p), .non, .non, .non, .non, .non] = some (.nx (ρK p [] .non .non .non)) := sDNew_eq rfl
  have hm : (p.length + 1) * (W + 1) ≤ 301 * 301 := Nat.mul_le_mul (by omega) (by omega)
  obtain ⟨F', s2, s3, s4, q, e2⟩ := edge_out h hs W hW hW2 (p.length + 1) [] .non .non .non (Nat.le_refl _) rfl rfl rfl (by rw [List.length_nil]; omega) (fun r' c' a1 a2 a3 => by omega)
  have ei : iRgDn (cOpA fLen (aCons (cVar 0) aNil)) (cOp opNeg (cC (.int 1))) (ρK p [] .non .non .non) = some (((List.range (p.length + 1)).reverse).map nD, ρK p [] .non .non .non) := by
    have z := iRgDn_eq (ρ := ρK p [] .non .non .non) (i := (p.length : Nat)) (j := -1) (cOpA_args (args_pu (a := cVar 0) rfl args_nil) (fLen_t p)) (b := cOp opNeg (cC (.int 1))) rfl (small_le (by omega) (by omega)) (by decide)
    have e : ((p.length : Int) - -1).toNat = p.length + 1 := by omega
    have d := downD_nat (p.length + 1)
    have e3 : (((p.length + 1 : Nat) : Int) - 1) = (p.length : Nat) := by omega
    rw [e3] at d
    rw [e, d] at z
    exact z
  have ef : sFor (iRgDn (cOpA fLen (aCons (cVar 0) aNil)) (cOp opNeg (cC (.int 1)))) (gN 2) bdEr (ρK p [] .non .non .non) = some (.nx (ρK p F' s2 s3 s4)) := by
    unfold sFor
    rw [ei]
    exact e2
  have e3 : sRet (cDGet 1 (cTup (aCons (cC (.int 0)) (aCons (cC (.int 0)) aNil)))) (ρK p F' s2 s3 s4) = some (.rt (.pu (nD (edgW p))) (ρK p F' s2 s3 s4)) := by
    refine sRet_eq (cDGet_pu (kd := tupD (kyE 0 0)) (kvs := dV (vE p) F') (cTup_args (args_pu rfl (args_pu rfl args_nil)) (line_le (by show (2 : Nat) ≤ 1000000; decide))) rfl (dV_ok _ _ _) ?_)
    rw [dV_find, if_pos (q 0 0 (Nat.zero_le _) (Nat.zero_le _)), vE_ky]
    rfl
  have e4 : b__law_edges [.pu (tupD p), .non, .non, .non, .non, .non] = some (.rt (.pu (nD (edgW p))) (ρK p F' s2 s3 s4)) := (sSeq_nx e1).trans ((sSeq_nx ef).trans e3)
  exact run_rt rfl rfl e4 rfl
/-! the law's worths by moves -/
def ρX (g : Gm) (p : List Int) (F : List (List Int)) (s3 : Sl) : Rho := [.pu (.str (gS g)), .pu (tupD p), .io (.dict (dV (vW g) F)), s3, .non, .non]
theorem worth_ev (g : Gm) : ∀ (n : Nat) (p : List Int) (F : List (List Int)), Par p → p.sum < n → p.sum ≤ 24 → GK F → ∃ F', GK F' ∧ r__law_worth n [.v (.str (gS g)), .v (tupD p), .m (.dict (dV (vW g) F))] = some (.pu (vW g p), [.dict (dV (vW g) F')])
  | 0, p, F, h, hn, _, _ => by have := par_nn h; omega
  | n + 1, p, F, h, hn, hs, hF => by
    have e1 : tBl (cDIn true (cVar 1) 2) (ρX g p F .non) = some (!decide (p ∈ F), ρX g p F .non) := notin_ev rfl rfl
    have last : ∀ F' s3, GK F' → p ∈ F' → sRet (cDGet 2 (cVar 1)) (ρX g p F' s3) = some (.rt (.pu (vW g p)) (ρX g p F' s3)) := fun F' s3 _ hm => by
      refine sRet_eq (cDGet_pu (kd := tupD p) (kvs := dV (vW g) F') rfl rfl (dV_ok _ _ _) ?_)
      rw [dV_find, if_pos hm]
    by_cases hp : p ∈ F
    · rw [decide_eq_true hp] at e1
      refine ⟨F, hF, ?_⟩
      have e2 : b__law_worth (r__law_worth n) (ρX g p F .non) = some (.rt (.pu (vW g p)) (ρX g p F .non)) := (sSeq_nx ((sIf_f e1).trans rfl)).trans (last F _ hF hp)
      exact run_rt rfl rfl e2 rfl
    · rw [decide_eq_false hp] at e1
      obtain ⟨M, eM, hM, lM⟩ := mv_list h g (by omega)
      have hb := fits_bd (par_fits h (by omega))
      have em := e_law_moves g p hb h.fall h.2
      rw [eM] at em
      obtain ⟨F1, c1, c2⟩ := cLc_st (v := 4) (it := iE (cCall m__law_moves (aCons (cVar 0) (aCons (cVar 1) aNil)))) (g := gN 4) (f := cCall (r__law_worth n) (aCons (cVar 0) (aCons (cVar 4) (aCons (cVar 2) aNil)))) (ρ := ρX g p F .non) (fun F => ρX g p F .non) GK tupD (vW g) M F
        (iE_pu (cCall_args (args_pu rfl (args_pu rfl args_nil)) em) rfl) rfl rfl hF (fun q hq F hF => by
          obtain ⟨k1, k2⟩ := moves_par h g ((hM q).mp hq)
          obtain ⟨F', g1, g2⟩ := worth_ev g n q F k1 (by omega) (by omega) hF
          refine ⟨[.pu (.str (gS g)), .pu (tupD p), .io (.dict (dV (vW g) F)), .non, .pu (tupD q), .non], F', [.pu (.str (gS g)), .pu (tupD p), .io (.dict (dV (vW g) F')), .non, .pu (tupD q), .non], .pu (vW g q), rfl, ?_, rfl, rfl, g1⟩
          unfold cCall
          show (if [2].Nodup then (r__law_worth n [.v (.str (gS g)), .v (tupD q), .m (.dict (dV (vW g) F))]).bind _ else none) = _
          rw [if_pos (by decide), g2]
          rfl) (line_le (by omega))
      rw [nat_ints] at c1
      let B : List Int := M.map fun q => ((Wt g q : Nat) : Int)
      have e3 : sAsg 3 (cLc [4] (iE (cCall m__law_moves (aCons (cVar 0) (aCons (cVar 1) aNil)))) (gN 4) tYes (cCall (r__law_worth n) (aCons (cVar 0) (aCons (cVar 4) (aCons (cVar 2) aNil))))) (ρX g p F .non) = some (.nx (ρX g p F1 (.pu (.list (B.map .int))))) := sAsg_nw c1 rfl
      have hBl : B.length < 64 := by
        show (M.map _).length < 64
        rw [List.length_map]; exact lM
      have ir : iRg1 (cOp2n opAdd (cOpA fLen (aCons (cVar 3) aNil)) (cC (.int 1))) (ρX g p F1 (.pu (.list (B.map .int)))) = some ((List.range (B.length + 1)).map nD, ρX g p F1 (.pu (.list (B.map .int)))) := by
        have q := iRg1_eq (j := ((B.length + 1 : Nat) : Int)) (cOp2n_pu' (op := opAdd) (ρ := ρX g p F1 (.pu (.list (B.map .int)))) (cOpA_args (args_pu (a := cVar 3) rfl args_nil) (fLen_l (B.map .int))) (b := cC (.int 1)) rfl (r := .int ((B.length + 1 : Nat) : Int)) (by rw [List.length_map]; rfl) rfl) (small_nat (by omega))
        rw [intsD_zero] at q
        exact q
      have c3 := cLc_of (vs := [5]) (it := iRg1 (cOp2n opAdd (cOpA fLen (aCons (cVar 3) aNil)) (cC (.int 1)))) (g := gN 5) (t := tBl (cOp2 opNotIn (cVar 5) (cVar 3))) (f := cVar 5) (ρ := ρX g p F1 (.pu (.list (B.map .int)))) (e := nD) (l := List.range (B.length + 1)) (outB B) nD
        ir rfl (fun k _ => ⟨[.pu (.str (gS g)), .pu (tupD p), .io (.dict (dV (vW g) F1)), .pu (.list (B.map .int)), .non, .pu (nD k)], rfl, rfl, tBl_eq (cOp2_pu (a := cVar 5) (b := cVar 3) rfl rfl (notin_i B k)), fun _ => ⟨_, rfl, rfl⟩⟩) (line_le (by rw [List.length_range]; omega))
      have fi := first_ix (B.length + 1) B (mex B) (mex_spec B).2.2.2
      have em2 : mex B = Wt g p := mex_M h hM
      rw [em2] at fi
      obtain ⟨a1, a2⟩ := c2.add h hs
      refine ⟨_, a1, ?_⟩
      have e5 : sDSet 2 (cVar 1) (cOp2 opIx (cLc [5] (iRg1 (cOp2n opAdd (cOpA fLen (aCons (cVar 3) aNil)) (cC (.int 1)))) (gN 5) (tBl (cOp2 opNotIn (cVar 5) (cVar 3))) (cVar 5)) (cC (.int 0))) (ρX g p F1 (.pu (.list (B.map .int)))) = some (.nx (ρX g p (if p ∈ F1 then F1 else F1 ++ [p]) (.pu (.list (B.map .int))))) := by
        refine sDSet_pu (kd := tupD p) (cOp2_lp c3 (b := cC (.int 0)) rfl fi) rfl rfl (dV_ok _ _ _) (line_lt (by
          have := c2.len
          unfold dV
          rw [List.length_map]; omega)) ?_
        rw [show nD (Wt g p) = vW g p from rfl, dV_put (vW g) F1 p]
        rfl
      have e2 : b__law_worth (r__law_worth n) (ρX g p F .non) = some (.rt (.pu (vW g p)) (ρX g p (if p ∈ F1 then F1 else F1 ++ [p]) (.pu (.list (B.map .int))))) := (sSeq_nx ((sIf_t e1).trans ((sSeq_nx e3).trans e5))).trans (last _ _ a1 a2)
      exact run_rt rfl rfl e2 rfl
end PL

namespace PL
open PySem PySem.Spec PyProof.Rows L2
/-! k75: the law about one tuple of piles -/
theorem sqs_range (p : List Int) : sqs p = (List.range p.length).flatMap fun r => (List.range (p.getD r 0).toNat).map fun c => (r, c) := by
  have e : p.zipIdx = (List.range p.length).map fun r => (p.getD r 0, r) := by
    refine List.ext_getElem (by simp) fun i h1 h2 => ?_
    simp only [List.length_map, List.length_range] at h2
    simp only [List.getElem_zipIdx, List.getElem_map, List.getElem_range]
    rw [List.getD_eq_getElem?_getD, List.getElem?_eq_getElem h2]
    simp
  unfold sqs
  rw [e, List.flatMap_map]
def hvD (p : List Int) (r c : Nat) : D := nD (pw (hkN p r c) - 1)
def bdHv : FS := (sSeq (sParA [7, 8] (aCons (cCall m__law_hook (aCons (cVar 1) (aCons (cVar 4) (aCons (cVar 6) aNil)))) (aCons (cC (.int 2)) aNil)))
  (sSeq (sWhile tsPw bdPw)
  (sApp 3 (cOp2 opSub (cVar 8) (cC (.int 1))))))
def ρT (c t : D) (p : List Int) (H : List D) (s4 s6 s7 s8 : Sl) : Rho := [.io c, .pu (tupD p), .pu t, .own (.list H), s4, .non, s6, s7, s8]
theorem hv_body {p : List Int} (h : Par p) (hs : p.sum ≤ 300) (cu t : D) (H : List D) (hl : H.length ≤ 9000) {r c : Nat} (hq : sq p r c) (s7 s8 : Sl) (h7 : plainS (some s7) = true) (h8 : plainS (some s8) = true) :
    ∃ s7' s8', plainS (some s7') = true ∧ plainS (some s8') = true ∧ bdHv (ρT cu t p H (.pu (nD r)) (.pu (nD c)) s7 s8) = some (.nx (ρT cu t p (H ++ [hvD p r c]) (.pu (nD r)) (.pu (nD c)) s7' s8')) := by
  have k1 := hk_nat h hq
  have k2 := hk_pos h hq
  obtain ⟨o1, o2, o3⟩ := pw_ok (h := hkN p r c) (by omega) (hk_le h hs hq)
  have e1 : sParA [7, 8] (aCons (cCall m__law_hook (aCons (cVar 1) (aCons (cVar 4) (aCons (cVar 6) aNil)))) (aCons (cC (.int 2)) aNil)) (ρT cu t p H (.pu (nD r)) (.pu (nD c)) s7 s8) = some (.nx (ρT cu t p H (.pu (nD r)) (.pu (nD c)) (.pu (nD (hkN p r c))) (.pu (nD 2)))) :=
    sParA_args (args_pu (cCall_args (args_pu rfl (args_pu rfl (args_pu rfl args_nil))) (e_law_hook h hs hq)) (args_pu rfl args_nil)) (by rcases plain_or h7 with rfl | ⟨d, rfl⟩ <;> rcases plain_or h8 with rfl | ⟨d', rfl⟩ <;> rfl)
  have e2 := pw_loop (fun x => ρT cu t p H (.pu (nD r)) (.pu (nD c)) (.pu (nD (hkN p r c))) (.pu (nD x))) (hkN p r c) (fun x => rfl) (fun x => rfl) (fun x y => rfl) 12 2 fuelN (by decide) o1 (by
    have : fuelN = 1000000000 := rfl
    omega)
  have e3 : sApp 3 (cOp2 opSub (cVar 8) (cC (.int 1))) (ρT cu t p H (.pu (nD r)) (.pu (nD c)) (.pu (nD (hkN p r c))) (.pu (nD (pw (hkN p r c))))) = some (.nx (ρT cu t p (H ++ [hvD p r c]) (.pu (nD r)) (.pu (nD c)) (.pu (nD (hkN p r c))) (.pu (nD (pw (hkN p r c)))))) := by
    have q := cOp2_pu (op := opSub) (ρ := ρT cu t p H (.pu (nD r)) (.pu (nD c)) (.pu (nD (hkN p r c))) (.pu (nD (pw (hkN p r c))))) (a := cVar 8) rfl (b := cC (.int 1)) rfl rfl
    have e : ((pw (hkN p r c) : Nat) : Int) - 1 = ((pw (hkN p r c) - 1 : Nat) : Int) := by omega
    rw [e] at q
    exact sApp_pu q rfl (line_lt (by omega)) rfl
  exact ⟨_, _, rfl, rfl, (sSeq_nx e1).trans ((sSeq_nx (a := sWhile tsPw bdPw) e2).trans e3)⟩
theorem hv_in {p : List Int} (h : Par p) (hs : p.sum ≤ 300) (cu t : D) (r : Nat) : ∀ (l : List Nat) (H : List D) (s6 s7 s8 : Sl), (∀ c ∈ l, sq p r c) → H.length + l.length ≤ 9000 → plainS (some s6) = true → plainS (some s7) = true → plainS (some s8) = true →
    ∃ s6' s7' s8', plainS (some s6') = true ∧ plainS (some s7') = true ∧ plainS (some s8') = true ∧ forGo (gN 6) bdHv (l.map nD) (ρT cu t p H (.pu (nD r)) s6 s7 s8) = some (.nx (ρT cu t p (H ++ l.map (hvD p r)) (.pu (nD r)) s6' s7' s8'))
  | [], H, s6, s7, s8, _, _, h6, h7, h8 => ⟨s6, s7, s8, h6, h7, h8, by rw [List.map_nil, List.map_nil, List.append_nil]; rfl⟩
  | c :: l, H, s6, s7, s8, hq, hl, h6, h7, h8 => by
    rw [List.length_cons] at hl
    obtain ⟨t7, t8, k7, k8, e⟩ := hv_body h hs cu t H (by omega) (hq c List.mem_cons_self) s7 s8 h7 h8
    obtain ⟨u6, u7, u8, w6, w7, w8, e2⟩ := hv_in h hs cu t r l (H ++ [hvD p r c]) (.pu (nD c)) t7 t8 (fun x hx => hq x (List.mem_cons_of_mem _ hx)) (by rw [List.length_append]; show H.length + 1 + _ ≤ _; omega) rfl k7 k8
    refine ⟨u6, u7, u8, w6, w7, w8, ?_⟩
    have e0 : gN 6 (nD c) (ρT cu t p H (.pu (nD r)) s6 s7 s8) = some (ρT cu t p H (.pu (nD r)) (.pu (nD c)) s7 s8) := by rcases plain_or h6 with rfl | ⟨d, rfl⟩ <;> rfl
    rw [List.append_assoc] at e2
    exact (forGo_nx e0 e).trans e2
def bdHr : FS := (sFor (iRg1 (cOp2 opIx (cVar 1) (cVar 4))) (gN 6) bdHv)
theorem hv_out {p : List Int} (h : Par p) (hs : p.sum ≤ 300) (cu t : D) : ∀ (l : List Nat) (H : List D) (s4 s6 s7 s8 : Sl), (∀ r ∈ l, r < p.length) → H.length + (l.flatMap fun r => (List.range (p.getD r 0).toNat).map (hvD p r)).length ≤ 9000 → plainS (some s4) = true → plainS (some s6) = true → plainS (some s7) = true → plainS (some s8) = true →
    ∃ s4' s6' s7' s8', forGo (gN 4) bdHr (l.map nD) (ρT cu t p H s4 s6 s7 s8) = some (.nx (ρT cu t p (H ++ l.flatMap fun r => (List.range (p.getD r 0).toNat).map (hvD p r)) s4' s6' s7' s8'))
  | [], H, s4, s6, s7, s8, _, _, _, _, _, _ => ⟨s4, s6, s7, s8, by rw [List.flatMap_nil, List.append_nil]; rfl⟩
  | r :: l, H, s4, s6, s7, s8, hr, hl, h4, h6, h7, h8 => by
    rw [List.flatMap_cons, List.length_append] at hl
    have hb := fits_bd (par_fits h hs)
    have hr0 := hr r List.mem_cons_self
    have g : p[r]? = some (p.getD r 0) := by rw [List.getD_eq_getElem?_getD, List.getElem?_eq_getElem hr0]; rfl
    have hx := hb.2 _ (getD_mem hr0)
    rw [List.length_map, List.length_range] at hl
    obtain ⟨t6, t7, t8, k6, k7, k8, e⟩ := hv_in h hs cu t r (List.range (p.getD r 0).toNat) H s6 s7 s8 (fun c hc => by
      have := List.mem_range.mp hc
      unfold sq; omega) (by rw [List.length_range]; omega) h6 h7 h8
    obtain ⟨u4, u6, u7, u8, e2⟩ := hv_out h hs cu t l (H ++ (List.range (p.getD r 0).toNat).map (hvD p r)) (.pu (nD r)) t6 t7 t8 (fun x hx => hr x (List.mem_cons_of_mem _ hx)) (by rw [List.length_append, List.length_map, List.length_range]; omega) rfl k6 k7 k8
    refine ⟨u4, u6, u7, u8, ?_⟩
    have e0 : gN 4 (nD r) (ρT cu t p H s4 s6 s7 s8) = some (ρT cu t p H (.pu (nD r)) s6 s7 s8) := by rcases plain_or h4 with rfl | ⟨d, rfl⟩ <;> rfl
    have ei : iRg1 (cOp2 opIx (cVar 1) (cVar 4)) (ρT cu t p H (.pu (nD r)) s6 s7 s8) = some ((List.range (p.getD r 0).toNat).map nD, ρT cu t p H (.pu (nD r)) s6 s7 s8) := by
      rw [iRg1_eq (cOp2_pu (a := cVar 1) (b := cVar 4) rfl rfl (ix_T p r _ g)) (small_le hx.1 (by omega)), intsD_zero]
      rfl
    have eb : bdHr (ρT cu t p H (.pu (nD r)) s6 s7 s8) = some (.nx (ρT cu t p (H ++ (List.range (p.getD r 0).toNat).map (hvD p r)) (.pu (nD r)) t6 t7 t8)) := by
      show sFor _ (gN 6) bdHv _ = _
      unfold sFor
      rw [ei]
      exact e
    rw [List.flatMap_cons, ← List.append_assoc]
    exact (forGo_nx e0 eb).trans e2
def HV (p : List Int) : List Nat := (HK p).map fun h => pw h - 1
theorem HV_eq (p : List Int) : ((List.range p.length).flatMap fun r => (List.range (p.getD r 0).toNat).map (hvD p r)) = (HV p).map nD := by
  unfold HV HK
  rw [sqs_range, List.map_flatMap, List.map_flatMap, List.map_flatMap]
  congr 1
  funext r
  rw [List.map_map, List.map_map, List.map_map]
  rfl
theorem HV_len (p : List Int) : (HV p).length = (sqs p).length := by unfold HV HK; rw [List.length_map, List.length_map]
theorem HK_le {p : List Int} (h : Par p) (hs : p.sum ≤ 300) : ∀ n ∈ HK p, 1 ≤ n ∧ n ≤ 600 := fun n hn => by
  refine ⟨HK_pos h n hn, ?_⟩
  obtain ⟨q, hq, rfl⟩ := List.mem_map.mp hn
  exact hk_le h hs ((mem_sqs q).mp hq)
theorem HV_xor {p : List Int} (h : Par p) (hs : p.sum ≤ 300) : xorN (HV p) = rimW p := by
  unfold HV rimW
  congr 1
  refine List.map_congr_left fun n hn => ?_
  obtain ⟨h1, h2⟩ := HK_le h hs n hn
  exact (pw_ok h1 h2).2.1
theorem HV_bd {p : List Int} (h : Par p) (hs : p.sum ≤ 300) : ∀ n ∈ HV p, n < 2 ^ 40 := fun n hn => by
  obtain ⟨m, hm, rfl⟩ := List.mem_map.mp hn
  obtain ⟨h1, h2⟩ := HK_le h hs m hm
  show pw m - 1 < 2 ^ 40
  rw [(pw_ok h1 h2).2.1]
  exact Nat.xor_lt_two_pow (by omega) (by omega)
theorem bool_ne (a : Nat) : opNe (nD a) (.int 0) = some (.bool (decide (0 < a))) := by
  unfold opNe
  rw [if_pos (Nat.le_trans (Nat.min_le_right _ _) (by rw [PyData.depth]; omega))]
  congr 2
  show (!PyData.eqv (.int (a : Nat)) (.int 0)) = _
  rw [eqv_int, Bool.eq_iff_iff]
  simp
  omega
theorem dep_flat (ds : List D) (h : ∀ d ∈ ds, d.depth = 0) : (PyData.list ds).depth < 8 := by
  have : PyData.depthAll ds = 0 := by
    induction ds with
    | nil => rfl
    | cons d ds ih =>
      rw [PyData.depthAll, h d List.mem_cons_self, ih fun x hx => h x (List.mem_cons_of_mem _ hx)]
      rfl
  rw [PyData.depth, this]
  omega
theorem dep_i (i : Int) : (PyData.int i).depth = 0 := by rw [PyData.depth]
theorem dep_b (i : Bool) : (PyData.bool i).depth = 0 := by rw [PyData.depth]
theorem like_3 (a b : Nat) (c : D) (hc : narrow 1000 c = true) (hd : c.depth = 0) : m__law_like [.v (.list [nD a, nD b, c]), .v (.list [nD a, nD b, c])] = some (.pu (.bool true), []) := by
  refine e_like _ ?_ (dep_flat _ fun d hd' => ?_)
  · show (decide (3 ≤ 1000) && (true && (true && (narrow 1000 c && true)))) = true
    rw [hc]; rfl
  · simp only [List.mem_cons, List.not_mem_nil, or_false] at hd'
    rcases hd' with rfl | rfl | rfl
    · exact dep_i _
    · exact dep_i _
    · exact hd
theorem three_le : (3 : Nat) ≤ lineN := line_le (by decide)
theorem e_law_right (cu : D) {p : List Int} (h : Par p) (hs : p.sum ≤ 300) : m__law_right [.m cu, .v (tupD p)] = some (.pu (.bool true), [cu]) := by
  have hb := fits_bd (par_fits h hs)
  have hl := hb.1
  let t : D := .list [nD (FW .h p), nD (FW .r p), nD (FW .e p)]
  have e1 : sAsg 2 (cLst (aCons (cCall m_game_worth (aCons (cC (.str (Str.ofString "heights"))) (aCons (cVar 1) aNil))) (aCons (cCall m_game_worth (aCons (cC (.str (Str.ofString "rims"))) (aCons (cVar 1) aNil))) (aCons (cCall m_game_worth (aCons (cC (.str (Str.ofString "edges"))) (aCons (cVar 1) aNil))) aNil)))) [.io cu, .pu (tupD p), .non, .non, .non, .non, .non, .non, .non] =
      some (.nx [.io cu, .pu (tupD p), .pu t, .non, .non, .non, .non, .non, .non]) :=
    sAsg_nw (cLst_args (args_pu (cCall_args (args_pu rfl (args_pu rfl args_nil)) (e_game_worth .h p h hs (fun z => nomatch z))) (args_pu (cCall_args (args_pu rfl (args_pu rfl args_nil)) (e_game_worth .r p h hs (fun z => nomatch z))) (args_pu (cCall_args (args_pu rfl (args_pu rfl args_nil)) (e_game_worth .e p h hs (fun z => nomatch z))) args_nil))) three_le) rfl
  have e2 : sNew 3 (cLst aNil) [.io cu, .pu (tupD p), .pu t, .non, .non, .non, .non, .non, .non] = some (.nx (ρT cu t p [] .non .non .non .non)) := sNew_nw (cLst_args args_nil (Nat.zero_le _)) rfl
  have hlen : (HV p).length ≤ 300 := by rw [HV_len]; exact sqs_le h hs
  obtain ⟨s4, s6, s7, s8, e3⟩ := hv_out h hs cu t (List.range p.length) [] .non .non .non .non (fun r hr => List.mem_range.mp hr) (by rw [HV_eq, List.length_map, List.length_nil]; omega) rfl rfl rfl rfl
  rw [HV_eq, List.nil_append] at e3
  have ei : iRg1 (cOpA fLen (aCons (cVar 1) aNil)) (ρT cu t p [] .non .non .non .non) = some ((List.range p.length).map nD, ρT cu t p [] .non .non .non .non) := by
    rw [iRg1_eq (j := ((p.length : Nat) : Int)) (cOpA_args (args_pu (a := cVar 1) rfl args_nil) (fLen_t p)) (small_nat (by omega)), intsD_zero]
    rfl
  have ef : sFor (iRg1 (cOpA fLen (aCons (cVar 1) aNil))) (gN 4) bdHr (ρT cu t p [] .non .non .non .non) = some (.nx (ρT cu t p ((HV p).map nD) s4 s6 s7 s8)) := by
    unfold sFor
    rw [ei]
    exact e3
  let R : Sl → Rho := fun s5 => [.io cu, .pu (tupD p), .pu t, .pu (.list ((HV p).map nD)), s4, s5, s6, s7, s8]
  have hfr : frz 3 (ρT cu t p ((HV p).map nD) s4 s6 s7 s8) = R .non := rfl
  have nat := natL_eq h.fall.2
  have fp : fList [tupD p] = some (.list ((natL p).map nD)) := by
    have : p.map PyData.int = (natL p).map nD := by
      conv => lhs; rw [nat]
      rw [List.map_map]; rfl
    show some (PyData.list (p.map .int)) = _
    rw [this]
  have lh : (natL p).length ≤ 100000 := by unfold natL; rw [List.length_map]; omega
  have f1 := e_figures (tupD p) (natL p) fp (fun n hn => by
    obtain ⟨x, hx, rfl⟩ := List.mem_map.mp hn
    have := hb.2 x hx
    show x.toNat < 2 ^ 40
    omega) lh
  have f2 := e_figures (.list ((HV p).map nD)) (HV p) rfl (HV_bd h hs) (by omega)
  rw [HV_xor h hs] at f2
  have d1 : cLst (aCons (cCall m__law_figures (aCons (cVar 1) aNil)) (aCons (cCall m__law_figures (aCons (cVar 3) aNil)) (aCons (cCall m__law_edges (aCons (cVar 1) aNil)) aNil))) (R .non) = some (.nw t, R .non) :=
    cLst_args (args_pu (cCall_args (args_pu rfl args_nil) f1) (args_pu (cCall_args (args_pu rfl args_nil) f2) (args_pu (cCall_args (args_pu rfl args_nil) (e_law_edges h hs)) args_nil))) three_le
  have e4 : cCall m__law_like (aCons (cVar 2) (aCons (cLst (aCons (cCall m__law_figures (aCons (cVar 1) aNil)) (aCons (cCall m__law_figures (aCons (cVar 3) aNil)) (aCons (cCall m__law_edges (aCons (cVar 1) aNil)) aNil)))) aNil)) (R .non) = some (.pu (.bool true), R .non) :=
    like_run (v := .pu t) (w := .nw t) rfl rfl d1 rfl (like_3 _ _ _ rfl (dep_i _))
  have ht := turn_par h.fall
  have hts : (turnI p).sum ≤ 300 := by
    have c1 := flat_sum (fun q => (List.range q.1.toNat).map fun c => (q.2, c)) (fun q => by rw [List.length_map, List.length_range]) p 0 h.fall.2
    have c2 := flat_sum (fun q => (List.range q.1.toNat).map fun c => (q.2, c)) (fun q => by rw [List.length_map, List.length_range]) (turnI p) 0 ht.fall.2
    have c3 := (sqs_turn h).length_eq
    rw [List.length_map] at c3
    have c1 : ((sqs p).length : Int) = p.sum := c1
    have c2 : ((sqs (turnI p)).length : Int) = (turnI p).sum := c2
    omega
  have e5 : sAsg 5 (cCall m_turned (aCons (cVar 1) aNil)) (R .non) = some (.nx (R (.pu (tupD (turnI p))))) := sAsg_pu (cCall_args (args_pu rfl args_nil) (e_turned' h hs)) rfl
  let R2 := R (.pu (tupD (turnI p)))
  let u : D := .list [nD (FW .r p), nD (FW .e p), .bool (decide (0 < FW .h p))]
  have g1 := e_game_worth .r (turnI p) ht hts (fun z => nomatch z)
  have g2 := e_game_worth .e (turnI p) ht hts (fun z => nomatch z)
  rw [show FW .r (turnI p) = FW .r p from rimW_turn h] at g1
  rw [show FW .e (turnI p) = FW .e p from edgW_turn h] at g2
  have d2 : cLst (aCons (cCall m_game_worth (aCons (cC (.str (Str.ofString "rims"))) (aCons (cVar 5) aNil))) (aCons (cCall m_game_worth (aCons (cC (.str (Str.ofString "edges"))) (aCons (cVar 5) aNil))) (aCons (cCall m_is_won (aCons (cC (.str (Str.ofString "heights"))) (aCons (cVar 1) aNil))) aNil))) R2 = some (.nw u, R2) :=
    cLst_args (args_pu (cCall_args (args_pu rfl (args_pu rfl args_nil)) g1) (args_pu (cCall_args (args_pu rfl (args_pu rfl args_nil)) g2) (args_pu (cCall_args (args_pu rfl (args_pu rfl args_nil)) (e_is_won .h p h hs (fun z => nomatch z))) args_nil))) three_le
  have d3 : cLst (aCons (cOp2 opIx (cVar 2) (cC (.int 1))) (aCons (cOp2 opIx (cVar 2) (cC (.int 2))) (aCons (cOp2 opNe (cOp2 opIx (cVar 2) (cC (.int 0))) (cC (.int 0))) aNil))) R2 = some (.nw u, R2) :=
    cLst_args (args_pu (cOp2_pu rfl rfl (r := nD (FW .r p)) rfl) (args_pu (cOp2_pu rfl rfl (r := nD (FW .e p)) rfl) (args_pu (cOp2_pu (cOp2_pu (a := cVar 2) (b := cC (.int 0)) rfl rfl (r := nD (FW .h p)) rfl) (b := cC (.int 0)) rfl (bool_ne _)) args_nil))) three_le
  have e6 : cCall m__law_like (aCons (cLst (aCons (cCall m_game_worth (aCons (cC (.str (Str.ofString "rims"))) (aCons (cVar 5) aNil))) (aCons (cCall m_game_worth (aCons (cC (.str (Str.ofString "edges"))) (aCons (cVar 5) aNil))) (aCons (cCall m_is_won (aCons (cC (.str (Str.ofString "heights"))) (aCons (cVar 1) aNil))) aNil)))) (aCons (cLst (aCons (cOp2 opIx (cVar 2) (cC (.int 1))) (aCons (cOp2 opIx (cVar 2) (cC (.int 2))) (aCons (cOp2 opNe (cOp2 opIx (cVar 2) (cC (.int 0))) (cC (.int 0))) aNil)))) aNil)) R2 = some (.pu (.bool true), R2) :=
    like_run (v := .nw u) (w := .nw u) d2 rfl d3 rfl (like_3 _ _ _ rfl (dep_b _))
  have e7 : b__law_right [.io cu, .pu (tupD p), .non, .non, .non, .non, .non, .non, .non] = some (.rt (.pu (.bool true)) R2) :=
    (sSeq_nx e1).trans ((sSeq_nx e2).trans ((sSeq_nx ef).trans ((sFrz_eq hfr).trans ((guard e4).trans ((sSeq_nx e5).trans (sRet_eq e6))))))
  exact run_rt rfl rfl e7 rfl
end PL

namespace PL
open PySem PySem.Spec PyProof.Rows L2
/-! k75: few stones, by all moves -/
theorem chk_all : ((List.range 8).all fun s => (ways 25 s s).all fun p => [Gm.h, .r, .e].all fun g => decide (mex ((gF g p).map fun q => ((FW g q : Nat) : Int)) = FW g p)) = true := by decide +kernel
theorem few_ok (g : Gm) : ∀ (n : Nat) {p : List Int}, Par p → p.sum ≤ 7 → p.sum ≤ n → Wt g p = FW g p := by
  by_cases hg : g = .l
  · subst hg
    exact fun _ _ _ _ _ => rfl
  have hm : g ∈ [Gm.h, .r, .e] := by cases g <;> first | exact absurd rfl hg | simp
  intro n
  have base : ∀ {p : List Int}, Par p → p.sum ≤ 7 → mex ((gF g p).map fun q => ((FW g q : Nat) : Int)) = FW g p := fun {p} h h7 => by
    have h0 := par_nn h
    have q := List.all_eq_true.mp chk_all p.sum.toNat (List.mem_range.mpr (by omega))
    have q2 := List.all_eq_true.mp q p (mem_ways p 25 _ _ h (by omega) (fun x hx => by have := le_sum h.fall.2 x hx; omega) (by omega))
    exact of_decide_eq_true (List.all_eq_true.mp q2 g hm)
  induction n with
  | zero =>
    intro p h h7 hn
    rw [← base h h7, Wt_rec g h, sum_nil h hn]
    have e : gF g [] = [] := by unfold gF; rw [if_pos rfl]
    rw [e]; rfl
  | succ n ih =>
    intro p h h7 hn
    rw [← base h h7, Wt_rec g h]
    congr 1
    refine List.map_congr_left fun q hq => ?_
    obtain ⟨k1, k2⟩ := moves_par h g hq
    rw [ih k1 (by omega) (by omega)]
/-! the law's ways -/
theorem ways_few : ((List.range 9).all fun f => (List.range 8).all fun s => (List.range 8).all fun t => decide ((ways f s t).length ≤ 100)) = true := by decide +kernel
theorem iE_v {a : FE} {ρ ρ1 : Rho} {x : D} {ds : List D} {v : Vl} (h1 : a ρ = some (v, ρ1)) (hv : stl v = .pu x) (h2 : itemsOf x = some ds) : iE a ρ = some (ds, ρ1) := by
  unfold iE
  simp only [h1, Option.bind_some, hv, h2]
theorem downD_one (n : Nat) : downD (n : Int) n = ((List.range n).reverse).map fun k => nD (k + 1) := by
  unfold downD
  refine List.ext_getElem (by simp) fun i h1 h2 => ?_
  simp only [List.length_map, List.length_range] at h1
  simp only [List.getElem_map, List.getElem_range, List.getElem_reverse, List.length_range]
  unfold nD
  congr 1
  omega
def wayL (f s k : Nat) : List (List Int) := (ways f (s - (k + 1)) (k + 1)).map fun r => ((k + 1 : Nat) : Int) :: r
def bdWy (m : Mir) : FS := (sAsg 2 (cOp2n opAdd (cVar 2) (cLc [4] (iE (cCall m (aCons (cOp2 opSub (cVar 0) (cVar 3)) (aCons (cVar 3) aNil)))) (gN 4) tYes (cOp2n opAdd (cTup (aCons (cVar 3) aNil)) (cVar 4)))))
def ρY (s t : Nat) (F : List (List Int)) (s3 : Sl) : Rho := [.pu (nD s), .pu (nD t), .pu (.list (F.map tupD)), s3, .non]
theorem way_go (n s t : Nat) (ih : ∀ k, k < s → ∃ v, r__law_ways n [.v (nD (s - (k + 1))), .v (nD (k + 1))] = some (v, []) ∧ stl v = .pu (.list ((ways n (s - (k + 1)) (k + 1)).map tupD))) : ∀ (l : List Nat) (F : List (List Int)) (s3 : Sl), (∀ k ∈ l, k < s) → F.length + (l.flatMap (wayL n s)).length ≤ 1000 → plainS (some s3) = true →
    (∀ k ∈ l, ∀ r ∈ ways n (s - (k + 1)) (k + 1), r.length ≤ 1000) → ∃ s3', forGo (gN 3) (bdWy (r__law_ways n)) (l.map fun k => nD (k + 1)) (ρY s t F s3) = some (.nx (ρY s t (F ++ l.flatMap (wayL n s)) s3'))
  | [], F, s3, _, _, _, _ => ⟨s3, by rw [List.flatMap_nil, List.append_nil]; rfl⟩
  | k :: l, F, s3, hk, hl, h3, hr => by
    rw [List.flatMap_cons, List.length_append] at hl
    have hk0 := hk k List.mem_cons_self
    obtain ⟨v, e, hv⟩ := ih k hk0
    have hw : (ways n (s - (k + 1)) (k + 1)).length ≤ 1000 := by
      have : (wayL n s k).length = (ways n (s - (k + 1)) (k + 1)).length := by unfold wayL; rw [List.length_map]
      omega
    have c := cLc_map (vs := [4]) (it := iE (cCall (r__law_ways n) (aCons (cOp2 opSub (cVar 0) (cVar 3)) (aCons (cVar 3) aNil)))) (g := gN 4) (f := cOp2n opAdd (cTup (aCons (cVar 3) aNil)) (cVar 4)) (ρ := ρY s t F (.pu (nD (k + 1)))) (e := tupD) (l := ways n (s - (k + 1)) (k + 1)) (fun r => tupD (((k + 1 : Nat) : Int) :: r))
      (by
        have es : cOp2 opSub (cVar 0) (cVar 3) (ρY s t F (.pu (nD (k + 1)))) = some (.pu (nD (s - (k + 1))), ρY s t F (.pu (nD (k + 1)))) := by
          have q := cOp2_pu (op := opSub) (ρ := ρY s t F (.pu (nD (k + 1)))) (a := cVar 0) (b := cVar 3) rfl rfl rfl
          have e : ((s : Nat) : Int) - ((k + 1 : Nat) : Int) = ((s - (k + 1) : Nat) : Int) := by omega
          rw [e] at q
          exact q
        exact iE_v (cCall_args (args_pu es (args_pu rfl args_nil)) e) hv rfl) rfl
      (fun r hr' => ⟨[.pu (nD s), .pu (nD t), .pu (.list (F.map tupD)), .pu (nD (k + 1)), .pu (tupD r)], _, rfl, rfl, cOp2n_pu' (cTup_args (args_pu rfl args_nil) one_le') rfl (add_t [((k + 1 : Nat) : Int)] r (by
        have := hr k List.mem_cons_self r hr'
        show 1 + r.length ≤ _
        omega)) rfl, rfl⟩) (line_le (by omega))
    have ec : ((ways n (s - (k + 1)) (k + 1)).map fun r => tupD (((k + 1 : Nat) : Int) :: r)) = (wayL n s k).map tupD := by unfold wayL; rw [List.map_map]; rfl
    rw [ec] at c
    have eb : bdWy (r__law_ways n) (ρY s t F (.pu (nD (k + 1)))) = some (.nx (ρY s t (F ++ wayL n s k) (.pu (nD (k + 1))))) :=
      sAsg_nw (cOp2n_pl' rfl c (add_ll F (wayL n s k) (by omega))) rfl
    obtain ⟨s3', e2⟩ := way_go n s t ih l (F ++ wayL n s k) (.pu (nD (k + 1))) (fun x hx => hk x (List.mem_cons_of_mem _ hx)) (by rw [List.length_append]; omega) rfl (fun x hx => hr x (List.mem_cons_of_mem _ hx))
    refine ⟨s3', ?_⟩
    have e0 : gN 3 (nD (k + 1)) (ρY s t F s3) = some (ρY s t F (.pu (nD (k + 1)))) := by rcases plain_or h3 with rfl | ⟨d, rfl⟩ <;> rfl
    rw [List.flatMap_cons, ← List.append_assoc]
    exact (forGo_nx e0 eb).trans e2
theorem ways_ev : ∀ (n s t : Nat), s < n → n ≤ 8 → s ≤ 7 → t ≤ 7 → ∃ v, r__law_ways n [.v (nD s), .v (nD t)] = some (v, []) ∧ stl v = .pu (.list ((ways n s t).map tupD))
  | 0, s, t, h, _, _, _ => absurd h (Nat.not_lt_zero _)
  | n + 1, s, t, h, hn, hs, ht => by
    have t1 : tBl (cOp2 opEq (cVar 0) (cC (.int 0))) (ρY s t [] .non) = some (decide (s = 0), ρY s t [] .non) := tBl_eq (cOp2_pu (b := cC (.int 0)) rfl rfl (eqN s 0))
    have t1' : tBl (cOp2 opEq (cVar 0) (cC (.int 0))) [.pu (nD s), .pu (nD t), .non, .non, .non] = some (decide (s = 0), [.pu (nD s), .pu (nD t), .non, .non, .non]) := tBl_eq (cOp2_pu (b := cC (.int 0)) rfl rfl (eqN s 0))
    by_cases h0 : s = 0
    · rw [decide_eq_true h0] at t1'
      have ew : ways (n + 1) s t = [[]] := by
        show (if s = 0 then _ else _) = _
        rw [if_pos h0]
      refine ⟨.nw (.list [.tuple []]), ?_, by rw [ew]; rfl⟩
      have e2 : b__law_ways (r__law_ways n) [.pu (nD s), .pu (nD t), .non, .non, .non] = some (.rt (.nw (.list [.tuple []])) [.pu (nD s), .pu (nD t), .non, .non, .non]) :=
        sSeq_rt ((sIf_t t1').trans (sRet_eq (cLst_args (args_pu (cTup_args args_nil (Nat.zero_le _)) args_nil) one_le')))
      exact run_rn rfl rfl e2 rfl
    · rw [decide_eq_false h0] at t1'
      have ew : ways (n + 1) s t = ((List.range (min s t)).reverse).flatMap (wayL n s) := by
        show (if s = 0 then _ else _) = _
        rw [if_neg h0]
        rfl
      have e1 : sAsg 2 (cLst aNil) [.pu (nD s), .pu (nD t), .non, .non, .non] = some (.nx (ρY s t [] .non)) := sAsg_nw (cLst_args args_nil (Nat.zero_le _)) rfl
      have lw : (ways (n + 1) s t).length ≤ 100 := by
        have q := List.all_eq_true.mp ways_few (n + 1) (List.mem_range.mpr (by omega))
        have q := List.all_eq_true.mp q s (List.mem_range.mpr (by omega))
        exact of_decide_eq_true (List.all_eq_true.mp q t (List.mem_range.mpr (by omega)))
      rw [ew] at lw
      obtain ⟨s3', e2⟩ := way_go n s t (fun k hk => ways_ev n (s - (k + 1)) (k + 1) (by omega) (by omega) (by omega) (by omega)) ((List.range (min s t)).reverse) [] .non (fun k hk => by
        rw [List.mem_reverse, List.mem_range] at hk; omega) (by rw [List.length_nil]; omega) rfl (fun k hk r hr => by
        obtain ⟨a1, a2, _⟩ := ways_par _ _ _ r hr
        have := len_sum a1.2
        omega)
      have em : cOpA fMin (aCons (cVar 0) (aCons (cVar 1) aNil)) (ρY s t [] .non) = some (.pu (nD (min s t)), ρY s t [] .non) := by
        have q := cOpA_args (ρ := ρY s t [] .non) (args_pu (a := cVar 0) rfl (args_pu (a := cVar 1) rfl args_nil)) (minI2 (s : Nat) (t : Nat))
        have e : (if ((t : Nat) : Int) < (s : Nat) then ((t : Nat) : Int) else (s : Nat)) = ((min s t : Nat) : Int) := by
          split <;> omega
        rw [e] at q
        exact q
      have ei : iRgDn (cOpA fMin (aCons (cVar 0) (aCons (cVar 1) aNil))) (cC (.int 0)) (ρY s t [] .non) = some (((List.range (min s t)).reverse).map fun k => nD (k + 1), ρY s t [] .non) := by
        have q := iRgDn_eq (i := ((min s t : Nat) : Int)) (j := 0) em (b := cC (.int 0)) rfl (small_nat (by omega)) (by decide)
        have e : (((min s t : Nat) : Int) - 0).toNat = min s t := by omega
        rw [e, downD_one] at q
        exact q
      have ef : sFor (iRgDn (cOpA fMin (aCons (cVar 0) (aCons (cVar 1) aNil))) (cC (.int 0))) (gN 3) (bdWy (r__law_ways n)) (ρY s t [] .non) = some (.nx (ρY s t (ways (n + 1) s t) s3')) := by
        unfold sFor
        rw [ei, ew]
        exact e2
      refine ⟨.pu (.list ((ways (n + 1) s t).map tupD)), ?_, rfl⟩
      have e3 : b__law_ways (r__law_ways n) [.pu (nD s), .pu (nD t), .non, .non, .non] = some (.rt (.pu (.list ((ways (n + 1) s t).map tupD))) (ρY s t (ways (n + 1) s t) s3')) :=
        (sSeq_nx ((sIf_f t1').trans rfl)).trans ((sSeq_nx e1).trans ((sSeq_nx ef).trans (sRet_eq rfl)))
      exact run_rt rfl rfl e3 rfl
end PL

namespace PL
open PySem PySem.Spec PyProof.Rows L2
/-! k75: all piles of few stones, lines -/
def kjs : List (Str × Nat) := [(Str.ofString "heights", 6), (Str.ofString "rims", 7), (Str.ofString "edges", 8), (Str.ofString "lines", 9)]
theorem kj_h : kjs.lookup (gS .h) = some 6 := by kernel_rfl
theorem kj_r : kjs.lookup (gS .r) = some 7 := by kernel_rfl
theorem kj_e : kjs.lookup (gS .e) = some 8 := by kernel_rfl
theorem kj_l : kjs.lookup (gS .l) = some 9 := by kernel_rfl
def dW (g : Gm) (F : List (List Int)) : D := .dict (dV (vW g) F)
def ρA (cu : D) (s : Nat) (s3 s4 s5 : Sl) (F1 F2 F3 F4 : List (List Int)) : Rho := [.io cu, .pu (nD s), .fx kjs, s3, s4, s5, .io (dW .h F1), .io (dW .r F2), .io (dW .e F3), .io (dW .l F4)]
theorem cNst_ev {i j : Nat} {k : FE} {ρ : Rho} {x : Str} {l : List (Str × Nat)} {d : D} (h : k ρ = some (.pu (.str x), ρ)) (hi : ρ[i]? = some (.fx l)) (hl : l.lookup x = some j) (hj : ρ[j]? = some (.io d)) : cNst i k ρ = some (.sl j, ρ) := by
  unfold cNst
  simp only [h, Option.bind_some, ev_stl_pu, hi, hl, hj]
theorem aC_pu {a : FE} {as : FA} {ρ ρ1 ρ2 : Rho} {x : D} {vs : List Vl} (h : a ρ = some (.pu x, ρ1)) (h2 : as ρ1 = some (vs, ρ2)) : aCons a as ρ = some (.pu x :: vs, ρ2) := by
  unfold aCons
  rw [h, Option.bind_some]
  show (as ρ1).bind _ = _
  rw [h2]; rfl
theorem aC_sl {a : FE} {as : FA} {ρ ρ1 ρ2 : Rho} {j : Nat} {vs : List Vl} (h : a ρ = some (.sl j, ρ1)) (h2 : as ρ1 = some (vs, ρ2)) : aCons a as ρ = some (.sl j :: vs, ρ2) := by
  unfold aCons
  rw [h, Option.bind_some]
  show (as ρ1).bind _ = _
  rw [h2]; rfl
theorem nest_call (g : Gm) (cu : D) (s : Nat) (p : List Int) (h : Par p) (hs : p.sum ≤ 7) (F1 F2 F3 F4 : List (List Int)) (k1 : GK F1) (k2 : GK F2) (k3 : GK F3) (k4 : GK F4) (s5 : Sl) :
    ∃ G1 G2 G3 G4, GK G1 ∧ GK G2 ∧ GK G3 ∧ GK G4 ∧ cCall m__law_worth (aCons (cVar 4) (aCons (cVar 3) (aCons (cNst 2 (cVar 4)) aNil))) (ρA cu s (.pu (tupD p)) (.pu (.str (gS g))) s5 F1 F2 F3 F4) = some (.pu (nD (Wt g p)), ρA cu s (.pu (tupD p)) (.pu (.str (gS g))) s5 G1 G2 G3 G4) := by
  cases g with
  | h =>
    obtain ⟨G, hG, e⟩ := worth_ev .h 20 p F1 h (by omega) (by omega) k1
    refine ⟨G, F2, F3, F4, hG, k2, k3, k4, ?_⟩
    have n := cNst_ev (i := 2) (j := 6) (k := cVar 4) (ρ := ρA cu s (.pu (tupD p)) (.pu (.str (gS .h))) s5 F1 F2 F3 F4) rfl rfl kj_h rfl
    have a : aCons (cVar 4) (aCons (cVar 3) (aCons (cNst 2 (cVar 4)) aNil)) (ρA cu s (.pu (tupD p)) (.pu (.str (gS .h))) s5 F1 F2 F3 F4) = some ([.pu (.str (gS .h)), .pu (tupD p), .sl 6], ρA cu s (.pu (tupD p)) (.pu (.str (gS .h))) s5 F1 F2 F3 F4) := by
      exact aC_pu rfl (aC_pu rfl (aC_sl n rfl))
    unfold cCall
    rw [a, Option.bind_some]
    show (if [6].Nodup then (r__law_worth 20 [.v (.str (gS .h)), .v (tupD p), .m (.dict (dV (vW .h) F1))]).bind _ else none) = _
    rw [if_pos (by decide), e]
    rfl
  | r =>
    obtain ⟨G, hG, e⟩ := worth_ev .r 20 p F2 h (by omega) (by omega) k2
    refine ⟨F1, G, F3, F4, k1, hG, k3, k4, ?_⟩
    have n := cNst_ev (i := 2) (j := 7) (k := cVar 4) (ρ := ρA cu s (.pu (tupD p)) (.pu (.str (gS .r))) s5 F1 F2 F3 F4) rfl rfl kj_r rfl
    have a : aCons (cVar 4) (aCons (cVar 3) (aCons (cNst 2 (cVar 4)) aNil)) (ρA cu s (.pu (tupD p)) (.pu (.str (gS .r))) s5 F1 F2 F3 F4) = some ([.pu (.str (gS .r)), .pu (tupD p), .sl 7], ρA cu s (.pu (tupD p)) (.pu (.str (gS .r))) s5 F1 F2 F3 F4) := by
      exact aC_pu rfl (aC_pu rfl (aC_sl n rfl))
    unfold cCall
    rw [a, Option.bind_some]
    show (if [7].Nodup then (r__law_worth 20 [.v (.str (gS .r)), .v (tupD p), .m (.dict (dV (vW .r) F2))]).bind _ else none) = _
    rw [if_pos (by decide), e]
    rfl
  | e =>
    obtain ⟨G, hG, e⟩ := worth_ev .e 20 p F3 h (by omega) (by omega) k3
    refine ⟨F1, F2, G, F4, k1, k2, hG, k4, ?_⟩
    have n := cNst_ev (i := 2) (j := 8) (k := cVar 4) (ρ := ρA cu s (.pu (tupD p)) (.pu (.str (gS .e))) s5 F1 F2 F3 F4) rfl rfl kj_e rfl
    have a : aCons (cVar 4) (aCons (cVar 3) (aCons (cNst 2 (cVar 4)) aNil)) (ρA cu s (.pu (tupD p)) (.pu (.str (gS .e))) s5 F1 F2 F3 F4) = some ([.pu (.str (gS .e)), .pu (tupD p), .sl 8], ρA cu s (.pu (tupD p)) (.pu (.str (gS .e))) s5 F1 F2 F3 F4) := by
      exact aC_pu rfl (aC_pu rfl (aC_sl n rfl))
    unfold cCall
    rw [a, Option.bind_some]
    show (if [8].Nodup then (r__law_worth 20 [.v (.str (gS .e)), .v (tupD p), .m (.dict (dV (vW .e) F3))]).bind _ else none) = _
    rw [if_pos (by decide), e]
    rfl
  | l =>
    obtain ⟨G, hG, e⟩ := worth_ev .l 20 p F4 h (by omega) (by omega) k4
    refine ⟨F1, F2, F3, G, k1, k2, k3, hG, ?_⟩
    have n := cNst_ev (i := 2) (j := 9) (k := cVar 4) (ρ := ρA cu s (.pu (tupD p)) (.pu (.str (gS .l))) s5 F1 F2 F3 F4) rfl rfl kj_l rfl
    have a : aCons (cVar 4) (aCons (cVar 3) (aCons (cNst 2 (cVar 4)) aNil)) (ρA cu s (.pu (tupD p)) (.pu (.str (gS .l))) s5 F1 F2 F3 F4) = some ([.pu (.str (gS .l)), .pu (tupD p), .sl 9], ρA cu s (.pu (tupD p)) (.pu (.str (gS .l))) s5 F1 F2 F3 F4) := by
      exact aC_pu rfl (aC_pu rfl (aC_sl n rfl))
    unfold cCall
    rw [a, Option.bind_some]
    show (if [9].Nodup then (r__law_worth 20 [.v (.str (gS .l)), .v (tupD p), .m (.dict (dV (vW .l) F4))]).bind _ else none) = _
    rw [if_pos (by decide), e]
    rfl
theorem like_2 (a : Nat) (c : D) (hc : narrow 1000 c = true) (hd : c.depth = 0) : m__law_like [.v (.list [nD a, c]), .v (.list [nD a, c])] = some (.pu (.bool true), []) := by
  refine e_like _ ?_ (dep_flat _ fun d hd' => ?_)
  · show (decide (2 ≤ 1000) && (true && (narrow 1000 c && true))) = true
    rw [hc]; rfl
  · simp only [List.mem_cons, List.not_mem_nil, or_false] at hd'
    rcases hd' with rfl | rfl
    · exact dep_i _
    · exact hd
def bdG : FS := (sSeq (sAsg 5 (cCall m__law_worth (aCons (cVar 4) (aCons (cVar 3) (aCons (cNst 2 (cVar 4)) aNil)))))
  (sIf (tNot (tTru' (cCall m__law_like (aCons (cLst (aCons (cCall m_game_worth (aCons (cVar 4) (aCons (cVar 3) aNil))) (aCons (cCall m_is_won (aCons (cVar 4) (aCons (cVar 3) aNil))) aNil))) (aCons (cLst (aCons (cVar 5) (aCons (cOp2 opNe (cVar 5) (cC (.int 0))) aNil))) aNil))))) (sRet (cC (.bool false))) sPass))
theorem g_body (g : Gm) (cu : D) (s : Nat) (p : List Int) (h : Par p) (hs : p.sum ≤ 7) (F1 F2 F3 F4 : List (List Int)) (k1 : GK F1) (k2 : GK F2) (k3 : GK F3) (k4 : GK F4) (s4 s5 : Sl) (h4 : plainS (some s4) = true) (h5 : plainS (some s5) = true) :
    ∃ ρ1 G1 G2 G3 G4 s4' s5', GK G1 ∧ GK G2 ∧ GK G3 ∧ GK G4 ∧ plainS (some s4') = true ∧ plainS (some s5') = true ∧ gN 4 (.str (gS g)) (ρA cu s (.pu (tupD p)) s4 s5 F1 F2 F3 F4) = some ρ1 ∧ bdG ρ1 = some (.nx (ρA cu s (.pu (tupD p)) s4' s5' G1 G2 G3 G4)) := by
  obtain ⟨G1, G2, G3, G4, q1, q2, q3, q4, e⟩ := nest_call g cu s p h hs F1 F2 F3 F4 k1 k2 k3 k4 s5
  refine ⟨ρA cu s (.pu (tupD p)) (.pu (.str (gS g))) s5 F1 F2 F3 F4, G1, G2, G3, G4, .pu (.str (gS g)), .pu (nD (Wt g p)), q1, q2, q3, q4, rfl, rfl, by rcases plain_or h4 with rfl | ⟨d, rfl⟩ <;> rfl, ?_⟩
  let R := ρA cu s (.pu (tupD p)) (.pu (.str (gS g))) (.pu (nD (Wt g p))) G1 G2 G3 G4
  have e1 : sAsg 5 (cCall m__law_worth (aCons (cVar 4) (aCons (cVar 3) (aCons (cNst 2 (cVar 4)) aNil)))) (ρA cu s (.pu (tupD p)) (.pu (.str (gS g))) s5 F1 F2 F3 F4) = some (.nx R) := sAsg_pu e (by rcases plain_or h5 with rfl | ⟨d, rfl⟩ <;> rfl)
  have fe : FW g p = Wt g p := (few_ok g 7 h hs hs).symm
  have w1 := e_game_worth g p h (by omega) (fun _ => by omega)
  have w2 := e_is_won g p h (by omega) (fun _ => by omega)
  rw [fe] at w1 w2
  have l1 : cLst (aCons (cCall m_game_worth (aCons (cVar 4) (aCons (cVar 3) aNil))) (aCons (cCall m_is_won (aCons (cVar 4) (aCons (cVar 3) aNil))) aNil)) R = some (.nw (.list [nD (Wt g p), .bool (decide (0 < Wt g p))]), R) :=
    cLst_args (args_pu (cCall_args (args_pu rfl (args_pu rfl args_nil)) w1) (args_pu (cCall_args (args_pu rfl (args_pu rfl args_nil)) w2) args_nil)) two_le
  have l2 : cLst (aCons (cVar 5) (aCons (cOp2 opNe (cVar 5) (cC (.int 0))) aNil)) R = some (.nw (.list [nD (Wt g p), .bool (decide (0 < Wt g p))]), R) :=
    cLst_args (args_pu rfl (args_pu (cOp2_pu (a := cVar 5) (b := cC (.int 0)) rfl rfl (bool_ne _)) args_nil)) two_le
  have e2 := like_run l1 rfl l2 rfl (like_2 (Wt g p) (.bool (decide (0 < Wt g p))) rfl (dep_b _))
  exact (sSeq_nx e1).trans ((sIf_f (not_f e2)).trans rfl)
theorem g_go (cu : D) (s : Nat) (p : List Int) (h : Par p) (hs : p.sum ≤ 7) : ∀ (gs : List Gm) (F1 F2 F3 F4 : List (List Int)) (s4 s5 : Sl), GK F1 → GK F2 → GK F3 → GK F4 → plainS (some s4) = true → plainS (some s5) = true →
    ∃ G1 G2 G3 G4 s4' s5', GK G1 ∧ GK G2 ∧ GK G3 ∧ GK G4 ∧ plainS (some s4') = true ∧ plainS (some s5') = true ∧ forGo (gN 4) bdG (gs.map fun g => .str (gS g)) (ρA cu s (.pu (tupD p)) s4 s5 F1 F2 F3 F4) = some (.nx (ρA cu s (.pu (tupD p)) s4' s5' G1 G2 G3 G4))
  | [], F1, F2, F3, F4, s4, s5, k1, k2, k3, k4, h4, h5 => ⟨F1, F2, F3, F4, s4, s5, k1, k2, k3, k4, h4, h5, rfl⟩
  | g :: gs, F1, F2, F3, F4, s4, s5, k1, k2, k3, k4, h4, h5 => by
    obtain ⟨ρ1, G1, G2, G3, G4, t4, t5, q1, q2, q3, q4, w4, w5, e1, e2⟩ := g_body g cu s p h hs F1 F2 F3 F4 k1 k2 k3 k4 s4 s5 h4 h5
    obtain ⟨H1, H2, H3, H4, u4, u5, z1, z2, z3, z4, y4, y5, e3⟩ := g_go cu s p h hs gs G1 G2 G3 G4 t4 t5 q1 q2 q3 q4 w4 w5
    exact ⟨H1, H2, H3, H4, u4, u5, z1, z2, z3, z4, y4, y5, (forGo_nx e1 e2).trans e3⟩
theorem ne_nat (a : Nat) : opNe (nD a) (nD a) = some (.bool false) := ne_self _ rfl (by show (PyData.int (a : Nat)).depth ≤ 64; rw [dep_i]; omega)
theorem turn_sum' {p : List Int} (h : Par p) : (turnI p).sum = p.sum := by
  have ht := turn_par h.fall
  have c1 := flat_sum (fun q => (List.range q.1.toNat).map fun c => (q.2, c)) (fun q => by rw [List.length_map, List.length_range]) p 0 h.fall.2
  have c2 := flat_sum (fun q => (List.range q.1.toNat).map fun c => (q.2, c)) (fun q => by rw [List.length_map, List.length_range]) (turnI p) 0 ht.fall.2
  have c3 := (sqs_turn h).length_eq
  rw [List.length_map] at c3
  have c1 : ((sqs p).length : Int) = p.sum := c1
  have c2 : ((sqs (turnI p)).length : Int) = (turnI p).sum := c2
  omega
theorem lines_turn {p : List Int} (h : Par p) (hs : p.sum ≤ 24) : m_game_worth [.v (.str (gS .l)), .v (tupD (turnI p))] = some (.pu (nD (Wt .l p)), []) := by
  have ts := turn_sum' h
  have q := e_game_worth .l (turnI p) (turn_par h.fall) (by omega) (fun _ => by omega)
  rw [show FW .l (turnI p) = Wt .l p from Wt_turn .l (fun z => nomatch z) p.sum.toNat h (by have := par_nn h; omega)] at q
  exact q
def bdP : FS := (sSeq (sFor (iE gamesE) (gN 4) bdG)
  (sIf (tBl (cOp2 opNe (cCall m_game_worth (aCons (cC (.str (Str.ofString "lines"))) (aCons (cCall m_turned (aCons (cVar 3) aNil)) aNil))) (cCall m_game_worth (aCons (cC (.str (Str.ofString "lines"))) (aCons (cVar 3) aNil))))) (sRet (cC (.bool false))) sPass))
theorem p_go (cu : D) (s : Nat) : ∀ (ps : List (List Int)) (F1 F2 F3 F4 : List (List Int)) (s3 s4 s5 : Sl), (∀ p ∈ ps, Par p ∧ p.sum ≤ 7) → GK F1 → GK F2 → GK F3 → GK F4 → plainS (some s3) = true → plainS (some s4) = true → plainS (some s5) = true →
    ∃ G1 G2 G3 G4 s3' s4' s5', forGo (gN 3) bdP (ps.map tupD) (ρA cu s s3 s4 s5 F1 F2 F3 F4) = some (.nx (ρA cu s s3' s4' s5' G1 G2 G3 G4))
  | [], F1, F2, F3, F4, s3, s4, s5, _, _, _, _, _, _, _, _ => ⟨F1, F2, F3, F4, s3, s4, s5, rfl⟩
  | p :: ps, F1, F2, F3, F4, s3, s4, s5, hp, k1, k2, k3, k4, h3, h4, h5 => by
    obtain ⟨h, hs⟩ := hp p List.mem_cons_self
    obtain ⟨G1, G2, G3, G4, t4, t5, q1, q2, q3, q4, w4, w5, e1⟩ := g_go cu s p h hs [.h, .r, .e, .l] F1 F2 F3 F4 s4 s5 k1 k2 k3 k4 h4 h5
    obtain ⟨H1, H2, H3, H4, u3, u4, u5, e2⟩ := p_go cu s ps G1 G2 G3 G4 (.pu (tupD p)) t4 t5 (fun q hq => hp q (List.mem_cons_of_mem _ hq)) q1 q2 q3 q4 rfl w4 w5
    refine ⟨H1, H2, H3, H4, u3, u4, u5, ?_⟩
    have e0 : gN 3 (tupD p) (ρA cu s s3 s4 s5 F1 F2 F3 F4) = some (ρA cu s (.pu (tupD p)) s4 s5 F1 F2 F3 F4) := by rcases plain_or h3 with rfl | ⟨d, rfl⟩ <;> rfl
    have ef : sFor (iE gamesE) (gN 4) bdG (ρA cu s (.pu (tupD p)) s4 s5 F1 F2 F3 F4) = some (.nx (ρA cu s (.pu (tupD p)) t4 t5 G1 G2 G3 G4)) := (sFor_eq (games_ev _)).trans e1
    have en := tBl_eq (cOp2_pu (op := opNe) (ρ := ρA cu s (.pu (tupD p)) t4 t5 G1 G2 G3 G4) (a := cCall m_game_worth (aCons (cC (.str (Str.ofString "lines"))) (aCons (cCall m_turned (aCons (cVar 3) aNil)) aNil))) (b := cCall m_game_worth (aCons (cC (.str (Str.ofString "lines"))) (aCons (cVar 3) aNil)))
      (cCall_args (args_pu rfl (args_pu (cCall_args (args_pu rfl args_nil) (e_turned' h (by omega))) args_nil)) (lines_turn h (by omega))) (cCall_args (args_pu rfl (args_pu rfl args_nil)) (e_game_worth .l p h (by omega) (fun _ => by omega))) (ne_nat (Wt .l p)))
    have eb : bdP (ρA cu s (.pu (tupD p)) s4 s5 F1 F2 F3 F4) = some (.nx (ρA cu s (.pu (tupD p)) t4 t5 G1 G2 G3 G4)) := (sSeq_nx ef).trans ((sIf_f en).trans rfl)
    exact (forGo_nx e0 eb).trans e2
theorem gk_nil : GK [] := ⟨List.nodup_nil, fun k hk => nomatch hk⟩
theorem e_all_right (cu : D) (s : Nat) (hs : s ≤ 7) : m__law_all_right [.m cu, .v (nD s)] = some (.pu (.bool true), [cu]) := by
  obtain ⟨v, ew, hv⟩ := ways_ev 8 s s (by omega) (by omega) hs hs
  obtain ⟨G1, G2, G3, G4, s3, s4, s5, e1⟩ := p_go cu s (ways 8 s s) [] [] [] [] .non .non .non (fun p hp => by
    obtain ⟨a1, a2, _⟩ := ways_par _ _ _ p hp
    exact ⟨a1, by omega⟩) gk_nil gk_nil gk_nil gk_nil rfl rfl rfl
  have ei : iE (cCall m__law_ways (aCons (cVar 1) (aCons (cVar 1) aNil))) (ρA cu s .non .non .non [] [] [] []) = some ((ways 8 s s).map tupD, ρA cu s .non .non .non [] [] [] []) := iE_v (cCall_args (args_pu rfl (args_pu rfl args_nil)) ew) hv rfl
  have e2 : b__law_all_right (ρA cu s .non .non .non [] [] [] []) = some (.rt (.pu (.bool true)) (ρA cu s s3 s4 s5 G1 G2 G3 G4)) := (sSeq_nx (a := sFor _ (gN 3) bdP) ((sFor_eq ei).trans e1)).trans (sRet_eq rfl)
  show runNest 2 2 6 _ _ _ _ b__law_all_right [.m cu, .v (nD s)] = _
  unfold runNest
  rw [if_pos (show [Ar.m cu, Ar.v (nD s)].length = 2 from rfl)]
  show (b__law_all_right (ρA cu s .non .non .non [] [] [] [])).bind _ = _
  rw [e2]
  rfl
theorem like_nn (a : Nat) : m__law_like [.v (.list [nD a, nD a]), .v (.list [nD a, nD a])] = some (.pu (.bool true), []) := like_2 a (nD a) rfl (dep_i _)
theorem e_lines_right (cu : D) {p : List Int} (h : Par p) (hs : p.sum ≤ 18) : m__law_lines_right [.m cu, .v (tupD p)] = some (.pu (.bool true), [cu]) := by
  let R : Rho := [.io cu, .pu (tupD p)]
  have l1 : cLst (aCons (cCall m_game_worth (aCons (cC (.str (Str.ofString "lines"))) (aCons (cVar 1) aNil))) (aCons (cCall m_game_worth (aCons (cC (.str (Str.ofString "lines"))) (aCons (cCall m_turned (aCons (cVar 1) aNil)) aNil))) aNil)) R = some (.nw (.list [nD (Wt .l p), nD (Wt .l p)]), R) :=
    cLst_args (args_pu (cCall_args (args_pu rfl (args_pu rfl args_nil)) (e_game_worth .l p h (by omega) (fun _ => by omega))) (args_pu (cCall_args (args_pu rfl (args_pu (cCall_args (args_pu rfl args_nil) (e_turned' h (by omega))) args_nil)) (lines_turn h (by omega))) args_nil)) two_le
  obtain ⟨F', _, ew⟩ := worth_ev .l 20 p [] h (by omega) (by omega) gk_nil
  have l2 : cOp2n opMul (cLst (aCons (cCallD m__law_worth (aCons (cC (.str (Str.ofString "lines"))) (aCons (cVar 1) aNil)) cD0) aNil)) (cC (.int 2)) R = some (.nw (.list [nD (Wt .l p), nD (Wt .l p)]), R) :=
    cOp2n_lp' (cLst_args (args_pu (cCallD_args (xs := [.str (gS .l), tupD p]) (args_pu rfl (args_pu rfl args_nil)) rfl ew) args_nil) one_le') rfl rfl rfl
  have e := like_run l1 rfl l2 rfl (like_nn (Wt .l p))
  exact run_rt rfl rfl (sRet_eq e) rfl
end PL

namespace PL
open PySem PySem.Spec PyProof.Rows L2
/-! k75: one pile, a column; the law -/
theorem ones_par (n : Nat) : Par (List.replicate n 1) := ⟨List.pairwise_replicate.mpr (.inr (by decide)), fun x hx => by rw [(List.mem_replicate.mp hx).2]; decide⟩
theorem ones_sum : ∀ n : Nat, (List.replicate n (1 : Int)).sum = n
  | 0 => rfl
  | n + 1 => by rw [List.replicate_succ, List.sum_cons, ones_sum n]; omega
theorem ones_moves (n : Nat) (x : List Int) : x ∈ gF .l (List.replicate (n + 1) 1) ↔ x = List.replicate n 1 ∨ x = [] := by
  have hn : ¬ (List.replicate (n + 1) (1 : Int) = []) := by rw [List.replicate_succ]; exact fun z => nomatch z
  have e : gF .l (List.replicate (n + 1) 1) = fL (List.replicate (n + 1) 1) := by unfold gF; rw [if_neg hn]
  have er : ∀ r, r < n + 1 → rmL (List.replicate (n + 1) (1 : Int)) r = List.replicate n 1 := fun r hr => by
    unfold rmL
    rw [List.take_replicate, List.drop_replicate, List.replicate_append_replicate]
    congr 1
    omega
  have ec : laidI (colL (List.replicate (n + 1) 1) 0) = [] := by
    unfold colL
    rw [List.map_replicate]
    show laidI (List.replicate (n + 1) 0) = []
    unfold laidI
    have : (List.replicate (n + 1) (0 : Int)).filter (fun n => decide (0 < n)) = [] := by
      rw [List.filter_eq_nil_iff]
      intro a ha
      rw [(List.mem_replicate.mp ha).2]
      decide
    rw [this]
    rfl
  rw [e]
  unfold fL
  rw [List.mem_append, List.mem_map, List.mem_map]
  constructor
  · rintro (⟨r, hr, rfl⟩ | ⟨c, hc, rfl⟩)
    · rw [List.length_replicate] at hr
      exact .inl (er r (List.mem_range.mp hr))
    · have : c = 0 := by
        have := List.mem_range.mp hc
        rw [List.replicate_succ] at this
        simpa using this
      subst this
      exact .inr ec
  · rintro (rfl | rfl)
    · exact .inl ⟨0, by rw [List.length_replicate]; exact List.mem_range.mpr (by omega), er 0 (by omega)⟩
    · exact .inr ⟨0, by rw [List.replicate_succ]; exact List.mem_range.mpr (Nat.zero_lt_one), ec⟩
def dueN (n : Nat) : Nat := if n % 2 = 1 then 1 else 2
theorem ones_worth : ∀ n : Nat, Wt .l (List.replicate (n + 1) 1) = dueN (n + 1)
  | 0 => by
    rw [Wt_rec .l (ones_par 1)]
    refine mex_eq (k := 1) (fun h => ?_) fun j hj => ?_
    · obtain ⟨x, hx, e⟩ := List.mem_map.mp h
      rcases (ones_moves 0 x).mp hx with rfl | rfl <;> exact absurd e (by decide)
    · have : j = 0 := by omega
      subst this
      exact List.mem_map.mpr ⟨[], (ones_moves 0 []).mpr (.inr rfl), rfl⟩
  | n + 1 => by
    have ih := ones_worth n
    rw [Wt_rec .l (ones_par (n + 2))]
    have w0 : Wt .l [] = 0 := rfl
    have m0 : ((0 : Nat) : Int) ∈ (gF .l (List.replicate (n + 2) 1)).map fun q => ((Wt .l q : Nat) : Int) := List.mem_map.mpr ⟨[], (ones_moves (n + 1) []).mpr (.inr rfl), rfl⟩
    have m1 : ((dueN (n + 1) : Nat) : Int) ∈ (gF .l (List.replicate (n + 2) 1)).map fun q => ((Wt .l q : Nat) : Int) := List.mem_map.mpr ⟨_, (ones_moves (n + 1) _).mpr (.inl rfl), by rw [ih]⟩
    have mm : ∀ z : Int, z ∈ (gF .l (List.replicate (n + 2) 1)).map (fun q => ((Wt .l q : Nat) : Int)) → z = (dueN (n + 1) : Nat) ∨ z = 0 := fun z hz => by
      obtain ⟨x, hx, rfl⟩ := List.mem_map.mp hz
      rcases (ones_moves (n + 1) x).mp hx with rfl | rfl
      · exact .inl (by rw [ih])
      · exact .inr (by rw [w0]; rfl)
    by_cases h : (n + 1) % 2 = 1
    · have d1 : dueN (n + 1) = 1 := by unfold dueN; rw [if_pos h]
      have d2 : dueN (n + 1 + 1) = 2 := by unfold dueN; rw [if_neg (by omega)]
      rw [d2]
      rw [d1] at m1 mm
      refine mex_eq (fun hz => by rcases mm _ hz with z | z <;> omega) fun j hj => ?_
      rcases (show j = 0 ∨ j = 1 by omega) with rfl | rfl
      · exact m0
      · exact m1
    · have d1 : dueN (n + 1) = 2 := by unfold dueN; rw [if_neg h]
      have d2 : dueN (n + 1 + 1) = 1 := by unfold dueN; rw [if_pos (by omega)]
      rw [d2]
      rw [d1] at mm
      refine mex_eq (fun hz => by rcases mm _ hz with z | z <;> omega) fun j hj => ?_
      have : j = 0 := by omega
      subst this
      exact m0
theorem one_all : ((List.range 25).all fun n => n == 0 || (FW .h [(n : Int)] == n && FW .r [(n : Int)] == n && FW .r (List.replicate n 1) == n && FW .e [(n : Int)] == dueN n && FW .h (List.replicate n 1) == n % 2)) = true := by decide +kernel
theorem like_nats (l : List Nat) (hl : l.length ≤ 1000) : m__law_like [.v (.list (l.map nD)), .v (.list (l.map nD))] = some (.pu (.bool true), []) := by
  refine e_like _ ?_ (dep_flat _ fun d hd => ?_)
  · show (decide ((l.map nD).length ≤ 1000) && narrowAll 1000 (l.map nD)) = true
    have e : l.map nD = (l.map fun n : Nat => (n : Int)).map PyData.int := by rw [List.map_map]; rfl
    rw [List.length_map, decide_eq_true hl, e, narrowAll_ints]
    rfl
  · obtain ⟨n, _, rfl⟩ := List.mem_map.mp hd
    exact dep_i _
def ρZ (x : D) (a b : Int) (s2 s3 s4 s5 s6 s7 s8 s9 : Sl) : Rho := [.pu x, .own (cupD a b), s2, s3, s4, s5, s6, s7, s8, s9]
theorem piles_ev {x : D} {a b : Int} {s2 s3 s4 s5 s6 s7 s8 s9 : Sl} {e : FE} {n : Nat} (hc : CupOk a b) (hn : n ≤ 300) (he : e (ρZ x a b s2 s3 s4 s5 s6 s7 s8 s9) = some (.pu (nD n), ρZ x a b s2 s3 s4 s5 s6 s7 s8 s9)) :
    ∃ p a' b', Par p ∧ p.sum ≤ n ∧ CupOk a' b' ∧ cCall m__law_piles (aCons (cVar 1) (aCons e aNil)) (ρZ x a b s2 s3 s4 s5 s6 s7 s8 s9) = some (.pu (tupD p), ρZ x a' b' s2 s3 s4 s5 s6 s7 s8 s9) := by
  obtain ⟨p, a', b', h1, h2, h3, e1⟩ := e_law_piles a b n hc hn
  exact ⟨p, a', b', h1, h2, h3, cCall_io (i := 1) rfl (args_pu he args_nil) rfl e1 rfl⟩
theorem rollZ {x : D} {a b : Int} {s2 s3 s4 s5 s6 s7 s8 s9 : Sl} (n : Int) (hc : CupOk a b) (h0 : 0 < n) (hn : n ≤ 300) :
    ∃ (r : Nat) (a' b' : Int), (r : Int) < n ∧ CupOk a' b' ∧ cCall m__law_roll (aCons (cVar 1) (aCons (cC (.int n)) aNil)) (ρZ x a b s2 s3 s4 s5 s6 s7 s8 s9) = some (.pu (nD r), ρZ x a' b' s2 s3 s4 s5 s6 s7 s8 s9) := by
  obtain ⟨r, a', b', e1, k1, k2, k3⟩ := e_roll a b n hc (by omega) (by omega)
  have er : nD r.toNat = .int r := by unfold nD; congr 1; omega
  refine ⟨r.toNat, a', b', by omega, k3, ?_⟩
  rw [er]
  exact cCall_io (i := 1) rfl (args_pu rfl args_nil) rfl e1 rfl
def bdM : FS := (sIf (tNot (tTru' (cCall m__law_right (aCons (cVar 1) (aCons (cCall m__law_piles (aCons (cVar 1) (aCons (cVar 4) aNil))) aNil))))) (sRet (cC (.bool false))) sPass)
theorem m_go (x : D) (s2 s3 s5 s6 s7 s8 s9 : Sl) : ∀ (ms : List Nat) (a b : Int) (s4 : Sl), (∀ m ∈ ms, m ≤ 300) → CupOk a b → plainS (some s4) = true → ∃ a' b' s4', CupOk a' b' ∧ plainS (some s4') = true ∧ forGo (gN 4) bdM (ms.map nD) (ρZ x a b s2 s3 s4 s5 s6 s7 s8 s9) = some (.nx (ρZ x a' b' s2 s3 s4' s5 s6 s7 s8 s9))
  | [], a, b, s4, _, hc, h4 => ⟨a, b, s4, hc, h4, rfl⟩
  | m :: ms, a, b, s4, hm, hc, h4 => by
    have hm0 := hm m List.mem_cons_self
    obtain ⟨p, a1, b1, h1, h2, hc1, e⟩ := piles_ev (x := x) (a := a) (b := b) (s2 := s2) (s3 := s3) (s4 := .pu (nD m)) (s5 := s5) (s6 := s6) (s7 := s7) (s8 := s8) (s9 := s9) (e := cVar 4) (n := m) hc hm0 rfl
    have ec : cCall m__law_right (aCons (cVar 1) (aCons (cCall m__law_piles (aCons (cVar 1) (aCons (cVar 4) aNil))) aNil)) (ρZ x a b s2 s3 (.pu (nD m)) s5 s6 s7 s8 s9) = some (.pu (.bool true), ρZ x a1 b1 s2 s3 (.pu (nD m)) s5 s6 s7 s8 s9) :=
      cCall_io (i := 1) rfl (args_pu e args_nil) rfl (e_law_right (cupD a1 b1) h1 (by omega)) rfl
    obtain ⟨a', b', s4', hc', k4, e2⟩ := m_go x s2 s3 s5 s6 s7 s8 s9 ms a1 b1 (.pu (nD m)) (fun z hz => hm z (List.mem_cons_of_mem _ hz)) hc1 rfl
    refine ⟨a', b', s4', hc', k4, ?_⟩
    have e0 : gN 4 (nD m) (ρZ x a b s2 s3 s4 s5 s6 s7 s8 s9) = some (ρZ x a b s2 s3 (.pu (nD m)) s5 s6 s7 s8 s9) := by rcases plain_or h4 with rfl | ⟨d, rfl⟩ <;> rfl
    exact (forGo_nx e0 ((sIf_f (not_f ec)).trans rfl)).trans e2
end PL

namespace PL
open PySem PySem.Spec PyProof.Rows L2
/-! k75: the law -/
def gwE (g : Gm) (e : FE) : FE := cCall m_game_worth (aCons (cC (.str (gS g))) (aCons e aNil))
theorem gw_ev {g : Gm} {e : FE} {ρ : Rho} {p : List Int} {n : Nat} (he : e ρ = some (.pu (tupD p), ρ)) (h : Par p) (hs : p.sum ≤ 24) (hn : FW g p = n) : gwE g e ρ = some (.pu (nD n), ρ) := by
  have q := e_game_worth g p h (by omega) (fun _ => hs)
  rw [hn] at q
  exact cCall_args (args_pu rfl (args_pu he args_nil)) q
theorem par_32 : Par [3, 2] := ⟨by decide, by decide⟩
theorem par_22 : Par [2, 2] := ⟨by decide, by decide⟩
theorem par_21 : Par [2, 1] := ⟨by decide, by decide⟩
/-- the worths of lines up to five stones -/
def tabL : List (List Int × Nat) := [([], 0), ([1], 1), ([2], 2), ([1, 1], 2), ([3], 1), ([2, 1], 0), ([1, 1, 1], 1), ([4], 2), ([3, 1], 3), ([2, 2], 0), ([2, 1, 1], 3), ([1, 1, 1, 1], 2), ([5], 1), ([4, 1], 0), ([3, 2], 3), ([3, 1, 1], 0), ([2, 2, 1], 3), ([2, 1, 1, 1], 0), ([1, 1, 1, 1, 1], 1)]
def fT (p : List Int) : Nat := (tabL.lookup p).getD 0
theorem tab_all : ((List.range 6).all fun s => (ways 25 s s).all fun p => decide (mex ((gF .l p).map fun q => ((fT q : Nat) : Int)) = fT p)) = true := by decide +kernel
theorem tab_ok : ∀ (n : Nat) {p : List Int}, Par p → p.sum ≤ 5 → p.sum ≤ n → Wt .l p = fT p := by
  intro n
  have base : ∀ {p : List Int}, Par p → p.sum ≤ 5 → mex ((gF .l p).map fun q => ((fT q : Nat) : Int)) = fT p := fun {p} h h7 => by
    have h0 := par_nn h
    have q := List.all_eq_true.mp tab_all p.sum.toNat (List.mem_range.mpr (by omega))
    exact of_decide_eq_true (List.all_eq_true.mp q p (mem_ways p 25 _ _ h (by omega) (fun x hx => by have := le_sum h.fall.2 x hx; omega) (by omega)))
  induction n with
  | zero =>
    intro p h h7 hn
    rw [← base h h7, Wt_rec .l h, sum_nil h hn]
    have e : gF .l [] = [] := by unfold gF; rw [if_pos rfl]
    rw [e]; rfl
  | succ n ih =>
    intro p h h7 hn
    rw [← base h h7, Wt_rec .l h]
    congr 1
    refine List.map_congr_left fun q hq => ?_
    obtain ⟨k1, k2⟩ := moves_par h .l hq
    rw [ih k1 (by omega) (by omega)]
theorem line_32 : FW .l [3, 2] = 3 := (tab_ok 5 par_32 (by decide) (by decide)).trans (by decide +kernel)
def due1 : D := .list [nD 1, nD 5, nD 1, nD 3, .bool true, nD 0]
theorem like_due1 : m__law_like [.v due1, .v due1] = some (.pu (.bool true), []) := e_like due1 (by kernel_rfl) (by decide +kernel)
def toldA : FE := (cLst (aCons (gwE .h (cVar 2)) (aCons (gwE .r (cVar 2)) (aCons (gwE .e (cVar 2)) (aCons (gwE .l (cVar 2)) (aCons (cCall m_is_won (aCons (cC (.str (Str.ofString "rims"))) (aCons (cTup (aCons (cC (.int 2)) (aCons (cC (.int 1)) aNil))) aNil))) aNil))))))
def told0 : D := .list [nD 1, nD 5, nD 1, nD 3, .bool true]
theorem toldA_ev {ρ : Rho} (h : cVar 2 ρ = some (.pu (tupD [3, 2]), ρ)) : toldA ρ = some (.nw told0, ρ) := by
  have w := e_is_won .r [2, 1] par_21 (by decide) (fun z => nomatch z)
  rw [show decide (0 < FW .r [2, 1]) = true from by decide +kernel] at w
  exact cLst_args (args_pu (gw_ev h par_32 (by decide) (by decide +kernel)) (args_pu (gw_ev h par_32 (by decide) (by decide +kernel)) (args_pu (gw_ev h par_32 (by decide) (by decide +kernel)) (args_pu (gw_ev h par_32 (by decide) line_32)
    (args_pu (cCall_args (args_pu rfl (args_pu (cTup_args (args_pu rfl (args_pu rfl args_nil)) two_le) args_nil)) w) args_nil))))) (line_le (by show (5 : Nat) ≤ 1000000; decide))
def toldB : FE := (cOp2n opAdd (cVar 3) (cLst (aCons (gwE .r (cTup (aCons (cC (.int 2)) (aCons (cC (.int 2)) aNil)))) aNil)))
theorem toldB_ev {ρ : Rho} (h : cVar 3 ρ = some (.pu told0, ρ)) : toldB ρ = some (.nw due1, ρ) :=
  cOp2n_pl' h (cLst_args (args_pu (gw_ev (p := [2, 2]) (cTup_args (args_pu rfl (args_pu rfl args_nil)) two_le) par_22 (by decide) (n := 0) (by decide +kernel)) args_nil) one_le') (add_lst _ _ (by decide))
def dueE : FE := (cLst (aCons (cC (.int 1)) (aCons (cC (.int 5)) (aCons (cC (.int 1)) (aCons (cC (.int 3)) (aCons (cC (.bool true)) (aCons (cC (.int 0)) aNil)))))))
theorem dueE_ev (ρ : Rho) : dueE ρ = some (.nw due1, ρ) := cLst_args (args_pu rfl (args_pu rfl (args_pu rfl (args_pu rfl (args_pu rfl (args_pu rfl args_nil)))))) (line_le (by show (6 : Nat) ≤ 1000000; decide))
def rollE (n : Int) : FE := cCall m__law_roll (aCons (cVar 1) (aCons (cC (.int n)) aNil))
def pilE (e : FE) : FE := cCall m__law_piles (aCons (cVar 1) (aCons e aNil))
def ifA : FS := (sIf (tOr (tNot (tTru' (cCall m__law_all_right (aCons (cVar 1) (aCons (rollE 8) aNil))))) (tNot (tTru' (cCall m__law_lines_right (aCons (cVar 1) (aCons (pilE (cC (.int 12))) aNil)))))) (sRet (cC (.bool false))) sPass)
def ifB : FS := (sIf (tAnd (tBl (cOp2 opEq (rollE 4) (cC (.int 0)))) (tNot (tTru' (cCall m__law_lines_right (aCons (cVar 1) (aCons (cVar 5) aNil)))))) (sRet (cC (.bool false))) sPass)
def parE : FS := (sParA [7, 8, 9] (aCons (cTup (aCons (cVar 6) aNil)) (aCons (cOp2n opMul (cTup (aCons (cC (.int 1)) aNil)) (cVar 6)) (aCons (cIf (tBl (cOp2 opEq (cOp2 opMod (cOpA fInt (aCons (cVar 6) aNil)) (cC (.int 2))) (cC (.int 1)))) (cC (.int 1)) (cC (.int 2))) aNil))))
def toldC : FE := (cLst (aCons (gwE .h (cVar 7)) (aCons (gwE .r (cVar 7)) (aCons (gwE .r (cVar 8)) (aCons (gwE .e (cVar 7)) (aCons (gwE .l (cVar 8)) aNil))))))
def toldD : FE := (cOp2n opAdd (cVar 3) (cLst (aCons (gwE .h (cVar 8)) (aCons (gwE .r (cTup aNil)) aNil))))
def dueF : FE := (cLst (aCons (cVar 6) (aCons (cVar 6) (aCons (cVar 6) (aCons (cVar 9) (aCons (cVar 9) (aCons (cOp2 opMod (cOpA fInt (aCons (cVar 6) aNil)) (cC (.int 2))) (aCons (cC (.int 0)) aNil))))))))
theorem b_law_eq : b_law = sSeq (sNew 1 (cCall m__law_cup (aCons (cVar 0) aNil))) (sSeq (sAsg 2 (cTup (aCons (cC (.int 3)) (aCons (cC (.int 2)) aNil)))) (sSeq (sAsg 3 toldA)
  (sSeq (sIf (tNot (tTru' (cCall m__law_like (aCons toldB (aCons dueE aNil))))) (sRet (cC (.bool false))) sPass)
  (sSeq (sFor (iE (cTup (aCons (cC (.int 10)) (aCons (cC (.int 60)) (aCons (cC (.int 300)) aNil))))) (gN 4) bdM) (sSeq ifA (sSeq (sAsg 5 (pilE (cC (.int 18)))) (sSeq ifB
  (sSeq (sAsg 6 (cOp2n opAdd (cC (.int 1)) (rollE 24))) (sSeq parE (sSeq (sAsg 3 toldC) (sRet (cCall m__law_like (aCons toldD (aCons dueF aNil)))))))))))))) := rfl
theorem mulT (n : Nat) (hn : n ≤ 1000) : opMul (.tuple [.int 1]) (.int (n : Nat)) = some (tupD (List.replicate n 1)) := by
  show (if -1000000 ≤ ((n : Nat) : Int) ∧ ((n : Nat) : Int) ≤ 1000000 ∧ 1 * ((n : Nat) : Int).toNat ≤ 1000000 then some (PyData.tuple (List.replicate ((n : Nat) : Int).toNat [PyData.int 1]).flatten) else none) = _
  rw [if_pos (by omega)]
  unfold tupD
  simp
theorem add_one (r : Nat) : opAdd (.int 1) (nD r) = some (nD (r + 1)) := by
  have e : (1 : Int) + (r : Int) = ((r + 1 : Nat) : Int) := by omega
  show some (PyData.int (1 + (r : Int))) = some (PyData.int ((r + 1 : Nat) : Int))
  rw [e]
theorem law_true (ns : List Int) (hz : ns.length ≤ 63) : m_law [.v (.list (ns.map .int))] = some (.pu (.bool true), []) := by
  obtain ⟨a, b, e0, hc⟩ := e_cup ns (by omega)
  generalize hs : PyData.list (ns.map .int) = scr at e0
  have e1 : sNew 1 (cCall m__law_cup (aCons (cVar 0) aNil)) [.pu scr, .non, .non, .non, .non, .non, .non, .non, .non, .non] = some (.nx (ρZ scr a b .non .non .non .non .non .non .non .non)) := sNew_nw (cCall_args (args_pu rfl args_nil) e0) rfl
  have e2 : sAsg 2 (cTup (aCons (cC (.int 3)) (aCons (cC (.int 2)) aNil))) (ρZ scr a b .non .non .non .non .non .non .non .non) = some (.nx (ρZ scr a b (.pu (tupD [3, 2])) .non .non .non .non .non .non .non)) := sAsg_pu (cTup_args (args_pu rfl (args_pu rfl args_nil)) two_le) rfl
  have e3 : sAsg 3 toldA (ρZ scr a b (.pu (tupD [3, 2])) .non .non .non .non .non .non .non) = some (.nx (ρZ scr a b (.pu (tupD [3, 2])) (.pu told0) .non .non .non .non .non .non)) := sAsg_nw (toldA_ev rfl) rfl
  have e4 : cCall m__law_like (aCons toldB (aCons dueE aNil)) (ρZ scr a b (.pu (tupD [3, 2])) (.pu told0) .non .non .non .non .non .non) = some (.pu (.bool true), ρZ scr a b (.pu (tupD [3, 2])) (.pu told0) .non .non .non .non .non .non) := like_run (toldB_ev rfl) rfl (dueE_ev _) rfl like_due1
  obtain ⟨a1, b1, s4, hc1, k4, e5⟩ := m_go scr (.pu (tupD [3, 2])) (.pu told0) .non .non .non .non .non [10, 60, 300] a b .non (by decide) hc rfl
  have ei : iE (cTup (aCons (cC (.int 10)) (aCons (cC (.int 60)) (aCons (cC (.int 300)) aNil)))) (ρZ scr a b (.pu (tupD [3, 2])) (.pu told0) .non .non .non .non .non .non) = some ([10, 60, 300].map nD, ρZ scr a b (.pu (tupD [3, 2])) (.pu told0) .non .non .non .non .non .non) :=
    iE_pu (cTup_args (args_pu rfl (args_pu rfl (args_pu rfl args_nil))) three_le) rfl
  obtain ⟨r, a2, b2, hr, hc2, e6⟩ := rollZ (x := scr) (a := a1) (b := b1) (s2 := .pu (tupD [3, 2])) (s3 := .pu told0) (s4 := s4) (s5 := .non) (s6 := .non) (s7 := .non) (s8 := .non) (s9 := .non) 8 hc1 (by decide) (by decide)
  have e7 : cCall m__law_all_right (aCons (cVar 1) (aCons (rollE 8) aNil)) (ρZ scr a1 b1 (.pu (tupD [3, 2])) (.pu told0) s4 .non .non .non .non .non) = some (.pu (.bool true), ρZ scr a2 b2 (.pu (tupD [3, 2])) (.pu told0) s4 .non .non .non .non .non) :=
    cCall_io (i := 1) rfl (args_pu e6 args_nil) rfl (e_all_right (cupD a2 b2) r (by omega)) rfl
  obtain ⟨p, a3, b3, hp, hps, hc3, e8⟩ := piles_ev (x := scr) (a := a2) (b := b2) (s2 := .pu (tupD [3, 2])) (s3 := .pu told0) (s4 := s4) (s5 := .non) (s6 := .non) (s7 := .non) (s8 := .non) (s9 := .non) (e := cC (.int 12)) (n := 12) hc2 (by decide) rfl
  have e9 : cCall m__law_lines_right (aCons (cVar 1) (aCons (pilE (cC (.int 12))) aNil)) (ρZ scr a2 b2 (.pu (tupD [3, 2])) (.pu told0) s4 .non .non .non .non .non) = some (.pu (.bool true), ρZ scr a3 b3 (.pu (tupD [3, 2])) (.pu told0) s4 .non .non .non .non .non) :=
    cCall_io (i := 1) rfl (args_pu e8 args_nil) rfl (e_lines_right (cupD a3 b3) hp (by omega)) rfl
  have e10 : ifA (ρZ scr a1 b1 (.pu (tupD [3, 2])) (.pu told0) s4 .non .non .non .non .non) = some (.nx (ρZ scr a3 b3 (.pu (tupD [3, 2])) (.pu told0) s4 .non .non .non .non .non)) := (sIf_f (tOr_ff (not_f e7) (not_f e9))).trans rfl
  obtain ⟨q, a4, b4, hq, hqs, hc4, e11⟩ := piles_ev (x := scr) (a := a3) (b := b3) (s2 := .pu (tupD [3, 2])) (s3 := .pu told0) (s4 := s4) (s5 := .non) (s6 := .non) (s7 := .non) (s8 := .non) (s9 := .non) (e := cC (.int 18)) (n := 18) hc3 (by decide) rfl
  have e12 : sAsg 5 (pilE (cC (.int 18))) (ρZ scr a3 b3 (.pu (tupD [3, 2])) (.pu told0) s4 .non .non .non .non .non) = some (.nx (ρZ scr a4 b4 (.pu (tupD [3, 2])) (.pu told0) s4 (.pu (tupD q)) .non .non .non .non)) := sAsg_pu e11 rfl
  obtain ⟨r2, a5, b5, hr2, hc5, e13⟩ := rollZ (x := scr) (a := a4) (b := b4) (s2 := .pu (tupD [3, 2])) (s3 := .pu told0) (s4 := s4) (s5 := .pu (tupD q)) (s6 := .non) (s7 := .non) (s8 := .non) (s9 := .non) 4 hc4 (by decide) (by decide)
  have e14 : ifB (ρZ scr a4 b4 (.pu (tupD [3, 2])) (.pu told0) s4 (.pu (tupD q)) .non .non .non .non) = some (.nx (ρZ scr a5 b5 (.pu (tupD [3, 2])) (.pu told0) s4 (.pu (tupD q)) .non .non .non .non)) := by
    have et := tBl_eq (cOp2_pu (op := opEq) (a := rollE 4) (b := cC (.int 0)) e13 rfl (eqN r2 0))
    have ef := not_f (cCall_io (i := 1) (m := m__law_lines_right) (ρ := ρZ scr a5 b5 (.pu (tupD [3, 2])) (.pu told0) s4 (.pu (tupD q)) .non .non .non .non) (as := aCons (cVar 5) aNil) rfl (args_pu rfl args_nil) rfl (e_lines_right (cupD a5 b5) hq (by omega)) rfl)
    by_cases h : r2 = 0
    · rw [decide_eq_true h] at et
      exact (sIf_f (tAnd_tt et ef)).trans rfl
    · rw [decide_eq_false h] at et
      exact (sIf_f (tAnd_f et)).trans rfl
  obtain ⟨r3, a6, b6, hr3, hc6, e15⟩ := rollZ (x := scr) (a := a5) (b := b5) (s2 := .pu (tupD [3, 2])) (s3 := .pu told0) (s4 := s4) (s5 := .pu (tupD q)) (s6 := .non) (s7 := .non) (s8 := .non) (s9 := .non) 24 hc5 (by decide) (by decide)
  obtain ⟨n, hn⟩ : ∃ n, n = r3 + 1 := ⟨_, rfl⟩
  let R : Sl → Sl → Sl → Sl → Sl → Rho := fun s3 s6 s7 s8 s9 => ρZ scr a6 b6 (.pu (tupD [3, 2])) s3 s4 (.pu (tupD q)) s6 s7 s8 s9
  have e16 : sAsg 6 (cOp2n opAdd (cC (.int 1)) (rollE 24)) (ρZ scr a5 b5 (.pu (tupD [3, 2])) (.pu told0) s4 (.pu (tupD q)) .non .non .non .non) = some (.nx (R (.pu told0) (.pu (nD n)) .non .non .non)) := by
    have ad : opAdd (.int 1) (nD r3) = some (nD n) := by
      rw [hn]
      exact add_one r3
    have e15' : rollE 24 (ρZ scr a5 b5 (.pu (tupD [3, 2])) (.pu told0) s4 (.pu (tupD q)) .non .non .non .non) = some (.pu (nD r3), R (.pu told0) .non .non .non .non) := e15
    have z : cOp2n opAdd (cC (.int 1)) (rollE 24) (ρZ scr a5 b5 (.pu (tupD [3, 2])) (.pu told0) s4 (.pu (tupD q)) .non .non .non .non) = some (.pu (nD n), R (.pu told0) .non .non .non .non) := cOp2n_pu' (x := .int 1) (y := nD r3) rfl e15' ad rfl
    exact sAsg_pu z rfl
  have dn : cIf (tBl (cOp2 opEq (cOp2 opMod (cOpA fInt (aCons (cVar 6) aNil)) (cC (.int 2))) (cC (.int 1)))) (cC (.int 1)) (cC (.int 2)) (R (.pu told0) (.pu (nD n)) .non .non .non) = some (.pu (nD (dueN n)), R (.pu told0) (.pu (nD n)) .non .non .non) := by
    have et := tBl_eq (cOp2_pu (op := opEq) (ρ := R (.pu told0) (.pu (nD n)) .non .non .non) (cOp2_pu (op := opMod) (b := cC (.int 2)) (cOpA_args (args_pu (a := cVar 6) rfl args_nil) (fInt_i _)) rfl (modI _ 2 (by decide))) (b := cC (.int 1)) rfl (opEq_int ((n : Nat) % 2) 1))
    have e : (((n : Nat) : Int) % 2 == 1) = decide (n % 2 = 1) := by
      rw [Bool.eq_iff_iff, beq_iff_eq, decide_eq_true_eq]; omega
    rw [e] at et
    by_cases h : n % 2 = 1
    · rw [decide_eq_true h] at et
      have : dueN n = 1 := by unfold dueN; rw [if_pos h]
      rw [this]
      exact (cIf_t et).trans rfl
    · rw [decide_eq_false h] at et
      have : dueN n = 2 := by unfold dueN; rw [if_neg h]
      rw [this]
      exact (cIf_f et).trans rfl
  have e17 : parE (R (.pu told0) (.pu (nD n)) .non .non .non) = some (.nx (R (.pu told0) (.pu (nD n)) (.pu (tupD [(n : Int)])) (.pu (tupD (List.replicate n 1))) (.pu (nD (dueN n))))) :=
    sParA_args (args_pu (cTup_args (args_pu rfl args_nil) one_le') (args_pu (cOp2n_pu' (cTup_args (args_pu rfl args_nil) one_le') rfl (mulT n (by omega)) rfl) (args_pu dn args_nil))) rfl
  -- what they are
  have al := List.all_eq_true.mp one_all n (List.mem_range.mpr (by omega))
  have n0 : (n == 0) = false := by rw [beq_eq_false_iff_ne]; omega
  rw [n0, Bool.false_or] at al
  simp only [Bool.and_eq_true, beq_iff_eq] at al
  obtain ⟨⟨⟨⟨w1, w2⟩, w3⟩, w4⟩, w5⟩ := al
  have pr : Par [(n : Int)] := ⟨List.pairwise_singleton _ _, fun x hx => by rw [List.mem_singleton] at hx; omega⟩
  have prs : ([(n : Int)]).sum ≤ 24 := by show (n : Int) + 0 ≤ 24; omega
  have pc := ones_par n
  have pcs : (List.replicate n (1 : Int)).sum ≤ 24 := by rw [ones_sum]; omega
  have w6 : FW .l (List.replicate n 1) = dueN n := by
    rw [hn]
    exact ones_worth r3
  let R2 := R (.pu told0) (.pu (nD n)) (.pu (tupD [(n : Int)])) (.pu (tupD (List.replicate n 1))) (.pu (nD (dueN n)))
  let tC : D := .list ([n, n, n, dueN n, dueN n].map nD)
  have e18 : toldC R2 = some (.nw tC, R2) :=
    cLst_args (args_pu (gw_ev rfl pr prs w1) (args_pu (gw_ev rfl pr prs w2) (args_pu (gw_ev rfl pc pcs w3) (args_pu (gw_ev rfl pr prs w4) (args_pu (gw_ev rfl pc pcs w6) args_nil))))) (line_le (by show (5 : Nat) ≤ 1000000; decide))
  let R3 := R (.pu tC) (.pu (nD n)) (.pu (tupD [(n : Int)])) (.pu (tupD (List.replicate n 1))) (.pu (nD (dueN n)))
  have e19 : sAsg 3 toldC R2 = some (.nx R3) := sAsg_nw e18 rfl
  let dF : D := .list ([n, n, n, dueN n, dueN n, n % 2, 0].map nD)
  have e20 : toldD R3 = some (.nw dF, R3) :=
    cOp2n_pl' rfl (cLst_args (args_pu (gw_ev rfl pc pcs w5) (args_pu (gw_ev (p := []) (cTup_args args_nil (Nat.zero_le _)) ⟨List.Pairwise.nil, fun x hx => nomatch hx⟩ (by decide) (n := 0) (by decide +kernel)) args_nil)) two_le) (add_lst _ _ (by show 5 + 2 ≤ 100000; decide))
  have e21 : dueF R3 = some (.nw dF, R3) := by
    have m : cOp2 opMod (cOpA fInt (aCons (cVar 6) aNil)) (cC (.int 2)) R3 = some (.pu (nD (n % 2)), R3) := cOp2_pu (op := opMod) (b := cC (.int 2)) (cOpA_args (args_pu (a := cVar 6) rfl args_nil) (fInt_i _)) rfl (modI _ 2 (by decide))
    exact cLst_args (args_pu rfl (args_pu rfl (args_pu rfl (args_pu rfl (args_pu rfl (args_pu m (args_pu rfl args_nil))))))) (line_le (by show (7 : Nat) ≤ 1000000; decide))
  have e22 : cCall m__law_like (aCons toldD (aCons dueF aNil)) R3 = some (.pu (.bool true), R3) := like_run e20 rfl e21 rfl (like_nats [n, n, n, dueN n, dueN n, n % 2, 0] (by show (7 : Nat) ≤ 1000; decide))
  have fin : b_law [.pu scr, .non, .non, .non, .non, .non, .non, .non, .non, .non] = some (.rt (.pu (.bool true)) R3) := by
    rw [b_law_eq]
    exact (sSeq_nx e1).trans ((sSeq_nx e2).trans ((sSeq_nx e3).trans ((guard e4).trans ((sSeq_nx ((sFor_eq ei).trans e5)).trans ((sSeq_nx e10).trans ((sSeq_nx e12).trans ((sSeq_nx e14).trans ((sSeq_nx e16).trans ((sSeq_nx e17).trans ((sSeq_nx e19).trans (sRet_eq e22)))))))))))
  exact run_rt rfl rfl fin rfl
end PL

namespace PL
open PySem PySem.Spec PyProof.Rows L2
def top (i : Nat) : Stmt := PySem.Challenge.pw_stonepiles_k75_whole_worths_of_games.main.body.getD i (.Pass ⟨0, 0, 0, 0⟩)
abbrev s_is_integer : Stmt := top 7
abbrev s_is_whole : Stmt := top 8
abbrev s_is_tuple_of : Stmt := top 9
abbrev s_is_falling : Stmt := top 10
abbrev s_are_heights : Stmt := top 11
abbrev s_fits_piles : Stmt := top 12
abbrev s_need_piles : Stmt := top 13
abbrev s_turned_in : Stmt := top 14
abbrev s_squares_in : Stmt := top 15
abbrev s_leg_in : Stmt := top 16
abbrev s_hook_rows : Stmt := top 17
abbrev s_hooks_in : Stmt := top 18
abbrev s_laid : Stmt := top 19
abbrev s_turned : Stmt := top 20
abbrev s_need_game : Stmt := top 24
abbrev s_need_game_piles : Stmt := top 25
abbrev s_without_rim : Stmt := top 26
abbrev s_without_column : Stmt := top 27
abbrev s_taken_from_heights : Stmt := top 28
abbrev s_moves_in : Stmt := top 29
abbrev s_least_beside : Stmt := top 30
abbrev s_sum_by_figures : Stmt := top 31
abbrev s_edges_worth : Stmt := top 32
abbrev s_lines_worth : Stmt := top 33
abbrev s_worth_in_game : Stmt := top 34
abbrev s_game_worth : Stmt := top 35
abbrev s_is_won : Stmt := top 36
abbrev s__law_cup : Stmt := top 38
abbrev s__law_roll : Stmt := top 39
abbrev s__law_sort : Stmt := top 40
abbrev s__law_like : Stmt := top 41
abbrev s__law_piles : Stmt := top 42
abbrev s__law_ways : Stmt := top 43
abbrev s__law_hook : Stmt := top 44
abbrev s__law_laid : Stmt := top 45
abbrev s__law_without_rim : Stmt := top 46
abbrev s__law_moves : Stmt := top 47
abbrev s__law_figures : Stmt := top 48
abbrev s__law_worth : Stmt := top 49
abbrev s__law_edges : Stmt := top 50
abbrev s__law_right : Stmt := top 51
abbrev s__law_all_right : Stmt := top 52
abbrev s__law_lines_right : Stmt := top 53
abbrev s_law : Stmt := top 54
structure Tx (K : PySem.W.Frag) (mg : Str → Option Value) : Prop where
  t_GAMES : ∃ a, mg "GAMES" = some (.ref a) ∧ ∀ H, L2.Dp K H (.ref a) (.tuple [.str (Str.ofString "heights"), .str (Str.ofString "rims"), .str (Str.ofString "edges"), .str (Str.ofString "lines")])
  f_isinstance : mg "isinstance" = none
  f_int : mg "int" = none
  f_bool : mg "bool" = none
  f_tuple : mg "tuple" = none
  f_len : mg "len" = none
  f_zip : mg "zip" = none
  f_all : mg "all" = none
  f_sum : mg "sum" = none
  f_max : mg "max" = none
  f_range : mg "range" = none
  f_enumerate : mg "enumerate" = none
  f_sorted : mg "sorted" = none
  f_str : mg "str" = none
  f_list : mg "list" = none
  f_set : mg "set" = none
  f_dict : mg "dict" = none
  f_abs : mg "abs" = none
  f_min : mg "min" = none
  c_MOST : ∃ t, mg "MOST" = some (.int 300 t)
  c_FEW : ∃ t, mg "FEW" = some (.int 24 t)
theorem bt_isinstance : bootBuiltins "isinstance" = some (.builtin "isinstance") := by decide +kernel
theorem bt_int : bootBuiltins "int" = some (.type "int") := by decide +kernel
theorem bt_bool : bootBuiltins "bool" = some (.type "bool") := by decide +kernel
theorem bt_tuple : bootBuiltins "tuple" = some (.type "tuple") := by decide +kernel
theorem bt_len : bootBuiltins "len" = some (.builtin "len") := by decide +kernel
theorem bt_all : bootBuiltins "all" = some (.builtin "all") := by decide +kernel
theorem bt_sum : bootBuiltins "sum" = some (.builtin "sum") := by decide +kernel
theorem bt_max : bootBuiltins "max" = some (.builtin "max") := by decide +kernel
theorem bt_sorted : bootBuiltins "sorted" = some (.builtin "sorted") := by decide +kernel
theorem bt_str : bootBuiltins "str" = some (.type "str") := by decide +kernel
theorem bt_list : bootBuiltins "list" = some (.type "list") := by decide +kernel
theorem bt_set : bootBuiltins "set" = some (.type "set") := by decide +kernel
theorem bt_dict : bootBuiltins "dict" = some (.type "dict") := by decide +kernel
theorem bt_abs : bootBuiltins "abs" = some (.builtin "abs") := by decide +kernel
theorem bt_min : bootBuiltins "min" = some (.builtin "min") := by decide +kernel
section
variable {P : Program} {w : World} {K : PySem.W.Frag} {mg : Str → Option Value} {base : Heap}
theorem sc_is_integer : FnScope ["value"] ["value"] (defScope s_is_integer) := ⟨rfl, rfl, rfl, by decide +kernel, rfl, by decide +kernel, by decide +kernel⟩
theorem ok_is_integer (T : Tx K mg) {f : Addr} {fd : FuncData} (F : FunD K "is_integer" "is_integer" (defArgs s_is_integer) (defBody s_is_integer) (defScope s_is_integer) [] [] f fd)  : FnOk P w K mg base CX0 1 f fd ["value"] (spM K 1 m_is_integer) := by
    have h := fn_ok (P := P) (w := w) (mg := mg) (base := base) (k := 0) (f := b_is_integer) F sc_is_integer (by decide) (fun cdv A outer s H E hr => by
      have nd := (sc_is_integer).nd
      have hu : (A.deeper (envOfC "is_integer" (defScope s_is_integer) s.heap.objs.size f cdv)).units + 65 < cLine := by have := hr.un; omega
      refine PSs.nox ?_
      exact (dss_one (ds_ret (pd_and (pd_isi isi_int rfl T.f_isinstance bt_isinstance (pe_bltn (v := .ty "int") rfl T.f_int bt_int rfl) (pd_var (pv 0))) (pd_one (pd_not (pd_isi isi_bool rfl T.f_isinstance bt_isinstance (pe_bltn (v := .ty "bool") rfl T.f_bool bt_bool rfl) (pd_var (pv 0)))))))))
    exact h
theorem sc_is_whole : FnScope ["value", "low", "high"] ["value", "low", "high"] (defScope s_is_whole) := ⟨rfl, rfl, rfl, by decide +kernel, rfl, by decide +kernel, by decide +kernel⟩
theorem ok_is_whole (T : Tx K mg) {f : Addr} {fd : FuncData} (F : FunD K "is_whole" "is_whole" (defArgs s_is_whole) (defBody s_is_whole) (defScope s_is_whole) [] [] f fd) (C_is_integer : Cal P w K mg base "is_integer" 1 m_is_integer 1) : FnOk P w K mg base CX0 2 f fd ["value", "low", "high"] (spM K 3 m_is_whole) := by
    have h := fn_ok (P := P) (w := w) (mg := mg) (base := base) (k := 1) (f := b_is_whole) F sc_is_whole (by decide) (fun cdv A outer s H E hr => by
      have nd := (sc_is_whole).nd
      have hu : (A.deeper (envOfC "is_whole" (defScope s_is_whole) s.heap.objs.size f cdv)).units + 65 < cLine := by have := hr.un; omega
      refine PSs.nox ?_
      exact (dss_one (ds_ret (pd_and (pd_cal C_is_integer hr (by decide) rfl (len_cons len_nil) (pd_cons (pd_var (pv 0)) pd_nil)) (pd_one (pd_chain so_le so_le (pd_var (pv 1)) (pd_var (pv 0)) (pd_var (pv 2)) (by with_unfolding_all rfl)))))))
    exact h
theorem sc_is_tuple_of : FnScope ["value", "low", "high"] ["value", "low", "high"] (defScope s_is_tuple_of) := ⟨rfl, rfl, rfl, by decide +kernel, rfl, by decide +kernel, by decide +kernel⟩
theorem ok_is_tuple_of (T : Tx K mg) {f : Addr} {fd : FuncData} (F : FunD K "is_tuple_of" "is_tuple_of" (defArgs s_is_tuple_of) (defBody s_is_tuple_of) (defScope s_is_tuple_of) [] [] f fd)  : FnOk P w K mg base CX0 1 f fd ["value", "low", "high"] (spM K 3 m_is_tuple_of) := by
    have h := fn_ok (P := P) (w := w) (mg := mg) (base := base) (k := 0) (f := b_is_tuple_of) F sc_is_tuple_of (by decide) (fun cdv A outer s H E hr => by
      have nd := (sc_is_tuple_of).nd
      have hu : (A.deeper (envOfC "is_tuple_of" (defScope s_is_tuple_of) s.heap.objs.size f cdv)).units + 65 < cLine := by have := hr.un; omega
      refine PSs.nox ?_
      exact (dss_one (ds_ret (pd_and (pd_isi isi_tuple rfl T.f_isinstance bt_isinstance (pe_bltn (v := .ty "tuple") rfl T.f_tuple bt_tuple rfl) (pd_var (pv 0))) (pd_one (pd_chain so_le so_le (pd_var (pv 1)) (pd_callB so_len rfl T.f_len bt_len (pd_cons (pd_var (pv 0)) pd_nil)) (pd_var (pv 2)) (by with_unfolding_all rfl)))))))
    exact h
theorem sc_is_falling : FnScope ["things", "one", "other"] ["things"] (defScope s_is_falling) := ⟨rfl, rfl, rfl, by decide +kernel, rfl, by decide +kernel, by decide +kernel⟩
theorem ok_is_falling (T : Tx K mg) {f : Addr} {fd : FuncData} (F : FunD K "is_falling" "is_falling" (defArgs s_is_falling) (defBody s_is_falling) (defScope s_is_falling) [] [] f fd)  : FnOk P w K mg base CX0 1 f fd ["things"] (spM K 1 m_is_falling) := by
    have h := fn_ok (P := P) (w := w) (mg := mg) (base := base) (k := 0) (f := b_is_falling) F sc_is_falling (by decide) (fun cdv A outer s H E hr => by
      have nd := (sc_is_falling).nd
      have hu : (A.deeper (envOfC "is_falling" (defScope s_is_falling) s.heap.objs.size f cdv)).units + 65 < cLine := by have := hr.un; omega
      refine PSs.nox ?_
      exact (dss_one (ds_ret (pd_callB (so_all rfl) rfl T.f_all bt_all (pd_cons (pd_lcE (own := [("one", 1), ("other", 2)]) rfl nd (pd_zip rfl T.f_zip (pd_var (pv 0)) (pd_slice so_sl (pd_var (pv 0)) (pd_oso pd_int) pd_ono)) (blkOk_by (by kernel_rfl)) (fun _ _ _ _ _ => (pd_gt rfl (pd_gcons (pd_gn (pg_name (i := 1) nd rfl (by first | exact Or.inl rfl | exact Or.inr rfl))) (pd_gcons (pd_gn (pg_name (i := 2) nd rfl (by first | exact Or.inl rfl | exact Or.inr rfl))) pd_gnil)))) (by decide) (fun _ _ _ _ _ => pd_tsnil) (fun _ _ _ _ _ => (pd_cmp so_ge (pd_var (pv 1)) (pd_var (pv 2)) (nomark _)))) pd_nil)))))
    exact h
theorem sc_are_heights : FnScope ["value", "least", "height"] ["value", "least"] (defScope s_are_heights) := ⟨rfl, rfl, rfl, by decide +kernel, rfl, by decide +kernel, by decide +kernel⟩
theorem ok_are_heights (T : Tx K mg) {f : Addr} {fd : FuncData} (F : FunD K "are_heights" "are_heights" (defArgs s_are_heights) (defBody s_are_heights) (defScope s_are_heights) [] [] f fd) (C_is_tuple_of : Cal P w K mg base "is_tuple_of" 3 m_is_tuple_of 1) (C_is_whole : Cal P w K mg base "is_whole" 3 m_is_whole 2) : FnOk P w K mg base CX0 3 f fd ["value", "least"] (spM K 2 m_are_heights) := by
    have h := fn_ok (P := P) (w := w) (mg := mg) (base := base) (k := 2) (f := b_are_heights) F sc_are_heights (by decide) (fun cdv A outer s H E hr => by
      have nd := (sc_are_heights).nd
      have hu : (A.deeper (envOfC "are_heights" (defScope s_are_heights) s.heap.objs.size f cdv)).units + 65 < cLine := by have := hr.un; omega
      refine PSs.nox ?_
      exact (dss_cons (ds_if (pw_pt (pw_or' (pt_not' (pt_tru (pd_cal C_is_tuple_of hr (by decide) rfl (len_cons (len_cons (len_cons len_nil))) (pd_cons (pd_var (pv 0)) (pd_cons pd_int (pd_cons (pd_gint rfl T.c_MOST.choose_spec ⟨_, rfl⟩) pd_nil)))) (fun _ => rfl))) (pw_one (pt_not' (pt_tru (pd_callB (so_all rfl) rfl T.f_all bt_all (pd_cons (pd_lcE (own := [("height", 2)]) rfl nd (pd_iE (pd_var (pv 0))) (blkOk_by (by kernel_rfl)) (fun _ _ _ _ _ => (pd_gn (pg_name (i := 2) nd rfl (by first | exact Or.inl rfl | exact Or.inr rfl)))) (by decide) (fun _ _ _ _ _ => pd_tsnil) (fun _ _ _ _ _ => (pd_cal C_is_whole hr (by decide) rfl (len_cons (len_cons (len_cons len_nil))) (pd_cons (pd_var (pv 2)) (pd_cons (pd_var (pv 1)) (pd_cons (pd_gint rfl T.c_MOST.choose_spec ⟨_, rfl⟩) pd_nil)))))) pd_nil)) (fun _ => rfl)))))) (dss_one (ds_ret pd_bl)) dss_nil)
    (dss_one (ds_ret (pd_cmp so_le (pd_callB (so_sum rfl) rfl T.f_sum bt_sum (pd_cons (pd_var (pv 0)) pd_nil)) (pd_gint rfl T.c_MOST.choose_spec ⟨_, rfl⟩) (nomark _))))))
    exact h
theorem sc_fits_piles : FnScope ["value"] ["value"] (defScope s_fits_piles) := ⟨rfl, rfl, rfl, by decide +kernel, rfl, by decide +kernel, by decide +kernel⟩
theorem ok_fits_piles (T : Tx K mg) {f : Addr} {fd : FuncData} (F : FunD K "fits_piles" "fits_piles" (defArgs s_fits_piles) (defBody s_fits_piles) (defScope s_fits_piles) [] [] f fd) (C_are_heights : Cal P w K mg base "are_heights" 2 m_are_heights 3) (C_is_falling : Cal P w K mg base "is_falling" 1 m_is_falling 1) : FnOk P w K mg base CX0 4 f fd ["value"] (spM K 1 m_fits_piles) := by
    have h := fn_ok (P := P) (w := w) (mg := mg) (base := base) (k := 3) (f := b_fits_piles) F sc_fits_piles (by decide) (fun cdv A outer s H E hr => by
      have nd := (sc_fits_piles).nd
      have hu : (A.deeper (envOfC "fits_piles" (defScope s_fits_piles) s.heap.objs.size f cdv)).units + 65 < cLine := by have := hr.un; omega
      refine PSs.nox ?_
      exact (dss_one (ds_ret (pd_and (pd_cal C_are_heights hr (by decide) rfl (len_cons (len_cons len_nil)) (pd_cons (pd_var (pv 0)) (pd_cons pd_int pd_nil))) (pd_one (pd_cal C_is_falling hr (by decide) rfl (len_cons len_nil) (pd_cons (pd_var (pv 0)) pd_nil)))))))
    exact h
theorem sc_need_piles : FnScope ["value"] ["value"] (defScope s_need_piles) := ⟨rfl, rfl, rfl, by decide +kernel, rfl, by decide +kernel, by decide +kernel⟩
theorem ok_need_piles (T : Tx K mg) {f : Addr} {fd : FuncData} (F : FunD K "need_piles" "need_piles" (defArgs s_need_piles) (defBody s_need_piles) (defScope s_need_piles) [] [] f fd) (C_fits_piles : Cal P w K mg base "fits_piles" 1 m_fits_piles 4) : FnOk P w K mg base CX0 5 f fd ["value"] (spM K 1 m_need_piles) := by
    have h := fn_ok (P := P) (w := w) (mg := mg) (base := base) (k := 4) (f := b_need_piles) F sc_need_piles (by decide) (fun cdv A outer s H E hr => by
      have nd := (sc_need_piles).nd
      have hu : (A.deeper (envOfC "need_piles" (defScope s_need_piles) s.heap.objs.size f cdv)).units + 65 < cLine := by have := hr.un; omega
      refine PSs.nox ?_
      exact (dss_one (ds_if (pt_not' (pt_tru (pd_cal C_fits_piles hr (by decide) rfl (len_cons len_nil) (pd_cons (pd_var (pv 0)) pd_nil)) (fun _ => rfl))) (dss_one ds_never) dss_nil)))
    exact h
theorem sc_turned_in : FnScope ["piles", "column", "height"] ["piles"] (defScope s_turned_in) := ⟨rfl, rfl, rfl, by decide +kernel, rfl, by decide +kernel, by decide +kernel⟩
theorem ok_turned_in (T : Tx K mg) {f : Addr} {fd : FuncData} (F : FunD K "turned_in" "turned_in" (defArgs s_turned_in) (defBody s_turned_in) (defScope s_turned_in) [] [] f fd)  : FnOk P w K mg base CX0 1 f fd ["piles"] (spM K 1 m_turned_in) := by
    have h := fn_ok (P := P) (w := w) (mg := mg) (base := base) (k := 0) (f := b_turned_in) F sc_turned_in (by decide) (fun cdv A outer s H E hr => by
      have nd := (sc_turned_in).nd
      have hu : (A.deeper (envOfC "turned_in" (defScope s_turned_in) s.heap.objs.size f cdv)).units + 65 < cLine := by have := hr.un; omega
      refine PSs.nox ?_
      exact (dss_one (ds_ret (pd_callTy so_tuple rfl T.f_tuple bt_tuple (pd_cons (pd_lcE (own := [("column", 1)]) rfl nd (pd_range1 rfl T.f_range (pd_callB (so_max rfl hu) rfl T.f_max bt_max (pd_cons (pd_op2n so_add (pd_tup (pd_cons pd_int pd_nil)) (pd_var (pv 0))) pd_nil))) (blkOk_by (by kernel_rfl)) (fun _ _ _ _ _ => (pd_gn (pg_name (i := 1) nd rfl (by first | exact Or.inl rfl | exact Or.inr rfl)))) (by decide) (fun _ _ _ _ _ => pd_tsnil) (fun _ _ _ _ _ => (pd_callB so_len rfl T.f_len bt_len (pd_cons (pd_lcE (own := [("height", 2)]) rfl nd (pd_iE (pd_var (pv 0))) (blkOk_by (by kernel_rfl)) (fun _ _ _ _ _ => (pd_gn (pg_name (i := 2) nd rfl (by first | exact Or.inl rfl | exact Or.inr rfl)))) (by decide) (fun _ _ _ _ _ => (pd_tsone (pt_cmp' so_gt (pd_var (pv 2)) (pd_var (pv 1)) (nomark _)))) (fun _ _ _ _ _ => (pd_var (pv 2)))) pd_nil)))) pd_nil)))))
    exact h
theorem sc_squares_in : FnScope ["piles", "column", "row", "height"] ["piles"] (defScope s_squares_in) := ⟨rfl, rfl, rfl, by decide +kernel, rfl, by decide +kernel, by decide +kernel⟩
theorem ok_squares_in (T : Tx K mg) {f : Addr} {fd : FuncData} (F : FunD K "squares_in" "squares_in" (defArgs s_squares_in) (defBody s_squares_in) (defScope s_squares_in) [] [] f fd)  : FnOk P w K mg base CX0 1 f fd ["piles"] (spM K 1 m_squares_in) := by
    have h := fn_ok (P := P) (w := w) (mg := mg) (base := base) (k := 0) (f := b_squares_in) F sc_squares_in (by decide) (fun cdv A outer s H E hr => by
      have nd := (sc_squares_in).nd
      have hu : (A.deeper (envOfC "squares_in" (defScope s_squares_in) s.heap.objs.size f cdv)).units + 65 < cLine := by have := hr.un; omega
      refine PSs.nox ?_
      exact (dss_one (ds_ret (pd_callTy so_tuple rfl T.f_tuple bt_tuple (pd_cons (pd_lc2 (own := [("row", 2), ("height", 3), ("column", 1)]) (vs1 := [1]) rfl nd (pd_enum rfl T.f_enumerate (pd_var (pv 0))) (blkOk_by (by kernel_rfl)) (by decide) (fun _ _ _ _ _ => (pd_gt rfl (pd_gcons (pd_gn (pg_name (i := 2) nd rfl (by first | exact Or.inl rfl | exact Or.inr rfl))) (pd_gcons (pd_gn (pg_name (i := 3) nd rfl (by first | exact Or.inl rfl | exact Or.inr rfl))) pd_gnil)))) (by decide) (fun _ _ _ _ _ => pd_tsnil) (fun _ _ _ _ _ => (pd_range1 rfl T.f_range (pd_var (pv 3)))) (fun _ _ _ _ _ => (pd_gn (pg_name (i := 1) nd rfl (by first | exact Or.inl rfl | exact Or.inr rfl)))) (by decide) (fun _ _ _ _ _ => pd_tsnil) (fun _ _ _ _ _ => (pd_tup (pd_cons (pd_var (pv 2)) (pd_cons (pd_var (pv 1)) pd_nil))))) pd_nil)))))
    exact h
theorem sc_leg_in : FnScope ["piles", "square", "height"] ["piles", "square"] (defScope s_leg_in) := ⟨rfl, rfl, rfl, by decide +kernel, rfl, by decide +kernel, by decide +kernel⟩
theorem ok_leg_in (T : Tx K mg) {f : Addr} {fd : FuncData} (F : FunD K "leg_in" "leg_in" (defArgs s_leg_in) (defBody s_leg_in) (defScope s_leg_in) [] [] f fd)  : FnOk P w K mg base CX0 1 f fd ["piles", "square"] (spM K 2 m_leg_in) := by
    have h := fn_ok (P := P) (w := w) (mg := mg) (base := base) (k := 0) (f := b_leg_in) F sc_leg_in (by decide) (fun cdv A outer s H E hr => by
      have nd := (sc_leg_in).nd
      have hu : (A.deeper (envOfC "leg_in" (defScope s_leg_in) s.heap.objs.size f cdv)).units + 65 < cLine := by have := hr.un; omega
      refine PSs.nox ?_
      exact (dss_one (ds_ret (pd_callB so_len rfl T.f_len bt_len (pd_cons (pd_lcE (own := [("height", 2)]) rfl nd (pd_iE (pd_slice so_sl (pd_var (pv 0)) (pd_oso (pd_op2n so_add (pd_ix so_ix (pd_var (pv 1)) pd_int (fun _ _ => rfl)) pd_int)) pd_ono)) (blkOk_by (by kernel_rfl)) (fun _ _ _ _ _ => (pd_gn (pg_name (i := 2) nd rfl (by first | exact Or.inl rfl | exact Or.inr rfl)))) (by decide) (fun _ _ _ _ _ => (pd_tsone (pt_cmp' so_gt (pd_var (pv 2)) (pd_ix so_ix (pd_var (pv 1)) pd_int (fun _ _ => rfl)) (nomark _)))) (fun _ _ _ _ _ => (pd_var (pv 2)))) pd_nil)))))
    exact h
theorem sc_hook_rows : FnScope ["piles", "columns", "found", "row", "height", "column"] ["piles"] (defScope s_hook_rows) := ⟨rfl, rfl, rfl, by decide +kernel, rfl, by decide +kernel, by decide +kernel⟩
theorem ok_hook_rows (T : Tx K mg) {f : Addr} {fd : FuncData} (F : FunD K "hook_rows" "hook_rows" (defArgs s_hook_rows) (defBody s_hook_rows) (defScope s_hook_rows) [] [] f fd) (C_turned_in : Cal P w K mg base "turned_in" 1 m_turned_in 1) : FnOk P w K mg base CX0 2 f fd ["piles"] (spM K 1 m_hook_rows) := by
    have h := fn_ok (P := P) (w := w) (mg := mg) (base := base) (k := 1) (f := b_hook_rows) F sc_hook_rows (by decide) (fun cdv A outer s H E hr => by
      have nd := (sc_hook_rows).nd
      have hu : (A.deeper (envOfC "hook_rows" (defScope s_hook_rows) s.heap.objs.size f cdv)).units + 65 < cLine := by have := hr.un; omega
      refine PSs.nox ?_
      exact (dss_cons (ds_asg (i := 1) (pd_cal C_turned_in hr (by decide) rfl (len_cons len_nil) (pd_cons (pd_var (pv 0)) pd_nil)) nd rfl (by first | exact Or.inl rfl | exact Or.inr rfl))
    (dss_cons (ds_new (i := 2) (pd_lst pd_nil) nd rfl (by first | exact Or.inl rfl | exact Or.inr rfl))
    (dss_cons (ds_for PassesOwn.never rfl (pd_enum rfl T.f_enumerate (pd_var (pv 0))) (pd_gt rfl (pd_gcons (pd_gn (pg_name (i := 3) nd rfl (by first | exact Or.inl rfl | exact Or.inr rfl))) (pd_gcons (pd_gn (pg_name (i := 4) nd rfl (by first | exact Or.inl rfl | exact Or.inr rfl))) pd_gnil))) (dss_one (ds_app (i := 2) (pv 2) (pd_lcE (own := [("column", 5)]) rfl nd (pd_range1 rfl T.f_range (pd_var (pv 4))) (blkOk_by (by kernel_rfl)) (fun _ _ _ _ _ => (pd_gn (pg_name (i := 5) nd rfl (by first | exact Or.inl rfl | exact Or.inr rfl)))) (by decide) (fun _ _ _ _ _ => pd_tsnil) (fun _ _ _ _ _ => (pd_op2 so_sub (pd_op2n so_add (pd_op2 so_sub (pd_op2 so_sub (pd_var (pv 4)) (pd_var (pv 5))) pd_int) (pd_ix so_ix (pd_var (pv 1)) (pd_var (pv 5)) (fun _ _ => rfl))) (pd_var (pv 3))))))))
    (dss_one (ds_ret (pd_var (pv 2))))))))
    exact h
theorem sc_hooks_in : FnScope ["piles", "row", "hook"] ["piles"] (defScope s_hooks_in) := ⟨rfl, rfl, rfl, by decide +kernel, rfl, by decide +kernel, by decide +kernel⟩
theorem ok_hooks_in (T : Tx K mg) {f : Addr} {fd : FuncData} (F : FunD K "hooks_in" "hooks_in" (defArgs s_hooks_in) (defBody s_hooks_in) (defScope s_hooks_in) [] [] f fd) (C_hook_rows : Cal P w K mg base "hook_rows" 1 m_hook_rows 2) : FnOk P w K mg base CX0 3 f fd ["piles"] (spM K 1 m_hooks_in) := by
    have h := fn_ok (P := P) (w := w) (mg := mg) (base := base) (k := 2) (f := b_hooks_in) F sc_hooks_in (by decide) (fun cdv A outer s H E hr => by
      have nd := (sc_hooks_in).nd
      have hu : (A.deeper (envOfC "hooks_in" (defScope s_hooks_in) s.heap.objs.size f cdv)).units + 65 < cLine := by have := hr.un; omega
      refine PSs.nox ?_
      exact (dss_one (ds_ret (pd_callTy so_tuple rfl T.f_tuple bt_tuple (pd_cons (pd_sortedR rfl T.f_sorted bt_sorted (pd_lc2 (own := [("row", 1), ("hook", 2)]) (vs1 := [2]) rfl nd (pd_iE (pd_cal C_hook_rows hr (by decide) rfl (len_cons len_nil) (pd_cons (pd_var (pv 0)) pd_nil))) (blkOk_by (by kernel_rfl)) (by decide) (fun _ _ _ _ _ => (pd_gn (pg_name (i := 1) nd rfl (by first | exact Or.inl rfl | exact Or.inr rfl)))) (by decide) (fun _ _ _ _ _ => pd_tsnil) (fun _ _ _ _ _ => (pd_iE (pd_var (pv 1)))) (fun _ _ _ _ _ => (pd_gn (pg_name (i := 2) nd rfl (by first | exact Or.inl rfl | exact Or.inr rfl)))) (by decide) (fun _ _ _ _ _ => pd_tsnil) (fun _ _ _ _ _ => (pd_var (pv 2))))) pd_nil)))))
    exact h
theorem sc_laid : FnScope ["heights", "height"] ["heights"] (defScope s_laid) := ⟨rfl, rfl, rfl, by decide +kernel, rfl, by decide +kernel, by decide +kernel⟩
theorem ok_laid (T : Tx K mg) {f : Addr} {fd : FuncData} (F : FunD K "laid" "laid" (defArgs s_laid) (defBody s_laid) (defScope s_laid) [] [] f fd)  : FnOk P w K mg base CX0 1 f fd ["heights"] (spM K 1 m_laid) := by
    have h := fn_ok (P := P) (w := w) (mg := mg) (base := base) (k := 0) (f := b_laid) F sc_laid (by decide) (fun cdv A outer s H E hr => by
      have nd := (sc_laid).nd
      have hu : (A.deeper (envOfC "laid" (defScope s_laid) s.heap.objs.size f cdv)).units + 65 < cLine := by have := hr.un; omega
      refine PSs.nox ?_
      exact (dss_one (ds_ret (pd_callTy so_tuple rfl T.f_tuple bt_tuple (pd_cons (pd_sortedR rfl T.f_sorted bt_sorted (pd_lcE (own := [("height", 1)]) rfl nd (pd_iE (pd_var (pv 0))) (blkOk_by (by kernel_rfl)) (fun _ _ _ _ _ => (pd_gn (pg_name (i := 1) nd rfl (by first | exact Or.inl rfl | exact Or.inr rfl)))) (by decide) (fun _ _ _ _ _ => (pd_tsone (pt_cmp' so_gt (pd_var (pv 1)) pd_int (nomark _)))) (fun _ _ _ _ _ => (pd_var (pv 1))))) pd_nil)))))
    exact h
theorem sc_turned : FnScope ["piles"] ["piles"] (defScope s_turned) := ⟨rfl, rfl, rfl, by decide +kernel, rfl, by decide +kernel, by decide +kernel⟩
theorem ok_turned (T : Tx K mg) {f : Addr} {fd : FuncData} (F : FunD K "turned" "turned" (defArgs s_turned) (defBody s_turned) (defScope s_turned) [] [] f fd) (C_need_piles : Cal P w K mg base "need_piles" 1 m_need_piles 5) (C_turned_in : Cal P w K mg base "turned_in" 1 m_turned_in 1) : FnOk P w K mg base CX0 6 f fd ["piles"] (spM K 1 m_turned) := by
    have h := fn_ok (P := P) (w := w) (mg := mg) (base := base) (k := 5) (f := b_turned) F sc_turned (by decide) (fun cdv A outer s H E hr => by
      have nd := (sc_turned).nd
      have hu : (A.deeper (envOfC "turned" (defScope s_turned) s.heap.objs.size f cdv)).units + 65 < cLine := by have := hr.un; omega
      refine PSs.nox ?_
      exact (dss_cons (ds_exp (pd_cal C_need_piles hr (by decide) rfl (len_cons len_nil) (pd_cons (pd_var (pv 0)) pd_nil)))
    (dss_one (ds_ret (pd_cal C_turned_in hr (by decide) rfl (len_cons len_nil) (pd_cons (pd_var (pv 0)) pd_nil))))))
    exact h
theorem sc_need_game : FnScope ["game"] ["game"] (defScope s_need_game) := ⟨rfl, rfl, rfl, by decide +kernel, rfl, by decide +kernel, by decide +kernel⟩
theorem ok_need_game (T : Tx K mg) {f : Addr} {fd : FuncData} (F : FunD K "need_game" "need_game" (defArgs s_need_game) (defBody s_need_game) (defScope s_need_game) [] [] f fd)  : FnOk P w K mg base CX0 1 f fd ["game"] (spM K 1 m_need_game) := by
    have h := fn_ok (P := P) (w := w) (mg := mg) (base := base) (k := 0) (f := b_need_game) F sc_need_game (by decide) (fun cdv A outer s H E hr => by
      have nd := (sc_need_game).nd
      have hu : (A.deeper (envOfC "need_game" (defScope s_need_game) s.heap.objs.size f cdv)).units + 65 < cLine := by have := hr.un; omega
      refine PSs.nox ?_
      exact (dss_one (ds_if (pw_pt (pw_or' (pt_not' (pt_tru (pd_isi isi_str rfl T.f_isinstance bt_isinstance (pe_bltn (v := .ty "str") rfl T.f_str bt_str rfl) (pd_var (pv 0))) (fun _ => rfl))) (pw_one (pt_ninC hu rfl T.t_GAMES (pd_var (pv 0)))))) (dss_one ds_never) dss_nil)))
    exact h
theorem sc_need_game_piles : FnScope ["game", "piles"] ["game", "piles"] (defScope s_need_game_piles) := ⟨rfl, rfl, rfl, by decide +kernel, rfl, by decide +kernel, by decide +kernel⟩
theorem ok_need_game_piles (T : Tx K mg) {f : Addr} {fd : FuncData} (F : FunD K "need_game_piles" "need_game_piles" (defArgs s_need_game_piles) (defBody s_need_game_piles) (defScope s_need_game_piles) [] [] f fd) (C_need_game : Cal P w K mg base "need_game" 1 m_need_game 1) (C_need_piles : Cal P w K mg base "need_piles" 1 m_need_piles 5) : FnOk P w K mg base CX0 6 f fd ["game", "piles"] (spM K 2 m_need_game_piles) := by
    have h := fn_ok (P := P) (w := w) (mg := mg) (base := base) (k := 5) (f := b_need_game_piles) F sc_need_game_piles (by decide) (fun cdv A outer s H E hr => by
      have nd := (sc_need_game_piles).nd
      have hu : (A.deeper (envOfC "need_game_piles" (defScope s_need_game_piles) s.heap.objs.size f cdv)).units + 65 < cLine := by have := hr.un; omega
      refine PSs.nox ?_
      exact (dss_cons (ds_exp (pd_cal C_need_game hr (by decide) rfl (len_cons len_nil) (pd_cons (pd_var (pv 0)) pd_nil)))
    (dss_one (ds_exp (pd_cal C_need_piles hr (by decide) rfl (len_cons len_nil) (pd_cons (pd_var (pv 1)) pd_nil))))))
    exact h
theorem sc_without_rim : FnScope ["piles", "square", "leg", "pushed", "row", "column", "height"] ["piles", "square"] (defScope s_without_rim) := ⟨rfl, rfl, rfl, by decide +kernel, rfl, by decide +kernel, by decide +kernel⟩
theorem ok_without_rim (T : Tx K mg) {f : Addr} {fd : FuncData} (F : FunD K "without_rim" "without_rim" (defArgs s_without_rim) (defBody s_without_rim) (defScope s_without_rim) [] [] f fd) (C_leg_in : Cal P w K mg base "leg_in" 2 m_leg_in 1) (C_laid : Cal P w K mg base "laid" 1 m_laid 1) : FnOk P w K mg base CX0 2 f fd ["piles", "square"] (spM K 2 m_without_rim) := by
    have h := fn_ok (P := P) (w := w) (mg := mg) (base := base) (k := 1) (f := b_without_rim) F sc_without_rim (by decide) (fun cdv A outer s H E hr => by
      have nd := (sc_without_rim).nd
      have hu : (A.deeper (envOfC "without_rim" (defScope s_without_rim) s.heap.objs.size f cdv)).units + 65 < cLine := by have := hr.un; omega
      refine PSs.nox ?_
      exact (dss_cons (ds_tgt (pd_var (pv 1)) (pd_gt rfl (pd_gcons (pd_gn (pg_name (i := 4) nd rfl (by first | exact Or.inl rfl | exact Or.inr rfl))) (pd_gcons (pd_gn (pg_name (i := 5) nd rfl (by first | exact Or.inl rfl | exact Or.inr rfl))) pd_gnil))))
    (dss_cons (ds_asg (i := 2) (pd_cal C_leg_in hr (by decide) rfl (len_cons (len_cons len_nil)) (pd_cons (pd_var (pv 0)) (pd_cons (pd_var (pv 1)) pd_nil))) nd rfl (by first | exact Or.inl rfl | exact Or.inr rfl))
    (dss_cons (ds_asg (i := 3) (pd_op2n so_add (pd_lcE (own := [("height", 6)]) rfl nd (pd_iE (pd_slice so_sl (pd_var (pv 0)) (pd_oso (pd_op2n so_add (pd_var (pv 4)) pd_int)) (pd_oso (pd_op2n so_add (pd_op2n so_add (pd_var (pv 4)) (pd_var (pv 2))) pd_int)))) (blkOk_by (by kernel_rfl)) (fun _ _ _ _ _ => (pd_gn (pg_name (i := 6) nd rfl (by first | exact Or.inl rfl | exact Or.inr rfl)))) (by decide) (fun _ _ _ _ _ => pd_tsnil) (fun _ _ _ _ _ => (pd_op2 so_sub (pd_var (pv 6)) pd_int))) (pd_lst (pd_cons (pd_var (pv 5)) pd_nil))) nd rfl (by first | exact Or.inl rfl | exact Or.inr rfl))
    (dss_one (ds_ret (pd_cal C_laid hr (by decide) rfl (len_cons len_nil) (pd_cons (pd_op2n so_add (pd_op2n so_add (pd_callTyn (so_list rfl) rfl T.f_list bt_list (pd_cons (pd_slice so_sl (pd_var (pv 0)) pd_ono (pd_oso (pd_var (pv 4)))) pd_nil)) (pd_var (pv 3))) (pd_callTyn (so_list rfl) rfl T.f_list bt_list (pd_cons (pd_slice so_sl (pd_var (pv 0)) (pd_oso (pd_op2n so_add (pd_op2n so_add (pd_var (pv 4)) (pd_var (pv 2))) pd_int)) pd_ono) pd_nil))) pd_nil))))))))
    exact h
theorem sc_without_column : FnScope ["piles", "column", "height"] ["piles", "column"] (defScope s_without_column) := ⟨rfl, rfl, rfl, by decide +kernel, rfl, by decide +kernel, by decide +kernel⟩
theorem ok_without_column (T : Tx K mg) {f : Addr} {fd : FuncData} (F : FunD K "without_column" "without_column" (defArgs s_without_column) (defBody s_without_column) (defScope s_without_column) [] [] f fd) (C_laid : Cal P w K mg base "laid" 1 m_laid 1) : FnOk P w K mg base CX0 2 f fd ["piles", "column"] (spM K 2 m_without_column) := by
    have h := fn_ok (P := P) (w := w) (mg := mg) (base := base) (k := 1) (f := b_without_column) F sc_without_column (by decide) (fun cdv A outer s H E hr => by
      have nd := (sc_without_column).nd
      have hu : (A.deeper (envOfC "without_column" (defScope s_without_column) s.heap.objs.size f cdv)).units + 65 < cLine := by have := hr.un; omega
      refine PSs.nox ?_
      exact (dss_one (ds_ret (pd_cal C_laid hr (by decide) rfl (len_cons len_nil) (pd_cons (pd_lcE (own := [("height", 2)]) rfl nd (pd_iE (pd_var (pv 0))) (blkOk_by (by kernel_rfl)) (fun _ _ _ _ _ => (pd_gn (pg_name (i := 2) nd rfl (by first | exact Or.inl rfl | exact Or.inr rfl)))) (by decide) (fun _ _ _ _ _ => pd_tsnil) (fun _ _ _ _ _ => (pd_if (pt_cmp' so_gt (pd_var (pv 2)) (pd_var (pv 1)) (nomark _)) (pd_op2 so_sub (pd_var (pv 2)) pd_int) (pd_var (pv 2))))) pd_nil)))))
    exact h
theorem sc_taken_from_heights : FnScope ["piles", "found", "at", "height", "left"] ["piles"] (defScope s_taken_from_heights) := ⟨rfl, rfl, rfl, by decide +kernel, rfl, by decide +kernel, by decide +kernel⟩
theorem ok_taken_from_heights (T : Tx K mg) {f : Addr} {fd : FuncData} (F : FunD K "taken_from_heights" "taken_from_heights" (defArgs s_taken_from_heights) (defBody s_taken_from_heights) (defScope s_taken_from_heights) [] [] f fd) (C_laid : Cal P w K mg base "laid" 1 m_laid 1) : FnOk P w K mg base CX0 2 f fd ["piles"] (spM K 1 m_taken_from_heights) := by
    have h := fn_ok (P := P) (w := w) (mg := mg) (base := base) (k := 1) (f := b_taken_from_heights) F sc_taken_from_heights (by decide) (fun cdv A outer s H E hr => by
      have nd := (sc_taken_from_heights).nd
      have hu : (A.deeper (envOfC "taken_from_heights" (defScope s_taken_from_heights) s.heap.objs.size f cdv)).units + 65 < cLine := by have := hr.un; omega
      refine PSs.nox ?_
      exact (dss_cons (ds_asg (i := 1) (pd_lst pd_nil) nd rfl (by first | exact Or.inl rfl | exact Or.inr rfl))
    (dss_cons (ds_for PassesOwn.never rfl (pd_enum rfl T.f_enumerate (pd_var (pv 0))) (pd_gt rfl (pd_gcons (pd_gn (pg_name (i := 2) nd rfl (by first | exact Or.inl rfl | exact Or.inr rfl))) (pd_gcons (pd_gn (pg_name (i := 3) nd rfl (by first | exact Or.inl rfl | exact Or.inr rfl))) pd_gnil))) (dss_one (ds_asg (i := 1) (pd_op2n so_add (pd_var (pv 1)) (pd_lcE (own := [("left", 4)]) rfl nd (pd_range1 rfl T.f_range (pd_var (pv 3))) (blkOk_by (by kernel_rfl)) (fun _ _ _ _ _ => (pd_gn (pg_name (i := 4) nd rfl (by first | exact Or.inl rfl | exact Or.inr rfl)))) (by decide) (fun _ _ _ _ _ => pd_tsnil) (fun _ _ _ _ _ => (pd_cal C_laid hr (by decide) rfl (len_cons len_nil) (pd_cons (pd_op2n so_add (pd_op2n so_add (pd_slice so_sl (pd_var (pv 0)) pd_ono (pd_oso (pd_var (pv 2)))) (pd_tup (pd_cons (pd_var (pv 4)) pd_nil))) (pd_slice so_sl (pd_var (pv 0)) (pd_oso (pd_op2n so_add (pd_var (pv 2)) pd_int)) pd_ono)) pd_nil))))) nd rfl (by first | exact Or.inl rfl | exact Or.inr rfl))))
    (dss_one (ds_ret (pd_var (pv 1)))))))
    exact h
theorem sc_moves_in : FnScope ["game", "piles", "found", "square", "at", "column"] ["game", "piles"] (defScope s_moves_in) := ⟨rfl, rfl, rfl, by decide +kernel, rfl, by decide +kernel, by decide +kernel⟩
theorem ok_moves_in (T : Tx K mg) {f : Addr} {fd : FuncData} (F : FunD K "moves_in" "moves_in" (defArgs s_moves_in) (defBody s_moves_in) (defScope s_moves_in) [] [] f fd) (C_taken_from_heights : Cal P w K mg base "taken_from_heights" 1 m_taken_from_heights 2) (C_squares_in : Cal P w K mg base "squares_in" 1 m_squares_in 1) (C_without_rim : Cal P w K mg base "without_rim" 2 m_without_rim 2) (C_without_column : Cal P w K mg base "without_column" 2 m_without_column 2) : FnOk P w K mg base CX0 3 f fd ["game", "piles"] (spM K 2 m_moves_in) := by
    have h := fn_ok (P := P) (w := w) (mg := mg) (base := base) (k := 2) (f := b_moves_in) F sc_moves_in (by decide) (fun cdv A outer s H E hr => by
      have nd := (sc_moves_in).nd
      have hu : (A.deeper (envOfC "moves_in" (defScope s_moves_in) s.heap.objs.size f cdv)).units + 65 < cLine := by have := hr.un; omega
      refine PSs.nox ?_
      exact (dss_cons (ds_if (pt_cmp' (so_eq hu) (pd_var (pv 1)) (pd_tup pd_nil) (nomark _)) (dss_one (ds_ret (pd_lst pd_nil))) dss_nil)
    (dss_cons (ds_if (pt_cmp' (so_eq hu) (pd_var (pv 0)) pd_str (nomark _)) (dss_one (ds_asg (i := 2) (pd_cal C_taken_from_heights hr (by decide) rfl (len_cons len_nil) (pd_cons (pd_var (pv 1)) pd_nil)) nd rfl (by first | exact Or.inl rfl | exact Or.inr rfl))) (dss_one (ds_if (pt_cmp' (so_eq hu) (pd_var (pv 0)) pd_str (nomark _)) (dss_one (ds_asgLc (i := 2) rfl nd rfl rfl (sw_true rfl rfl rfl (by decide +kernel)) (own := [("square", 3)]) (pd_iE (pd_cal C_squares_in hr (by decide) rfl (len_cons len_nil) (pd_cons (pd_var (pv 1)) pd_nil))) (blkOk_by (by kernel_rfl)) (fun _ _ _ _ _ => (pd_gn (pg_name (i := 3) nd rfl (by first | exact Or.inl rfl | exact Or.inr rfl)))) (by decide) (fun _ _ _ _ _ => pd_tsnil) (fun _ _ _ _ _ => (pd_cal C_without_rim hr (by decide) rfl (len_cons (len_cons len_nil)) (pd_cons (pd_var (pv 1)) (pd_cons (pd_var (pv 3)) pd_nil)))))) (dss_one (ds_if (pt_cmp' (so_eq hu) (pd_var (pv 0)) pd_str (nomark _)) (dss_one (ds_asg (i := 2) (pd_lst (pd_cons (pd_slice so_sl (pd_var (pv 1)) (pd_oso pd_int) pd_ono) (pd_cons (pd_cal C_without_column hr (by decide) rfl (len_cons (len_cons len_nil)) (pd_cons (pd_var (pv 1)) (pd_cons pd_int pd_nil))) pd_nil))) nd rfl (by first | exact Or.inl rfl | exact Or.inr rfl))) (dss_cons (ds_asgLc (i := 2) rfl nd rfl rfl (sw_true rfl rfl rfl (by decide +kernel)) (own := [("at", 4)]) (pd_range1 rfl T.f_range (pd_callB so_len rfl T.f_len bt_len (pd_cons (pd_var (pv 1)) pd_nil))) (blkOk_by (by kernel_rfl)) (fun _ _ _ _ _ => (pd_gn (pg_name (i := 4) nd rfl (by first | exact Or.inl rfl | exact Or.inr rfl)))) (by decide) (fun _ _ _ _ _ => pd_tsnil) (fun _ _ _ _ _ => (pd_op2n so_add (pd_slice so_sl (pd_var (pv 1)) pd_ono (pd_oso (pd_var (pv 4)))) (pd_slice so_sl (pd_var (pv 1)) (pd_oso (pd_op2n so_add (pd_var (pv 4)) pd_int)) pd_ono))))
    (dss_one (ds_asg (i := 2) (pd_op2n so_add (pd_var (pv 2)) (pd_lcE (own := [("column", 5)]) rfl nd (pd_range1 rfl T.f_range (pd_ix so_ix (pd_var (pv 1)) pd_int (fun _ _ => rfl))) (blkOk_by (by kernel_rfl)) (fun _ _ _ _ _ => (pd_gn (pg_name (i := 5) nd rfl (by first | exact Or.inl rfl | exact Or.inr rfl)))) (by decide) (fun _ _ _ _ _ => pd_tsnil) (fun _ _ _ _ _ => (pd_cal C_without_column hr (by decide) rfl (len_cons (len_cons len_nil)) (pd_cons (pd_var (pv 1)) (pd_cons (pd_var (pv 5)) pd_nil)))))) nd rfl (by first | exact Or.inl rfl | exact Or.inr rfl)))))))))
    (dss_one (ds_ret (pd_srtSet rfl hu rfl T.f_sorted bt_sorted rfl T.f_set bt_set (pd_var (pv 2))))))))
    exact h
theorem sc_least_beside : FnScope ["worths", "known", "found", "worth"] ["worths"] (defScope s_least_beside) := ⟨rfl, rfl, rfl, by decide +kernel, rfl, by decide +kernel, by decide +kernel⟩
theorem ok_least_beside (T : Tx K mg) {f : Addr} {fd : FuncData} (F : FunD K "least_beside" "least_beside" (defArgs s_least_beside) (defBody s_least_beside) (defScope s_least_beside) [] [] f fd)  : FnOk P w K mg base CX0 1 f fd ["worths"] (spM K 1 m_least_beside) := by
    have h := fn_ok (P := P) (w := w) (mg := mg) (base := base) (k := 0) (f := b_least_beside) F sc_least_beside (by decide) (fun cdv A outer s H E hr => by
      have nd := (sc_least_beside).nd
      have hu : (A.deeper (envOfC "least_beside" (defScope s_least_beside) s.heap.objs.size f cdv)).units + 65 < cLine := by have := hr.un; omega
      refine PSs.nox ?_
      exact (dss_cons (ds_parL (i := 1) (j := 2) (pdd_of rfl hu rfl T.f_dict bt_dict (pd_lcE (own := [("worth", 3)]) rfl nd (pd_iE (pd_var (pv 0))) (blkOk_by (by kernel_rfl)) (fun _ _ _ _ _ => (pd_gn (pg_name (i := 3) nd rfl (by first | exact Or.inl rfl | exact Or.inr rfl)))) (by decide) (fun _ _ _ _ _ => pd_tsnil) (fun _ _ _ _ _ => (pd_tup (pd_cons (pd_var (pv 3)) (pd_cons pd_bl pd_nil)))))) pd_int rfl nd rfl rfl (by decide) rfl rfl (by with_unfolding_all rfl))
    (dss_cons (ds_while PassesOwn.never (pt_din (i := 1) hu (pv 1) (pd_var (pv 2))) (dss_one (ds_asg (i := 2) (pd_op2n so_add (pd_var (pv 2)) pd_int) nd rfl (by first | exact Or.inl rfl | exact Or.inr rfl))))
    (dss_one (ds_ret (pd_var (pv 2)))))))
    exact h
theorem sc_sum_by_figures : FnScope ["numbers", "found", "number"] ["numbers"] (defScope s_sum_by_figures) := ⟨rfl, rfl, rfl, by decide +kernel, rfl, by decide +kernel, by decide +kernel⟩
theorem ok_sum_by_figures (T : Tx K mg) {f : Addr} {fd : FuncData} (F : FunD K "sum_by_figures" "sum_by_figures" (defArgs s_sum_by_figures) (defBody s_sum_by_figures) (defScope s_sum_by_figures) [] [] f fd)  : FnOk P w K mg base CX0 1 f fd ["numbers"] (spM K 1 m_sum_by_figures) := by
    have h := fn_ok (P := P) (w := w) (mg := mg) (base := base) (k := 0) (f := b_sum_by_figures) F sc_sum_by_figures (by decide) (fun cdv A outer s H E hr => by
      have nd := (sc_sum_by_figures).nd
      have hu : (A.deeper (envOfC "sum_by_figures" (defScope s_sum_by_figures) s.heap.objs.size f cdv)).units + 65 < cLine := by have := hr.un; omega
      refine PSs.nox ?_
      exact (dss_cons (ds_asg (i := 1) pd_int nd rfl (by first | exact Or.inl rfl | exact Or.inr rfl))
    (dss_cons (ds_for PassesOwn.never rfl (pd_iE (pd_var (pv 0))) (pd_gn (pg_name (i := 2) nd rfl (by first | exact Or.inl rfl | exact Or.inr rfl))) (dss_one (ds_asg (i := 1) (pd_op2 so_xor (pd_var (pv 1)) (pd_var (pv 2))) nd rfl (by first | exact Or.inl rfl | exact Or.inr rfl))))
    (dss_one (ds_ret (pd_var (pv 1)))))))
    exact h
theorem sc_edges_worth : FnScope ["piles", "wide", "below", "row", "own", "column"] ["piles"] (defScope s_edges_worth) := ⟨rfl, rfl, rfl, by decide +kernel, rfl, by decide +kernel, by decide +kernel⟩
theorem ok_edges_worth (T : Tx K mg) {f : Addr} {fd : FuncData} (F : FunD K "edges_worth" "edges_worth" (defArgs s_edges_worth) (defBody s_edges_worth) (defScope s_edges_worth) [] [] f fd) (C_least_beside : Cal P w K mg base "least_beside" 1 m_least_beside 1) : FnOk P w K mg base CX0 2 f fd ["piles"] (spM K 1 m_edges_worth) := by
    have h := fn_ok (P := P) (w := w) (mg := mg) (base := base) (k := 1) (f := b_edges_worth) F sc_edges_worth (by decide) (fun cdv A outer s H E hr => by
      have nd := (sc_edges_worth).nd
      have hu : (A.deeper (envOfC "edges_worth" (defScope s_edges_worth) s.heap.objs.size f cdv)).units + 65 < cLine := by have := hr.un; omega
      refine PSs.nox ?_
      exact (dss_cons (ds_asg (i := 1) (pd_callB (so_max rfl hu) rfl T.f_max bt_max (pd_cons (pd_op2n so_add (pd_tup (pd_cons pd_int pd_nil)) (pd_var (pv 0))) pd_nil)) nd rfl (by first | exact Or.inl rfl | exact Or.inr rfl))
    (dss_cons (ds_asg (i := 2) (pd_op2n so_mul (pd_lst (pd_cons pd_int pd_nil)) (pd_op2n so_add (pd_var (pv 1)) pd_int)) nd rfl (by first | exact Or.inl rfl | exact Or.inr rfl))
    (dss_cons (ds_for PassesOwn.never rfl (pd_rangeDn rfl T.f_range (pd_op2 so_sub (pd_callB so_len rfl T.f_len bt_len (pd_cons (pd_var (pv 0)) pd_nil)) pd_int) (pd_neg pd_int) (pd_m1 (pd_neg pd_int))) (pd_gn (pg_name (i := 3) nd rfl (by first | exact Or.inl rfl | exact Or.inr rfl))) (dss_cons (ds_new (i := 4) (pd_op2n so_mul (pd_lst (pd_cons pd_int pd_nil)) (pd_op2n so_add (pd_var (pv 1)) pd_int)) nd rfl (by first | exact Or.inl rfl | exact Or.inr rfl))
    (dss_cons (ds_for PassesOwn.never rfl (pd_rangeDn rfl T.f_range (pd_op2 so_sub (pd_ix so_ix (pd_var (pv 0)) (pd_var (pv 3)) (fun _ _ => rfl)) pd_int) (pd_neg pd_int) (pd_m1 (pd_neg pd_int))) (pd_gn (pg_name (i := 5) nd rfl (by first | exact Or.inl rfl | exact Or.inr rfl))) (dss_one (ds_setix (i := 4) (pv 4) (pd_cal C_least_beside hr (by decide) rfl (len_cons len_nil) (pd_cons (pd_lst (pd_cons (pd_ix so_ix (pd_var (pv 2)) (pd_var (pv 5)) (fun _ _ => rfl)) (pd_cons (pd_ix so_ix (pd_var (pv 4)) (pd_op2n so_add (pd_var (pv 5)) pd_int) (fun _ _ => rfl)) pd_nil))) pd_nil)) (pd_var (pv 5)))))
    (dss_frz 4 (dss_one (ds_asg (i := 2) (pd_var (pv 4)) nd rfl (by first | exact Or.inl rfl | exact Or.inr rfl)))))))
    (dss_one (ds_ret (pd_ix so_ix (pd_var (pv 2)) pd_int (fun _ _ => rfl))))))))
    exact h
theorem sc_lines_worth : FnScope ["piles", "known", "later"] ["piles", "known"] (defScope s_lines_worth) := ⟨rfl, rfl, rfl, by decide +kernel, rfl, by decide +kernel, by decide +kernel⟩
theorem rk_lines_worth (T : Tx K mg) {f : Addr} {fd : FuncData} (F : FunD K "lines_worth" "lines_worth" (defArgs s_lines_worth) (defBody s_lines_worth) (defScope s_lines_worth) [] [] f fd) (hmg : mg "lines_worth" = some (.ref f)) (hb : Binds K fd ["piles", "known"] []) (C_least_beside : Cal P w K mg base "least_beside" 1 m_least_beside 1) (C_moves_in : Cal P w K mg base "moves_in" 2 m_moves_in 3) : ∀ d : Nat, FnOk P w K mg base CX0 (3 + d) f fd ["piles", "known"] (spM K 2 (r_lines_worth d))
  | 0 => fn_none rfl
  | d + 1 => by
    have C_lines_worth : Cal P w K mg base "lines_worth" 2 (r_lines_worth d) (3 + d) := ⟨_, _, _, rk_lines_worth T F hmg hb C_least_beside C_moves_in d, hmg, F.kp, hb⟩
    have h := fn_ok (P := P) (w := w) (mg := mg) (base := base) (k := 3 + d) (f := b_lines_worth (r_lines_worth d)) F sc_lines_worth (by decide) (fun cdv A outer s H E hr => by
      have nd := (sc_lines_worth).nd
      have hu : (A.deeper (envOfC "lines_worth" (defScope s_lines_worth) s.heap.objs.size f cdv)).units + 65 < cLine := by have := hr.un; omega
      refine PSs.nox ?_
      exact (dss_cons (ds_if (pt_dnin (i := 1) hu (pv 1) (pd_var (pv 0))) (dss_one (ds_dset (i := 1) hu (pv 1) (pd_cal C_least_beside hr (by omega) rfl (len_cons len_nil) (pd_cons (pd_lcE (own := [("later", 2)]) rfl nd (pd_iE (pd_cal C_moves_in hr (by omega) rfl (len_cons (len_cons len_nil)) (pd_cons pd_str (pd_cons (pd_var (pv 0)) pd_nil)))) (blkOk_by (by kernel_rfl)) (fun _ _ _ _ _ => (pd_gn (pg_name (i := 2) nd rfl (by first | exact Or.inl rfl | exact Or.inr rfl)))) (by decide) (fun _ _ _ _ _ => pd_tsnil) (fun _ _ _ _ _ => (pd_cal C_lines_worth hr (by omega) rfl (len_cons (len_cons len_nil)) (pd_cons (pd_var (pv 2)) (pd_cons (pd_var (pv 1)) pd_nil))))) pd_nil)) (pd_var (pv 0)))) dss_nil)
    (dss_one (ds_ret (pd_dget (i := 1) hu (pv 1) (pd_var (pv 0)) (fun _ _ => rfl))))))
    exact h
theorem sc_worth_in_game : FnScope ["game", "piles", "known", "hook"] ["game", "piles", "known"] (defScope s_worth_in_game) := ⟨rfl, rfl, rfl, by decide +kernel, rfl, by decide +kernel, by decide +kernel⟩
theorem ok_worth_in_game (T : Tx K mg) {f : Addr} {fd : FuncData} (F : FunD K "worth_in_game" "worth_in_game" (defArgs s_worth_in_game) (defBody s_worth_in_game) (defScope s_worth_in_game) [] [] f fd) (C_sum_by_figures : Cal P w K mg base "sum_by_figures" 1 m_sum_by_figures 1) (C_hooks_in : Cal P w K mg base "hooks_in" 1 m_hooks_in 3) (C_edges_worth : Cal P w K mg base "edges_worth" 1 m_edges_worth 2) (C_lines_worth : Cal P w K mg base "lines_worth" 2 m_lines_worth 29) : FnOk P w K mg base CX0 30 f fd ["game", "piles", "known"] (spM K 3 m_worth_in_game) := by
    have h := fn_ok (P := P) (w := w) (mg := mg) (base := base) (k := 29) (f := b_worth_in_game) F sc_worth_in_game (by decide) (fun cdv A outer s H E hr => by
      have nd := (sc_worth_in_game).nd
      have hu : (A.deeper (envOfC "worth_in_game" (defScope s_worth_in_game) s.heap.objs.size f cdv)).units + 65 < cLine := by have := hr.un; omega
      refine PSs.nox ?_
      exact (dss_cons (ds_if (pt_cmp' (so_eq hu) (pd_var (pv 0)) pd_str (nomark _)) (dss_one (ds_ret (pd_cal C_sum_by_figures hr (by decide) rfl (len_cons len_nil) (pd_cons (pd_var (pv 1)) pd_nil)))) dss_nil)
    (dss_cons (ds_if (pt_cmp' (so_eq hu) (pd_var (pv 0)) pd_str (nomark _)) (dss_one (ds_ret (pd_cal C_sum_by_figures hr (by decide) rfl (len_cons len_nil) (pd_cons (pd_lcE (own := [("hook", 3)]) rfl nd (pd_iE (pd_cal C_hooks_in hr (by decide) rfl (len_cons len_nil) (pd_cons (pd_var (pv 1)) pd_nil))) (blkOk_by (by kernel_rfl)) (fun _ _ _ _ _ => (pd_gn (pg_name (i := 3) nd rfl (by first | exact Or.inl rfl | exact Or.inr rfl)))) (by decide) (fun _ _ _ _ _ => pd_tsnil) (fun _ _ _ _ _ => (pd_op2 so_xor (pd_var (pv 3)) (pd_op2 so_sub (pd_var (pv 3)) pd_int)))) pd_nil)))) dss_nil)
    (dss_cons (ds_if (pt_cmp' (so_eq hu) (pd_var (pv 0)) pd_str (nomark _)) (dss_one (ds_ret (pd_cal C_edges_worth hr (by decide) rfl (len_cons len_nil) (pd_cons (pd_var (pv 1)) pd_nil)))) dss_nil)
    (dss_cons (ds_if (pt_cmp' so_gt (pd_callB (so_sum rfl) rfl T.f_sum bt_sum (pd_cons (pd_var (pv 1)) pd_nil)) (pd_gint rfl T.c_FEW.choose_spec ⟨_, rfl⟩) (nomark _)) (dss_one ds_never) dss_nil)
    (dss_one (ds_ret (pd_cal C_lines_worth hr (by decide) rfl (len_cons (len_cons len_nil)) (pd_cons (pd_var (pv 1)) (pd_cons (pd_var (pv 2)) pd_nil))))))))))
    exact h
theorem sc_game_worth : FnScope ["game", "piles"] ["game", "piles"] (defScope s_game_worth) := ⟨rfl, rfl, rfl, by decide +kernel, rfl, by decide +kernel, by decide +kernel⟩
theorem ok_game_worth (T : Tx K mg) {f : Addr} {fd : FuncData} (F : FunD K "game_worth" "game_worth" (defArgs s_game_worth) (defBody s_game_worth) (defScope s_game_worth) [] [] f fd) (C_need_game_piles : Cal P w K mg base "need_game_piles" 2 m_need_game_piles 6) (C_worth_in_game : Cal P w K mg base "worth_in_game" 3 m_worth_in_game 30) : FnOk P w K mg base CX0 31 f fd ["game", "piles"] (spM K 2 m_game_worth) := by
    have h := fn_ok (P := P) (w := w) (mg := mg) (base := base) (k := 30) (f := b_game_worth) F sc_game_worth (by decide) (fun cdv A outer s H E hr => by
      have nd := (sc_game_worth).nd
      have hu : (A.deeper (envOfC "game_worth" (defScope s_game_worth) s.heap.objs.size f cdv)).units + 65 < cLine := by have := hr.un; omega
      refine PSs.nox ?_
      exact (dss_cons (ds_exp (pd_cal C_need_game_piles hr (by decide) rfl (len_cons (len_cons len_nil)) (pd_cons (pd_var (pv 0)) (pd_cons (pd_var (pv 1)) pd_nil))))
    (dss_one (ds_ret (pd_calD C_worth_in_game hr (by decide) rfl (LenA.d (len_cons (len_cons len_nil))) (pdad_cons (pd_var (pv 0)) (pdad_cons (pd_var (pv 1)) (pdad_one pdd_0))))))))
    exact h
theorem sc_is_won : FnScope ["game", "piles"] ["game", "piles"] (defScope s_is_won) := ⟨rfl, rfl, rfl, by decide +kernel, rfl, by decide +kernel, by decide +kernel⟩
theorem ok_is_won (T : Tx K mg) {f : Addr} {fd : FuncData} (F : FunD K "is_won" "is_won" (defArgs s_is_won) (defBody s_is_won) (defScope s_is_won) [] [] f fd) (C_need_game_piles : Cal P w K mg base "need_game_piles" 2 m_need_game_piles 6) (C_worth_in_game : Cal P w K mg base "worth_in_game" 3 m_worth_in_game 30) : FnOk P w K mg base CX0 31 f fd ["game", "piles"] (spM K 2 m_is_won) := by
    have h := fn_ok (P := P) (w := w) (mg := mg) (base := base) (k := 30) (f := b_is_won) F sc_is_won (by decide) (fun cdv A outer s H E hr => by
      have nd := (sc_is_won).nd
      have hu : (A.deeper (envOfC "is_won" (defScope s_is_won) s.heap.objs.size f cdv)).units + 65 < cLine := by have := hr.un; omega
      refine PSs.nox ?_
      exact (dss_cons (ds_exp (pd_cal C_need_game_piles hr (by decide) rfl (len_cons (len_cons len_nil)) (pd_cons (pd_var (pv 0)) (pd_cons (pd_var (pv 1)) pd_nil))))
    (dss_one (ds_ret (pd_cmp so_gt (pd_calD C_worth_in_game hr (by decide) rfl (LenA.d (len_cons (len_cons len_nil))) (pdad_cons (pd_var (pv 0)) (pdad_cons (pd_var (pv 1)) (pdad_one pdd_0)))) pd_int (nomark _))))))
    exact h
theorem sc__law_cup : FnScope ["script", "cell"] ["script"] (defScope s__law_cup) := ⟨rfl, rfl, rfl, by decide +kernel, rfl, by decide +kernel, by decide +kernel⟩
theorem ok__law_cup (T : Tx K mg) {f : Addr} {fd : FuncData} (F : FunD K "_law_cup" "_law_cup" (defArgs s__law_cup) (defBody s__law_cup) (defScope s__law_cup) [] [] f fd)  : FnOk P w K mg base CX0 1 f fd ["script"] (spM K 1 m__law_cup) := by
    have h := fn_ok (P := P) (w := w) (mg := mg) (base := base) (k := 0) (f := b__law_cup) F sc__law_cup (by decide) (fun cdv A outer s H E hr => by
      have nd := (sc__law_cup).nd
      have hu : (A.deeper (envOfC "_law_cup" (defScope s__law_cup) s.heap.objs.size f cdv)).units + 65 < cLine := by have := hr.un; omega
      refine PSs.nox ?_
      exact (dss_cons (ds_asg (i := 1) (pd_callB so_abs rfl T.f_abs bt_abs (pd_cons (pd_ix so_ix (pd_op2n so_add (pd_callTyn (so_list rfl) rfl T.f_list bt_list (pd_cons (pd_var (pv 0)) pd_nil)) (pd_lst (pd_cons pd_int pd_nil))) pd_int (fun _ _ => rfl)) pd_nil)) nd rfl (by first | exact Or.inl rfl | exact Or.inr rfl))
    (dss_one (ds_ret (pd_lst (pd_cons (pd_if (pt_cmp' so_ge (pd_var (pv 1)) (pd_op2 so_pow pd_int pd_int) (nomark _)) (pd_op2 so_fdiv (pd_var (pv 1)) pd_int) pd_int) (pd_cons (pd_op2n so_add (pd_op2 so_mod (pd_callTy so_int rfl T.f_int bt_int (pd_cons (pd_op2n so_add (pd_op2n so_mul (pd_var (pv 1)) pd_int) pd_int) pd_nil)) pd_int) pd_int) pd_nil)))))))
    exact h
theorem sc__law_roll : FnScope ["cup", "many", "deep", "found"] ["cup", "many"] (defScope s__law_roll) := ⟨rfl, rfl, rfl, by decide +kernel, rfl, by decide +kernel, by decide +kernel⟩
theorem ok__law_roll (T : Tx K mg) {f : Addr} {fd : FuncData} (F : FunD K "_law_roll" "_law_roll" (defArgs s__law_roll) (defBody s__law_roll) (defScope s__law_roll) [] [] f fd)  : FnOk P w K mg base CX0 1 f fd ["cup", "many"] (spM K 2 m__law_roll) := by
    have h := fn_ok (P := P) (w := w) (mg := mg) (base := base) (k := 0) (f := b__law_roll) F sc__law_roll (by decide) (fun cdv A outer s H E hr => by
      have nd := (sc__law_roll).nd
      have hu : (A.deeper (envOfC "_law_roll" (defScope s__law_roll) s.heap.objs.size f cdv)).units + 65 < cLine := by have := hr.un; omega
      refine PSs.nox ?_
      exact (dss_cons (ds_if (pt_cmp' so_gt (pd_ix so_ix (pd_var (pv 0)) pd_int (fun _ _ => rfl)) pd_int (nomark _)) (dss_cons (ds_asg (i := 3) (pd_op2 so_mod (pd_callTy so_int rfl T.f_int bt_int (pd_cons (pd_ix so_ix (pd_var (pv 0)) pd_int (fun _ _ => rfl)) pd_nil)) (pd_var (pv 1))) nd rfl (by first | exact Or.inl rfl | exact Or.inr rfl))
    (dss_cons (ds_setix (i := 0) (pv 0) (pd_op2 so_fdiv (pd_ix so_ix (pd_var (pv 0)) pd_int (fun _ _ => rfl)) (pd_var (pv 1))) pd_int)
    (dss_one (ds_ret (pd_var (pv 3)))))) dss_nil)
    (dss_cons (ds_setix (i := 0) (pv 0) (pd_op2 so_mod (pd_callTy so_int rfl T.f_int bt_int (pd_cons (pd_op2n so_add (pd_op2n so_mul (pd_ix so_ix (pd_var (pv 0)) pd_int (fun _ _ => rfl)) pd_int) pd_int) pd_nil)) pd_int) pd_int)
    (dss_cons (ds_asg (i := 2) (pd_op2 so_mod (pd_callTy so_int rfl T.f_int bt_int (pd_cons (pd_op2n so_mul (pd_ix so_ix (pd_var (pv 0)) pd_int (fun _ _ => rfl)) (pd_op2n so_add (pd_ix so_ix (pd_var (pv 0)) pd_int (fun _ _ => rfl)) pd_int)) pd_nil)) pd_int) nd rfl (by first | exact Or.inl rfl | exact Or.inr rfl))
    (dss_one (ds_ret (pd_op2 so_mod (pd_callTy so_int rfl T.f_int bt_int (pd_cons (pd_op2 so_fdiv (pd_var (pv 2)) pd_int) pd_nil)) (pd_var (pv 1)))))))))
    exact h
theorem sc__law_sort : FnScope ["value"] ["value"] (defScope s__law_sort) := ⟨rfl, rfl, rfl, by decide +kernel, rfl, by decide +kernel, by decide +kernel⟩
theorem ok__law_sort (T : Tx K mg) {f : Addr} {fd : FuncData} (F : FunD K "_law_sort" "_law_sort" (defArgs s__law_sort) (defBody s__law_sort) (defScope s__law_sort) [] [] f fd)  : FnOk P w K mg base CX0 1 f fd ["value"] (spM K 1 m__law_sort) := by
    have h := fn_ok (P := P) (w := w) (mg := mg) (base := base) (k := 0) (f := b__law_sort) F sc__law_sort (by decide) (fun cdv A outer s H E hr => by
      have nd := (sc__law_sort).nd
      have hu : (A.deeper (envOfC "_law_sort" (defScope s__law_sort) s.heap.objs.size f cdv)).units + 65 < cLine := by have := hr.un; omega
      refine PSs.nox ?_
      exact (dss_cons (ds_if (pw_pt (pw_or' (pt_cmp' so_is (pd_var (pv 0)) pd_non (nomark _)) (pw_one (pt_tru (pd_isi isi_bool rfl T.f_isinstance bt_isinstance (pe_bltn (v := .ty "bool") rfl T.f_bool bt_bool rfl) (pd_var (pv 0))) (fun _ => rfl))))) (dss_one (ds_ret (pd_if (pt_cmp' so_is (pd_var (pv 0)) pd_non (nomark _)) pd_int pd_int))) dss_nil)
    (dss_cons (ds_if (pw_pt (pw_or' (pt_tru (pd_isi isi_int rfl T.f_isinstance bt_isinstance (pe_bltn (v := .ty "int") rfl T.f_int bt_int rfl) (pd_var (pv 0))) (fun _ => rfl)) (pw_one (pt_tru (pd_isi isi_str rfl T.f_isinstance bt_isinstance (pe_bltn (v := .ty "str") rfl T.f_str bt_str rfl) (pd_var (pv 0))) (fun _ => rfl))))) (dss_one (ds_ret (pd_if (pt_tru (pd_isi isi_int rfl T.f_isinstance bt_isinstance (pe_bltn (v := .ty "int") rfl T.f_int bt_int rfl) (pd_var (pv 0))) (fun _ => rfl)) pd_int pd_int))) dss_nil)
    (dss_one (ds_ret (pd_if (pt_tru (pd_isi isi_tuple rfl T.f_isinstance bt_isinstance (pe_bltn (v := .ty "tuple") rfl T.f_tuple bt_tuple rfl) (pd_var (pv 0))) (fun _ => rfl)) pd_int (pd_if (pt_tru (pd_isi isi_list rfl T.f_isinstance bt_isinstance (pe_bltn (v := .ty "list") rfl T.f_list bt_list rfl) (pd_var (pv 0))) (fun _ => rfl)) pd_int pd_int)))))))
    exact h
theorem sc__law_like : FnScope ["one", "other", "sort", "first", "second"] ["one", "other"] (defScope s__law_like) := ⟨rfl, rfl, rfl, by decide +kernel, rfl, by decide +kernel, by decide +kernel⟩
theorem rk__law_like (T : Tx K mg) {f : Addr} {fd : FuncData} (F : FunD K "_law_like" "_law_like" (defArgs s__law_like) (defBody s__law_like) (defScope s__law_like) [] [] f fd) (hmg : mg "_law_like" = some (.ref f)) (hb : Binds K fd ["one", "other"] []) (C__law_sort : Cal P w K mg base "_law_sort" 1 m__law_sort 1) : ∀ d : Nat, FnOk P w K mg base CX0 (1 + d) f fd ["one", "other"] (spM K 2 (r__law_like d))
  | 0 => fn_none rfl
  | d + 1 => by
    have C__law_like : Cal P w K mg base "_law_like" 2 (r__law_like d) (1 + d) := ⟨_, _, _, rk__law_like T F hmg hb C__law_sort d, hmg, F.kp, hb⟩
    have h := fn_ok (P := P) (w := w) (mg := mg) (base := base) (k := 1 + d) (f := b__law_like (r__law_like d)) F sc__law_like (by decide) (fun cdv A outer s H E hr => by
      have nd := (sc__law_like).nd
      have hu : (A.deeper (envOfC "_law_like" (defScope s__law_like) s.heap.objs.size f cdv)).units + 65 < cLine := by have := hr.un; omega
      refine PSs.nox ?_
      exact (dss_cons (ds_asg (i := 2) (pd_cal C__law_sort hr (by omega) rfl (len_cons len_nil) (pd_cons (pd_var (pv 1)) pd_nil)) nd rfl (by first | exact Or.inl rfl | exact Or.inr rfl))
    (dss_cons (ds_if (pw_pt (pw_or' (pt_cmp' (so_ne hu) (pd_cal C__law_sort hr (by omega) rfl (len_cons len_nil) (pd_cons (pd_var (pv 0)) pd_nil)) (pd_var (pv 2)) (nomark _)) (pw_one (pt_cmp' (so_eq hu) (pd_var (pv 2)) pd_int (nomark _))))) (dss_one (ds_ret pd_bl)) dss_nil)
    (dss_cons (ds_if (pt_cmp' (so_in hu) (pd_var (pv 2)) (pd_tup (pd_cons pd_int (pd_cons pd_int pd_nil))) (by with_unfolding_all rfl)) (dss_one (ds_ret (pd_and (pd_cmp (so_eq hu) (pd_callB so_len rfl T.f_len bt_len (pd_cons (pd_var (pv 0)) pd_nil)) (pd_callB so_len rfl T.f_len bt_len (pd_cons (pd_var (pv 1)) pd_nil)) (nomark _)) (pd_one (pd_cmp (so_eq hu) (pd_lcE (own := [("first", 3), ("second", 4)]) rfl nd (pd_zip rfl T.f_zip (pd_var (pv 0)) (pd_var (pv 1))) (blkOk_by (by kernel_rfl)) (fun _ _ _ _ _ => (pd_gt rfl (pd_gcons (pd_gn (pg_name (i := 3) nd rfl (by first | exact Or.inl rfl | exact Or.inr rfl))) (pd_gcons (pd_gn (pg_name (i := 4) nd rfl (by first | exact Or.inl rfl | exact Or.inr rfl))) pd_gnil)))) (by decide) (fun _ _ _ _ _ => (pd_tsone (pt_not' (pt_tru (pd_cal C__law_like hr (by omega) rfl (len_cons (len_cons len_nil)) (pd_cons (pd_var (pv 3)) (pd_cons (pd_var (pv 4)) pd_nil))) (fun _ => rfl))))) (fun _ _ _ _ _ => pd_int)) (pd_lst pd_nil) (nomark _)))))) dss_nil)
    (dss_one (ds_ret (pd_cmp (so_eq hu) (pd_var (pv 0)) (pd_var (pv 1)) (nomark _))))))))
    exact h
theorem sc__law_piles : FnScope ["cup", "most", "top", "left", "found", "height"] ["cup", "most"] (defScope s__law_piles) := ⟨rfl, rfl, rfl, by decide +kernel, rfl, by decide +kernel, by decide +kernel⟩
theorem ok__law_piles (T : Tx K mg) {f : Addr} {fd : FuncData} (F : FunD K "_law_piles" "_law_piles" (defArgs s__law_piles) (defBody s__law_piles) (defScope s__law_piles) [] [] f fd) (C__law_roll : Cal P w K mg base "_law_roll" 2 m__law_roll 1) : FnOk P w K mg base CX0 2 f fd ["cup", "most"] (spM K 2 m__law_piles) := by
    have h := fn_ok (P := P) (w := w) (mg := mg) (base := base) (k := 1) (f := b__law_piles) F sc__law_piles (by decide) (fun cdv A outer s H E hr => by
      have nd := (sc__law_piles).nd
      have hu : (A.deeper (envOfC "_law_piles" (defScope s__law_piles) s.heap.objs.size f cdv)).units + 65 < cLine := by have := hr.un; omega
      refine PSs.nox ?_
      exact (dss_cons (ds_par2 (k := false) (l := true) (i := 3) (j := 4) (pd_cal C__law_roll hr (by decide) rfl (len_cons (len_cons len_nil)) (pd_cons (pd_var (pv 0)) (pd_cons (pd_op2n so_add (pd_var (pv 1)) pd_int) pd_nil))) (pd_lst pd_nil) rfl nd rfl rfl (by decide) rfl rfl (by with_unfolding_all rfl))
    (dss_cons (ds_asg (i := 2) (pd_if (pt_cmp' (so_eq hu) (pd_cal C__law_roll hr (by decide) rfl (len_cons (len_cons len_nil)) (pd_cons (pd_var (pv 0)) (pd_cons pd_int pd_nil))) pd_int (nomark _)) (pd_var (pv 3)) (pd_callB (so_min rfl hu) rfl T.f_min bt_min (pd_cons (pd_var (pv 3)) (pd_cons (pd_op2n so_add pd_int (pd_cal C__law_roll hr (by decide) rfl (len_cons (len_cons len_nil)) (pd_cons (pd_var (pv 0)) (pd_cons pd_int pd_nil)))) pd_nil)))) nd rfl (by first | exact Or.inl rfl | exact Or.inr rfl))
    (dss_cons (ds_while PassesOwn.never (pt_cmp' so_gt (pd_var (pv 3)) pd_int (nomark _)) (dss_cons (ds_asg (i := 5) (pd_op2n so_add pd_int (pd_cal C__law_roll hr (by decide) rfl (len_cons (len_cons len_nil)) (pd_cons (pd_var (pv 0)) (pd_cons (pd_callB (so_min rfl hu) rfl T.f_min bt_min (pd_cons (pd_var (pv 3)) (pd_cons (pd_callB (so_max rfl hu) rfl T.f_max bt_max (pd_cons pd_int (pd_cons (pd_var (pv 2)) pd_nil))) pd_nil))) pd_nil)))) nd rfl (by first | exact Or.inl rfl | exact Or.inr rfl))
    (dss_cons (ds_app (i := 4) (pv 4) (pd_var (pv 5)))
    (dss_one (ds_asg (i := 3) (pd_op2 so_sub (pd_var (pv 3)) (pd_var (pv 5))) nd rfl (by first | exact Or.inl rfl | exact Or.inr rfl))))))
    (dss_frz 4 (dss_one (ds_ret (pd_callTy so_tuple rfl T.f_tuple bt_tuple (pd_cons (pd_rev (pd_callBn (so_sortG hu) rfl T.f_sorted bt_sorted (pd_cons (pd_var (pv 4)) pd_nil))) pd_nil)))))))))
    exact h
theorem sc__law_ways : FnScope ["stones", "top", "found", "height", "rest"] ["stones", "top"] (defScope s__law_ways) := ⟨rfl, rfl, rfl, by decide +kernel, rfl, by decide +kernel, by decide +kernel⟩
theorem rk__law_ways (T : Tx K mg) {f : Addr} {fd : FuncData} (F : FunD K "_law_ways" "_law_ways" (defArgs s__law_ways) (defBody s__law_ways) (defScope s__law_ways) [] [] f fd) (hmg : mg "_law_ways" = some (.ref f)) (hb : Binds K fd ["stones", "top"] [])  : ∀ d : Nat, FnOk P w K mg base CX0 (0 + d) f fd ["stones", "top"] (spM K 2 (r__law_ways d))
  | 0 => fn_none rfl
  | d + 1 => by
    have C__law_ways : Cal P w K mg base "_law_ways" 2 (r__law_ways d) (0 + d) := ⟨_, _, _, rk__law_ways T F hmg hb  d, hmg, F.kp, hb⟩
    have h := fn_ok (P := P) (w := w) (mg := mg) (base := base) (k := 0 + d) (f := b__law_ways (r__law_ways d)) F sc__law_ways (by decide) (fun cdv A outer s H E hr => by
      have nd := (sc__law_ways).nd
      have hu : (A.deeper (envOfC "_law_ways" (defScope s__law_ways) s.heap.objs.size f cdv)).units + 65 < cLine := by have := hr.un; omega
      refine PSs.nox ?_
      exact (dss_cons (ds_if (pt_cmp' (so_eq hu) (pd_var (pv 0)) pd_int (nomark _)) (dss_one (ds_ret (pd_lst (pd_cons (pd_tup pd_nil) pd_nil)))) dss_nil)
    (dss_cons (ds_asg (i := 2) (pd_lst pd_nil) nd rfl (by first | exact Or.inl rfl | exact Or.inr rfl))
    (dss_cons (ds_for PassesOwn.never rfl (pd_rangeDn rfl T.f_range (pd_callB (so_min rfl hu) rfl T.f_min bt_min (pd_cons (pd_var (pv 0)) (pd_cons (pd_var (pv 1)) pd_nil))) pd_int (pd_m1 (pd_neg pd_int))) (pd_gn (pg_name (i := 3) nd rfl (by first | exact Or.inl rfl | exact Or.inr rfl))) (dss_one (ds_asg (i := 2) (pd_op2n so_add (pd_var (pv 2)) (pd_lcE (own := [("rest", 4)]) rfl nd (pd_iE (pd_cal C__law_ways hr (by omega) rfl (len_cons (len_cons len_nil)) (pd_cons (pd_op2 so_sub (pd_var (pv 0)) (pd_var (pv 3))) (pd_cons (pd_var (pv 3)) pd_nil)))) (blkOk_by (by kernel_rfl)) (fun _ _ _ _ _ => (pd_gn (pg_name (i := 4) nd rfl (by first | exact Or.inl rfl | exact Or.inr rfl)))) (by decide) (fun _ _ _ _ _ => pd_tsnil) (fun _ _ _ _ _ => (pd_op2n so_add (pd_tup (pd_cons (pd_var (pv 3)) pd_nil)) (pd_var (pv 4)))))) nd rfl (by first | exact Or.inl rfl | exact Or.inr rfl))))
    (dss_one (ds_ret (pd_var (pv 2))))))))
    exact h
theorem sc__law_hook : FnScope ["piles", "row", "column", "height"] ["piles", "row", "column"] (defScope s__law_hook) := ⟨rfl, rfl, rfl, by decide +kernel, rfl, by decide +kernel, by decide +kernel⟩
theorem ok__law_hook (T : Tx K mg) {f : Addr} {fd : FuncData} (F : FunD K "_law_hook" "_law_hook" (defArgs s__law_hook) (defBody s__law_hook) (defScope s__law_hook) [] [] f fd)  : FnOk P w K mg base CX0 1 f fd ["piles", "row", "column"] (spM K 3 m__law_hook) := by
    have h := fn_ok (P := P) (w := w) (mg := mg) (base := base) (k := 0) (f := b__law_hook) F sc__law_hook (by decide) (fun cdv A outer s H E hr => by
      have nd := (sc__law_hook).nd
      have hu : (A.deeper (envOfC "_law_hook" (defScope s__law_hook) s.heap.objs.size f cdv)).units + 65 < cLine := by have := hr.un; omega
      refine PSs.nox ?_
      exact (dss_one (ds_ret (pd_op2n so_add (pd_op2 so_sub (pd_ix so_ix (pd_var (pv 0)) (pd_var (pv 1)) (fun _ _ => rfl)) (pd_var (pv 2))) (pd_callB so_len rfl T.f_len bt_len (pd_cons (pd_lcE (own := [("height", 3)]) rfl nd (pd_iE (pd_slice so_sl (pd_var (pv 0)) (pd_oso (pd_op2n so_add (pd_var (pv 1)) pd_int)) pd_ono)) (blkOk_by (by kernel_rfl)) (fun _ _ _ _ _ => (pd_gn (pg_name (i := 3) nd rfl (by first | exact Or.inl rfl | exact Or.inr rfl)))) (by decide) (fun _ _ _ _ _ => (pd_tsone (pt_cmp' so_gt (pd_var (pv 3)) (pd_var (pv 2)) (nomark _)))) (fun _ _ _ _ _ => (pd_var (pv 3)))) pd_nil))))))
    exact h
theorem sc__law_laid : FnScope ["heights", "height"] ["heights"] (defScope s__law_laid) := ⟨rfl, rfl, rfl, by decide +kernel, rfl, by decide +kernel, by decide +kernel⟩
theorem ok__law_laid (T : Tx K mg) {f : Addr} {fd : FuncData} (F : FunD K "_law_laid" "_law_laid" (defArgs s__law_laid) (defBody s__law_laid) (defScope s__law_laid) [] [] f fd)  : FnOk P w K mg base CX0 1 f fd ["heights"] (spM K 1 m__law_laid) := by
    have h := fn_ok (P := P) (w := w) (mg := mg) (base := base) (k := 0) (f := b__law_laid) F sc__law_laid (by decide) (fun cdv A outer s H E hr => by
      have nd := (sc__law_laid).nd
      have hu : (A.deeper (envOfC "_law_laid" (defScope s__law_laid) s.heap.objs.size f cdv)).units + 65 < cLine := by have := hr.un; omega
      refine PSs.nox ?_
      exact (dss_one (ds_ret (pd_callTy so_tuple rfl T.f_tuple bt_tuple (pd_cons (pd_rev (pd_callBn (so_sortG hu) rfl T.f_sorted bt_sorted (pd_cons (pd_lcE (own := [("height", 1)]) rfl nd (pd_iE (pd_var (pv 0))) (blkOk_by (by kernel_rfl)) (fun _ _ _ _ _ => (pd_gn (pg_name (i := 1) nd rfl (by first | exact Or.inl rfl | exact Or.inr rfl)))) (by decide) (fun _ _ _ _ _ => (pd_tsone (pt_cmp' so_gt (pd_var (pv 1)) pd_int (nomark _)))) (fun _ _ _ _ _ => (pd_var (pv 1)))) pd_nil))) pd_nil)))))
    exact h
theorem sc__law_without_rim : FnScope ["piles", "row", "column", "rows", "at", "place", "near"] ["piles", "row", "column"] (defScope s__law_without_rim) := ⟨rfl, rfl, rfl, by decide +kernel, rfl, by decide +kernel, by decide +kernel⟩
theorem ok__law_without_rim (T : Tx K mg) {f : Addr} {fd : FuncData} (F : FunD K "_law_without_rim" "_law_without_rim" (defArgs s__law_without_rim) (defBody s__law_without_rim) (defScope s__law_without_rim) [] [] f fd) (C__law_laid : Cal P w K mg base "_law_laid" 1 m__law_laid 1) : FnOk P w K mg base CX0 2 f fd ["piles", "row", "column"] (spM K 3 m__law_without_rim) := by
    have h := fn_ok (P := P) (w := w) (mg := mg) (base := base) (k := 1) (f := b__law_without_rim) F sc__law_without_rim (by decide) (fun cdv A outer s H E hr => by
      have nd := (sc__law_without_rim).nd
      have hu : (A.deeper (envOfC "_law_without_rim" (defScope s__law_without_rim) s.heap.objs.size f cdv)).units + 65 < cLine := by have := hr.un; omega
      refine PSs.nox ?_
      exact (dss_cons (ds_dnew (i := 3) nd rfl (by first | exact Or.inl rfl | exact Or.inr rfl))
    (dss_cons (ds_for PassesOwn.never rfl (pd_range1 rfl T.f_range (pd_callB so_len rfl T.f_len bt_len (pd_cons (pd_var (pv 0)) pd_nil))) (pd_gn (pg_name (i := 4) nd rfl (by first | exact Or.inl rfl | exact Or.inr rfl))) (dss_one (ds_for PassesOwn.never rfl (pd_range1 rfl T.f_range (pd_ix so_ix (pd_var (pv 0)) (pd_var (pv 4)) (fun _ _ => rfl))) (pd_gn (pg_name (i := 5) nd rfl (by first | exact Or.inl rfl | exact Or.inr rfl))) (dss_cons (ds_if (pw_pt (pw_or' (pw_pt (pw_and' (pt_cmp' (so_eq hu) (pd_var (pv 4)) (pd_var (pv 1)) (nomark _)) (pw_one (pt_cmp' so_ge (pd_var (pv 5)) (pd_var (pv 2)) (nomark _))))) (pw_one (pw_pt (pw_and' (pt_cmp' (so_eq hu) (pd_var (pv 5)) (pd_var (pv 2)) (nomark _)) (pw_one (pt_cmp' so_ge (pd_var (pv 4)) (pd_var (pv 1)) (nomark _)))))))) (dss_one ds_cont) dss_nil)
    (dss_cons (ds_asg (i := 6) (pd_if (pw_pt (pw_and' (pt_cmp' so_gt (pd_var (pv 4)) (pd_var (pv 1)) (nomark _)) (pw_one (pt_cmp' so_gt (pd_var (pv 5)) (pd_var (pv 2)) (nomark _))))) (pd_op2 so_sub (pd_var (pv 4)) pd_int) (pd_var (pv 4))) nd rfl (by first | exact Or.inl rfl | exact Or.inr rfl))
    (dss_one (ds_dset (i := 3) hu (pv 3) (pd_op2n so_add (pd_dget2 (i := 3) hu (pv 3) (pd_var (pv 6)) pd_int ⟨rfl, rfl, rfl, rfl⟩) pd_int) (pd_var (pv 6)))))))))
    (dss_one (ds_ret (pd_cal C__law_laid hr (by decide) rfl (len_cons len_nil) (pd_cons (pd_lcE (own := [("at", 4)]) rfl nd (pd_iE (pd_dsrt (i := 3) rfl hu rfl T.f_sorted bt_sorted (pv 3))) (blkOk_by (by kernel_rfl)) (fun _ _ _ _ _ => (pd_gn (pg_name (i := 4) nd rfl (by first | exact Or.inl rfl | exact Or.inr rfl)))) (by decide) (fun _ _ _ _ _ => pd_tsnil) (fun _ _ _ _ _ => (pd_dget (i := 3) hu (pv 3) (pd_var (pv 4)) (fun _ _ => rfl)))) pd_nil)))))))
    exact h
theorem sc__law_moves : FnScope ["game", "piles", "found", "at", "height", "column", "own"] ["game", "piles"] (defScope s__law_moves) := ⟨rfl, rfl, rfl, by decide +kernel, rfl, by decide +kernel, by decide +kernel⟩
theorem ok__law_moves (T : Tx K mg) {f : Addr} {fd : FuncData} (F : FunD K "_law_moves" "_law_moves" (defArgs s__law_moves) (defBody s__law_moves) (defScope s__law_moves) [] [] f fd) (C__law_laid : Cal P w K mg base "_law_laid" 1 m__law_laid 1) (C__law_without_rim : Cal P w K mg base "_law_without_rim" 3 m__law_without_rim 2) : FnOk P w K mg base CX0 3 f fd ["game", "piles"] (spM K 2 m__law_moves) := by
    have h := fn_ok (P := P) (w := w) (mg := mg) (base := base) (k := 2) (f := b__law_moves) F sc__law_moves (by decide) (fun cdv A outer s H E hr => by
      have nd := (sc__law_moves).nd
      have hu : (A.deeper (envOfC "_law_moves" (defScope s__law_moves) s.heap.objs.size f cdv)).units + 65 < cLine := by have := hr.un; omega
      refine PSs.nox ?_
      exact (dss_cons (ds_dnew (i := 2) nd rfl (by first | exact Or.inl rfl | exact Or.inr rfl))
    (dss_cons (ds_for PassesOwn.never rfl (pd_enum rfl T.f_enumerate (pd_var (pv 1))) (pd_gt rfl (pd_gcons (pd_gn (pg_name (i := 3) nd rfl (by first | exact Or.inl rfl | exact Or.inr rfl))) (pd_gcons (pd_gn (pg_name (i := 4) nd rfl (by first | exact Or.inl rfl | exact Or.inr rfl))) pd_gnil))) (dss_cons (ds_for PassesOwn.never rfl (pd_range1 rfl T.f_range (pd_var (pv 4))) (pd_gn (pg_name (i := 5) nd rfl (by first | exact Or.inl rfl | exact Or.inr rfl))) (dss_cons (ds_if (pt_cmp' (so_eq hu) (pd_var (pv 0)) pd_str (nomark _)) (dss_one (ds_dset (i := 2) hu (pv 2) pd_bl (pd_cal C__law_laid hr (by decide) rfl (len_cons len_nil) (pd_cons (pd_op2n so_add (pd_op2n so_add (pd_callTyn (so_list rfl) rfl T.f_list bt_list (pd_cons (pd_slice so_sl (pd_var (pv 1)) pd_ono (pd_oso (pd_var (pv 3)))) pd_nil)) (pd_lst (pd_cons (pd_var (pv 5)) pd_nil))) (pd_callTyn (so_list rfl) rfl T.f_list bt_list (pd_cons (pd_slice so_sl (pd_var (pv 1)) (pd_oso (pd_op2n so_add (pd_var (pv 3)) pd_int)) pd_ono) pd_nil))) pd_nil)))) dss_nil)
    (dss_cons (ds_if (pt_cmp' (so_eq hu) (pd_var (pv 0)) pd_str (nomark _)) (dss_one (ds_dset (i := 2) hu (pv 2) pd_bl (pd_cal C__law_without_rim hr (by decide) rfl (len_cons (len_cons (len_cons len_nil))) (pd_cons (pd_var (pv 1)) (pd_cons (pd_var (pv 3)) (pd_cons (pd_var (pv 5)) pd_nil)))))) dss_nil)
    (dss_one (ds_if (pw_pt (pw_and' (pt_cmp' (so_eq hu) (pd_var (pv 0)) pd_str (nomark _)) (pw_one (pt_cmp' (so_eq hu) (pd_var (pv 3)) pd_int (nomark _))))) (dss_one (ds_dset (i := 2) hu (pv 2) pd_bl (pd_cal C__law_laid hr (by decide) rfl (len_cons len_nil) (pd_cons (pd_lcE (own := [("own", 6)]) rfl nd (pd_iE (pd_var (pv 1))) (blkOk_by (by kernel_rfl)) (fun _ _ _ _ _ => (pd_gn (pg_name (i := 6) nd rfl (by first | exact Or.inl rfl | exact Or.inr rfl)))) (by decide) (fun _ _ _ _ _ => pd_tsnil) (fun _ _ _ _ _ => (pd_op2 so_sub (pd_var (pv 6)) (pd_if (pt_cmp' so_gt (pd_var (pv 6)) (pd_var (pv 5)) (nomark _)) pd_int pd_int)))) pd_nil)))) dss_nil)))))
    (dss_one (ds_if (pw_pt (pw_or' (pt_cmp' (so_eq hu) (pd_var (pv 0)) pd_str (nomark _)) (pw_one (pw_pt (pw_and' (pt_cmp' (so_eq hu) (pd_var (pv 0)) pd_str (nomark _)) (pw_one (pt_cmp' (so_eq hu) (pd_var (pv 3)) pd_int (nomark _)))))))) (dss_one (ds_dset (i := 2) hu (pv 2) pd_bl (pd_op2n so_add (pd_slice so_sl (pd_var (pv 1)) pd_ono (pd_oso (pd_var (pv 3)))) (pd_slice so_sl (pd_var (pv 1)) (pd_oso (pd_op2n so_add (pd_var (pv 3)) pd_int)) pd_ono)))) dss_nil))))
    (dss_cons (ds_if (pw_pt (pw_and' (pt_cmp' (so_eq hu) (pd_var (pv 0)) pd_str (nomark _)) (pw_one (pt_cmp' (so_ne hu) (pd_var (pv 1)) (pd_tup pd_nil) (nomark _))))) (dss_one (ds_dset (i := 2) hu (pv 2) pd_bl (pd_cal C__law_laid hr (by decide) rfl (len_cons len_nil) (pd_cons (pd_lcE (own := [("own", 6)]) rfl nd (pd_iE (pd_var (pv 1))) (blkOk_by (by kernel_rfl)) (fun _ _ _ _ _ => (pd_gn (pg_name (i := 6) nd rfl (by first | exact Or.inl rfl | exact Or.inr rfl)))) (by decide) (fun _ _ _ _ _ => pd_tsnil) (fun _ _ _ _ _ => (pd_op2 so_sub (pd_var (pv 6)) pd_int))) pd_nil)))) dss_nil)
    (dss_one (ds_ret (pd_callTy so_tuple rfl T.f_tuple bt_tuple (pd_cons (pd_dsrt (i := 2) rfl hu rfl T.f_sorted bt_sorted (pv 2)) pd_nil))))))))
    exact h
theorem sc__law_figures : FnScope ["numbers", "whole", "power", "left", "odd", "one"] ["numbers"] (defScope s__law_figures) := ⟨rfl, rfl, rfl, by decide +kernel, rfl, by decide +kernel, by decide +kernel⟩
theorem ok__law_figures (T : Tx K mg) {f : Addr} {fd : FuncData} (F : FunD K "_law_figures" "_law_figures" (defArgs s__law_figures) (defBody s__law_figures) (defScope s__law_figures) [] [] f fd)  : FnOk P w K mg base CX0 1 f fd ["numbers"] (spM K 1 m__law_figures) := by
    have h := fn_ok (P := P) (w := w) (mg := mg) (base := base) (k := 0) (f := b__law_figures) F sc__law_figures (by decide) (fun cdv A outer s H E hr => by
      have nd := (sc__law_figures).nd
      have hu : (A.deeper (envOfC "_law_figures" (defScope s__law_figures) s.heap.objs.size f cdv)).units + 65 < cLine := by have := hr.un; omega
      refine PSs.nox ?_
      exact (dss_cons (ds_parA3 (i := 1) (j := 2) (l := 3) (pd_cons pd_int (pd_cons pd_int (pd_cons (pd_callTyn (so_list rfl) rfl T.f_list bt_list (pd_cons (pd_var (pv 0)) pd_nil)) pd_nil))) rfl nd rfl rfl rfl (by decide) (by decide) (by decide) rfl rfl rfl (by with_unfolding_all rfl))
    (dss_cons (ds_while PassesOwn.never (pt_cmp' (so_ne hu) (pd_lcE (own := [("one", 5)]) rfl nd (pd_iE (pd_var (pv 3))) (blkOk_by (by kernel_rfl)) (fun _ _ _ _ _ => (pd_gn (pg_name (i := 5) nd rfl (by first | exact Or.inl rfl | exact Or.inr rfl)))) (by decide) (fun _ _ _ _ _ => (pd_tsone (pt_cmp' so_gt (pd_var (pv 5)) pd_int (nomark _)))) (fun _ _ _ _ _ => (pd_var (pv 5)))) (pd_lst pd_nil) (nomark _)) (dss_cons (ds_asg (i := 4) (pd_callB so_len rfl T.f_len bt_len (pd_cons (pd_lcE (own := [("one", 5)]) rfl nd (pd_iE (pd_var (pv 3))) (blkOk_by (by kernel_rfl)) (fun _ _ _ _ _ => (pd_gn (pg_name (i := 5) nd rfl (by first | exact Or.inl rfl | exact Or.inr rfl)))) (by decide) (fun _ _ _ _ _ => (pd_tsone (pt_cmp' (so_eq hu) (pd_op2 so_mod (pd_callTy so_int rfl T.f_int bt_int (pd_cons (pd_var (pv 5)) pd_nil)) pd_int) pd_int (nomark _)))) (fun _ _ _ _ _ => (pd_var (pv 5)))) pd_nil)) nd rfl (by first | exact Or.inl rfl | exact Or.inr rfl))
    (dss_one (ds_parA3 (i := 1) (j := 2) (l := 3) (pd_cons (pd_op2n so_add (pd_var (pv 1)) (pd_op2n so_mul (pd_var (pv 2)) (pd_op2 so_mod (pd_callTy so_int rfl T.f_int bt_int (pd_cons (pd_var (pv 4)) pd_nil)) pd_int))) (pd_cons (pd_op2n so_mul pd_int (pd_var (pv 2))) (pd_cons (pd_lcE (own := [("one", 5)]) rfl nd (pd_iE (pd_var (pv 3))) (blkOk_by (by kernel_rfl)) (fun _ _ _ _ _ => (pd_gn (pg_name (i := 5) nd rfl (by first | exact Or.inl rfl | exact Or.inr rfl)))) (by decide) (fun _ _ _ _ _ => pd_tsnil) (fun _ _ _ _ _ => (pd_callTy so_int rfl T.f_int bt_int (pd_cons (pd_op2 so_fdiv (pd_var (pv 5)) pd_int) pd_nil)))) pd_nil))) rfl nd rfl rfl rfl (by decide) (by decide) (by decide) rfl rfl rfl (by with_unfolding_all rfl)))))
    (dss_one (ds_ret (pd_var (pv 1)))))))
    exact h
theorem sc__law_worth : FnScope ["game", "piles", "known", "worths", "later", "number"] ["game", "piles", "known"] (defScope s__law_worth) := ⟨rfl, rfl, rfl, by decide +kernel, rfl, by decide +kernel, by decide +kernel⟩
theorem rk__law_worth (T : Tx K mg) {f : Addr} {fd : FuncData} (F : FunD K "_law_worth" "_law_worth" (defArgs s__law_worth) (defBody s__law_worth) (defScope s__law_worth) [] [] f fd) (hmg : mg "_law_worth" = some (.ref f)) (hb : Binds K fd ["game", "piles", "known"] []) (C__law_moves : Cal P w K mg base "_law_moves" 2 m__law_moves 3) : ∀ d : Nat, FnOk P w K mg base CX0 (3 + d) f fd ["game", "piles", "known"] (spM K 3 (r__law_worth d))
  | 0 => fn_none rfl
  | d + 1 => by
    have C__law_worth : Cal P w K mg base "_law_worth" 3 (r__law_worth d) (3 + d) := ⟨_, _, _, rk__law_worth T F hmg hb C__law_moves d, hmg, F.kp, hb⟩
    have h := fn_ok (P := P) (w := w) (mg := mg) (base := base) (k := 3 + d) (f := b__law_worth (r__law_worth d)) F sc__law_worth (by decide) (fun cdv A outer s H E hr => by
      have nd := (sc__law_worth).nd
      have hu : (A.deeper (envOfC "_law_worth" (defScope s__law_worth) s.heap.objs.size f cdv)).units + 65 < cLine := by have := hr.un; omega
      refine PSs.nox ?_
      exact (dss_cons (ds_if (pt_dnin (i := 2) hu (pv 2) (pd_var (pv 1))) (dss_cons (ds_asg (i := 3) (pd_lcE (own := [("later", 4)]) rfl nd (pd_iE (pd_cal C__law_moves hr (by omega) rfl (len_cons (len_cons len_nil)) (pd_cons (pd_var (pv 0)) (pd_cons (pd_var (pv 1)) pd_nil)))) (blkOk_by (by kernel_rfl)) (fun _ _ _ _ _ => (pd_gn (pg_name (i := 4) nd rfl (by first | exact Or.inl rfl | exact Or.inr rfl)))) (by decide) (fun _ _ _ _ _ => pd_tsnil) (fun _ _ _ _ _ => (pd_cal C__law_worth hr (by omega) rfl (len_cons (len_cons (len_cons len_nil))) (pd_cons (pd_var (pv 0)) (pd_cons (pd_var (pv 4)) (pd_cons (pd_var (pv 2)) pd_nil)))))) nd rfl (by first | exact Or.inl rfl | exact Or.inr rfl))
    (dss_one (ds_dset (i := 2) hu (pv 2) (pd_ix so_ix (pd_lcE (own := [("number", 5)]) rfl nd (pd_range1 rfl T.f_range (pd_op2n so_add (pd_callB so_len rfl T.f_len bt_len (pd_cons (pd_var (pv 3)) pd_nil)) pd_int)) (blkOk_by (by kernel_rfl)) (fun _ _ _ _ _ => (pd_gn (pg_name (i := 5) nd rfl (by first | exact Or.inl rfl | exact Or.inr rfl)))) (by decide) (fun _ _ _ _ _ => (pd_tsone (pt_cmp' (so_notIn hu) (pd_var (pv 5)) (pd_var (pv 3)) (by with_unfolding_all rfl)))) (fun _ _ _ _ _ => (pd_var (pv 5)))) pd_int (fun _ _ => rfl)) (pd_var (pv 1))))) dss_nil)
    (dss_one (ds_ret (pd_dget (i := 2) hu (pv 2) (pd_var (pv 1)) (fun _ _ => rfl))))))
    exact h
theorem sc__law_edges : FnScope ["piles", "known", "row", "column", "beside", "number"] ["piles"] (defScope s__law_edges) := ⟨rfl, rfl, rfl, by decide +kernel, rfl, by decide +kernel, by decide +kernel⟩
theorem ok__law_edges (T : Tx K mg) {f : Addr} {fd : FuncData} (F : FunD K "_law_edges" "_law_edges" (defArgs s__law_edges) (defBody s__law_edges) (defScope s__law_edges) [] [] f fd)  : FnOk P w K mg base CX0 1 f fd ["piles"] (spM K 1 m__law_edges) := by
    have h := fn_ok (P := P) (w := w) (mg := mg) (base := base) (k := 0) (f := b__law_edges) F sc__law_edges (by decide) (fun cdv A outer s H E hr => by
      have nd := (sc__law_edges).nd
      have hu : (A.deeper (envOfC "_law_edges" (defScope s__law_edges) s.heap.objs.size f cdv)).units + 65 < cLine := by have := hr.un; omega
      refine PSs.nox ?_
      exact (dss_cons (ds_dnew (i := 1) nd rfl (by first | exact Or.inl rfl | exact Or.inr rfl))
    (dss_cons (ds_for PassesOwn.never rfl (pd_rangeDn rfl T.f_range (pd_callB so_len rfl T.f_len bt_len (pd_cons (pd_var (pv 0)) pd_nil)) (pd_neg pd_int) (pd_m1 (pd_neg pd_int))) (pd_gn (pg_name (i := 2) nd rfl (by first | exact Or.inl rfl | exact Or.inr rfl))) (dss_one (ds_for PassesOwn.never rfl (pd_rangeDn rfl T.f_range (pd_callB (so_max rfl hu) rfl T.f_max bt_max (pd_cons (pd_op2n so_add (pd_tup (pd_cons pd_int pd_nil)) (pd_var (pv 0))) pd_nil)) (pd_neg pd_int) (pd_m1 (pd_neg pd_int))) (pd_gn (pg_name (i := 3) nd rfl (by first | exact Or.inl rfl | exact Or.inr rfl))) (dss_one (ds_if (pw_pt (pw_or' (pt_cmp' (so_eq hu) (pd_var (pv 2)) (pd_callB so_len rfl T.f_len bt_len (pd_cons (pd_var (pv 0)) pd_nil)) (nomark _)) (pw_one (pt_cmp' so_ge (pd_var (pv 3)) (pd_ix so_ix (pd_var (pv 0)) (pd_var (pv 2)) (fun _ _ => rfl)) (nomark _))))) (dss_one (ds_dset (i := 1) hu (pv 1) pd_int (pd_tup (pd_cons (pd_var (pv 2)) (pd_cons (pd_var (pv 3)) pd_nil))))) (dss_cons (ds_asg (i := 4) (pd_lst (pd_cons (pd_dget (i := 1) hu (pv 1) (pd_tup (pd_cons (pd_op2n so_add (pd_var (pv 2)) pd_int) (pd_cons (pd_var (pv 3)) pd_nil))) (fun _ _ => rfl)) (pd_cons (pd_dget (i := 1) hu (pv 1) (pd_tup (pd_cons (pd_var (pv 2)) (pd_cons (pd_op2n so_add (pd_var (pv 3)) pd_int) pd_nil))) (fun _ _ => rfl)) pd_nil))) nd rfl (by first | exact Or.inl rfl | exact Or.inr rfl))
    (dss_one (ds_dset (i := 1) hu (pv 1) (pd_ix so_ix (pd_lcE (own := [("number", 5)]) rfl nd (pd_range1 rfl T.f_range pd_int) (blkOk_by (by kernel_rfl)) (fun _ _ _ _ _ => (pd_gn (pg_name (i := 5) nd rfl (by first | exact Or.inl rfl | exact Or.inr rfl)))) (by decide) (fun _ _ _ _ _ => (pd_tsone (pt_cmp' (so_notIn hu) (pd_var (pv 5)) (pd_var (pv 4)) (by with_unfolding_all rfl)))) (fun _ _ _ _ _ => (pd_var (pv 5)))) pd_int (fun _ _ => rfl)) (pd_tup (pd_cons (pd_var (pv 2)) (pd_cons (pd_var (pv 3)) pd_nil)))))))))))
    (dss_one (ds_ret (pd_dget (i := 1) hu (pv 1) (pd_tup (pd_cons pd_int (pd_cons pd_int pd_nil))) (fun _ _ => rfl)))))))
    exact h
theorem sc__law_right : FnScope ["cup", "piles", "told", "halves", "row", "other", "column", "hook", "power"] ["cup", "piles"] (defScope s__law_right) := ⟨rfl, rfl, rfl, by decide +kernel, rfl, by decide +kernel, by decide +kernel⟩
theorem ok__law_right (T : Tx K mg) {f : Addr} {fd : FuncData} (F : FunD K "_law_right" "_law_right" (defArgs s__law_right) (defBody s__law_right) (defScope s__law_right) [] [] f fd) (C_game_worth : Cal P w K mg base "game_worth" 2 m_game_worth 31) (C__law_hook : Cal P w K mg base "_law_hook" 3 m__law_hook 1) (C__law_like : Cal P w K mg base "_law_like" 2 m__law_like 9) (C__law_edges : Cal P w K mg base "_law_edges" 1 m__law_edges 1) (C__law_figures : Cal P w K mg base "_law_figures" 1 m__law_figures 1) (C_turned : Cal P w K mg base "turned" 1 m_turned 6) (C_is_won : Cal P w K mg base "is_won" 2 m_is_won 31) : FnOk P w K mg base CX0 32 f fd ["cup", "piles"] (spM K 2 m__law_right) := by
    have h := fn_ok (P := P) (w := w) (mg := mg) (base := base) (k := 31) (f := b__law_right) F sc__law_right (by decide) (fun cdv A outer s H E hr => by
      have nd := (sc__law_right).nd
      have hu : (A.deeper (envOfC "_law_right" (defScope s__law_right) s.heap.objs.size f cdv)).units + 65 < cLine := by have := hr.un; omega
      refine PSs.nox ?_
      exact (dss_cons (ds_asg (i := 2) (pd_lst (pd_cons (pd_cal C_game_worth hr (by decide) rfl (len_cons (len_cons len_nil)) (pd_cons pd_str (pd_cons (pd_var (pv 1)) pd_nil))) (pd_cons (pd_cal C_game_worth hr (by decide) rfl (len_cons (len_cons len_nil)) (pd_cons pd_str (pd_cons (pd_var (pv 1)) pd_nil))) (pd_cons (pd_cal C_game_worth hr (by decide) rfl (len_cons (len_cons len_nil)) (pd_cons pd_str (pd_cons (pd_var (pv 1)) pd_nil))) pd_nil)))) nd rfl (by first | exact Or.inl rfl | exact Or.inr rfl))
    (dss_cons (ds_new (i := 3) (pd_lst pd_nil) nd rfl (by first | exact Or.inl rfl | exact Or.inr rfl))
    (dss_cons (ds_for PassesOwn.never rfl (pd_range1 rfl T.f_range (pd_callB so_len rfl T.f_len bt_len (pd_cons (pd_var (pv 1)) pd_nil))) (pd_gn (pg_name (i := 4) nd rfl (by first | exact Or.inl rfl | exact Or.inr rfl))) (dss_one (ds_for PassesOwn.never rfl (pd_range1 rfl T.f_range (pd_ix so_ix (pd_var (pv 1)) (pd_var (pv 4)) (fun _ _ => rfl))) (pd_gn (pg_name (i := 6) nd rfl (by first | exact Or.inl rfl | exact Or.inr rfl))) (dss_cons (ds_parA2 (i := 7) (j := 8) (pd_cons (pd_cal C__law_hook hr (by decide) rfl (len_cons (len_cons (len_cons len_nil))) (pd_cons (pd_var (pv 1)) (pd_cons (pd_var (pv 4)) (pd_cons (pd_var (pv 6)) pd_nil)))) (pd_cons pd_int pd_nil)) rfl nd rfl rfl (by decide) rfl rfl (by with_unfolding_all rfl))
    (dss_cons (ds_while PassesOwn.never (pt_cmp' (so_eq hu) (pd_op2 so_mod (pd_callTy so_int rfl T.f_int bt_int (pd_cons (pd_var (pv 7)) pd_nil)) (pd_var (pv 8))) pd_int (nomark _)) (dss_one (ds_asg (i := 8) (pd_op2n so_mul pd_int (pd_var (pv 8))) nd rfl (by first | exact Or.inl rfl | exact Or.inr rfl))))
    (dss_one (ds_app (i := 3) (pv 3) (pd_op2 so_sub (pd_var (pv 8)) pd_int))))))))
    (dss_frz 3 (dss_cons (ds_if (pt_not' (pt_tru (pd_cal C__law_like hr (by decide) rfl (len_cons (len_cons len_nil)) (pd_cons (pd_var (pv 2)) (pd_cons (pd_lst (pd_cons (pd_cal C__law_figures hr (by decide) rfl (len_cons len_nil) (pd_cons (pd_var (pv 1)) pd_nil)) (pd_cons (pd_cal C__law_figures hr (by decide) rfl (len_cons len_nil) (pd_cons (pd_var (pv 3)) pd_nil)) (pd_cons (pd_cal C__law_edges hr (by decide) rfl (len_cons len_nil) (pd_cons (pd_var (pv 1)) pd_nil)) pd_nil)))) pd_nil))) (fun _ => rfl))) (dss_one (ds_ret pd_bl)) dss_nil)
    (dss_cons (ds_asg (i := 5) (pd_cal C_turned hr (by decide) rfl (len_cons len_nil) (pd_cons (pd_var (pv 1)) pd_nil)) nd rfl (by first | exact Or.inl rfl | exact Or.inr rfl))
    (dss_one (ds_ret (pd_cal C__law_like hr (by decide) rfl (len_cons (len_cons len_nil)) (pd_cons (pd_lst (pd_cons (pd_cal C_game_worth hr (by decide) rfl (len_cons (len_cons len_nil)) (pd_cons pd_str (pd_cons (pd_var (pv 5)) pd_nil))) (pd_cons (pd_cal C_game_worth hr (by decide) rfl (len_cons (len_cons len_nil)) (pd_cons pd_str (pd_cons (pd_var (pv 5)) pd_nil))) (pd_cons (pd_cal C_is_won hr (by decide) rfl (len_cons (len_cons len_nil)) (pd_cons pd_str (pd_cons (pd_var (pv 1)) pd_nil))) pd_nil)))) (pd_cons (pd_lst (pd_cons (pd_ix so_ix (pd_var (pv 2)) pd_int (fun _ _ => rfl)) (pd_cons (pd_ix so_ix (pd_var (pv 2)) pd_int (fun _ _ => rfl)) (pd_cons (pd_cmp (so_ne hu) (pd_ix so_ix (pd_var (pv 2)) pd_int (fun _ _ => rfl)) pd_int (nomark _)) pd_nil)))) pd_nil))))))))))))
    exact h
theorem sc__law_all_right : FnScope ["cup", "stones", "known", "piles", "game", "due", "0a", "0b", "0c", "0d"] ["cup", "stones"] (defScope s__law_all_right) := ⟨rfl, rfl, rfl, by decide +kernel, rfl, by decide +kernel, by decide +kernel⟩
theorem ok__law_all_right (T : Tx K mg) {f : Addr} {fd : FuncData} (F : FunD K "_law_all_right" "_law_all_right" (defArgs s__law_all_right) (defBody s__law_all_right) (defScope s__law_all_right) [] [] f fd) (C__law_ways : Cal P w K mg base "_law_ways" 2 m__law_ways 8) (C__law_worth : Cal P w K mg base "_law_worth" 3 m__law_worth 23) (C__law_like : Cal P w K mg base "_law_like" 2 m__law_like 9) (C_is_won : Cal P w K mg base "is_won" 2 m_is_won 31) (C_game_worth : Cal P w K mg base "game_worth" 2 m_game_worth 31) (C_turned : Cal P w K mg base "turned" 1 m_turned 6) : FnOk P w K mg base CX0 32 f fd ["cup", "stones"] (spM K 2 m__law_all_right) := by
    have h := fn_nest (P := P) (w := w) (mg := mg) (base := base) (k := 31) (ki := 2) (n0 := 6) (k1 := (Str.ofString "heights")) (k2 := (Str.ofString "rims")) (k3 := (Str.ofString "edges")) (k4 := (Str.ofString "lines")) (f := b__law_all_right) F sc__law_all_right rfl (by decide) (by decide) (by decide +kernel) (by decide +kernel) (fun cdv A outer s H E hr => by
      have nd := (sc__law_all_right).nd
      have hu : (A.deeper (envOfC "_law_all_right" (defScope s__law_all_right) s.heap.objs.size f cdv)).units + 65 < cLine := by have := hr.un; omega
      refine PSs.nox ?_
      exact (pss_cons (ps_ph (ps_set (i := 2) nd rfl (by first | exact Or.inl rfl | exact Or.inr rfl) (pe_disp (pps_cons pe_str pe_dnewK (pps_cons pe_str pe_dnewK (pps_cons pe_str pe_dnewK (pps_cons pe_str pe_dnewK pps_nil)))) rfl rfl (by simp) (by decide)) rfl)) (dss_cons (ds_for PassesOwn.never rfl (pd_iE (pd_cal C__law_ways hr (by decide) rfl (len_cons (len_cons len_nil)) (pd_cons (pd_var (pv 1)) (pd_cons (pd_var (pv 1)) pd_nil)))) (pd_gn (pg_name (i := 3) nd rfl (by first | exact Or.inl rfl | exact Or.inr rfl))) (dss_cons (ds_for PassesOwn.never rfl (pd_iE (pd_tup (pd_cons pd_str (pd_cons pd_str (pd_cons pd_str (pd_cons pd_str pd_nil)))))) (pd_gn (pg_name (i := 4) nd rfl (by first | exact Or.inl rfl | exact Or.inr rfl))) (dss_cons (ds_asg (i := 5) (pd_cal C__law_worth hr (by decide) rfl (len_cons (len_cons (len_cons len_nil))) (pd_cons (pd_var (pv 4)) (pd_cons (pd_var (pv 3)) (pd_cons (pd_nst (i := 2) hu (pv 2) (pd_var (pv 4)) (fun _ _ => rfl)) pd_nil)))) nd rfl (by first | exact Or.inl rfl | exact Or.inr rfl))
    (dss_one (ds_if (pt_not' (pt_tru (pd_cal C__law_like hr (by decide) rfl (len_cons (len_cons len_nil)) (pd_cons (pd_lst (pd_cons (pd_cal C_game_worth hr (by decide) rfl (len_cons (len_cons len_nil)) (pd_cons (pd_var (pv 4)) (pd_cons (pd_var (pv 3)) pd_nil))) (pd_cons (pd_cal C_is_won hr (by decide) rfl (len_cons (len_cons len_nil)) (pd_cons (pd_var (pv 4)) (pd_cons (pd_var (pv 3)) pd_nil))) pd_nil))) (pd_cons (pd_lst (pd_cons (pd_var (pv 5)) (pd_cons (pd_cmp (so_ne hu) (pd_var (pv 5)) pd_int (nomark _)) pd_nil))) pd_nil))) (fun _ => rfl))) (dss_one (ds_ret pd_bl)) dss_nil))))
    (dss_one (ds_if (pt_cmp' (so_ne hu) (pd_cal C_game_worth hr (by decide) rfl (len_cons (len_cons len_nil)) (pd_cons pd_str (pd_cons (pd_cal C_turned hr (by decide) rfl (len_cons len_nil) (pd_cons (pd_var (pv 3)) pd_nil)) pd_nil))) (pd_cal C_game_worth hr (by decide) rfl (len_cons (len_cons len_nil)) (pd_cons pd_str (pd_cons (pd_var (pv 3)) pd_nil))) (nomark _)) (dss_one (ds_ret pd_bl)) dss_nil))))
    (dss_one (ds_ret pd_bl)))))
    exact h
theorem sc__law_lines_right : FnScope ["cup", "piles"] ["cup", "piles"] (defScope s__law_lines_right) := ⟨rfl, rfl, rfl, by decide +kernel, rfl, by decide +kernel, by decide +kernel⟩
theorem ok__law_lines_right (T : Tx K mg) {f : Addr} {fd : FuncData} (F : FunD K "_law_lines_right" "_law_lines_right" (defArgs s__law_lines_right) (defBody s__law_lines_right) (defScope s__law_lines_right) [] [] f fd) (C__law_like : Cal P w K mg base "_law_like" 2 m__law_like 9) (C__law_worth : Cal P w K mg base "_law_worth" 3 m__law_worth 23) (C_game_worth : Cal P w K mg base "game_worth" 2 m_game_worth 31) (C_turned : Cal P w K mg base "turned" 1 m_turned 6) : FnOk P w K mg base CX0 32 f fd ["cup", "piles"] (spM K 2 m__law_lines_right) := by
    have h := fn_ok (P := P) (w := w) (mg := mg) (base := base) (k := 31) (f := b__law_lines_right) F sc__law_lines_right (by decide) (fun cdv A outer s H E hr => by
      have nd := (sc__law_lines_right).nd
      have hu : (A.deeper (envOfC "_law_lines_right" (defScope s__law_lines_right) s.heap.objs.size f cdv)).units + 65 < cLine := by have := hr.un; omega
      refine PSs.nox ?_
      exact (dss_one (ds_ret (pd_cal C__law_like hr (by decide) rfl (len_cons (len_cons len_nil)) (pd_cons (pd_lst (pd_cons (pd_cal C_game_worth hr (by decide) rfl (len_cons (len_cons len_nil)) (pd_cons pd_str (pd_cons (pd_var (pv 1)) pd_nil))) (pd_cons (pd_cal C_game_worth hr (by decide) rfl (len_cons (len_cons len_nil)) (pd_cons pd_str (pd_cons (pd_cal C_turned hr (by decide) rfl (len_cons len_nil) (pd_cons (pd_var (pv 1)) pd_nil)) pd_nil))) pd_nil))) (pd_cons (pd_op2n so_mul (pd_lst (pd_cons (pd_calD C__law_worth hr (by decide) rfl (LenA.d (len_cons (len_cons len_nil))) (pdad_cons pd_str (pdad_cons (pd_var (pv 1)) (pdad_one pdd_0)))) pd_nil)) pd_int) pd_nil))))))
    exact h
theorem sc_law : FnScope ["script", "cup", "one", "told", "most", "piles", "stones", "row", "column", "due"] ["script"] (defScope s_law) := ⟨rfl, rfl, rfl, by decide +kernel, rfl, by decide +kernel, by decide +kernel⟩
theorem ok_law (T : Tx K mg) {f : Addr} {fd : FuncData} (F : FunD K "law" "law" (defArgs s_law) (defBody s_law) (defScope s_law) [] [] f fd) (C__law_cup : Cal P w K mg base "_law_cup" 1 m__law_cup 1) (C_is_won : Cal P w K mg base "is_won" 2 m_is_won 31) (C_game_worth : Cal P w K mg base "game_worth" 2 m_game_worth 31) (C__law_like : Cal P w K mg base "_law_like" 2 m__law_like 9) (C__law_right : Cal P w K mg base "_law_right" 2 m__law_right 32) (C__law_piles : Cal P w K mg base "_law_piles" 2 m__law_piles 2) (C__law_all_right : Cal P w K mg base "_law_all_right" 2 m__law_all_right 32) (C__law_roll : Cal P w K mg base "_law_roll" 2 m__law_roll 1) (C__law_lines_right : Cal P w K mg base "_law_lines_right" 2 m__law_lines_right 32) : FnOk P w K mg base CX0 33 f fd ["script"] (spM K 1 m_law) := by
    have h := fn_ok (P := P) (w := w) (mg := mg) (base := base) (k := 32) (f := b_law) F sc_law (by decide) (fun cdv A outer s H E hr => by
      have nd := (sc_law).nd
      have hu : (A.deeper (envOfC "law" (defScope s_law) s.heap.objs.size f cdv)).units + 65 < cLine := by have := hr.un; omega
      refine PSs.nox ?_
      exact (dss_cons (ds_new (i := 1) (pd_cal C__law_cup hr (by decide) rfl (len_cons len_nil) (pd_cons (pd_var (pv 0)) pd_nil)) nd rfl (by first | exact Or.inl rfl | exact Or.inr rfl))
    (dss_cons (ds_asg (i := 2) (pd_tup (pd_cons pd_int (pd_cons pd_int pd_nil))) nd rfl (by first | exact Or.inl rfl | exact Or.inr rfl))
    (dss_cons (ds_asg (i := 3) (pd_lst (pd_cons (pd_cal C_game_worth hr (by decide) rfl (len_cons (len_cons len_nil)) (pd_cons pd_str (pd_cons (pd_var (pv 2)) pd_nil))) (pd_cons (pd_cal C_game_worth hr (by decide) rfl (len_cons (len_cons len_nil)) (pd_cons pd_str (pd_cons (pd_var (pv 2)) pd_nil))) (pd_cons (pd_cal C_game_worth hr (by decide) rfl (len_cons (len_cons len_nil)) (pd_cons pd_str (pd_cons (pd_var (pv 2)) pd_nil))) (pd_cons (pd_cal C_game_worth hr (by decide) rfl (len_cons (len_cons len_nil)) (pd_cons pd_str (pd_cons (pd_var (pv 2)) pd_nil))) (pd_cons (pd_cal C_is_won hr (by decide) rfl (len_cons (len_cons len_nil)) (pd_cons pd_str (pd_cons (pd_tup (pd_cons pd_int (pd_cons pd_int pd_nil))) pd_nil))) pd_nil)))))) nd rfl (by first | exact Or.inl rfl | exact Or.inr rfl))
    (dss_cons (ds_if (pt_not' (pt_tru (pd_cal C__law_like hr (by decide) rfl (len_cons (len_cons len_nil)) (pd_cons (pd_op2n so_add (pd_var (pv 3)) (pd_lst (pd_cons (pd_cal C_game_worth hr (by decide) rfl (len_cons (len_cons len_nil)) (pd_cons pd_str (pd_cons (pd_tup (pd_cons pd_int (pd_cons pd_int pd_nil))) pd_nil))) pd_nil))) (pd_cons (pd_lst (pd_cons pd_int (pd_cons pd_int (pd_cons pd_int (pd_cons pd_int (pd_cons pd_bl (pd_cons pd_int pd_nil))))))) pd_nil))) (fun _ => rfl))) (dss_one (ds_ret pd_bl)) dss_nil)
    (dss_cons (ds_for PassesOwn.never rfl (pd_iE (pd_tup (pd_cons pd_int (pd_cons pd_int (pd_cons pd_int pd_nil))))) (pd_gn (pg_name (i := 4) nd rfl (by first | exact Or.inl rfl | exact Or.inr rfl))) (dss_one (ds_if (pt_not' (pt_tru (pd_cal C__law_right hr (by decide) rfl (len_cons (len_cons len_nil)) (pd_cons (pd_var (pv 1)) (pd_cons (pd_cal C__law_piles hr (by decide) rfl (len_cons (len_cons len_nil)) (pd_cons (pd_var (pv 1)) (pd_cons (pd_var (pv 4)) pd_nil))) pd_nil))) (fun _ => rfl))) (dss_one (ds_ret pd_bl)) dss_nil)))
    (dss_cons (ds_if (pw_pt (pw_or' (pt_not' (pt_tru (pd_cal C__law_all_right hr (by decide) rfl (len_cons (len_cons len_nil)) (pd_cons (pd_var (pv 1)) (pd_cons (pd_cal C__law_roll hr (by decide) rfl (len_cons (len_cons len_nil)) (pd_cons (pd_var (pv 1)) (pd_cons pd_int pd_nil))) pd_nil))) (fun _ => rfl))) (pw_one (pt_not' (pt_tru (pd_cal C__law_lines_right hr (by decide) rfl (len_cons (len_cons len_nil)) (pd_cons (pd_var (pv 1)) (pd_cons (pd_cal C__law_piles hr (by decide) rfl (len_cons (len_cons len_nil)) (pd_cons (pd_var (pv 1)) (pd_cons pd_int pd_nil))) pd_nil))) (fun _ => rfl)))))) (dss_one (ds_ret pd_bl)) dss_nil)
    (dss_cons (ds_asg (i := 5) (pd_cal C__law_piles hr (by decide) rfl (len_cons (len_cons len_nil)) (pd_cons (pd_var (pv 1)) (pd_cons pd_int pd_nil))) nd rfl (by first | exact Or.inl rfl | exact Or.inr rfl))
    (dss_cons (ds_if (pw_pt (pw_and' (pt_cmp' (so_eq hu) (pd_cal C__law_roll hr (by decide) rfl (len_cons (len_cons len_nil)) (pd_cons (pd_var (pv 1)) (pd_cons pd_int pd_nil))) pd_int (nomark _)) (pw_one (pt_not' (pt_tru (pd_cal C__law_lines_right hr (by decide) rfl (len_cons (len_cons len_nil)) (pd_cons (pd_var (pv 1)) (pd_cons (pd_var (pv 5)) pd_nil))) (fun _ => rfl)))))) (dss_one (ds_ret pd_bl)) dss_nil)
    (dss_cons (ds_asg (i := 6) (pd_op2n so_add pd_int (pd_cal C__law_roll hr (by decide) rfl (len_cons (len_cons len_nil)) (pd_cons (pd_var (pv 1)) (pd_cons pd_int pd_nil)))) nd rfl (by first | exact Or.inl rfl | exact Or.inr rfl))
    (dss_cons (ds_parA3 (i := 7) (j := 8) (l := 9) (pd_cons (pd_tup (pd_cons (pd_var (pv 6)) pd_nil)) (pd_cons (pd_op2n so_mul (pd_tup (pd_cons pd_int pd_nil)) (pd_var (pv 6))) (pd_cons (pd_if (pt_cmp' (so_eq hu) (pd_op2 so_mod (pd_callTy so_int rfl T.f_int bt_int (pd_cons (pd_var (pv 6)) pd_nil)) pd_int) pd_int (nomark _)) pd_int pd_int) pd_nil))) rfl nd rfl rfl rfl (by decide) (by decide) (by decide) rfl rfl rfl (by with_unfolding_all rfl))
    (dss_cons (ds_asg (i := 3) (pd_lst (pd_cons (pd_cal C_game_worth hr (by decide) rfl (len_cons (len_cons len_nil)) (pd_cons pd_str (pd_cons (pd_var (pv 7)) pd_nil))) (pd_cons (pd_cal C_game_worth hr (by decide) rfl (len_cons (len_cons len_nil)) (pd_cons pd_str (pd_cons (pd_var (pv 7)) pd_nil))) (pd_cons (pd_cal C_game_worth hr (by decide) rfl (len_cons (len_cons len_nil)) (pd_cons pd_str (pd_cons (pd_var (pv 8)) pd_nil))) (pd_cons (pd_cal C_game_worth hr (by decide) rfl (len_cons (len_cons len_nil)) (pd_cons pd_str (pd_cons (pd_var (pv 7)) pd_nil))) (pd_cons (pd_cal C_game_worth hr (by decide) rfl (len_cons (len_cons len_nil)) (pd_cons pd_str (pd_cons (pd_var (pv 8)) pd_nil))) pd_nil)))))) nd rfl (by first | exact Or.inl rfl | exact Or.inr rfl))
    (dss_one (ds_ret (pd_cal C__law_like hr (by decide) rfl (len_cons (len_cons len_nil)) (pd_cons (pd_op2n so_add (pd_var (pv 3)) (pd_lst (pd_cons (pd_cal C_game_worth hr (by decide) rfl (len_cons (len_cons len_nil)) (pd_cons pd_str (pd_cons (pd_var (pv 8)) pd_nil))) (pd_cons (pd_cal C_game_worth hr (by decide) rfl (len_cons (len_cons len_nil)) (pd_cons pd_str (pd_cons (pd_tup pd_nil) pd_nil))) pd_nil)))) (pd_cons (pd_lst (pd_cons (pd_var (pv 6)) (pd_cons (pd_var (pv 6)) (pd_cons (pd_var (pv 6)) (pd_cons (pd_var (pv 9)) (pd_cons (pd_var (pv 9)) (pd_cons (pd_op2 so_mod (pd_callTy so_int rfl T.f_int bt_int (pd_cons (pd_var (pv 6)) pd_nil)) pd_int) (pd_cons pd_int pd_nil)))))))) pd_nil)))))))))))))))))
    exact h
end
def d_is_integer : He.DefD := ⟨("is_integer", none), "is_integer", "is_integer", defArgs s_is_integer, defBody s_is_integer, defScope s_is_integer, [], []⟩
def d_is_whole : He.DefD := ⟨("is_whole", none), "is_whole", "is_whole", defArgs s_is_whole, defBody s_is_whole, defScope s_is_whole, [], []⟩
def d_is_tuple_of : He.DefD := ⟨("is_tuple_of", none), "is_tuple_of", "is_tuple_of", defArgs s_is_tuple_of, defBody s_is_tuple_of, defScope s_is_tuple_of, [], []⟩
def d_is_falling : He.DefD := ⟨("is_falling", none), "is_falling", "is_falling", defArgs s_is_falling, defBody s_is_falling, defScope s_is_falling, [], []⟩
def d_are_heights : He.DefD := ⟨("are_heights", none), "are_heights", "are_heights", defArgs s_are_heights, defBody s_are_heights, defScope s_are_heights, [], []⟩
def d_fits_piles : He.DefD := ⟨("fits_piles", none), "fits_piles", "fits_piles", defArgs s_fits_piles, defBody s_fits_piles, defScope s_fits_piles, [], []⟩
def d_need_piles : He.DefD := ⟨("need_piles", none), "need_piles", "need_piles", defArgs s_need_piles, defBody s_need_piles, defScope s_need_piles, [], []⟩
def d_turned_in : He.DefD := ⟨("turned_in", none), "turned_in", "turned_in", defArgs s_turned_in, defBody s_turned_in, defScope s_turned_in, [], []⟩
def d_squares_in : He.DefD := ⟨("squares_in", none), "squares_in", "squares_in", defArgs s_squares_in, defBody s_squares_in, defScope s_squares_in, [], []⟩
def d_leg_in : He.DefD := ⟨("leg_in", none), "leg_in", "leg_in", defArgs s_leg_in, defBody s_leg_in, defScope s_leg_in, [], []⟩
def d_hook_rows : He.DefD := ⟨("hook_rows", none), "hook_rows", "hook_rows", defArgs s_hook_rows, defBody s_hook_rows, defScope s_hook_rows, [], []⟩
def d_hooks_in : He.DefD := ⟨("hooks_in", none), "hooks_in", "hooks_in", defArgs s_hooks_in, defBody s_hooks_in, defScope s_hooks_in, [], []⟩
def d_laid : He.DefD := ⟨("laid", none), "laid", "laid", defArgs s_laid, defBody s_laid, defScope s_laid, [], []⟩
def d_turned : He.DefD := ⟨("turned", none), "turned", "turned", defArgs s_turned, defBody s_turned, defScope s_turned, [], []⟩
def d_need_game : He.DefD := ⟨("need_game", none), "need_game", "need_game", defArgs s_need_game, defBody s_need_game, defScope s_need_game, [], []⟩
def d_need_game_piles : He.DefD := ⟨("need_game_piles", none), "need_game_piles", "need_game_piles", defArgs s_need_game_piles, defBody s_need_game_piles, defScope s_need_game_piles, [], []⟩
def d_without_rim : He.DefD := ⟨("without_rim", none), "without_rim", "without_rim", defArgs s_without_rim, defBody s_without_rim, defScope s_without_rim, [], []⟩
def d_without_column : He.DefD := ⟨("without_column", none), "without_column", "without_column", defArgs s_without_column, defBody s_without_column, defScope s_without_column, [], []⟩
def d_taken_from_heights : He.DefD := ⟨("taken_from_heights", none), "taken_from_heights", "taken_from_heights", defArgs s_taken_from_heights, defBody s_taken_from_heights, defScope s_taken_from_heights, [], []⟩
def d_moves_in : He.DefD := ⟨("moves_in", none), "moves_in", "moves_in", defArgs s_moves_in, defBody s_moves_in, defScope s_moves_in, [], []⟩
def d_least_beside : He.DefD := ⟨("least_beside", none), "least_beside", "least_beside", defArgs s_least_beside, defBody s_least_beside, defScope s_least_beside, [], []⟩
def d_sum_by_figures : He.DefD := ⟨("sum_by_figures", none), "sum_by_figures", "sum_by_figures", defArgs s_sum_by_figures, defBody s_sum_by_figures, defScope s_sum_by_figures, [], []⟩
def d_edges_worth : He.DefD := ⟨("edges_worth", none), "edges_worth", "edges_worth", defArgs s_edges_worth, defBody s_edges_worth, defScope s_edges_worth, [], []⟩
def d_lines_worth : He.DefD := ⟨("lines_worth", none), "lines_worth", "lines_worth", defArgs s_lines_worth, defBody s_lines_worth, defScope s_lines_worth, [], []⟩
def d_worth_in_game : He.DefD := ⟨("worth_in_game", none), "worth_in_game", "worth_in_game", defArgs s_worth_in_game, defBody s_worth_in_game, defScope s_worth_in_game, [], []⟩
def d_game_worth : He.DefD := ⟨("game_worth", none), "game_worth", "game_worth", defArgs s_game_worth, defBody s_game_worth, defScope s_game_worth, [], []⟩
def d_is_won : He.DefD := ⟨("is_won", none), "is_won", "is_won", defArgs s_is_won, defBody s_is_won, defScope s_is_won, [], []⟩
def d__law_cup : He.DefD := ⟨("_law_cup", none), "_law_cup", "_law_cup", defArgs s__law_cup, defBody s__law_cup, defScope s__law_cup, [], []⟩
def d__law_roll : He.DefD := ⟨("_law_roll", none), "_law_roll", "_law_roll", defArgs s__law_roll, defBody s__law_roll, defScope s__law_roll, [], []⟩
def d__law_sort : He.DefD := ⟨("_law_sort", none), "_law_sort", "_law_sort", defArgs s__law_sort, defBody s__law_sort, defScope s__law_sort, [], []⟩
def d__law_like : He.DefD := ⟨("_law_like", none), "_law_like", "_law_like", defArgs s__law_like, defBody s__law_like, defScope s__law_like, [], []⟩
def d__law_piles : He.DefD := ⟨("_law_piles", none), "_law_piles", "_law_piles", defArgs s__law_piles, defBody s__law_piles, defScope s__law_piles, [], []⟩
def d__law_ways : He.DefD := ⟨("_law_ways", none), "_law_ways", "_law_ways", defArgs s__law_ways, defBody s__law_ways, defScope s__law_ways, [], []⟩
def d__law_hook : He.DefD := ⟨("_law_hook", none), "_law_hook", "_law_hook", defArgs s__law_hook, defBody s__law_hook, defScope s__law_hook, [], []⟩
def d__law_laid : He.DefD := ⟨("_law_laid", none), "_law_laid", "_law_laid", defArgs s__law_laid, defBody s__law_laid, defScope s__law_laid, [], []⟩
def d__law_without_rim : He.DefD := ⟨("_law_without_rim", none), "_law_without_rim", "_law_without_rim", defArgs s__law_without_rim, defBody s__law_without_rim, defScope s__law_without_rim, [], []⟩
def d__law_moves : He.DefD := ⟨("_law_moves", none), "_law_moves", "_law_moves", defArgs s__law_moves, defBody s__law_moves, defScope s__law_moves, [], []⟩
def d__law_figures : He.DefD := ⟨("_law_figures", none), "_law_figures", "_law_figures", defArgs s__law_figures, defBody s__law_figures, defScope s__law_figures, [], []⟩
def d__law_worth : He.DefD := ⟨("_law_worth", none), "_law_worth", "_law_worth", defArgs s__law_worth, defBody s__law_worth, defScope s__law_worth, [], []⟩
def d__law_edges : He.DefD := ⟨("_law_edges", none), "_law_edges", "_law_edges", defArgs s__law_edges, defBody s__law_edges, defScope s__law_edges, [], []⟩
def d__law_right : He.DefD := ⟨("_law_right", none), "_law_right", "_law_right", defArgs s__law_right, defBody s__law_right, defScope s__law_right, [], []⟩
def d__law_all_right : He.DefD := ⟨("_law_all_right", none), "_law_all_right", "_law_all_right", defArgs s__law_all_right, defBody s__law_all_right, defScope s__law_all_right, [], []⟩
def d__law_lines_right : He.DefD := ⟨("_law_lines_right", none), "_law_lines_right", "_law_lines_right", defArgs s__law_lines_right, defBody s__law_lines_right, defScope s__law_lines_right, [], []⟩
def d_law : He.DefD := ⟨("law", none), "law", "law", defArgs s_law, defBody s_law, defScope s_law, [], []⟩
def fnl : List He.DefD := [d_is_integer, d_is_whole, d_is_tuple_of, d_is_falling, d_are_heights, d_fits_piles, d_need_piles, d_turned_in, d_squares_in, d_leg_in, d_hook_rows, d_hooks_in, d_laid, d_turned, d_need_game, d_need_game_piles, d_without_rim, d_without_column, d_taken_from_heights, d_moves_in, d_least_beside, d_sum_by_figures, d_edges_worth, d_lines_worth, d_worth_in_game, d_game_worth, d_is_won, d__law_cup, d__law_roll, d__law_sort, d__law_like, d__law_piles, d__law_ways, d__law_hook, d__law_laid, d__law_without_rim, d__law_moves, d__law_figures, d__law_worth, d__law_edges, d__law_right, d__law_all_right, d__law_lines_right, d_law]
def fal : List He.Fa := [.glo "is_integer", .glo "is_whole", .glo "is_tuple_of", .glo "is_falling", .glo "are_heights", .glo "fits_piles", .glo "need_piles", .glo "turned_in", .glo "squares_in", .glo "leg_in", .glo "hook_rows", .glo "hooks_in", .glo "laid", .glo "turned", .glo "need_game", .glo "need_game_piles", .glo "without_rim", .glo "without_column", .glo "taken_from_heights", .glo "moves_in", .glo "least_beside", .glo "sum_by_figures", .glo "edges_worth", .glo "lines_worth", .glo "worth_in_game", .glo "game_worth", .glo "is_won", .glo "_law_cup", .glo "_law_roll", .glo "_law_sort", .glo "_law_like", .glo "_law_piles", .glo "_law_ways", .glo "_law_hook", .glo "_law_laid", .glo "_law_without_rim", .glo "_law_moves", .glo "_law_figures", .glo "_law_worth", .glo "_law_edges", .glo "_law_right", .glo "_law_all_right", .glo "_law_lines_right", .glo "law", .free "isinstance", .free "int", .free "bool", .free "tuple", .free "len", .free "zip", .free "all", .free "sum", .free "max", .free "range", .free "enumerate", .free "sorted", .free "str", .free "list", .free "set", .free "dict", .free "abs", .free "min", .int "MOST" 300, .int "FEW" 24, .glo "GAMES"]
abbrev R : PySem.W.OpenRow := PySem.W.OpenLaw.row PySem.Challenge.rw_stonepiles_k75_whole_worths_of_games
def exB (K : PySem.W.Frag) : Bool := He.tupB K "GAMES" [.str (Str.ofString "heights"), .str (Str.ofString "rims"), .str (Str.ofString "edges"), .str (Str.ofString "lines")]
abbrev hk : PySem.W.Hook := He.hookX 4 fal fnl [] [] exB
def ob (s : PySem.W.SharedT) : He.AlX := He.obsX 4 fal fnl [] [] exB (HandSHeadRun.getT s)
theorem ob_eq (s : PySem.W.SharedT) : ob s = hk.obs s.abs := He.obsX_eq (HandSHeadRun.getT_eq s)
def nm0 : List PySem.Str := ["is_integer", "is_whole", "is_tuple_of", "is_falling", "are_heights", "fits_piles", "need_piles", "turned_in", "squares_in", "leg_in", "hook_rows", "hooks_in", "laid", "turned", "need_game", "need_game_piles", "without_rim", "without_column", "taken_from_heights", "moves_in", "least_beside", "sum_by_figures", "edges_worth", "lines_worth", "worth_in_game", "game_worth", "is_won", "_law_cup", "_law_roll", "_law_sort"]
def nm1 : List PySem.Str := ["_law_like", "_law_piles", "_law_ways", "_law_hook", "_law_laid", "_law_without_rim", "_law_moves", "_law_figures", "_law_worth", "_law_edges", "_law_right", "_law_all_right", "_law_lines_right", "PileError", "InvalidPiles", "InvalidMove", "TooMany", "MOST", "GAMES", "FEW"]
def nms : List PySem.Str := nm0 ++ nm1
theorem run (w : World) : HandSHeadRun.RunEq R (PySem.W.view R.prog [54]) hk ob 3000 nms w := by
  intro os
  kernel_rfl
theorem facts {P : Program} {w : World} {K : PySem.W.Frag} {h : Heap} {mg : Str → Option Value} {f : Addr} (X : K.In h) (G : h.Ns mainGlobals mg) (hfa : mg ("law" : Str) = some (.ref f)) (c : He.SaysD fal fnl K) (hB : exB K = true) :
    ∃ fd : FuncData, (∀ (s : Shared) (v : Value), BindsTo s fd ⟨[v], []⟩ [("script", v)]) ∧ ∀ base : Heap, K.In base → base.Ns mainGlobals mg → FnOk P w K mg base CX0 33 f fd ["script"] (spM K 1 m_law) := by
  have T : Tx K mg := ⟨⟨_, He.glo_ok X G (c.fact 64 (f := .glo "GAMES") rfl), fun H => L2.Dp.tup (He.tupB_ok (vs := [.str (Str.ofString "heights"), .str (Str.ofString "rims"), .str (Str.ofString "edges"), .str (Str.ofString "lines")]) hB H) (l2_flat (xs := [(Str.ofString "heights"), (Str.ofString "rims"), (Str.ofString "edges"), (Str.ofString "lines")]))⟩, He.free_ok X G (c.fact 44 (f := .free "isinstance") rfl), He.free_ok X G (c.fact 45 (f := .free "int") rfl), He.free_ok X G (c.fact 46 (f := .free "bool") rfl), He.free_ok X G (c.fact 47 (f := .free "tuple") rfl), He.free_ok X G (c.fact 48 (f := .free "len") rfl), He.free_ok X G (c.fact 49 (f := .free "zip") rfl), He.free_ok X G (c.fact 50 (f := .free "all") rfl), He.free_ok X G (c.fact 51 (f := .free "sum") rfl), He.free_ok X G (c.fact 52 (f := .free "max") rfl), He.free_ok X G (c.fact 53 (f := .free "range") rfl), He.free_ok X G (c.fact 54 (f := .free "enumerate") rfl), He.free_ok X G (c.fact 55 (f := .free "sorted") rfl), He.free_ok X G (c.fact 56 (f := .free "str") rfl), He.free_ok X G (c.fact 57 (f := .free "list") rfl), He.free_ok X G (c.fact 58 (f := .free "set") rfl), He.free_ok X G (c.fact 59 (f := .free "dict") rfl), He.free_ok X G (c.fact 60 (f := .free "abs") rfl), He.free_ok X G (c.fact 61 (f := .free "min") rfl), He.int_ok X G (c.fact 62 (f := .int "MOST" 300) rfl), He.int_ok X G (c.fact 63 (f := .int "FEW" 24) rfl)⟩
  obtain ⟨fd_is_integer, F_is_integer⟩ := c.def_ 0 (d := d_is_integer) rfl
  have g_is_integer := He.glo_ok X G (c.fact 0 (f := .glo "is_integer") rfl)
  obtain ⟨fd_is_whole, F_is_whole⟩ := c.def_ 1 (d := d_is_whole) rfl
  have g_is_whole := He.glo_ok X G (c.fact 1 (f := .glo "is_whole") rfl)
  obtain ⟨fd_is_tuple_of, F_is_tuple_of⟩ := c.def_ 2 (d := d_is_tuple_of) rfl
  have g_is_tuple_of := He.glo_ok X G (c.fact 2 (f := .glo "is_tuple_of") rfl)
  obtain ⟨fd_is_falling, F_is_falling⟩ := c.def_ 3 (d := d_is_falling) rfl
  have g_is_falling := He.glo_ok X G (c.fact 3 (f := .glo "is_falling") rfl)
  obtain ⟨fd_are_heights, F_are_heights⟩ := c.def_ 4 (d := d_are_heights) rfl
  have g_are_heights := He.glo_ok X G (c.fact 4 (f := .glo "are_heights") rfl)
  obtain ⟨fd_fits_piles, F_fits_piles⟩ := c.def_ 5 (d := d_fits_piles) rfl
  have g_fits_piles := He.glo_ok X G (c.fact 5 (f := .glo "fits_piles") rfl)
  obtain ⟨fd_need_piles, F_need_piles⟩ := c.def_ 6 (d := d_need_piles) rfl
  have g_need_piles := He.glo_ok X G (c.fact 6 (f := .glo "need_piles") rfl)
  obtain ⟨fd_turned_in, F_turned_in⟩ := c.def_ 7 (d := d_turned_in) rfl
  have g_turned_in := He.glo_ok X G (c.fact 7 (f := .glo "turned_in") rfl)
  obtain ⟨fd_squares_in, F_squares_in⟩ := c.def_ 8 (d := d_squares_in) rfl
  have g_squares_in := He.glo_ok X G (c.fact 8 (f := .glo "squares_in") rfl)
  obtain ⟨fd_leg_in, F_leg_in⟩ := c.def_ 9 (d := d_leg_in) rfl
  have g_leg_in := He.glo_ok X G (c.fact 9 (f := .glo "leg_in") rfl)
  obtain ⟨fd_hook_rows, F_hook_rows⟩ := c.def_ 10 (d := d_hook_rows) rfl
  have g_hook_rows := He.glo_ok X G (c.fact 10 (f := .glo "hook_rows") rfl)
  obtain ⟨fd_hooks_in, F_hooks_in⟩ := c.def_ 11 (d := d_hooks_in) rfl
  have g_hooks_in := He.glo_ok X G (c.fact 11 (f := .glo "hooks_in") rfl)
  obtain ⟨fd_laid, F_laid⟩ := c.def_ 12 (d := d_laid) rfl
  have g_laid := He.glo_ok X G (c.fact 12 (f := .glo "laid") rfl)
  obtain ⟨fd_turned, F_turned⟩ := c.def_ 13 (d := d_turned) rfl
  have g_turned := He.glo_ok X G (c.fact 13 (f := .glo "turned") rfl)
  obtain ⟨fd_need_game, F_need_game⟩ := c.def_ 14 (d := d_need_game) rfl
  have g_need_game := He.glo_ok X G (c.fact 14 (f := .glo "need_game") rfl)
  obtain ⟨fd_need_game_piles, F_need_game_piles⟩ := c.def_ 15 (d := d_need_game_piles) rfl
  have g_need_game_piles := He.glo_ok X G (c.fact 15 (f := .glo "need_game_piles") rfl)
  obtain ⟨fd_without_rim, F_without_rim⟩ := c.def_ 16 (d := d_without_rim) rfl
  have g_without_rim := He.glo_ok X G (c.fact 16 (f := .glo "without_rim") rfl)
  obtain ⟨fd_without_column, F_without_column⟩ := c.def_ 17 (d := d_without_column) rfl
  have g_without_column := He.glo_ok X G (c.fact 17 (f := .glo "without_column") rfl)
  obtain ⟨fd_taken_from_heights, F_taken_from_heights⟩ := c.def_ 18 (d := d_taken_from_heights) rfl
  have g_taken_from_heights := He.glo_ok X G (c.fact 18 (f := .glo "taken_from_heights") rfl)
  obtain ⟨fd_moves_in, F_moves_in⟩ := c.def_ 19 (d := d_moves_in) rfl
  have g_moves_in := He.glo_ok X G (c.fact 19 (f := .glo "moves_in") rfl)
  obtain ⟨fd_least_beside, F_least_beside⟩ := c.def_ 20 (d := d_least_beside) rfl
  have g_least_beside := He.glo_ok X G (c.fact 20 (f := .glo "least_beside") rfl)
  obtain ⟨fd_sum_by_figures, F_sum_by_figures⟩ := c.def_ 21 (d := d_sum_by_figures) rfl
  have g_sum_by_figures := He.glo_ok X G (c.fact 21 (f := .glo "sum_by_figures") rfl)
  obtain ⟨fd_edges_worth, F_edges_worth⟩ := c.def_ 22 (d := d_edges_worth) rfl
  have g_edges_worth := He.glo_ok X G (c.fact 22 (f := .glo "edges_worth") rfl)
  obtain ⟨fd_lines_worth, F_lines_worth⟩ := c.def_ 23 (d := d_lines_worth) rfl
  have g_lines_worth := He.glo_ok X G (c.fact 23 (f := .glo "lines_worth") rfl)
  obtain ⟨fd_worth_in_game, F_worth_in_game⟩ := c.def_ 24 (d := d_worth_in_game) rfl
  have g_worth_in_game := He.glo_ok X G (c.fact 24 (f := .glo "worth_in_game") rfl)
  obtain ⟨fd_game_worth, F_game_worth⟩ := c.def_ 25 (d := d_game_worth) rfl
  have g_game_worth := He.glo_ok X G (c.fact 25 (f := .glo "game_worth") rfl)
  obtain ⟨fd_is_won, F_is_won⟩ := c.def_ 26 (d := d_is_won) rfl
  have g_is_won := He.glo_ok X G (c.fact 26 (f := .glo "is_won") rfl)
  obtain ⟨fd__law_cup, F__law_cup⟩ := c.def_ 27 (d := d__law_cup) rfl
  have g__law_cup := He.glo_ok X G (c.fact 27 (f := .glo "_law_cup") rfl)
  obtain ⟨fd__law_roll, F__law_roll⟩ := c.def_ 28 (d := d__law_roll) rfl
  have g__law_roll := He.glo_ok X G (c.fact 28 (f := .glo "_law_roll") rfl)
  obtain ⟨fd__law_sort, F__law_sort⟩ := c.def_ 29 (d := d__law_sort) rfl
  have g__law_sort := He.glo_ok X G (c.fact 29 (f := .glo "_law_sort") rfl)
  obtain ⟨fd__law_like, F__law_like⟩ := c.def_ 30 (d := d__law_like) rfl
  have g__law_like := He.glo_ok X G (c.fact 30 (f := .glo "_law_like") rfl)
  obtain ⟨fd__law_piles, F__law_piles⟩ := c.def_ 31 (d := d__law_piles) rfl
  have g__law_piles := He.glo_ok X G (c.fact 31 (f := .glo "_law_piles") rfl)
  obtain ⟨fd__law_ways, F__law_ways⟩ := c.def_ 32 (d := d__law_ways) rfl
  have g__law_ways := He.glo_ok X G (c.fact 32 (f := .glo "_law_ways") rfl)
  obtain ⟨fd__law_hook, F__law_hook⟩ := c.def_ 33 (d := d__law_hook) rfl
  have g__law_hook := He.glo_ok X G (c.fact 33 (f := .glo "_law_hook") rfl)
  obtain ⟨fd__law_laid, F__law_laid⟩ := c.def_ 34 (d := d__law_laid) rfl
  have g__law_laid := He.glo_ok X G (c.fact 34 (f := .glo "_law_laid") rfl)
  obtain ⟨fd__law_without_rim, F__law_without_rim⟩ := c.def_ 35 (d := d__law_without_rim) rfl
  have g__law_without_rim := He.glo_ok X G (c.fact 35 (f := .glo "_law_without_rim") rfl)
  obtain ⟨fd__law_moves, F__law_moves⟩ := c.def_ 36 (d := d__law_moves) rfl
  have g__law_moves := He.glo_ok X G (c.fact 36 (f := .glo "_law_moves") rfl)
  obtain ⟨fd__law_figures, F__law_figures⟩ := c.def_ 37 (d := d__law_figures) rfl
  have g__law_figures := He.glo_ok X G (c.fact 37 (f := .glo "_law_figures") rfl)
  obtain ⟨fd__law_worth, F__law_worth⟩ := c.def_ 38 (d := d__law_worth) rfl
  have g__law_worth := He.glo_ok X G (c.fact 38 (f := .glo "_law_worth") rfl)
  obtain ⟨fd__law_edges, F__law_edges⟩ := c.def_ 39 (d := d__law_edges) rfl
  have g__law_edges := He.glo_ok X G (c.fact 39 (f := .glo "_law_edges") rfl)
  obtain ⟨fd__law_right, F__law_right⟩ := c.def_ 40 (d := d__law_right) rfl
  have g__law_right := He.glo_ok X G (c.fact 40 (f := .glo "_law_right") rfl)
  obtain ⟨fd__law_all_right, F__law_all_right⟩ := c.def_ 41 (d := d__law_all_right) rfl
  have g__law_all_right := He.glo_ok X G (c.fact 41 (f := .glo "_law_all_right") rfl)
  obtain ⟨fd__law_lines_right, F__law_lines_right⟩ := c.def_ 42 (d := d__law_lines_right) rfl
  have g__law_lines_right := He.glo_ok X G (c.fact 42 (f := .glo "_law_lines_right") rfl)
  obtain ⟨fd_law, F_law⟩ := c.def_ 43 (d := d_law) rfl
  have e := hfa.symm.trans (He.glo_ok X G (c.fact 43 (f := .glo "law") rfl))
  cases e
  have b := FunD.bindsA (ps := ["script"]) F_law fun _ _ _ _ _ _ us hl => match us, hl with | [_], _ => rfl
  refine ⟨fd_law, fun s v => b s [v] rfl, fun base _ _ => ?_⟩
  have C_is_integer : Cal P w K mg base "is_integer" 1 m_is_integer 1 := ⟨_, _, ["value"], ok_is_integer T F_is_integer , g_is_integer, F_is_integer.kp, (F_is_integer.bindsN (ps := ["value"]) fun _ _ _ _ _ _ us hl => match us, hl with | [_], _ => rfl)⟩
  have C_is_whole : Cal P w K mg base "is_whole" 3 m_is_whole 2 := ⟨_, _, ["value", "low", "high"], ok_is_whole T F_is_whole C_is_integer, g_is_whole, F_is_whole.kp, (F_is_whole.bindsN (ps := ["value", "low", "high"]) fun _ _ _ _ _ _ us hl => match us, hl with | [_, _, _], _ => rfl)⟩
  have C_is_tuple_of : Cal P w K mg base "is_tuple_of" 3 m_is_tuple_of 1 := ⟨_, _, ["value", "low", "high"], ok_is_tuple_of T F_is_tuple_of , g_is_tuple_of, F_is_tuple_of.kp, (F_is_tuple_of.bindsN (ps := ["value", "low", "high"]) fun _ _ _ _ _ _ us hl => match us, hl with | [_, _, _], _ => rfl)⟩
  have C_is_falling : Cal P w K mg base "is_falling" 1 m_is_falling 1 := ⟨_, _, ["things"], ok_is_falling T F_is_falling , g_is_falling, F_is_falling.kp, (F_is_falling.bindsN (ps := ["things"]) fun _ _ _ _ _ _ us hl => match us, hl with | [_], _ => rfl)⟩
  have C_are_heights : Cal P w K mg base "are_heights" 2 m_are_heights 3 := ⟨_, _, ["value", "least"], ok_are_heights T F_are_heights C_is_tuple_of C_is_whole, g_are_heights, F_are_heights.kp, (F_are_heights.bindsN (ps := ["value", "least"]) fun _ _ _ _ _ _ us hl => match us, hl with | [_, _], _ => rfl)⟩
  have C_fits_piles : Cal P w K mg base "fits_piles" 1 m_fits_piles 4 := ⟨_, _, ["value"], ok_fits_piles T F_fits_piles C_are_heights C_is_falling, g_fits_piles, F_fits_piles.kp, (F_fits_piles.bindsN (ps := ["value"]) fun _ _ _ _ _ _ us hl => match us, hl with | [_], _ => rfl)⟩
  have C_need_piles : Cal P w K mg base "need_piles" 1 m_need_piles 5 := ⟨_, _, ["value"], ok_need_piles T F_need_piles C_fits_piles, g_need_piles, F_need_piles.kp, (F_need_piles.bindsN (ps := ["value"]) fun _ _ _ _ _ _ us hl => match us, hl with | [_], _ => rfl)⟩
  have C_turned_in : Cal P w K mg base "turned_in" 1 m_turned_in 1 := ⟨_, _, ["piles"], ok_turned_in T F_turned_in , g_turned_in, F_turned_in.kp, (F_turned_in.bindsN (ps := ["piles"]) fun _ _ _ _ _ _ us hl => match us, hl with | [_], _ => rfl)⟩
  have C_squares_in : Cal P w K mg base "squares_in" 1 m_squares_in 1 := ⟨_, _, ["piles"], ok_squares_in T F_squares_in , g_squares_in, F_squares_in.kp, (F_squares_in.bindsN (ps := ["piles"]) fun _ _ _ _ _ _ us hl => match us, hl with | [_], _ => rfl)⟩
  have C_leg_in : Cal P w K mg base "leg_in" 2 m_leg_in 1 := ⟨_, _, ["piles", "square"], ok_leg_in T F_leg_in , g_leg_in, F_leg_in.kp, (F_leg_in.bindsN (ps := ["piles", "square"]) fun _ _ _ _ _ _ us hl => match us, hl with | [_, _], _ => rfl)⟩
  have C_hook_rows : Cal P w K mg base "hook_rows" 1 m_hook_rows 2 := ⟨_, _, ["piles"], ok_hook_rows T F_hook_rows C_turned_in, g_hook_rows, F_hook_rows.kp, (F_hook_rows.bindsN (ps := ["piles"]) fun _ _ _ _ _ _ us hl => match us, hl with | [_], _ => rfl)⟩
  have C_hooks_in : Cal P w K mg base "hooks_in" 1 m_hooks_in 3 := ⟨_, _, ["piles"], ok_hooks_in T F_hooks_in C_hook_rows, g_hooks_in, F_hooks_in.kp, (F_hooks_in.bindsN (ps := ["piles"]) fun _ _ _ _ _ _ us hl => match us, hl with | [_], _ => rfl)⟩
  have C_laid : Cal P w K mg base "laid" 1 m_laid 1 := ⟨_, _, ["heights"], ok_laid T F_laid , g_laid, F_laid.kp, (F_laid.bindsN (ps := ["heights"]) fun _ _ _ _ _ _ us hl => match us, hl with | [_], _ => rfl)⟩
  have C_turned : Cal P w K mg base "turned" 1 m_turned 6 := ⟨_, _, ["piles"], ok_turned T F_turned C_need_piles C_turned_in, g_turned, F_turned.kp, (F_turned.bindsN (ps := ["piles"]) fun _ _ _ _ _ _ us hl => match us, hl with | [_], _ => rfl)⟩
  have C_need_game : Cal P w K mg base "need_game" 1 m_need_game 1 := ⟨_, _, ["game"], ok_need_game T F_need_game , g_need_game, F_need_game.kp, (F_need_game.bindsN (ps := ["game"]) fun _ _ _ _ _ _ us hl => match us, hl with | [_], _ => rfl)⟩
  have C_need_game_piles : Cal P w K mg base "need_game_piles" 2 m_need_game_piles 6 := ⟨_, _, ["game", "piles"], ok_need_game_piles T F_need_game_piles C_need_game C_need_piles, g_need_game_piles, F_need_game_piles.kp, (F_need_game_piles.bindsN (ps := ["game", "piles"]) fun _ _ _ _ _ _ us hl => match us, hl with | [_, _], _ => rfl)⟩
  have C_without_rim : Cal P w K mg base "without_rim" 2 m_without_rim 2 := ⟨_, _, ["piles", "square"], ok_without_rim T F_without_rim C_leg_in C_laid, g_without_rim, F_without_rim.kp, (F_without_rim.bindsN (ps := ["piles", "square"]) fun _ _ _ _ _ _ us hl => match us, hl with | [_, _], _ => rfl)⟩
  have C_without_column : Cal P w K mg base "without_column" 2 m_without_column 2 := ⟨_, _, ["piles", "column"], ok_without_column T F_without_column C_laid, g_without_column, F_without_column.kp, (F_without_column.bindsN (ps := ["piles", "column"]) fun _ _ _ _ _ _ us hl => match us, hl with | [_, _], _ => rfl)⟩
  have C_taken_from_heights : Cal P w K mg base "taken_from_heights" 1 m_taken_from_heights 2 := ⟨_, _, ["piles"], ok_taken_from_heights T F_taken_from_heights C_laid, g_taken_from_heights, F_taken_from_heights.kp, (F_taken_from_heights.bindsN (ps := ["piles"]) fun _ _ _ _ _ _ us hl => match us, hl with | [_], _ => rfl)⟩
  have C_moves_in : Cal P w K mg base "moves_in" 2 m_moves_in 3 := ⟨_, _, ["game", "piles"], ok_moves_in T F_moves_in C_taken_from_heights C_squares_in C_without_rim C_without_column, g_moves_in, F_moves_in.kp, (F_moves_in.bindsN (ps := ["game", "piles"]) fun _ _ _ _ _ _ us hl => match us, hl with | [_, _], _ => rfl)⟩
  have C_least_beside : Cal P w K mg base "least_beside" 1 m_least_beside 1 := ⟨_, _, ["worths"], ok_least_beside T F_least_beside , g_least_beside, F_least_beside.kp, (F_least_beside.bindsN (ps := ["worths"]) fun _ _ _ _ _ _ us hl => match us, hl with | [_], _ => rfl)⟩
  have C_sum_by_figures : Cal P w K mg base "sum_by_figures" 1 m_sum_by_figures 1 := ⟨_, _, ["numbers"], ok_sum_by_figures T F_sum_by_figures , g_sum_by_figures, F_sum_by_figures.kp, (F_sum_by_figures.bindsN (ps := ["numbers"]) fun _ _ _ _ _ _ us hl => match us, hl with | [_], _ => rfl)⟩
  have C_edges_worth : Cal P w K mg base "edges_worth" 1 m_edges_worth 2 := ⟨_, _, ["piles"], ok_edges_worth T F_edges_worth C_least_beside, g_edges_worth, F_edges_worth.kp, (F_edges_worth.bindsN (ps := ["piles"]) fun _ _ _ _ _ _ us hl => match us, hl with | [_], _ => rfl)⟩
  have C_lines_worth : Cal P w K mg base "lines_worth" 2 m_lines_worth 29 := ⟨_, _, ["piles", "known"], rk_lines_worth T F_lines_worth g_lines_worth (F_lines_worth.bindsN (ps := ["piles", "known"]) fun _ _ _ _ _ _ us hl => match us, hl with | [_, _], _ => rfl) C_least_beside C_moves_in 26, g_lines_worth, F_lines_worth.kp, (F_lines_worth.bindsN (ps := ["piles", "known"]) fun _ _ _ _ _ _ us hl => match us, hl with | [_, _], _ => rfl)⟩
  have C_worth_in_game : Cal P w K mg base "worth_in_game" 3 m_worth_in_game 30 := ⟨_, _, ["game", "piles", "known"], ok_worth_in_game T F_worth_in_game C_sum_by_figures C_hooks_in C_edges_worth C_lines_worth, g_worth_in_game, F_worth_in_game.kp, (F_worth_in_game.bindsN (ps := ["game", "piles", "known"]) fun _ _ _ _ _ _ us hl => match us, hl with | [_, _, _], _ => rfl)⟩
  have C_game_worth : Cal P w K mg base "game_worth" 2 m_game_worth 31 := ⟨_, _, ["game", "piles"], ok_game_worth T F_game_worth C_need_game_piles C_worth_in_game, g_game_worth, F_game_worth.kp, (F_game_worth.bindsN (ps := ["game", "piles"]) fun _ _ _ _ _ _ us hl => match us, hl with | [_, _], _ => rfl)⟩
  have C_is_won : Cal P w K mg base "is_won" 2 m_is_won 31 := ⟨_, _, ["game", "piles"], ok_is_won T F_is_won C_need_game_piles C_worth_in_game, g_is_won, F_is_won.kp, (F_is_won.bindsN (ps := ["game", "piles"]) fun _ _ _ _ _ _ us hl => match us, hl with | [_, _], _ => rfl)⟩
  have C__law_cup : Cal P w K mg base "_law_cup" 1 m__law_cup 1 := ⟨_, _, ["script"], ok__law_cup T F__law_cup , g__law_cup, F__law_cup.kp, (F__law_cup.bindsN (ps := ["script"]) fun _ _ _ _ _ _ us hl => match us, hl with | [_], _ => rfl)⟩
  have C__law_roll : Cal P w K mg base "_law_roll" 2 m__law_roll 1 := ⟨_, _, ["cup", "many"], ok__law_roll T F__law_roll , g__law_roll, F__law_roll.kp, (F__law_roll.bindsN (ps := ["cup", "many"]) fun _ _ _ _ _ _ us hl => match us, hl with | [_, _], _ => rfl)⟩
  have C__law_sort : Cal P w K mg base "_law_sort" 1 m__law_sort 1 := ⟨_, _, ["value"], ok__law_sort T F__law_sort , g__law_sort, F__law_sort.kp, (F__law_sort.bindsN (ps := ["value"]) fun _ _ _ _ _ _ us hl => match us, hl with | [_], _ => rfl)⟩
  have C__law_like : Cal P w K mg base "_law_like" 2 m__law_like 9 := ⟨_, _, ["one", "other"], rk__law_like T F__law_like g__law_like (F__law_like.bindsN (ps := ["one", "other"]) fun _ _ _ _ _ _ us hl => match us, hl with | [_, _], _ => rfl) C__law_sort 8, g__law_like, F__law_like.kp, (F__law_like.bindsN (ps := ["one", "other"]) fun _ _ _ _ _ _ us hl => match us, hl with | [_, _], _ => rfl)⟩
  have C__law_piles : Cal P w K mg base "_law_piles" 2 m__law_piles 2 := ⟨_, _, ["cup", "most"], ok__law_piles T F__law_piles C__law_roll, g__law_piles, F__law_piles.kp, (F__law_piles.bindsN (ps := ["cup", "most"]) fun _ _ _ _ _ _ us hl => match us, hl with | [_, _], _ => rfl)⟩
  have C__law_ways : Cal P w K mg base "_law_ways" 2 m__law_ways 8 := ⟨_, _, ["stones", "top"], rk__law_ways T F__law_ways g__law_ways (F__law_ways.bindsN (ps := ["stones", "top"]) fun _ _ _ _ _ _ us hl => match us, hl with | [_, _], _ => rfl)  8, g__law_ways, F__law_ways.kp, (F__law_ways.bindsN (ps := ["stones", "top"]) fun _ _ _ _ _ _ us hl => match us, hl with | [_, _], _ => rfl)⟩
  have C__law_hook : Cal P w K mg base "_law_hook" 3 m__law_hook 1 := ⟨_, _, ["piles", "row", "column"], ok__law_hook T F__law_hook , g__law_hook, F__law_hook.kp, (F__law_hook.bindsN (ps := ["piles", "row", "column"]) fun _ _ _ _ _ _ us hl => match us, hl with | [_, _, _], _ => rfl)⟩
  have C__law_laid : Cal P w K mg base "_law_laid" 1 m__law_laid 1 := ⟨_, _, ["heights"], ok__law_laid T F__law_laid , g__law_laid, F__law_laid.kp, (F__law_laid.bindsN (ps := ["heights"]) fun _ _ _ _ _ _ us hl => match us, hl with | [_], _ => rfl)⟩
  have C__law_without_rim : Cal P w K mg base "_law_without_rim" 3 m__law_without_rim 2 := ⟨_, _, ["piles", "row", "column"], ok__law_without_rim T F__law_without_rim C__law_laid, g__law_without_rim, F__law_without_rim.kp, (F__law_without_rim.bindsN (ps := ["piles", "row", "column"]) fun _ _ _ _ _ _ us hl => match us, hl with | [_, _, _], _ => rfl)⟩
  have C__law_moves : Cal P w K mg base "_law_moves" 2 m__law_moves 3 := ⟨_, _, ["game", "piles"], ok__law_moves T F__law_moves C__law_laid C__law_without_rim, g__law_moves, F__law_moves.kp, (F__law_moves.bindsN (ps := ["game", "piles"]) fun _ _ _ _ _ _ us hl => match us, hl with | [_, _], _ => rfl)⟩
  have C__law_figures : Cal P w K mg base "_law_figures" 1 m__law_figures 1 := ⟨_, _, ["numbers"], ok__law_figures T F__law_figures , g__law_figures, F__law_figures.kp, (F__law_figures.bindsN (ps := ["numbers"]) fun _ _ _ _ _ _ us hl => match us, hl with | [_], _ => rfl)⟩
  have C__law_worth : Cal P w K mg base "_law_worth" 3 m__law_worth 23 := ⟨_, _, ["game", "piles", "known"], rk__law_worth T F__law_worth g__law_worth (F__law_worth.bindsN (ps := ["game", "piles", "known"]) fun _ _ _ _ _ _ us hl => match us, hl with | [_, _, _], _ => rfl) C__law_moves 20, g__law_worth, F__law_worth.kp, (F__law_worth.bindsN (ps := ["game", "piles", "known"]) fun _ _ _ _ _ _ us hl => match us, hl with | [_, _, _], _ => rfl)⟩
  have C__law_edges : Cal P w K mg base "_law_edges" 1 m__law_edges 1 := ⟨_, _, ["piles"], ok__law_edges T F__law_edges , g__law_edges, F__law_edges.kp, (F__law_edges.bindsN (ps := ["piles"]) fun _ _ _ _ _ _ us hl => match us, hl with | [_], _ => rfl)⟩
  have C__law_right : Cal P w K mg base "_law_right" 2 m__law_right 32 := ⟨_, _, ["cup", "piles"], ok__law_right T F__law_right C_game_worth C__law_hook C__law_like C__law_edges C__law_figures C_turned C_is_won, g__law_right, F__law_right.kp, (F__law_right.bindsN (ps := ["cup", "piles"]) fun _ _ _ _ _ _ us hl => match us, hl with | [_, _], _ => rfl)⟩
  have C__law_all_right : Cal P w K mg base "_law_all_right" 2 m__law_all_right 32 := ⟨_, _, ["cup", "stones"], ok__law_all_right T F__law_all_right C__law_ways C__law_worth C__law_like C_is_won C_game_worth C_turned, g__law_all_right, F__law_all_right.kp, (F__law_all_right.bindsN (ps := ["cup", "stones"]) fun _ _ _ _ _ _ us hl => match us, hl with | [_, _], _ => rfl)⟩
  have C__law_lines_right : Cal P w K mg base "_law_lines_right" 2 m__law_lines_right 32 := ⟨_, _, ["cup", "piles"], ok__law_lines_right T F__law_lines_right C__law_like C__law_worth C_game_worth C_turned, g__law_lines_right, F__law_lines_right.kp, (F__law_lines_right.bindsN (ps := ["cup", "piles"]) fun _ _ _ _ _ _ us hl => match us, hl with | [_, _], _ => rfl)⟩
  exact ok_law T F_law C__law_cup C_is_won C_game_worth C__law_like C__law_right C__law_piles C__law_all_right C__law_roll C__law_lines_right
theorem law_end {K : PySem.W.Frag} {H : Hp} (a : Addr) (ns : List Int) (hl : ns.length ≤ 63) (hS : SqL K H a (ns.map V.int)) : spM K 1 m_law [.ref a] H (fun v _ => v = .bl true) fun _ _ _ => False := end_ok (law_true ns hl) hS
end PL
open PySem PySem.W PySem.Calls PyProof.Rows
theorem PySem.Challenge.cw_stonepiles_k75_whole_worths_of_games_holds : PySem.Challenge.rw_stonepiles_k75_whole_worths_of_games.Holds := by
  w_on; o_law
  refine HandSHeadRun.head_any (r := OpenLaw.row PySem.Challenge.rw_stonepiles_k75_whole_worths_of_games) (q := view (OpenLaw.row PySem.Challenge.rw_stonepiles_k75_whole_worths_of_games).prog [54]) (H := PL.hk) (ob := PL.ob) (M := 3000) (loose := PL.nms) (d := HandSHeadRun.topDef (OpenLaw.row PySem.Challenge.rw_stonepiles_k75_whole_worths_of_games).prog 54) (kwd := []) PL.ob_eq
    (by kernel_rfl) (fun s => by kernel_rfl) PL.run (by kernel_rfl) (by kernel_rfl) (by kernel_rfl) (by rfl) (by first | assumption | decide +kernel) (by decide +kernel) ⟨rfl, rfl, rfl, rfl, rfl, by decide +kernel⟩ ?hw ?hc
  case hw => w_witness2
  case hc =>
    refine L2.walk_ofE (l := PySem.Challenge.rw_stonepiles_k75_whole_worths_of_games) (n := 63) (k := 33) (x := "script") (CX := L2.CX0) rfl (by decide) (by kernel_rfl) ⟨rfl, by decide, by decide⟩ ?F (fun _ _ _ _ z => z)
    intro w mg fa h Y G hmg0
    obtain ⟨K, KX, c⟩ := Y
    have hmg : mg ("law" : PySem.Str) = some (.ref fa) := by
      have e : (HandSHeadRun.topDef (OpenLaw.row PySem.Challenge.rw_stonepiles_k75_whole_worths_of_games).prog 54).name = ("law" : PySem.Str) := by kernel_rfl
      rw [← e]
      exact hmg0
    obtain ⟨fd, hb, hF⟩ := PL.facts (P := (PySem.Challenge.rw_stonepiles_k75_whole_worths_of_games).prog) (w := w) KX G hmg c.t.d c.more
    exact ⟨K, fd, PL.spM K 1 PL.m_law, KX, hb, fun H a ns hl _ hS => PL.law_end a ns hl hS, hF⟩

