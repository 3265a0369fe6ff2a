import PyProof.Rows.All
import Wide.All
import OpenK.AllK
import Wide.FinOn
import KE.KStateDown
import HandS.ForMost
import HandS.Deep
import HandS.More
import HandS.IsInst
import HandS.Zip
import HandS.TupAny
import HandS.TupMul
import HandS.SortKw
import HandS.SortInts
import HandS.Style
import HandS.Conv
import HandS.WordsExc
import HandS.Defaults
import HandS.Walk
import KE.DataEq
import KE.DataAny
import KE.DataMinMax
import KE.SortData
import KE.KRevSl
import PyProof.Rows.ListMulArg
import KE.GoesEnum
import KE.KTupSum
import PyProof.ListStr
import HandS.SetFor
import HandS.Iter
import HandS.Head0
import HandS.Head1
import HandS.Head2
import HandS.HeadEnd
import HandS.HeadHook1
import HandS.HeadHook2
import PyProof.StrLawsTight
import PyProof.Rows.StrCountLaw
import PyProof.Rows.StrFit
import PySem.Challenge.RW_stonepiles_k84_whole_swept_paths
set_option Elab.async false
set_option linter.all false
set_option maxRecDepth 100000
set_option maxHeartbeats 0
/-! PL: the pure layer, 1: what a body computes, as a function of plain data. -/
namespace PL
open PySem
abbrev D := PyData
/-- a slot: nothing; a value that nobody changes; a list (dict) that this frame owns; one that the caller lent -/
inductive Sl where
  | non | pu (d : D) | own (d : D) | io (d : D)
abbrev Rho := List Sl
/-- a value: plain; what stands in slot i (owned or lent); a new object that nobody else holds -/
inductive Vl where
  | pu (d : D) | sl (i : Nat) | nw (d : D)
abbrev FE := Rho → Option (Vl × Rho)
abbrev FT := Rho → Option (Bool × Rho)
abbrev FA := Rho → Option (List Vl × Rho)
abbrev FG := D → Rho → Option Rho
abbrev FI := Rho → Option (List D × Rho)
inductive Out where
  | nx (ρ : Rho) | rt (v : Vl) (ρ : Rho) | bk (ρ : Rho) | ct (ρ : Rho)
abbrev FS := Rho → Option Out
/-- an argument: plain, or lent -/
inductive Ar where
  | v (d : D) | m (d : D)
/-- what a def does: its answer, and what its lent arguments hold behind it -/
abbrev Mir := List Ar → Option (Vl × List D)

def stl : Vl → Vl
  | .nw d => .pu d
  | v => v
def cont (ρ : Rho) : Vl → Option D
  | .pu d => some d
  | .nw d => some d
  | .sl i => match ρ[i]? with
    | some (.own d) => some d
    | some (.io d) => some d
    | _ => none
def conts (ρ : Rho) : List Vl → Option (List D)
  | [] => some []
  | v :: vs => (cont ρ v).bind fun d => (conts ρ vs).bind fun ds => some (d :: ds)
/-- a list (dict) that an operator makes is new -/
def mk : D → Vl
  | .list ds => .nw (.list ds)
  | .dict ds => .nw (.dict ds)
  | d => .pu d

/-! ### expressions -/
def cVar (i : Nat) : FE := fun ρ => match ρ[i]? with
  | some (.pu d) => some (.pu d, ρ)
  | some (.own _) => some (.sl i, ρ)
  | some (.io _) => some (.sl i, ρ)
  | _ => none
def cC (d : D) : FE := fun ρ => some (.pu d, ρ)
def cOp (op : D → Option D) (a : FE) : FE := fun ρ => (a ρ).bind fun p => (cont p.2 p.1).bind fun x => (op x).bind fun r => some (.pu r, p.2)
def cOp2 (op : D → D → Option D) (a b : FE) : FE := fun ρ => (a ρ).bind fun p => (b p.2).bind fun q =>
  (cont q.2 (stl p.1)).bind fun x => (cont q.2 (stl q.1)).bind fun y => (op x y).bind fun r => some (.pu r, q.2)
def cOp2n (op : D → D → Option D) (a b : FE) : FE := fun ρ => (a ρ).bind fun p => (b p.2).bind fun q =>
  (cont q.2 (stl p.1)).bind fun x => (cont q.2 (stl q.1)).bind fun y => (op x y).bind fun r => some (mk r, q.2)
def cChain (op op' : D → D → Option D) (a b c : FE) : FE := fun ρ => (a ρ).bind fun p => (b p.2).bind fun q =>
  (cont q.2 (stl p.1)).bind fun x => (cont q.2 (stl q.1)).bind fun y => (op x y).bind fun r => match r with
    | .bool true => (c q.2).bind fun t => (cont t.2 (stl q.1)).bind fun y' => (cont t.2 (stl t.1)).bind fun z => (op' y' z).bind fun r' => some (.pu r', t.2)
    | .bool false => some (.pu (.bool false), q.2)
    | _ => none
def aNil : FA := fun ρ => some ([], ρ)
def aCons (a : FE) (as : FA) : FA := fun ρ => (a ρ).bind fun p => (as p.2).bind fun q => some (stl p.1 :: q.1, q.2)
/-- an operator over an argument list; n: a list that comes is new -/
def cOpA (op : List D → Option D) (as : FA) : FE := fun ρ => (as ρ).bind fun p => (conts p.2 p.1).bind fun ds => (op ds).bind fun r => some (.pu r, p.2)
def cOpAn (op : List D → Option D) (as : FA) : FE := fun ρ => (as ρ).bind fun p => (conts p.2 p.1).bind fun ds => (op ds).bind fun r => some (mk r, p.2)
def cAnd (a b : FE) : FE := fun ρ => (a ρ).bind fun p => match p.1 with
  | .pu (.bool true) => b p.2
  | .pu (.bool false) => some (.pu (.bool false), p.2)
  | _ => none
def cOr (a b : FE) : FE := fun ρ => (a ρ).bind fun p => match p.1 with
  | .pu (.bool true) => some (.pu (.bool true), p.2)
  | .pu (.bool false) => b p.2
  | _ => none
def cNot (t : FT) : FE := fun ρ => (t ρ).bind fun p => some (.pu (.bool (!p.1)), p.2)
def cIf (t : FT) (a b : FE) : FE := fun ρ => (t ρ).bind fun p => if p.1 = true then a p.2 else b p.2
/-! ### tests -/
def truD : D → Option Bool
  | .none => some false
  | .bool b => some b
  | .int i => some (i != 0)
  | .str x => some (!x.cps.toList.isEmpty)
  | .list xs => some (!xs.isEmpty)
  | .tuple xs => some (!xs.isEmpty)
  | .dict _ => none
def tTru (a : FE) : FT := fun ρ => (a ρ).bind fun p => (cont p.2 (stl p.1)).bind fun x => (truD x).bind fun k => some (k, p.2)
/-- a value that is a bool -/
def tBl (a : FE) : FT := fun ρ => (a ρ).bind fun p => match p.1 with
  | .pu (.bool k) => some (k, p.2)
  | _ => none
def tAnd (a b : FT) : FT := fun ρ => (a ρ).bind fun p => if p.1 = true then b p.2 else some (false, p.2)
def tOr (a b : FT) : FT := fun ρ => (a ρ).bind fun p => if p.1 = true then some (true, p.2) else b p.2
def tNot (a : FT) : FT := fun ρ => (a ρ).bind fun p => some (!p.1, p.2)
def tYes : FT := fun ρ => some (true, ρ)
/-! ### targets -/
def setS (i : Nat) (s : Sl) (ρ : Rho) : Option Rho := match ρ[i]? with
  | some (.io _) => none
  | some _ => some (ρ.set i s)
  | none => none
def gN (i : Nat) : FG := fun d ρ => setS i (.pu d) ρ
def gAll : List FG → List D → Rho → Option Rho
  | [], [], ρ => some ρ
  | g :: gs, d :: ds, ρ => (g d ρ).bind fun ρ' => gAll gs ds ρ'
  | _, _, _ => none
def gT (gs : List FG) : FG := fun d ρ => match d with
  | .tuple ds => gAll gs ds ρ
  | _ => none
/-! ### what is walked -/
def itemsOf : D → Option (List D)
  | .list ds => some ds
  | .tuple ds => some ds
  | .str x => some (x.cps.toList.map fun c => .str ⟨#[c]⟩)
  | _ => none
def iE (a : FE) : FI := fun ρ => (a ρ).bind fun p => match stl p.1 with
  | .pu d => (itemsOf d).bind fun ds => some (ds, p.2)
  | _ => none
def small (i : Int) : Bool := decide (-(2 ^ 62) ≤ i) && decide (i < 2 ^ 62)
def intsD (lo : Int) (n : Nat) : List D := (List.range n).map fun k => .int (lo + (k : Nat))
def iRg1 (a : FE) : FI := fun ρ => (a ρ).bind fun p => match p.1 with
  | .pu (.int j) => if small j = true then some (intsD 0 j.toNat, p.2) else none
  | _ => none
def iRg2 (a b : FE) : FI := fun ρ => (a ρ).bind fun p => (b p.2).bind fun q => match p.1, q.1 with
  | .pu (.int i), .pu (.int j) => if small i = true ∧ small j = true then some (intsD i (j - i).toNat, q.2) else none
  | _, _ => none
def enumD (ds : List D) : List D := ds.zipIdx.map fun p => .tuple [.int (p.2 : Nat), p.1]
def iEnum (a : FE) : FI := fun ρ => (a ρ).bind fun p => match stl p.1 with
  | .pu d => (itemsOf d).bind fun ds => some (enumD ds, p.2)
  | _ => none
def zipD (as bs : List D) : List D := (as.zip bs).map fun p => .tuple [p.1, p.2]
def iZip (a b : FE) : FI := fun ρ => (a ρ).bind fun p => (b p.2).bind fun q => match stl p.1, stl q.1 with
  | .pu (.list xs), .pu (.list ys) => some (zipD xs ys, q.2)
  | .pu (.tuple xs), .pu (.tuple ys) => some (zipD xs ys, q.2)
  | _, _ => none
/-! ### comprehensions -/
def wipeR (vs : List Nat) (ρ : Rho) : Rho := match vs with
  | [] => ρ
  | v :: vs => (wipeR vs ρ).set v .non
/-- the block's own slots as they stood ahead of it -/
def rst (vs : List Nat) (ρ0 ρ : Rho) : Rho := match vs with
  | [] => ρ
  | v :: vs => match ρ0[v]? with
    | some s => (rst vs ρ0 ρ).set v s
    | none => rst vs ρ0 ρ
def plainS : Option Sl → Bool
  | some .non => true
  | some (.pu _) => true
  | _ => false
def okW (vs : List Nat) (ρ : Rho) : Bool := vs.all fun v => plainS ρ[v]?
def lineN : Nat := 16777216
def compGo (vs : List Nat) (g : FG) (t : FT) (e : FE) : List D → Rho → Option (List D × Rho)
  | [], ρ => some ([], ρ)
  | x :: xs, ρ => (g x (wipeR vs ρ)).bind fun ρ1 => (t ρ1).bind fun p =>
    if p.1 = true then (e p.2).bind fun q => match stl q.1 with
      | .pu d => (compGo vs g t e xs q.2).bind fun r => some (d :: r.1, r.2)
      | _ => none
    else compGo vs g t e xs p.2
def cLc (vs : List Nat) (it : FI) (g : FG) (t : FT) (e : FE) : FE := fun ρ => (it ρ).bind fun p =>
  if okW vs p.2 = true then (compGo vs g t e p.1 p.2).bind fun r => if r.1.length ≤ lineN then some (.nw (.list r.1), rst vs p.2 r.2) else none
  else none
/-- two clauses: vs1 the second one's own names (all among vs) -/
def compGo2 (vs vs1 : List Nat) (g : FG) (t : FT) (it1 : FI) (g1 : FG) (t1 : FT) (e : FE) : List D → Rho → Option (List D × Rho)
  | [], ρ => some ([], ρ)
  | x :: xs, ρ => (g x (wipeR vs ρ)).bind fun ρ1 => (t ρ1).bind fun p =>
    if p.1 = true then (it1 p.2).bind fun q => (compGo vs1 g1 t1 e q.1 q.2).bind fun r => (compGo2 vs vs1 g t it1 g1 t1 e xs r.2).bind fun r2 => some (r.1 ++ r2.1, r2.2)
    else compGo2 vs vs1 g t it1 g1 t1 e xs p.2
def cLc2 (vs vs1 : List Nat) (it : FI) (g : FG) (t : FT) (it1 : FI) (g1 : FG) (t1 : FT) (e : FE) : FE := fun ρ => (it ρ).bind fun p =>
  if okW vs p.2 = true then (compGo2 vs vs1 g t it1 g1 t1 e p.1 p.2).bind fun r => if r.1.length ≤ lineN then some (.nw (.list r.1), rst vs p.2 r.2) else none
  else none
/-! ### calls -/
def toAr (ρ : Rho) : Vl → Option Ar
  | .pu d => some (.v d)
  | .nw d => some (.v d)
  | .sl i => match ρ[i]? with
    | some (.own d) => some (.m d)
    | some (.io d) => some (.m d)
    | _ => none
def toArs (ρ : Rho) : List Vl → Option (List Ar)
  | [] => some []
  | v :: vs => (toAr ρ v).bind fun a => (toArs ρ vs).bind fun as => some (a :: as)
def slotsOf : List Vl → List Nat
  | [] => []
  | .sl i :: vs => i :: slotsOf vs
  | _ :: vs => slotsOf vs
/-- what is lent holds another thing -/
def putS (i : Nat) (d : D) (ρ : Rho) : Option Rho := match ρ[i]? with
  | some (.own _) => some (ρ.set i (.own d))
  | some (.io _) => some (ρ.set i (.io d))
  | _ => none
def wb : List Nat → List D → Rho → Option Rho
  | [], [], ρ => some ρ
  | i :: is, d :: ds, ρ => (putS i d ρ).bind fun ρ' => wb is ds ρ'
  | _, _, _ => none
def cCall (m : Mir) (as : FA) : FE := fun ρ => (as ρ).bind fun p => (toArs p.2 p.1).bind fun ars =>
  if (slotsOf p.1).Nodup then (m ars).bind fun r => (wb (slotsOf p.1) r.2 p.2).bind fun ρ' => some (r.1, ρ') else none
/-! ### statements -/
def sAsg (i : Nat) (e : FE) : FS := fun ρ => (e ρ).bind fun p => match stl p.1 with
  | .pu d => (setS i (.pu d) p.2).bind fun ρ' => some (.nx ρ')
  | _ => none
/-- a new list (dict) that is changed later -/
def sNew (i : Nat) (e : FE) : FS := fun ρ => (e ρ).bind fun p => match p.1 with
  | .nw d => (setS i (.own d) p.2).bind fun ρ' => some (.nx ρ')
  | _ => none
/-- x = y, y owned and not used again -/
def sMv (i j : Nat) : FS := fun ρ => match ρ[j]? with
  | some (.own d) => if i = j then none else (setS i (.own d) (ρ.set j .non)).bind fun ρ' => some (.nx ρ')
  | _ => none
/-- from here on slot i is not changed -/
def frz (i : Nat) (ρ : Rho) : Rho := match ρ[i]? with
  | some (.own d) => ρ.set i (.pu d)
  | _ => ρ
def sFrz (i : Nat) (f : FS) : FS := fun ρ => f (frz i ρ)
def sTgt (g : FG) (e : FE) : FS := fun ρ => (e ρ).bind fun p => match stl p.1 with
  | .pu d => (g d p.2).bind fun ρ' => some (.nx ρ')
  | _ => none
/-- a, b = x, y: k tells whether the value is kept as an owned list -/
def kp (k : Bool) (v : Vl) : Vl := if k = true then v else stl v
def setV (k : Bool) (i : Nat) (v : Vl) (ρ : Rho) : Option Rho := match k, v with
  | true, .nw d => setS i (.own d) ρ
  | false, .pu d => setS i (.pu d) ρ
  | _, _ => none
def sPar2 (k l : Bool) (i j : Nat) (a b : FE) : FS := fun ρ => (a ρ).bind fun p => (b p.2).bind fun q =>
  (setV k i (kp k p.1) q.2).bind fun ρ1 => (setV l j (kp l q.1) ρ1).bind fun ρ2 => some (.nx ρ2)
/-- none of them kept as an owned list -/
def setAll : List Nat → List Vl → Rho → Option Rho
  | [], [], ρ => some ρ
  | i :: is, .pu d :: vs, ρ => (setS i (.pu d) ρ).bind fun ρ' => setAll is vs ρ'
  | _, _, _ => none
def sParA (is : List Nat) (as : FA) : FS := fun ρ => (as ρ).bind fun p => (setAll is p.1 p.2).bind fun ρ' => some (.nx ρ')
def sApp (i : Nat) (e : FE) : FS := fun ρ => (e ρ).bind fun p => match stl p.1, cont p.2 (.sl i) with
  | .pu d, some (.list ds) => if ds.length < lineN then (putS i (.list (ds ++ [d])) p.2).bind fun ρ' => some (.nx ρ') else none
  | _, _ => none
def ixD (n : Nat) (i : Int) : Option Nat := if 0 ≤ i then (if i < n then some i.toNat else none) else if -(n : Int) ≤ i then some (i + n).toNat else none
/-- x[k] = e, x a list in slot i -/
def sSet (i : Nat) (k e : FE) : FS := fun ρ => (e ρ).bind fun p => (k p.2).bind fun q => match stl p.1, q.1, cont q.2 (.sl i) with
  | .pu d, .pu (.int j), some (.list ds) => (ixD ds.length j).bind fun n => (putS i (.list (ds.set n d)) q.2).bind fun ρ' => some (.nx ρ')
  | _, _, _ => none
def sExp (e : FE) : FS := fun ρ => (e ρ).bind fun p => some (.nx p.2)
def sRet (e : FE) : FS := fun ρ => (e ρ).bind fun p => some (.rt p.1 p.2)
def sRetN : FS := fun ρ => some (.rt (.pu .none) ρ)
def sPass : FS := fun ρ => some (.nx ρ)
def sBrk : FS := fun ρ => some (.bk ρ)
def sCont : FS := fun ρ => some (.ct ρ)
def sNever : FS := fun _ => none
def sSeq (a b : FS) : FS := fun ρ => (a ρ).bind fun o => match o with
  | .nx ρ' => b ρ'
  | o => some o
def sIf (t : FT) (a b : FS) : FS := fun ρ => (t ρ).bind fun p => if p.1 = true then a p.2 else b p.2
def forGo (g : FG) (b : FS) : List D → Rho → Option Out
  | [], ρ => some (.nx ρ)
  | x :: xs, ρ => (g x ρ).bind fun ρ1 => (b ρ1).bind fun o => match o with
    | .nx ρ2 => forGo g b xs ρ2
    | .ct ρ2 => forGo g b xs ρ2
    | .bk ρ2 => some (.nx ρ2)
    | .rt v ρ2 => some (.rt v ρ2)
def sFor (it : FI) (g : FG) (b : FS) : FS := fun ρ => (it ρ).bind fun p => forGo g b p.1 p.2
def whileGo (t : FT) (b : FS) : Nat → Rho → Option Out
  | 0, _ => none
  | n + 1, ρ => (t ρ).bind fun p => if p.1 = true then (b p.2).bind fun o => match o with
      | .nx ρ2 => whileGo t b n ρ2
      | .ct ρ2 => whileGo t b n ρ2
      | .bk ρ2 => some (.nx ρ2)
      | .rt v ρ2 => some (.rt v ρ2)
    else some (.nx p.2)
def fuelN : Nat := 1000000000
def sWhile (t : FT) (b : FS) : FS := fun ρ => whileGo t b fuelN ρ
/-! ### a def -/
def arS : Ar → Sl
  | .v d => .pu d
  | .m d => .io d
/-- what the lent arguments hold: the parameters come first -/
def outsOf : List Ar → Rho → Option (List D)
  | [], _ => some []
  | .v _ :: as, _ :: ρ => outsOf as ρ
  | .m _ :: as, .io d :: ρ => (outsOf as ρ).bind fun ds => some (d :: ds)
  | _, _ => none
def retV (ρ : Rho) : Vl → Option Vl
  | .sl i => match ρ[i]? with
    | some (.own d) => some (.nw d)
    | _ => none
  | v => some v
/-- n slots, p parameters -/
def runDef (p n : Nat) (b : FS) : Mir := fun ars => if ars.length = p then
  (b (ars.map arS ++ List.replicate (n - p) .non)).bind fun o => match o with
    | .nx ρ => (outsOf ars ρ).bind fun ds => some (.pu .none, ds)
    | .rt v ρ => (retV ρ v).bind fun v' => (outsOf ars ρ).bind fun ds => some (v', ds)
    | _ => none
  else none
end PL

/-! PL: the pure layer, 2: soundness over the hand layer. -/
namespace PL
open PySem PySem.Spec PyProof.Rows L2

/-! ### data in a growing heap -/
theorem seqT {K : PySem.W.Frag} {H H' : Hp} {a : Addr} {xs : List V} (e : Same H H') (h : SqT K H a xs) : SqT K H' a xs := by
  rcases h with (h | ⟨o, h⟩) | h
  · exact .inl (.inl (e _ _ h))
  · exact .inl (.inr ⟨o, e _ _ h⟩)
  · exact .inr h
mutual
theorem dpM {K : PySem.W.Frag} {G G' : Hp} (e : Same G G') : ∀ (d : D) (v : V), Dp K G v d → Dp K G' v d
  | .none, _, h => by cases h; exact .non
  | .bool b, _, h => by cases h; exact .bl b
  | .int i, _, h => by cases h; exact .int i
  | .str x, _, h => by cases h; exact .str x
  | .list ds, _, h => by
    cases h with
    | lst hs ha => exact .lst (e.seq hs) (dpsM e ds _ ha)
  | .tuple ds, _, h => by
    cases h with
    | tup hs ha => exact .tup (seqT e hs) (dpsM e ds _ ha)
  | .dict _, _, h => by cases h
theorem dpsM {K : PySem.W.Frag} {G G' : Hp} (e : Same G G') : ∀ (ds : List D) (vs : List V), DpAll K G vs ds → DpAll K G' vs ds
  | [], _, h => by cases h; exact .nil
  | d :: ds, _, h => by
    cases h with
    | cons h1 h2 => exact .cons (dpM e d _ h1) (dpsM e ds _ h2)
end
section
variable {K : PySem.W.Frag} {G G' H H' : Hp}
theorem dps_len : ∀ {vs : List V} {ds : List D}, DpAll K G vs ds → vs.length = ds.length
  | [], _, h => by cases h; rfl
  | _ :: _, _, h => by
    cases h with
    | cons _ h2 => simp [dps_len h2]
theorem dps_get : ∀ {vs : List V} {ds : List D} {i : Nat} {v : V}, DpAll K G vs ds → vs[i]? = some v → ∃ d, ds[i]? = some d ∧ Dp K G v d
  | [], _, _, _, h, e => by simp at e
  | _ :: _, _, 0, _, h, e => by
    cases h with
    | cons h1 _ => simp at e; subst e; exact ⟨_, rfl, h1⟩
  | _ :: _, _, i + 1, _, h, e => by
    cases h with
    | cons _ h2 =>
      obtain ⟨d, e1, e2⟩ := dps_get (i := i) h2 (by simpa using e)
      exact ⟨d, by simpa using e1, e2⟩
theorem dps_getD : ∀ {vs : List V} {ds : List D} {i : Nat} {d : D}, DpAll K G vs ds → ds[i]? = some d → ∃ v, vs[i]? = some v ∧ Dp K G v d
  | _, [], _, _, h, e => by simp at e
  | _, _ :: _, 0, _, h, e => by
    cases h with
    | cons h1 _ => simp at e; subst e; exact ⟨_, rfl, h1⟩
  | _, _ :: _, i + 1, _, h, e => by
    cases h with
    | cons _ h2 =>
      obtain ⟨d, e1, e2⟩ := dps_getD (i := i) h2 (by simpa using e)
      exact ⟨d, by simpa using e1, e2⟩
theorem dps_app : ∀ {vs ws : List V} {ds es : List D}, DpAll K G vs ds → DpAll K G ws es → DpAll K G (vs ++ ws) (ds ++ es)
  | [], _, _, _, h, k => by cases h; exact k
  | _ :: _, _, _, _, h, k => by
    cases h with
    | cons h1 h2 => exact .cons h1 (dps_app h2 k)
theorem dps_take : ∀ (n : Nat) {vs : List V} {ds : List D}, DpAll K G vs ds → DpAll K G (vs.take n) (ds.take n)
  | 0, _, _, _ => by simp; exact .nil
  | n + 1, _, _, h => by
    cases h with
    | nil => exact .nil
    | cons h1 h2 => exact .cons h1 (dps_take n h2)
theorem dps_drop : ∀ (n : Nat) {vs : List V} {ds : List D}, DpAll K G vs ds → DpAll K G (vs.drop n) (ds.drop n)
  | 0, _, _, h => by simpa using h
  | n + 1, _, _, h => by
    cases h with
    | nil => exact .nil
    | cons h1 h2 => exact dps_drop n h2
theorem dps_set : ∀ {vs : List V} {ds : List D} (n : Nat) {v : V} {d : D}, DpAll K G vs ds → Dp K G v d → DpAll K G (vs.set n v) (ds.set n d)
  | [], _, _, _, _, h, _ => by cases h; exact .nil
  | _ :: _, _, 0, _, _, h, k => by
    cases h with
    | cons h1 h2 => exact .cons k h2
  | _ :: _, _, n + 1, _, _, h, k => by
    cases h with
    | cons h1 h2 => exact .cons h1 (dps_set n h2 k)
theorem dps_rev {vs : List V} {ds : List D} (h : DpAll K G vs ds) : DpAll K G vs.reverse ds.reverse := by
  induction vs generalizing ds with
  | nil => cases h; exact .nil
  | cons v vs ih =>
    cases h with
    | cons h1 h2 =>
      simp only [List.reverse_cons]
      exact dps_app (ih h2) (.cons h1 .nil)
end

/-- an owned (lent) object -/
def Own (K : PySem.W.Frag) (G H : Hp) (a : Addr) : D → Prop
  | .list ds => ∃ xs, H a = some (.lst xs) ∧ DpAll K G xs ds
  | _ => False
theorem Own.keep {K : PySem.W.Frag} {G G' H H' : Hp} {a : Addr} {d : D} (e : Same G G') (k : ∀ o, H a = some o → H' a = some o) (h : Own K G H a d) : Own K G' H' a d := by
  cases d with
  | list ds =>
    obtain ⟨xs, h1, h2⟩ := h
    exact ⟨xs, k _ h1, dpsM e _ _ h2⟩
  | _ => exact h.elim
theorem Own.there {K : PySem.W.Frag} {G H : Hp} {a : Addr} {d : D} (h : Own K G H a d) : ∃ o, H a = some o := by
  cases d with
  | list ds =>
    obtain ⟨xs, h1, h2⟩ := h
    exact ⟨_, h1⟩
  | _ => exact h.elim
def mtb : Option Sl → Bool
  | some (.own _) => true
  | some (.io _) => true
  | _ => false

/-- the state: G is what nobody changes any more (G0 of it stood at the entry, H0 all that stood then), ioA the lent objects by their slots -/
structure Sg (K : PySem.W.Frag) (ioA : Nat → Option Addr) (G0 H0 G H : Hp) (σ : L2.St) (ρ : Rho) : Prop where
  len : σ.length = ρ.length
  sub : Same G H
  g0 : Same G0 G
  new : ∀ b o, G b = some o → (∃ o', G0 b = some o') ∨ H0 b = none
  fr : ∀ b o, H0 b = some o → (∀ i, ioA i ≠ some b) → H b = some o
  ioh : ∀ i b, ioA i = some b → (∃ o, H b = some o) ∧ G b = none ∧ ∃ o, H0 b = some o
  pu : ∀ (i : Nat) (d : D), ρ[i]? = some (.pu d) → ∃ v, σ[i]? = some (some v) ∧ Dp K G v d
  own : ∀ (i : Nat) (d : D), ρ[i]? = some (.own d) → ∃ a, σ[i]? = some (some (.ref a)) ∧ G a = none ∧ H0 a = none ∧ Own K G H a d
  io : ∀ (i : Nat) (d : D), ρ[i]? = some (.io d) → ∃ a, ioA i = some a ∧ σ[i]? = some (some (.ref a)) ∧ Own K G H a d
  apart : ∀ (i j : Nat) (a : Addr), mtb ρ[i]? = true → mtb ρ[j]? = true → σ[i]? = some (some (.ref a)) → σ[j]? = some (some (.ref a)) → i = j

def RepV (K : PySem.W.Frag) (H0 G H : Hp) (σ : L2.St) (ρ : Rho) (v : V) : Vl → Prop
  | .pu d => Dp K G v d
  | .sl i => mtb ρ[i]? = true ∧ σ[i]? = some (some v)
  | .nw d => ∃ a, v = .ref a ∧ G a = none ∧ H0 a = none ∧ Own K G H a d ∧ ∀ (i : Nat), mtb ρ[i]? = true → σ[i]? ≠ some (some (V.ref a))

def tD (K : PySem.W.Frag) (f : FE) : TE := fun σ H Q => ∃ ioA G0 H0 G ρ r ρ', Sg K ioA G0 H0 G H σ ρ ∧ f ρ = some (r, ρ') ∧
  ∀ G' v H', Same G G' → Sg K ioA G0 H0 G' H' σ ρ' → RepV K H0 G' H' σ ρ' v r → Q v H'
def tDT (K : PySem.W.Frag) (f : FT) : TT := fun σ H Q => ∃ ioA G0 H0 G ρ r ρ', Sg K ioA G0 H0 G H σ ρ ∧ f ρ = some (r, ρ') ∧
  ∀ G' H', Same G G' → Sg K ioA G0 H0 G' H' σ ρ' → Q r H'
/-- values in a row, none of them new -/
def RepVs (K : PySem.W.Frag) (G : Hp) (σ : L2.St) (ρ : Rho) (vs : List V) (rs : List Vl) : Prop :=
  Paired (fun v r => match r with
    | .pu d => Dp K G v d
    | .sl i => mtb ρ[i]? = true ∧ σ[i]? = some (some v)
    | .nw _ => False) vs rs
def tDA (K : PySem.W.Frag) (f : FA) : TA := fun σ H Q => ∃ ioA G0 H0 G ρ r ρ', Sg K ioA G0 H0 G H σ ρ ∧ f ρ = some (r, ρ') ∧
  ∀ G' vs H', Same G G' → Sg K ioA G0 H0 G' H' σ ρ' → RepVs K G' σ ρ' vs r → Q vs H'
/-- what is wanted behind a statement -/
def OutK (K : PySem.W.Frag) (ioA : Nat → Option Addr) (G0 H0 G : Hp) (E : Ends) : Out → Prop
  | .nx ρ' => ∀ G' σ' H', Same G G' → Sg K ioA G0 H0 G' H' σ' ρ' → E.nx σ' H'
  | .bk ρ' => ∀ G' σ' H', Same G G' → Sg K ioA G0 H0 G' H' σ' ρ' → E.bk σ' H'
  | .ct ρ' => ∀ G' σ' H', Same G G' → Sg K ioA G0 H0 G' H' σ' ρ' → E.ct σ' H'
  | .rt r ρ' => ∀ G' v σ' H', Same G G' → Sg K ioA G0 H0 G' H' σ' ρ' → RepV K H0 G' H' σ' ρ' v r → E.rt v H'
theorem OutK.mono {K : PySem.W.Frag} {ioA : Nat → Option Addr} {G0 H0 G G1 : Hp} {E : Ends} {o : Out} (k : OutK K ioA G0 H0 G E o) (g1 : Same G G1) : OutK K ioA G0 H0 G1 E o := by
  cases o with
  | nx ρ2 => exact fun G2 σ2 H2 g2 S2 => k G2 σ2 H2 (g1.trans g2) S2
  | bk ρ2 => exact fun G2 σ2 H2 g2 S2 => k G2 σ2 H2 (g1.trans g2) S2
  | ct ρ2 => exact fun G2 σ2 H2 g2 S2 => k G2 σ2 H2 (g1.trans g2) S2
  | rt r ρ2 => exact fun G2 v σ2 H2 g2 S2 R2 => k G2 v σ2 H2 (g1.trans g2) S2 R2
def tDS (K : PySem.W.Frag) (f : FS) : TS := fun E σ H => ∃ ioA G0 H0 G ρ o, Sg K ioA G0 H0 G H σ ρ ∧ f ρ = some o ∧ OutK K ioA G0 H0 G E o
def tDG (K : PySem.W.Frag) (g : FG) : TG := fun v σ H Q => ∃ ioA G0 H0 G ρ d ρ', Sg K ioA G0 H0 G H σ ρ ∧ Dp K G v d ∧ g d ρ = some ρ' ∧
  ∀ σ', Sg K ioA G0 H0 G H σ' ρ' → Q σ' H

/-! ### the rules' readings weakened -/
section
variable {X : Cx}
theorem pe_w {e : Expr} {t u : TE} (h : PE X e t) (k : ∀ σ H Q, u σ H Q → t σ H Q) : PE X e u := ⟨fun pins s σ H Q I q => h.run pins s σ H Q I (k σ H Q q)⟩
theorem pt_w {e : Expr} {t u : TT} (h : PT X e t) (k : ∀ σ H Q, u σ H Q → t σ H Q) : PT X e u := ⟨fun pins s σ H Q I q => h.run pins s σ H Q I (k σ H Q q)⟩
theorem pw_w {e : Expr} {t u : TT} (h : PW X e t) (k : ∀ σ H Q, u σ H Q → t σ H Q) : PW X e u := ⟨fun w pins s σ H Q I q => h.run w pins s σ H Q I (k σ H Q q)⟩
theorem pts_w {e : List Expr} {t u : TT} (h : PTs X e t) (k : ∀ σ H Q, u σ H Q → t σ H Q) : PTs X e u := ⟨fun pins s σ H Q I q => h.run pins s σ H Q I (k σ H Q q)⟩
theorem pa_w {e : List Expr} {t u : TA} (h : PA X e t) (k : ∀ σ H Q, u σ H Q → t σ H Q) : PA X e u := ⟨fun pos pins s σ H Q I q => h.run pos pins s σ H Q I (k σ H Q q)⟩
theorem ps_w {e : Stmt} {t u : TS} (h : PS X e t) (k : ∀ E σ H, u E σ H → t E σ H) : PS X e u := ⟨fun pins s σ H E I q => h.run pins s σ H E I (k E σ H q)⟩
theorem pss_w {e : List Stmt} {t u : TS} (h : PSs X e t) (k : ∀ E σ H, u E σ H → t E σ H) : PSs X e u := ⟨fun pins s σ H E I q => h.run pins s σ H E I (k E σ H q)⟩
theorem pg_w {e : Expr} {t u : TG} (h : PG X e t) (k : ∀ v σ H Q, u v σ H Q → t v σ H Q) : PG X e u := by
  obtain ⟨h⟩ := h
  exact ⟨fun pins s σ H v u' Q I r q => h pins s σ H v u' Q I r (k v σ H Q q)⟩
end

/-! ### the state -/
section
variable {K : PySem.W.Frag} {ioA : Nat → Option Addr} {G0 H0 G G' H H' : Hp} {σ : L2.St} {ρ : Rho} {v : V} {r : Vl}
theorem same_upd {p : Addr} {o : HO} (h : H p = none) : Same H (upd H p o) := fun b x e => by
  rw [upd_ne (ne_of_none e h)]
  exact e
theorem Sg.mt {i : Nat} (S : Sg K ioA G0 H0 G H σ ρ) (h : mtb ρ[i]? = true) : ∃ a d, σ[i]? = some (some (.ref a)) ∧ G a = none ∧ Own K G H a d ∧ cont ρ (.sl i) = some d := by
  cases e : ρ[i]? with
  | none => rw [e] at h; cases h
  | some s =>
    cases s with
    | own d =>
      obtain ⟨a, h1, h2, h3, h4⟩ := S.own i d e
      exact ⟨a, d, h1, h2, h4, by simp [cont, e]⟩
    | io d =>
      obtain ⟨a, h1, h2, h4⟩ := S.io i d e
      exact ⟨a, d, h2, (S.ioh i a h1).2.1, h4, by simp [cont, e]⟩
    | _ => rw [e] at h; cases h
theorem Sg.fresh {b : Addr} (S : Sg K ioA G0 H0 G H σ ρ) (h : H b = none) : H0 b = none := by
  cases e : H0 b with
  | none => rfl
  | some o =>
    by_cases hx : ∃ i, ioA i = some b
    · obtain ⟨i, hi⟩ := hx
      obtain ⟨o', e'⟩ := (S.ioh i b hi).1
      rw [h] at e'; cases e'
    · have e2 := S.fr b o e fun i hi => hx ⟨i, hi⟩
      rw [h] at e2; cases e2
/-- the heap grows: G may take in what is new -/
theorem Sg.grow (S : Sg K ioA G0 H0 G H σ ρ) (e1 : Same G G') (e2 : Same H H') (e3 : Same G' H') (e4 : ∀ b o, G' b = some o → (∃ o', G b = some o') ∨ H b = none) : Sg K ioA G0 H0 G' H' σ ρ where
  len := S.len
  sub := e3
  g0 := S.g0.trans e1
  new := fun b o e => by
    rcases e4 b o e with ⟨o', q⟩ | q
    · exact S.new b o' q
    · exact .inr (S.fresh q)
  fr := fun b o e k => e2 _ _ (S.fr b o e k)
  ioh := fun i b e => by
    obtain ⟨⟨o, q⟩, q2, q3⟩ := S.ioh i b e
    refine ⟨⟨o, e2 _ _ q⟩, ?_, q3⟩
    cases z : G' b with
    | none => rfl
    | some o' =>
      rcases e4 b o' z with ⟨_, z2⟩ | z2
      · rw [q2] at z2; cases z2
      · rw [q] at z2; cases z2
  pu := fun i d e => by
    obtain ⟨v, h1, h2⟩ := S.pu i d e
    exact ⟨v, h1, dpM e1 _ _ h2⟩
  own := fun i d e => by
    obtain ⟨a, h1, h2, h3, h4⟩ := S.own i d e
    obtain ⟨o, h5⟩ := h4.there
    refine ⟨a, h1, ?_, h3, h4.keep e1 (e2 _)⟩
    cases z : G' a with
    | none => rfl
    | some o' =>
      rcases e4 a o' z with ⟨_, z2⟩ | z2
      · rw [h2] at z2; cases z2
      · rw [h5] at z2; cases z2
  io := fun i d e => by
    obtain ⟨a, h1, h2, h4⟩ := S.io i d e
    exact ⟨a, h1, h2, h4.keep e1 (e2 _)⟩
  apart := S.apart
/-- a new object becomes plain -/
theorem settle (S : Sg K ioA G0 H0 G H σ ρ) (R : RepV K H0 G H σ ρ v r) : ∃ G', Same G G' ∧ Sg K ioA G0 H0 G' H σ ρ ∧ RepV K H0 G' H σ ρ v (stl r) := by
  cases r with
  | pu d => exact ⟨G, Same.refl _, S, R⟩
  | sl i => exact ⟨G, Same.refl _, S, R⟩
  | nw d =>
    obtain ⟨a, rfl, h1, h2, h3, h4⟩ := R
    cases d with
    | list ds =>
      obtain ⟨xs, h5, h6⟩ := h3
      have e1 : Same G (upd G a (.lst xs)) := same_upd h1
      refine ⟨upd G a (.lst xs), e1, ?_, ?_⟩
      · refine ⟨S.len, fun b o e => ?_, S.g0.trans e1, fun b o e => ?_, S.fr, fun i b e => ?_, fun i d e => ?_, fun i d e => ?_, fun i d e => ?_, S.apart⟩
        · by_cases hb : b = a
          · subst hb; rw [upd_same] at e; cases e; exact h5
          · rw [upd_ne hb] at e; exact S.sub b o e
        · by_cases hb : b = a
          · subst hb; exact .inr h2
          · rw [upd_ne hb] at e; exact S.new b o e
        · obtain ⟨q1, q2, o, q3⟩ := S.ioh i b e
          refine ⟨q1, ?_, o, q3⟩
          have hb : b ≠ a := fun z => by rw [z, h2] at q3; cases q3
          rw [upd_ne hb]; exact q2
        · obtain ⟨v, q1, q2⟩ := S.pu i d e
          exact ⟨v, q1, dpM e1 _ _ q2⟩
        · obtain ⟨b, q1, q2, q3, q4⟩ := S.own i d e
          have hb : b ≠ a := fun z => h4 i (by rw [e]; rfl) (by rw [← z]; exact q1)
          exact ⟨b, q1, by rw [upd_ne hb]; exact q2, q3, q4.keep e1 fun _ z => z⟩
        · obtain ⟨b, q1, q2, q4⟩ := S.io i d e
          exact ⟨b, q1, q2, q4.keep e1 fun _ z => z⟩
      · exact Dp.lst (.inl (.inl upd_same)) (dpsM e1 _ _ h6)
    | _ => exact h3.elim
theorem RepV.mono {ρ' : Rho} (e : Same G G') (hs : ∀ (i : Nat), mtb ρ[i]? = true → mtb ρ'[i]? = true) (R : RepV K H0 G H σ ρ v (stl r)) : RepV K H0 G' H' σ ρ' v (stl r) := by
  cases r with
  | pu d => exact dpM e _ _ R
  | sl i => exact ⟨hs i R.1, R.2⟩
  | nw d => exact dpM e _ _ R
end
end PL

/-! PL: the pure layer, 3: expressions, arguments, tests. -/
namespace PL
open PySem PySem.Spec PyProof.Rows L2

/-- an expression leaves the slots as they are, but for what owned and lent objects hold -/
def Kin (ρ ρ' : Rho) : Prop := ∀ i : Nat, mtb ρ'[i]? = mtb ρ[i]? ∧ (mtb ρ[i]? = false → ρ'[i]? = ρ[i]?)
theorem Kin.refl (ρ : Rho) : Kin ρ ρ := fun _ => ⟨rfl, fun _ => rfl⟩
theorem Kin.trans {a b c : Rho} (h : Kin a b) (k : Kin b c) : Kin a c := fun i => by
  obtain ⟨h1, h2⟩ := h i
  obtain ⟨k1, k2⟩ := k i
  exact ⟨k1.trans h1, fun z => (k2 (h1.trans z)).trans (h2 z)⟩
theorem Kin.mt {a b : Rho} (h : Kin a b) (i : Nat) (z : mtb a[i]? = true) : mtb b[i]? = true := (h i).1.trans z
def KinE (f : FE) : Prop := ∀ ρ r ρ', f ρ = some (r, ρ') → Kin ρ ρ'
def KinT (f : FT) : Prop := ∀ ρ r ρ', f ρ = some (r, ρ') → Kin ρ ρ'
def KinA (f : FA) : Prop := ∀ ρ r ρ', f ρ = some (r, ρ') → Kin ρ ρ'
structure PD (X : Cx) (e : Expr) (f : FE) : Prop where
  pe : PE X e (tD X.K f)
  kin : KinE f
structure PDT (X : Cx) (e : Expr) (f : FT) : Prop where
  pt : PT X e (tDT X.K f)
  kin : KinT f
structure PDW (X : Cx) (e : Expr) (f : FT) : Prop where
  pw : PW X e (tDT X.K f)
  kin : KinT f
structure PDA (X : Cx) (es : List Expr) (f : FA) : Prop where
  pa : PA X es (tDA X.K f)
  kin : KinA f
theorem bnd {α β : Type} {o : Option α} {f : α → Option β} {b : β} (h : o.bind f = some b) : ∃ a, o = some a ∧ f a = some b := Option.bind_eq_some_iff.mp h

section
variable {X : Cx} {K : PySem.W.Frag} {ioA : Nat → Option Addr} {G0 H0 G G' H H' : Hp} {σ : L2.St} {ρ ρ' : Rho} {v : V} {r : Vl}

/-! ### names, constants -/
theorem pd_var {e : Expr} {i : Nat} (h : PE X e (tVar i)) : PD X e (cVar i) := by
  refine ⟨pe_w h fun σ H Q q => ?_, fun ρ r ρ' q => ?_⟩
  · obtain ⟨ioA, G0, H0, G, ρ, r, ρ', S, e1, k⟩ := q
    unfold cVar at e1
    cases z : ρ[i]? with
    | none => rw [z] at e1; cases e1
    | some s =>
      rw [z] at e1
      cases s with
      | non => cases e1
      | pu d =>
        cases e1
        obtain ⟨v, h1, h2⟩ := S.pu i d z
        exact ⟨v, h1, k G v H (Same.refl _) S h2⟩
      | own d =>
        cases e1
        obtain ⟨a, h1, _⟩ := S.own i d z
        exact ⟨_, h1, k G _ H (Same.refl _) S ⟨by rw [z]; rfl, h1⟩⟩
      | io d =>
        cases e1
        obtain ⟨a, _, h1, _⟩ := S.io i d z
        exact ⟨_, h1, k G _ H (Same.refl _) S ⟨by rw [z]; rfl, h1⟩⟩
  · unfold cVar at q
    split at q <;> cases q <;> exact Kin.refl _
theorem kin_c {d : D} : KinE (cC d) := fun ρ r ρ' q => by cases q; exact Kin.refl _
theorem pd_c {e : Expr} {v : V} {d : D} (h : PE X e (tC v)) (hd : ∀ G, Dp X.K G v d) : PD X e (cC d) := by
  refine ⟨pe_w h fun σ H Q q => ?_, kin_c⟩
  obtain ⟨ioA, G0, H0, G, ρ, r, ρ', S, e1, k⟩ := q
  cases e1
  exact k G v H (Same.refl _) S (hd G)
theorem pd_int {i : Int} {j pos} : PD X (.Constant (.int i) j pos) (cC (.int i)) := pd_c pe_int fun _ => .int i
theorem pd_bl {b : Bool} {j pos} : PD X (.Constant (.bool b) j pos) (cC (.bool b)) := pd_c pe_bl fun _ => .bl b
theorem pd_non {j pos} : PD X (.Constant .none j pos) (cC .none) := pd_c pe_non fun _ => .non
theorem pd_str {x : Str} {j pos} : PD X (.Constant (.str x) j pos) (cC (.str x)) := pd_c pe_str fun _ => .str x
/-- a module's constant: an int -/
theorem pd_gint {x : Str} {u : Value} {i : Int} {pos : Pos} (hg : Gl X x) (hm : X.mg x = some u) (r : ∃ t, u = .int i t) (hd : (x == ("__debug__" : Str)) = false := by decide) : PD X (.Name x pos) (cC (.int i)) :=
  pd_c (pe_glob hg hm (v := .int i) r hd) fun _ => .int i

/-! ### operators -/
/-- what an operator's answer is -/
def RepN (K : PySem.W.Frag) (H G' H' : Hp) (v : V) : Vl → Prop
  | .pu d => Dp K G' v d
  | .sl _ => False
  | .nw d => ∃ a, v = .ref a ∧ H a = none ∧ G' a = none ∧ Own K G' H' a d
def Top (K : PySem.W.Frag) (G H : Hp) (v : V) (d : D) : Prop := Dp K G v d ∨ ∃ a, v = .ref a ∧ G a = none ∧ Own K G H a d
/-- behind an operator -/
structure Grow (G H G' H' : Hp) : Prop where
  g : Same G G'
  h : Same H H'
  s : Same G' H'
  n : ∀ b o, G' b = some o → (∃ o', G b = some o') ∨ H b = none
theorem Grow.refl (s : Same G H) : Grow G H G H := ⟨Same.refl _, Same.refl _, s, fun b o e => .inl ⟨o, e⟩⟩
def rN (K : PySem.W.Frag) (m : D → Vl) (op : D → D → Option D) : R2 := fun x y H Q => ∃ G d e r, Same G H ∧ Top K G H x d ∧ Top K G H y e ∧ op d e = some r ∧
  ∀ G' v H', Grow G H G' H' → RepN K H G' H' v (m r) → Q v H'
theorem Sg.top (S : Sg K ioA G0 H0 G H σ ρ) (R : RepV K H0 G H σ ρ v (stl r)) {d : D} (c : cont ρ (stl r) = some d) : Top K G H v d := by
  cases r with
  | pu d => cases c; exact .inl R
  | nw d => cases c; exact .inl R
  | sl i =>
    obtain ⟨a, d', h1, h2, h3, h4⟩ := S.mt R.1
    have e : some d = some d' := c.symm.trans h4
    cases e
    have e2 := R.2.symm.trans h1
    cases e2
    exact .inr ⟨a, rfl, h2, h3⟩
theorem Top.dp (h : Top K G H v d) (s : Same G H) : Dp K H v d := by
  rcases h with h | ⟨a, rfl, _, h⟩
  · exact dpM s _ _ h
  · cases d with
    | list ds =>
      obtain ⟨xs, h1, h2⟩ := h
      exact .lst (.inl (.inl h1)) (dpsM s _ _ h2)
    | _ => exact h.elim
theorem Sg.repN (S : Sg K ioA G0 H0 G H σ ρ) (g : Grow G H G' H') {w : Vl} (R : RepN K H G' H' v w) : Sg K ioA G0 H0 G' H' σ ρ ∧ RepV K H0 G' H' σ ρ v w := by
  have S' := S.grow g.g g.h g.s g.n
  refine ⟨S', ?_⟩
  cases w with
  | pu d => exact R
  | sl i => exact R.elim
  | nw d =>
    obtain ⟨a, rfl, h1, h2, h3⟩ := R
    refine ⟨a, rfl, h2, S.fresh h1, h3, fun i hi e => ?_⟩
    obtain ⟨b, d', q1, _, q3, _⟩ := S.mt hi
    obtain ⟨o, q4⟩ := q3.there
    have e2 := e.symm.trans q1
    cases e2
    rw [h1] at q4; cases q4
theorem kin_op2 {m : D → Vl} {fa fb : FE} {op : D → D → Option D} (ha : KinE fa) (hb : KinE fb) :
    KinE (fun ρ => (fa ρ).bind fun p => (fb p.2).bind fun q => (cont q.2 (stl p.1)).bind fun x => (cont q.2 (stl q.1)).bind fun y => (op x y).bind fun r => some (m r, q.2)) := fun ρ r ρ' q => by
  obtain ⟨⟨r1, ρ1⟩, e1, q⟩ := bnd q
  obtain ⟨⟨r2, ρ2⟩, e2, q⟩ := bnd q
  obtain ⟨x, _, q⟩ := bnd q
  obtain ⟨y, _, q⟩ := bnd q
  obtain ⟨z, _, q⟩ := bnd q
  cases q
  exact (ha _ _ _ e1).trans (hb _ _ _ e2)
/-- two operands in a row -/
theorem two {fa fb : FE} {m : D → Vl} {op : D → D → Option D} {Q : VK} (hb : KinE fb)
    (q : tD K (fun ρ => (fa ρ).bind fun p => (fb p.2).bind fun q => (cont q.2 (stl p.1)).bind fun x => (cont q.2 (stl q.1)).bind fun y => (op x y).bind fun r => some (m r, q.2)) σ H Q) :
    tOp (rN K m op) (tD K fa) (tD K fb) σ H Q := by
  obtain ⟨ioA, G0, H0, G, ρ, r, ρ', S, e, k⟩ := q
  obtain ⟨⟨r1, ρ1⟩, e1, e⟩ := bnd e
  obtain ⟨⟨r2, ρ2⟩, e2, e⟩ := bnd e
  obtain ⟨x, ex, e⟩ := bnd e
  obtain ⟨y, ey, e⟩ := bnd e
  obtain ⟨z, ez, e⟩ := bnd e
  cases e
  refine ⟨ioA, G0, H0, G, ρ, r1, ρ1, S, e1, fun G1 v1 H1 g1 S1 R1 => ?_⟩
  obtain ⟨G1', g1', S1', R1'⟩ := settle S1 R1
  refine ⟨ioA, G0, H0, G1', ρ1, r2, ρ2, S1', e2, fun G2 v2 H2 g2 S2 R2 => ?_⟩
  obtain ⟨G2', g2', S2', R2'⟩ := settle S2 R2
  have R1'' : RepV K H0 G2' H2 σ ρ2 v1 (stl r1) := RepV.mono (g2.trans g2') (fun i hi => (hb _ _ _ e2).mt i hi) R1'
  refine ⟨G2', x, y, z, S2'.sub, S2'.top R1'' ex, S2'.top R2' ey, ez, fun G3 v3 H3 g3 R3 => ?_⟩
  obtain ⟨S3, R3'⟩ := S2'.repN g3 R3
  exact k G3 v3 H3 (((g1.trans g1').trans (g2.trans g2')).trans g3.g) S3 R3'
theorem pd_op2 {a b : Expr} {fa fb : FE} {o : Operator} {op : D → D → Option D} {pos : Pos} (ho : OpR X (binaryOp o) (rN X.K .pu op)) (ha : PD X a fa) (hb : PD X b fb) : PD X (.BinOp a o b pos) (cOp2 op fa fb) :=
  ⟨pe_w (pe_op ho ha.pe hb.pe) fun _ _ _ q => two hb.kin q, kin_op2 ha.kin hb.kin⟩
theorem pd_op2n {a b : Expr} {fa fb : FE} {o : Operator} {op : D → D → Option D} {pos : Pos} (ho : OpR X (binaryOp o) (rN X.K mk op)) (ha : PD X a fa) (hb : PD X b fb) : PD X (.BinOp a o b pos) (cOp2n op fa fb) :=
  ⟨pe_w (pe_op ho ha.pe hb.pe) fun _ _ _ q => two hb.kin q, kin_op2 ha.kin hb.kin⟩
theorem pd_cmp {a b : Expr} {fa fb : FE} {o : CmpOp} {op : D → D → Option D} {pos : Pos} (ho : OpR X (compareOp o) (rN X.K .pu op)) (ha : PD X a fa) (hb : PD X b fb) (hm : behindInMarks o b = false) : PD X (.Compare a [o] [b] pos) (cOp2 op fa fb) :=
  ⟨pe_w (pe_cmpR ho ha.pe hb.pe hm) fun _ _ _ q => two hb.kin q, kin_op2 ha.kin hb.kin⟩
theorem kin_bl {f : FE} (h : KinE f) : KinT (tBl f) := fun ρ r ρ' q => by
  obtain ⟨⟨r1, ρ1⟩, e1, q⟩ := bnd q
  simp only at q
  split at q <;> cases q
  exact h _ _ _ e1
theorem tst {f : FE} {Q : Bool → Hp → Prop} (q : tDT K (tBl f) σ H Q) : tTest (tD K f) σ H Q := by
  obtain ⟨ioA, G0, H0, G, ρ, r, ρ', S, e, k⟩ := q
  obtain ⟨⟨r1, ρ1⟩, e1, e⟩ := bnd e
  simp only at e
  split at e <;> cases e
  refine ⟨ioA, G0, H0, G, ρ, _, _, S, e1, fun G1 v1 H1 g1 S1 R1 => ?_⟩
  cases R1
  exact ⟨_, rfl, k G1 H1 g1 S1⟩
theorem pt_cmp' {a b : Expr} {fa fb : FE} {o : CmpOp} {op : D → D → Option D} {pos : Pos} (ho : OpR X (compareOp o) (rN X.K .pu op)) (ha : PD X a fa) (hb : PD X b fb) (hm : behindInMarks o b = false) : PDT X (.Compare a [o] [b] pos) (tBl (cOp2 op fa fb)) :=
  ⟨pt_w (pt_cmpR ho ha.pe hb.pe hm) fun σ H Q q => by
    obtain ⟨ioA, G0, H0, G, ρ, r, ρ', S, e, k⟩ := q
    obtain ⟨⟨r1, ρ1⟩, e1, e⟩ := bnd e
    simp only at e
    split at e <;> cases e
    refine two hb.kin ⟨ioA, G0, H0, G, ρ, _, _, S, e1, fun G1 v1 H1 g1 S1 R1 => ?_⟩
    cases R1
    exact ⟨_, rfl, k G1 H1 g1 S1⟩, kin_bl (kin_op2 ha.kin hb.kin)⟩

/-! ### chains, and, or, not, if -/
theorem kin_chain {fa fb fc : FE} {op op' : D → D → Option D} (ha : KinE fa) (hb : KinE fb) (hc : KinE fc) : KinE (cChain op op' fa fb fc) := fun ρ r ρ' q => by
  obtain ⟨⟨r1, ρ1⟩, e1, q⟩ := bnd q
  obtain ⟨⟨r2, ρ2⟩, e2, q⟩ := bnd q
  obtain ⟨x, _, q⟩ := bnd q
  obtain ⟨y, _, q⟩ := bnd q
  obtain ⟨z, _, q⟩ := bnd q
  split at q
  · obtain ⟨⟨r3, ρ3⟩, e3, q⟩ := bnd q
    obtain ⟨y', _, q⟩ := bnd q
    obtain ⟨z', _, q⟩ := bnd q
    obtain ⟨w, _, q⟩ := bnd q
    cases q
    exact ((ha _ _ _ e1).trans (hb _ _ _ e2)).trans (hc _ _ _ e3)
  · cases q
    exact (ha _ _ _ e1).trans (hb _ _ _ e2)
  · cases q
theorem three {fa fb fc : FE} {op op' : D → D → Option D} {Q : VK} (hb : KinE fb) (hc : KinE fc) (q : tD K (cChain op op' fa fb fc) σ H Q) :
    tChain (rN K .pu op) (rN K .pu op') (tD K fa) (tD K fb) (tD K fc) σ H Q := by
  obtain ⟨ioA, G0, H0, G, ρ, r, ρ', S, e, k⟩ := q
  obtain ⟨⟨r1, ρ1⟩, e1, e⟩ := bnd e
  obtain ⟨⟨r2, ρ2⟩, e2, e⟩ := bnd e
  obtain ⟨x, ex, e⟩ := bnd e
  obtain ⟨y, ey, e⟩ := bnd e
  obtain ⟨z, ez, e⟩ := bnd e
  refine ⟨ioA, G0, H0, G, ρ, r1, ρ1, S, e1, fun G1 v1 H1 g1 S1 R1 => ?_⟩
  obtain ⟨G1', g1', S1', R1'⟩ := settle S1 R1
  refine ⟨ioA, G0, H0, G1', ρ1, r2, ρ2, S1', e2, fun G2 v2 H2 g2 S2 R2 => ?_⟩
  obtain ⟨G2', g2', S2', R2'⟩ := settle S2 R2
  have R1'' : RepV K H0 G2' H2 σ ρ2 v1 (stl r1) := RepV.mono (g2.trans g2') (fun i hi => (hb _ _ _ e2).mt i hi) R1'
  refine ⟨G2', x, y, z, S2'.sub, S2'.top R1'' ex, S2'.top R2' ey, ez, fun G3 v3 H3 g3 R3 => ?_⟩
  obtain ⟨S3, R3'⟩ := S2'.repN g3 R3
  split at e
  · obtain ⟨⟨r4, ρ4⟩, e4, e⟩ := bnd e
    obtain ⟨y', ey', e⟩ := bnd e
    obtain ⟨z', ez', e⟩ := bnd e
    obtain ⟨w, ew, e⟩ := bnd e
    cases e
    cases R3'
    refine ⟨true, rfl, ?_⟩
    rw [if_pos rfl]
    refine ⟨ioA, G0, H0, G3, ρ2, r4, ρ4, S3, e4, fun G4 v4 H4 g4 S4 R4 => ?_⟩
    obtain ⟨G4', g4', S4', R4'⟩ := settle S4 R4
    have R2'' : RepV K H0 G4' H4 σ ρ4 v2 (stl r2) := RepV.mono (g3.g.trans (g4.trans g4')) (fun i hi => (hc _ _ _ e4).mt i hi) R2'
    refine ⟨G4', y', z', w, S4'.sub, S4'.top R2'' ey', S4'.top R4' ez', ew, fun G5 v5 H5 g5 R5 => ?_⟩
    obtain ⟨S5, R5'⟩ := S4'.repN g5 R5
    exact k G5 v5 H5 ((((g1.trans g1').trans (g2.trans g2')).trans (g3.g.trans (g4.trans g4'))).trans g5.g) S5 R5'
  · cases e
    cases R3'
    refine ⟨false, rfl, ?_⟩
    rw [if_neg Bool.false_ne_true]
    exact k G3 (V.bl false) H3 (((g1.trans g1').trans (g2.trans g2')).trans g3.g) S3 (.bl false)
  · cases e
theorem pd_chain {a b c : Expr} {fa fb fc : FE} {o o' : CmpOp} {op op' : D → D → Option D} {pos : Pos} (ho : OpR X (compareOp o) (rN X.K .pu op)) (ho' : OpR X (compareOp o') (rN X.K .pu op')) (ha : PD X a fa) (hb : PD X b fb) (hc : PD X c fc)
    (hm : lastMarks [o, o'] [b, c] = false) : PD X (.Compare a [o, o'] [b, c] pos) (cChain op op' fa fb fc) :=
  ⟨pe_w (pe_chain ho ho' ha.pe hb.pe hc.pe hm) fun _ _ _ q => three hb.kin hc.kin q, kin_chain ha.kin hb.kin hc.kin⟩
theorem of_bl {f : FE} {t : TE} (h : ∀ σ H Q, tD K f σ H Q → t σ H Q) {Q : Bool → Hp → Prop} (q : tDT K (tBl f) σ H Q) : tTest t σ H Q := by
  obtain ⟨ioA, G0, H0, G, ρ, r, ρ', S, e, k⟩ := q
  obtain ⟨⟨r1, ρ1⟩, e1, e⟩ := bnd e
  simp only at e
  split at e <;> cases e
  refine h _ _ _ ⟨ioA, G0, H0, G, ρ, _, _, S, e1, fun G1 v1 H1 g1 S1 R1 => ?_⟩
  cases R1
  exact ⟨_, rfl, k G1 H1 g1 S1⟩
theorem pt_chain' {a b c : Expr} {fa fb fc : FE} {o o' : CmpOp} {op op' : D → D → Option D} {pos : Pos} (ho : OpR X (compareOp o) (rN X.K .pu op)) (ho' : OpR X (compareOp o') (rN X.K .pu op')) (ha : PD X a fa) (hb : PD X b fb) (hc : PD X c fc)
    (hm : lastMarks [o, o'] [b, c] = false) : PDT X (.Compare a [o, o'] [b, c] pos) (tBl (cChain op op' fa fb fc)) :=
  ⟨pt_w (pt_chain ho ho' ha.pe hb.pe hc.pe hm) fun _ _ _ q => of_bl (fun _ _ _ q => three hb.kin hc.kin q) q, kin_bl (kin_chain ha.kin hb.kin hc.kin)⟩
theorem kin_and {fa fb : FE} (ha : KinE fa) (hb : KinE fb) : KinE (cAnd fa fb) := fun ρ r ρ' q => by
  obtain ⟨⟨r1, ρ1⟩, e1, q⟩ := bnd q
  simp only at q
  split at q
  · exact (ha _ _ _ e1).trans (hb _ _ _ q)
  · cases q; exact ha _ _ _ e1
  · cases q
theorem kin_or {fa fb : FE} (ha : KinE fa) (hb : KinE fb) : KinE (cOr fa fb) := fun ρ r ρ' q => by
  obtain ⟨⟨r1, ρ1⟩, e1, q⟩ := bnd q
  simp only at q
  split at q
  · cases q; exact ha _ _ _ e1
  · exact (ha _ _ _ e1).trans (hb _ _ _ q)
  · cases q
theorem pd_one {op : BoolOp} {a : Expr} {fa : FE} {pos : Pos} (ha : PD X a fa) : PD X (.BoolOp op [a] pos) fa := ⟨pe_one ha.pe, ha.kin⟩
theorem pd_and {a b : Expr} {rest : List Expr} {fa fb : FE} {pos : Pos} (ha : PD X a fa) (hb : PD X (.BoolOp .And (b :: rest) pos) fb) : PD X (.BoolOp .And (a :: b :: rest) pos) (cAnd fa fb) := by
  refine ⟨pe_w (pe_and ha.pe hb.pe) fun σ H Q q => ?_, kin_and ha.kin hb.kin⟩
  obtain ⟨ioA, G0, H0, G, ρ, r, ρ', S, e, k⟩ := q
  obtain ⟨⟨r1, ρ1⟩, e1, e⟩ := bnd e
  refine ⟨ioA, G0, H0, G, ρ, r1, ρ1, S, e1, fun G1 v1 H1 g1 S1 R1 => ?_⟩
  simp only at e
  split at e
  · cases R1
    exact ⟨true, rfl, iteT ⟨ioA, G0, H0, G1, ρ1, r, ρ', S1, e, fun G2 v2 H2 g2 S2 R2 => k G2 v2 H2 (g1.trans g2) S2 R2⟩⟩
  · cases R1
    cases e
    exact ⟨false, rfl, iteF (k G1 _ H1 g1 S1 (.bl false))⟩
  · cases e
theorem pd_or {a b : Expr} {rest : List Expr} {fa fb : FE} {pos : Pos} (ha : PD X a fa) (hb : PD X (.BoolOp .Or (b :: rest) pos) fb) : PD X (.BoolOp .Or (a :: b :: rest) pos) (cOr fa fb) := by
  refine ⟨pe_w (pe_or ha.pe hb.pe) fun σ H Q q => ?_, kin_or ha.kin hb.kin⟩
  obtain ⟨ioA, G0, H0, G, ρ, r, ρ', S, e, k⟩ := q
  obtain ⟨⟨r1, ρ1⟩, e1, e⟩ := bnd e
  refine ⟨ioA, G0, H0, G, ρ, r1, ρ1, S, e1, fun G1 v1 H1 g1 S1 R1 => ?_⟩
  simp only at e
  split at e
  · cases R1
    cases e
    exact ⟨true, rfl, iteT (k G1 _ H1 g1 S1 (.bl true))⟩
  · cases R1
    exact ⟨false, rfl, iteF ⟨ioA, G0, H0, G1, ρ1, r, ρ', S1, e, fun G2 v2 H2 g2 S2 R2 => k G2 v2 H2 (g1.trans g2) S2 R2⟩⟩
  · cases e
/-- not x, x a bool -/
def cNotB (a : FE) : FE := fun ρ => (a ρ).bind fun p => match p.1 with
  | .pu (.bool k) => some (.pu (.bool (!k)), p.2)
  | _ => none
theorem pd_not {a : Expr} {fa : FE} {pos : Pos} (ha : PD X a fa) : PD X (.UnaryOp .Not a pos) (cNotB fa) := by
  refine ⟨pe_w (pe_not ha.pe) fun σ H Q q => ?_, fun ρ r ρ' q => ?_⟩
  · obtain ⟨ioA, G0, H0, G, ρ, r, ρ', S, e, k⟩ := q
    obtain ⟨⟨r1, ρ1⟩, e1, e⟩ := bnd e
    refine ⟨ioA, G0, H0, G, ρ, r1, ρ1, S, e1, fun G1 v1 H1 g1 S1 R1 => ?_⟩
    simp only at e
    split at e <;> cases e
    cases R1
    exact ⟨_, rfl, k G1 _ H1 g1 S1 (.bl _)⟩
  · obtain ⟨⟨r1, ρ1⟩, e1, e⟩ := bnd q
    simp only at e
    split at e <;> cases e
    exact ha.kin _ _ _ e1
theorem pd_if {c a b : Expr} {ft : FT} {fa fb : FE} {pos : Pos} (hc : PDT X c ft) (ha : PD X a fa) (hb : PD X b fb) : PD X (.IfExp c a b pos) (cIf ft fa fb) := by
  refine ⟨pe_w (pe_ifExp hc.pt ha.pe hb.pe) fun σ H Q q => ?_, fun ρ r ρ' q => ?_⟩
  · obtain ⟨ioA, G0, H0, G, ρ, r, ρ', S, e, k⟩ := q
    obtain ⟨⟨r1, ρ1⟩, e1, e⟩ := bnd e
    refine ⟨ioA, G0, H0, G, ρ, r1, ρ1, S, e1, fun G1 H1 g1 S1 => ?_⟩
    cases r1 with
    | true => exact iteT ⟨ioA, G0, H0, G1, ρ1, r, ρ', S1, e, fun G2 v2 H2 g2 S2 R2 => k G2 v2 H2 (g1.trans g2) S2 R2⟩
    | false => exact iteF ⟨ioA, G0, H0, G1, ρ1, r, ρ', S1, e, fun G2 v2 H2 g2 S2 R2 => k G2 v2 H2 (g1.trans g2) S2 R2⟩
  · obtain ⟨⟨r1, ρ1⟩, e1, e⟩ := bnd q
    cases r1 with
    | true => exact (hc.kin _ _ _ e1).trans (ha.kin _ _ _ e)
    | false => exact (hc.kin _ _ _ e1).trans (hb.kin _ _ _ e)
/-! ### tests -/
theorem isEmpty_dps {G : Hp} {vs : List V} {ds : List D} (h : DpAll K G vs ds) : ds.isEmpty = vs.isEmpty := by
  cases h <;> rfl
theorem Top.tru (h : Top K G H v d) (s : Same G H) {b : Bool} (e : truD d = some b) (z : ∀ x, d = .str x → x.length ≤ sizeLine) : TruV K v H b := by
  have q := h.dp s
  cases d with
  | none => cases q; cases e; rfl
  | bool c => cases q; cases e; rfl
  | int i => cases q; cases e; rfl
  | str x =>
    cases q; cases e
    refine ⟨z x rfl, ?_⟩
    obtain ⟨⟨l⟩⟩ := x
    cases l
    · simp [Str.length]
    · simp [Str.length]
      omega
  | list ds =>
    cases q with
    | lst hs ha =>
      cases e
      exact .inl ⟨_, hs, by rw [isEmpty_dps ha]⟩
  | tuple ds =>
    cases q with
    | tup hs ha =>
      cases e
      exact .inr (.inl ⟨_, hs, by rw [isEmpty_dps ha]⟩)
  | dict _ => cases e
/-- the truth of a value that is no text -/
def tTru' (a : FE) : FT := fun ρ => (a ρ).bind fun p => (cont p.2 (stl p.1)).bind fun x => match x with
  | .str _ => none
  | x => (truD x).bind fun k => some (k, p.2)
theorem pt_tru {a : Expr} {fa : FE} (ha : PD X a fa) (he : ∀ whole, isTrue a X.env whole = (do let v ← whole; standAt a.pos; holding [v] (truthy v))) : PDT X a (tTru' fa) := by
  refine ⟨pt_w (pt_truth ha.pe he) fun σ H Q q => ?_, fun ρ r ρ' q => ?_⟩
  · obtain ⟨ioA, G0, H0, G, ρ, r, ρ', S, e, k⟩ := q
    obtain ⟨⟨r1, ρ1⟩, e1, e⟩ := bnd e
    obtain ⟨x, ex, e⟩ := bnd e
    refine ⟨ioA, G0, H0, G, ρ, r1, ρ1, S, e1, fun G1 v1 H1 g1 S1 R1 => ?_⟩
    obtain ⟨G1', g1', S1', R1'⟩ := settle S1 R1
    have T := S1'.top R1' ex
    simp only at e
    split at e
    · cases e
    · rename_i hx
      obtain ⟨b, eb, e⟩ := bnd e
      cases e
      exact ⟨_, T.tru S1'.sub eb fun y z => absurd z (hx y), k G1' H1 (g1.trans g1') S1'⟩
  · obtain ⟨⟨r1, ρ1⟩, e1, e⟩ := bnd q
    obtain ⟨x, ex, e⟩ := bnd e
    simp only at e
    split at e
    · cases e
    · obtain ⟨b, eb, e⟩ := bnd e
      cases e
      exact ha.kin _ _ _ e1
theorem pw_pt {e : Expr} {f : FT} (h : PDW X e f) : PDT X e f := ⟨h.pw.pt, h.kin⟩
theorem pw_one {op : BoolOp} {a : Expr} {fa : FT} {pos : Pos} (ha : PDT X a fa) : PDW X (.BoolOp op [a] pos) fa := by
  cases op with
  | And => exact ⟨pw_and1 ha.pt, ha.kin⟩
  | Or => exact ⟨pw_or1 ha.pt, ha.kin⟩
theorem pw_and' {a b : Expr} {rest : List Expr} {fa fb : FT} {pos : Pos} (ha : PDT X a fa) (hb : PDW X (.BoolOp .And (b :: rest) pos) fb) : PDW X (.BoolOp .And (a :: b :: rest) pos) (tAnd fa fb) := by
  refine ⟨pw_w (pw_and ha.pt hb.pw) fun σ H Q q => ?_, fun ρ r ρ' q => ?_⟩
  · obtain ⟨ioA, G0, H0, G, ρ, r, ρ', S, e, k⟩ := q
    obtain ⟨⟨r1, ρ1⟩, e1, e⟩ := bnd e
    refine ⟨ioA, G0, H0, G, ρ, r1, ρ1, S, e1, fun G1 H1 g1 S1 => ?_⟩
    cases r1 with
    | true => exact iteT ⟨ioA, G0, H0, G1, ρ1, r, ρ', S1, e, fun G2 H2 g2 S2 => k G2 H2 (g1.trans g2) S2⟩
    | false =>
      cases e
      exact iteF (k G1 H1 g1 S1)
  · obtain ⟨⟨r1, ρ1⟩, e1, e⟩ := bnd q
    cases r1 with
    | true => exact (ha.kin _ _ _ e1).trans (hb.kin _ _ _ e)
    | false => cases e; exact ha.kin _ _ _ e1
theorem pw_or' {a b : Expr} {rest : List Expr} {fa fb : FT} {pos : Pos} (ha : PDT X a fa) (hb : PDW X (.BoolOp .Or (b :: rest) pos) fb) : PDW X (.BoolOp .Or (a :: b :: rest) pos) (tOr fa fb) := by
  refine ⟨pw_w (pw_or ha.pt hb.pw) fun σ H Q q => ?_, fun ρ r ρ' q => ?_⟩
  · obtain ⟨ioA, G0, H0, G, ρ, r, ρ', S, e, k⟩ := q
    obtain ⟨⟨r1, ρ1⟩, e1, e⟩ := bnd e
    refine ⟨ioA, G0, H0, G, ρ, r1, ρ1, S, e1, fun G1 H1 g1 S1 => ?_⟩
    cases r1 with
    | false => exact iteF ⟨ioA, G0, H0, G1, ρ1, r, ρ', S1, e, fun G2 H2 g2 S2 => k G2 H2 (g1.trans g2) S2⟩
    | true =>
      cases e
      exact iteT (k G1 H1 g1 S1)
  · obtain ⟨⟨r1, ρ1⟩, e1, e⟩ := bnd q
    cases r1 with
    | false => exact (ha.kin _ _ _ e1).trans (hb.kin _ _ _ e)
    | true => cases e; exact ha.kin _ _ _ e1
theorem pt_not' {a : Expr} {fa : FT} {pos : Pos} (ha : PDT X a fa) : PDT X (.UnaryOp .Not a pos) (tNot fa) := by
  refine ⟨pt_w (pt_not ha.pt) fun σ H Q q => ?_, fun ρ r ρ' q => ?_⟩
  · obtain ⟨ioA, G0, H0, G, ρ, r, ρ', S, e, k⟩ := q
    obtain ⟨⟨r1, ρ1⟩, e1, e⟩ := bnd e
    cases e
    exact ⟨ioA, G0, H0, G, ρ, r1, _, S, e1, fun G1 H1 g1 S1 => k G1 H1 g1 S1⟩
  · obtain ⟨⟨r1, ρ1⟩, e1, e⟩ := bnd q
    cases e
    exact ha.kin _ _ _ e1
/-! ### arguments -/
theorem pd_nil : PDA X [] aNil := by
  refine ⟨pa_w pa_nil fun σ H Q q => ?_, fun ρ r ρ' q => by cases q; exact Kin.refl _⟩
  obtain ⟨ioA, G0, H0, G, ρ, r, ρ', S, e, k⟩ := q
  cases e
  exact k G [] H (Same.refl _) S .nil
theorem RepVs.mono {vs : List V} {rs : List Vl} (e : Same G G') (hs : ∀ (i : Nat), mtb ρ[i]? = true → mtb ρ'[i]? = true) (R : RepVs K G σ ρ vs rs) : RepVs K G' σ ρ' vs rs := by
  induction R with
  | nil => exact .nil
  | @cons v r vs rs h t ih =>
    refine .cons ?_ ih
    cases r with
    | pu d => exact dpM e _ _ h
    | sl i => exact ⟨hs i h.1, h.2⟩
    | nw d => exact h
theorem pd_cons {e : Expr} {es : List Expr} {fa : FE} {fs : FA} (ha : PD X e fa) (hs : PDA X es fs) (hx : starEach (e :: es) X.env = (false, eval e X.env) :: starEach es X.env := by rfl) : PDA X (e :: es) (aCons fa fs) := by
  refine ⟨pa_w (pa_cons ha.pe hs.pa hx) fun σ H Q q => ?_, fun ρ r ρ' q => ?_⟩
  · obtain ⟨ioA, G0, H0, G, ρ, r, ρ', S, e, k⟩ := q
    obtain ⟨⟨r1, ρ1⟩, e1, e⟩ := bnd e
    obtain ⟨⟨r2, ρ2⟩, e2, e⟩ := bnd e
    cases e
    refine ⟨ioA, G0, H0, G, ρ, r1, ρ1, S, e1, fun G1 v1 H1 g1 S1 R1 => ?_⟩
    obtain ⟨G1', g1', S1', R1'⟩ := settle S1 R1
    refine ⟨ioA, G0, H0, G1', ρ1, r2, _, S1', e2, fun G2 vs H2 g2 S2 R2 => ?_⟩
    refine k G2 (v1 :: vs) H2 ((g1.trans g1').trans g2) S2 (.cons ?_ R2)
    have hm := hs.kin _ _ _ e2
    cases r1 with
    | pu d => exact dpM g2 _ _ R1'
    | sl i => exact ⟨hm.mt i R1'.1, R1'.2⟩
    | nw d => exact dpM g2 _ _ R1'
  · obtain ⟨⟨r1, ρ1⟩, e1, e⟩ := bnd q
    obtain ⟨⟨r2, ρ2⟩, e2, e⟩ := bnd e
    cases e
    exact (ha.kin _ _ _ e1).trans (hs.kin _ _ _ e2)
end
end PL

/-! PL: the pure layer, 4: calls, displays, subscripts. -/
namespace PL
open PySem PySem.Spec PyProof.Rows L2
section
variable {X : Cx} {K : PySem.W.Frag} {ioA : Nat → Option Addr} {G0 H0 G G' H H' : Hp} {σ : L2.St} {ρ ρ' : Rho} {v : V} {r : Vl}
abbrev Tops (K : PySem.W.Frag) (G H : Hp) : List V → List D → Prop := Paired fun v d => Top K G H v d
def rNA (K : PySem.W.Frag) (m : D → Vl) (op : List D → Option D) : List V → Hp → VK → Prop := fun vs H Q => ∃ G ds r, Same G H ∧ Tops K G H vs ds ∧ op ds = some r ∧
  ∀ G' v H', Grow G H G' H' → RepN K H G' H' v (m r) → Q v H'
theorem Sg.topSl (S : Sg K ioA G0 H0 G H σ ρ) {i : Nat} (h : mtb ρ[i]? = true ∧ σ[i]? = some (some v)) {d : D} (c : cont ρ (.sl i) = some d) : Top K G H v d := S.top (r := .sl i) h c
theorem Sg.tops (S : Sg K ioA G0 H0 G H σ ρ) : ∀ {vs : List V} {rs : List Vl} {ds : List D}, RepVs K G σ ρ vs rs → conts ρ rs = some ds → Tops K G H vs ds
  | _, _, _, .nil, e => by cases e; exact .nil
  | _, _, _, .cons (b := r) h t, e => by
    obtain ⟨d, e1, e⟩ := bnd e
    obtain ⟨ds, e2, e⟩ := bnd e
    cases e
    refine .cons ?_ (S.tops t e2)
    cases r with
    | pu d => cases e1; exact .inl h
    | sl i => exact S.topSl h e1
    | nw d => exact h.elim
theorem kin_opA {m : D → Vl} {fa : FA} {op : List D → Option D} (ha : KinA fa) : KinE (fun ρ => (fa ρ).bind fun p => (conts p.2 p.1).bind fun ds => (op ds).bind fun r => some (m r, p.2)) := fun ρ r ρ' q => by
  obtain ⟨⟨r1, ρ1⟩, e1, q⟩ := bnd q
  obtain ⟨x, _, q⟩ := bnd q
  obtain ⟨z, _, q⟩ := bnd q
  cases q
  exact ha _ _ _ e1
theorem argsB {m : D → Vl} {fa : FA} {op : List D → Option D} {Q : VK} (q : tD K (fun ρ => (fa ρ).bind fun p => (conts p.2 p.1).bind fun ds => (op ds).bind fun r => some (m r, p.2)) σ H Q) :
    tDA K fa σ H (fun vs H1 => rNA K m op vs H1 Q) := by
  obtain ⟨ioA, G0, H0, G, ρ, r, ρ', S, e, k⟩ := q
  obtain ⟨⟨r1, ρ1⟩, e1, e⟩ := bnd e
  obtain ⟨ds, ed, e⟩ := bnd e
  obtain ⟨z, ez, e⟩ := bnd e
  cases e
  refine ⟨ioA, G0, H0, G, ρ, r1, _, S, e1, fun G1 vs H1 g1 S1 R1 => ⟨G1, ds, z, S1.sub, S1.tops R1 ed, ez, fun G2 v2 H2 g2 R2 => ?_⟩⟩
  obtain ⟨S2, R2'⟩ := S1.repN g2 R2
  exact k G2 v2 H2 (g1.trans g2.g) S2 R2'
variable {x : Str} {e : Expr} {es : List Expr} {fa : FA} {op : List D → Option D} {p pos : Pos} {id T : String} {m : D → Vl}
theorem pd_callB (hc : CallR X (.builtin id) (rNA X.K .pu op)) (hg : Gl X x) (hm : X.mg x = none) (hv : bootBuiltins x = some (.builtin id)) (ha : PDA X (e :: es) fa) (hn : x ≠ "__name__" := by decide) (hdb : (x == ("__debug__" : Str)) = false := by decide)
    (he : starEach (e :: es) X.env = (false, eval e X.env) :: starEach es X.env := by rfl) (hpl : (backTo pos (starEach es X.env)).any (·.1) = false := by rfl) : PD X (.Call (.Name x p) (e :: es) [] pos) (cOpA op fa) :=
  ⟨pe_w (pe_callB hc hg hm hv ha.pa hn hdb he hpl) fun _ _ _ q => argsB q, kin_opA ha.kin⟩
theorem pd_callBn (hc : CallR X (.builtin id) (rNA X.K mk op)) (hg : Gl X x) (hm : X.mg x = none) (hv : bootBuiltins x = some (.builtin id)) (ha : PDA X (e :: es) fa) (hn : x ≠ "__name__" := by decide) (hdb : (x == ("__debug__" : Str)) = false := by decide)
    (he : starEach (e :: es) X.env = (false, eval e X.env) :: starEach es X.env := by rfl) (hpl : (backTo pos (starEach es X.env)).any (·.1) = false := by rfl) : PD X (.Call (.Name x p) (e :: es) [] pos) (cOpAn op fa) :=
  ⟨pe_w (pe_callB hc hg hm hv ha.pa hn hdb he hpl) fun _ _ _ q => argsB q, kin_opA ha.kin⟩
theorem pd_callTy (hc : CallR X (.type T) (rNA X.K .pu op)) (hg : Gl X x) (hm : X.mg x = none) (hv : bootBuiltins x = some (.type T)) (ha : PDA X (e :: es) fa) (hn : x ≠ "__name__" := by decide) (hdb : (x == ("__debug__" : Str)) = false := by decide)
    (he : starEach (e :: es) X.env = (false, eval e X.env) :: starEach es X.env := by rfl) (hpl : (backTo pos (starEach es X.env)).any (·.1) = false := by rfl) : PD X (.Call (.Name x p) (e :: es) [] pos) (cOpA op fa) :=
  ⟨pe_w (pe_callTy hc hg hm hv ha.pa hn hdb he hpl) fun _ _ _ q => argsB q, kin_opA ha.kin⟩
theorem pd_callTyn (hc : CallR X (.type T) (rNA X.K mk op)) (hg : Gl X x) (hm : X.mg x = none) (hv : bootBuiltins x = some (.type T)) (ha : PDA X (e :: es) fa) (hn : x ≠ "__name__" := by decide) (hdb : (x == ("__debug__" : Str)) = false := by decide)
    (he : starEach (e :: es) X.env = (false, eval e X.env) :: starEach es X.env := by rfl) (hpl : (backTo pos (starEach es X.env)).any (·.1) = false := by rfl) : PD X (.Call (.Name x p) (e :: es) [] pos) (cOpAn op fa) :=
  ⟨pe_w (pe_callTy hc hg hm hv ha.pa hn hdb he hpl) fun _ _ _ q => argsB q, kin_opA ha.kin⟩

/-! ### displays -/
def pures : List Vl → Option (List D)
  | [] => some []
  | .pu d :: vs => (pures vs).bind fun ds => some (d :: ds)
  | _ => none
def cTup (as : FA) : FE := fun ρ => (as ρ).bind fun p => (pures p.1).bind fun ds => if ds.length ≤ lineN then some (.pu (.tuple ds), p.2) else none
def cLst (as : FA) : FE := fun ρ => (as ρ).bind fun p => (pures p.1).bind fun ds => if ds.length ≤ lineN then some (.nw (.list ds), p.2) else none
theorem dps_of {vs : List V} {rs : List Vl} {ds : List D} (h : RepVs K G σ ρ vs rs) (e : pures rs = some ds) : DpAll K G vs ds := by
  induction h generalizing ds with
  | nil => cases e; exact .nil
  | @cons v r vs rs h t ih =>
    cases r with
    | pu d =>
      obtain ⟨es, e1, e⟩ := bnd e
      cases e
      exact .cons h (ih e1)
    | sl i => cases e
    | nw d => cases e
theorem lineN_eq : lineN = sizeLine := by rw [sizeLine_eq] <;> rfl
theorem kin_tup (ha : KinA fa) : KinE (cTup fa) := fun ρ r ρ' q => by
  obtain ⟨⟨r1, ρ1⟩, e1, q⟩ := bnd q
  obtain ⟨x, _, q⟩ := bnd q
  simp only at q
  split at q <;> cases q
  exact ha _ _ _ e1
theorem kin_lst (ha : KinA fa) : KinE (cLst fa) := fun ρ r ρ' q => by
  obtain ⟨⟨r1, ρ1⟩, e1, q⟩ := bnd q
  obtain ⟨x, _, q⟩ := bnd q
  simp only at q
  split at q <;> cases q
  exact ha _ _ _ e1
theorem grow_new {p : Addr} {o : HO} (s : Same G H) (h : H p = none) : Grow G H (upd G p o) (upd H p o) := by
  have hg : G p = none := by
    cases q : G p with
    | none => rfl
    | some o' => rw [s p o' q] at h; cases h
  refine ⟨same_upd hg, same_upd h, fun b o' e => ?_, fun b o' e => ?_⟩
  · by_cases hb : b = p
    · subst hb; rw [upd_same] at e ⊢; exact e
    · rw [upd_ne hb] at e ⊢; exact s b o' e
  · by_cases hb : b = p
    · subst hb; exact .inr h
    · rw [upd_ne hb] at e; exact .inl ⟨o', e⟩
theorem grow_nw {p : Addr} {o : HO} (s : Same G H) (h : H p = none) : Grow G H G (upd H p o) :=
  ⟨Same.refl _, same_upd h, s.trans (same_upd h), fun b o' e => .inl ⟨o', e⟩⟩
theorem not_in {p : Addr} (s : Same G H) (h : H p = none) : G p = none := by
  cases q : G p with
  | none => rfl
  | some o' => rw [s p o' q] at h; cases h
theorem repN_lst {p : Addr} {xs : List V} {ds : List D} (s : Same G H) (h : H p = none) (hd : DpAll K G xs ds) : RepN K H G (upd H p (.lst xs)) (.ref p) (.nw (.list ds)) :=
  ⟨p, rfl, h, not_in s h, xs, upd_same, hd⟩
theorem dp_tup {p : Addr} {xs : List V} {ds : List D} (s : Same G H) (h : H p = none) (hd : DpAll K G xs ds) : Dp K (upd G p (.tup xs)) (.ref p) (.tuple ds) :=
  .tup (.inl (.inl upd_same)) (dpsM (same_upd (not_in s h)) _ _ hd)
theorem pd_tup {x1} (ha : PDA X es fa) : PD X (.Tuple es x1 pos) (cTup fa) := by
  refine ⟨pe_w (pe_tup ha.pa) fun σ H Q q => ?_, kin_tup ha.kin⟩
  obtain ⟨ioA, G0, H0, G, ρ, r, ρ', S, e, k⟩ := q
  obtain ⟨⟨r1, ρ1⟩, e1, e⟩ := bnd e
  obtain ⟨ds, ed, e⟩ := bnd e
  simp only at e
  by_cases hz : ds.length ≤ lineN
  case neg => rw [if_neg hz] at e; cases e
  rw [if_pos hz] at e
  cases e
  refine ⟨ioA, G0, H0, G, ρ, r1, _, S, e1, fun G1 vs H1 g1 S1 R1 => ?_⟩
  have hd := dps_of R1 ed
  refine ⟨by rw [dps_len hd, ← lineN_eq]; exact hz, fun p hp => ?_⟩
  obtain ⟨S2, R2⟩ := S1.repN (w := .pu (.tuple ds)) (grow_new (o := .tup vs) S1.sub hp) (dp_tup S1.sub hp hd)
  exact k _ _ _ (g1.trans (grow_new (o := .tup vs) S1.sub hp).g) S2 R2
theorem pd_lst (ha : PDA X es fa) : PD X (.List es pos) (cLst fa) := by
  refine ⟨pe_w (pe_lst ha.pa) fun σ H Q q => ?_, kin_lst ha.kin⟩
  obtain ⟨ioA, G0, H0, G, ρ, r, ρ', S, e, k⟩ := q
  obtain ⟨⟨r1, ρ1⟩, e1, e⟩ := bnd e
  obtain ⟨ds, ed, e⟩ := bnd e
  simp only at e
  by_cases hz : ds.length ≤ lineN
  case neg => rw [if_neg hz] at e; cases e
  rw [if_pos hz] at e
  cases e
  refine ⟨ioA, G0, H0, G, ρ, r1, _, S, e1, fun G1 vs H1 g1 S1 R1 => ?_⟩
  have hd := dps_of R1 ed
  refine ⟨by rw [dps_len hd, ← lineN_eq]; exact hz, fun p hp => ?_⟩
  obtain ⟨S2, R2⟩ := S1.repN (w := .nw (.list ds)) (grow_nw (o := .lst vs) S1.sub hp) (repN_lst S1.sub hp hd)
  exact k _ _ _ g1 S2 R2

/-! ### subscripts, slices -/
theorem pd_ix {a b : Expr} {ga gb : FE} {op : D → D → Option D} (ho : IxR X (rN X.K .pu op)) (ha : PD X a ga) (hb : PD X b gb) (hs : PlainIx b) : PD X (.Subscript a b pos) (cOp2 op ga gb) :=
  ⟨pe_w (pe_ix ho ha.pe hb.pe hs) fun _ _ _ q => two hb.kin q, kin_op2 ha.kin hb.kin⟩
abbrev FO := Rho → Option (Option Int × Rho)
def oNo : FO := fun ρ => some (none, ρ)
def oSo (a : FE) : FO := fun ρ => (a ρ).bind fun p => match p.1 with
  | .pu (.int i) => some (some i, p.2)
  | _ => none
def tDO (K : PySem.W.Frag) (f : FO) : TO := fun σ H Q => ∃ ioA G0 H0 G ρ r ρ', Sg K ioA G0 H0 G H σ ρ ∧ f ρ = some (r, ρ') ∧
  ∀ G' H', Same G G' → Sg K ioA G0 H0 G' H' σ ρ' → Q r H'
structure PDO (X : Cx) (e : Option Expr) (f : FO) : Prop where
  po : PO X e (tDO X.K f)
  kin : ∀ ρ r ρ', f ρ = some (r, ρ') → Kin ρ ρ'
theorem po_w {e : Option Expr} {t u : TO} (h : PO X e t) (k : ∀ σ H Q, u σ H Q → t σ H Q) : PO X e u := ⟨fun pins s σ H Q I q => h.run pins s σ H Q I (k σ H Q q)⟩
theorem pd_ono : PDO X none oNo := by
  refine ⟨po_w po_none fun σ H Q q => ?_, fun ρ r ρ' q => by cases q; exact Kin.refl _⟩
  obtain ⟨ioA, G0, H0, G, ρ, r, ρ', S, e, k⟩ := q
  cases e
  exact k G H (Same.refl _) S
theorem pd_oso {a : Expr} {ga : FE} (ha : PD X a ga) : PDO X (some a) (oSo ga) := by
  refine ⟨po_w (po_some ha.pe) fun σ H Q q => ?_, fun ρ r ρ' q => ?_⟩
  · obtain ⟨ioA, G0, H0, G, ρ, r, ρ', S, e, k⟩ := q
    obtain ⟨⟨r1, ρ1⟩, e1, e⟩ := bnd e
    simp only at e
    split at e <;> cases e
    refine ⟨ioA, G0, H0, G, ρ, _, _, S, e1, fun G1 v1 H1 g1 S1 R1 => ?_⟩
    cases R1
    exact ⟨_, rfl, k G1 H1 g1 S1⟩
  · obtain ⟨⟨r1, ρ1⟩, e1, e⟩ := bnd q
    simp only at e
    split at e <;> cases e
    exact ha.kin _ _ _ e1
def cSl (m : D → Vl) (op : D → Option Int → Option Int → Option D) (a : FE) (lo hi : FO) : FE := fun ρ => (a ρ).bind fun p => (lo p.2).bind fun l => (hi l.2).bind fun h =>
  (cont h.2 (stl p.1)).bind fun x => (op x l.1 h.1).bind fun r => some (m r, h.2)
def rNS (K : PySem.W.Frag) (m : D → Vl) (op : D → Option Int → Option Int → Option D) : V → Option Int → Option Int → Hp → VK → Prop := fun x lo hi H Q => ∃ G d r, Same G H ∧ Top K G H x d ∧ op d lo hi = some r ∧
  ∀ G' v H', Grow G H G' H' → RepN K H G' H' v (m r) → Q v H'
theorem pd_slice {a : Expr} {lo hi : Option Expr} {ga : FE} {gl gh : FO} {p2 : Pos} {op : D → Option Int → Option Int → Option D} (ho : SlR X (rNS X.K m op)) (ha : PD X a ga) (hl : PDO X lo gl) (hh : PDO X hi gh) :
    PD X (.Subscript a (.Slice lo hi none p2) pos) (cSl m op ga gl gh) := by
  refine ⟨pe_w (pe_slice ho ha.pe hl.po hh.po) fun σ H Q q => ?_, fun ρ r ρ' q => ?_⟩
  · obtain ⟨ioA, G0, H0, G, ρ, r, ρ', S, e, k⟩ := q
    obtain ⟨⟨r1, ρ1⟩, e1, e⟩ := bnd e
    obtain ⟨⟨r2, ρ2⟩, e2, e⟩ := bnd e
    obtain ⟨⟨r3, ρ3⟩, e3, e⟩ := bnd e
    obtain ⟨x, ex, e⟩ := bnd e
    obtain ⟨z, ez, e⟩ := bnd e
    cases e
    refine ⟨ioA, G0, H0, G, ρ, r1, ρ1, S, e1, fun G1 v1 H1 g1 S1 R1 => ?_⟩
    obtain ⟨G1', g1', S1', R1'⟩ := settle S1 R1
    refine ⟨ioA, G0, H0, G1', ρ1, r2, ρ2, S1', e2, fun G2 H2 g2 S2 => ?_⟩
    refine ⟨ioA, G0, H0, G2, ρ2, r3, ρ3, S2, e3, fun G3 H3 g3 S3 => ?_⟩
    have R1'' : RepV X.K H0 G3 H3 σ ρ3 v1 (stl r1) := RepV.mono (g2.trans g3) (fun i hi => (hh.kin _ _ _ e3).mt i ((hl.kin _ _ _ e2).mt i hi)) R1'
    refine ⟨G3, x, z, S3.sub, S3.top R1'' ex, ez, fun G4 v4 H4 g4 R4 => ?_⟩
    obtain ⟨S4, R4'⟩ := S3.repN g4 R4
    exact k G4 v4 H4 ((g1.trans g1').trans ((g2.trans g3).trans g4.g)) S4 R4'
  · obtain ⟨⟨r1, ρ1⟩, e1, e⟩ := bnd q
    obtain ⟨⟨r2, ρ2⟩, e2, e⟩ := bnd e
    obtain ⟨⟨r3, ρ3⟩, e3, e⟩ := bnd e
    obtain ⟨x, ex, e⟩ := bnd e
    obtain ⟨z, ez, e⟩ := bnd e
    cases e
    exact ((ha.kin _ _ _ e1).trans (hl.kin _ _ _ e2)).trans (hh.kin _ _ _ e3)

/-! ### methods of built-in types: the receiver, the arguments -/
def tyD : String → D → Bool
  | T, .str _ => T == "str"
  | T, .list _ => T == "list"
  | _, _ => false
def cM (T : String) (m : D → Vl) (op : D → List D → Option D) (o : FE) (as : FA) : FE := fun ρ => (o ρ).bind fun p => (cont p.2 (stl p.1)).bind fun x0 => if tyD T x0 = true then (as p.2).bind fun q =>
  (cont q.2 (stl p.1)).bind fun x => (conts q.2 q.1).bind fun ds => (op x ds).bind fun r => some (m r, q.2) else none
def rNM (K : PySem.W.Frag) (m : D → Vl) (op : D → List D → Option D) : V → List V → Hp → VK → Prop := fun x xs H Q => ∃ G d ds r, Same G H ∧ Top K G H x d ∧ Tops K G H xs ds ∧ op d ds = some r ∧
  ∀ G' v H', Grow G H G' H' → RepN K H G' H' v (m r) → Q v H'
theorem Top.tyV (h : Top K G H v d) (s : Same G H) {T : String} (e : tyD T d = true) : L2.tyV K T v H := by
  have q := h.dp s
  cases d with
  | str x =>
    cases q
    have e' : (T == "str") = true := e
    exact eq_of_beq e'
  | list ds =>
    cases q with
    | lst hs _ =>
      have e' : (T == "list") = true := e
      exact .inl ⟨eq_of_beq e', _, hs⟩
  | _ => cases e
theorem kin_m {o : FE} {op : D → List D → Option D} (ho : KinE o) (ha : KinA fa) : KinE (cM T m op o fa) := fun ρ r ρ' q => by
  obtain ⟨⟨r1, ρ1⟩, e1, e⟩ := bnd q
  obtain ⟨x0, ex0, e⟩ := bnd e
  simp only at e
  split at e
  · obtain ⟨⟨r2, ρ2⟩, e2, e⟩ := bnd e
    obtain ⟨x, ex, e⟩ := bnd e
    obtain ⟨ds, ed, e⟩ := bnd e
    obtain ⟨z, ez, e⟩ := bnd e
    cases e
    exact (ho _ _ _ e1).trans (ha _ _ _ e2)
  · cases e
theorem meth {o : FE} {op : D → List D → Option D} {Q : VK} (ha : KinA fa) (q : tD K (cM T m op o fa) σ H Q) : tBM K T (rNM K m op) (tD K o) (tDA K fa) σ H Q := by
  obtain ⟨ioA, G0, H0, G, ρ, r, ρ', S, e, k⟩ := q
  obtain ⟨⟨r1, ρ1⟩, e1, e⟩ := bnd e
  obtain ⟨x0, ex0, e⟩ := bnd e
  simp only at e
  split at e
  · rename_i ht
    obtain ⟨⟨r2, ρ2⟩, e2, e⟩ := bnd e
    obtain ⟨x, ex, e⟩ := bnd e
    obtain ⟨ds, ed, e⟩ := bnd e
    obtain ⟨z, ez, e⟩ := bnd e
    cases e
    refine ⟨ioA, G0, H0, G, ρ, r1, ρ1, S, e1, fun G1 v1 H1 g1 S1 R1 => ?_⟩
    obtain ⟨G1', g1', S1', R1'⟩ := settle S1 R1
    refine ⟨(S1'.top R1' ex0).tyV S1'.sub ht, ?_⟩
    refine ⟨ioA, G0, H0, G1', ρ1, r2, ρ2, S1', e2, fun G2 vs H2 g2 S2 R2 => ?_⟩
    have R1'' : RepV K H0 G2 H2 σ ρ2 v1 (stl r1) := RepV.mono g2 (fun i hi => (ha _ _ _ e2).mt i hi) R1'
    refine ⟨G2, x, ds, z, S2.sub, S2.top R1'' ex, S2.tops R2 ed, ez, fun G3 v3 H3 g3 R3 => ?_⟩
    obtain ⟨S3, R3'⟩ := S2.repN g3 R3
    exact k G3 v3 H3 ((g1.trans g1').trans (g2.trans g3.g)) S3 R3'
  · cases e
theorem pd_bm {o : Expr} {go : FE} {name : Str} {apos cpos : Pos} {op : D → List D → Option D} (hm : MtR X id (rNM X.K m op)) (pa : PlainAttrs T) (slot : Slot T name id) (hty : typeOf (.builtin id) = pure (.type "method_descriptor")) (ho : PD X o go) (ha : PDA X (e :: es) fa)
    (hbase : attributeBase o name X.env (eval o X.env) = eval o X.env := by rfl)
    (hfew : ((backTo cpos (starEach (e :: es) X.env)).all (fun x => !x.1) && (backToKw cpos (keywordEach [] X.env)).all (fun x => x.1.isSome)
      && decide ((e :: es).length + ([] : List Keyword).length + (if ([] : List Keyword).isEmpty then 0 else 1) < 30)) = true := by rfl)
    (hline : (apos.endLine == cpos.line) = true := by rfl) (hs : starEach (e :: es) X.env = (false, eval e X.env) :: starEach es X.env := by rfl) (hplain : (backTo cpos (starEach es X.env)).any (·.1) = false := by rfl) :
    PD X (.Call (.Attribute o name apos) (e :: es) [] cpos) (cM T m op go fa) :=
  ⟨pe_w (pe_bm pa slot hty hm ho.pe ha.pa hbase hfew hline hs hplain) fun _ _ _ q => meth ha.kin q, kin_m ho.kin ha.kin⟩
theorem pd_bm0 {o : Expr} {go : FE} {name : Str} {apos cpos : Pos} {op : D → List D → Option D} (hm : MtR X id (rNM X.K m op)) (pa : PlainAttrs T) (slot : Slot T name id) (hty : typeOf (.builtin id) = pure (.type "method_descriptor")) (ho : PD X o go)
    (hbase : attributeBase o name X.env (eval o X.env) = eval o X.env := by rfl) (hline : (apos.endLine == cpos.line) = true := by rfl) :
    PD X (.Call (.Attribute o name apos) [] [] cpos) (cM T m op go aNil) := by
  refine ⟨pe_w (pe_bm0 pa slot hty hm ho.pe hbase hline) fun σ H Q q => ?_, kin_m ho.kin fun ρ r ρ' q => by cases q; exact Kin.refl _⟩
  obtain ⟨ioA, G0, H0, G, ρ, r, ρ', S, e, k⟩ := q
  obtain ⟨⟨r1, ρ1⟩, e1, e⟩ := bnd e
  obtain ⟨x0, ex0, e⟩ := bnd e
  simp only at e
  split at e
  · rename_i ht
    obtain ⟨⟨r2, ρ2⟩, e2, e⟩ := bnd e
    cases e2
    obtain ⟨x, ex, e⟩ := bnd e
    obtain ⟨ds, ed, e⟩ := bnd e
    cases ed
    obtain ⟨z, ez, e⟩ := bnd e
    cases e
    refine ⟨ioA, G0, H0, G, ρ, r1, ρ1, S, e1, fun G1 v1 H1 g1 S1 R1 => ?_⟩
    obtain ⟨G1', g1', S1', R1'⟩ := settle S1 R1
    refine ⟨(S1'.top R1' ex0).tyV S1'.sub ht, G1', x, [], z, S1'.sub, S1'.top R1' ex, .nil, ez, fun G3 v3 H3 g3 R3 => ?_⟩
    obtain ⟨S3, R3'⟩ := S1'.repN g3 R3
    exact k G3 v3 H3 ((g1.trans g1').trans g3.g) S3 R3'
  · cases e
end
end PL

/-! PL: the pure layer, 5: a def's promise, a call of it, a def by its body. -/
namespace PL
open PySem PySem.Spec PyProof.Rows L2
section
variable {X : Cx} {K : PySem.W.Frag} {ioA : Nat → Option Addr} {G0 H0 G G' H H' : Hp} {σ : L2.St} {ρ ρ' : Rho} {v : V} {r : Vl}

/-- the arguments as they stand -/
def ArsOk (K : PySem.W.Frag) (G H : Hp) : List V → List Ar → Prop := Paired fun v a => match a with
  | .v d => Dp K G v d
  | .m d => ∃ a, v = .ref a ∧ G a = none ∧ Own K G H a d
/-- the lent objects -/
def mA : List V → List Ar → List Addr
  | .ref a :: vs, .m _ :: as => a :: mA vs as
  | _ :: vs, _ :: as => mA vs as
  | _, _ => []
/-- what a def promises that does as m does -/
def spM (K : PySem.W.Frag) (n : Nat) (m : Mir) : Sp := fun vs H Q _ => vs.length = n ∧ ∃ G ars r outs, Same G H ∧ ArsOk K G H vs ars ∧ (mA vs ars).Nodup ∧ m ars = some (r, outs) ∧
  ∀ G' v H', Same G G' → Same G' H' → (∀ b o, G' b = some o → (∃ o', G b = some o') ∨ H b = none) → (∀ b o, H b = some o → b ∉ mA vs ars → H' b = some o) → (∀ a ∈ mA vs ars, G' a = none) →
    Paired (fun a d => Own K G' H' a d) (mA vs ars) outs → RepN K H G' H' v r → Q v H'

/-! ### what a call does to the caller's slots -/
theorem wb_spec : ∀ {is : List Nat} {ds : List D} {ρ ρ' : Rho}, wb is ds ρ = some ρ' → is.Nodup →
    (∀ i, i ∉ is → ρ'[i]? = ρ[i]?) ∧ Paired (fun (i : Nat) d => (∃ d0, ρ[i]? = some (.own d0) ∧ ρ'[i]? = some (.own d)) ∨ (∃ d0, ρ[i]? = some (.io d0) ∧ ρ'[i]? = some (.io d))) is ds ∧ ρ'.length = ρ.length
  | [], [], ρ, ρ', h, _ => by cases h; exact ⟨fun _ _ => rfl, .nil, rfl⟩
  | [], _ :: _, _, _, h, _ => by cases h
  | _ :: _, [], _, _, h, _ => by cases h
  | i :: is, d :: ds, ρ, ρ', h, nd => by
    obtain ⟨ρ1, e1, h⟩ := bnd (show (putS i d ρ).bind (fun ρ' => wb is ds ρ') = some ρ' from h)
    obtain ⟨hi, nd'⟩ := List.nodup_cons.mp nd
    obtain ⟨q1, q2, q3⟩ := wb_spec h nd'
    have key : ρ1.length = ρ.length ∧ (∀ j, j ≠ i → ρ1[j]? = ρ[j]?) ∧ ((∃ d0, ρ[i]? = some (.own d0) ∧ ρ1[i]? = some (.own d)) ∨ (∃ d0, ρ[i]? = some (.io d0) ∧ ρ1[i]? = some (.io d))) := by
      unfold putS at e1
      split at e1
      · rename_i d0 e0
        cases e1
        have hlt := (List.getElem?_eq_some_iff.mp e0).1
        exact ⟨by simp, fun j hj => List.getElem?_set_ne (Ne.symm hj), .inl ⟨d0, e0, List.getElem?_set_self hlt⟩⟩
      · rename_i d0 e0
        cases e1
        have hlt := (List.getElem?_eq_some_iff.mp e0).1
        exact ⟨by simp, fun j hj => List.getElem?_set_ne (Ne.symm hj), .inr ⟨d0, e0, List.getElem?_set_self hlt⟩⟩
      · cases e1
    obtain ⟨k1, k2, k3⟩ := key
    refine ⟨fun j hj => ?_, .cons ?_ ?_, q3.trans k1⟩
    · have h1 : j ≠ i := fun e => hj (by rw [e]; exact List.mem_cons_self)
      have h2 : j ∉ is := fun e => hj (List.mem_cons_of_mem _ e)
      rw [q1 j h2, k2 j h1]
    · rw [q1 i hi]; exact k3
    · have tr : ∀ {l : List Nat} {es : List D}, (∀ j ∈ l, j ≠ i) → Paired (fun (i : Nat) d => (∃ d0, ρ1[i]? = some (.own d0) ∧ ρ'[i]? = some (.own d)) ∨ (∃ d0, ρ1[i]? = some (.io d0) ∧ ρ'[i]? = some (.io d))) l es →
          Paired (fun (i : Nat) d => (∃ d0, ρ[i]? = some (.own d0) ∧ ρ'[i]? = some (.own d)) ∨ (∃ d0, ρ[i]? = some (.io d0) ∧ ρ'[i]? = some (.io d))) l es := by
        intro l es hl hp
        induction hp with
        | nil => exact .nil
        | @cons a b l es h t ih =>
          refine .cons ?_ (ih fun j hj => hl j (List.mem_cons_of_mem _ hj))
          rw [k2 a (hl a List.mem_cons_self)] at h
          exact h
      exact tr (fun j hj e => hi (by rw [← e]; exact hj)) q2
theorem paired_mem {α β : Type} {F : α → β → Prop} : ∀ {as : List α} {bs : List β} {a : α}, Paired F as bs → a ∈ as → ∃ b, b ∈ bs ∧ F a b
  | _, _, _, .nil, h => by cases h
  | _, _, a, .cons r t, h => by
    rcases List.mem_cons.mp h with e | h
    · subst e; exact ⟨_, List.mem_cons_self, r⟩
    · obtain ⟨b, h1, h2⟩ := paired_mem t h
      exact ⟨b, List.mem_cons_of_mem _ h1, h2⟩
theorem paired_mem' {α β : Type} {F : α → β → Prop} : ∀ {as : List α} {bs : List β} {b : β}, Paired F as bs → b ∈ bs → ∃ a, a ∈ as ∧ F a b
  | _, _, _, .nil, h => by cases h
  | _, _, b, .cons r t, h => by
    rcases List.mem_cons.mp h with e | h
    · subst e; exact ⟨_, List.mem_cons_self, r⟩
    · obtain ⟨a, h1, h2⟩ := paired_mem' t h
      exact ⟨a, List.mem_cons_of_mem _ h1, h2⟩
theorem paired3 {α β γ : Type} {F : α → β → Prop} {P : β → γ → Prop} {R : α → γ → Prop} : ∀ {as : List α} {bs : List β} {cs : List γ}, Paired F as bs → Paired P bs cs → Paired R as cs → ∀ a ∈ as, ∃ b c, F a b ∧ P b c ∧ R a c
  | _, _, _, .nil, .nil, .nil, a, h => by cases h
  | _, _, _, .cons r t, .cons r' t', .cons r'' t'', a, h => by
    rcases List.mem_cons.mp h with e | h
    · subst e; exact ⟨_, _, r, r', r''⟩
    · exact paired3 t t' t'' a h
/-- the arguments of a call -/
theorem ars_of (S : Sg K ioA G0 H0 G H σ ρ) : ∀ {vs : List V} {rs : List Vl} {ars : List Ar}, RepVs K G σ ρ vs rs → toArs ρ rs = some ars →
    ArsOk K G H vs ars ∧ Paired (fun (i : Nat) a => σ[i]? = some (some (V.ref a)) ∧ mtb ρ[i]? = true) (slotsOf rs) (mA vs ars)
  | _, _, _, .nil, e => by cases e; exact ⟨.nil, .nil⟩
  | v :: vs, r :: rs, _, .cons h t, e => by
    obtain ⟨a, e1, e⟩ := bnd (show (toAr ρ r).bind (fun a => (toArs ρ rs).bind fun as => some (a :: as)) = _ from e)
    obtain ⟨as, e2, e⟩ := bnd e
    cases e
    obtain ⟨k1, k2⟩ := ars_of S t e2
    cases r with
    | pu d =>
      cases e1
      refine ⟨.cons h k1, ?_⟩
      have e3 : mA (v :: vs) (.v d :: as) = mA vs as := by cases v <;> rfl
      rw [e3]
      exact k2
    | nw d => exact h.elim
    | sl i =>
      obtain ⟨b, d, h1, h2, h3, h4⟩ := S.mt h.1
      have ea : a = .m d := by
        unfold toAr at e1
        unfold cont at h4
        cases z : ρ[i]? with
        | none => simp only [z] at h4; cases h4
        | some s =>
          simp only [z] at h4 e1
          cases s <;> first | (cases h4; cases e1; rfl) | cases h4
      subst ea
      have ev := h.2.symm.trans h1
      cases ev
      exact ⟨.cons ⟨b, rfl, h2, h3⟩ k1, .cons ⟨h1, h.1⟩ k2⟩
theorem mA_nodup (S : Sg K ioA G0 H0 G H σ ρ) : ∀ {is : List Nat} {as : List Addr}, Paired (fun (i : Nat) a => σ[i]? = some (some (V.ref a)) ∧ mtb ρ[i]? = true) is as → is.Nodup → as.Nodup
  | _, _, .nil, _ => List.nodup_nil
  | i :: is, a :: as, .cons h t, nd => by
    obtain ⟨hi, nd'⟩ := List.nodup_cons.mp nd
    refine List.nodup_cons.mpr ⟨fun hm => ?_, mA_nodup S t nd'⟩
    obtain ⟨j, hj, h1, h2⟩ := paired_mem' t hm
    have e := S.apart i j a h.2 h2 h.1 h1
    exact hi (by rw [e]; exact hj)
theorem Sg.called {is : List Nat} {as : List Addr} {outs : List D} (S : Sg K ioA G0 H0 G H σ ρ) (hp : Paired (fun (i : Nat) a => σ[i]? = some (some (V.ref a)) ∧ mtb ρ[i]? = true) is as) (nd : is.Nodup) (hw : wb is outs ρ = some ρ')
    (g1 : Same G G') (g2 : Same G' H') (g3 : ∀ b o, G' b = some o → (∃ o', G b = some o') ∨ H b = none) (g4 : ∀ b o, H b = some o → b ∉ as → H' b = some o) (g5 : ∀ a ∈ as, G' a = none)
    (g6 : Paired (fun a d => Own K G' H' a d) as outs) : Sg K ioA G0 H0 G' H' σ ρ' ∧ Kin ρ ρ' := by
  obtain ⟨w1, w2, w3⟩ := wb_spec hw nd
  have tr := paired3 hp g6 w2
  have inn : ∀ (i : Nat), i ∈ is → ∃ a d, σ[i]? = some (some (V.ref a)) ∧ a ∈ as ∧ Own K G' H' a d ∧ ((∃ d0, ρ[i]? = some (.own d0) ∧ ρ'[i]? = some (.own d)) ∨ (∃ d0, ρ[i]? = some (.io d0) ∧ ρ'[i]? = some (.io d))) := fun i hi => by
    obtain ⟨a, d, h1, h2, h3⟩ := tr i hi
    obtain ⟨a', h4, h5⟩ := paired_mem hp hi
    have e := h1.1.symm.trans h5.1
    cases e
    exact ⟨a, d, h1.1, h4, h2, h3⟩
  have out : ∀ (i : Nat) (a : Addr), i ∉ is → mtb ρ[i]? = true → σ[i]? = some (some (V.ref a)) → a ∉ as := fun i a hi hm hs ha => by
    obtain ⟨j, hj, h1, h2⟩ := paired_mem' hp ha
    exact hi (by rw [S.apart i j a hm h2 hs h1]; exact hj)
  have kin : Kin ρ ρ' := fun i => by
    by_cases hi : i ∈ is
    · obtain ⟨a, d, h1, h2, h3, h4⟩ := inn i hi
      rcases h4 with ⟨d0, e1, e2⟩ | ⟨d0, e1, e2⟩
      · rw [e1, e2]; exact ⟨rfl, fun z => by cases z⟩
      · rw [e1, e2]; exact ⟨rfl, fun z => by cases z⟩
    · rw [w1 i hi]; exact ⟨rfl, fun _ => rfl⟩
  refine ⟨⟨S.len.trans w3.symm, g2, S.g0.trans g1, fun b o e => ?_, fun b o e k => ?_, fun i b e => ?_, fun i d e => ?_, fun i d e => ?_, fun i d e => ?_, fun i j a h1 h2 h3 h4 => S.apart i j a ((kin i).1.symm.trans h1) ((kin j).1.symm.trans h2) h3 h4⟩, kin⟩
  · rcases g3 b o e with ⟨o', q⟩ | q
    · exact S.new b o' q
    · exact .inr (S.fresh q)
  · refine g4 b o (S.fr b o e k) fun hb => ?_
    obtain ⟨j, hj, h1, h2⟩ := paired_mem' hp hb
    cases z : ρ[j]? with
    | none => rw [z] at h2; cases h2
    | some s =>
      cases s with
      | own d =>
        obtain ⟨a, q1, q2, q3, q4⟩ := S.own j d z
        have e2 := h1.symm.trans q1
        cases e2
        rw [e] at q3; cases q3
      | io d =>
        obtain ⟨a, q0, q1, q4⟩ := S.io j d z
        have e2 := h1.symm.trans q1
        cases e2
        exact k j q0
      | _ => rw [z] at h2; cases h2
  · obtain ⟨⟨o, q1⟩, q2, q3⟩ := S.ioh i b e
    refine ⟨?_, ?_, q3⟩
    · by_cases hb : b ∈ as
      · obtain ⟨d, _, h2⟩ := paired_mem g6 hb
        exact h2.there
      · exact ⟨o, g4 b o q1 hb⟩
    · cases z : G' b with
      | none => rfl
      | some o' =>
        rcases g3 b o' z with ⟨_, z2⟩ | z2
        · rw [q2] at z2; cases z2
        · rw [q1] at z2; cases z2
  · have hi : i ∉ is := fun hi => by
      obtain ⟨a, d', _, _, _, h4⟩ := inn i hi
      rcases h4 with ⟨d0, _, e2⟩ | ⟨d0, _, e2⟩ <;> (rw [e2] at e; cases e)
    rw [w1 i hi] at e
    obtain ⟨v, q1, q2⟩ := S.pu i d e
    exact ⟨v, q1, dpM g1 _ _ q2⟩
  · by_cases hi : i ∈ is
    · obtain ⟨a, d', h1, h2, h3, h4⟩ := inn i hi
      rcases h4 with ⟨d0, e1, e2⟩ | ⟨d0, e1, e2⟩
      · rw [e2] at e
        cases e
        obtain ⟨a', q1, q2, q3, q4⟩ := S.own i d0 e1
        have e3 := h1.symm.trans q1
        cases e3
        exact ⟨a, h1, g5 a h2, q3, h3⟩
      · rw [e2] at e; cases e
    · rw [w1 i hi] at e
      obtain ⟨a, q1, q2, q3, q4⟩ := S.own i d e
      have ha := out i a hi (by rw [e]; rfl) q1
      obtain ⟨o, q5⟩ := q4.there
      refine ⟨a, q1, ?_, q3, q4.keep g1 fun o z => g4 a o z ha⟩
      cases z : G' a with
      | none => rfl
      | some o' =>
        rcases g3 a o' z with ⟨_, z2⟩ | z2
        · rw [q2] at z2; cases z2
        · rw [q5] at z2; cases z2
  · by_cases hi : i ∈ is
    · obtain ⟨a, d', h1, h2, h3, h4⟩ := inn i hi
      rcases h4 with ⟨d0, e1, e2⟩ | ⟨d0, e1, e2⟩
      · rw [e2] at e; cases e
      · rw [e2] at e
        cases e
        obtain ⟨a', q0, q1, q4⟩ := S.io i d0 e1
        have e3 := h1.symm.trans q1
        cases e3
        exact ⟨a, q0, h1, h3⟩
    · rw [w1 i hi] at e
      obtain ⟨a, q0, q1, q4⟩ := S.io i d e
      have ha := out i a hi (by rw [e]; rfl) q1
      exact ⟨a, q0, q1, q4.keep g1 fun o z => g4 a o z ha⟩
theorem call_ok {n : Nat} {m : Mir} {fa : FA} {Q : VK} {E : XK} (hn : ∀ ρ r ρ', fa ρ = some (r, ρ') → r.length = n) (q : tD K (cCall m fa) σ H Q) : tCall (spM K n m) [] E (tDA K fa) σ H Q := by
  obtain ⟨ioA, G0, H0, G, ρ, r, ρ', S, e, k⟩ := q
  obtain ⟨⟨r1, ρ1⟩, e1, e⟩ := bnd e
  obtain ⟨ars, ea, e⟩ := bnd e
  simp only at e
  split at e
  · rename_i nd
    obtain ⟨⟨r2, outs⟩, em, e⟩ := bnd e
    obtain ⟨ρ2, ew, e⟩ := bnd e
    cases e
    refine ⟨ioA, G0, H0, G, ρ, r1, ρ1, S, e1, fun G1 vs H1 g1 S1 R1 => ?_⟩
    obtain ⟨k1, k2⟩ := ars_of S1 R1 ea
    rw [List.append_nil]
    refine ⟨(Paired.length R1).trans (hn _ _ _ e1), G1, ars, r2, outs, S1.sub, k1, mA_nodup S1 k2 nd, em, fun G2 v H2 q1 q2 q3 q4 q5 q6 q7 => ?_⟩
    obtain ⟨S2, kin⟩ := S1.called k2 nd ew q1 q2 q3 q4 q5 q6
    refine k G2 v H2 (g1.trans q1) S2 ?_
    cases r2 with
    | pu d => exact q7
    | sl i => exact q7.elim
    | nw d =>
      obtain ⟨a, rfl, h1, h2, h3⟩ := q7
      refine ⟨a, rfl, h2, S1.fresh h1, h3, fun i hi e => ?_⟩
      obtain ⟨b, d', z1, _, z3, _⟩ := S1.mt ((kin i).1.symm.trans hi)
      obtain ⟨o, z4⟩ := z3.there
      have e2 := e.symm.trans z1
      cases e2
      rw [h1] at z4; cases z4
  · cases e
theorem kin_call {m : Mir} {fa : FA} (ha : KinA fa) : KinE (cCall m fa) := fun ρ r ρ' q => by
  obtain ⟨⟨r1, ρ1⟩, e1, e⟩ := bnd q
  obtain ⟨ars, ea, e⟩ := bnd e
  simp only at e
  split at e
  · rename_i nd
    obtain ⟨⟨r2, outs⟩, em, e⟩ := bnd e
    obtain ⟨ρ2, ew, e⟩ := bnd e
    cases e
    refine (ha _ _ _ e1).trans fun i => ?_
    obtain ⟨w1, w2, w3⟩ := wb_spec ew nd
    by_cases hi : i ∈ slotsOf r1
    · obtain ⟨d, _, h4⟩ := paired_mem w2 hi
      rcases h4 with ⟨d0, e1, e2⟩ | ⟨d0, e1, e2⟩
      · rw [e1, e2]; exact ⟨rfl, fun z => by cases z⟩
      · rw [e1, e2]; exact ⟨rfl, fun z => by cases z⟩
    · rw [w1 i hi]; exact ⟨rfl, fun _ => rfl⟩
  · cases e
/-- how many arguments -/
def LenA (n : Nat) (fa : FA) : Prop := ∀ ρ r ρ', fa ρ = some (r, ρ') → r.length = n
theorem len_nil : LenA 0 aNil := fun ρ r ρ' q => by cases q; rfl
theorem len_cons {n : Nat} {a : FE} {fa : FA} (h : LenA n fa) : LenA (n + 1) (aCons a fa) := fun ρ r ρ' q => by
  obtain ⟨⟨r1, ρ1⟩, e1, e⟩ := bnd q
  obtain ⟨⟨r2, ρ2⟩, e2, e⟩ := bnd e
  cases e
  exact congrArg (· + 1) (h _ _ _ e2)
variable {CX : CXT} {k n : Nat} {f : Addr} {fd : FuncData} {ps : List Str} {x : Str} {p pos : Pos} {e : Expr} {es : List Expr} {fa : FA} {m : Mir}
theorem pd_call (F : FnOk X.prog X.w X.K X.mg X.base CX0 k f fd ps (spM X.K n m)) (hr : Room k X.A) (hg : Gl X x) (hm : X.mg x = some (.ref f)) (hk : PySem.W.keepIn X.K (.ref f) = true) (hb : Binds X.K fd ps []) (hl : LenA n fa)
    (ha : PDA X (e :: es) fa) (hdb : (x == ("__debug__" : Str)) = false := by decide) (he : starEach (e :: es) X.env = (false, eval e X.env) :: starEach es X.env := by rfl) (hpl : (backTo pos (starEach es X.env)).any (·.1) = false := by rfl) :
    PD X (.Call (.Name x p) (e :: es) [] pos) (cCall m fa) :=
  ⟨pe_w (pe_call F hr hg hm hk hb .nil pass0 ha.pa hdb he hpl) fun _ _ _ q => call_ok hl q, kin_call ha.kin⟩
theorem pd_call0 (F : FnOk X.prog X.w X.K X.mg X.base CX0 k f fd ps (spM X.K 0 m)) (hr : Room k X.A) (hg : Gl X x) (hm : X.mg x = some (.ref f)) (hk : PySem.W.keepIn X.K (.ref f) = true) (hb : Binds X.K fd ps [])
    (hdb : (x == ("__debug__" : Str)) = false := by decide) : PD X (.Call (.Name x p) [] [] pos) (cCall m aNil) := by
  refine ⟨pe_w (pe_call0 F hr hg hm hk hb .nil pass0 hdb) fun σ H Q q => ?_, kin_call fun ρ r ρ' q => by cases q; exact Kin.refl _⟩
  obtain ⟨ioA, G0, H0, G, ρ, r, ρ', S, e, k⟩ := call_ok (E := fun _ _ _ => False) len_nil q
  cases e
  exact k G [] H (Same.refl _) S .nil
end
end PL

/-! PL: the pure layer, 6: targets, what is walked, comprehensions, statements, a def by its body. -/
namespace PL
open PySem PySem.Spec PyProof.Rows L2
section
variable {X : Cx} {K : PySem.W.Frag} {ioA : Nat → Option Addr} {G0 H0 G G' H H' : Hp} {σ σ' : L2.St} {ρ ρ' : Rho} {v : V} {r : Vl}

/-! ### slots stored -/
/-- a slot that is not lent takes a plain value, or nothing -/
theorem Sg.set (S : Sg K ioA G0 H0 G H σ ρ) {i : Nat} {s : Sl} {u : Option V} (hi : ∀ d, ρ[i]? ≠ some (.io d)) (hs : s = .non ∨ ∃ d v, s = .pu d ∧ u = some v ∧ Dp K G v d) : Sg K ioA G0 H0 G H (σ.set i u) (ρ.set i s) := by
  have nm : mtb (some s) = false := by
    rcases hs with e | ⟨d, v, e, _⟩ <;> (rw [e]; rfl)
  have at_ : ∀ (j : Nat), j ≠ i → (ρ.set i s)[j]? = ρ[j]? := fun j hj => List.getElem?_set_ne (Ne.symm hj)
  have at2 : ∀ (j : Nat), j ≠ i → (σ.set i u)[j]? = σ[j]? := fun j hj => List.getElem?_set_ne (Ne.symm hj)
  have own : ∀ (j : Nat) t, (ρ.set i s)[j]? = some t → (j ≠ i ∧ ρ[j]? = some t) ∨ (j = i ∧ t = s ∧ i < ρ.length) := fun j t e => by
    by_cases hj : j = i
    · subst hj
      by_cases hl : j < ρ.length
      · rw [List.getElem?_set_self hl] at e; cases e; exact .inr ⟨rfl, rfl, hl⟩
      · rw [List.getElem?_eq_none (by simpa using hl)] at e; cases e
    · rw [at_ j hj] at e; exact .inl ⟨hj, e⟩
  have mt : ∀ (j : Nat), mtb (ρ.set i s)[j]? = true → j ≠ i ∧ mtb ρ[j]? = true := fun j e => by
    cases z : (ρ.set i s)[j]? with
    | none => rw [z] at e; cases e
    | some t =>
      rw [z] at e
      rcases own j t z with ⟨h1, h2⟩ | ⟨h1, h2, _⟩
      · rw [h2]; exact ⟨h1, e⟩
      · rw [h2, nm] at e; cases e
  refine ⟨by rw [List.length_set, List.length_set]; exact S.len, S.sub, S.g0, S.new, S.fr, S.ioh, fun j d e => ?_, fun j d e => ?_, fun j d e => ?_, fun j l a h1 h2 h3 h4 => ?_⟩
  · rcases own j _ e with ⟨h1, h2⟩ | ⟨h1, h2, hl⟩
    · rw [at2 j h1]; exact S.pu j d h2
    · rcases hs with q | ⟨d', v, q, q2, q3⟩
      · rw [q] at h2; cases h2
      · rw [q] at h2; cases h2
        subst h1
        exact ⟨v, by rw [List.getElem?_set_self (by rw [S.len]; exact hl), q2], q3⟩
  · rcases own j _ e with ⟨h1, h2⟩ | ⟨h1, h2, hl⟩
    · rw [at2 j h1]; exact S.own j d h2
    · rw [← h2] at nm; cases nm
  · rcases own j _ e with ⟨h1, h2⟩ | ⟨h1, h2, hl⟩
    · rw [at2 j h1]; exact S.io j d h2
    · rw [← h2] at nm; cases nm
  · obtain ⟨j1, j2⟩ := mt j h1
    obtain ⟨l1, l2⟩ := mt l h2
    rw [at2 j j1] at h3
    rw [at2 l l1] at h4
    exact S.apart j l a j2 l2 h3 h4
/-- .. takes a new object as its own -/
theorem Sg.setOwn (S : Sg K ioA G0 H0 G H σ ρ) {i : Nat} {d : D} {a : Addr} (hi : ∀ d, ρ[i]? ≠ some (.io d)) (h1 : G a = none) (h2 : H0 a = none) (h3 : Own K G H a d) (h4 : ∀ (j : Nat), mtb ρ[j]? = true → σ[j]? ≠ some (some (V.ref a))) :
    Sg K ioA G0 H0 G H (σ.set i (some (.ref a))) (ρ.set i (.own d)) := by
  have at_ : ∀ (j : Nat), j ≠ i → (ρ.set i (.own d))[j]? = ρ[j]? := fun j hj => List.getElem?_set_ne (Ne.symm hj)
  have at2 : ∀ (j : Nat), j ≠ i → (σ.set i (some (.ref a)))[j]? = σ[j]? := fun j hj => List.getElem?_set_ne (Ne.symm hj)
  have own : ∀ (j : Nat) t, (ρ.set i (.own d))[j]? = some t → (j ≠ i ∧ ρ[j]? = some t) ∨ (j = i ∧ t = .own d ∧ i < ρ.length) := fun j t e => by
    by_cases hj : j = i
    · subst hj
      by_cases hl : j < ρ.length
      · rw [List.getElem?_set_self hl] at e; cases e; exact .inr ⟨rfl, rfl, hl⟩
      · rw [List.getElem?_eq_none (by simpa using hl)] at e; cases e
    · rw [at_ j hj] at e; exact .inl ⟨hj, e⟩
  have sf : i < ρ.length → (σ.set i (some (.ref a)))[i]? = some (some (.ref a)) := fun hl => List.getElem?_set_self (by rw [S.len]; exact hl)
  refine ⟨by rw [List.length_set, List.length_set]; exact S.len, S.sub, S.g0, S.new, S.fr, S.ioh, fun j e q => ?_, fun j e q => ?_, fun j e q => ?_, fun j l b q1 q2 q3 q4 => ?_⟩
  · rcases own j _ q with ⟨z1, z2⟩ | ⟨z1, z2, hl⟩
    · rw [at2 j z1]; exact S.pu j e z2
    · cases z2
  · rcases own j _ q with ⟨z1, z2⟩ | ⟨z1, z2, hl⟩
    · rw [at2 j z1]; exact S.own j e z2
    · cases z2
      subst z1
      exact ⟨a, sf hl, h1, h2, h3⟩
  · rcases own j _ q with ⟨z1, z2⟩ | ⟨z1, z2, hl⟩
    · rw [at2 j z1]; exact S.io j e z2
    · cases z2
  · by_cases hj : j = i
    · by_cases hl : l = i
      · rw [hj, hl]
      · rw [hj] at q3
        by_cases hz : i < ρ.length
        · rw [sf hz] at q3; cases q3
          rw [at_ l hl] at q2
          rw [at2 l hl] at q4
          exact absurd q4 (h4 l q2)
        · rw [List.getElem?_eq_none (by rw [List.length_set, S.len]; omega)] at q3; cases q3
    · by_cases hl : l = i
      · rw [hl] at q4
        by_cases hz : i < ρ.length
        · rw [sf hz] at q4; cases q4
          rw [at_ j hj] at q1
          rw [at2 j hj] at q3
          exact absurd q3 (h4 j q1)
        · rw [List.getElem?_eq_none (by rw [List.length_set, S.len]; omega)] at q4; cases q4
      · rw [at_ j hj] at q1
        rw [at_ l hl] at q2
        rw [at2 j hj] at q3
        rw [at2 l hl] at q4
        exact S.apart j l b q1 q2 q3 q4
theorem setS_eq {i : Nat} {s : Sl} (e : setS i s ρ = some ρ') : (∀ d, ρ[i]? ≠ some (.io d)) ∧ ρ' = ρ.set i s ∧ i < ρ.length := by
  unfold setS at e
  split at e
  · cases e
  · rename_i h2 h1
    cases e
    have hl := (List.getElem?_eq_some_iff.mp h1).1
    exact ⟨fun d z => by rw [h1] at z; cases z; exact h2 _ rfl, rfl, hl⟩
  · cases e

/-! ### targets: ts the slots that are stored -/
abbrev tDG' (K : PySem.W.Frag) (g : FG) (ts : List Nat) : TG := fun v σ H Q => ∃ ioA G0 H0 G ρ d ρ', Sg K ioA G0 H0 G H σ ρ ∧ Dp K G v d ∧ g d ρ = some ρ' ∧ ∀ σ', Sg K ioA G0 H0 G H σ' ρ' → (∀ j : Nat, j ∉ ts → σ'[j]? = σ[j]?) → Q σ' H
structure PDG (X : Cx) (e : Expr) (g : FG) (ts : List Nat) : Prop where
  pg : PG X e (tDG' X.K g ts)
  kin : ∀ d ρ ρ', g d ρ = some ρ' → (∀ j : Nat, j ∉ ts → ρ'[j]? = ρ[j]?) ∧ ρ'.length = ρ.length
theorem pd_gn {e : Expr} {i : Nat} (h : PG X e (gName i)) : PDG X e (gN i) [i] := by
  refine ⟨pg_w h fun v σ H Q q => ?_, fun d ρ ρ' q => ?_⟩
  · obtain ⟨ioA, G0, H0, G, ρ, d, ρ', S, hd, e, k⟩ := q
    obtain ⟨h1, rfl, _⟩ := setS_eq e
    exact k _ (S.set h1 (.inr ⟨d, v, rfl, rfl, hd⟩)) fun j hj => List.getElem?_set_ne fun z => hj (by rw [z]; exact List.mem_singleton.mpr rfl)
  · obtain ⟨h1, rfl, _⟩ := setS_eq q
    exact ⟨fun j hj => List.getElem?_set_ne fun z => hj (by rw [z]; exact List.mem_singleton.mpr rfl), by simp⟩
structure PDGs (X : Cx) (es : List Expr) (gs : List FG) (ts : List Nat) : Prop where
  pgs : PGs X es (fun vs σ H Q => ∃ ioA G0 H0 G ρ ds ρ', Sg X.K ioA G0 H0 G H σ ρ ∧ DpAll X.K G vs ds ∧ gAll gs ds ρ = some ρ' ∧ ∀ σ', Sg X.K ioA G0 H0 G H σ' ρ' → (∀ j : Nat, j ∉ ts → σ'[j]? = σ[j]?) → Q σ' H)
  kin : ∀ ds ρ ρ', gAll gs ds ρ = some ρ' → (∀ j : Nat, j ∉ ts → ρ'[j]? = ρ[j]?) ∧ ρ'.length = ρ.length
theorem pgs_w {e : List Expr} {t u : TGs} (h : PGs X e t) (k : ∀ v σ H Q, u v σ H Q → t v σ H Q) : PGs X e u := by
  obtain ⟨h⟩ := h
  exact ⟨fun pins s σ H v u' Q I r q => h pins s σ H v u' Q I r (k v σ H Q q)⟩
theorem pd_gnil : PDGs X [] [] [] := by
  refine ⟨pgs_w pgs_nil fun v σ H Q q => ?_, fun ds ρ ρ' q => ?_⟩
  · obtain ⟨ioA, G0, H0, G, ρ, ds, ρ', S, hd, e, k⟩ := q
    cases ds with
    | nil =>
      cases hd
      cases e
      exact ⟨rfl, k σ S fun _ _ => rfl⟩
    | cons d ds => cases e
  · cases ds with
    | nil => cases q; exact ⟨fun _ _ => rfl, rfl⟩
    | cons d ds => cases q
theorem pd_gcons {e : Expr} {es : List Expr} {g : FG} {gs : List FG} {ts us : List Nat} (h1 : PDG X e g ts) (h2 : PDGs X es gs us)
    (hs : (assignEach (e :: es) X.env).map (·.2) = assign e X.env :: (assignEach es X.env).map (·.2) := by rfl) : PDGs X (e :: es) (g :: gs) (ts ++ us) := by
  refine ⟨pgs_w (pgs_cons h1.pg h2.pgs hs) fun vs σ H Q q => ?_, fun ds ρ ρ' q => ?_⟩
  · obtain ⟨ioA, G0, H0, G, ρ, ds, ρ', S, hd, e, k⟩ := q
    cases ds with
    | nil => cases e
    | cons d ds =>
      cases hd with
      | cons hd1 hd2 =>
        obtain ⟨ρ1, e1, e2⟩ := bnd e
        refine ⟨_, _, rfl, ioA, G0, H0, G, ρ, d, ρ1, S, hd1, e1, fun σ1 S1 k1 => ⟨ioA, G0, H0, G, ρ1, ds, ρ', S1, hd2, e2, fun σ2 S2 k2 => k σ2 S2 fun j hj => ?_⟩⟩
        rw [List.mem_append, not_or] at hj
        rw [k2 j hj.2, k1 j hj.1]
  · cases ds with
    | nil => cases q
    | cons d ds =>
      obtain ⟨ρ1, e1, e2⟩ := bnd q
      obtain ⟨a1, a2⟩ := h1.kin _ _ _ e1
      obtain ⟨b1, b2⟩ := h2.kin _ _ _ e2
      refine ⟨fun j hj => ?_, b2.trans a2⟩
      rw [List.mem_append, not_or] at hj
      rw [b1 j hj.2, a1 j hj.1]
theorem gAll_len : ∀ {gs : List FG} {ds : List D} {ρ ρ' : Rho}, gAll gs ds ρ = some ρ' → gs.length = ds.length
  | [], [], _, _, _ => rfl
  | [], _ :: _, _, _, h => by cases h
  | _ :: _, [], _, _, h => by cases h
  | g :: gs, d :: ds, ρ, ρ', h => by
    obtain ⟨ρ1, e1, e2⟩ := bnd h
    exact congrArg (· + 1) (gAll_len e2)
theorem pd_gt {es : List Expr} {k : Nat} {gs : List FG} {ts : List Nat} {pos : Pos} (hc : X.calm = true) (h : PDGs X es gs ts)
    (hn : (assignEach es X.env).length = gs.length := by rfl) (hst : (assignEach es X.env).findIdx? (·.1) = none := by rfl) : PDG X (.Tuple es k pos) (gT gs) ts := by
  refine ⟨pg_w (pg_tup hc h.pgs hn hst) fun v σ H Q q => ?_, fun d ρ ρ' q => ?_⟩
  · obtain ⟨ioA, G0, H0, G, ρ, d, ρ', S, hd, e, k⟩ := q
    cases d with
    | tuple ds =>
      cases hd with
      | tup hs ha =>
        exact ⟨_, _, rfl, seqT S.sub hs, (dps_len ha).trans (gAll_len e).symm, ioA, G0, H0, G, ρ, ds, ρ', S, ha, e, k⟩
    | _ => cases e
  · cases d with
    | tuple ds => exact h.kin _ _ _ q
    | _ => cases q

/-! ### what is walked -/
def YD (K : PySem.W.Frag) (Gs : Hp) (ds : List D) : Nat → Hp → V → Hp → Prop := fun i H x H' => ∀ Gi, Same Gs Gi → Same Gi H → ∀ d, ds[i]? = some d → ∃ Gi', Grow Gi H Gi' H' ∧ Dp K Gi' x d
abbrev WkD (K : PySem.W.Frag) (Gs : Hp) (J : It) (ds : List D) : Prop := Walk J ds.length (fun H => Same Gs H) (YD K Gs ds)
abbrev tDI (K : PySem.W.Frag) (f : FI) : TI := fun σ H R => ∃ ioA G0 H0 G ρ ds ρ', Sg K ioA G0 H0 G H σ ρ ∧ f ρ = some (ds, ρ') ∧ ∀ G' J H', Same G G' → Sg K ioA G0 H0 G' H' σ ρ' → WkD K G' J ds → R J H'
structure PDI (X : Cx) (tg iter : Expr) (f : FI) : Prop where
  pi : PI X tg iter (tDI X.K f)
  kin : ∀ ρ r ρ', f ρ = some (r, ρ') → Kin ρ ρ'
theorem pi_w {tg iter : Expr} {t u : TI} (h : PI X tg iter t) (k : ∀ σ H R, u σ H R → t σ H R) : PI X tg iter u := ⟨fun pins s σ H R I q => h.run pins s σ H R I (k σ H R q)⟩
theorem wk_list {a : Addr} {xs : List V} {ds : List D} (h : SqL K G a xs) (hd : DpAll K G xs ds) : WkD K G (Itl K a) ds := by
  have hl := dps_len hd
  refine ⟨fun i H hi s => ?_, fun H s => ⟨xs, s.seq h, by omega⟩, fun i H x H' hi s y => ?_⟩
  · exact ⟨xs, xs[i], s.seq h, List.getElem?_eq_getElem (by omega)⟩
  · obtain ⟨rfl, y⟩ := y
    intro Gi g1 g2 d e
    obtain ⟨v, h1, h2⟩ := dps_getD hd e
    have e2 := (y xs (s.seq h)).symm.trans h1
    cases e2
    exact ⟨Gi, Grow.refl g2, dpM g1 _ _ h2⟩
theorem wk_tup {a : Addr} {xs : List V} {ds : List D} (h : SqT K G a xs) (hd : DpAll K G xs ds) : WkD K G (Itt K a) ds := by
  have hl := dps_len hd
  refine ⟨fun i H hi s => ?_, fun H s => ⟨xs, seqT s h, by omega⟩, fun i H x H' hi s y => ?_⟩
  · exact ⟨xs, xs[i], seqT s h, List.getElem?_eq_getElem (by omega)⟩
  · obtain ⟨rfl, y⟩ := y
    intro Gi g1 g2 d e
    obtain ⟨v, h1, h2⟩ := dps_getD hd e
    have e2 := (y xs (seqT s h)).symm.trans h1
    cases e2
    exact ⟨Gi, Grow.refl g2, dpM g1 _ _ h2⟩
theorem wk_str {x : Str} : WkD K G (Its x) (x.cps.toList.map fun c => .str ⟨#[c]⟩) := by
  refine ⟨fun i H hi s => ?_, fun H s => ?_, fun i H v H' hi s y => ?_⟩
  · show i < x.cps.size
    simpa using hi
  · show x.cps.size ≤ _
    simp
  · obtain ⟨rfl, c, hc, rfl⟩ := y
    intro Gi g1 g2 d e
    have hc' : x.cps.toList[i]? = some c := by simpa using hc
    rw [List.getElem?_map, hc'] at e
    cases e
    exact ⟨Gi, Grow.refl g2, .str _⟩
theorem wk_range {lo : Int} {n : Nat} : WkD K G (Itr lo n) (intsD lo n) := by
  have hl : (intsD lo n).length = n := by simp [intsD]
  refine ⟨fun i H hi s => ?_, fun H s => ?_, fun i H v H' hi s y => ?_⟩
  · show i < n
    rw [hl] at hi; exact hi
  · show n ≤ _
    rw [hl]; exact Nat.le_refl _
  · obtain ⟨rfl, rfl⟩ := y
    intro Gi g1 g2 d e
    rw [hl] at hi
    unfold intsD at e
    rw [List.getElem?_map, List.getElem?_range hi] at e
    cases e
    exact ⟨Gi, Grow.refl g2, .int _⟩
theorem grow_pair {T : Addr} {x y : V} {d e : D} (s : Same G H) (h : H T = none) (h1 : Dp K G x d) (h2 : Dp K G y e) : ∃ Gi', Grow G H Gi' (upd H T (.tup [x, y])) ∧ Dp K Gi' (.ref T) (.tuple [d, e]) :=
  ⟨_, grow_new s h, dp_tup s h (.cons h1 (.cons h2 .nil))⟩
theorem pd_iE_list {tg a : Expr} {ga : FE} (ha : PD X a ga) : PDI X tg a (fun ρ => (ga ρ).bind fun p => match stl p.1 with
    | .pu (.list ds) => some (ds, p.2)
    | _ => none) := by
  refine ⟨pi_w (pi_list ha.pe) fun σ H R q => ?_, fun ρ r ρ' q => ?_⟩
  · obtain ⟨ioA, G0, H0, G, ρ, ds, ρ', S, e, k⟩ := q
    obtain ⟨⟨r1, ρ1⟩, e1, e⟩ := bnd e
    refine ⟨ioA, G0, H0, G, ρ, r1, ρ1, S, e1, fun G1 v1 H1 g1 S1 R1 => ?_⟩
    obtain ⟨G1', g1', S1', R1'⟩ := settle S1 R1
    simp only at e
    split at e
    · rename_i ds' z
      cases e
      rw [z] at R1'
      cases R1' with
      | lst hs hd => exact ⟨_, rfl, ⟨_, S1'.sub.seq hs⟩, k G1' _ H1 (g1.trans g1') S1' (wk_list hs hd)⟩
    · cases e
  · obtain ⟨⟨r1, ρ1⟩, e1, e⟩ := bnd q
    simp only at e
    split at e <;> cases e
    exact ha.kin _ _ _ e1
theorem pd_iE_tup {tg a : Expr} {ga : FE} (ha : PD X a ga) : PDI X tg a (fun ρ => (ga ρ).bind fun p => match stl p.1 with
    | .pu (.tuple ds) => some (ds, p.2)
    | _ => none) := by
  refine ⟨pi_w (pi_tup ha.pe) fun σ H R q => ?_, fun ρ r ρ' q => ?_⟩
  · obtain ⟨ioA, G0, H0, G, ρ, ds, ρ', S, e, k⟩ := q
    obtain ⟨⟨r1, ρ1⟩, e1, e⟩ := bnd e
    refine ⟨ioA, G0, H0, G, ρ, r1, ρ1, S, e1, fun G1 v1 H1 g1 S1 R1 => ?_⟩
    obtain ⟨G1', g1', S1', R1'⟩ := settle S1 R1
    simp only at e
    split at e
    · rename_i ds' z
      cases e
      rw [z] at R1'
      cases R1' with
      | tup hs hd => exact ⟨_, rfl, ⟨_, seqT S1'.sub hs⟩, k G1' _ H1 (g1.trans g1') S1' (wk_tup hs hd)⟩
    · cases e
  · obtain ⟨⟨r1, ρ1⟩, e1, e⟩ := bnd q
    simp only at e
    split at e <;> cases e
    exact ha.kin _ _ _ e1
theorem pd_iE_str {tg a : Expr} {ga : FE} (ha : PD X a ga) : PDI X tg a (fun ρ => (ga ρ).bind fun p => match stl p.1 with
    | .pu (.str x) => some (x.cps.toList.map fun c => .str ⟨#[c]⟩, p.2)
    | _ => none) := by
  refine ⟨pi_w (pi_str ha.pe) fun σ H R q => ?_, fun ρ r ρ' q => ?_⟩
  · obtain ⟨ioA, G0, H0, G, ρ, ds, ρ', S, e, k⟩ := q
    obtain ⟨⟨r1, ρ1⟩, e1, e⟩ := bnd e
    refine ⟨ioA, G0, H0, G, ρ, r1, ρ1, S, e1, fun G1 v1 H1 g1 S1 R1 => ?_⟩
    obtain ⟨G1', g1', S1', R1'⟩ := settle S1 R1
    simp only at e
    split at e
    · rename_i x z
      cases e
      rw [z] at R1'
      cases R1'
      exact ⟨_, rfl, k G1' _ H1 (g1.trans g1') S1' wk_str⟩
    · cases e
  · obtain ⟨⟨r1, ρ1⟩, e1, e⟩ := bnd q
    simp only at e
    split at e <;> cases e
    exact ha.kin _ _ _ e1
/-- a list, a tuple, a text -/
theorem pd_iE {tg a : Expr} {ga : FE} (ha : PD X a ga) : PDI X tg a (iE ga) := by
  refine ⟨⟨fun pins s σ H R I q => ?_⟩, fun ρ r ρ' q => ?_⟩
  · obtain ⟨ioA, G0, H0, G, ρ, ds, ρ', S, e, k⟩ := q
    obtain ⟨⟨r1, ρ1⟩, e1, e⟩ := bnd e
    simp only at e
    split at e
    · rename_i d z
      obtain ⟨ds', e2, e⟩ := bnd e
      cases e
      cases d with
      | list l =>
        cases e2
        exact (pd_iE_list (tg := tg) ha).pi.run pins s σ H R I ⟨ioA, G0, H0, G, ρ, _, _, S, by simp only [e1, Option.bind_some, z], k⟩
      | tuple l =>
        cases e2
        exact (pd_iE_tup (tg := tg) ha).pi.run pins s σ H R I ⟨ioA, G0, H0, G, ρ, _, _, S, by simp only [e1, Option.bind_some, z], k⟩
      | str x =>
        cases e2
        exact (pd_iE_str (tg := tg) ha).pi.run pins s σ H R I ⟨ioA, G0, H0, G, ρ, _, _, S, by simp only [e1, Option.bind_some, z], k⟩
      | _ => cases e2
    · cases e
  · obtain ⟨⟨r1, ρ1⟩, e1, e⟩ := bnd q
    simp only at e
    split at e
    · obtain ⟨ds', e2, e⟩ := bnd e
      cases e
      exact ha.kin _ _ _ e1
    · cases e
theorem small_ok {i : Int} (h : small i = true) : -(2 ^ 62) ≤ i ∧ i < 2 ^ 62 := by
  unfold small at h
  rw [Bool.and_eq_true, decide_eq_true_eq, decide_eq_true_eq] at h
  exact h
theorem pd_range1 {tg a : Expr} {ga : FE} {p pos : Pos} (hg : Gl X "range") (hm : X.mg "range" = none) (ha : PD X a ga) (hs : starEach [a] X.env = [(false, eval a X.env)] := by rfl) : PDI X tg (.Call (.Name "range" p) [a] [] pos) (iRg1 ga) := by
  have hp : PDA X [a] (aCons ga aNil) := pd_cons ha pd_nil hs
  refine ⟨pi_w (pi_range1 hg hm hp.pa hs) fun σ H R q => ?_, fun ρ r ρ' q => ?_⟩
  · obtain ⟨ioA, G0, H0, G, ρ, ds, ρ', S, e, k⟩ := q
    obtain ⟨⟨r1, ρ1⟩, e1, e⟩ := bnd e
    simp only at e
    split at e
    · rename_i j
      by_cases hs : small j = true
      · rw [if_pos hs] at e
        cases e
        obtain ⟨h1, h2⟩ := small_ok hs
        refine ⟨ioA, G0, H0, G, ρ, [.pu (.int j)], ρ', S, by unfold aCons aNil; simp only [e1, Option.bind_some, stl], fun G1 vs H1 g1 S1 R1 => ?_⟩
        cases R1 with
        | cons h t =>
          cases t
          cases h
          exact ⟨j, rfl, h1, h2, k G1 _ H1 g1 S1 wk_range⟩
      · rw [if_neg hs] at e; cases e
    · cases e
  · obtain ⟨⟨r1, ρ1⟩, e1, e⟩ := bnd q
    simp only at e
    split at e
    · split at e <;> cases e
      exact ha.kin _ _ _ e1
    · cases e
theorem pd_range2 {tg a b : Expr} {ga gb : FE} {p pos : Pos} (hg : Gl X "range") (hm : X.mg "range" = none) (ha : PD X a ga) (hb : PD X b gb) (hs : starEach [a, b] X.env = [(false, eval a X.env), (false, eval b X.env)] := by rfl)
    (hs2 : starEach [b] X.env = [(false, eval b X.env)] := by rfl) : PDI X tg (.Call (.Name "range" p) [a, b] [] pos) (iRg2 ga gb) := by
  have hp : PDA X [a, b] (aCons ga (aCons gb aNil)) := pd_cons ha (pd_cons hb pd_nil hs2) (by rw [hs, hs2])
  refine ⟨pi_w (pi_range2 hg hm hp.pa hs hs2) fun σ H R q => ?_, fun ρ r ρ' q => ?_⟩
  · obtain ⟨ioA, G0, H0, G, ρ, ds, ρ', S, e, k⟩ := q
    obtain ⟨⟨r1, ρ1⟩, e1, e⟩ := bnd e
    obtain ⟨⟨r2, ρ2⟩, e2, e⟩ := bnd e
    simp only at e
    split at e
    · rename_i i j e2
      by_cases hs : small i = true ∧ small j = true
      · rw [if_pos hs] at e
        cases e
        obtain ⟨h1, h2⟩ := small_ok hs.1
        obtain ⟨h3, h4⟩ := small_ok hs.2
        refine ⟨ioA, G0, H0, G, ρ, [.pu (.int i), .pu (.int j)], ρ', S, by unfold aCons aNil; simp only [e1, e2, Option.bind_some, stl], fun G1 vs H1 g1 S1 R1 => ?_⟩
        cases R1 with
        | cons h t =>
          cases t with
          | cons h' t =>
            cases t
            cases h
            cases h'
            exact ⟨i, j, rfl, ⟨h1, h2, h3, h4⟩, k G1 _ H1 g1 S1 wk_range⟩
      · rw [if_neg hs] at e; cases e
    · cases e
  · obtain ⟨⟨r1, ρ1⟩, e1, e⟩ := bnd q
    obtain ⟨⟨r2, ρ2⟩, e2, e⟩ := bnd e
    simp only at e
    split at e
    · split at e <;> cases e
      exact (ha.kin _ _ _ e1).trans (hb.kin _ _ _ e2)
    · cases e
theorem wk_zip {a b : Addr} {xs ys : List V} {ds es : List D} (h : SqL K G a xs) (h' : SqL K G b ys) (hd : DpAll K G xs ds) (he : DpAll K G ys es) : WkD K G (Itz K a b) (zipD ds es) := by
  have hl := dps_len hd
  have hl' := dps_len he
  have hn : (zipD ds es).length = min ds.length es.length := by simp [zipD]
  refine ⟨fun i H hi s => ?_, fun H s => ⟨xs, ys, s.seq h, s.seq h', by omega⟩, fun i H x H' hi s y => ?_⟩
  · exact ⟨xs, ys, xs[i], ys[i], s.seq h, s.seq h', List.getElem?_eq_getElem (by omega), List.getElem?_eq_getElem (by omega)⟩
  · obtain ⟨T, x1, y1, rfl, hT, rfl, f1, f2⟩ := y
    intro Gi g1 g2 d e
    unfold zipD at e
    rw [List.getElem?_map] at e
    obtain ⟨⟨d1, d2⟩, e1, e2⟩ := Option.map_eq_some_iff.mp e
    subst e2
    have e3 : ds[i]? = some d1 ∧ es[i]? = some d2 := List.getElem?_zip_eq_some.mp e1
    obtain ⟨v1, q1, q2⟩ := dps_getD hd e3.1
    obtain ⟨v2, q3, q4⟩ := dps_getD he e3.2
    have z1 := (f1 xs (s.seq h)).symm.trans q1
    have z2 := (f2 ys (s.seq h')).symm.trans q3
    cases z1
    cases z2
    exact grow_pair g2 hT (dpM g1 _ _ q2) (dpM g1 _ _ q4)
theorem wk_zipT {a b : Addr} {xs ys : List V} {ds es : List D} (h : SqT K G a xs) (h' : SqT K G b ys) (hd : DpAll K G xs ds) (he : DpAll K G ys es) : WkD K G (RZ.ItzT K a b) (zipD ds es) := by
  have hl := dps_len hd
  have hl' := dps_len he
  have hn : (zipD ds es).length = min ds.length es.length := by simp [zipD]
  refine ⟨fun i H hi s => ?_, fun H s => ⟨xs, ys, seqT s h, seqT s h', by omega⟩, fun i H x H' hi s y => ?_⟩
  · exact ⟨xs, ys, xs[i], ys[i], seqT s h, seqT s h', List.getElem?_eq_getElem (by omega), List.getElem?_eq_getElem (by omega)⟩
  · obtain ⟨T, x1, y1, rfl, hT, rfl, f1, f2⟩ := y
    intro Gi g1 g2 d e
    unfold zipD at e
    rw [List.getElem?_map] at e
    obtain ⟨⟨d1, d2⟩, e1, e2⟩ := Option.map_eq_some_iff.mp e
    subst e2
    have e3 : ds[i]? = some d1 ∧ es[i]? = some d2 := List.getElem?_zip_eq_some.mp e1
    obtain ⟨v1, q1, q2⟩ := dps_getD hd e3.1
    obtain ⟨v2, q3, q4⟩ := dps_getD he e3.2
    have z1 := (f1 xs (seqT s h)).symm.trans q1
    have z2 := (f2 ys (seqT s h')).symm.trans q3
    cases z1
    cases z2
    exact grow_pair g2 hT (dpM g1 _ _ q2) (dpM g1 _ _ q4)
theorem pd_zip {a b : Expr} {ga gb : FE} {p pos tpos : Pos} {elts : List Expr} {kk : Nat} (hg : Gl X "zip") (hm : X.mg "zip" = none) (ha : PD X a ga) (hb : PD X b gb)
    (hs : starEach [a, b] X.env = (false, eval a X.env) :: starEach [b] X.env := by rfl) (hs2 : starEach [b] X.env = [(false, eval b X.env)] := by rfl) (hpl : (backTo pos (starEach [b] X.env)).any (·.1) = false := by rfl) :
    PDI X (.Tuple elts kk tpos) (.Call (.Name "zip" p) [a, b] [] pos) (iZip ga gb) := by
  have hp : PDA X [a, b] (aCons ga (aCons gb aNil)) := pd_cons ha (pd_cons hb pd_nil hs2) hs
  refine ⟨pi_w (RZ.pi_zipA hg hm hp.pa hs hpl) fun σ H R q => ?_, fun ρ r ρ' q => ?_⟩
  · obtain ⟨ioA, G0, H0, G, ρ, ds, ρ', S, e, k⟩ := q
    obtain ⟨⟨r1, ρ1⟩, e1, e⟩ := bnd e
    obtain ⟨⟨r2, ρ2⟩, e2, e⟩ := bnd e
    refine ⟨ioA, G0, H0, G, ρ, [stl r1, stl r2], ρ2, S, by unfold aCons aNil; simp only [e1, e2, Option.bind_some], fun G1 vs H1 g1 S1 R1 => ?_⟩
    simp only at e
    cases R1 with
    | cons h t =>
      cases t with
      | cons h' t =>
        cases t
        split at e
        · rename_i xs ys z1 z2
          cases e
          rw [z1] at h
          rw [z2] at h'
          cases h with
          | lst q1 q2 =>
            cases h' with
            | lst q3 q4 => exact ⟨_, _, _, _, rfl, .inl ⟨S1.sub.seq q1, S1.sub.seq q3, k G1 _ H1 g1 S1 (wk_zip q1 q3 q2 q4)⟩⟩
        · rename_i xs ys z1 z2
          cases e
          rw [z1] at h
          rw [z2] at h'
          cases h with
          | tup q1 q2 =>
            cases h' with
            | tup q3 q4 => exact ⟨_, _, _, _, rfl, .inr ⟨seqT S1.sub q1, seqT S1.sub q3, k G1 _ H1 g1 S1 (wk_zipT q1 q3 q2 q4)⟩⟩
        · cases e
  · obtain ⟨⟨r1, ρ1⟩, e1, e⟩ := bnd q
    obtain ⟨⟨r2, ρ2⟩, e2, e⟩ := bnd e
    simp only at e
    split at e <;> cases e
    · exact (ha.kin _ _ _ e1).trans (hb.kin _ _ _ e2)
    · exact (ha.kin _ _ _ e1).trans (hb.kin _ _ _ e2)
end
end PL

/-! PL: the pure layer, 7: comprehensions. -/
namespace PL
open PySem PySem.Spec PyProof.Rows L2
section
variable {X : Cx} {K : PySem.W.Frag} {ioA : Nat → Option Addr} {G0 H0 G G' H H' : Hp} {σ σ' : L2.St} {ρ ρ' : Rho} {v : V} {r : Vl}
theorem wipe_get (σ : L2.St) (vs : List Nat) (j : Nat) : (wipe σ vs)[j]? = if j ∈ vs then (if j < σ.length then some none else none) else σ[j]? := by
  induction vs with
  | nil => simp [wipe]
  | cons v vs ih =>
    unfold wipe
    by_cases hj : v = j
    · subst hj
      rw [if_pos List.mem_cons_self]
      by_cases hl : v < σ.length
      · rw [if_pos hl, List.getElem?_set_self (by rw [wipe_length]; exact hl)]
      · rw [if_neg hl, List.getElem?_eq_none (by rw [List.length_set, wipe_length]; omega)]
    · rw [List.getElem?_set_ne hj, ih]
      have e : (j ∈ v :: vs) = (j ∈ vs) := by
        simp only [List.mem_cons, eq_iff_iff]
        exact ⟨fun h => h.elim (fun z => absurd z.symm hj) id, .inr⟩
      simp only [e]
theorem wipeR_len (vs : List Nat) (ρ : Rho) : (wipeR vs ρ).length = ρ.length := by
  induction vs with
  | nil => rfl
  | cons v vs ih => unfold wipeR; rw [List.length_set, ih]
theorem wipeR_get (vs : List Nat) (ρ : Rho) (j : Nat) : (wipeR vs ρ)[j]? = if j ∈ vs then (if j < ρ.length then some .non else none) else ρ[j]? := by
  induction vs with
  | nil => simp [wipeR]
  | cons v vs ih =>
    unfold wipeR
    by_cases hj : v = j
    · subst hj
      rw [if_pos List.mem_cons_self]
      by_cases hl : v < ρ.length
      · rw [if_pos hl, List.getElem?_set_self (by rw [wipeR_len]; exact hl)]
      · rw [if_neg hl, List.getElem?_eq_none (by rw [List.length_set, wipeR_len]; omega)]
    · rw [List.getElem?_set_ne hj, ih]
      have e : (j ∈ v :: vs) = (j ∈ vs) := by
        simp only [List.mem_cons, eq_iff_iff]
        exact ⟨fun h => h.elim (fun z => absurd z.symm hj) id, .inr⟩
      simp only [e]
theorem rst_len (vs : List Nat) (ρ0 ρ : Rho) : (rst vs ρ0 ρ).length = ρ.length := by
  induction vs with
  | nil => rfl
  | cons v vs ih =>
    unfold rst
    split
    · rw [List.length_set, ih]
    · exact ih
theorem rst_get (vs : List Nat) {ρ0 ρ : Rho} (hl : ρ0.length = ρ.length) (j : Nat) : (rst vs ρ0 ρ)[j]? = if j ∈ vs then ρ0[j]? else ρ[j]? := by
  induction vs with
  | nil => simp [rst]
  | cons v vs ih =>
    unfold rst
    have e : ∀ (h : v ≠ j), (j ∈ v :: vs) = (j ∈ vs) := fun h => by
      simp only [List.mem_cons, eq_iff_iff]
      exact ⟨fun h' => h'.elim (fun z => absurd z.symm h) id, .inr⟩
    by_cases hj : v = j
    · subst hj
      rw [if_pos List.mem_cons_self]
      split
      · rename_i s z
        have hlt := (List.getElem?_eq_some_iff.mp z).1
        rw [z, List.getElem?_set_self (by rw [rst_len]; omega)]
      · rename_i z
        rw [z, List.getElem?_eq_none (by rw [rst_len, ← hl]; exact List.getElem?_eq_none_iff.mp z)]
    · simp only [e hj]
      split
      · rw [List.getElem?_set_ne hj, ih]
      · exact ih
theorem Sg.wipe (S : Sg K ioA G0 H0 G H σ ρ) (vs : List Nat) : Sg K ioA G0 H0 G H (L2.wipe σ vs) (wipeR vs ρ) := by
  have key : ∀ (j : Nat) s, (wipeR vs ρ)[j]? = some s → s = .non ∨ (j ∉ vs ∧ ρ[j]? = some s) := fun j s e => by
    rw [wipeR_get] at e
    by_cases hj : j ∈ vs
    · rw [if_pos hj] at e
      split at e <;> cases e
      exact .inl rfl
    · rw [if_neg hj] at e
      exact .inr ⟨hj, e⟩
  have out : ∀ (j : Nat), j ∉ vs → (L2.wipe σ vs)[j]? = σ[j]? := fun j hj => by rw [wipe_get, if_neg hj]
  have mt : ∀ (j : Nat), mtb (wipeR vs ρ)[j]? = true → j ∉ vs ∧ mtb ρ[j]? = true := fun j e => by
    cases z : (wipeR vs ρ)[j]? with
    | none => rw [z] at e; cases e
    | some s =>
      rw [z] at e
      rcases key j s z with h | ⟨h1, h2⟩
      · rw [h] at e; cases e
      · rw [h2]; exact ⟨h1, e⟩
  refine ⟨by rw [wipe_length, wipeR_len]; exact S.len, S.sub, S.g0, S.new, S.fr, S.ioh, fun j d e => ?_, fun j d e => ?_, fun j d e => ?_, fun j l a h1 h2 h3 h4 => ?_⟩
  · rcases key j _ e with h | ⟨h1, h2⟩
    · cases h
    · rw [out j h1]; exact S.pu j d h2
  · rcases key j _ e with h | ⟨h1, h2⟩
    · cases h
    · rw [out j h1]; exact S.own j d h2
  · rcases key j _ e with h | ⟨h1, h2⟩
    · cases h
    · rw [out j h1]; exact S.io j d h2
  · obtain ⟨j1, j2⟩ := mt j h1
    obtain ⟨l1, l2⟩ := mt l h2
    rw [out j j1] at h3
    rw [out l l1] at h4
    exact S.apart j l a j2 l2 h3 h4
theorem Sg.noD {D : Addr} (S : Sg K ioA G0 H0 G H σ ρ) (h : H0 D = none) (i : Nat) : ioA i ≠ some D := fun e => by
  obtain ⟨_, _, o, q⟩ := S.ioh i D e
  rw [h] at q; cases q
/-- the comprehension's list stands by itself -/
theorem Sg.withNew {D : Addr} {o : HO} (S : Sg K ioA G0 H0 G H σ ρ) (hD : H D = none) : Sg K ioA G0 (upd H0 D o) G (upd H D o) σ ρ := by
  have g : G D = none := not_in S.sub hD
  have e1 : Same H (upd H D o) := same_upd hD
  refine ⟨S.len, S.sub.trans e1, S.g0, fun b u e => ?_, fun b u e k => ?_, fun i b e => ?_, S.pu, fun i d e => ?_, fun i d e => ?_, S.apart⟩
  · have hb : b ≠ D := fun z => by rw [z, g] at e; cases e
    rw [upd_ne hb]; exact S.new b u e
  · by_cases hb : b = D
    · subst hb; rw [upd_same] at e ⊢; exact e
    · rw [upd_ne hb] at e ⊢; exact S.fr b u e k
  · obtain ⟨⟨u, q1⟩, q2, q3⟩ := S.ioh i b e
    have hb : b ≠ D := fun z => by rw [z, hD] at q1; cases q1
    rw [upd_ne hb, upd_ne hb]
    exact ⟨⟨u, q1⟩, q2, q3⟩
  · obtain ⟨a, h1, h2, h3, h4⟩ := S.own i d e
    obtain ⟨u, q⟩ := h4.there
    have hb : a ≠ D := fun z => by rw [z, hD] at q; cases q
    exact ⟨a, h1, h2, by rw [upd_ne hb]; exact h3, h4.keep (Same.refl _) (e1 a)⟩
  · obtain ⟨a, h1, h2, h4⟩ := S.io i d e
    exact ⟨a, h1, h2, h4.keep (Same.refl _) (e1 a)⟩
theorem Sg.bump {D : Addr} {o o' : HO} (S : Sg K ioA G0 (upd H0 D o) G H σ ρ) (hD : H0 D = none) (g0 : G0 D = none) (hio : ∀ i, ioA i ≠ some D) : Sg K ioA G0 (upd H0 D o') G (upd H D o') σ ρ := by
  have g : G D = none := by
    cases z : G D with
    | none => rfl
    | some u =>
      rcases S.new D u z with ⟨_, q⟩ | q
      · rw [g0] at q; cases q
      · rw [upd_same] at q; cases q
  refine ⟨S.len, fun b u e => ?_, S.g0, fun b u e => ?_, fun b u e k => ?_, fun i b e => ?_, S.pu, fun i d e => ?_, fun i d e => ?_, S.apart⟩
  · have hb : b ≠ D := fun z => by rw [z, g] at e; cases e
    rw [upd_ne hb]; exact S.sub b u e
  · have hb : b ≠ D := fun z => by rw [z, g] at e; cases e
    have q := S.new b u e
    rw [upd_ne hb] at q ⊢
    exact q
  · by_cases hb : b = D
    · subst hb; rw [upd_same] at e ⊢; exact e
    · rw [upd_ne hb] at e ⊢
      exact S.fr b u (by rw [upd_ne hb]; exact e) k
  · obtain ⟨q1, q2, q3⟩ := S.ioh i b e
    have hb : b ≠ D := fun z => hio i (by rw [e, z])
    rw [upd_ne hb, upd_ne hb]
    rw [upd_ne hb] at q3
    exact ⟨q1, q2, q3⟩
  · obtain ⟨a, h1, h2, h3, h4⟩ := S.own i d e
    have hb : a ≠ D := fun z => by rw [z, upd_same] at h3; cases h3
    rw [upd_ne hb] at h3
    exact ⟨a, h1, h2, by rw [upd_ne hb]; exact h3, h4.keep (Same.refl _) fun u q => by rw [upd_ne hb]; exact q⟩
  · obtain ⟨a, h1, h2, h4⟩ := S.io i d e
    have hb : a ≠ D := fun z => hio i (by rw [h1, z])
    exact ⟨a, h1, h2, h4.keep (Same.refl _) fun u q => by rw [upd_ne hb]; exact q⟩
theorem okW_at {vs : List Nat} (h : okW vs ρ = true) {j : Nat} (hj : j ∈ vs) : plainS ρ[j]? = true := List.all_eq_true.mp h j hj
theorem Sg.restore {D : Addr} {o : HO} {vs : List Nat} {ρ1 ρe : Rho} {G1 H1 : Hp} (S1 : Sg K ioA G0 H0 G1 H1 σ ρ1) (Sn : Sg K ioA G0 (upd H0 D o) G H (L2.wipe σ vs) (wipeR vs ρe)) (e1 : Same G1 G) (ok : okW vs ρ1 = true) (hD : H0 D = none) : Sg K ioA G0 H0 G H σ (rst vs ρ1 ρe) := by
  have l1 : ρ1.length = ρe.length := by
    have q := Sn.len
    rw [wipe_length, wipeR_len] at q
    exact S1.len.symm.trans q
  have gt := fun j => rst_get vs l1 j
  have outR : ∀ (j : Nat), j ∉ vs → (wipeR vs ρe)[j]? = ρe[j]? := fun j hj => by rw [wipeR_get, if_neg hj]
  have outS : ∀ (j : Nat), j ∉ vs → (L2.wipe σ vs)[j]? = σ[j]? := fun j hj => by rw [wipe_get, if_neg hj]
  have mt : ∀ (j : Nat), mtb (rst vs ρ1 ρe)[j]? = true → j ∉ vs ∧ mtb (wipeR vs ρe)[j]? = true := fun j e => by
    rw [gt] at e
    by_cases hj : j ∈ vs
    · rw [if_pos hj] at e
      have q := okW_at ok hj
      cases z : ρ1[j]? with
      | none => rw [z] at e; cases e
      | some s => rw [z] at e q; cases s <;> first | (cases q; done) | (cases e; done)
    · rw [if_neg hj] at e
      exact ⟨hj, by rw [outR j hj]; exact e⟩
  refine ⟨by rw [rst_len, ← l1]; exact S1.len, Sn.sub, Sn.g0, fun b u e => ?_, fun b u e k => ?_, fun i b e => ?_, fun i d e => ?_, fun i d e => ?_, fun i d e => ?_, fun i j a h1 h2 h3 h4 => ?_⟩
  · rcases Sn.new b u e with q | q
    · exact .inl q
    · refine .inr ?_
      by_cases hb : b = D
      · rw [hb]; exact hD
      · rw [upd_ne hb] at q; exact q
  · have hb : b ≠ D := fun z => by rw [z, hD] at e; cases e
    exact Sn.fr b u (by rw [upd_ne hb]; exact e) k
  · obtain ⟨q1, q2, q3⟩ := Sn.ioh i b e
    obtain ⟨_, _, q4⟩ := S1.ioh i b e
    exact ⟨q1, q2, q4⟩
  · rw [gt] at e
    by_cases hj : i ∈ vs
    · rw [if_pos hj] at e
      obtain ⟨v, z1, z2⟩ := S1.pu i d e
      exact ⟨v, z1, dpM e1 _ _ z2⟩
    · rw [if_neg hj] at e
      obtain ⟨v, z1, z2⟩ := Sn.pu i d (by rw [outR i hj]; exact e)
      rw [outS i hj] at z1
      exact ⟨v, z1, z2⟩
  · obtain ⟨hj, _⟩ := mt i (by rw [e]; rfl)
    rw [gt, if_neg hj] at e
    obtain ⟨a, z1, z2, z3, z4⟩ := Sn.own i d (by rw [outR i hj]; exact e)
    rw [outS i hj] at z1
    have hb : a ≠ D := fun z => by rw [z, upd_same] at z3; cases z3
    rw [upd_ne hb] at z3
    exact ⟨a, z1, z2, z3, z4⟩
  · obtain ⟨hj, _⟩ := mt i (by rw [e]; rfl)
    rw [gt, if_neg hj] at e
    obtain ⟨a, z1, z2, z4⟩ := Sn.io i d (by rw [outR i hj]; exact e)
    rw [outS i hj] at z2
    exact ⟨a, z1, z2, z4⟩
  · obtain ⟨j1, j2⟩ := mt i h1
    obtain ⟨l1, l2⟩ := mt j h2
    exact Sn.apart i j a j2 l2 (by rw [outS i j1]; exact h3) (by rw [outS j l1]; exact h4)

/-! ### one clause -/
structure PDTs (X : Cx) (ifs : List Expr) (t : FT) : Prop where
  pts : PTs X ifs (tDT X.K t)
  kin : KinT t
theorem pd_tsnil : PDTs X [] tYes := by
  refine ⟨pts_w pts_nil fun σ H Q q => ?_, fun ρ r ρ' q => by cases q; exact Kin.refl _⟩
  obtain ⟨ioA, G0, H0, G, ρ, r, ρ', S, e, k⟩ := q
  cases e
  exact k G H (Same.refl _) S
theorem pd_tsone {c : Expr} {t : FT} (h : PDT X c t) : PDTs X [c] t := ⟨pts_one h.pt, h.kin⟩
/-- outside the block's own slots as Kin -/
def KinX (vs : List Nat) (ρ ρ' : Rho) : Prop := ρ'.length = ρ.length ∧ ∀ i : Nat, i ∉ vs → mtb ρ'[i]? = mtb ρ[i]? ∧ (mtb ρ[i]? = false → ρ'[i]? = ρ[i]?)
theorem KinX.trans {vs : List Nat} {a b c : Rho} (h : KinX vs a b) (k : KinX vs b c) : KinX vs a c := ⟨k.1.trans h.1, fun i hi => by
  obtain ⟨h1, h2⟩ := h.2 i hi
  obtain ⟨k1, k2⟩ := k.2 i hi
  exact ⟨k1.trans h1, fun z => (k2 (h1.trans z)).trans (h2 z)⟩⟩
theorem Kin.len {a b : Rho} (h : Kin a b) : b.length = a.length := by
  have le : ∀ {a b : Rho}, (∀ i : Nat, a[i]? = none → b[i]? = none) → b.length ≤ a.length := fun {a b} h => List.getElem?_eq_none_iff.mp (h a.length (List.getElem?_eq_none (Nat.le_refl _)))
  have h1 : b.length ≤ a.length := le fun i e => ((h i).2 (by rw [e]; rfl)).trans e
  have h2 : a.length ≤ b.length := le fun i e => by
    obtain ⟨k1, k2⟩ := h i
    rw [e] at k1 k2
    exact (k2 k1.symm).symm
  omega
theorem Kin.x {a b : Rho} (h : Kin a b) (vs : List Nat) : KinX vs a b := ⟨h.len, fun i _ => h i⟩
theorem kinX_wipe (vs : List Nat) (ρ : Rho) : KinX vs ρ (wipeR vs ρ) := ⟨wipeR_len vs ρ, fun i hi => by rw [wipeR_get, if_neg hi]; exact ⟨rfl, fun _ => rfl⟩⟩
theorem kinX_g {vs ts : List Nat} {g : FG} (hg : ∀ d ρ ρ', g d ρ = some ρ' → (∀ j : Nat, j ∉ ts → ρ'[j]? = ρ[j]?) ∧ ρ'.length = ρ.length) (hts : ∀ j ∈ ts, j ∈ vs) {d : D} (e : g d ρ = some ρ') : KinX vs ρ ρ' := by
  obtain ⟨h1, h2⟩ := hg d ρ ρ' e
  exact ⟨h2, fun i hi => by rw [h1 i fun z => hi (hts i z)]; exact ⟨rfl, fun _ => rfl⟩⟩
theorem kinX_comp {vs ts : List Nat} {g : FG} {t : FT} {f : FE} (hg : ∀ d ρ ρ', g d ρ = some ρ' → (∀ j : Nat, j ∉ ts → ρ'[j]? = ρ[j]?) ∧ ρ'.length = ρ.length) (hts : ∀ j ∈ ts, j ∈ vs) (ht : KinT t) (hf : KinE f) :
    ∀ {ds : List D} {ρ ρ' : Rho} {res : List D}, compGo vs g t f ds ρ = some (res, ρ') → KinX vs ρ ρ'
  | [], ρ, ρ', res, e => by cases e; exact ⟨rfl, fun _ _ => ⟨rfl, fun _ => rfl⟩⟩
  | d :: ds, ρ, ρ', res, e => by
    obtain ⟨ρ1, e1, e⟩ := bnd e
    obtain ⟨⟨b, ρ2⟩, e2, e⟩ := bnd e
    have k1 : KinX vs ρ ρ2 := ((kinX_wipe vs ρ).trans (kinX_g hg hts e1)).trans ((ht _ _ _ e2).x vs)
    cases b with
    | true =>
      obtain ⟨⟨r3, ρ3⟩, e3, e⟩ := bnd (show (f ρ2).bind _ = _ from e)
      simp only at e
      split at e
      · obtain ⟨⟨r4, ρ4⟩, e4, e⟩ := bnd e
        cases e
        exact (k1.trans ((hf _ _ _ e3).x vs)).trans (kinX_comp hg hts ht hf e4)
      · cases e
    | false => exact k1.trans (kinX_comp hg hts ht hf (show compGo vs g t f ds ρ2 = _ from e))
theorem kin_rst {vs : List Nat} {ρ1 ρe : Rho} (h : KinX vs ρ1 ρe) : Kin ρ1 (rst vs ρ1 ρe) := fun i => by
  rw [rst_get vs h.1.symm]
  by_cases hi : i ∈ vs
  · rw [if_pos hi]; exact ⟨rfl, fun _ => rfl⟩
  · rw [if_neg hi]; exact h.2 i hi
theorem wipe_eq {σ σ2 : L2.St} {vs ts : List Nat} (hl : σ2.length = σ.length) (hts : ∀ j ∈ ts, j ∈ vs) (k : ∀ j : Nat, j ∉ ts → σ2[j]? = (wipe σ vs)[j]?) : wipe σ2 vs = wipe σ vs := by
  refine List.ext_getElem? fun j => ?_
  rw [wipe_get, wipe_get]
  by_cases hj : j ∈ vs
  · rw [if_pos hj, if_pos hj, hl]
  · rw [if_neg hj, if_neg hj, k j fun z => hj (hts j z), wipe_get, if_neg hj]
theorem pd_lc {elt tg iter : Expr} {ifs : List Expr} {scope : Scope} {own : List (Str × Nat)} {pos : Pos} {it : FI} {g : FG} {t : FT} {f : FE} {ts : List Nat} (hc : X.calm = true) (hN : X.N.Nodup) (hi : PDI X tg iter it) (ok : BlkOk X.N X.env.scope scope own)
    (hg : ∀ (s : Shared) (H : Hp) (C : Addr) (cl : List (Str × Addr)) (fp : List Addr), PDG (X.blk s H scope (compEnvC scope cl C X.env) fp) tg g ts) (hts : ∀ j ∈ ts, j ∈ own.map (·.2))
    (ht : ∀ (s : Shared) (H : Hp) (C : Addr) (cl : List (Str × Addr)) (fp : List Addr), PDTs (X.blk s H scope (compEnvC scope cl C X.env) fp) ifs t)
    (he : ∀ (s : Shared) (H : Hp) (C : Addr) (cl : List (Str × Addr)) (fp : List Addr), PD (X.blk s H scope (compEnvC scope cl C X.env) fp) elt f) (hs : ∀ x, foldedSetIterable iter X.env x = pure x := by intro _; rfl) :
    PD X (.ListComp elt [⟨tg, iter, ifs, 0⟩] scope pos) (cLc (own.map (·.2)) it g t f) ∧
    ∀ σ H Q, tD X.K (cLc (own.map (·.2)) it g t f) σ H Q → tLc (tDI X.K it)
      (tDG' X.K g ts) (tDT X.K t) (tD X.K f) (own.map (·.2)) σ H Q := by
  have hgk := (hg X.s_0 (fun _ => none) 0 [] []).kin
  have htk := (ht X.s_0 (fun _ => none) 0 [] []).kin
  have hek := (he X.s_0 (fun _ => none) 0 [] []).kin
  have main : ∀ σ H Q, tD X.K (cLc (own.map (·.2)) it g t f) σ H Q → tLc (tDI X.K it)
      (tDG' X.K g ts) (tDT X.K t) (tD X.K f) (own.map (·.2)) σ H Q := by
    intro σ H Q q
    generalize own.map (·.2) = vs at q hts ⊢
    obtain ⟨ioA, G0, H0, G, ρ, r, ρ', S, e, k⟩ := q
    obtain ⟨⟨ds, ρ1⟩, e1, e⟩ := bnd e
    simp only at e
    by_cases hok : okW vs ρ1 = true
    case neg => rw [if_neg hok] at e; cases e
    rw [if_pos hok] at e
    obtain ⟨⟨res, ρe⟩, e2, e⟩ := bnd e
    simp only at e
    by_cases hz : res.length ≤ lineN
    case neg => rw [if_neg hz] at e; cases e
    rw [if_pos hz] at e
    cases e
    refine ⟨ioA, G0, H0, G, ρ, ds, ρ1, S, e1, fun G1 J H1 g1 S1 wk D hD => ?_⟩
    have h0D : H0 D = none := S1.fresh hD
    have g0D : G0 D = none := not_in (S1.g0.trans S1.sub) hD
    have hio := S1.noD h0D
    refine lc_it (vs := vs) (σ := σ) (H1 := H1) (D := D) (Qd := fun H => Q (.ref D) H) (tt := tDT X.K t) (te := tD X.K f) (g := tDG' X.K g ts) wk (fun i H => ∃ Gi ρi acc ads rest, Same G1 Gi ∧ Sg X.K ioA G0 (upd H0 D (.lst acc)) Gi H (wipe σ vs) (wipeR vs ρi) ∧ DpAll X.K Gi acc ads ∧ compGo vs g t f (ds.drop i) ρi = some (rest, ρe) ∧ ads ++ rest = res) ?_ ?_ ?_ ?_
    · exact ⟨G1, ρ1, [], [], res, Same.refl _, (S1.withNew hD).wipe vs, .nil, e2, rfl⟩
    · rintro i H hi ⟨Gi, ρi, acc, ads, rest, q1, q2, _⟩
      exact q1.trans q2.sub
    · rintro i x H H' hi ⟨Gi, ρi, acc, ads, rest, q1, q2, q3, q4, q5⟩ y
      have hd : ds[i]? = some ds[i] := List.getElem?_eq_getElem hi
      obtain ⟨Gj, gr, hx⟩ := y Gi q1 q2.sub _ hd
      have S2 := q2.grow gr.g gr.h gr.s gr.n
      rw [List.drop_eq_getElem_cons hi] at q4
      obtain ⟨ρ2, e3, q4⟩ := bnd q4
      obtain ⟨⟨b, ρ3⟩, e4, q4⟩ := bnd q4
      refine ⟨ioA, G0, upd H0 D (.lst acc), Gj, _, _, ρ2, S2, hx, e3, fun σ2 S3 k2 => ?_⟩
      have hl : σ2.length = σ.length := by
        rw [S3.len, (hgk _ _ _ e3).2, wipeR_len, ← (S2.len.trans (wipeR_len vs ρi)), wipe_length]
      have we : wipe σ2 vs = wipe σ vs := wipe_eq hl hts k2
      refine ⟨we, ioA, G0, upd H0 D (.lst acc), Gj, ρ2, b, ρ3, S3, e4, fun G3 H3 g3 S4 => ?_⟩
      cases b with
      | false =>
        refine iteF ⟨G3, ρ3, acc, ads, rest, q1.trans (gr.g.trans g3), ?_, dpsM (gr.g.trans g3) _ _ q3, q4, q5⟩
        rw [← we]
        exact S4.wipe vs
      | true =>
        obtain ⟨⟨r3, ρ4⟩, e5, q4⟩ := bnd (show (f ρ3).bind _ = _ from q4)
        refine iteT ⟨ioA, G0, upd H0 D (.lst acc), G3, ρ3, r3, ρ4, S4, e5, fun G4 y4 H4 g4 S5 R5 => ?_⟩
        obtain ⟨G4', g4', S5', R5'⟩ := settle S5 R5
        simp only at q4
        split at q4
        · rename_i d' z
          rw [z] at R5'
          obtain ⟨⟨rest', ρ5⟩, e6, q4⟩ := bnd q4
          cases q4
          have g5 : Same Gi G4' := (gr.g.trans g3).trans (g4.trans g4')
          have hacc := dpsM g5 _ _ q3
          refine ⟨acc, S5'.fr D _ upd_same hio, ?_, G4', ρ4, acc ++ [y4], ads ++ [d'], rest', q1.trans g5, ?_, dps_app hacc (.cons R5' .nil), e6, by rw [← q5]; simp⟩
          · rw [dps_len hacc, ← lineN_eq]
            have q6 := congrArg List.length q5
            rw [List.length_append, List.length_cons] at q6
            omega
          · rw [← we]
            exact (S5'.bump h0D g0D hio).wipe vs
        · cases q4
    · rintro H ⟨Gi, ρi, acc, ads, rest, q1, q2, q3, q4, q5⟩
      rw [List.drop_length] at q4
      cases q4
      rw [List.append_nil] at q5
      subst q5
      have gD : Gi D = none := by
        cases z : Gi D with
        | none => rfl
        | some u =>
          rcases q2.new D u z with ⟨_, q⟩ | q
          · rw [g0D] at q; cases q
          · rw [upd_same] at q; cases q
      have Sf := S1.restore q2 q1 hok h0D
      refine k Gi (.ref D) H (g1.trans q1) Sf ⟨D, rfl, gD, h0D, ⟨acc, q2.fr D _ upd_same hio, q3⟩, fun i hi he => ?_⟩
      obtain ⟨a, d, z1, z2, z3, z4⟩ := Sf.mt hi
      have z5 := he.symm.trans z1
      cases z5
      cases z6 : (rst vs ρ1 ρe)[i]? with
      | none => rw [z6] at hi; cases hi
      | some s =>
        have hiv : i ∉ vs := fun hm => by
          rw [rst_get vs (by have := q2.len; rw [wipe_length, wipeR_len] at this; exact S1.len.symm.trans this), if_pos hm] at hi
          have q := okW_at hok hm
          cases w : ρ1[i]? with
          | none => rw [w] at hi; cases hi
          | some s' => rw [w] at hi q; cases s' <;> first | (cases q; done) | (cases hi; done)
        have z7 := z6
        rw [rst_get vs (by have := q2.len; rw [wipe_length, wipeR_len] at this; exact S1.len.symm.trans this), if_neg hiv] at z7
        have z8 : (wipeR vs ρe)[i]? = some s := by rw [wipeR_get, if_neg hiv]; exact z7
        have z9 : (wipe σ vs)[i]? = σ[i]? := by rw [wipe_get, if_neg hiv]
        cases s with
        | own d' =>
          obtain ⟨a, w1, w2, w3, w4⟩ := q2.own i d' z8
          rw [z9, he] at w1
          cases w1
          rw [upd_same] at w3; cases w3
        | io d' =>
          obtain ⟨a, w1, w2, w4⟩ := q2.io i d' z8
          rw [z9, he] at w2
          cases w2
          exact hio i w1
        | _ => rw [z6] at hi; cases hi
  refine ⟨⟨pe_w (pe_lc hc hN hi.pi ok (fun s H C cl fp => (hg s H C cl fp).pg) (fun s H C cl fp => (ht s H C cl fp).pts) (fun s H C cl fp => (he s H C cl fp).pe) hs) main, fun ρ r ρ' q => ?_⟩, main⟩
  obtain ⟨⟨ds, ρ1⟩, e1, e⟩ := bnd q
  simp only at e
  split at e
  · obtain ⟨⟨res, ρe⟩, e2, e⟩ := bnd e
    simp only at e
    split at e <;> cases e
    exact (hi.kin _ _ _ e1).trans (kin_rst (kinX_comp hgk hts htk hek e2))
  · cases e
end
end PL

/-! PL: the pure layer, 8: statements, a def by its body. -/
namespace PL
open PySem PySem.Spec PyProof.Rows L2
section
variable {X : Cx} {K : PySem.W.Frag} {ioA : Nat → Option Addr} {G0 H0 G G' H H' : Hp} {σ σ' : L2.St} {ρ ρ' : Rho} {v : V} {r : Vl}
abbrev PDS (X : Cx) (st : Stmt) (f : FS) : Prop := PS X st (tDS X.K f)
abbrev PDSs (X : Cx) (st : List Stmt) (f : FS) : Prop := PSs X st (tDS X.K f)

/-! ### the plain ones -/
theorem ds_pass {pos : Pos} : PDS X (.Pass pos) sPass := ps_w ps_pass fun E σ H q => by
  obtain ⟨ioA, G0, H0, G, ρ, o, S, e, k⟩ := q
  cases e
  exact k G σ H (Same.refl _) S
theorem ds_break {pos : Pos} : PDS X (.Break pos) sBrk := ps_w ps_break fun E σ H q => by
  obtain ⟨ioA, G0, H0, G, ρ, o, S, e, k⟩ := q
  cases e
  exact k G σ H (Same.refl _) S
theorem ds_cont {pos : Pos} : PDS X (.Continue pos) sCont := ps_w ps_continue fun E σ H q => by
  obtain ⟨ioA, G0, H0, G, ρ, o, S, e, k⟩ := q
  cases e
  exact k G σ H (Same.refl _) S
theorem ds_never {st : Stmt} : PDS X st sNever := ps_w ps_never fun E σ H q => by
  obtain ⟨ioA, G0, H0, G, ρ, o, S, e, k⟩ := q
  cases e
theorem dss_nil : PDSs X [] sPass := pss_w pss_nil fun E σ H q => by
  obtain ⟨ioA, G0, H0, G, ρ, o, S, e, k⟩ := q
  cases e
  exact k G σ H (Same.refl _) S
theorem dss_one {st : Stmt} {f : FS} (h : PDS X st f) : PDSs X [st] f := pss_one h
theorem dss_cons {st : Stmt} {rest : List Stmt} {f g : FS} (h : PDS X st f) (h2 : PDSs X rest g) : PDSs X (st :: rest) (sSeq f g) := pss_w (pss_cons h h2) fun E σ H q => by
  obtain ⟨ioA, G0, H0, G, ρ, o, S, e, k⟩ := q
  obtain ⟨o1, e1, e⟩ := bnd e
  refine ⟨ioA, G0, H0, G, ρ, o1, S, e1, ?_⟩
  cases o1 with
  | nx ρ1 =>
    intro G1 σ1 H1 g1 S1
    exact ⟨ioA, G0, H0, G1, ρ1, o, S1, e, k.mono g1⟩
  | bk ρ1 => cases e; exact k
  | ct ρ1 => cases e; exact k
  | rt r ρ1 => cases e; exact k
theorem ds_retN {pos : Pos} : PDS X (.Return none pos) sRetN := ps_w ps_retN fun E σ H q => by
  obtain ⟨ioA, G0, H0, G, ρ, o, S, e, k⟩ := q
  cases e
  exact k G .non σ H (Same.refl _) S .non
theorem ds_ret {a : Expr} {f : FE} {pos : Pos} (h : PD X a f) : PDS X (.Return (some a) pos) (sRet f) := ps_w (ps_ret h.pe) fun E σ H q => by
  obtain ⟨ioA, G0, H0, G, ρ, o, S, e, k⟩ := q
  obtain ⟨⟨r1, ρ1⟩, e1, e⟩ := bnd e
  cases e
  exact ⟨ioA, G0, H0, G, ρ, r1, ρ1, S, e1, fun G1 v H1 g1 S1 R1 => k G1 v σ H1 g1 S1 R1⟩
theorem ds_exp {a : Expr} {f : FE} {pos : Pos} (h : PD X a f) (hs : swapsWith a none pos.line X.env = pure false := by rfl) : PDS X (.Expr a pos) (sExp f) := ps_w (ps_expr h.pe hs) fun E σ H q => by
  obtain ⟨ioA, G0, H0, G, ρ, o, S, e, k⟩ := q
  obtain ⟨⟨r1, ρ1⟩, e1, e⟩ := bnd e
  cases e
  exact ⟨ioA, G0, H0, G, ρ, r1, ρ1, S, e1, fun G1 v H1 g1 S1 R1 => k G1 σ H1 g1 S1⟩
theorem ds_if {c : Expr} {a b : List Stmt} {t : FT} {f g : FS} {pos : Pos} (hc : PDT X c t) (ha : PDSs X a f) (hb : PDSs X b g) : PDS X (.If c a b pos) (sIf t f g) := ps_w (ps_if hc.pt ha hb) fun E σ H q => by
  obtain ⟨ioA, G0, H0, G, ρ, o, S, e, k⟩ := q
  obtain ⟨⟨b1, ρ1⟩, e1, e⟩ := bnd e
  refine ⟨ioA, G0, H0, G, ρ, b1, ρ1, S, e1, fun G1 H1 g1 S1 => ?_⟩
  cases b1 with
  | true => exact iteT ⟨ioA, G0, H0, G1, ρ1, o, S1, e, k.mono g1⟩
  | false => exact iteF ⟨ioA, G0, H0, G1, ρ1, o, S1, e, k.mono g1⟩

/-! ### stores -/
theorem asg_ok {f : FE} {i : Nat} {t : TE} (h : ∀ σ H Q, tD K f σ H Q → t σ H Q) {E : Ends} (q : tDS K (sAsg i f) E σ H) : tAsg t (gName i) E σ H := by
  obtain ⟨ioA, G0, H0, G, ρ, o, S, e, k⟩ := q
  obtain ⟨⟨r1, ρ1⟩, e1, e⟩ := bnd e
  refine h _ _ _ ⟨ioA, G0, H0, G, ρ, r1, ρ1, S, e1, fun G1 v H1 g1 S1 R1 => ?_⟩
  obtain ⟨G1', g1', S1', R1'⟩ := settle S1 R1
  simp only at e
  split at e
  · rename_i d z
    obtain ⟨ρ2, e2, e⟩ := bnd e
    cases e
    obtain ⟨h1, rfl, _⟩ := setS_eq e2
    rw [z] at R1'
    exact k G1' _ H1 (g1.trans g1') (S1'.set h1 (.inr ⟨d, v, rfl, rfl, R1'⟩))
  · cases e
theorem new_ok {f : FE} {i : Nat} {t : TE} (h : ∀ σ H Q, tD K f σ H Q → t σ H Q) {E : Ends} (q : tDS K (sNew i f) E σ H) : tAsg t (gName i) E σ H := by
  obtain ⟨ioA, G0, H0, G, ρ, o, S, e, k⟩ := q
  obtain ⟨⟨r1, ρ1⟩, e1, e⟩ := bnd e
  refine h _ _ _ ⟨ioA, G0, H0, G, ρ, r1, ρ1, S, e1, fun G1 v H1 g1 S1 R1 => ?_⟩
  simp only at e
  split at e
  · obtain ⟨ρ2, e2, e⟩ := bnd e
    cases e
    obtain ⟨h1, rfl, _⟩ := setS_eq e2
    obtain ⟨a, rfl, q1, q2, q3, q4⟩ := R1
    exact k G1 _ H1 g1 (S1.setOwn h1 q1 q2 q3 q4)
  · cases e
variable {i : Nat} {x : Str} {pos pos' : Pos} {e : Expr} {f : FE}
theorem ds_asg (h : PD X e f) (hN : X.N.Nodup) (hi : X.N[i]? = some x) (hx : Loc X.env.scope x) (hs : swapsWith e (some (.Name x pos')) pos.line X.env = pure false := by rfl) (hf : X.fn x = true ∨ X.env.scope.names.lookup x = some .local := by first | exact .inl rfl | exact .inr rfl | assumption) :
    PDS X (.Assign [.Name x pos'] e pos) (sAsg i f) := ps_w (ps_set hN hi hx h.pe hs hf) fun E σ H q => asg_ok (fun _ _ _ q => q) q
theorem ds_new (h : PD X e f) (hN : X.N.Nodup) (hi : X.N[i]? = some x) (hx : Loc X.env.scope x) (hs : swapsWith e (some (.Name x pos')) pos.line X.env = pure false := by rfl) (hf : X.fn x = true ∨ X.env.scope.names.lookup x = some .local := by first | exact .inl rfl | exact .inr rfl | assumption) :
    PDS X (.Assign [.Name x pos'] e pos) (sNew i f) := ps_w (ps_set hN hi hx h.pe hs hf) fun E σ H q => new_ok (fun _ _ _ q => q) q
section
variable {elt tg iter : Expr} {ifs : List Expr} {scope : Scope} {own : List (Str × Nat)} {spos py : Pos} {it : FI} {g : FG} {t : FT} {ts : List Nat} {y : Str}
theorem ds_asgLc (hc : X.calm = true) (hN : X.N.Nodup) (hy : X.N[i]? = some y) (hyl : X.env.scope.names.lookup y = some .local)
    (hsw : swapsWith (.ListComp elt [⟨tg, iter, ifs, 0⟩] scope pos) (some (.Name y py)) spos.line X.env = pure true) (hi : PDI X tg iter it) (ok : BlkOk X.N X.env.scope scope own)
    (hg : ∀ (s : Shared) (H : Hp) (C : Addr) (cl : List (Str × Addr)) (fp : List Addr), PDG (X.blk s H scope (compEnvC scope cl C X.env) fp) tg g ts) (hts : ∀ j ∈ ts, j ∈ own.map (·.2))
    (ht : ∀ (s : Shared) (H : Hp) (C : Addr) (cl : List (Str × Addr)) (fp : List Addr), PDTs (X.blk s H scope (compEnvC scope cl C X.env) fp) ifs t)
    (he : ∀ (s : Shared) (H : Hp) (C : Addr) (cl : List (Str × Addr)) (fp : List Addr), PD (X.blk s H scope (compEnvC scope cl C X.env) fp) elt f) (hs : ∀ x, foldedSetIterable iter X.env x = pure x := by intro _; rfl) :
    PDS X (.Assign [.Name y py] (.ListComp elt [⟨tg, iter, ifs, 0⟩] scope pos) spos) (sAsg i (cLc (own.map (·.2)) it g t f)) :=
  ps_w (ps_setLc hc hN hy hyl hsw hi.pi ok (fun s H C cl fp => (hg s H C cl fp).pg) (fun s H C cl fp => (ht s H C cl fp).pts) (fun s H C cl fp => (he s H C cl fp).pe) hs) fun E σ H q => asg_ok (pd_lc (pos := pos) hc hN hi ok hg hts ht he hs).2 q
theorem ds_newLc (hc : X.calm = true) (hN : X.N.Nodup) (hy : X.N[i]? = some y) (hyl : X.env.scope.names.lookup y = some .local)
    (hsw : swapsWith (.ListComp elt [⟨tg, iter, ifs, 0⟩] scope pos) (some (.Name y py)) spos.line X.env = pure true) (hi : PDI X tg iter it) (ok : BlkOk X.N X.env.scope scope own)
    (hg : ∀ (s : Shared) (H : Hp) (C : Addr) (cl : List (Str × Addr)) (fp : List Addr), PDG (X.blk s H scope (compEnvC scope cl C X.env) fp) tg g ts) (hts : ∀ j ∈ ts, j ∈ own.map (·.2))
    (ht : ∀ (s : Shared) (H : Hp) (C : Addr) (cl : List (Str × Addr)) (fp : List Addr), PDTs (X.blk s H scope (compEnvC scope cl C X.env) fp) ifs t)
    (he : ∀ (s : Shared) (H : Hp) (C : Addr) (cl : List (Str × Addr)) (fp : List Addr), PD (X.blk s H scope (compEnvC scope cl C X.env) fp) elt f) (hs : ∀ x, foldedSetIterable iter X.env x = pure x := by intro _; rfl) :
    PDS X (.Assign [.Name y py] (.ListComp elt [⟨tg, iter, ifs, 0⟩] scope pos) spos) (sNew i (cLc (own.map (·.2)) it g t f)) :=
  ps_w (ps_setLc hc hN hy hyl hsw hi.pi ok (fun s H C cl fp => (hg s H C cl fp).pg) (fun s H C cl fp => (ht s H C cl fp).pts) (fun s H C cl fp => (he s H C cl fp).pe) hs) fun E σ H q => new_ok (pd_lc (pos := pos) hc hN hi ok hg hts ht he hs).2 q
end
theorem ds_tgt {tg : Expr} {g : FG} {ts : List Nat} (h : PD X e f) (hg : PDG X tg g ts) (hs : swapsWithSole [tg] e pos.line X.env = pure false := by rfl) (hw : swappedStores [tg] e X.env = pure none := by rfl)
    (h1 : (assignEach [tg] X.env).map (·.2) = [assign tg X.env] := by rfl) : PDS X (.Assign [tg] e pos) (sTgt g f) := ps_w (ps_asg h.pe hg.pg hs hw h1) fun E σ H q => by
  obtain ⟨ioA, G0, H0, G, ρ, o, S, e, k⟩ := q
  obtain ⟨⟨r1, ρ1⟩, e1, e⟩ := bnd e
  refine ⟨ioA, G0, H0, G, ρ, r1, ρ1, S, e1, fun G1 v H1 g1 S1 R1 => ?_⟩
  obtain ⟨G1', g1', S1', R1'⟩ := settle S1 R1
  simp only at e
  split at e
  · rename_i d z
    obtain ⟨ρ2, e2, e⟩ := bnd e
    cases e
    rw [z] at R1'
    exact ⟨ioA, G0, H0, G1', ρ1, d, ρ2, S1', R1', e2, fun σ' S2 _ => k G1' σ' H1 (g1.trans g1') S2⟩
  · cases e
/-- a ghost: the slot is not changed any more -/
theorem Sg.frz (S : Sg K ioA G0 H0 G H σ ρ) (i : Nat) : ∃ G', Same G G' ∧ Sg K ioA G0 H0 G' H σ (PL.frz i ρ) := by
  unfold PL.frz
  split
  · rename_i d z
    obtain ⟨a, h1, h2, h3, h4⟩ := S.own i d z
    have S' : Sg K ioA G0 H0 G H σ (ρ.set i .non) := by
      have q := S.set (u := σ[i]?.getD none) (s := .non) (i := i) (fun d' z' => by rw [z] at z'; cases z') (.inl rfl)
      have e : σ.set i (σ[i]?.getD none) = σ := by
        refine List.ext_getElem? fun j => ?_
        by_cases hj : i = j
        · subst hj
          rw [List.getElem?_set_self (List.getElem?_eq_some_iff.mp h1).1, h1]
          rfl
        · rw [List.getElem?_set_ne hj]
      rw [e] at q
      exact q
    have lt := (List.getElem?_eq_some_iff.mp z).1
    have R : RepV K H0 G H σ (ρ.set i .non) (.ref a) (.nw d) := ⟨a, rfl, h2, h3, h4, fun j hj e => by
      by_cases hij : i = j
      · subst hij
        rw [List.getElem?_set_self lt] at hj
        cases hj
      · rw [List.getElem?_set_ne hij] at hj
        exact hij (S.apart i j a (by rw [z]; rfl) hj h1 e)⟩
    obtain ⟨G', g', S2, R2⟩ := settle S' R
    have q := S2.set (u := some (.ref a)) (s := .pu d) (i := i) (fun d' z' => by rw [List.getElem?_set_self lt] at z'; cases z') (.inr ⟨d, _, rfl, rfl, R2⟩)
    have e : σ.set i (some (.ref a)) = σ := by
      refine List.ext_getElem? fun j => ?_
      by_cases hj : i = j
      · subst hj
        rw [List.getElem?_set_self (List.getElem?_eq_some_iff.mp h1).1, h1]
      · rw [List.getElem?_set_ne hj]
    rw [e, List.set_set] at q
    exact ⟨G', g', q⟩
  · exact ⟨G, Same.refl _, S⟩
theorem frz_ok {f : FS} {i : Nat} {E : Ends} (q : tDS K (sFrz i f) E σ H) : tDS K f E σ H := by
  obtain ⟨ioA, G0, H0, G, ρ, o, S, e, k⟩ := q
  obtain ⟨G1, g1, S1⟩ := S.frz i
  exact ⟨ioA, G0, H0, G1, _, o, S1, e, k.mono g1⟩
theorem dss_frz {st : List Stmt} {f : FS} (i : Nat) (h : PDSs X st f) : PDSs X st (sFrz i f) := pss_w h fun E σ H q => frz_ok q

/-! ### owned lists are changed -/
theorem Sg.put {i : Nat} {d : D} {a : Addr} {xs xs' : List V} {ds' : List D} (S : Sg K ioA G0 H0 G H σ ρ) (hc : cont ρ (.sl i) = some d) (hs : σ[i]? = some (some (.ref a))) (h : H a = some (.lst xs)) (hd : DpAll K G xs' ds') (e : putS i (.list ds') ρ = some ρ') :
    Sg K ioA G0 H0 G (upd H a (.lst xs')) σ ρ' := by
  have hm : mtb ρ[i]? = true := by
    unfold cont at hc
    cases z : ρ[i]? with
    | none => simp only [z] at hc; cases hc
    | some s => simp only [z] at hc; cases s <;> first | rfl | cases hc
  obtain ⟨a', d0, h1, h2, h3, _⟩ := S.mt hm
  have e1 := hs.symm.trans h1
  cases e1
  have key : ρ'.length = ρ.length ∧ (∀ j, j ≠ i → ρ'[j]? = ρ[j]?) ∧ ((∃ d0, ρ[i]? = some (.own d0) ∧ ρ'[i]? = some (.own (.list ds'))) ∨ (∃ d0, ρ[i]? = some (.io d0) ∧ ρ'[i]? = some (.io (.list ds')))) := by
    unfold putS at e
    split at e
    · rename_i d0 e0
      cases e
      exact ⟨by simp, fun j hj => List.getElem?_set_ne (Ne.symm hj), .inl ⟨d0, e0, List.getElem?_set_self (List.getElem?_eq_some_iff.mp e0).1⟩⟩
    · rename_i d0 e0
      cases e
      exact ⟨by simp, fun j hj => List.getElem?_set_ne (Ne.symm hj), .inr ⟨d0, e0, List.getElem?_set_self (List.getElem?_eq_some_iff.mp e0).1⟩⟩
    · cases e
  obtain ⟨k1, k2, k3⟩ := key
  have mt : ∀ (j : Nat), mtb ρ'[j]? = mtb ρ[j]? := fun j => by
    by_cases hj : j = i
    · subst hj
      rcases k3 with ⟨d0, q1, q2⟩ | ⟨d0, q1, q2⟩ <;> (rw [q1, q2]; rfl)
    · rw [k2 j hj]
  have ne : ∀ (j : Nat) (b : Addr), j ≠ i → mtb ρ[j]? = true → σ[j]? = some (some (.ref b)) → b ≠ a := fun j b hj hm' hb z => by
    rw [z] at hb
    exact hj (S.apart j i a hm' hm hb hs)
  refine ⟨S.len.trans k1.symm, fun b u q => ?_, S.g0, S.new, fun b u q k => ?_, fun j b q => ?_, fun j e' q => ?_, fun j e' q => ?_, fun j e' q => ?_, fun j l b q1 q2 q3 q4 => S.apart j l b ((mt j).symm.trans q1) ((mt l).symm.trans q2) q3 q4⟩
  · have hb : b ≠ a := fun z => by rw [z, h2] at q; cases q
    rw [upd_ne hb]; exact S.sub b u q
  · have hb : b ≠ a := fun z => by
      rcases k3 with ⟨d0, q1, q2⟩ | ⟨d0, q1, q2⟩
      · obtain ⟨a', w1, w2, w3, w4⟩ := S.own i d0 q1
        have w5 := hs.symm.trans w1
        cases w5
        rw [z, w3] at q; cases q
      · obtain ⟨a', w1, w2, w4⟩ := S.io i d0 q1
        have w5 := hs.symm.trans w2
        cases w5
        exact k i (by rw [w1, z])
    rw [upd_ne hb]; exact S.fr b u q k
  · obtain ⟨⟨u, w1⟩, w2, w3⟩ := S.ioh j b q
    refine ⟨?_, w2, w3⟩
    by_cases hb : b = a
    · exact ⟨_, by rw [hb]; exact upd_same⟩
    · exact ⟨u, by rw [upd_ne hb]; exact w1⟩
  · have hj : j ≠ i := fun z => by
      subst z
      rcases k3 with ⟨d0, q1, q2⟩ | ⟨d0, q1, q2⟩ <;> (rw [q2] at q; cases q)
    rw [k2 j hj] at q
    exact S.pu j e' q
  · by_cases hj : j = i
    · subst hj
      rcases k3 with ⟨d0, q1, q2⟩ | ⟨d0, q1, q2⟩
      · rw [q2] at q
        cases q
        obtain ⟨a', w1, w2, w3, w4⟩ := S.own j d0 q1
        have w5 := hs.symm.trans w1
        cases w5
        exact ⟨a, hs, w2, w3, xs', upd_same, hd⟩
      · rw [q2] at q; cases q
    · rw [k2 j hj] at q
      obtain ⟨b, w1, w2, w3, w4⟩ := S.own j e' q
      have hb := ne j b hj (by rw [q]; rfl) w1
      exact ⟨b, w1, w2, w3, w4.keep (Same.refl _) fun u w => by rw [upd_ne hb]; exact w⟩
  · by_cases hj : j = i
    · subst hj
      rcases k3 with ⟨d0, q1, q2⟩ | ⟨d0, q1, q2⟩
      · rw [q2] at q; cases q
      · rw [q2] at q
        cases q
        obtain ⟨a', w1, w2, w4⟩ := S.io j d0 q1
        have w5 := hs.symm.trans w2
        cases w5
        exact ⟨a, w1, hs, xs', upd_same, hd⟩
    · rw [k2 j hj] at q
      obtain ⟨b, w1, w2, w4⟩ := S.io j e' q
      have hb := ne j b hj (by rw [q]; rfl) w2
      exact ⟨b, w1, w2, w4.keep (Same.refl _) fun u w => by rw [upd_ne hb]; exact w⟩
theorem cont_mtb {i : Nat} {d : D} (h : cont ρ (.sl i) = some d) : mtb ρ[i]? = true := by
  unfold cont at h
  cases z : ρ[i]? with
  | none => simp only [z] at h; cases h
  | some s => simp only [z] at h; cases s <;> first | rfl | cases h
/-- x.append(e) -/
theorem ds_app {o : Expr} {apos cpos : Pos} (ho : PE X o (tVar i)) (h : PD X e f) (hx : starEach [e] X.env = (false, eval e X.env) :: starEach [] X.env := by rfl)
    (hbase : attributeBase o "append" X.env (eval o X.env) = eval o X.env := by rfl)
    (hfew : ((backTo cpos (starEach [e] X.env)).all (fun x => !x.1) && (backToKw cpos (keywordEach [] X.env)).all (fun x => x.1.isSome)
      && decide ([e].length + ([] : List Keyword).length + (if ([] : List Keyword).isEmpty then 0 else 1) < 30)) = true := by rfl)
    (hline : (apos.endLine == cpos.line) = true := by rfl) (hplain : (backTo cpos (starEach [] X.env)).any (·.1) = false := by rfl)
    (hs : swapsWith (.Call (.Attribute o "append" apos) [e] [] cpos) none pos.line X.env = pure false := by rfl) :
    PDS X (.Expr (.Call (.Attribute o "append" apos) [e] [] cpos) pos) (sApp i f) := by
  refine ps_w (ps_expr (pe_bm PySem.F.plainAttrs_list PySem.F.slot_list_append PySem.F.type_list_append (r := rAppend) mt_append ho (pd_cons h pd_nil hx).pa hbase hfew hline hx hplain) hs) fun E σ H q => ?_
  obtain ⟨ioA, G0, H0, G, ρ, o, S, e, k⟩ := q
  obtain ⟨⟨r1, ρ1⟩, e1, e⟩ := bnd e
  simp only at e
  split at e
  · rename_i d ds z1 z2
    by_cases hz : ds.length < lineN
    case neg => rw [if_neg hz] at e; cases e
    rw [if_pos hz] at e
    obtain ⟨ρ2, e2, e⟩ := bnd e
    cases e
    have kin := h.kin _ _ _ e1
    have hm : mtb ρ[i]? = true := (kin i).1.symm.trans (cont_mtb z2)
    obtain ⟨a, d0, q1, q2, q3, q4⟩ := S.mt hm
    refine ⟨.ref a, q1, ?_, ?_⟩
    · cases d0 with
      | list l => obtain ⟨xs, w1, _⟩ := q3; exact .inl ⟨rfl, _, .inl (.inl w1)⟩
      | _ => exact q3.elim
    · refine ⟨ioA, G0, H0, G, ρ, [stl r1], ρ1, S, by unfold aCons aNil; simp only [e1, Option.bind_some], fun G1 vs H1 g1 S1 R1 => ?_⟩
      rw [z1] at R1
      cases R1 with
      | cons hv ht =>
        cases ht
        obtain ⟨a', d1, w1, w2, w3, w4⟩ := S1.mt (cont_mtb z2)
        have w5 := q1.symm.trans w1
        cases w5
        have w6 : some (PyData.list ds) = some d1 := z2.symm.trans w4
        cases w6
        obtain ⟨xs, u1, u2⟩ := w3
        refine ⟨a, xs, _, rfl, rfl, u1, by rw [dps_len u2, ← lineN_eq]; exact hz, ?_⟩
        exact k G1 σ _ g1 (S1.put (d := .list ds) z2 q1 u1 (dps_app u2 (.cons hv .nil)) e2)
  · cases e
theorem ixD_eq {n : Nat} {i : Int} : ixD n i = ixN n i := rfl
/-- x[k] = e, x a list -/
theorem ds_setix {o ke : Expr} {fk : FE} {tpos : Pos} (ho : PE X o (tVar i)) (h : PD X e f) (hk : PD X ke fk)
    (ha : ∀ v, assign (.Subscript o ke tpos) X.env v = (do
      let ov ← holding [v] (eval o X.env)
      let iv ← holding [v, ov] (eval ke X.env)
      standAt tpos
      holding [v, ov, iv] (setItem ov iv v)
      release [v, ov, iv] []) := by intro _; rfl)
    (hs : swapsWithSole [.Subscript o ke tpos] e pos.line X.env = pure false := by rfl) (hw : swappedStores [.Subscript o ke tpos] e X.env = pure none := by rfl)
    (h1 : (assignEach [.Subscript o ke tpos] X.env).map (·.2) = [assign (.Subscript o ke tpos) X.env] := by rfl) : PDS X (.Assign [.Subscript o ke tpos] e pos) (sSet i fk f) := by
  refine ps_w (ps_asg h.pe (pg_sub ho hk.pe set_list ha) hs hw h1) fun E σ H q => ?_
  obtain ⟨ioA, G0, H0, G, ρ, o, S, e, k⟩ := q
  obtain ⟨⟨r1, ρ1⟩, e1, e⟩ := bnd e
  obtain ⟨⟨r2, ρ2⟩, e2, e⟩ := bnd e
  refine ⟨ioA, G0, H0, G, ρ, r1, ρ1, S, e1, fun G1 v H1 g1 S1 R1 => ?_⟩
  obtain ⟨G1', g1', S1', R1'⟩ := settle S1 R1
  simp only at e
  obtain ⟨d, j, ds, z1, z2, z3, e⟩ : ∃ d j ds, stl r1 = .pu d ∧ r2 = .pu (.int j) ∧ cont ρ2 (.sl i) = some (.list ds) ∧
      (ixD ds.length j).bind (fun n => (putS i (.list (ds.set n d)) ρ2).bind fun ρ' => some (Out.nx ρ')) = some o := by
    revert e
    split
    · intro e; exact ⟨_, _, _, by assumption, rfl, by assumption, e⟩
    · intro e; cases e
  obtain ⟨n, en, e⟩ := bnd e
  obtain ⟨ρ3, e3, e⟩ := bnd e
  cases e
  rw [z1] at R1'
  have kin := hk.kin _ _ _ e2
  obtain ⟨a, d0, q1, q2, q3, q4⟩ := S1'.mt ((kin i).1.symm.trans (cont_mtb z3))
  refine ⟨.ref a, q1, ioA, G0, H0, G1', ρ1, _, ρ2, S1', e2, fun G2 v2 H2 g2 S2 R2 => ?_⟩
  rw [z2] at R2
  cases R2
  obtain ⟨a', d1, w1, w2, w3, w4⟩ := S2.mt (cont_mtb z3)
  have w5 := q1.symm.trans w1
  cases w5
  have w6 : some (PyData.list ds) = some d1 := z3.symm.trans w4
  cases w6
  obtain ⟨xs, u1, u2⟩ := w3
  refine ⟨a, xs, j, n, rfl, rfl, u1, by rw [dps_len u2]; exact en, ?_⟩
  exact k G2 σ _ ((g1.trans g1').trans g2) (S2.put (d := .list ds) z3 q1 u1 (dps_set n u2 (dpM g2 _ _ R1')) e3)
end
end PL

/-! PL: the pure layer, 9: pairs stored, loops, a def by its body. -/
namespace PL
open PySem PySem.Spec PyProof.Rows L2
section
variable {X : Cx} {K : PySem.W.Frag} {ioA : Nat → Option Addr} {G0 H0 G G' H H' : Hp} {σ σ' : L2.St} {ρ ρ' : Rho} {v : V} {r : Vl}

/-! ### pairs stored -/
theorem hold {p : Addr} {o : HO} (S : Sg K ioA G0 H0 G H σ ρ) (e : H p = some o) (h1 : G p = none) (h4 : ∀ (i : Nat), mtb ρ[i]? = true → σ[i]? ≠ some (some (V.ref p))) : Sg K ioA G0 (upd H0 p o) G H σ ρ := by
  refine ⟨S.len, S.sub, S.g0, fun b u q => ?_, fun b u q k => ?_, fun i b q => ?_, S.pu, fun i d q => ?_, S.io, S.apart⟩
  · have hb : b ≠ p := fun z => by rw [z, h1] at q; cases q
    rw [upd_ne hb]; exact S.new b u q
  · by_cases hb : b = p
    · subst hb; rw [upd_same] at q; cases q; exact e
    · rw [upd_ne hb] at q; exact S.fr b u q k
  · obtain ⟨q1, q2, u, q3⟩ := S.ioh i b q
    refine ⟨q1, q2, ?_⟩
    by_cases hb : b = p
    · subst hb; exact ⟨o, upd_same⟩
    · exact ⟨u, by rw [upd_ne hb]; exact q3⟩
  · obtain ⟨a, q1, q2, q3, q4⟩ := S.own i d q
    have hb : a ≠ p := fun z => h4 i (by rw [q]; rfl) (by rw [← z]; exact q1)
    exact ⟨a, q1, q2, by rw [upd_ne hb]; exact q3, q4⟩
theorem unhold {p : Addr} {o : HO} (S : Sg K ioA G0 (upd H0 p o) G H σ ρ) (h0 : H0 p = none) (hio : ∀ i, ioA i ≠ some p) : Sg K ioA G0 H0 G H σ ρ := by
  refine ⟨S.len, S.sub, S.g0, fun b u q => ?_, fun b u q k => ?_, fun i b q => ?_, S.pu, fun i d q => ?_, S.io, S.apart⟩
  · rcases S.new b u q with z | z
    · exact .inl z
    · refine .inr ?_
      by_cases hb : b = p
      · rw [hb]; exact h0
      · rw [upd_ne hb] at z; exact z
  · have hb : b ≠ p := fun z => by rw [z, h0] at q; cases q
    exact S.fr b u (by rw [upd_ne hb]; exact q) k
  · obtain ⟨q1, q2, u, q3⟩ := S.ioh i b q
    have hb : b ≠ p := fun z => hio i (by rw [q, z])
    rw [upd_ne hb] at q3
    exact ⟨q1, q2, u, q3⟩
  · obtain ⟨a, q1, q2, q3, q4⟩ := S.own i d q
    have hb : a ≠ p := fun z => by rw [z, upd_same] at q3; cases q3
    rw [upd_ne hb] at q3
    exact ⟨a, q1, q2, q3, q4⟩
theorem Sg.noIo {p : Addr} (S : Sg K ioA G0 H0 G H σ ρ) (h0 : H0 p = none) : ∀ i, ioA i ≠ some p := fun i z => by
  obtain ⟨_, _, u, q⟩ := S.ioh i p z
  rw [h0] at q; cases q
/-- stored with its kind -/
theorem setV_ok {k : Bool} {i : Nat} (S : Sg K ioA G0 H0 G H σ ρ) (R : RepV K H0 G H σ ρ v r) (e : setV k i r ρ = some ρ') : Sg K ioA G0 H0 G H (σ.set i (some v)) ρ' := by
  unfold setV at e
  split at e
  · obtain ⟨h1, rfl, _⟩ := setS_eq e
    obtain ⟨a, rfl, q1, q2, q3, q4⟩ := R
    exact S.setOwn h1 q1 q2 q3 q4
  · obtain ⟨h1, rfl, _⟩ := setS_eq e
    exact S.set h1 (.inr ⟨_, v, rfl, rfl, R⟩)
  · cases e
/-- .. another value besides -/
theorem setV_keep {k l : Bool} {i j : Nat} {w : V} {r2 : Vl} {ρ2 : Rho} (S : Sg K ioA G0 H0 G H σ ρ) (R : RepV K H0 G H σ ρ v r) (e : setV k i r ρ = some ρ') (R2 : RepV K H0 G H σ ρ w r2) (e2 : setV l j r2 ρ' = some ρ2)
    (hne : ∀ a b, r = .nw a → r2 = .nw b → v ≠ w) : RepV K H0 G H (σ.set i (some v)) ρ' w r2 := by
  cases r2 with
  | pu d => exact R2
  | sl m => unfold setV at e2; cases l <;> cases e2
  | nw d =>
    obtain ⟨a, rfl, q1, q2, q3, q4⟩ := R2
    refine ⟨a, rfl, q1, q2, q3, fun n hn z => ?_⟩
    unfold setV at e
    split at e
    · obtain ⟨h1, rfl, hl⟩ := setS_eq e
      by_cases hni : n = i
      · subst hni
        rw [List.getElem?_set_self (by rw [S.len]; exact hl)] at z
        cases z
        exact hne _ _ rfl rfl rfl
      · rw [List.getElem?_set_ne (Ne.symm hni)] at z hn
        exact q4 n hn z
    · obtain ⟨h1, rfl, hl⟩ := setS_eq e
      by_cases hni : n = i
      · subst hni
        rw [List.getElem?_set_self hl] at hn
        cases hn
      · rw [List.getElem?_set_ne (Ne.symm hni)] at z hn
        exact q4 n hn z
    · cases e
theorem kp_ok {k : Bool} (S : Sg K ioA G0 H0 G H σ ρ) (R : RepV K H0 G H σ ρ v r) : ∃ G', Same G G' ∧ Sg K ioA G0 H0 G' H σ ρ ∧ RepV K H0 G' H σ ρ v (kp k r) := by
  cases k with
  | true => exact ⟨G, Same.refl _, S, R⟩
  | false => exact settle S R
/-- a, b = e, f: k, l tell which is kept as an owned list -/
theorem ds_par2 {k l : Bool} {i j : Nat} {x y : Str} {a b : Expr} {fa fb : FE} {px py pt pos : Pos} {kt k2 pt2} (ha : PD X a fa) (hb : PD X b fb) (hc : X.calm = true) (hN : X.N.Nodup) (hi : X.N[i]? = some x) (hj : X.N[j]? = some y) (hij : i ≠ j)
    (hx : X.env.scope.names.lookup x = some .local) (hy : X.env.scope.names.lookup y = some .local)
    (hw : swappedStores [.Tuple [.Name x px, .Name y py] kt pt] (.Tuple [a, b] k2 pt2) X.env = pure (some [x, y]))
    (hst : starEach [a, b] X.env = (false, eval a X.env) :: starEach [b] X.env := by rfl) (hst2 : starEach [b] X.env = (false, eval b X.env) :: starEach [] X.env := by rfl)
    (hs : swapsWithSole [.Tuple [.Name x px, .Name y py] kt pt] (.Tuple [a, b] k2 pt2) pos.line X.env = pure false := by rfl) :
    PDS X (.Assign [.Tuple [.Name x px, .Name y py] kt pt] (.Tuple [a, b] k2 pt2) pos) (sPar2 k l i j fa fb) := by
  refine ps_w (ps_par hc hN hi hj hij hx hy (pa_cons ha.pe (pa_cons hb.pe pa_nil hst2) hst) hw hs) fun E σ H q => ?_
  obtain ⟨ioA, G0, H0, G, ρ, o, S, e, kk⟩ := q
  obtain ⟨⟨r1, ρ1⟩, e1, e⟩ := bnd e
  obtain ⟨⟨r2, ρ2⟩, e2, e⟩ := bnd e
  obtain ⟨ρ3, e3, e⟩ := bnd e
  obtain ⟨ρ4, e4, e⟩ := bnd e
  cases e
  show tD X.K fa σ H _
  refine ⟨ioA, G0, H0, G, ρ, r1, ρ1, S, e1, fun G1 v H1 g1 S1 R1 => ?_⟩
  have kin := hb.kin _ _ _ e2
  obtain ⟨G1', g1', S1', R1'⟩ := kp_ok (k := k) S1 R1
  simp only at e3 e4
  -- what is left when both stand
  have fin : ∀ (G2 : Hp) (w : V) (H2 : Hp), Same G1' G2 → Sg X.K ioA G0 H0 G2 H2 σ ρ2 → RepV X.K H0 G2 H2 σ ρ2 v (kp k r1) → RepV X.K H0 G2 H2 σ ρ2 w (kp l r2) → (∀ a b, kp k r1 = .nw a → kp l r2 = .nw b → v ≠ w) →
      E.nx ((σ.set i (some v)).set j (some w)) H2 := fun G2 w H2 g2 S2 R1 R2 hne =>
    kk G2 _ H2 ((g1.trans g1').trans g2) (setV_ok (setV_ok S2 R1 e3) (setV_keep S2 R1 e3 R2 e4 hne) e4)
  revert R1' fin e3
  generalize kp k r1 = q1
  intro e3 R1' fin
  cases q1 with
  | sl m => unfold setV at e3; cases k <;> cases e3
  | pu d =>
    refine ⟨ioA, G0, H0, G1', ρ1, r2, ρ2, S1', e2, fun G2 w H2 g2 S2 R2 => ?_⟩
    obtain ⟨G3, g3, S3, R3⟩ := kp_ok (k := l) S2 R2
    exact ⟨v, w, rfl, fin G3 w H2 (g2.trans g3) S3 (dpM (g2.trans g3) _ _ R1') R3 fun a b z => by cases z⟩
  | nw d =>
    obtain ⟨p, rfl, h1, h2, h3, h4⟩ := R1'
    obtain ⟨u, hu⟩ := h3.there
    have hio := S1'.noIo h2
    refine ⟨ioA, G0, upd H0 p u, G1', ρ1, r2, ρ2, hold S1' hu h1 h4, e2, fun G2 w H2 g2 S2 R2 => ?_⟩
    obtain ⟨G3, g3, S3, R3⟩ := kp_ok (k := l) S2 R2
    have g0p : G0 p = none := by
      cases z : G0 p with
      | none => rfl
      | some u' => have q := S1'.g0 _ _ z; rw [h1] at q; cases q
    have gp : G3 p = none := by
      cases z : G3 p with
      | none => rfl
      | some u' =>
        rcases S3.new p u' z with ⟨_, q⟩ | q
        · rw [g0p] at q; cases q
        · rw [upd_same] at q; cases q
    have hp : H2 p = some u := S3.fr p u upd_same hio
    have nsl : ∀ (n : Nat), mtb ρ2[n]? = true → σ[n]? ≠ some (some (V.ref p)) := fun n hn => h4 n ((kin n).1.symm.trans hn)
    refine ⟨_, w, rfl, fin G3 w H2 (g2.trans g3) (unhold S3 h2 hio) ⟨p, rfl, gp, h2, h3.keep (g2.trans g3) fun u' z => ?_, nsl⟩ ?_ fun a b z1 z2 e => ?_⟩
    · rw [hu] at z; cases z; exact hp
    · revert R3 e4
      generalize kp l r2 = q2
      intro e4 R3
      cases q2 with
      | pu d => exact R3
      | sl m => unfold setV at e4; cases l <;> cases e4
      | nw d2 =>
        obtain ⟨b, rfl, q1, q2, q3, q4⟩ := R3
        have hb : b ≠ p := fun z => by rw [z, upd_same] at q2; cases q2
        rw [upd_ne hb] at q2
        exact ⟨b, rfl, q1, q2, q3, q4⟩
    · rw [z2] at R3
      obtain ⟨c, rfl, q1, q2, q3, q4⟩ := R3
      cases e
      rw [upd_same] at q2; cases q2
/-- all of them plain -/
theorem setAll_pures : ∀ {is : List Nat} {rs : List Vl} {ρ ρ' : Rho}, setAll is rs ρ = some ρ' → ∃ ds, pures rs = some ds ∧ ds.length = is.length
  | [], [], _, _, _ => ⟨[], rfl, rfl⟩
  | [], _ :: _, _, _, e => by cases e
  | _ :: _, [], _, _, e => by cases e
  | i :: is, r :: rs, ρ, ρ', e => by
    cases r with
    | pu d =>
      obtain ⟨ρ1, e1, e⟩ := bnd e
      obtain ⟨ds, h1, h2⟩ := setAll_pures e
      exact ⟨d :: ds, by unfold pures; rw [h1]; rfl, by simp [h2]⟩
    | _ => cases e
def setSt : List Nat → List V → L2.St → L2.St
  | i :: is, v :: vs, σ => setSt is vs (σ.set i (some v))
  | _, _, σ => σ
theorem setAll_ok : ∀ {is : List Nat} {rs : List Vl} {vs : List V} {ds : List D} {σ : L2.St} {ρ ρ' : Rho}, Sg K ioA G0 H0 G H σ ρ → DpAll K G vs ds → pures rs = some ds → setAll is rs ρ = some ρ' → Sg K ioA G0 H0 G H (setSt is vs σ) ρ'
  | [], [], vs, ds, σ, ρ, ρ', S, hd, hp, e => by
    cases e
    cases vs <;> exact S
  | [], _ :: _, _, _, _, _, _, _, _, _, e => by cases e
  | _ :: _, [], _, _, _, _, _, _, _, _, e => by cases e
  | i :: is, r :: rs, vs, ds, σ, ρ, ρ', S, hd, hp, e => by
    cases r with
    | pu d =>
      obtain ⟨ρ1, e1, e⟩ := bnd e
      obtain ⟨es, h1, h2⟩ := bnd (show (pures rs).bind (fun ds => some (d :: ds)) = some ds from hp)
      cases h2
      cases hd with
      | cons k1 k2 =>
        obtain ⟨h3, rfl, _⟩ := setS_eq e1
        have S1 := S.set h3 (.inr ⟨d, _, rfl, rfl, k1⟩)
        exact setAll_ok (σ := σ.set i _) S1 k2 h1 e
    | _ => cases e
theorem ds_parA2 {i j : Nat} {x y : Str} {a b : Expr} {fa : FA} {px py pt pos : Pos} {kt k2 pt2} (ha : PDA X [a, b] fa) (hc : X.calm = true) (hN : X.N.Nodup) (hi : X.N[i]? = some x) (hj : X.N[j]? = some y) (hij : i ≠ j)
    (hx : X.env.scope.names.lookup x = some .local) (hy : X.env.scope.names.lookup y = some .local)
    (hw : swappedStores [.Tuple [.Name x px, .Name y py] kt pt] (.Tuple [a, b] k2 pt2) X.env = pure (some [x, y]))
    (hs : swapsWithSole [.Tuple [.Name x px, .Name y py] kt pt] (.Tuple [a, b] k2 pt2) pos.line X.env = pure false := by rfl) :
    PDS X (.Assign [.Tuple [.Name x px, .Name y py] kt pt] (.Tuple [a, b] k2 pt2) pos) (sParA [i, j] fa) := by
  refine ps_w (ps_par hc hN hi hj hij hx hy ha.pa hw hs) fun E σ H q => ?_
  obtain ⟨ioA, G0, H0, G, ρ, o, S, e, kk⟩ := q
  obtain ⟨⟨r1, ρ1⟩, e1, e⟩ := bnd e
  obtain ⟨ρ3, e3, e⟩ := bnd e
  cases e
  refine ⟨ioA, G0, H0, G, ρ, r1, ρ1, S, e1, fun G1 vs H1 g1 S1 R1 => ?_⟩
  obtain ⟨ds, h1, h2⟩ := setAll_pures e3
  have hd := dps_of R1 h1
  have S3 := setAll_ok S1 hd h1 e3
  have hl := (dps_len hd).trans h2
  match vs, hl, S3 with
  | [v, w], _, S3 => exact ⟨v, w, rfl, kk G1 _ H1 g1 S3⟩
theorem ds_parA3 {i j l : Nat} {x y z : Str} {a b c : Expr} {fa : FA} {px py pz pt pos : Pos} {kt k2 pt2} (ha : PDA X [a, b, c] fa) (hc : X.calm = true) (hN : X.N.Nodup) (hi : X.N[i]? = some x) (hj : X.N[j]? = some y) (hl : X.N[l]? = some z) (hij : i ≠ j) (hil : i ≠ l) (hjl : j ≠ l)
    (hx : X.env.scope.names.lookup x = some .local) (hy : X.env.scope.names.lookup y = some .local) (hz : X.env.scope.names.lookup z = some .local)
    (hw : swappedStores [.Tuple [.Name x px, .Name y py, .Name z pz] kt pt] (.Tuple [a, b, c] k2 pt2) X.env = pure (some [x, y, z]))
    (hs : swapsWithSole [.Tuple [.Name x px, .Name y py, .Name z pz] kt pt] (.Tuple [a, b, c] k2 pt2) pos.line X.env = pure false := by rfl) :
    PDS X (.Assign [.Tuple [.Name x px, .Name y py, .Name z pz] kt pt] (.Tuple [a, b, c] k2 pt2) pos) (sParA [i, j, l] fa) := by
  refine ps_w (ps_par3 hc hN hi hj hl hij hil hjl hx hy hz ha.pa hw hs) fun E σ H q => ?_
  obtain ⟨ioA, G0, H0, G, ρ, o, S, e, kk⟩ := q
  obtain ⟨⟨r1, ρ1⟩, e1, e⟩ := bnd e
  obtain ⟨ρ3, e3, e⟩ := bnd e
  cases e
  refine ⟨ioA, G0, H0, G, ρ, r1, ρ1, S, e1, fun G1 vs H1 g1 S1 R1 => ?_⟩
  obtain ⟨ds, h1, h2⟩ := setAll_pures e3
  have hd := dps_of R1 h1
  have S3 := setAll_ok S1 hd h1 e3
  have hl := (dps_len hd).trans h2
  match vs, hl, S3 with
  | [u, v, w], _, S3 => exact ⟨u, v, w, rfl, kk G1 _ H1 g1 S3⟩

/-! ### loops -/
theorem ds_while {c : Expr} {body : List Stmt} {t : FT} {f : FS} {pos : Pos} (hp : PassesOwn (model X.prog X.w) X.A X.env X.xe) (hc : PDT X c t) (hb : PDSs X body f) : PDS X (.While c body [] pos) (sWhile t f) := by
  refine ps_w (ps_while hp hc.pt hb) fun E σ H q => ?_
  obtain ⟨ioA, G0, H0, G, ρ, o, S, e, kk⟩ := q
  refine ⟨fun m σ H => ∃ G1 ρ1, Same G G1 ∧ Sg X.K ioA G0 H0 G1 H σ ρ1 ∧ whileGo t f m ρ1 = some o, ⟨fuelN, G, ρ, Same.refl _, S, e⟩, ?_⟩
  rintro m σ1 H1 ⟨G1, ρ1, g1, S1, e1⟩
  cases m with
  | zero => cases e1
  | succ m =>
    obtain ⟨⟨b, ρ2⟩, e2, e1⟩ := bnd e1
    refine ⟨ioA, G0, H0, G1, ρ1, b, ρ2, S1, e2, fun G2 H2 g2 S2 => ?_⟩
    cases b with
    | false =>
      cases e1
      exact iteF (kk G2 σ1 H2 (g1.trans g2) S2)
    | true =>
      refine iteT ⟨fun σ' H' => ∃ G3 ρ3, Same G G3 ∧ Sg X.K ioA G0 H0 G3 H' σ' ρ3 ∧ whileGo t f m ρ3 = some o, fun σ' H' h => ⟨m, Nat.lt_succ_self m, h⟩, ?_⟩
      obtain ⟨o3, e3, e1⟩ := bnd (show (f ρ2).bind _ = _ from e1)
      refine ⟨ioA, G0, H0, G2, ρ2, o3, S2, e3, ?_⟩
      cases o3 with
      | nx ρ3 => exact fun G3 σ3 H3 g3 S3 => ⟨G3, ρ3, (g1.trans g2).trans g3, S3, e1⟩
      | ct ρ3 => exact fun G3 σ3 H3 g3 S3 => ⟨G3, ρ3, (g1.trans g2).trans g3, S3, e1⟩
      | bk ρ3 => cases e1; exact fun G3 σ3 H3 g3 S3 => kk G3 σ3 H3 ((g1.trans g2).trans g3) S3
      | rt v ρ3 => cases e1; exact fun G3 v σ3 H3 g3 S3 R3 => kk G3 v σ3 H3 ((g1.trans g2).trans g3) S3 R3
theorem ds_for {tg iter : Expr} {body : List Stmt} {it : FI} {g : FG} {f : FS} {ts : List Nat} {pos : Pos} (hp : PassesOwn (model X.prog X.w) X.A X.env X.xe) (hc : X.calm = true) (hi : PDI X tg iter it) (hg : PDG X tg g ts) (hb : PDSs X body f)
    (hs : ∀ x, foldedSetIterable iter X.env x = pure x := by intro _; rfl) : PDS X (.For tg iter body [] pos) (sFor it g f) := by
  refine ps_w (ps_for hp hc hi.pi hg.pg hb hs) fun E σ H q => ?_
  obtain ⟨ioA, G0, H0, G, ρ, o, S, e, kk⟩ := q
  obtain ⟨⟨ds, ρ1⟩, e1, e⟩ := bnd e
  refine ⟨ioA, G0, H0, G, ρ, ds, ρ1, S, e1, fun G1 J H1 g1 S1 wk => ?_⟩
  refine for_it wk (fun i σ H => ∃ Gi ρi, Same G1 Gi ∧ Sg X.K ioA G0 H0 Gi H σ ρi ∧ forGo g f (ds.drop i) ρi = some o) ⟨G1, ρ1, Same.refl _, S1, e⟩ ?_ ?_ ?_
  · rintro i σ H hi ⟨Gi, ρi, q1, q2, _⟩
    exact q1.trans q2.sub
  · rintro i x σ2 H2 H' hi ⟨Gi, ρi, q1, q2, q3⟩ y
    have hd : ds[i]? = some ds[i] := List.getElem?_eq_getElem hi
    obtain ⟨Gj, gr, hx⟩ := y Gi q1 q2.sub _ hd
    have S2 := q2.grow gr.g gr.h gr.s gr.n
    rw [List.drop_eq_getElem_cons hi] at q3
    obtain ⟨ρ2, e3, q3⟩ := bnd q3
    obtain ⟨o4, e4, q3⟩ := bnd q3
    refine ⟨ioA, G0, H0, Gj, _, _, ρ2, S2, hx, e3, fun σ3 S3 k2 => ?_⟩
    refine ⟨ioA, G0, H0, Gj, ρ2, o4, S3, e4, ?_⟩
    cases o4 with
    | nx ρ3 => exact fun G3 σ3 H3 g3 S3 => ⟨G3, ρ3, (q1.trans gr.g).trans g3, S3, q3⟩
    | ct ρ3 => exact fun G3 σ3 H3 g3 S3 => ⟨G3, ρ3, (q1.trans gr.g).trans g3, S3, q3⟩
    | bk ρ3 => cases q3; exact fun G3 σ3 H3 g3 S3 => kk G3 σ3 H3 (g1.trans ((q1.trans gr.g).trans g3)) S3
    | rt v ρ3 => cases q3; exact fun G3 v σ3 H3 g3 S3 R3 => kk G3 v σ3 H3 (g1.trans ((q1.trans gr.g).trans g3)) S3 R3
  · rintro σ2 H2 ⟨Gi, ρi, q1, q2, q3⟩
    rw [List.drop_length] at q3
    cases q3
    exact kk Gi σ2 H2 (g1.trans q1) q2

/-! ### a def by its body -/
/-- the lent arguments, by their slots -/
def ioOf : List V → List Ar → Nat → Option Addr
  | .ref a :: _, .m _ :: _, 0 => some a
  | _ :: vs, _ :: as, i + 1 => ioOf vs as i
  | _, _, _ => none
theorem ioOf_get : ∀ {vs : List V} {as : List Ar} {i : Nat} {a : Addr}, ioOf vs as i = some a → ∃ d, vs[i]? = some (.ref a) ∧ as[i]? = some (.m d)
  | [], as, i, a, h => by cases as <;> cases i <;> cases h
  | v :: vs, [], i, a, h => by cases v <;> cases i <;> cases h
  | v :: vs, b :: as, 0, a, h => by
    cases v <;> cases b <;> cases h
    exact ⟨_, rfl, rfl⟩
  | v :: vs, b :: as, i + 1, a, h => by
    have h' : ioOf vs as i = some a := by cases v <;> cases b <;> exact h
    obtain ⟨d, h1, h2⟩ := ioOf_get h'
    exact ⟨d, h1, h2⟩
theorem get_ioOf : ∀ {vs : List V} {as : List Ar} {i : Nat} {a : Addr} {d : D}, vs[i]? = some (.ref a) → as[i]? = some (.m d) → ioOf vs as i = some a
  | [], _, i, _, _, h, _ => by simp at h
  | _ :: _, [], i, _, _, _, h => by simp at h
  | v :: vs, b :: as, 0, a, d, h, k => by
    simp at h k
    subst h k
    rfl
  | v :: vs, b :: as, i + 1, a, d, h, k => by
    have q := get_ioOf (vs := vs) (as := as) (i := i) (by simpa using h) (by simpa using k)
    cases v <;> cases b <;> exact q
theorem mem_mA : ∀ {vs : List V} {as : List Ar} {a : Addr}, a ∈ mA vs as ↔ ∃ i, ioOf vs as i = some a
  | [], as, a => ⟨fun h => (by cases as <;> cases h), fun ⟨i, h⟩ => (by cases as <;> cases i <;> cases h)⟩
  | v :: vs, [], a => ⟨fun h => (by cases v <;> cases h), fun ⟨i, h⟩ => (by cases v <;> cases i <;> cases h)⟩
  | v :: vs, b :: as, a => by
    have ih := mem_mA (vs := vs) (as := as) (a := a)
    have skip : (∀ i, ioOf (v :: vs) (b :: as) (i + 1) = ioOf vs as i) := fun i => by cases v <;> cases b <;> rfl
    by_cases hm : ∃ p d, v = .ref p ∧ b = .m d
    · obtain ⟨p, d, rfl, rfl⟩ := hm
      show a ∈ p :: mA vs as ↔ _
      rw [List.mem_cons, ih]
      constructor
      · rintro (rfl | ⟨i, h⟩)
        · exact ⟨0, rfl⟩
        · exact ⟨i + 1, h⟩
      · rintro ⟨i, h⟩
        cases i with
        | zero => cases h; exact .inl rfl
        | succ i => exact .inr ⟨i, h⟩
    · have e : mA (v :: vs) (b :: as) = mA vs as := by
        cases v <;> cases b <;> first | rfl | exact absurd ⟨_, _, rfl, rfl⟩ hm
      rw [e, ih]
      constructor
      · rintro ⟨i, h⟩
        exact ⟨i + 1, by rw [skip]; exact h⟩
      · rintro ⟨i, h⟩
        cases i with
        | zero =>
          exfalso
          cases v <;> cases b <;> first | (cases h; done) | exact absurd ⟨_, _, rfl, rfl⟩ hm
        | succ i => exact ⟨i, by rw [skip] at h; exact h⟩
theorem mA_uniq : ∀ {vs : List V} {as : List Ar} {i j : Nat} {a : Addr}, (mA vs as).Nodup → ioOf vs as i = some a → ioOf vs as j = some a → i = j
  | [], as, i, j, a, _, h, _ => by cases as <;> cases i <;> cases h
  | v :: vs, [], i, j, a, _, h, _ => by cases v <;> cases i <;> cases h
  | v :: vs, b :: as, i, j, a, nd, h, k => by
    have skip : (∀ i, ioOf (v :: vs) (b :: as) (i + 1) = ioOf vs as i) := fun i => by cases v <;> cases b <;> rfl
    have nd' : (mA vs as).Nodup := by
      cases v <;> cases b <;> first | exact nd | exact (List.nodup_cons.mp nd).2
    have hd : ∀ {n : Nat}, ioOf (v :: vs) (b :: as) 0 = some a → ioOf vs as n = some a → False := fun {n} h0 hn => by
      cases v <;> cases b <;> first | (cases h0; done) | skip
      cases h0
      exact (List.nodup_cons.mp nd).1 (mem_mA.mpr ⟨n, hn⟩)
    cases i with
    | zero =>
      cases j with
      | zero => rfl
      | succ j => rw [skip] at k; exact (hd h k).elim
    | succ i =>
      cases j with
      | zero => rw [skip] at h; exact (hd k h).elim
      | succ j =>
        rw [skip] at h k
        rw [mA_uniq nd' h k]
theorem paired_get {α β : Type} {F : α → β → Prop} : ∀ {as : List α} {bs : List β} {i : Nat} {b : β}, Paired F as bs → bs[i]? = some b → ∃ a, as[i]? = some a ∧ F a b
  | _, _, i, _, .nil, h => by simp at h
  | _, _, 0, _, .cons r t, h => by simp at h; subst h; exact ⟨_, rfl, r⟩
  | _, _, i + 1, _, .cons r t, h => by
    obtain ⟨a, h1, h2⟩ := paired_get (i := i) t (by simpa using h)
    exact ⟨a, by simpa using h1, h2⟩
theorem start_sg {N : List Str} {vs : List V} {ars : List Ar} (hl : ars.length ≤ N.length) (gH : Same G H) (ao : ArsOk K G H vs ars) (nd : (mA vs ars).Nodup) :
    Sg K (ioOf vs ars) G H G H (L2.start N vs) (ars.map arS ++ List.replicate (N.length - ars.length) .non) := by
  have hv : vs.length = ars.length := Paired.length ao
  have rhoAt : ∀ (i : Nat) s, (ars.map arS ++ List.replicate (N.length - ars.length) Sl.non)[i]? = some s → s = .non ∨ ∃ a, ars[i]? = some a ∧ s = arS a := fun i s e => by
    rw [List.getElem?_append] at e
    split at e
    · rw [List.getElem?_map] at e
      obtain ⟨a, h1, h2⟩ := Option.map_eq_some_iff.mp e
      exact .inr ⟨a, h1, h2.symm⟩
    · rw [List.getElem?_replicate] at e
      split at e <;> cases e
      exact .inl rfl
  have sigAt : ∀ (i : Nat) v, vs[i]? = some v → (L2.start N vs)[i]? = some (some v) := fun i v e => by
    unfold L2.start
    rw [List.getElem?_append_left (by rw [List.length_map]; exact (List.getElem?_eq_some_iff.mp e).1), List.getElem?_map, e]
    rfl
  have io : ∀ (i : Nat) d, (ars.map arS ++ List.replicate (N.length - ars.length) Sl.non)[i]? = some (.io d) → ∃ a, ioOf vs ars i = some a ∧ (L2.start N vs)[i]? = some (some (.ref a)) ∧ G a = none ∧ Own K G H a d := fun i d e => by
    rcases rhoAt i _ e with h | ⟨b, h1, h2⟩
    · cases h
    · cases b with
      | v d => cases h2
      | m d' =>
        cases h2
        obtain ⟨v, q1, a, rfl, q2, q3⟩ := paired_get ao h1
        exact ⟨a, get_ioOf q1 h1, sigAt i _ q1, q2, q3⟩
  refine ⟨?_, gH, Same.refl _, fun b o e => .inl ⟨o, e⟩, fun b o e _ => e, fun i b e => ?_, fun i d e => ?_, fun i d e => ?_, fun i d e => ?_, fun i j a h1 h2 h3 h4 => ?_⟩
  · unfold L2.start
    simp [hv]
  · obtain ⟨d, h1, h2⟩ := ioOf_get e
    obtain ⟨v, q1, a, rfl, q2, q3⟩ := paired_get ao h2
    have e2 := h1.symm.trans q1
    cases e2
    exact ⟨q3.there, q2, q3.there⟩
  · rcases rhoAt i _ e with h | ⟨b, h1, h2⟩
    · cases h
    · cases b with
      | m d => cases h2
      | v d' =>
        cases h2
        obtain ⟨v, q1, q2⟩ := paired_get ao h1
        exact ⟨v, sigAt i _ q1, q2⟩
  · rcases rhoAt i _ e with h | ⟨b, h1, h2⟩
    · cases h
    · cases b <;> cases h2
  · obtain ⟨a, h1, h2, h3, h4⟩ := io i d e
    exact ⟨a, h1, h2, h4⟩
  · have kk : ∀ (i : Nat), mtb (ars.map arS ++ List.replicate (N.length - ars.length) Sl.non)[i]? = true → (L2.start N vs)[i]? = some (some (.ref a)) → ioOf vs ars i = some a := fun i h h' => by
      cases z : (ars.map arS ++ List.replicate (N.length - ars.length) Sl.non)[i]? with
      | none => rw [z] at h; cases h
      | some s =>
        cases s with
        | io d =>
          obtain ⟨b, q1, q2, _⟩ := io i d z
          have e := h'.symm.trans q2
          cases e
          exact q1
        | own d =>
          rcases rhoAt i _ z with h | ⟨b, h1, h2⟩
          · cases h
          · cases b <;> cases h2
        | _ => rw [z] at h; cases h
    exact mA_uniq nd (kk i h1 h3) (kk j h2 h4)
/-- what the lent ones hold at the end -/
theorem outs_ok : ∀ {ars : List Ar} {vs : List V} {ρ : Rho} {outs : List D}, vs.length = ars.length → (∀ (i : Nat) d, ρ[i]? = some (.io d) → ∃ a, ioOf vs ars i = some a ∧ Own K G H a d) → outsOf ars ρ = some outs →
    Paired (fun a d => Own K G H a d) (mA vs ars) outs
  | [], [], _, _, _, _, e => by cases e; exact .nil
  | [], _ :: _, _, _, h, _, _ => by cases h
  | _ :: _, [], _, _, h, _, _ => by cases h
  | b :: ars, v :: vs, [], outs, hl, h, e => by cases b <;> cases e
  | b :: ars, v :: vs, s :: ρ, outs, hl, h, e => by
    have h' : ∀ (i : Nat) d, ρ[i]? = some (.io d) → ∃ a, ioOf vs ars i = some a ∧ Own K G H a d := fun i d z => by
      obtain ⟨a, q1, q2⟩ := h (i + 1) d (by simpa using z)
      exact ⟨a, by cases v <;> cases b <;> exact q1, q2⟩
    have hl' : vs.length = ars.length := by simpa using hl
    cases b with
    | v d =>
      have e1 : mA (v :: vs) (.v d :: ars) = mA vs ars := by cases v <;> rfl
      rw [e1]
      exact outs_ok hl' h' e
    | m d =>
      cases s with
      | io d' =>
        obtain ⟨ds, e1, e2⟩ := bnd e
        cases e2
        obtain ⟨a, q1, q2⟩ := h 0 d' rfl
        cases v with
        | ref p =>
          cases q1
          exact .cons q2 (outs_ok hl' h' e1)
        | _ => cases q1
      | _ => cases e
theorem def_ok {N : List Str} {n : Nat} {f : FS} {vs : List V} {Q : VK} {E : XK} (hn : n ≤ N.length) (q : spM K n (runDef n N.length f) vs H Q E) : tDS K f { nx := fun _ H' => Q .non H', rt := Q } (L2.start N vs) H := by
  obtain ⟨hl, G, ars, r, outs, gH, ao, nd, e, k⟩ := q
  unfold runDef at e
  have hv : vs.length = ars.length := Paired.length ao
  have ha : ars.length = n := hv.symm.trans hl
  rw [if_pos ha] at e
  obtain ⟨o, e1, e⟩ := bnd e
  have S := start_sg (N := N) (by omega) gH ao nd
  rw [ha] at S
  refine ⟨_, _, _, _, _, o, S, e1, ?_⟩
  have fin : ∀ {ρ' : Rho} {outs : List D}, outsOf ars ρ' = some outs → ∀ {G' : Hp} {σ' : L2.St} {H' : Hp}, Same G G' → Sg K (ioOf vs ars) G H G' H' σ' ρ' → ∀ {v : V} {r : Vl}, RepN K H G' H' v r →
      (∀ G' v H', Same G G' → Same G' H' → (∀ b o, G' b = some o → (∃ o', G b = some o') ∨ H b = none) → (∀ b o, H b = some o → b ∉ mA vs ars → H' b = some o) → (∀ a ∈ mA vs ars, G' a = none) →
        Paired (fun a d => Own K G' H' a d) (mA vs ars) outs → RepN K H G' H' v r → Q v H') → Q v H' := fun {ρ' outs} e {G' σ' H'} g S' {v r} R k => by
    refine k G' v H' g S'.sub S'.new (fun b o e hb => S'.fr b o e fun i z => hb (mem_mA.mpr ⟨i, z⟩)) (fun a ha => ?_) (outs_ok hv (fun i d z => ?_) e) R
    · obtain ⟨i, hi⟩ := mem_mA.mp ha
      exact (S'.ioh i a hi).2.1
    · obtain ⟨a, q1, q2, q3⟩ := S'.io i d z
      exact ⟨a, q1, q3⟩
  cases o with
  | nx ρ' =>
    obtain ⟨ds, e2, e⟩ := bnd e
    cases e
    exact fun G' σ' H' g S' => fin e2 g S' (r := .pu .none) Dp.non k
  | rt v ρ' =>
    obtain ⟨v', e2, e⟩ := bnd e
    obtain ⟨ds, e3, e⟩ := bnd e
    cases e
    refine fun G' w σ' H' g S' R => fin e3 g S' ?_ k
    cases v with
    | pu d =>
      have e5 : some (Vl.pu d) = some r := e2
      cases e5
      exact R
    | nw d =>
      have e5 : some (Vl.nw d) = some r := e2
      cases e5
      obtain ⟨a, q0, q1, q2, q3, _⟩ := R
      exact ⟨a, q0, q2, q1, q3⟩
    | sl i =>
      have e6 : (match ρ'[i]? with
        | some (.own d) => some (Vl.nw d)
        | _ => none) = some r := e2
      split at e6
      · rename_i d z
        cases e6
        obtain ⟨a, q1, q2, q3, q4⟩ := S'.own i d z
        have e5 := R.2.symm.trans q1
        cases e5
        exact ⟨a, rfl, q3, q2, q4⟩
      · cases e6
  | bk ρ' => cases e
  | ct ρ' => cases e
end
section
variable {P : Program} {w : World} {K : PySem.W.Frag} {mg : Str → Option Value} {base : Heap} {x qual : Str} {params : Arguments} {body : List Stmt} {scope : Scope} {dvs : List V} {kws : List (Str × V)} {fa : Addr} {fd : FuncData}
theorem fn_ok {N ps : List Str} {k : Nat} {f : FS} (F : FunD K x qual params body scope dvs kws fa fd) (S : FnScope N ps scope) (hn : ps.length ≤ N.length)
    (hbody : ∀ (cdv : Value) (A : Around) (outer : List Env) (s : Shared) (H : Hp) (E : XK), Room k (A.deeper (envOfC qual scope s.heap.objs.size fa cdv)) → PDSs (cxOf CX0 P w K mg base N qual scope fa cdv A outer s H E) body f) :
    FnOk P w K mg base CX0 (k + 1) fa fd ps (spM K ps.length (runDef ps.length N.length f)) :=
  F.ok S (fun vs H Q E h => h.1) fun cdv A outer s H vs Q E hr h => ⟨tDS K f, hbody cdv A outer s H E hr, def_ok hn h⟩
end
end PL

/-! PL: the pure layer, 10: operators and built-ins on data. -/
namespace PL
open PySem PySem.Spec PyProof.Rows L2
section
variable {X : Cx} {K : PySem.W.Frag} {G G' H H' : Hp} {v : V} {d : D}

theorem opr_of {f : Value → Value → Sem Value} {R' : R2} (h : ∀ x y H Q, R' x y H Q → ∃ R, OpR X f R ∧ R x y H Q) : OpR X f R' := fun pins s σ H x y v u Q I rx ry q => by
  obtain ⟨R, hR, hq⟩ := h x y H Q q
  exact hR pins s σ H x y v u Q I rx ry hq
theorem callr_of {f : Value} {R' : List V → Hp → VK → Prop} (h : ∀ x H Q, R' x H Q → ∃ R, CallR X f R ∧ R x H Q) : CallR X f R' := fun pins s σ H x us Q I rx q => by
  obtain ⟨R, hR, hq⟩ := h x H Q q
  exact hR pins s σ H x us Q I rx hq
theorem ixr_of {R' : R2} (h : ∀ x y H Q, R' x y H Q → ∃ R, IxR X R ∧ R x y H Q) : IxR X R' := fun e1 e2 pins s σ H x y v u Q I rx ry q => by
  obtain ⟨R, hR, hq⟩ := h x y H Q q
  exact hR e1 e2 pins s σ H x y v u Q I rx ry hq
theorem slr_of {R' : V → Option Int → Option Int → Hp → VK → Prop} (h : ∀ x lo hi H Q, R' x lo hi H Q → ∃ R, SlR X R ∧ R x lo hi H Q) : SlR X R' := fun pins s σ H x v vl vu lo hi sl Q I rx hs pl pu q => by
  obtain ⟨R, hR, hq⟩ := h x lo hi H Q q
  exact hR pins s σ H x v vl vu lo hi sl Q I rx hs pl pu hq
theorem mtr_of {id : String} {R' : V → List V → Hp → VK → Prop} (h : ∀ x xs H Q, R' x xs H Q → ∃ R, MtR X id R ∧ R x xs H Q) : MtR X id R' := fun pins s σ H x xs v us Q I rx rs q => by
  obtain ⟨R, hR, hq⟩ := h x xs H Q q
  exact hR pins s σ H x xs v us Q I rx rs hq
theorem unr_of {f : Value → Sem Value} {R' : V → Hp → VK → Prop} (h : ∀ x H Q, R' x H Q → ∃ R, UnR X f R ∧ R x H Q) : UnR X f R' := fun pins s σ H x v Q I rx q => by
  obtain ⟨R, hR, hq⟩ := h x H Q q
  exact hR pins s σ H x v Q I rx hq

/-! ### data in a heap, read off -/
theorem dp_int {i : Int} (h : Dp K H v (.int i)) : v = .int i := by cases h; rfl
theorem dp_bool {i : Bool} (h : Dp K H v (.bool i)) : v = .bl i := by cases h; rfl
theorem dp_str {i : Str} (h : Dp K H v (.str i)) : v = .str i := by cases h; rfl
theorem dp_none (h : Dp K H v .none) : v = .non := by cases h; rfl
theorem dp_list {ds : List D} (h : Dp K H v (.list ds)) : ∃ a xs, v = .ref a ∧ SqL K H a xs ∧ DpAll K H xs ds := by
  cases h with
  | lst h1 h2 => exact ⟨_, _, rfl, h1, h2⟩
theorem dp_tuple {ds : List D} (h : Dp K H v (.tuple ds)) : ∃ a xs, v = .ref a ∧ SqT K H a xs ∧ DpAll K H xs ds := by
  cases h with
  | tup h1 h2 => exact ⟨_, _, rfl, h1, h2⟩
mutual
theorem dp_plain : ∀ (d : D) (v : V), Dp K H v d → d.plain = true
  | .none, _, _ => rfl
  | .bool _, _, _ => rfl
  | .int _, _, _ => rfl
  | .str _, _, _ => rfl
  | .list ds, _, h => by
    obtain ⟨a, xs, _, _, h2⟩ := dp_list h
    exact dps_plain ds xs h2
  | .tuple ds, _, h => by
    obtain ⟨a, xs, _, _, h2⟩ := dp_tuple h
    exact dps_plain ds xs h2
  | .dict _, _, h => by cases h
theorem dps_plain : ∀ (ds : List D) (vs : List V), DpAll K H vs ds → PyData.plainAll ds = true
  | [], _, _ => rfl
  | d :: ds, _, h => by
    cases h with
    | cons h1 h2 =>
      show (d.plain && PyData.plainAll ds) = true
      rw [dp_plain d _ h1, dps_plain ds _ h2]
      rfl
end
theorem dps_ints : ∀ {ns : List Int} {xs : List V}, DpAll K H xs (ns.map .int) → xs = ns.map V.int
  | [], _, h => by cases h; rfl
  | n :: ns, _, h => by
    cases (show DpAll K H _ (.int n :: ns.map .int) from h) with
    | cons h1 h2 => rw [dp_int h1, dps_ints h2]; rfl
theorem ints_dps : ∀ {ns : List Int}, DpAll K H (ns.map V.int) (ns.map .int)
  | [] => .nil
  | n :: ns => .cons (.int n) ints_dps
theorem dps_bools : ∀ {ns : List Bool} {xs : List V}, DpAll K H xs (ns.map .bool) → xs = ns.map V.bl
  | [], _, h => by cases h; rfl
  | n :: ns, _, h => by
    cases (show DpAll K H _ (.bool n :: ns.map .bool) from h) with
    | cons h1 h2 => rw [dp_bool h1, dps_bools h2]; rfl
theorem dps_strs : ∀ {ns : List Str} {xs : List V}, DpAll K H xs (ns.map .str) → xs = ns.map V.str
  | [], _, h => by cases h; rfl
  | n :: ns, _, h => by
    cases (show DpAll K H _ (.str n :: ns.map .str) from h) with
    | cons h1 h2 => rw [dp_str h1, dps_strs h2]; rfl
/-- all ints -/
def intsOf : List D → Option (List Int)
  | [] => some []
  | .int i :: ds => (intsOf ds).bind fun ns => some (i :: ns)
  | _ => none
theorem intsOf_eq : ∀ {ds : List D} {ns : List Int}, intsOf ds = some ns → ds = ns.map .int
  | [], _, h => by cases h; rfl
  | d :: ds, ns, h => by
    cases d with
    | int i =>
      obtain ⟨ms, h1, h2⟩ := bnd h
      cases h2
      rw [intsOf_eq h1]; rfl
    | _ => cases h
theorem intsOf_map : ∀ (ns : List Int), intsOf (ns.map .int) = some ns
  | [] => rfl
  | n :: ns => by
    show (intsOf (ns.map .int)).bind _ = _
    rw [intsOf_map ns]; rfl
def boolsOf : List D → Option (List Bool)
  | [] => some []
  | .bool i :: ds => (boolsOf ds).bind fun ns => some (i :: ns)
  | _ => none
theorem boolsOf_eq : ∀ {ds : List D} {ns : List Bool}, boolsOf ds = some ns → ds = ns.map .bool
  | [], _, h => by cases h; rfl
  | d :: ds, ns, h => by
    cases d with
    | bool i =>
      obtain ⟨ms, h1, h2⟩ := bnd h
      cases h2
      rw [boolsOf_eq h1]; rfl
    | _ => cases h
theorem boolsOf_map : ∀ (ns : List Bool), boolsOf (ns.map .bool) = some ns
  | [] => rfl
  | n :: ns => by
    show (boolsOf (ns.map .bool)).bind _ = _
    rw [boolsOf_map ns]; rfl
def strsOf : List D → Option (List Str)
  | [] => some []
  | .str i :: ds => (strsOf ds).bind fun ns => some (i :: ns)
  | _ => none
theorem strsOf_eq : ∀ {ds : List D} {ns : List Str}, strsOf ds = some ns → ds = ns.map .str
  | [], _, h => by cases h; rfl
  | d :: ds, ns, h => by
    cases d with
    | str i =>
      obtain ⟨ms, h1, h2⟩ := bnd h
      cases h2
      rw [strsOf_eq h1]; rfl
    | _ => cases h
theorem strsOf_map : ∀ (ns : List Str), strsOf (ns.map .str) = some ns
  | [] => rfl
  | n :: ns => by
    show (strsOf (ns.map .str)).bind _ = _
    rw [strsOf_map ns]; rfl

/-! ### answers -/
theorem fin_int {Q : VK} {i : Int} (s : Same G H) (k : ∀ G' v H', Grow G H G' H' → RepN K H G' H' v (.pu (.int i)) → Q v H') : Q (.int i) H := k G _ H (Grow.refl s) (Dp.int i)
theorem fin_bool {Q : VK} {i : Bool} (s : Same G H) (k : ∀ G' v H', Grow G H G' H' → RepN K H G' H' v (.pu (.bool i)) → Q v H') : Q (.bl i) H := k G _ H (Grow.refl s) (Dp.bl i)
theorem fin_str {Q : VK} {i : Str} (s : Same G H) (k : ∀ G' v H', Grow G H G' H' → RepN K H G' H' v (.pu (.str i)) → Q v H') : Q (.str i) H := k G _ H (Grow.refl s) (Dp.str i)
theorem fin_list {Q : VK} {xs : List V} {ds : List D} (s : Same G H) (hd : DpAll K G xs ds) (k : ∀ G' v H', Grow G H G' H' → RepN K H G' H' v (.nw (.list ds)) → Q v H') : ∀ p, H p = none → Q (.ref p) (upd H p (.lst xs)) := fun p hp =>
  k _ _ _ (grow_nw s hp) (repN_lst s hp hd)
theorem fin_tup {Q : VK} {xs : List V} {ds : List D} (s : Same G H) (hd : DpAll K G xs ds) (k : ∀ G' v H', Grow G H G' H' → RepN K H G' H' v (.pu (.tuple ds)) → Q v H') : ∀ p, H p = none → Q (.ref p) (upd H p (.tup xs)) := fun p hp =>
  k _ _ _ (grow_new s hp) (dp_tup s hp hd)
theorem fin_same {Q : VK} (s : Same G H) (hd : Dp K G v d) (k : ∀ G' v H', Grow G H G' H' → RepN K H G' H' v (.pu d) → Q v H') : Q v H := k G v H (Grow.refl s) hd
theorem top_list {ds : List D} (h : Top K G H v (.list ds)) (s : Same G H) : ∃ a xs, v = .ref a ∧ SqL K H a xs ∧ DpAll K G xs ds := by
  rcases h with h | ⟨a, rfl, _, xs, h1, h2⟩
  · obtain ⟨a, xs, h1, h2, h3⟩ := dp_list h
    exact ⟨a, xs, h1, s.seq h2, h3⟩
  · exact ⟨a, xs, rfl, .inl (.inl h1), h2⟩
theorem top_tuple {ds : List D} (h : Top K G H v (.tuple ds)) (s : Same G H) : ∃ a xs, v = .ref a ∧ SqT K H a xs ∧ DpAll K G xs ds ∧ Dp K G v (.tuple ds) := by
  rcases h with h | ⟨a, rfl, _, h⟩
  · obtain ⟨a, xs, h1, h2, h3⟩ := dp_tuple h
    exact ⟨a, xs, h1, seqT s h2, h3, h⟩
  · exact h.elim
theorem top_int {i : Int} (h : Top K G H v (.int i)) : v = .int i := by
  rcases h with h | ⟨a, rfl, _, h⟩
  · exact dp_int h
  · exact h.elim
theorem top_bool {i : Bool} (h : Top K G H v (.bool i)) : v = .bl i := by
  rcases h with h | ⟨a, rfl, _, h⟩
  · exact dp_bool h
  · exact h.elim
theorem top_str {i : Str} (h : Top K G H v (.str i)) : v = .str i := by
  rcases h with h | ⟨a, rfl, _, h⟩
  · exact dp_str h
  · exact h.elim
theorem top_none (h : Top K G H v .none) : v = .non := by
  rcases h with h | ⟨a, rfl, _, h⟩
  · exact dp_none h
  · exact h.elim

/-! ### ints -/
def onInts (f : Int → Int → Option D) : D → D → Option D
  | .int i, .int j => f i j
  | _, _ => none
theorem onInts_eq {f : Int → Int → Option D} {a b r : D} (h : onInts f a b = some r) : ∃ i j, a = .int i ∧ b = .int j ∧ f i j = some r := by
  cases a with
  | int i =>
    cases b with
    | int j => exact ⟨i, j, rfl, rfl, h⟩
    | _ => cases h
  | _ => cases h
def opSub : D → D → Option D := onInts fun i j => some (.int (i - j))
theorem so_sub : OpR X (binaryOp .Sub) (rN X.K .pu opSub) := opr_of fun x y H Q q => by
  obtain ⟨G, d, e, r, s, hx, hy, o, k⟩ := q
  obtain ⟨i, j, rfl, rfl, o⟩ := onInts_eq o
  cases o
  exact ⟨_, op_sub, i, j, top_int hx, top_int hy, fin_int s k⟩
def opFdiv : D → D → Option D := onInts fun i j => if 0 < j ∧ j < 1073741824 then some (.int (i / j)) else none
theorem so_fdiv : OpR X (binaryOp .FloorDiv) (rN X.K .pu opFdiv) := opr_of fun x y H Q q => by
  obtain ⟨G, d, e, r, s, hx, hy, o, k⟩ := q
  obtain ⟨i, j, rfl, rfl, o2⟩ := onInts_eq o
  by_cases hc : 0 < j ∧ j < 1073741824
  · rw [if_pos hc] at o2
    cases o2
    exact ⟨_, op_fdiv, i, j, top_int hx, top_int hy, hc, fin_int s k⟩
  · rw [if_neg hc] at o2; cases o2
def opMod : D → D → Option D := onInts fun i j => if 0 < j then some (.int (i % j)) else none
theorem so_mod : OpR X (binaryOp .Mod) (rN X.K .pu opMod) := opr_of fun x y H Q q => by
  obtain ⟨G, d, e, r, s, hx, hy, o, k⟩ := q
  obtain ⟨i, j, rfl, rfl, o2⟩ := onInts_eq o
  by_cases hc : 0 < j
  · rw [if_pos hc] at o2
    cases o2
    exact ⟨_, op_mod, i, j, top_int hx, top_int hy, hc, fin_int s k⟩
  · rw [if_neg hc] at o2; cases o2
def opPow : D → D → Option D := onInts fun i j => if 0 ≤ j ∧ j ≤ 1000000 ∧ i.natAbs < 2 ^ 64 then some (.int (i ^ j.toNat)) else none
theorem so_pow : OpR X (binaryOp .Pow) (rN X.K .pu opPow) := opr_of fun x y H Q q => by
  obtain ⟨G, d, e, r, s, hx, hy, o, k⟩ := q
  obtain ⟨i, j, rfl, rfl, o2⟩ := onInts_eq o
  by_cases hc : 0 ≤ j ∧ j ≤ 1000000 ∧ i.natAbs < 2 ^ 64
  · rw [if_pos hc] at o2
    cases o2
    exact ⟨_, op_pow, i, j, top_int hx, top_int hy, hc, fin_int s k⟩
  · rw [if_neg hc] at o2; cases o2
def opLt : D → D → Option D := onInts fun i j => some (.bool (decide (i < j)))
def opLe : D → D → Option D := onInts fun i j => some (.bool (decide (i ≤ j)))
def opGt : D → D → Option D := onInts fun i j => some (.bool (decide (j < i)))
def opGe : D → D → Option D := onInts fun i j => some (.bool (decide (j ≤ i)))
theorem so_lt : OpR X (compareOp .Lt) (rN X.K .pu opLt) := opr_of fun x y H Q q => by
  obtain ⟨G, d, e, r, s, hx, hy, o, k⟩ := q
  obtain ⟨i, j, rfl, rfl, o⟩ := onInts_eq o
  cases o
  exact ⟨_, op_lt, i, j, top_int hx, top_int hy, fin_bool s k⟩
theorem so_le : OpR X (compareOp .LtE) (rN X.K .pu opLe) := opr_of fun x y H Q q => by
  obtain ⟨G, d, e, r, s, hx, hy, o, k⟩ := q
  obtain ⟨i, j, rfl, rfl, o⟩ := onInts_eq o
  cases o
  exact ⟨_, op_le, i, j, top_int hx, top_int hy, fin_bool s k⟩
theorem so_gt : OpR X (compareOp .Gt) (rN X.K .pu opGt) := opr_of fun x y H Q q => by
  obtain ⟨G, d, e, r, s, hx, hy, o, k⟩ := q
  obtain ⟨i, j, rfl, rfl, o⟩ := onInts_eq o
  cases o
  exact ⟨_, op_gt, i, j, top_int hx, top_int hy, fin_bool s k⟩
theorem so_ge : OpR X (compareOp .GtE) (rN X.K .pu opGe) := opr_of fun x y H Q q => by
  obtain ⟨G, d, e, r, s, hx, hy, o, k⟩ := q
  obtain ⟨i, j, rfl, rfl, o⟩ := onInts_eq o
  cases o
  exact ⟨_, op_ge, i, j, top_int hx, top_int hy, fin_bool s k⟩
def opNeg : D → Option D
  | .int i => some (.int (-i))
  | _ => none
/-- one-place operators: ints -/
theorem pd_neg {a : Expr} {f : FE} {pos : Pos} (ha : PD X a f) : PD X (.UnaryOp .USub a pos) (cOp opNeg f) := by
  refine ⟨pe_w (pe_un un_neg ha.pe) fun σ H Q q => ?_, fun ρ r ρ' q => ?_⟩
  · obtain ⟨ioA, G0, H0, G, ρ, r, ρ', S, e, k⟩ := q
    obtain ⟨⟨r1, ρ1⟩, e1, e⟩ := bnd e
    obtain ⟨x, ex, e⟩ := bnd e
    obtain ⟨z, ez, e⟩ := bnd e
    cases e
    refine ⟨ioA, G0, H0, G, ρ, r1, ρ1, S, e1, fun G1 v1 H1 g1 S1 R1 => ?_⟩
    cases x with
    | int i =>
      cases ez
      have hv : v1 = .int i := by
        cases r1 with
        | pu d => cases ex; exact dp_int R1
        | nw d =>
          cases ex
          obtain ⟨_, _, _, _, h, _⟩ := R1
          exact h.elim
        | sl j =>
          obtain ⟨b, d', h1, h2, h3, h4⟩ := S1.mt R1.1
          have e5 : some (PyData.int i) = some d' := ex.symm.trans h4
          cases e5
          exact h3.elim
      exact ⟨i, hv, k G1 _ H1 g1 S1 (Dp.int _)⟩
    | _ => cases ez
  · obtain ⟨⟨r1, ρ1⟩, e1, e⟩ := bnd q
    obtain ⟨x, ex, e⟩ := bnd e
    obtain ⟨z, ez, e⟩ := bnd e
    cases e
    exact ha.kin _ _ _ e1

/-! ### + and * -/
def rCatL (K : PySem.W.Frag) : R2 := fun x y H Q => ∃ l b xs zs, x = .ref l ∧ y = .ref b ∧ SqL K H l xs ∧ SqL K H b zs ∧ xs.length + zs.length ≤ sizeLine ∧ ∀ p, H p = none → Q (.ref p) (upd H p (.lst (xs ++ zs)))
theorem op_catL : OpR X (binaryOp .Add) (rCatL X.K) := by
  intro pins s σ H x y v u Q I rx ry h
  obtain ⟨l, b, xs, zs, rfl, rfl, hH, hB, hz, q⟩ := h
  cases rx
  cases ry
  obtain ⟨its, r, ⟨⟨cls, dd, data, sl⟩, n, ho, hc, _, hd⟩, z⟩ := I.list hH
  obtain ⟨its2, r2, ⟨⟨cls2, dd2, data2, sl2⟩, n2, ho2, hc2, _, hd2⟩, z2⟩ := I.list hB
  simp only at hc hd hc2 hd2
  subst hc hd hc2 hd2
  have h1 := r.length
  have h2 := r2.length
  refine concat_meets ⟨_, ho, rfl⟩ ⟨_, ho2, rfl⟩ noFill_list_add seq_list_add PySem.F.slot_list_add PySem.F.entry_list_add (PySem.F.args_list_add_2 _ _) (list_addW l b its.toArray its2.toArray n n2 dd dd2 sl sl2 (by rw [List.size_toArray, List.size_toArray]; omega)) ⟨ho, ho2, ?_⟩
  have ea : its.toArray ++ its2.toArray = (its ++ its2).toArray := by simp
  rw [ea]
  exact ⟨.ref _, _, I.lnew (t' := s.toks) (r.append r2) (by rw [List.length_append]; omega), rfl, q _ I.fresh⟩
def opAdd : D → D → Option D
  | .int i, .int j => some (.int (i + j))
  | .str x, .str y => if x.length + y.length ≤ lineN then some (.str (x ++ y)) else none
  | .list xs, .list ys => if xs.length + ys.length ≤ lineN then some (.list (xs ++ ys)) else none
  | .tuple xs, .tuple ys => if xs.length + ys.length ≤ lineN then some (.tuple (xs ++ ys)) else none
  | _, _ => none
theorem so_add : OpR X (binaryOp .Add) (rN X.K mk opAdd) := opr_of fun x y H Q q => by
  obtain ⟨G, d, e, r, s, hx, hy, o, k⟩ := q
  unfold opAdd at o
  split at o
  · cases o
    exact ⟨_, op_add, _, _, top_int hx, top_int hy, fin_int s k⟩
  · split at o <;> cases o
    rename_i hz
    exact ⟨_, op_add_str, _, _, top_str hx, top_str hy, by rw [← lineN_eq]; exact hz, fin_str s k⟩
  · split at o <;> cases o
    rename_i hz
    obtain ⟨a, us, e1, h1, h2⟩ := top_list hx s
    obtain ⟨b, vs, e2, h3, h4⟩ := top_list hy s
    exact ⟨_, op_catL, a, b, us, vs, e1, e2, h1, h3, by rw [dps_len h2, dps_len h4, ← lineN_eq]; exact hz, fin_list s (dps_app h2 h4) k⟩
  · rename_i ds es
    split at o <;> cases o
    rename_i hz
    obtain ⟨a, us, e1, h1, h2, h5⟩ := top_tuple hx s
    obtain ⟨b, vs, e2, h3, h4, h6⟩ := top_tuple hy s
    refine ⟨_, op_catA, a, b, us, vs, e1, e2, h1, h3, by rw [dps_len h2, dps_len h4, ← lineN_eq]; exact hz, fun z => ?_, fun z z2 => ?_, fun _ _ => fin_tup s (dps_app h2 h4) k⟩
    · subst z
      cases h2
      subst e2
      exact fin_same s h6 k
    · subst z2
      cases h4
      subst e1
      rw [List.append_nil] at k
      exact fin_same s h5 k
  · cases o

/-! ### == and in -/
def opEq : D → D → Option D := fun a b => if min a.depth b.depth ≤ 64 then some (.bool (PyData.eqv a b)) else none
def opNe : D → D → Option D := fun a b => if min a.depth b.depth ≤ 64 then some (.bool (!PyData.eqv a b)) else none
def rEqP (K : PySem.W.Frag) : R2 := fun x y H Q => ∃ d e, Dp K H x d ∧ Dp K H y e ∧ min d.depth e.depth ≤ 64 ∧ Q (.bl (PyData.eqv d e)) H
def rNeP (K : PySem.W.Frag) : R2 := fun x y H Q => ∃ d e, Dp K H x d ∧ Dp K H y e ∧ min d.depth e.depth ≤ 64 ∧ Q (.bl (!PyData.eqv d e)) H
theorem op_eqP (hu : X.A.units + 65 < cLine) : OpR X (compareOp .Eq) (rEqP X.K) := by
  intro pins s σ H x y v u Q I rx ry h
  obtain ⟨d, e, hd, he, sd, q⟩ := h
  obtain ⟨as, r1⟩ := Dp.reads I d x v hd rx
  obtain ⟨bs, r2⟩ := Dp.reads I e y u he ry
  exact SeqAt.eq_plain r1 r2 (dp_plain d x hd) (dp_plain e y he) (by omega) ⟨.bl _, H, I, rfl, q⟩
theorem op_neP (hu : X.A.units + 65 < cLine) : OpR X (compareOp .NotEq) (rNeP X.K) := by
  intro pins s σ H x y v u Q I rx ry h
  obtain ⟨d, e, hd, he, sd, q⟩ := h
  obtain ⟨as, r1⟩ := Dp.reads I d x v hd rx
  obtain ⟨bs, r2⟩ := Dp.reads I e y u he ry
  exact SeqAt.ne_plain r1 r2 (dp_plain d x hd) (dp_plain e y he) (by omega) ⟨.bl _, H, I, rfl, q⟩
theorem so_eq (hu : X.A.units + 65 < cLine) : OpR X (compareOp .Eq) (rN X.K .pu opEq) := opr_of fun x y H Q q => by
  obtain ⟨G, d, e, r, s, hx, hy, o, k⟩ := q
  unfold opEq at o
  split at o <;> cases o
  rename_i hz
  exact ⟨_, op_eqP hu, d, e, hx.dp s, hy.dp s, hz, fin_bool s k⟩
theorem so_ne (hu : X.A.units + 65 < cLine) : OpR X (compareOp .NotEq) (rN X.K .pu opNe) := opr_of fun x y H Q q => by
  obtain ⟨G, d, e, r, s, hx, hy, o, k⟩ := q
  unfold opNe at o
  split at o <;> cases o
  rename_i hz
  exact ⟨_, op_neP hu, d, e, hx.dp s, hy.dp s, hz, fin_bool s k⟩
def opIn0 (neg : Bool) : D → D → Option D
  | .str ⟨x⟩, .str y => match x.toList with
    | [c] => some (.bool (neg ^^ decide (c ∈ y.cps.toList)))
    | _ => none
  | d, .list ds => if min (PyData.depthAll ds) d.depth ≤ 64 then some (.bool (neg ^^ ds.any fun z => PyData.eqv z d)) else none
  | d, .tuple ds => if min (PyData.depthAll ds) d.depth ≤ 64 then some (.bool (neg ^^ ds.any fun z => PyData.eqv z d)) else none
  | _, _ => none
def opIn := opIn0 false
def opNotIn := opIn0 true
def rInP (K : PySem.W.Frag) (neg : Bool) : R2 := fun x y H Q => ∃ d ds, Dp K H x d ∧ (Dp K H y (.list ds) ∨ Dp K H y (.tuple ds)) ∧ min (PyData.depthAll ds) d.depth ≤ 64 ∧ Q (.bl (neg ^^ ds.any fun z => PyData.eqv z d)) H
theorem op_inP (hu : X.A.units + 65 < cLine) : OpR X (compareOp .In) (rInP X.K false) := by
  intro pins s σ H x y v u Q I rx ry h
  obtain ⟨d, ds, hd, he, sd, q⟩ := h
  rw [Bool.false_xor] at q
  obtain ⟨as, r1⟩ := Dp.reads I d x v hd rx
  rcases he with he | he
  · obtain ⟨bs, r2⟩ := Dp.reads I _ y u he ry
    exact SeqAt.in_list_data r2 r1 (dp_plain (.list ds) y he) (dp_plain d x hd) (by omega) ⟨.bl _, H, I, rfl, q⟩
  · obtain ⟨bs, r2⟩ := Dp.reads I _ y u he ry
    exact SeqAt.in_tuple_data r2 r1 (dp_plain (.tuple ds) y he) (dp_plain d x hd) (by omega) ⟨.bl _, H, I, rfl, q⟩
theorem op_notInP (hu : X.A.units + 65 < cLine) : OpR X (compareOp .NotIn) (rInP X.K true) := by
  intro pins s σ H x y v u Q I rx ry h
  obtain ⟨d, ds, hd, he, sd, q⟩ := h
  rw [Bool.true_xor] at q
  obtain ⟨as, r1⟩ := Dp.reads I d x v hd rx
  rcases he with he | he
  · obtain ⟨bs, r2⟩ := Dp.reads I _ y u he ry
    exact SeqAt.notIn_list_data r2 r1 (dp_plain (.list ds) y he) (dp_plain d x hd) (by omega) ⟨.bl _, H, I, rfl, q⟩
  · obtain ⟨bs, r2⟩ := Dp.reads I _ y u he ry
    exact SeqAt.notIn_tuple_data r2 r1 (dp_plain (.tuple ds) y he) (dp_plain d x hd) (by omega) ⟨.bl _, H, I, rfl, q⟩
theorem opIn_cases {neg : Bool} {d e r : D} (o : opIn0 neg d e = some r) : (∃ c z, d = .str ⟨#[c]⟩ ∧ e = .str z ∧ r = .bool (neg ^^ decide (c ∈ z.cps.toList))) ∨
    ∃ ds, (e = .list ds ∨ e = .tuple ds) ∧ min (PyData.depthAll ds) d.depth ≤ 64 ∧ r = .bool (neg ^^ ds.any fun z => PyData.eqv z d) := by
  unfold opIn0 at o
  split at o
  · rename_i x y
    split at o
    · rename_i c hc
      cases o
      refine .inl ⟨c, y, ?_, rfl, rfl⟩
      have : x = #[c] := by rw [← Array.toArray_toList (xs := x), hc]
      rw [this]
    · cases o
  · split at o <;> cases o
    rename_i hz
    exact .inr ⟨_, .inl rfl, hz, rfl⟩
  · split at o <;> cases o
    rename_i hz
    exact .inr ⟨_, .inr rfl, hz, rfl⟩
  · cases o
theorem so_in (hu : X.A.units + 65 < cLine) : OpR X (compareOp .In) (rN X.K .pu opIn) := opr_of fun x y H Q q => by
  obtain ⟨G, d, e, r, s, hx, hy, o, k⟩ := q
  rcases opIn_cases o with ⟨c, z, rfl, rfl, rfl⟩ | ⟨ds, he, hz, rfl⟩
  · refine ⟨_, op_in_sign, c, z, top_str hx, top_str hy, ?_⟩
    rw [Bool.false_xor] at k
    exact fin_bool s k
  · refine ⟨_, op_inP hu, d, ds, hx.dp s, ?_, hz, fin_bool s k⟩
    rcases he with rfl | rfl
    · exact .inl (hy.dp s)
    · exact .inr (hy.dp s)
theorem so_notIn (hu : X.A.units + 65 < cLine) : OpR X (compareOp .NotIn) (rN X.K .pu opNotIn) := opr_of fun x y H Q q => by
  obtain ⟨G, d, e, r, s, hx, hy, o, k⟩ := q
  rcases opIn_cases o with ⟨c, z, rfl, rfl, rfl⟩ | ⟨ds, he, hz, rfl⟩
  · refine ⟨_, op_notIn_sign, c, z, top_str hx, top_str hy, ?_⟩
    rw [Bool.true_xor] at k
    exact fin_bool s k
  · refine ⟨_, op_notInP hu, d, ds, hx.dp s, ?_, hz, fin_bool s k⟩
    rcases he with rfl | rfl
    · exact .inl (hy.dp s)
    · exact .inr (hy.dp s)
def isN : D → Bool
  | .none => true
  | _ => false
def opIs : D → D → Option D
  | d, .none => some (.bool (isN d))
  | _, _ => none
def opIsNot : D → D → Option D
  | d, .none => some (.bool (!isN d))
  | _, _ => none
theorem top_isN (h : Top K G H v d) : decide (v = .non) = isN d := by
  rcases h with h | ⟨a, rfl, _, h⟩
  · cases h <;> simp [isN]
  · cases d with
    | list ds => simp [isN]
    | _ => exact h.elim
theorem so_is : OpR X (compareOp .Is) (rN X.K .pu opIs) := opr_of fun x y H Q q => by
  obtain ⟨G, d, e, r, s, hx, hy, o, k⟩ := q
  unfold opIs at o
  split at o <;> cases o
  exact ⟨_, op_isN, top_none hy, by rw [top_isN hx]; exact fin_bool s k⟩
theorem so_isNot : OpR X (compareOp .IsNot) (rN X.K .pu opIsNot) := opr_of fun x y H Q q => by
  obtain ⟨G, d, e, r, s, hx, hy, o, k⟩ := q
  unfold opIsNot at o
  split at o <;> cases o
  exact ⟨_, op_notN, top_none hy, by rw [top_isN hx]; exact fin_bool s k⟩
end
end PL

/-! PL: the pure layer, 11: times, turned round, subscripts, slices. -/
namespace PL
open PySem PySem.Spec PyProof.Rows L2
/-! ### tuple * int, all cases -/
theorem tuple_mul1 (l : Addr) (items : Array Value) (n : Nat) (dd : Option Addr) (sl : Array (Option Value)) (x : Int) (u : Tok) (c0 : (decide (x < -(2 ^ 63)) || decide (x ≥ 2 ^ 63)) = false) (c1 : (items.isEmpty || x == 1) = true) :
    Meets (Builtin.«tuple.__mul__» ⟨[.ref l, .int x u], []⟩) (fun _ R s => s.heap.get? l = some { cls := .type "tuple", dict := dd, data := .seq items n, slots := sl } ∧ R (.ok (.ret (Value.ref l))) s) :=
  .of_wp fun prog w A R s h => by
    obtain ⟨hp, g, d, tk, os⟩ := s
    obtain ⟨hl, h⟩ := h
    have f1 := AutoSeq1.idx_int
    wp_walk using wpAny_loadPart' hl
    repeat (first
      | (refine wpAny_ite_false (decide_eq_false (by rw [c0]; exact Bool.false_ne_true)) ?_; wp_walk using wpAny_loadPart' hl)
      | (refine wpAny_ite_true (decide_eq_true (by rw [c1])) ?_; wp_walk using wpAny_loadPart' hl))
    exact ⟨_, rfl, h⟩
theorem tuple_mul0 (l : Addr) (items : Array Value) (n : Nat) (dd : Option Addr) (sl : Array (Option Value)) (x : Int) (u : Tok) (c0 : (decide (x < -(2 ^ 63)) || decide (x ≥ 2 ^ 63)) = false) (c1 : (items.isEmpty || x == 1) = false) (c2 : (decide (x ≤ 0) || items.isEmpty) = true) :
    Meets (Builtin.«tuple.__mul__» ⟨[.ref l, .int x u], []⟩) (fun _ R s => s.heap.get? l = some { cls := .type "tuple", dict := dd, data := .seq items n, slots := sl } ∧
      R (.ok (.ret (Value.ref s.heap.objs.size))) { s with heap := s.heap.push { cls := Value.type "tuple", data := Data.seq #[] }, toks := s.toks }) :=
  .of_wp fun prog w A R s h => by
    obtain ⟨hp, g, d, tk, os⟩ := s
    obtain ⟨hl, h⟩ := h
    have f1 := AutoSeq1.idx_int
    wp_walk using wpAny_loadPart' hl
    repeat (first
      | (refine wpAny_ite_false (decide_eq_false (by rw [c0]; exact Bool.false_ne_true)) ?_; wp_walk using wpAny_loadPart' hl)
      | (refine wpAny_ite_false (decide_eq_false (by rw [c1]; exact Bool.false_ne_true)) ?_; wp_walk using wpAny_loadPart' hl)
      | (refine wpAny_ite_true (decide_eq_true (by rw [c2])) ?_; wp_walk using wpAny_loadPart' hl))
    exact ⟨_, rfl, h⟩
section
variable {X : Cx} {K : PySem.W.Frag} {G G' H H' : Hp} {v : V} {d : D}
theorem dps_rep {xs : List V} {ds : List D} (h : DpAll K G xs ds) : ∀ n, DpAll K G (List.replicate n xs).flatten (List.replicate n ds).flatten
  | 0 => .nil
  | n + 1 => by
    rw [List.replicate_succ, List.replicate_succ, List.flatten_cons, List.flatten_cons]
    exact dps_app h (dps_rep h n)
/-- tuple * int, any small count -/
def rRepA (K : PySem.W.Frag) : R2 := fun x y H Q => ∃ l k xs, x = .ref l ∧ y = .int k ∧ SqT K H l xs ∧ -1000000 ≤ k ∧ k ≤ 1000000 ∧ xs.length * k.toNat ≤ 1000000 ∧
  ((xs = [] ∨ k = 1) → Q (.ref l) H) ∧ (xs ≠ [] → k ≤ 0 → ∀ p, H p = none → Q (.ref p) (upd H p (.tup []))) ∧
  (xs ≠ [] → 2 ≤ k → ∀ p, H p = none → Q (.ref p) (upd H p (.tup (List.replicate k.toNat xs).flatten)))
theorem op_repA : OpR X (binaryOp .Mult) (rRepA X.K) := by
  intro pins s σ H x y v u Q I rx ry h
  obtain ⟨l, k, xs, rfl, rfl, hT, h1, h2, hz, q1, q2, q3⟩ := h
  cases rx
  obtain ⟨t, rfl⟩ := ry
  obtain ⟨its, r, ⟨⟨cls, dd, data, sl⟩, ho, hc, n, hd⟩, hs⟩ := I.tuple hT
  simp only at hc hd
  subst hc hd
  have hle : its.length = xs.length := r.length.symm
  have hsz0 : its.toArray.size = xs.length := by rw [List.size_toArray, hle]
  have hi : its.toArray.isEmpty = xs.isEmpty := by
    cases its with
    | nil => rw [List.eq_nil_of_length_eq_zero hle.symm]; rfl
    | cons a b =>
      cases xs with
      | nil => cases hle
      | cons a b => rfl
  have c0 : (decide (k < -(2 ^ 63)) || decide (k ≥ 2 ^ 63)) = false := by
    rw [decide_eq_false (by omega), decide_eq_false (by omega)] <;> rfl
  have road : ∀ {R : Result → Shared → Prop}, True := trivial
  by_cases a1 : xs = [] ∨ k = 1
  · have c1 : (its.toArray.isEmpty || k == 1) = true := by
      rw [hi]
      rcases a1 with e | e
      · rw [e]; rfl
      · rw [e]; simp
    refine wpAny_binaryOp_repeat_ref (T := "tuple") (U := "int") (by decide) ⟨_, ho, rfl⟩ (fun s' => typeIs_int s' k t) noFill_tuple_mul F.fills_int_mul F.slot_int_rmul repeat_tuple F.slot_int_index.lookup
      (call_meets F.slot_int_rmul (typeIs_int s k t) F.entry_int_rmul (F.args_int_rmul_2 _ _) (int_rmul_tuple k t l its.toArray n dd sl)
        ⟨ho, rfl, ⟨_, ho, rfl⟩, call_meets F.slot_tuple_mul ⟨_, ho, rfl⟩ F.entry_tuple_mul (F.args_tuple_mul_2 _ _) (tuple_mul1 l its.toArray n dd sl k t c0 c1) ⟨ho, ?_⟩⟩)
    exact ⟨.ref l, H, I, rfl, q1 a1⟩
  · have hne : xs ≠ [] := fun e => a1 (.inl e)
    have hk1 : k ≠ 1 := fun e => a1 (.inr e)
    have he : xs.isEmpty = false := by cases xs with
      | nil => exact absurd rfl hne
      | cons a b => rfl
    have c1 : (its.toArray.isEmpty || k == 1) = false := by
      rw [hi, he, Bool.false_or]
      exact beq_eq_false_iff_ne.mpr hk1
    by_cases a2 : k ≤ 0
    · have c2 : (decide (k ≤ 0) || its.toArray.isEmpty) = true := by rw [decide_eq_true a2]; rfl
      refine wpAny_binaryOp_repeat_ref (T := "tuple") (U := "int") (by decide) ⟨_, ho, rfl⟩ (fun s' => typeIs_int s' k t) noFill_tuple_mul F.fills_int_mul F.slot_int_rmul repeat_tuple F.slot_int_index.lookup
        (call_meets F.slot_int_rmul (typeIs_int s k t) F.entry_int_rmul (F.args_int_rmul_2 _ _) (int_rmul_tuple k t l its.toArray n dd sl)
          ⟨ho, rfl, ⟨_, ho, rfl⟩, call_meets F.slot_tuple_mul ⟨_, ho, rfl⟩ F.entry_tuple_mul (F.args_tuple_mul_2 _ _) (tuple_mul0 l its.toArray n dd sl k t c0 c1 c2) ⟨ho, ?_⟩⟩)
      refine ⟨.ref s.heap.objs.size, _, I.laid (t' := s.toks) (o := .tup []) (fun b ob q => Heap.get?_push_of_some _ q) (Nat.le_refl _) ?_, rfl, q2 hne a2 _ (I.hok.fresh (Nat.le_refl _))⟩
      exact ⟨Nat.zero_le _, [], .nil, IsTup.new _ _⟩
    · have c2 : (decide (k ≤ 0) || its.toArray.isEmpty) = false := by
        rw [hi, he, Bool.or_false]
        exact decide_eq_false a2
      have hm : ((its.toArray.size : Nat) : Int) * k ≤ 1000000 := by
        rw [hsz0]
        have e : ((xs.length * k.toNat : Nat) : Int) = (xs.length : Int) * k := by rw [Int.natCast_mul, Int.toNat_of_nonneg (by omega)]
        omega
      have flen : (List.replicate k.toNat its).flatten.length ≤ sizeLine := by
        rw [PyProof.Rows.lm_len_rep_flat, hle, sizeLine_eq, Nat.mul_comm]
        omega
      have c4 : Builtin.Tuple.tupleTooMany (((its.toArray.size : Nat) : Int) * k) = false := by
        unfold Builtin.Tuple.tupleTooMany
        rw [sizeLine_eq]
        exact decide_eq_false (by omega)
      refine wpAny_binaryOp_repeat_ref (T := "tuple") (U := "int") (by decide) ⟨_, ho, rfl⟩ (fun s' => typeIs_int s' k t) noFill_tuple_mul F.fills_int_mul F.slot_int_rmul repeat_tuple F.slot_int_index.lookup
        (call_meets F.slot_int_rmul (typeIs_int s k t) F.entry_int_rmul (F.args_int_rmul_2 _ _) (int_rmul_tuple k t l its.toArray n dd sl)
          ⟨ho, rfl, ⟨_, ho, rfl⟩, call_meets F.slot_tuple_mul ⟨_, ho, rfl⟩ F.entry_tuple_mul (F.args_tuple_mul_2 _ _) (tuple_mulW l its.toArray n dd sl k t c0 c1 c2 (by omega) c4 (by rw [size_rep, List.size_toArray]; exact flen)) ⟨ho, ?_⟩⟩)
      rw [size_rep]
      refine ⟨.ref s.heap.objs.size, _, I.laid (t' := s.toks) (o := .tup (List.replicate k.toNat xs).flatten) (fun b ob q => Heap.get?_push_of_some _ q) (Nat.le_refl _) ?_, rfl, q3 hne (by omega) _ (I.hok.fresh (Nat.le_refl _))⟩
      exact ⟨by rw [PyProof.Rows.lm_len_rep_flat, sizeLine_eq, Nat.mul_comm]; omega, _, r.rep k.toNat, IsTup.new _ _⟩
/-- list * int -/
def rRepL (K : PySem.W.Frag) : R2 := fun x y H Q => ∃ l k xs, x = .ref l ∧ y = .int k ∧ SqL K H l xs ∧ -1000000 ≤ k ∧ k ≤ 1000000 ∧ xs.length * k.toNat ≤ 1000000 ∧
  ∀ p, H p = none → Q (.ref p) (upd H p (.lst (List.replicate k.toNat xs).flatten))
theorem op_repL : OpR X (binaryOp .Mult) (rRepL X.K) := by
  intro pins s σ H x y v u Q I rx ry h
  obtain ⟨l, k, xs, rfl, rfl, hH, h1, h2, hz, q⟩ := h
  cases rx
  obtain ⟨t, rfl⟩ := ry
  obtain ⟨its, r, ⟨⟨cls, dd, data, sl⟩, n, ho, hc, hdd, hd⟩, _⟩ := I.list hH
  simp only at hc hd hdd
  subst hc hd hdd
  have hl : its.length = xs.length := r.length.symm
  have hsz : its.toArray.size * k.toNat ≤ 1000000 := by rw [List.size_toArray, hl]; exact hz
  have hsz2 : its.length * k.toNat ≤ 1000000 := by rw [hl]; exact hz
  refine wpAny_binaryOp_repeat_ref (T := "list") (U := "int") (by decide) ⟨_, ho, rfl⟩ (fun s' => typeIs_int s' k t) noFill_list_mul F.fills_int_mul F.slot_int_rmul repeat_list F.slot_int_index.lookup
    (call_meets F.slot_int_rmul (typeIs_int s k t) F.entry_int_rmul (F.args_int_rmul_2 _ _) (lm_int_rmul_list_any k t l its.toArray n none sl)
      ⟨ho, rfl, ⟨_, ho, rfl⟩, call_meets F.slot_list_mul ⟨_, ho, rfl⟩ F.entry_list_mul (F.args_list_mul_2 _ _)
        (lm_list_mul_any l its.toArray n none sl k t (by simp [Builtin.List.listFitsIndex]; omega) (by omega) (by simp [Builtin.List.listTooLong, sizeLine]; omega)) ⟨ho, ?_⟩⟩)
  rw [listMul_foldl_if]
  have f1 : (List.replicate k.toNat its).flatten.length ≤ sizeLine := by rw [PyProof.Rows.lm_len_rep_flat, hl, sizeLine_eq, Nat.mul_comm]; omega
  have f2 : (List.replicate k.toNat xs).flatten.length ≤ sizeLine := by rw [PyProof.Rows.lm_len_rep_flat, sizeLine_eq, Nat.mul_comm]; omega
  exact ⟨.ref _, _, I.lnew (t' := s.toks) (r.rep k.toNat) (by first | exact f1 | exact f2), rfl, q _ I.fresh⟩
def small64 (i : Int) : Bool := decide (-(2 ^ 64) < i) && decide (i < 2 ^ 64)
def opMul : D → D → Option D
  | .int i, .int j => if (small64 i || small64 j) = true then some (.int (i * j)) else none
  | .str x, .int n => if n.toNat ≤ 16777216 ∧ x.length * n.toNat ≤ 16777216 ∧ -1000000 ≤ n then some (.str (Txt.mul x n)) else none
  | .tuple ds, .int n => if -1000000 ≤ n ∧ n ≤ 1000000 ∧ ds.length * n.toNat ≤ 1000000 then some (.tuple (List.replicate n.toNat ds).flatten) else none
  | .list ds, .int n => if -1000000 ≤ n ∧ n ≤ 1000000 ∧ ds.length * n.toNat ≤ 1000000 then some (.list (List.replicate n.toNat ds).flatten) else none
  | _, _ => none
def rMulS : R2 := fun x y H Q => ∃ z n, x = .str z ∧ y = .int n ∧ MulOk z n ∧ Q (.str (Txt.mul z n)) H
theorem op_mulS : OpR X (binaryOp .Mult) rMulS := by
  intro pins s σ H x y v u Q I rx ry h
  obtain ⟨z, n, rfl, rfl, hz, q⟩ := h
  obtain ⟨t, rfl⟩ := rx
  obtain ⟨t', rfl⟩ := ry
  exact PySem.SB.mul hz fun t' k => ⟨.str _, H, I.tok _, ⟨_, rfl⟩, q⟩
theorem so_mul : OpR X (binaryOp .Mult) (rN X.K mk opMul) := opr_of fun x y H Q q => by
  obtain ⟨G, d, e, r, s, hx, hy, o, k⟩ := q
  unfold opMul at o
  split at o
  · split at o <;> cases o
    rename_i hz
    refine ⟨_, op_mul, _, _, top_int hx, top_int hy, ?_, fin_int s k⟩
    unfold small64 at hz
    simp only [Bool.or_eq_true, Bool.and_eq_true, decide_eq_true_eq] at hz
    exact hz
  · split at o <;> cases o
    rename_i hz
    exact ⟨_, op_mulS, _, _, top_str hx, top_int hy, PyProof.Rows.mulOk_of _ _ (Nat.le_refl _) (by omega) (by omega) hz.1 hz.2.1, fin_str s k⟩
  · rename_i ds n
    split at o <;> cases o
    rename_i hz
    obtain ⟨a, us, e1, h1, h2, h5⟩ := top_tuple hx s
    refine ⟨_, op_repA, a, n, us, e1, top_int hy, h1, hz.1, hz.2.1, by rw [dps_len h2]; exact hz.2.2, fun z => ?_, fun z z2 => ?_, fun z z2 => fin_tup s (dps_rep h2 _) k⟩
    · subst e1
      rcases z with z | z
      · subst z
        cases h2
        have e0 : (List.replicate n.toNat ([] : List D)).flatten = [] := by simp
        rw [e0] at k
        exact fin_same s h5 k
      · subst z
        have e0 : (List.replicate (1 : Int).toNat ds).flatten = ds := by simp
        rw [e0] at k
        exact fin_same s h5 k
    · have e0 : n.toNat = 0 := by omega
      rw [e0] at k
      exact fin_tup s .nil k
  · rename_i ds n
    split at o <;> cases o
    rename_i hz
    obtain ⟨a, us, e1, h1, h2⟩ := top_list hx s
    exact ⟨_, op_repL, a, n, us, e1, top_int hy, h1, hz.1, hz.2.1, by rw [dps_len h2]; exact hz.2.2, fin_list s (dps_rep h2 _) k⟩
  · cases o

/-! ### subscripts -/
theorem atI_dps {xs : List V} {ds : List D} {i : Int} {d : D} (h : DpAll K G xs ds) (e : atI ds i = some d) : ∃ v, atI xs i = some v ∧ Dp K G v d := by
  unfold atI at e ⊢
  rw [dps_len h]
  obtain ⟨j, e1, e2⟩ := bnd e
  obtain ⟨v, h1, h2⟩ := dps_getD h e2
  exact ⟨v, by rw [e1]; exact h1, h2⟩
def opIx : D → D → Option D
  | .list ds, .int i => atI ds i
  | .tuple ds, .int i => atI ds i
  | .str z, .int i => if z.length ≤ lineN then (atI z.cps.toList i).bind fun c => some (.str ⟨#[c]⟩) else none
  | _, _ => none
theorem so_ix : IxR X (rN X.K .pu opIx) := ixr_of fun x y H Q q => by
  obtain ⟨G, d, e, r, s, hx, hy, o, k⟩ := q
  unfold opIx at o
  split at o
  · obtain ⟨a, us, e1, h1, h2⟩ := top_list hx s
    obtain ⟨w, e3, e4⟩ := atI_dps h2 o
    exact ⟨_, ix_list, a, us, _, w, e1, top_int hy, h1, e3, fin_same s e4 k⟩
  · obtain ⟨a, us, e1, h1, h2, h5⟩ := top_tuple hx s
    obtain ⟨w, e3, e4⟩ := atI_dps h2 o
    exact ⟨_, ix_tup, a, us, _, w, e1, top_int hy, h1, e3, fin_same s e4 k⟩
  · split at o
    · rename_i hz
      obtain ⟨c, e1, e2⟩ := bnd o
      cases e2
      exact ⟨_, ix_str, _, _, c, top_str hx, top_int hy, by rw [← lineN_eq]; exact hz, e1, fin_str s k⟩
    · cases o
  · cases o
/-! ### slices -/
def cutD (xs : List D) (lo hi : Option Int) : List D := (xs.drop (HT.sIx xs.length 0 lo)).take (HT.sIx xs.length xs.length hi - HT.sIx xs.length 0 lo)
theorem cut_dps {xs : List V} {ds : List D} {lo hi : Option Int} (h : DpAll K G xs ds) : DpAll K G (cutV xs lo hi) (cutD ds lo hi) := by
  unfold cutV cutD
  rw [dps_len h]
  exact dps_take _ (dps_drop _ h)
def opSl : D → Option Int → Option Int → Option D
  | .list ds, lo, hi => some (.list (cutD ds lo hi))
  | .tuple ds, lo, hi => some (.tuple (cutD ds lo hi))
  | .str z, lo, hi => if z.length ≤ lineN then some (.str (cutS z lo hi)) else none
  | _, _, _ => none
theorem so_sl : SlR X (rNS X.K mk opSl) := slr_of fun x lo hi H Q q => by
  obtain ⟨G, d, r, s, hx, o, k⟩ := q
  unfold opSl at o
  split at o
  · cases o
    obtain ⟨a, us, e1, h1, h2⟩ := top_list hx s
    exact ⟨_, sl_list, a, us, e1, h1, fin_list s (cut_dps h2) k⟩
  · cases o
    obtain ⟨a, us, e1, h1, h2, h5⟩ := top_tuple hx s
    refine ⟨_, sl_tupA, a, us, e1, h1, fun hw => ?_, fun _ => fin_tup s (cut_dps h2) k⟩
    subst e1
    rename_i ds
    have e0 : cutD ds lo hi = ds := by
      unfold cutD
      rw [← dps_len h2, hw.1, hw.2, dps_len h2]
      simp
    rw [e0] at k
    exact fin_same s h5 k
  · split at o <;> cases o
    rename_i hz
    exact ⟨_, sl_str, _, top_str hx, by rw [← lineN_eq]; exact hz, fin_str s k⟩
  · cases o

/-! ### turned round -/
def revS (z : Str) : Str := ⟨z.cps.toList.reverse.toArray⟩
theorem slice_revS (z : Str) (u : Tok) : Txt.sliceBy z none none (-1, u) = revS z := by
  have h := PyProof.Rows.step_rev_list z u
  generalize Txt.sliceBy z none none (-1, u) = w at h
  obtain ⟨⟨l⟩⟩ := w
  have h' : l = (List.range z.length).map fun k => z.cps.getD (z.length - 1 - k) 0 := h
  unfold revS
  congr 1
  congr 1
  rw [h']
  refine List.ext_getElem (by simp [Str.length]) fun i h1 h2 => ?_
  simp only [List.getElem_map, List.getElem_range, List.getElem_reverse]
  simp at h1
  simp [Array.getD, Str.length] at h1 ⊢
  rw [dif_pos (by omega)]
def rRevAll (K : PySem.W.Frag) : V → Hp → VK → Prop := fun x H Q =>
  (∃ a xs, x = .ref a ∧ SqL K H a xs ∧ ∀ p, H p = none → Q (.ref p) (upd H p (.lst xs.reverse))) ∨
  (∃ a xs, x = .ref a ∧ SqT K H a xs ∧ ∀ p, H p = none → Q (.ref p) (upd H p (.tup xs.reverse))) ∨
  ∃ z, x = .str z ∧ z.length ≤ sizeLine ∧ Q (.str (revS z)) H
theorem getItem_tuple_rev {prog : Program} {w : World} {A : Around} {E : Value → Shared → Prop} {s : Shared} {t sl : Addr} {items : Array Value} {u : Tok} {Q : Value → Shared → Prop} (ht : IsTup s.heap t items) (hs : s.heap.IsSliceOf sl .none .none (.int (-1) u))
    (h : Q (.ref s.heap.objs.size) { s with heap := s.heap.push { cls := .type "tuple", data := .seq items.toList.reverse.toArray } })
    (hsz : items.size ≤ sizeLine) : wpAny (model prog w) A (getItem (.ref t) (.ref sl)) Q E s := by
  have htake : sizeOk (.seq items.toList.reverse.toArray) := by
    show items.toList.reverse.toArray.size ≤ sizeLine
    rw [List.size_toArray, List.length_reverse, Array.length_toList]
    omega
  obtain ⟨os, hos, hcs, hds⟩ := id hs
  have hTs : s.TypeIs (.ref sl) "slice" := ⟨os, hos, hcs⟩
  unfold getItem
  try with_reducible refine wpAny_holding ?_
  first | refine wpAny_bind (wpAny_pure ?_) | skip
  refine wpAny_bind (wpAny_sequenceKey ht.typeIs (by decide) ?_)
  refine wpAny_bind (wpAny_callSpecial?_slot (name := Str.ofString "__getitem__") ht.typeIs PyProof.Rows.slot_tuple_getitem
    (wpAny_call_entry PyProof.Rows.slot_tuple_getitem ht.typeIs entry_tuple_getitem ?_ (args_tuple_getitem _ _)))
  show wpAny _ _ (Builtin.Tuple.tupleItemsOf (.ref t) >>= _) _ _ s
  refine wpAny_bind (tupleItemsOf_ ht ?_)
  refine wpAny_bind (wpAny_typeOf hTs ?_)
  rw [if_pos (by decide)]
  have happ : ∀ {A : Around} {R : Int × Int × Nat → Shared → Prop}, R (((items.size : Nat) : Int) - 1, -1, items.size) s → wpAny (model prog w) A (Builtin.Slice.sliceApplied (.ref sl) (pure ((items.size : Nat) : Int))) R E s := fun {A R} hR => by
    unfold Builtin.Slice.sliceApplied Builtin.Slice.sliceFields
    refine wpAny_bind (wpAny_bind (wpAny_field hos hds (x := .none) rfl (wpAny_bind (wpAny_field hos hds (x := .none) rfl (wpAny_bind (wpAny_field hos hds (x := .int (-1) u) rfl (wpAny_pure ?_)))))))
    refine wpAny_bind (slicePart_int ?_)
    show wpAny _ _ (if ((-1 : Int) == 0) = true then _ else _) _ _ s
    rw [if_neg (by decide)]
    refine wpAny_bind (slicePart_none (wpAny_bind (slicePart_none (wpAny_bind (wpAny_pure ?_)))))
    show wpAny _ _ (pure ((((items.size : Nat) : Int) - 1), (-1 : Int), Builtin.Slice.slicePlaces (((items.size : Nat) : Int) - 1) (-1) (-1))) _ _ s
    have e : Builtin.Slice.slicePlaces (((items.size : Nat) : Int) - 1) (-1) (-1) = items.size := by
      unfold Builtin.Slice.slicePlaces
      have h1 : ¬ ((-1 : Int) > 0) := by decide
      simp only [h1, if_false]
      by_cases h2 : (((items.size : Nat) : Int) - 1) > -1
      · rw [if_pos h2]
        have e3 : (-(-1 : Int)) = 1 := rfl
        rw [e3, Int.ediv_one]
        omega
      · rw [if_neg h2]
        omega
    rw [e]
    exact wpAny_pure hR
  refine wpAny_bind (happ ?_)
  show wpAny _ _ (if ((((items.size : Nat) : Int) - 1) == 0 && (-1 : Int) == 1 && items.size == items.size) = true then _ else _) _ _ s
  have hno : ¬ (((((items.size : Nat) : Int) - 1) == 0 && (-1 : Int) == 1 && items.size == items.size) = true) := by
    have : ((-1 : Int) == 1) = false := rfl
    rw [this, Bool.and_false, Bool.false_and]
    exact Bool.false_ne_true
  rw [if_neg hno]
  have epick : ((List.range items.size).filterMap fun (k : Nat) => items[((((items.size : Nat) : Int) - 1) + (k : Int) * (-1)).toNat]?).toArray = items.toList.reverse.toArray := by
    congr 1
    obtain ⟨l⟩ := items
    have e1 : ∀ k ∈ List.range l.length, (l.toArray)[((((l.toArray.size : Nat) : Int) - 1) + (k : Int) * (-1)).toNat]? = some ((l.reverse)[k]?.getD .none) := fun k hk => by
      have hk' : k < l.length := List.mem_range.mp hk
      have e2 : ((((l.toArray.size : Nat) : Int) - 1) + (k : Int) * (-1)).toNat = l.length - 1 - k := by
        rw [List.size_toArray]
        omega
      rw [e2]
      have e3 : l.reverse[k]? = some (l[l.length - 1 - k]'(by omega)) := by
        rw [List.getElem?_eq_getElem (by rw [List.length_reverse]; exact hk'), List.getElem_reverse]
      rw [e3]
      simp
    show (List.range l.length).filterMap (fun (k : Nat) => (l.toArray)[((((l.toArray.size : Nat) : Int) - 1) + (k : Int) * (-1)).toNat]?) = l.reverse
    have e4 : ∀ (ks : List Nat), (∀ k ∈ ks, k ∈ List.range l.length) → ks.filterMap (fun (k : Nat) => (l.toArray)[((((l.toArray.size : Nat) : Int) - 1) + (k : Int) * (-1)).toNat]?) = ks.map fun k => (l.reverse)[k]?.getD .none := fun ks h => by
      induction ks with
      | nil => rfl
      | cons k ks ih =>
        rw [List.filterMap_cons, e1 k (h k List.mem_cons_self), List.map_cons, ih fun j hj => h j (List.mem_cons_of_mem _ hj)]
    rw [e4 _ fun k hk => hk]
    refine List.ext_getElem (by simp) fun i h1 h2 => ?_
    simp only [List.getElem_map, List.getElem_range]
    rw [List.getElem?_eq_getElem h2]
    rfl
  rw [epick]
  first
    | exact wpAny_bind (m := Builtin.Tuple.tupleExact _) (wpAny_newObj_type (wpAny_pure ⟨_, rfl, wpAny_pure h⟩) htake)
    | exact wpAny_bind (m := Builtin.Tuple.tupleExact _) (wpAny_newObj_type (wpAny_bind (wpAny_pure (wpAny_pure ⟨_, rfl, wpAny_pure h⟩))) htake)
    | exact wpAny_bind (wpAny_bind (m := Builtin.Tuple.tupleExact _) (wpAny_newObj_type (wpAny_pure (wpAny_pure ⟨_, rfl, wpAny_pure h⟩)) htake))
    | exact wpAny_bind (wpAny_bind (m := Builtin.Tuple.tupleExact _) (wpAny_newObj_type (wpAny_pure ⟨_, rfl, wpAny_pure h⟩) htake))
def tRevA (K : PySem.W.Frag) (te : TE) : TE := fun σ H Q => te σ H fun x H1 => rRevAll K x H1 Q
theorem pe_revA {e : Expr} {te : TE} {k : Nat} {p1 p2 p3 pos : Pos} (he : PE X e te) : PE X (.Subscript e (.Slice none none (some (.UnaryOp .USub (.Constant (.int 1) k p1) p2)) p3) pos) (tRevA X.K te) := by
  refine ⟨fun pins s σ H Q I h => ?_⟩
  refine Subscript_ (thn (he.run pins s σ H _ I h) fun v s1 ⟨x, H1, I1, r1, q1⟩ => ?_)
  have hst : PO X (some (.UnaryOp .USub (.Constant (.int 1) k p1) p2)) (tPart (tUn (rU fun i => .int (-i)) (tC (.int 1)))) := po_some (pe_un un_neg pe_int)
  refine wpAny_Slice (thn (po_none.run pins s1 σ H1 (fun o H2 => o = none ∧ H2 = H1) I1 ⟨rfl, rfl⟩) fun vl s2 ⟨l, H2, I2, pl, el, e2⟩ => ?_)
  subst el e2
  refine thn (po_none.run pins s2 σ H2 (fun o H3 => o = none ∧ H3 = H2) I2 ⟨rfl, rfl⟩) fun vu s3 ⟨u, H3, I3, pu, eu, e3⟩ => ?_
  subst eu e3
  refine thn (hst.run pins s3 σ H3 (fun o H4 => o = some (-1) ∧ H4 = H3) I3 ⟨1, rfl, -1, rfl, rfl, rfl⟩) fun vs s4 ⟨o, H4, I4, ps, eo, e4⟩ => ?_
  subst eo e4
  have I5 : Inv X pins σ H4 { s4 with heap := s4.heap.push { cls := .type "slice", data := .fields #[vl, vu, vs] } } := I4.kept (t' := s4.toks) fun b ob q => Heap.get?_push_of_some _ q
  rcases q1 with ⟨a, xs, ex, hx, q⟩ | ⟨a, xs, ex, hx, q⟩ | ⟨z, ex, hz, q⟩
  · subst ex
    cases r1
    obtain ⟨its, r, ht, hz⟩ := I5.list hx
    have hlen := r.length
    show wpAny (model X.prog X.w) X.A (subscriptTail e (.Slice none none (some (.UnaryOp .USub (.Constant (.int 1) k p1) p2)) p3) (.ref a) (.ref s4.heap.objs.size)) (EP X pins σ Q) X.xe { s4 with heap := s4.heap.push { cls := .type "slice", data := .fields #[vl, vu, vs] } }
    refine tail_any (ops := [.ref a, .ref s4.heap.objs.size]) ht.isList.typeIs (PySem.slot_list_getitem.lookup) ?_ (by with_unfolding_all rfl)
    refine wpAny_getItem_list_slice ht.isList (Heap.IsSliceOf.new _ vl vu vs) pl pu ps (by decide) ?_ (by rw [List.size_toArray]; omega)
    rw [PySem.W.krv_pick]
    refine ⟨.ref _, _, I5.laid (t' := s4.toks) (o := .lst xs.reverse) (fun b ob q => Heap.get?_push_of_some _ q) (Nat.le_refl _) ?_, rfl, q _ (I5.hok.fresh (Nat.le_refl _))⟩
    exact ⟨by rw [List.length_reverse]; exact hz, _, 0, r.reverse, Heap.get?_push_size _ rfl⟩
  · subst ex
    cases r1
    obtain ⟨its, r, ht, hz⟩ := I5.tuple hx
    have hlen := r.length
    obtain ⟨tk, rfl⟩ : ∃ tk, vs = .int (-1) tk := by cases ps; exact ⟨_, rfl⟩
    cases pl
    cases pu
    show wpAny (model X.prog X.w) X.A (subscriptTail e (.Slice none none (some (.UnaryOp .USub (.Constant (.int 1) k p1) p2)) p3) (.ref a) (.ref s4.heap.objs.size)) (EP X pins σ Q) X.xe { s4 with heap := s4.heap.push { cls := .type "slice", data := .fields #[.none, .none, .int (-1) tk] } }
    refine tail_any (ops := [.ref a, .ref s4.heap.objs.size]) ht.typeIs (PyProof.Rows.slot_tuple_getitem.lookup) ?_ (by with_unfolding_all rfl)
    refine getItem_tuple_rev ht (Heap.IsSliceOf.new _ .none .none (.int (-1) tk)) ?_ (by rw [List.size_toArray]; omega)
    refine ⟨.ref _, _, I5.laid (t' := s4.toks) (o := .tup xs.reverse) (fun b ob q => Heap.get?_push_of_some _ q) (Nat.le_refl _) ?_, rfl, q _ (I5.hok.fresh (Nat.le_refl _))⟩
    exact ⟨by rw [List.length_reverse]; exact hz, _, r.reverse, IsTup.new _ _⟩
  · subst ex
    obtain ⟨t, rfl⟩ := r1
    obtain ⟨tk, rfl⟩ : ∃ tk, vs = .int (-1) tk := by cases ps; exact ⟨_, rfl⟩
    cases pl
    cases pu
    show wpAny (model X.prog X.w) X.A (subscriptTail e (.Slice none none (some (.UnaryOp .USub (.Constant (.int 1) k p1) p2)) p3) (.str z t) (.ref s4.heap.objs.size)) (EP X pins σ Q) X.xe { s4 with heap := s4.heap.push { cls := .type "slice", data := .fields #[.none, .none, .int (-1) tk] } }
    refine tail_any (ops := [.ref s4.heap.objs.size, .str z t]) (typeIs_str _ z t) PySem.F.slot_str_getitem.lookup ?_ (by with_unfolding_all rfl)
    refine wpAny_getItem_str_slice (l := none) (u := none) (st := some (-1, tk)) ⟨_, Heap.get?_push_size _ rfl, rfl, rfl⟩ rfl ?_
    refine post_val_or_str ⟨?_, fun t' c => ⟨.str (revS z), _, I5.tok c, ⟨t', ?_⟩, q⟩⟩
    · exact Nat.le_trans (PySem.Txt.sliceBy_le z none none (-1, tk) (show (-1 : Int) ≠ 0 by decide)) hz
    · rw [← slice_revS z tk]
      rfl
def opRev : D → Option D
  | .list ds => some (.list ds.reverse)
  | .tuple ds => some (.tuple ds.reverse)
  | .str z => if z.length ≤ lineN then some (.str (revS z)) else none
  | _ => none
def cOpn (op : D → Option D) (a : FE) : FE := fun ρ => (a ρ).bind fun p => (cont p.2 (stl p.1)).bind fun x => (op x).bind fun r => some (mk r, p.2)
theorem pd_rev {e : Expr} {f : FE} {k : Nat} {p1 p2 p3 pos : Pos} (he : PD X e f) : PD X (.Subscript e (.Slice none none (some (.UnaryOp .USub (.Constant (.int 1) k p1) p2)) p3) pos) (cOpn opRev f) := by
  refine ⟨pe_w (pe_revA he.pe) fun σ H Q q => ?_, fun ρ r ρ' q => ?_⟩
  · obtain ⟨ioA, G0, H0, G, ρ, r, ρ', S, e, k⟩ := q
    obtain ⟨⟨r1, ρ1⟩, e1, e⟩ := bnd e
    obtain ⟨x, ex, e⟩ := bnd e
    obtain ⟨z, ez, e⟩ := bnd e
    cases e
    refine ⟨ioA, G0, H0, G, ρ, r1, ρ1, S, e1, fun G1 v1 H1 g1 S1 R1 => ?_⟩
    obtain ⟨G1', g1', S1', R1'⟩ := settle S1 R1
    have T := S1'.top R1' ex
    have kk : ∀ G3 v H3, Grow G1' H1 G3 H3 → RepN X.K H1 G3 H3 v (mk z) → Q v H3 := fun G3 v H3 gr R => by
      obtain ⟨S3, R3⟩ := S1'.repN gr R
      exact k G3 v H3 ((g1.trans g1').trans gr.g) S3 R3
    cases x with
    | list ds =>
      cases ez
      obtain ⟨a, us, e1, h1, h2⟩ := top_list T S1'.sub
      exact .inl ⟨a, us, e1, h1, fin_list S1'.sub (dps_rev h2) kk⟩
    | tuple ds =>
      cases ez
      obtain ⟨a, us, e1, h1, h2, _⟩ := top_tuple T S1'.sub
      exact .inr (.inl ⟨a, us, e1, h1, fin_tup S1'.sub (dps_rev h2) kk⟩)
    | str zz =>
      have ez' : (if zz.length ≤ lineN then some (PyData.str (revS zz)) else none) = some z := ez
      by_cases hz : zz.length ≤ lineN
      · rw [if_pos hz] at ez'
        cases ez'
        exact .inr (.inr ⟨_, top_str T, by rw [← lineN_eq]; exact hz, fin_str S1'.sub kk⟩)
      · rw [if_neg hz] at ez'; cases ez'
    | _ => cases ez
  · obtain ⟨⟨r1, ρ1⟩, e1, e⟩ := bnd q
    obtain ⟨x, ex, e⟩ := bnd e
    obtain ⟨z, ez, e⟩ := bnd e
    cases e
    exact he.kin _ _ _ e1
end
end PL

/-! PL: the pure layer, 12: enumerate of a list, a tuple, a text. -/
namespace PL
open PySem PySem.Spec PyProof.Rows L2
theorem meets_enum1 {v : Value} {o : Obj} {H : Heap → Prop} (B : Begins v o H) :
    Meets (Builtin.«enumerate.__new__» ⟨[.type "enumerate", v], []⟩) (fun _ R s => H s.heap ∧
      R (.ok (.ret (.ref (s.heap.push o).objs.size))) { s with heap := (s.heap.push o).push { cls := .type "enumerate", data := .fields #[.none, .bool false, .ref s.heap.objs.size, rawInt 0, .none, .none] } }) :=
  .of_wp fun prog w A R s h => by
    obtain ⟨hp, g, d, tk, os⟩ := s; obtain ⟨h1, h⟩ := h
    have hsub := sub_enumerate
    have q1 : ∀ {A' : Around} {E : Value → Shared → Prop} {Q : Value → Shared → Prop}, Q (.ref hp.objs.size) ⟨hp.push o, g, d, tk, os⟩ → wpAny (model prog w) A' (pyIter v) Q E ⟨hp, g, d, tk, os⟩ :=
      fun q => B.iter prog w _ _ ⟨hp, g, d, tk, os⟩ _ h1 q
    wp_walk using q1
    refine wpAny_stack_any fun st => wpAny_pure ?_
    split
    · rename_i c _ _ _ _ _
      cases (c == Value.type "enumerate")
      · wp_walk using q1
        exact ⟨_, rfl, h⟩
      · wp_walk using q1
        exact ⟨_, rfl, h⟩
    · wp_walk using q1
      exact ⟨_, rfl, h⟩
section
variable {prog : Program} {w : World} {A : Around} {E : Value → Shared → Prop} {s : Shared}
theorem call_enum1 {v : Value} {o : Obj} {H : Heap → Prop} {Q : Value → Shared → Prop} (B : Begins v o H) (h1 : H s.heap)
    (h : ∀ h', IsEnum h' (s.heap.objs.size + 1) s.heap.objs.size 0 .none → h'.get? s.heap.objs.size = some o → h'.objs.size = s.heap.objs.size + 2 →
      (∀ b o, s.heap.get? b = some o → h'.get? b = some o) → Q (.ref (s.heap.objs.size + 1)) { s with heap := h' }) :
    wpAny (model prog w) A (call (.type "enumerate") [v]) Q E s := by
  refine callType_new F.called_enumerate (by decide) (F.typeCall_enumerate_1 _) (F.newCall_enumerate_1 _) (fun obj => F.args_object_init_2 obj _) F.entry_enumerate_new
    (meets_enum1 B) ⟨h1, ?_⟩
  have hz : (s.heap.push o).objs.size = s.heap.objs.size + 1 := Heap.size_push ..
  show _ ∧ _
  rw [hz]
  have he : IsEnum ((s.heap.push o).push { cls := .type "enumerate", data := .fields #[.none, .bool false, .ref s.heap.objs.size, rawInt 0, .none, .none] }) (s.heap.objs.size + 1) s.heap.objs.size 0 .none := by
    have := Heap.get?_push_size (s.heap.push o) (o := { cls := .type "enumerate", data := .fields #[.none, .bool false, .ref s.heap.objs.size, rawInt 0, .none, .none] }) rfl
    rw [hz] at this; exact this
  refine ⟨⟨_, he, rfl⟩, h _ he (Heap.get?_push_of_some _ (Heap.get?_push_size _ B.free)) (by rw [Heap.size_push, hz]) fun b o x => Heap.get?_push_of_some _ (Heap.get?_push_of_some _ x)⟩
end
/-- the tuple at a, each item in a new pair -/
def IteT (K : PySem.W.Frag) (a : Addr) : It :=
  ⟨fun i H => ∃ (xs : List V) (x : V), SqT K H a xs ∧ xs[i]? = some x, fun i H v H' => ∃ T x, v = .ref T ∧ H T = none ∧ H' = upd H T (.tup [.int (i : Nat), x]) ∧ ∀ xs, SqT K H a xs → xs[i]? = some x, fun i H => ∃ xs : List V, SqT K H a xs ∧ xs.length = i⟩
def IteS (x : Str) : It :=
  ⟨fun i H => i < x.cps.size, fun i H v H' => ∃ T c, v = .ref T ∧ H T = none ∧ H' = upd H T (.tup [.int (i : Nat), .str ⟨#[c]⟩]) ∧ x.cps[i]? = some c, fun i H => x.cps.size = i⟩
/-- a pair of the iterator's number and its item, laid -/
theorem enum_turn {X : Cx} {elts : List Expr} {kk : Nat} {tpos : Pos} {i : Nat} {pins : List (Addr × Obj)} {s : Shared} {σ : L2.St} {H : Hp} {E : Value → Shared → Prop} {e it : Addr} {fp : List Addr} {n : Nat} {P : Nat → Value → Prop} {St : Nat → Heap → Prop} {old : Value}
    (I : L2.Inv X pins σ H s) (hf : ∀ b ∈ [e, it], FpOk X pins H b) (D : Draws X.prog X.w X.A.in1 it fp n P St) (he : IsEnum s.heap e it ((i : Nat) : Int) old) (hst : St i s.heap) (hlt : i < n) (hne : e ≠ it) (hef : e ∉ fp)
    {Y : V → Prop} (hy : ∀ u, P i u → ∃ x, RelV x u ∧ Y x) {tn : Nat → Heap → Prop} (ht : ∀ h' old, IsEnum h' e it (((i + 1 : Nat) : Nat) : Int) old → St (i + 1) h' → tn (i + 1) h') :
    wpAny (model X.prog X.w) X.A (pyNext (.ref e)) (fun r s1 => ∃ u, r = some u ∧ wpAny (model X.prog X.w) X.A (letOwnedTupleGo (.Tuple elts kk tpos) (.ref e) u) (fun _ s2 =>
      ∃ (v : V) (H' : Hp), L2.Inv X pins σ H' s2 ∧ RelV v u ∧ (∃ T x, v = .ref T ∧ H T = none ∧ H' = upd H T (.tup [.int (i : Nat), x]) ∧ Y x) ∧ tn (i + 1) s2.heap ∧ ∀ b ∈ [e, it], H' b = none) E s1) E s := by
  have hel : e < s.heap.objs.size := Heap.lt_size he
  have hil : it < s.heap.objs.size := by obtain ⟨_, q⟩ := D.live _ _ hst; exact Heap.lt_size q
  refine wpAny_pyNext_enum_itemD D he hst hlt hne hef fun u h' tk hP ho hs' hT hsz hk => ?_
  obtain ⟨x, ru, yx⟩ := hy u hP
  refine ⟨_, rfl, wpAny_letOwnedTupleGo_enum (s := { s with heap := h', toks := tk + 1 }) ho fun h'' he' sb => ?_⟩
  have hT2 : h''.get? s.heap.objs.size = some { cls := .type "tuple", data := .seq #[.int i tk, u] } := (sb.2 _ (Nat.ne_of_gt hel)).trans hT
  have new : ObjOk X.prog X.w (upd H s.heap.objs.size (.tup [.int (i : Nat), x])) h'' s.heap.objs.size (.tup [.int (i : Nat), x]) :=
    ⟨by show 2 ≤ sizeLine; decide, [.int i tk, u], .cons ⟨_, rfl⟩ (.cons ru .nil), ⟨_, hT2, rfl, _, rfl⟩⟩
  have I1 : L2.Inv X pins σ (upd H s.heap.objs.size (.tup [.int (i : Nat), x])) { s with heap := h'', toks := tk + 1 } :=
    I.turnedNew (ch := [e, it]) (fun b ob hb q => (sb.2 b (fun z => hb (by simp [z]))).trans (hk b ob (fun z => hb (by simp [z])) (fun z => hb (by simp [z])) q)) hf (Nat.le_refl _) new
  refine ⟨.ref s.heap.objs.size, _, I1, rfl, ⟨_, x, rfl, I.hok.fresh (Nat.le_refl _), rfl, yx⟩, ht h'' u ?_ (D.frame _ _ _ hs' fun b hb o q => (sb.2 b fun z => hef (by rw [← z]; exact hb)).trans q), fun b hb => ?_⟩
  · have e1 : ((i + 1 : Nat) : Int) = (i : Int) + 1 := by omega
    rw [e1]; exact he'
  · have hb' : b < s.heap.objs.size := by
      have e' : b = e ∨ b = it := by simpa using hb
      rcases e' with z | z
      · rw [z]; exact hel
      · rw [z]; exact hil
    rw [upd_ne (Nat.ne_of_lt hb')]
    exact (hf b hb).1
theorem ne_cls {h : Heap} {a b : Addr} {o u : Obj} (e : h.get? a = some o) (e' : h.get? b = some u) (hc : o.cls ≠ u.cls) : a ≠ b := fun z => by
  subst z
  rw [e] at e'
  cases e'
  exact hc rfl
theorem turn_enumT {P : Program} {w : World} {K : PySem.W.Frag} {elts : List Expr} {kk : Nat} {tpos : Pos} (a e it : Addr) :
    Turn P w K (.Tuple elts kk tpos) (IteT K a) [e, it] e (fun i h => (∃ old, IsEnum h e it ((i : Nat) : Int) old) ∧ h.IsTupleIter it a i ∧ e ≠ it) where
  mem := by simp
  obj := fun i h st b hb => by
    obtain ⟨⟨old, he⟩, ⟨o, ho, hc, hd⟩, _⟩ := st
    have e' : b = e ∨ b = it := by simpa using hb
    rcases e' with z | z
    · rw [z]; exact ⟨_, he, fun v q => nomatch q⟩
    · rw [z]; exact ⟨o, ho, fun v q => by rw [hd] at q; cases q⟩
  keep := fun i h h' st k => let ⟨⟨old, he⟩, hi, hne⟩ := st; ⟨⟨old, k e (by simp) _ he⟩, hi.at fun o q => k it (by simp) o q, hne⟩
  item := by
    intro X hP hw hK hc i pins s σ H E I hf st hg
    subst hP hw hK
    obtain ⟨⟨old, he⟩, hit, hne⟩ := st
    obtain ⟨xs, x, hq, hx⟩ := hg
    obtain ⟨its, rv, p, hz⟩ := I.tuple hq
    obtain ⟨u, hu, ru⟩ := rv.get hx
    obtain ⟨o1, g1, c1, _⟩ := id hit
    obtain ⟨o2, g2, c2, _⟩ := id p
    have hea : e ≠ a := ne_cls he g2 (by rw [c2]; show Value.type "enumerate" ≠ Value.type "tuple"; decide)
    have hai : a ≠ it := ne_cls g2 g1 (by rw [c1, c2]; decide)
    have hl := rv.length
    refine thn (enum_turn (Y := fun y => ∀ ys, SqT X.K H a ys → ys[i]? = some y) (n := its.toArray.size) (P := fun i v => its.toArray[i]? = some v) (St := fun i h => h.IsTupleIter it a i ∧ h.IsTuple a its.toArray) (tn := fun i h => (∃ old, IsEnum h e it ((i : Nat) : Int) old) ∧ h.IsTupleIter it a i ∧ e ≠ it) I hf
      (Draws.tuple (A := X.A.in1) (I.ok.hd hc) it a hai its.toArray) he ⟨hit, p⟩ (by
        rw [List.size_toArray]
        exact (List.getElem?_eq_some_iff.mp hu).1) hne (fun z => by rcases List.mem_cons.mp z with z | z; exact hne z; exact hea (List.mem_singleton.mp z)) (fun v hv => ⟨x, ?_, fun ys hy => ?_⟩) fun h' old a b => ⟨⟨old, a⟩, b.1, hne⟩) fun r s1 h1 => h1
    · have e0 : its[i]? = some v := by simpa using hv
      rw [hu] at e0
      cases e0
      exact ru
    · rw [I.tuple_inj hy hq]; exact hx
  done := by
    intro X hP hw hK hc i pins s σ H E I hf st hg
    subst hP hw hK
    obtain ⟨⟨old, he⟩, hit, hne⟩ := st
    obtain ⟨xs, hq, hx⟩ := hg
    obtain ⟨its, rv, p, hz⟩ := I.tuple hq
    obtain ⟨f0, f1, f2, f3, f4, f5⟩ := hf it (by simp)
    have hl := rv.length
    obtain ⟨o1, g1, c1, _⟩ := id hit
    obtain ⟨o2, g2, c2, _⟩ := id p
    have hai : a ≠ it := ne_cls g2 g1 (by rw [c1, c2]; decide)
    have ei : i = its.toArray.size := by rw [List.size_toArray, ← hl, hx]
    refine wpAny_pyNext_enum_endD (Draws.tuple (A := X.A.in1) (I.ok.hd hc) it a hai its.toArray) he ⟨by rw [← ei]; exact hit, p⟩ fun h' eb => ⟨rfl, I.turned (t' := s.toks) (fun b o hb q => eb b o hb q) f0 f1 f3 f4 f5⟩
  self := fun A i s Q E st h => let ⟨⟨_, he⟩, _⟩ := st; wpAny_pyIter_enum he h
theorem turn_enumS {P : Program} {w : World} {K : PySem.W.Frag} {elts : List Expr} {kk : Nat} {tpos : Pos} (x : Str) (t : Tok) (e it : Addr) :
    Turn P w K (.Tuple elts kk tpos) (IteS x) [e, it] e (fun i h => (∃ old, IsEnum h e it ((i : Nat) : Int) old) ∧ h.IsStrIter it (strIterType x) x t i ∧ e ≠ it) where
  mem := by simp
  obj := fun i h st b hb => by
    obtain ⟨⟨old, he⟩, ⟨o, ho, hc, hd⟩, _⟩ := st
    have e' : b = e ∨ b = it := by simpa using hb
    rcases e' with z | z
    · rw [z]; exact ⟨_, he, fun v q => nomatch q⟩
    · rw [z]; exact ⟨o, ho, fun v q => by rw [hd] at q; cases q⟩
  keep := fun i h h' st k => let ⟨⟨old, he⟩, ⟨o, ho, r⟩, hne⟩ := st; ⟨⟨old, k e (by simp) _ he⟩, ⟨o, k it (by simp) o ho, r⟩, hne⟩
  item := by
    intro X hP hw hK hc i pins s σ H E I hf st hg
    subst hP hw hK
    obtain ⟨⟨old, he⟩, hit, hne⟩ := st
    have hg' : i < x.cps.size := hg
    have base := (enum_turn (elts := elts) (kk := kk) (tpos := tpos) (Y := fun y => ∃ c, y = .str ⟨#[c]⟩ ∧ x.cps[i]? = some c) (n := x.cps.size) (P := fun i v => ∃ c u, x.cps[i]? = some c ∧ v = .str ⟨#[c]⟩ u) (St := fun i h => h.IsStrIter it (strIterType x) x t i) (tn := fun i h => (∃ old, IsEnum h e it ((i : Nat) : Int) old) ∧ h.IsStrIter it (strIterType x) x t i ∧ e ≠ it) I hf
      (Draws.text (A := X.A.in1) (I.ok.hd hc) it x t) he hit hg' hne (fun z => hne (List.mem_singleton.mp z)) (fun v hv => (by
      obtain ⟨c, u, h1, rfl⟩ := hv
      exact ⟨.str ⟨#[c]⟩, ⟨u, rfl⟩, c, rfl, h1⟩)) fun h' old a b => ⟨⟨old, a⟩, b, hne⟩ : wpAny _ _ _ _ E s)
    refine thn base fun r s1 h1 => ?_
    obtain ⟨u, h2, h3⟩ := h1
    refine ⟨u, h2, thn h3 fun _ s2 ⟨v, H', q1, q2, ⟨T, y, q3, q4, q5, c, q6, q7⟩, q8, q9⟩ => ?_⟩
    subst q6
    exact ⟨v, H', q1, q2, ⟨T, c, q3, q4, q5, q7⟩, q8, q9⟩
  done := by
    intro X hP hw hK hc i pins s σ H E I hf st hg
    subst hP hw hK
    obtain ⟨⟨old, he⟩, hit, hne⟩ := st
    obtain ⟨f0, f1, f2, f3, f4, f5⟩ := hf it (by simp)
    have hg' : x.cps.size = i := hg
    refine wpAny_pyNext_enum_endD (Draws.text (A := X.A.in1) (I.ok.hd hc) it x t) he (by rw [hg']; exact hit) fun h' eb => ⟨rfl, I.turned (t' := s.toks) (fun b o hb q => eb b o hb q) f0 f1 f3 f4 f5⟩
  self := fun A i s Q E st h => let ⟨⟨_, he⟩, _⟩ := st; wpAny_pyIter_enum he h
/-- enumerate(list | tuple | text) -/
def iEnumA (K : PySem.W.Frag) (ta : TA) : TI := fun σ H R => ta σ H fun vs H1 => ∃ x, vs = [x] ∧ ((∃ a xs, x = .ref a ∧ SqL K H1 a xs ∧ R (Ite K a) H1) ∨ (∃ a xs, x = .ref a ∧ SqT K H1 a xs ∧ R (IteT K a) H1) ∨ ∃ z, x = .str z ∧ R (IteS z) H1)
section
variable {X : Cx}
theorem pi_enumA {e : Expr} {ta : TA} {p pos tpos : Pos} {elts : List Expr} {kk : Nat} (hg : Gl X "enumerate") (hm : X.mg "enumerate" = none) (ha : PA X [e] ta) (hs : starEach [e] X.env = [(false, eval e X.env)] := by rfl) :
    PI X (.Tuple elts kk tpos) (.Call (.Name "enumerate" p) [e] [] pos) (iEnumA X.K ta) := by
  refine ⟨fun pins s σ H R I h => ?_⟩
  refine Call_ (ld_blt I hg hm boot_enumerate (PyProof.Rows.callWith_type1 (thn (ha.run pos pins s σ H _ I h) fun us s1 ⟨vs, H1, I1, r1, q1⟩ => ?_) hs rfl))
  obtain ⟨x, rfl, q⟩ := q1
  obtain ⟨u, rfl, ru⟩ := vals1 r1
  have ffp : ∀ b ∈ [s1.heap.objs.size + 1, s1.heap.objs.size], FpOk X pins H1 b := fun b hb => by
    have e' : b = s1.heap.objs.size + 1 ∨ b = s1.heap.objs.size := by simpa using hb
    have hle : s1.heap.objs.size ≤ b := by
      rcases e' with z | z
      · rw [z]; exact Nat.le_add_right _ _
      · rw [z]; exact Nat.le_refl _
    exact I1.fpOk hle (I1.hok.fresh hle)
  rcases q with ⟨a, xs, rfl, hq, q⟩ | ⟨a, xs, rfl, hq, q⟩ | ⟨z, rfl, q⟩
  · obtain rfl : u = Value.ref a := ru
    obtain ⟨its, rv, p', hz⟩ := I1.list hq
    refine call_enumerate_list p'.isList fun h' he hit hsz hk => wpAny_pyIter_enum he ?_
    have I2 : L2.Inv X pins σ H1 { s1 with heap := h' } := I1.kept (t' := s1.toks) hk
    exact ⟨s1.heap.objs.size + 1, [s1.heap.objs.size + 1, s1.heap.objs.size], _, _, H1, rfl, I2, turn_enum a (s1.heap.objs.size + 1) s1.heap.objs.size, ⟨⟨.none, he⟩, hit, Nat.succ_ne_self _⟩, ffp, q⟩
  · obtain rfl : u = Value.ref a := ru
    obtain ⟨its, rv, p', hz⟩ := I1.tuple hq
    refine call_enum1 (begins_tuple a its.toArray) p' fun h' he hit hsz hk => wpAny_pyIter_enum he ?_
    have I2 : L2.Inv X pins σ H1 { s1 with heap := h' } := I1.kept (t' := s1.toks) hk
    exact ⟨s1.heap.objs.size + 1, [s1.heap.objs.size + 1, s1.heap.objs.size], _, _, H1, rfl, I2, turn_enumT a (s1.heap.objs.size + 1) s1.heap.objs.size, ⟨⟨.none, he⟩, ⟨_, hit, rfl, rfl⟩, Nat.succ_ne_self _⟩, ffp, q⟩
  · obtain ⟨t, rfl⟩ := ru
    refine call_enumerate_str fun h' he hit hsz hk => wpAny_pyIter_enum he ?_
    have I2 : L2.Inv X pins σ H1 { s1 with heap := h' } := I1.kept (t' := s1.toks) hk
    exact ⟨s1.heap.objs.size + 1, [s1.heap.objs.size + 1, s1.heap.objs.size], _, _, H1, rfl, I2, turn_enumS z t (s1.heap.objs.size + 1) s1.heap.objs.size, ⟨⟨.none, he⟩, hit, Nat.succ_ne_self _⟩, ffp, q⟩
end
section
variable {X : Cx} {K : PySem.W.Frag} {ioA : Nat → Option Addr} {G0 H0 G G' H H' : Hp} {σ σ' : L2.St} {ρ ρ' : Rho} {v : V} {r : Vl}
theorem enumD_get {ds : List D} {i : Nat} {d : D} (e : (enumD ds)[i]? = some d) : ∃ d1, ds[i]? = some d1 ∧ d = .tuple [.int (i : Nat), d1] := by
  unfold enumD at e
  rw [List.getElem?_map] at e
  obtain ⟨⟨d1, k⟩, e1, e2⟩ := Option.map_eq_some_iff.mp e
  rw [List.getElem?_zipIdx] at e1
  obtain ⟨d2, e3, e4⟩ := Option.map_eq_some_iff.mp e1
  cases e4
  exact ⟨d1, e3, by rw [← e2]; simp⟩
theorem enumD_len (ds : List D) : (enumD ds).length = ds.length := by simp [enumD]
theorem wk_enum {a : Addr} {xs : List V} {ds : List D} (h : SqL K G a xs) (hd : DpAll K G xs ds) : WkD K G (Ite K a) (enumD ds) := by
  have hl := dps_len hd
  have hn := enumD_len ds
  refine ⟨fun i H hi s => ?_, fun H s => ⟨xs, s.seq h, by omega⟩, fun i H x H' hi s y => ?_⟩
  · exact ⟨xs, xs[i], s.seq h, List.getElem?_eq_getElem (by omega)⟩
  · obtain ⟨T, x1, rfl, hT, rfl, f1⟩ := y
    intro Gi g1 g2 d e
    obtain ⟨d1, e1, rfl⟩ := enumD_get e
    obtain ⟨v1, q1, q2⟩ := dps_getD hd e1
    have z1 := (f1 xs (s.seq h)).symm.trans q1
    cases z1
    exact grow_pair g2 hT (.int _) (dpM g1 _ _ q2)
theorem wk_enumT {a : Addr} {xs : List V} {ds : List D} (h : SqT K G a xs) (hd : DpAll K G xs ds) : WkD K G (IteT K a) (enumD ds) := by
  have hl := dps_len hd
  have hn := enumD_len ds
  refine ⟨fun i H hi s => ?_, fun H s => ⟨xs, seqT s h, by omega⟩, fun i H x H' hi s y => ?_⟩
  · exact ⟨xs, xs[i], seqT s h, List.getElem?_eq_getElem (by omega)⟩
  · obtain ⟨T, x1, rfl, hT, rfl, f1⟩ := y
    intro Gi g1 g2 d e
    obtain ⟨d1, e1, rfl⟩ := enumD_get e
    obtain ⟨v1, q1, q2⟩ := dps_getD hd e1
    have z1 := (f1 xs (seqT s h)).symm.trans q1
    cases z1
    exact grow_pair g2 hT (.int _) (dpM g1 _ _ q2)
theorem wk_enumS {x : Str} : WkD K G (IteS x) (enumD (x.cps.toList.map fun c => .str ⟨#[c]⟩)) := by
  have hn : (enumD (x.cps.toList.map fun c => (.str ⟨#[c]⟩ : D))).length = x.cps.size := by rw [enumD_len]; simp
  refine ⟨fun i H hi s => ?_, fun H s => ?_, fun i H v H' hi s y => ?_⟩
  · show i < x.cps.size
    omega
  · show x.cps.size = _
    omega
  · obtain ⟨T, c, rfl, hT, rfl, hc⟩ := y
    intro Gi g1 g2 d e
    obtain ⟨d1, e1, rfl⟩ := enumD_get e
    have hc' : x.cps.toList[i]? = some c := by simpa using hc
    rw [List.getElem?_map, hc'] at e1
    cases e1
    exact grow_pair g2 hT (.int _) (.str _)
theorem pd_enum {e : Expr} {f : FE} {p pos tpos : Pos} {elts : List Expr} {kk : Nat} (hg : Gl X "enumerate") (hm : X.mg "enumerate" = none) (he : PD X e f) (hs : starEach [e] X.env = (false, eval e X.env) :: starEach [] X.env := by rfl) :
    PDI X (.Tuple elts kk tpos) (.Call (.Name "enumerate" p) [e] [] pos) (iEnum f) := by
  have hp : PDA X [e] (aCons f aNil) := pd_cons he pd_nil hs
  refine ⟨pi_w (pi_enumA hg hm hp.pa (by rw [hs]; rfl)) fun σ H R q => ?_, fun ρ r ρ' q => ?_⟩
  · obtain ⟨ioA, G0, H0, G, ρ, ds, ρ', S, e, k⟩ := q
    obtain ⟨⟨r1, ρ1⟩, e1, e⟩ := bnd e
    simp only at e
    split at e
    · rename_i d z
      obtain ⟨ds', e2, e⟩ := bnd e
      cases e
      refine ⟨ioA, G0, H0, G, ρ, [stl r1], ρ', S, by unfold aCons aNil; simp only [e1, Option.bind_some], fun G1 vs H1 g1 S1 R1 => ?_⟩
      rw [z] at R1
      cases R1 with
      | cons h t =>
        cases t
        rename_i v
        refine ⟨v, rfl, ?_⟩
        cases d with
        | list l =>
          cases e2
          obtain ⟨a, xs, h1, h2, h3⟩ := dp_list h
          exact .inl ⟨a, xs, h1, S1.sub.seq h2, k G1 _ H1 g1 S1 (wk_enum h2 h3)⟩
        | tuple l =>
          cases e2
          obtain ⟨a, xs, h1, h2, h3⟩ := dp_tuple h
          exact .inr (.inl ⟨a, xs, h1, seqT S1.sub h2, k G1 _ H1 g1 S1 (wk_enumT h2 h3)⟩)
        | str x =>
          cases e2
          exact .inr (.inr ⟨x, dp_str h, k G1 _ H1 g1 S1 wk_enumS⟩)
        | _ => cases e2
    · cases e
  · obtain ⟨⟨r1, ρ1⟩, e1, e⟩ := bnd q
    simp only at e
    split at e
    · obtain ⟨ds', e2, e⟩ := bnd e
      cases e
      exact he.kin _ _ _ e1
    · cases e
end
end PL

/-! PL: the pure layer, 13: calls of built-ins. -/
namespace PL
open PySem PySem.Spec PyProof.Rows L2
section
variable {X : Cx} {K : PySem.W.Frag} {G G' H H' : Hp} {v : V} {d : D}
theorem tops1 {vs : List V} (h : Tops K G H vs [d]) : ∃ v, vs = [v] ∧ Top K G H v d := by
  cases h with
  | cons h t => cases t; exact ⟨_, rfl, h⟩
theorem tops2 {vs : List V} {d e : D} (h : Tops K G H vs [d, e]) : ∃ v w, vs = [v, w] ∧ Top K G H v d ∧ Top K G H w e := by
  cases h with
  | cons h t =>
    cases t with
    | cons h' t => cases t; exact ⟨_, _, rfl, h, h'⟩
def on1 (f : D → Option D) : List D → Option D
  | [d] => f d
  | _ => none
theorem on1_eq {f : D → Option D} {ds : List D} {r : D} (h : on1 f ds = some r) : ∃ d, ds = [d] ∧ f d = some r := by
  cases ds with
  | nil => cases h
  | cons d ds =>
    cases ds with
    | nil => exact ⟨d, rfl, h⟩
    | cons _ _ => cases h
def on2 (f : D → D → Option D) : List D → Option D
  | [d, e] => f d e
  | _ => none
theorem on2_eq {f : D → D → Option D} {ds : List D} {r : D} (h : on2 f ds = some r) : ∃ d e, ds = [d, e] ∧ f d e = some r := by
  cases ds with
  | nil => cases h
  | cons d ds =>
    cases ds with
    | nil => cases h
    | cons e ds =>
      cases ds with
      | nil => exact ⟨d, e, rfl, h⟩
      | cons _ _ => cases h
/-- the items of a list or tuple value -/
theorem top_seq {ds : List D} (h : Top K G H v d) (s : Same G H) (e : d = .list ds ∨ d = .tuple ds) : ∃ a xs, v = .ref a ∧ (SqL K H a xs ∨ SqT K H a xs) ∧ DpAll K G xs ds := by
  rcases e with rfl | rfl
  · obtain ⟨a, xs, h1, h2, h3⟩ := top_list h s
    exact ⟨a, xs, h1, .inl h2, h3⟩
  · obtain ⟨a, xs, h1, h2, h3, _⟩ := top_tuple h s
    exact ⟨a, xs, h1, .inr h2, h3⟩
def seqOf : D → Option (List D)
  | .list ds => some ds
  | .tuple ds => some ds
  | _ => none
theorem seqOf_eq {ds : List D} (h : seqOf d = some ds) : d = .list ds ∨ d = .tuple ds := by
  cases d <;> cases h
  · exact .inl rfl
  · exact .inr rfl

/-! ### len -/
def fLen : List D → Option D := on1 fun d => match d with
  | .str z => if z.length ≤ lineN then some (.int z.length) else none
  | .list ds => some (.int ds.length)
  | .tuple ds => some (.int ds.length)
  | _ => none
theorem so_len : CallR X (.builtin "len") (rNA X.K .pu fLen) := callr_of fun vs H Q q => by
  obtain ⟨G, ds, r, s, hv, o, k⟩ := q
  obtain ⟨d, rfl, o⟩ := on1_eq o
  obtain ⟨v, rfl, hx⟩ := tops1 hv
  cases d with
  | str z =>
    have o' : (if z.length ≤ lineN then some (PyData.int z.length) else none) = some r := o
    by_cases hz : z.length ≤ lineN
    · rw [if_pos hz] at o'
      cases o'
      exact ⟨_, call_len_str, z, by rw [top_str hx], by rw [← lineN_eq]; exact hz, fin_int s k⟩
    · rw [if_neg hz] at o'; cases o'
  | list ds =>
    cases o
    obtain ⟨a, xs, rfl, h2, h3⟩ := top_seq hx s (.inl rfl)
    refine ⟨_, call_len_seq, a, xs, rfl, h2, ?_⟩
    rw [dps_len h3]
    exact fin_int s k
  | tuple ds =>
    cases o
    obtain ⟨a, xs, rfl, h2, h3⟩ := top_seq hx s (.inr rfl)
    refine ⟨_, call_len_seq, a, xs, rfl, h2, ?_⟩
    rw [dps_len h3]
    exact fin_int s k
  | _ => cases o

/-! ### sum, max, min -/
def rSumA (K : PySem.W.Frag) : List V → Hp → VK → Prop := fun vs H Q => ∃ (a : Addr) (ns : List Int), vs = [V.ref a] ∧ (SqL K H a (ns.map V.int) ∨ SqT K H a (ns.map V.int)) ∧ Q (.int ns.sum) H
theorem cr_sumA (hc : X.calm = true) : CallR X (.builtin "sum") (rSumA X.K) := by
  intro pins s σ H vs us Q I r h
  obtain ⟨a, ns, rfl, hs, q⟩ := h
  rcases hs with hs | hs
  · exact cr_sum hc pins s σ H _ us Q I r ⟨a, ns, rfl, hs, q⟩
  · obtain ⟨its, rv, hl, _⟩ := I.tuple hs
    rw [Vals.ref1 r]
    have hi := rv.ints
    obtain ⟨xs, e⟩ := hi.allInts.items
    have hn : numsOf (intItems xs).toList = ns := by rw [← e]; exact hi.numsOf
    rw [nums_intItems] at hn
    have hl' : s.heap.IsTuple a (intItems xs) := by rw [← e]; exact hl
    refine PySem.W.ktm_sumG (I.ok.hd hc) hl' fun h' tk t' hk => ?_
    rw [preSum_eq, List.take_of_length_le (by simp), hn]
    exact ⟨.int _, H, I.kept hk, ⟨_, rfl⟩, q⟩
def fSum : List D → Option D := on1 fun d => (seqOf d).bind fun ds => (intsOf ds).bind fun ns => some (.int ns.sum)
theorem so_sum (hc : X.calm = true) : CallR X (.builtin "sum") (rNA X.K .pu fSum) := callr_of fun vs H Q q => by
  obtain ⟨G, ds, r, s, hv, o, k⟩ := q
  obtain ⟨d, rfl, o⟩ := on1_eq o
  obtain ⟨v, rfl, hx⟩ := tops1 hv
  obtain ⟨es, e1, o⟩ := bnd o
  obtain ⟨ns, e2, o⟩ := bnd o
  cases o
  obtain ⟨a, xs, rfl, h2, h3⟩ := top_seq hx s (seqOf_eq e1)
  rw [intsOf_eq e2] at h3
  rw [dps_ints h3] at h2
  exact ⟨_, cr_sumA hc, a, ns, rfl, h2, fin_int s k⟩
def rMaxA (K : PySem.W.Frag) : List V → Hp → VK → Prop := fun vs H Q => ∃ (a : Addr) (n : Int) (ns : List Int), vs = [V.ref a] ∧ (SqL K H a ((n :: ns).map V.int) ∨ SqT K H a ((n :: ns).map V.int)) ∧ Q (.int (ns.foldl max n)) H
theorem alike_ints0 (n : Int) (ns : List Int) : PySem.W.AlikeAll (.int n :: ns.map .int) := by
  refine ⟨fun x hx y hy => ?_, fun x hx => ?_⟩
  · have h1 : ∃ i, x = .int i := by
      rcases List.mem_cons.mp hx with e | e
      · exact ⟨n, e⟩
      · obtain ⟨i, _, e⟩ := List.mem_map.mp e; exact ⟨i, e.symm⟩
    have h2 : ∃ i, y = .int i := by
      rcases List.mem_cons.mp hy with e | e
      · exact ⟨n, e⟩
      · obtain ⟨i, _, e⟩ := List.mem_map.mp e; exact ⟨i, e.symm⟩
    obtain ⟨i, rfl⟩ := h1
    obtain ⟨j, rfl⟩ := h2
    rfl
  · rcases List.mem_cons.mp hx with e | e
    · rw [e]; exact fun z => nomatch z
    · obtain ⟨i, _, e⟩ := List.mem_map.mp e
      rw [← e]; exact fun z => nomatch z
theorem depth_ints0 (n : Int) (ns : List Int) : PyData.depthAll (.int n :: ns.map .int) = 0 := PySem.W.depth_ints (n :: ns)
theorem reads_ints {h : Heap} : ∀ {ns : List Int} {us : List Value}, Vals (ns.map V.int) us → ∃ as, ReadsAll h us (ns.map .int) as
  | [], us, r => by cases r; exact ⟨_, .nil⟩
  | n :: ns, us, r => by
    cases r with
    | cons r1 r2 =>
      obtain ⟨t, rfl⟩ := r1
      obtain ⟨as, h2⟩ := reads_ints r2
      exact ⟨_, .cons (.int n t) h2⟩
theorem cr_maxA (hc : X.calm = true) (hu : X.A.units + 65 < cLine) : CallR X (.builtin "max") (rMaxA X.K) := by
  intro pins s σ H vs us Q I r h
  obtain ⟨a, n, ns, rfl, hs, q⟩ := h
  rw [Vals.ref1 r]
  rcases hs with hs | hs
  · obtain ⟨its, rv, hl, _⟩ := I.list hs
    obtain ⟨as, hr⟩ := reads_ints (h := s.heap) (ns := n :: ns) rv
    refine PySem.W.max_list_data (vs := its.toArray) (x := .int n) (xs := ns.map .int) (I.ok.hd hc) hl.isList (by simpa using hr) (alike_ints0 n ns) (by rw [depth_ints0]; omega) fun i w h' tk bs hw hrd hk => ?_
    rw [PySem.W.maxD_ints] at hrd
    cases hrd
    exact ⟨.int _, H, I.kept hk, ⟨_, rfl⟩, q⟩
  · obtain ⟨its, rv, hl, _⟩ := I.tuple hs
    obtain ⟨as, hr⟩ := reads_ints (h := s.heap) (ns := n :: ns) rv
    refine PySem.W.max_tuple_data (vs := its.toArray) (x := .int n) (xs := ns.map .int) (I.ok.hd hc) hl (by simpa using hr) (alike_ints0 n ns) (by rw [depth_ints0]; omega) fun i w h' tk bs hw hrd hk => ?_
    rw [PySem.W.maxD_ints] at hrd
    cases hrd
    exact ⟨.int _, H, I.kept hk, ⟨_, rfl⟩, q⟩
def rMinA (K : PySem.W.Frag) : List V → Hp → VK → Prop := fun vs H Q => ∃ (a : Addr) (n : Int) (ns : List Int), vs = [V.ref a] ∧ (SqL K H a ((n :: ns).map V.int) ∨ SqT K H a ((n :: ns).map V.int)) ∧ Q (.int (ns.foldl min n)) H
theorem cr_minA (hc : X.calm = true) (hu : X.A.units + 65 < cLine) : CallR X (.builtin "min") (rMinA X.K) := by
  intro pins s σ H vs us Q I r h
  obtain ⟨a, n, ns, rfl, hs, q⟩ := h
  rw [Vals.ref1 r]
  rcases hs with hs | hs
  · obtain ⟨its, rv, hl, _⟩ := I.list hs
    obtain ⟨as, hr⟩ := reads_ints (h := s.heap) (ns := n :: ns) rv
    refine PySem.W.min_list_data (vs := its.toArray) (x := .int n) (xs := ns.map .int) (I.ok.hd hc) hl.isList (by simpa using hr) (alike_ints0 n ns) (by rw [depth_ints0]; omega) fun i w h' tk bs hw hrd hk => ?_
    rw [PySem.W.minD_ints] at hrd
    cases hrd
    exact ⟨.int _, H, I.kept hk, ⟨_, rfl⟩, q⟩
  · obtain ⟨its, rv, hl, _⟩ := I.tuple hs
    obtain ⟨as, hr⟩ := reads_ints (h := s.heap) (ns := n :: ns) rv
    refine PySem.W.min_tuple_data (vs := its.toArray) (x := .int n) (xs := ns.map .int) (I.ok.hd hc) hl (by simpa using hr) (alike_ints0 n ns) (by rw [depth_ints0]; omega) fun i w h' tk bs hw hrd hk => ?_
    rw [PySem.W.minD_ints] at hrd
    cases hrd
    exact ⟨.int _, H, I.kept hk, ⟨_, rfl⟩, q⟩
def maxI : List Int → Option D
  | n :: ns => some (.int (ns.foldl max n))
  | [] => none
def minI : List Int → Option D
  | n :: ns => some (.int (ns.foldl min n))
  | [] => none
def fMax : List D → Option D
  | [d] => (seqOf d).bind fun ds => (intsOf ds).bind maxI
  | [.int i, .int j] => some (.int (if j > i then j else i))
  | _ => none
def fMin : List D → Option D
  | [d] => (seqOf d).bind fun ds => (intsOf ds).bind minI
  | [.int i, .int j] => some (.int (if j < i then j else i))
  | _ => none
theorem so_max (hc : X.calm = true) (hu : X.A.units + 65 < cLine) : CallR X (.builtin "max") (rNA X.K .pu fMax) := callr_of fun vs H Q q => by
  obtain ⟨G, ds, r, s, hv, o, k⟩ := q
  unfold fMax at o
  split at o
  · obtain ⟨v, rfl, hx⟩ := tops1 hv
    obtain ⟨es, e1, o⟩ := bnd o
    obtain ⟨ns, e2, o⟩ := bnd o
    cases ns with
    | nil => cases o
    | cons n ns =>
      cases o
      obtain ⟨a, xs, rfl, h2, h3⟩ := top_seq hx s (seqOf_eq e1)
      rw [intsOf_eq e2] at h3
      rw [dps_ints h3] at h2
      exact ⟨_, cr_maxA hc hu, a, n, ns, rfl, h2, fin_int s k⟩
  · cases o
    obtain ⟨v, w, rfl, hx, hy⟩ := tops2 hv
    exact ⟨_, call_max2 hc, _, _, by rw [top_int hx, top_int hy], fin_int s k⟩
  · cases o
theorem so_min (hc : X.calm = true) (hu : X.A.units + 65 < cLine) : CallR X (.builtin "min") (rNA X.K .pu fMin) := callr_of fun vs H Q q => by
  obtain ⟨G, ds, r, s, hv, o, k⟩ := q
  unfold fMin at o
  split at o
  · obtain ⟨v, rfl, hx⟩ := tops1 hv
    obtain ⟨es, e1, o⟩ := bnd o
    obtain ⟨ns, e2, o⟩ := bnd o
    cases ns with
    | nil => cases o
    | cons n ns =>
      cases o
      obtain ⟨a, xs, rfl, h2, h3⟩ := top_seq hx s (seqOf_eq e1)
      rw [intsOf_eq e2] at h3
      rw [dps_ints h3] at h2
      exact ⟨_, cr_minA hc hu, a, n, ns, rfl, h2, fin_int s k⟩
  · cases o
    obtain ⟨v, w, rfl, hx, hy⟩ := tops2 hv
    exact ⟨_, call_min2 hc, _, _, by rw [top_int hx, top_int hy], fin_int s k⟩
  · cases o

/-! ### all, any of a list of bools -/
def fAll : List D → Option D := on1 fun d => match d with
  | .list ds => (boolsOf ds).bind fun bs => some (.bool (bs.all id))
  | _ => none
theorem so_all (hc : X.calm = true) : CallR X (.builtin "all") (rNA X.K .pu fAll) := callr_of fun vs H Q q => by
  obtain ⟨G, ds, r, s, hv, o, k⟩ := q
  obtain ⟨d, rfl, o⟩ := on1_eq o
  obtain ⟨v, rfl, hx⟩ := tops1 hv
  cases d with
  | list ds =>
    obtain ⟨bs, e2, o⟩ := bnd (show (boolsOf ds).bind (fun bs => some (PyData.bool (bs.all id))) = some r from o)
    cases o
    obtain ⟨a, xs, rfl, h2, h3⟩ := top_list hx s
    rw [boolsOf_eq e2] at h3
    rw [dps_bools h3] at h2
    exact ⟨_, cr_all hc, a, bs, rfl, h2, fin_bool s k⟩
  | _ => cases o
def fAny : List D → Option D := on1 fun d => match d with
  | .list ds => (boolsOf ds).bind fun bs => some (.bool (bs.any id))
  | _ => none
theorem so_any (hc : X.calm = true) : CallR X (.builtin "any") (rNA X.K .pu fAny) := callr_of fun vs H Q q => by
  obtain ⟨G, ds, r, s, hv, o, k⟩ := q
  obtain ⟨d, rfl, o⟩ := on1_eq o
  obtain ⟨v, rfl, hx⟩ := tops1 hv
  cases d with
  | list ds =>
    obtain ⟨bs, e2, o⟩ := bnd (show (boolsOf ds).bind (fun bs => some (PyData.bool (bs.any id))) = some r from o)
    cases o
    obtain ⟨a, xs, rfl, h2, h3⟩ := top_list hx s
    rw [boolsOf_eq e2] at h3
    rw [dps_bools h3] at h2
    exact ⟨_, cr_any hc, a, bs, rfl, h2, fin_bool s k⟩
  | _ => cases o

/-! ### tuple, list, abs, int -/
def fTuple : List D → Option D := on1 fun d => (seqOf d).bind fun ds => some (.tuple ds)
theorem so_tuple : CallR X (.type "tuple") (rNA X.K .pu fTuple) := callr_of fun vs H Q q => by
  obtain ⟨G, ds, r, s, hv, o, k⟩ := q
  obtain ⟨d, rfl, o⟩ := on1_eq o
  obtain ⟨v, rfl, hx⟩ := tops1 hv
  obtain ⟨es, e1, o⟩ := bnd o
  cases o
  rcases seqOf_eq e1 with rfl | rfl
  · obtain ⟨a, xs, rfl, h2, h3⟩ := top_list hx s
    exact ⟨_, call_tuple_of, a, xs, rfl, .inl ⟨h2, fin_tup s h3 k⟩⟩
  · obtain ⟨a, xs, rfl, h2, h3, h4⟩ := top_tuple hx s
    exact ⟨_, call_tuple_of, a, xs, rfl, .inr ⟨h2, fin_same s h4 k⟩⟩
def signsD (x : Str) : List D := x.cps.toList.map fun c => .str ⟨#[c]⟩
def signsV (x : Str) : List V := x.cps.toList.map fun c => .str ⟨#[c]⟩
theorem signs_dps : ∀ (l : List Nat), DpAll K G (l.map fun c => V.str ⟨#[c]⟩) (l.map fun c => PyData.str ⟨#[c]⟩)
  | [] => .nil
  | c :: l => .cons (.str _) (signs_dps l)
theorem vals_signs {x : Str} {acc : Array Value} (h : ItemsOf (SignAt x) acc x.cps.size) : Vals (signsV x) acc.toList := by
  have h1 : acc.size = x.cps.size := h.1
  have key : ∀ (l : List Nat) (us : List Value), us.length = l.length → (∀ (j : Nat) u, us[j]? = some u → ∃ (c : Nat) (t : Tok), l[j]? = some c ∧ u = Value.str ⟨#[c]⟩ t) → Vals (l.map fun c => V.str ⟨#[c]⟩) us := by
    intro l
    induction l with
    | nil =>
      intro us h _
      cases us with
      | nil => exact .nil
      | cons u us => cases h
    | cons c l ih =>
      intro us hl hg
      cases us with
      | nil => cases hl
      | cons u us =>
        obtain ⟨c', t, e1, e2⟩ := hg 0 u rfl
        have e3 : c = c' := by simpa using e1
        subst e3
        refine .cons ⟨t, e2⟩ (ih us (by simpa using hl) fun j u' hj => ?_)
        obtain ⟨c2, t2, e4, e5⟩ := hg (j + 1) u' (by simpa using hj)
        exact ⟨c2, t2, by simpa using e4, e5⟩
  refine key _ _ (by simpa using h1) fun j u hj => ?_
  obtain ⟨c, t, hc, hu⟩ := h.2 j u (by simpa using hj)
  exact ⟨c, t, by simpa using hc, hu⟩
def rListStr : List V → Hp → VK → Prop := fun vs H Q => ∃ x, vs = [V.str x] ∧ x.length ≤ sizeLine ∧ ∀ l, H l = none → Q (.ref l) (upd H l (.lst (signsV x)))
theorem cr_listStr (hc : X.calm = true) : CallR X (.type "list") rListStr := by
  intro pins s σ H vs us Q I r h
  obtain ⟨x, rfl, hz, q⟩ := h
  obtain ⟨u, rfl, t, rfl⟩ := vals1 r
  refine call_list_str (I.ok.hd hc) x t (hn := hz) fun h' tk acc c' hk e' hi => ?_
  refine ⟨.ref s.heap.objs.size, upd H s.heap.objs.size (.lst (signsV x)), I.laid (t' := tk) hk (Nat.le_refl _) (show ObjOk X.prog X.w _ _ _ (.lst (signsV x)) from ⟨?_, acc.toList, c', vals_signs hi, ?_⟩), rfl, q _ (I.hok.fresh (Nat.le_refl _))⟩
  · unfold signsV
    rw [List.length_map, Array.length_toList]
    exact hz
  · rw [Array.toArray_toList]; exact e'
def fList : List D → Option D := on1 fun d => match d with
  | .list ds => some (.list ds)
  | .tuple ds => some (.list ds)
  | .str x => if x.length ≤ lineN then some (.list (signsD x)) else none
  | _ => none
theorem so_list (hc : X.calm = true) : CallR X (.type "list") (rNA X.K mk fList) := callr_of fun vs H Q q => by
  obtain ⟨G, ds, r, s, hv, o, k⟩ := q
  obtain ⟨d, rfl, o⟩ := on1_eq o
  obtain ⟨v, rfl, hx⟩ := tops1 hv
  cases d with
  | list ds =>
    cases o
    obtain ⟨a, xs, rfl, h2, h3⟩ := top_seq hx s (.inl rfl)
    exact ⟨_, call_list_of, a, xs, rfl, h2, fin_list s h3 k⟩
  | tuple ds =>
    cases o
    obtain ⟨a, xs, rfl, h2, h3⟩ := top_seq hx s (.inr rfl)
    exact ⟨_, call_list_of, a, xs, rfl, h2, fin_list s h3 k⟩
  | str x =>
    have o' : (if x.length ≤ lineN then some (PyData.list (signsD x)) else none) = some r := o
    by_cases hz : x.length ≤ lineN
    · rw [if_pos hz] at o'
      cases o'
      exact ⟨_, cr_listStr hc, x, by rw [top_str hx], by rw [← lineN_eq]; exact hz, fin_list s (signs_dps _) k⟩
    · rw [if_neg hz] at o'; cases o'
  | _ => cases o
def fAbs : List D → Option D := on1 fun d => match d with
  | .int i => some (.int (if i < 0 then -i else i))
  | _ => none
theorem so_abs : CallR X (.builtin "abs") (rNA X.K .pu fAbs) := callr_of fun vs H Q q => by
  obtain ⟨G, ds, r, s, hv, o, k⟩ := q
  obtain ⟨d, rfl, o⟩ := on1_eq o
  obtain ⟨v, rfl, hx⟩ := tops1 hv
  cases d with
  | int i =>
    cases o
    exact ⟨_, call_abs, i, by rw [top_int hx], fin_int s k⟩
  | _ => cases o
def fInt : List D → Option D := on1 fun d => match d with
  | .int i => some (.int i)
  | .bool b => some (.int (if b then 1 else 0))
  | _ => none
theorem so_int : CallR X (.type "int") (rNA X.K .pu fInt) := callr_of fun vs H Q q => by
  obtain ⟨G, ds, r, s, hv, o, k⟩ := q
  obtain ⟨d, rfl, o⟩ := on1_eq o
  obtain ⟨v, rfl, hx⟩ := tops1 hv
  cases d with
  | int i =>
    cases o
    exact ⟨_, call_int1, .inl ⟨i, by rw [top_int hx], fin_int s k⟩⟩
  | bool b =>
    cases o
    exact ⟨_, call_int1, .inr ⟨b, by rw [top_bool hx], fin_int s k⟩⟩
  | _ => cases o

/-! ### sorted, ints -/
/-- by insertion: the kernel works it out -/
def insUp (a : Int) : List Int → List Int
  | [] => [a]
  | b :: l => if a ≤ b then a :: b :: l else b :: insUp a l
def srtUp : List Int → List Int
  | [] => []
  | a :: l => insUp a (srtUp l)
theorem insUp_perm (a : Int) : ∀ l : List Int, (insUp a l).Perm (a :: l)
  | [] => List.Perm.refl _
  | b :: l => by
    unfold insUp
    split
    · exact List.Perm.refl _
    · exact ((insUp_perm a l).cons b).trans (List.Perm.swap a b l)
theorem insUp_srt (a : Int) : ∀ l : List Int, l.Pairwise (· ≤ ·) → (insUp a l).Pairwise (· ≤ ·)
  | [], _ => List.pairwise_singleton _ _
  | b :: l, h => by
    obtain ⟨h1, h2⟩ := List.pairwise_cons.mp h
    unfold insUp
    split
    · rename_i hab
      refine List.pairwise_cons.mpr ⟨fun x hx => ?_, h⟩
      rcases List.mem_cons.mp hx with rfl | hx
      · exact hab
      · exact Int.le_trans hab (h1 x hx)
    · rename_i hab
      refine List.pairwise_cons.mpr ⟨fun x hx => ?_, insUp_srt a l h2⟩
      rcases List.mem_cons.mp ((insUp_perm a l).mem_iff.mp hx) with rfl | hx
      · omega
      · exact h1 x hx
theorem srtUp_perm : ∀ l : List Int, (srtUp l).Perm l
  | [] => List.Perm.refl _
  | a :: l => (insUp_perm a (srtUp l)).trans ((srtUp_perm l).cons a)
theorem srtUp_srt : ∀ l : List Int, (srtUp l).Pairwise (· ≤ ·)
  | [] => List.Pairwise.nil
  | a :: l => insUp_srt a (srtUp l) (srtUp_srt l)
def srtDn (ns : List Int) : List Int := (srtUp ns).reverse
theorem srtUp_eq {ns ms : List Int} (h : ms.Perm ns) (p : ms.Pairwise (· ≤ ·)) : ms = srtUp ns :=
  List.Perm.eq_of_pairwise (fun x y _ _ h1 h2 => Int.le_antisymm h1 h2) p (srtUp_srt ns) (h.trans (srtUp_perm ns).symm)
theorem srtDn_eq {ns ms : List Int} (h : ms.Perm ns) (p : ms.Pairwise (· ≥ ·)) : ms = srtDn ns := by
  have p2 : (srtDn ns).Pairwise (· ≥ ·) := by
    unfold srtDn
    rw [List.pairwise_reverse]
    exact srtUp_srt ns
  exact List.Perm.eq_of_pairwise (fun x y _ _ h1 h2 => Int.le_antisymm h2 h1) p p2 (h.trans ((List.reverse_perm _).trans (srtUp_perm ns)).symm)
def fSorted : List D → Option D := on1 fun d => match d with
  | .list ds => (intsOf ds).bind fun ns => some (.list ((srtUp ns).map .int))
  | _ => none
theorem so_sorted : CallR X (.builtin "sorted") (rNA X.K mk fSorted) := callr_of fun vs H Q q => by
  obtain ⟨G, ds, r, s, hv, o, k⟩ := q
  obtain ⟨d, rfl, o⟩ := on1_eq o
  obtain ⟨v, rfl, hx⟩ := tops1 hv
  cases d with
  | list ds =>
    obtain ⟨ns, e2, o⟩ := bnd (show (intsOf ds).bind (fun ns => some (PyData.list ((srtUp ns).map .int))) = some r from o)
    cases o
    obtain ⟨a, xs, rfl, h2, h3⟩ := top_list hx s
    rw [intsOf_eq e2] at h3
    rw [dps_ints h3] at h2
    refine ⟨_, cr_sortedI, a, ns, rfl, h2, fun ns' p h4 h5 hp => ?_⟩
    rw [srtUp_eq h4 h5]
    exact fin_list s ints_dps k p hp
  | _ => cases o
/-- sorted(e, reverse=True) -/
def fSortedR : List D → Option D := on1 fun d => match d with
  | .list ds => (intsOf ds).bind fun ns => some (.list ((srtDn ns).map .int))
  | _ => none
theorem pd_sortedR {e : Expr} {f : FE} {p pos kp : Pos} {kj : Nat} {kpos : Pos} (hg : Gl X "sorted") (hm : X.mg "sorted" = none) (hv : bootBuiltins "sorted" = some (.builtin "sorted")) (ha : PD X e f)
    (hst : starEach [e] X.env = (false, eval e X.env) :: starEach [] X.env := by rfl)
    (he : backTo pos (starEach [e] X.env) = (false, eval e X.env) :: backTo pos (starEach [] X.env) := by rfl) (hpl : (backTo pos (starEach [e] X.env)).any (·.1) = false := by rfl)
    (hall : (backToKw pos (keywordEach [⟨some "reverse", .Constant (.bool true) kj kp, kpos⟩] X.env)).all (·.1.isSome) = true := by rfl) (hnone : (backToKw pos (keywordEach [⟨some "reverse", .Constant (.bool true) kj kp, kpos⟩] X.env)).any (·.1.isNone) = false := by rfl)
    (hks : (backToKw pos (keywordEach [⟨some "reverse", .Constant (.bool true) kj kp, kpos⟩] X.env)).filterMap (·.1) = [Str.ofString "reverse"] := by rfl) :
    PD X (.Call (.Name "sorted" p) [e] [⟨some "reverse", .Constant (.bool true) kj kp, kpos⟩] pos) (cOpAn fSortedR (aCons f aNil)) := by
  have hp : PDA X [e] (aCons f aNil) := pd_cons ha pd_nil hst
  refine ⟨pe_w (pe_callBK (cr_sortedRev (b := true)) hg hm hv hp.pa (pk_cons pe_bl pk_nil) (by decide) (by decide) he hpl hall hnone hks) fun σ H Q q => ?_, kin_opA hp.kin⟩
  obtain ⟨ioA, G0, H0, G, ρ, r, ρ', S, e, k⟩ := argsB q
  refine ⟨ioA, G0, H0, G, ρ, r, ρ', S, e, fun G' vs H' g S' R => ?_⟩
  obtain ⟨G, ds, r, s, hv, o, k⟩ := k G' vs H' g S' R
  obtain ⟨d, rfl, o⟩ := on1_eq o
  obtain ⟨v, rfl, hx⟩ := tops1 hv
  cases d with
  | list ds =>
    obtain ⟨ns, e2, o⟩ := bnd (show (intsOf ds).bind (fun ns => some (PyData.list ((srtDn ns).map .int))) = some r from o)
    cases o
    obtain ⟨a, xs, rfl, h2, h3⟩ := top_list hx s
    rw [intsOf_eq e2] at h3
    rw [dps_ints h3] at h2
    refine ⟨a, ns, rfl, rfl, h2, fun ns' p h4 h5 hp => ?_⟩
    rw [srtDn_eq h4 h5]
    exact fin_list s ints_dps k p hp
  | _ => cases o

/-! ### tuple(range(..)), list(range(..)) -/
def rgOkB (a b : Int) : Bool := small a && small b && decide ((b - a).toNat ≤ 16777216)
theorem rgOkB_ok {a b : Int} (h : rgOkB a b = true) : RgOk a b := by
  unfold rgOkB at h
  rw [Bool.and_eq_true, Bool.and_eq_true, decide_eq_true_eq] at h
  obtain ⟨h1, h2⟩ := small_ok h.1.1
  obtain ⟨h3, h4⟩ := small_ok h.1.2
  exact ⟨h1, h2, h3, h4, h.2⟩
theorem rg_dps (a : Int) (b : Int) : DpAll K G (rgV a b) (intsD a (b - a).toNat) := by
  unfold rgV intsD
  induction List.range (b - a).toNat with
  | nil => exact .nil
  | cons i l ih => exact .cons (.int _) ih
def cTupRg1 (a : FE) : FE := fun ρ => (a ρ).bind fun p => match p.1 with
  | .pu (.int j) => if rgOkB 0 j = true then some (.pu (.tuple (intsD 0 j.toNat)), p.2) else none
  | _ => none
theorem pd_tupRg1 {e : Expr} {f : FE} {p p2 pos pos2 : Pos} (hc : X.calm = true) (hg : Gl X "tuple") (hm : X.mg "tuple" = none) (hg2 : Gl X "range") (hm2 : X.mg "range" = none) (ha : PD X e f)
    (na : starEach [e] X.env = (false, eval e X.env) :: starEach [] X.env := by rfl)
    (nb : starEach [.Call (.Name "range" p2) [e] [] pos2] X.env = (false, eval (.Call (.Name "range" p2) [e] [] pos2) X.env) :: starEach [] X.env := by rfl) : PD X (.Call (.Name "tuple" p) [.Call (.Name "range" p2) [e] [] pos2] [] pos) (cTupRg1 f) := by
  refine ⟨pe_w (pe_tupRg hc hg hm (prg_1 hg2 hm2 ha.pe na) nb) fun σ H Q q => ?_, fun ρ r ρ' q => ?_⟩
  · obtain ⟨ioA, G0, H0, G, ρ, r, ρ', S, e, k⟩ := q
    obtain ⟨⟨r1, ρ1⟩, e1, e⟩ := bnd e
    simp only at e
    split at e
    · rename_i j
      by_cases hz : rgOkB 0 j = true
      · rw [if_pos hz] at e
        cases e
        refine ⟨ioA, G0, H0, G, ρ, _, _, S, e1, fun G1 v1 H1 g1 S1 R1 => ?_⟩
        cases R1
        refine ⟨j, rfl, rgOkB_ok hz, fun q hq => ?_⟩
        have hd := rg_dps (K := X.K) (G := G1) 0 j
        have ej : (j - 0).toNat = j.toNat := by rw [Int.sub_zero]
        rw [ej] at hd
        obtain ⟨S2, R2⟩ := S1.repN (w := .pu (.tuple (intsD 0 j.toNat))) (grow_new (o := .tup (rgV 0 j)) S1.sub hq) (dp_tup S1.sub hq hd)
        exact k _ _ _ (g1.trans (grow_new (o := .tup (rgV 0 j)) S1.sub hq).g) S2 R2
      · rw [if_neg hz] at e; cases e
    · cases e
  · obtain ⟨⟨r1, ρ1⟩, e1, e⟩ := bnd q
    simp only at e
    split at e
    · split at e <;> cases e
      exact ha.kin _ _ _ e1
    · cases e

/-! ### isinstance of a built-in type -/
def tyName : D → String
  | .none => "NoneType" | .bool _ => "bool" | .int _ => "int" | .str _ => "str" | .list _ => "list" | .tuple _ => "tuple" | .dict _ => "dict"
def isiD (T : String) (d : D) : Bool := tyName d == T || (T == "int" && tyName d == "bool")
def isiOk (T : String) : Bool := ["NoneType", "bool", "int", "str", "list", "tuple"].all fun t => kitB t T == some (t == T || (T == "int" && t == "bool"))
theorem isi_int : isiOk "int" = true := by decide +kernel
theorem isi_bool : isiOk "bool" = true := by decide +kernel
theorem isi_str : isiOk "str" = true := by decide +kernel
theorem isi_list : isiOk "list" = true := by decide +kernel
theorem isi_tuple : isiOk "tuple" = true := by decide +kernel
theorem tyx_of (h : Dp K H v d) : TyX K H v (.type (tyName d)) := by
  cases h with
  | non => exact .base .non
  | bl b => exact .base (.bl b)
  | int i => exact .base (.int i)
  | str x => exact .base (.str x)
  | lst hs _ =>
    rcases hs with (h | ⟨o, h⟩) | ⟨o, its, n, h1, h2, _⟩
    · exact .base (.lst h)
    · exact .base (.frz h)
    · exact .kList h1 h2
  | tup hs _ =>
    rcases hs with (h | ⟨o, h⟩) | ⟨o, its, n, h1, h2, _⟩
    · exact .base (.tup h)
    · exact .fTuple h
    · exact .kTuple h1 h2
theorem kit_d {T : String} (hT : isiOk T = true) (hd : d.plain = true) : kitB (tyName d) T = some (isiD T d) := by
  unfold isiOk at hT
  rw [List.all_eq_true] at hT
  have key : ∀ t ∈ ["NoneType", "bool", "int", "str", "list", "tuple"], kitB t T = some (t == T || (T == "int" && t == "bool")) := fun t ht => eq_of_beq (hT t ht)
  unfold isiD
  cases d with
  | dict _ => cases hd
  | _ => exact key _ (by simp [tyName])
def opIsi (T : String) : D → Option D := fun d => some (.bool (isiD T d))
theorem pd_isi {T : String} {a : Expr} {f : FE} {Tn : Str} {p p2 pos : Pos} (hT : isiOk T = true) (hg : Gl X "isinstance") (hm : X.mg "isinstance" = none) (hv : bootBuiltins "isinstance" = some (.builtin "isinstance")) (ht : PE X (.Name Tn p2) (tC (.ty T))) (ha : PD X a f)
    (h1 : starEach [a, .Name Tn p2] X.env = (false, eval a X.env) :: starEach [.Name Tn p2] X.env := by rfl) (h2 : starEach [.Name Tn p2] X.env = (false, eval (.Name Tn p2) X.env) :: starEach [] X.env := by rfl)
    (hpl : (backTo pos (starEach [.Name Tn p2] X.env)).any (·.1) = false := by rfl) :
    PD X (.Call (.Name "isinstance" p) [a, .Name Tn p2] [] pos) (cOpn (opIsi T) f) := by
  refine ⟨pe_w (pe_callB call_isi hg hm hv (pa_cons ha.pe (pa_cons ht pa_nil h2) h1) (by decide) (by decide) h1 hpl) fun σ H Q q => ?_, fun ρ r ρ' q => ?_⟩
  · obtain ⟨ioA, G0, H0, G, ρ, r, ρ', S, e, k⟩ := q
    obtain ⟨⟨r1, ρ1⟩, e1, e⟩ := bnd e
    obtain ⟨x, ex, e⟩ := bnd e
    obtain ⟨z, ez, e⟩ := bnd e
    cases e
    cases ez
    show tD X.K f σ H _
    refine ⟨ioA, G0, H0, G, ρ, r1, ρ1, S, e1, fun G1 v1 H1 g1 S1 R1 => ?_⟩
    obtain ⟨G1', g1', S1', R1'⟩ := settle S1 R1
    have T1 := (S1'.top R1' ex).dp S1'.sub
    exact ⟨v1, .ty T, .type (tyName x), .type T, isiD T x, rfl, .ty T, tyx_of T1, kit_ty (kit_d hT (dp_plain x v1 T1)), k G1' _ H1 (g1.trans g1') S1' (Dp.bl _)⟩
  · obtain ⟨⟨r1, ρ1⟩, e1, e⟩ := bnd q
    obtain ⟨x, ex, e⟩ := bnd e
    obtain ⟨z, ez, e⟩ := bnd e
    cases e
    exact ha.kin _ _ _ e1

/-! ### methods of texts -/
def mCount : D → List D → Option D
  | .str a, [.str b] => some (.int (Txt.count a b))
  | _, _ => none
theorem so_count : MtR X "str.count" (rNM X.K .pu mCount) := mtr_of fun x xs H Q q => by
  obtain ⟨G, d, ds, r, s, hx, hv, o, k⟩ := q
  unfold mCount at o
  split at o
  · cases o
    obtain ⟨w, rfl, hy⟩ := tops1 hv
    exact ⟨_, mt_count, _, _, top_str hx, by rw [top_str hy], fin_int s k⟩
  · cases o
def mUpper : D → List D → Option D
  | .str a, [] => if a.length ≤ 5592405 then some (.str (Txt.upper a)) else none
  | _, _ => none
theorem so_upper : MtR X "str.upper" (rNM X.K .pu mUpper) := mtr_of fun x xs H Q q => by
  obtain ⟨G, d, ds, r, s, hx, hv, o, k⟩ := q
  unfold mUpper at o
  split at o
  · split at o <;> cases o
    rename_i hz
    cases hv
    exact ⟨_, mt_upper, _, top_str hx, rfl, hz, fin_str s k⟩
  · cases o
def mJoin : D → List D → Option D
  | .str a, [d] => (seqOf d).bind fun ds => (strsOf ds).bind fun ys => if (ys.map (·.length)).sum + ys.length * a.length ≤ 16777216 then some (.str (Txt.join a ys)) else none
  | _, _ => none
theorem so_join : MtR X "str.join" (rNM X.K .pu mJoin) := mtr_of fun x xs H Q q => by
  obtain ⟨G, d, ds, r, s, hx, hv, o, k⟩ := q
  obtain ⟨a, e, rfl, rfl, o⟩ : ∃ a e, d = .str a ∧ ds = [e] ∧ ((seqOf e).bind fun ds => (strsOf ds).bind fun ys => if (ys.map (·.length)).sum + ys.length * a.length ≤ 16777216 then some (PyData.str (Txt.join a ys)) else none) = some r := by
    unfold mJoin at o
    split at o
    · exact ⟨_, _, rfl, rfl, o⟩
    · cases o
  obtain ⟨w, rfl, hy⟩ := tops1 hv
  obtain ⟨es, e1, o⟩ := bnd o
  obtain ⟨ys, e2, o⟩ := bnd o
  by_cases hz : (ys.map (·.length)).sum + ys.length * a.length ≤ 16777216
  · rw [if_pos hz] at o
    cases o
    obtain ⟨b, us, rfl, h2, h3⟩ := top_seq hy s (seqOf_eq e1)
    rw [strsOf_eq e2] at h3
    rw [dps_strs h3] at h2
    exact ⟨_, mt_join, a, b, ys, top_str hx, rfl, h2, hz, fin_str s k⟩
  · rw [if_neg hz] at o; cases o
end
end PL

/-! PL: the pure layer, 18: sorted of any data, list.count, lists and tuples of ranges. -/
namespace PL
open PySem PySem.Spec PyProof.Rows L2
/-! ### sorted -/
def leD (a b : D) : Bool := PySem.W.dataLe false (fun d : D => d) a b
def insD (a : D) : List D → List D
  | [] => [a]
  | b :: l => if leD a b = true then a :: b :: l else b :: insD a l
def srtD : List D → List D
  | [] => []
  | a :: l => insD a (srtD l)
theorem leD_tot : PySem.W.TotalLe leD := PySem.W.sortLe_total (PyProof.Rows.listOrd PyProof.Rows.itemOrd) false fun b : D => PySem.W.keyToks b
theorem insD_mid (a : D) : ∀ (l1 l2 : List D), (∀ b ∈ l1, leD a b = false) → (∀ b ∈ l2, leD a b = true) → insD a (l1 ++ l2) = l1 ++ a :: l2
  | [], [], _, _ => rfl
  | [], b :: l, _, h => by
    show (if leD a b = true then _ else _) = _
    rw [if_pos (h b List.mem_cons_self)]; rfl
  | b :: l1, l2, h1, h2 => by
    show (if leD a b = true then _ else _) = _
    rw [if_neg (by rw [h1 b List.mem_cons_self]; exact Bool.false_ne_true)]
    show b :: insD a (l1 ++ l2) = _
    rw [insD_mid a l1 l2 (fun c hc => h1 c (List.mem_cons_of_mem _ hc)) h2]
    rfl
theorem srtD_eq : ∀ l : List D, srtD l = l.mergeSort leD
  | [] => by simp [srtD]
  | a :: l => by
    obtain ⟨l1, l2, e1, e2, h⟩ := List.mergeSort_cons (le := leD) (fun a b c => leD_tot.trans a b c) (fun a b => by
      have := leD_tot.total a b
      rcases this with q | q <;> simp [q]) a l
    have ih := srtD_eq l
    show insD a (srtD l) = _
    rw [ih, e2, e1]
    refine insD_mid a l1 l2 (fun b hb => by simpa using h b hb) fun b hb => ?_
    have p := PySem.W.sort_pairwise leD_tot (a :: l)
    rw [e1] at p
    have p2 := (List.pairwise_append.mp p).2.1
    exact (List.pairwise_cons.mp p2).1 b hb
def sortableB (ds : List D) : Bool := (ds.all fun d => match d with
  | .tuple (_ :: _) => true
  | _ => false) || (ds.all fun d => match d with
  | .none => false
  | .tuple _ => false
  | _ => true)
theorem sortableB_ok {ds : List D} (h : sortableB ds = true) : PySem.W.Sortable ds := by
  unfold sortableB at h
  rcases Bool.or_eq_true_iff.mp h with h | h
  · refine .inl fun d hd => ?_
    have := List.all_eq_true.mp h d hd
    cases d with
    | tuple xs =>
      cases xs with
      | nil => cases this
      | cons x r => exact ⟨x, r, rfl⟩
    | _ => cases this
  · refine .inr fun d hd => ?_
    have := List.all_eq_true.mp h d hd
    cases d with
    | none => cases this
    | tuple xs => cases this
    | _ => exact ⟨(fun z => by cases z), fun xs z => by cases z⟩
def alikeB (ds : List D) : Bool := ds.all fun d => ds.all fun e => PySem.W.alike d e
theorem alikeB_ok {ds : List D} (h : alikeB ds = true) : PySem.W.AllAlike ds := fun d hd e he => List.all_eq_true.mp (List.all_eq_true.mp h d hd) e he
section
variable {X : Cx} {K : PySem.W.Frag} {G G' H H' : Hp} {v : V} {d : D}
def RvD (K : PySem.W.Frag) (H : Hp) (u : Value) (d : D) : Prop := ∃ x, RelV x u ∧ Dp K H x d
theorem each_of : ∀ {xs : List V} {us : List Value} {ds : List D}, Vals xs us → DpAll K H xs ds → PySem.W.EachIs (RvD K H) us ds
  | [], _, _, r, h => by cases r; cases h; exact .nil
  | x :: xs, _, _, r, h => by
    cases r with
    | cons r1 r2 =>
      cases h with
      | cons h1 h2 => exact .cons ⟨x, r1, h1⟩ (each_of r2 h2)
theorem each_back : ∀ {us : List Value} {ds : List D}, PySem.W.EachIs (RvD K H) us ds → ∃ xs, Vals xs us ∧ DpAll K H xs ds
  | _, _, .nil => ⟨[], .nil, .nil⟩
  | _, _, .cons ⟨x, r, h⟩ t => by
    obtain ⟨xs, r2, h2⟩ := each_back t
    exact ⟨x :: xs, .cons r r2, .cons h h2⟩
def rSortG (K : PySem.W.Frag) : List V → Hp → VK → Prop := fun vs H Q => ∃ (G : Hp) (a : Addr) (xs : List V) (ds : List D), Same G H ∧ vs = [V.ref a] ∧ SqL K H a xs ∧ DpAll K G xs ds ∧ PySem.W.AllAlike ds ∧ PySem.W.Sortable ds ∧ (∀ d ∈ ds, d.depth ≤ 60) ∧
  ∀ (ys : List V) (p : Addr), DpAll K G ys (srtD ds) → H p = none → Q (.ref p) (upd H p (.lst ys))
theorem cr_sortG (hu : X.A.units + 65 < cLine) : CallR X (.builtin "sorted") (rSortG X.K) := by
  intro pins s σ H vs us Q I r h
  obtain ⟨G, a, xs, ds, sg, rfl, hs, hd, ha, hk, hz, q⟩ := h
  obtain ⟨its, rv, hl, hlen⟩ := I.list hs
  rw [Vals.ref1 r]
  have e := each_of rv hd
  have er : PySem.W.EachIs (fun v b => ∃ as, Reads s.heap v ((fun d : D => d) b) as) its ds := e.mono fun u d ⟨x, r1, h1⟩ => Dp.reads I d x u (dpM sg d x h1) r1
  have hm : ds.map (fun d : D => d) = ds := List.map_id' ds
  have hl2 : ds.length ≤ sizeLine := by rw [← dps_len hd]; exact hlen
  refine PySem.W.sorted_data (R := RvD X.K G) (enc := fun d : D => d) hl.isList e er (by rw [hm]; exact ha) (by rw [hm]; exact hk) hl2 (fun b hb => by have := hz b hb; show X.A.units + 2 + PyData.depth b < cLine; omega) fun out ho hR => ?_
  have hR' : PySem.W.EachIs (RvD X.K G) out (ds.mergeSort leD) := hR
  rw [← srtD_eq] at hR'
  obtain ⟨ys, ry, hy⟩ := each_back hR'
  obtain ⟨ep, he'⟩ := PyProof.Rows.sortedAll_at s.heap its out.toArray
  have hlen' : ys.length ≤ sizeLine := by
    rw [ry.length, ho]
    exact hl2
  exact ⟨.ref _, upd H (s.heap.objs.size + 1) (.lst ys), I.laid (t' := s.toks) (fun _ _ => PyProof.Rows.sortedAll_old) (Nat.le_succ _) ⟨hlen', out, ep, ry, he'⟩, rfl, q _ _ hy (I.hok.fresh (Nat.le_succ _))⟩
def fSortG : List D → Option D := on1 fun d => match d with
  | .list ds => match intsOf ds with
    | some ns => some (.list ((srtUp ns).map .int))
    | none => if (alikeB ds && sortableB ds && ds.all fun d => decide (d.depth ≤ 60)) = true then some (.list (srtD ds)) else none
  | _ => none
theorem so_sortG (hu : X.A.units + 65 < cLine) : CallR X (.builtin "sorted") (rNA X.K mk fSortG) := callr_of fun vs H Q q => by
  obtain ⟨G, ds, r, s, hv, o, k⟩ := q
  obtain ⟨d, rfl, o⟩ := on1_eq o
  obtain ⟨v, rfl, hx⟩ := tops1 hv
  cases d with
  | list ds =>
    obtain ⟨a, xs, rfl, h2, h3⟩ := top_list hx s
    have o : (match intsOf ds with
      | some ns => some (PyData.list ((srtUp ns).map .int))
      | none => if (alikeB ds && sortableB ds && ds.all fun d => decide (d.depth ≤ 60)) = true then some (.list (srtD ds)) else none) = some r := o
    cases hi : intsOf ds with
    | some ns =>
      rw [hi] at o
      cases o
      rw [intsOf_eq hi] at h3
      rw [dps_ints h3] at h2
      refine ⟨_, cr_sortedI, a, ns, rfl, h2, fun ns' p h4 h5 hp => ?_⟩
      rw [srtUp_eq h4 h5]
      exact fin_list s ints_dps k p hp
    | none =>
      rw [hi] at o
      simp only at o
      by_cases hb : (alikeB ds && sortableB ds && ds.all fun d => decide (d.depth ≤ 60)) = true
      · rw [if_pos hb] at o
        cases o
        rw [Bool.and_eq_true, Bool.and_eq_true] at hb
        refine ⟨_, cr_sortG hu, G, a, xs, ds, s, rfl, h2, h3, alikeB_ok hb.1.1, sortableB_ok hb.1.2, fun d hd => of_decide_eq_true (List.all_eq_true.mp hb.2 d hd), fun ys p h5 hp => ?_⟩
        exact fin_list s h5 k p hp
      · rw [if_neg hb] at o; cases o
  | _ => cases o

/-! ### list.count, ints -/
def mLCount : D → List D → Option D
  | .list ds, [.int k] => (intsOf ds).bind fun ns => some (.int (ns.count k : Nat))
  | _, _ => none
theorem so_lcount : MtR X "list.count" (rNM X.K .pu mLCount) := mtr_of fun x xs H Q q => by
  obtain ⟨G, d, ds, r, s, hx, hv, o, k⟩ := q
  unfold mLCount at o
  split at o
  · obtain ⟨ns, e, o⟩ := bnd o
    cases o
    obtain ⟨w, rfl, hy⟩ := tops1 hv
    obtain ⟨a, us, e1, h1, h2⟩ := top_list hx s
    rw [intsOf_eq e] at h2
    rw [dps_ints h2] at h1
    exact ⟨_, mt_lcount, a, ns, _, e1, by rw [top_int hy], h1, fin_int s k⟩
  · cases o
/-! ### list(range(n)) -/
def cLstRg1 (a : FE) : FE := fun ρ => (a ρ).bind fun p => match p.1 with
  | .pu (.int j) => if rgOkB 0 j = true then some (.nw (.list (intsD 0 j.toNat)), p.2) else none
  | _ => none
theorem pd_lstRg1 {e : Expr} {f : FE} {p p2 pos pos2 : Pos} (hc : X.calm = true) (hg : Gl X "list") (hm : X.mg "list" = none) (hg2 : Gl X "range") (hm2 : X.mg "range" = none) (ha : PD X e f)
    (na : starEach [e] X.env = (false, eval e X.env) :: starEach [] X.env := by rfl)
    (nb : starEach [.Call (.Name "range" p2) [e] [] pos2] X.env = (false, eval (.Call (.Name "range" p2) [e] [] pos2) X.env) :: starEach [] X.env := by rfl) : PD X (.Call (.Name "list" p) [.Call (.Name "range" p2) [e] [] pos2] [] pos) (cLstRg1 f) := by
  refine ⟨pe_w (pe_listRg hc hg hm (prg_1 hg2 hm2 ha.pe na) nb) fun σ H Q q => ?_, fun ρ r ρ' q => ?_⟩
  · obtain ⟨ioA, G0, H0, G, ρ, r, ρ', S, e, k⟩ := q
    obtain ⟨⟨r1, ρ1⟩, e1, e⟩ := bnd e
    simp only at e
    split at e
    · rename_i j
      by_cases hz : rgOkB 0 j = true
      · rw [if_pos hz] at e
        cases e
        refine ⟨ioA, G0, H0, G, ρ, _, _, S, e1, fun G1 v1 H1 g1 S1 R1 => ?_⟩
        cases R1
        refine ⟨j, rfl, rgOkB_ok hz, fun q hq => ?_⟩
        have hd := rg_dps (K := X.K) (G := G1) 0 j
        have ej : (j - 0).toNat = j.toNat := by rw [Int.sub_zero]
        rw [ej] at hd
        have g2 := grow_nw (o := .lst (rgV 0 j)) S1.sub hq
        obtain ⟨S2, R2⟩ := S1.repN (w := .nw (.list (intsD 0 j.toNat))) g2 (repN_lst S1.sub hq hd)
        exact k _ _ _ (g1.trans g2.g) S2 R2
      · rw [if_neg hz] at e; cases e
    · cases e
  · obtain ⟨⟨r1, ρ1⟩, e1, e⟩ := bnd q
    simp only at e
    split at e
    · split at e <;> cases e
      exact ha.kin _ _ _ e1
    · cases e
/-! ### tuple(range(i, j, c)) -/
def rgC (i c : Int) (n : Nat) : List V := (List.range n).map fun k => V.int (i + (k : Nat) * c)
def intsC (i c : Int) (n : Nat) : List D := (List.range n).map fun k => .int (i + (k : Nat) * c)
theorem rgC_len (i c : Int) (n : Nat) : (rgC i c n).length = n := by simp [rgC]
theorem rgC_dps (i c : Int) (n : Nat) : DpAll K G (rgC i c n) (intsC i c n) := by
  unfold rgC intsC
  induction List.range n with
  | nil => exact .nil
  | cons i l ih => exact .cons (.int _) ih
theorem vals_rgC {a c : Int} {n : Nat} {acc : Array Value} (h : ItemsOf (fun i v => ∃ t, v = .int (a + i * c) t) acc n) : Vals (rgC a c n) acc.toList := by
  have e : acc.toList.length = n := by rw [Array.length_toList]; exact h.1
  unfold rgC
  rw [← e]
  refine vals_of_get acc.toList _ fun j u hj => ?_
  obtain ⟨t, rfl⟩ := h.2 j u (by rw [← hj, Array.getElem?_toList])
  exact ⟨t, rfl⟩
def tTupRg3 (ta : TA) : TE := fun σ H Q => ta σ H fun vs H1 => ∃ (i j c : Int) (n : Nat), vs = [.int i, .int j, .int c] ∧ RgC i j c n ∧ n ≤ 2 ^ 24 ∧ ∀ q, H1 q = none → Q (.ref q) (upd H1 q (.tup (rgC i c n)))
theorem pe_tupRg3 {a b c : Expr} {ta : TA} {p p2 pos pos2 : Pos} (hc : X.calm = true) (hg : Gl X "tuple") (hm : X.mg "tuple" = none) (hg2 : Gl X "range") (hm2 : X.mg "range" = none) (ha : PA X [a, b, c] ta)
    (hs : starEach [a, b, c] X.env = (false, eval a X.env) :: starEach [b, c] X.env := by rfl) (hpl : (backTo pos2 (starEach [b, c] X.env)).any (·.1) = false := by rfl)
    (nb : starEach [.Call (.Name "range" p2) [a, b, c] [] pos2] X.env = (false, eval (.Call (.Name "range" p2) [a, b, c] [] pos2) X.env) :: starEach [] X.env := by rfl) :
    PE X (.Call (.Name "tuple" p) [.Call (.Name "range" p2) [a, b, c] [] pos2] [] pos) (tTupRg3 ta) := by
  refine ⟨fun pins s σ H Q I h => ?_⟩
  have R : wpAny (model X.prog X.w) X.A (eval (.Call (.Name "range" p2) [a, b, c] [] pos2) X.env) (fun x s' => ∃ r i j c n t u v H', x = .ref r ∧ IsRange s'.heap r i j c t u v ∧ Inv X pins σ H' s' ∧ RgC i j c n ∧ n ≤ 2 ^ 24 ∧ ∀ q, H' q = none → Q (.ref q) (upd H' q (.tup (rgC i c n)))) X.xe s := by
    refine Call_ (ld_blt I hg2 hm2 boot_range (PyProof.Rows.callWith_type1 (thn (ha.run pos2 pins s σ H _ I h) fun us s1 ⟨vs, H1, I1, r1, q1⟩ => ?_) hs hpl))
    obtain ⟨i, j, k, n, e, hrg, hn, q⟩ := q1
    subst e
    cases r1 with
    | cons r rr =>
      cases rr with
      | cons r' rr =>
        cases rr with
        | cons r'' rr =>
          cases rr
          obtain ⟨t, rfl⟩ := r
          obtain ⟨t', rfl⟩ := r'
          obtain ⟨t'', rfl⟩ := r''
          exact call_range_3 hrg.1 ⟨_, i, j, k, n, _, _, _, H1, rfl, IsRange.new _ _ _ _ _ _ _, I1.kept fun b u e => Heap.get?_push_of_some _ e, hrg, hn, q⟩ (.inl (PyProof.noPylong_small hrg.2.1))
  refine Call_ (ld_blt I hg hm boot_tuple (PyProof.Rows.callWith_type1 (args_cons (thn R fun x s1 ⟨r, i, j, c, n, t, u, v, H1, ex, hr, I1, hrg, hn, q⟩ => PyProof.Rows.args_nil ?_) nb) nb))
  subst ex
  refine call_tuple_range (n := n) (I1.ok.hd hc) hr hrg.2.2.1 hrg.2.2.2 hn fun h' tk acc hk hi => ?_
  have I2 : Inv X pins σ H1 { s1 with heap := h', toks := tk } := I1.kept hk
  refine ⟨.ref h'.objs.size, upd H1 h'.objs.size (.tup (rgC i c n)), I2.laid (t' := tk) (fun c o e => Heap.get?_push_of_some _ e) (Nat.le_refl _) (show ObjOk X.prog X.w _ _ _ (.tup (rgC i c n)) from ⟨?_, acc.toList, vals_rgC hi, ?_⟩), rfl, q _ (I2.hok.fresh (Nat.le_refl _))⟩
  · rw [rgC_len, sizeLine_eq]; omega
  · rw [Array.toArray_toList]; exact IsTup.new _ _
def rgCB (i j c : Int) : Bool := decide (c ≠ 0) && decide (c.natAbs < 1073741824) && Builtin.Range.small i j c && decide (0 ≤ Builtin.Range.rangeSize i j c) && decide ((Builtin.Range.rangeSize i j c).toNat ≤ 16777216)
def cTupRg3 (as : FA) : FE := fun ρ => (as ρ).bind fun p => (conts p.2 p.1).bind fun ds => match ds with
  | [.int i, .int j, .int c] => if rgCB i j c = true then some (.pu (.tuple (intsC i c (Builtin.Range.rangeSize i j c).toNat)), p.2) else none
  | _ => none
theorem pd_tupRg3 {a b c : Expr} {f : FA} {p p2 pos pos2 : Pos} (hc : X.calm = true) (hg : Gl X "tuple") (hm : X.mg "tuple" = none) (hg2 : Gl X "range") (hm2 : X.mg "range" = none) (ha : PDA X [a, b, c] f)
    (hs : starEach [a, b, c] X.env = (false, eval a X.env) :: starEach [b, c] X.env := by rfl) (hpl : (backTo pos2 (starEach [b, c] X.env)).any (·.1) = false := by rfl)
    (nb : starEach [.Call (.Name "range" p2) [a, b, c] [] pos2] X.env = (false, eval (.Call (.Name "range" p2) [a, b, c] [] pos2) X.env) :: starEach [] X.env := by rfl) :
    PD X (.Call (.Name "tuple" p) [.Call (.Name "range" p2) [a, b, c] [] pos2] [] pos) (cTupRg3 f) := by
  refine ⟨pe_w (pe_tupRg3 hc hg hm hg2 hm2 ha.pa hs hpl nb) fun σ H Q q => ?_, fun ρ r ρ' q => ?_⟩
  · obtain ⟨ioA, G0, H0, G, ρ, r, ρ', S, e, k⟩ := q
    obtain ⟨⟨r1, ρ1⟩, e1, e⟩ := bnd e
    obtain ⟨ds, ed, e⟩ := bnd e
    simp only at e
    split at e
    · rename_i i j c
      by_cases hz : rgCB i j c = true
      · rw [if_pos hz] at e
        cases e
        refine ⟨ioA, G0, H0, G, ρ, _, _, S, e1, fun G1 vs H1 g1 S1 R1 => ?_⟩
        have ht := S1.tops R1 ed
        have hv : vs = [.int i, .int j, .int c] := by
          cases ht with
          | cons h1 t =>
            cases t with
            | cons h2 t =>
              cases t with
              | cons h3 t =>
                cases t
                rw [top_int h1, top_int h2, top_int h3]
        unfold rgCB at hz
        simp only [Bool.and_eq_true, decide_eq_true_eq] at hz
        obtain ⟨⟨⟨⟨z1, z2⟩, z3⟩, z4⟩, z5⟩ := hz
        refine ⟨i, j, c, (Builtin.Range.rangeSize i j c).toNat, hv, ⟨z1, z2, z3, by omega⟩, by omega, fun q hq => ?_⟩
        have hd := rgC_dps (K := X.K) (G := G1) i c (Builtin.Range.rangeSize i j c).toNat
        obtain ⟨S2, R2⟩ := S1.repN (w := .pu (.tuple (intsC i c (Builtin.Range.rangeSize i j c).toNat))) (grow_new (o := .tup (rgC i c (Builtin.Range.rangeSize i j c).toNat)) S1.sub hq) (dp_tup S1.sub hq hd)
        exact k _ _ _ (g1.trans (grow_new (o := .tup (rgC i c (Builtin.Range.rangeSize i j c).toNat)) S1.sub hq).g) S2 R2
      · rw [if_neg hz] at e; cases e
    · cases e
  · obtain ⟨⟨r1, ρ1⟩, e1, e⟩ := bnd q
    obtain ⟨ds, ed, e⟩ := bnd e
    simp only at e
    split at e
    · split at e <;> cases e
      exact ha.kin _ _ _ e1
    · cases e
end
end PL

/-! PL: the pure layer, 14: what stands behind a def's name; a test run of a def. -/
namespace PL
open PySem PySem.Spec PyProof.Rows L2
structure Cal (P : Program) (w : World) (K : PySem.W.Frag) (mg : Str → Option Value) (base : Heap) (x : Str) (n : Nat) (m : Mir) (k : Nat) : Prop where
  ex : ∃ (f : Addr) (fd : FuncData) (ps : List Str), FnOk P w K mg base CX0 k f fd ps (spM K n m) ∧ mg x = some (.ref f) ∧ PySem.W.keepIn K (.ref f) = true ∧ Binds K fd ps []
section
variable {X : Cx} {x : Str} {n k k' : Nat} {m : Mir} {p pos : Pos} {e : Expr} {es : List Expr} {fa : FA}
theorem pd_cal (c : Cal X.prog X.w X.K X.mg X.base x n m k) (hr : Room k' X.A) (h : k ≤ k') (hg : Gl X x) (hl : LenA n fa) (ha : PDA X (e :: es) fa) (hdb : (x == ("__debug__" : Str)) = false := by decide)
    (he : starEach (e :: es) X.env = (false, eval e X.env) :: starEach es X.env := by rfl) (hpl : (backTo pos (starEach es X.env)).any (·.1) = false := by rfl) : PD X (.Call (.Name x p) (e :: es) [] pos) (cCall m fa) := by
  obtain ⟨f, fd, ps, F, hm, hk, hb⟩ := c.ex
  exact pd_call F (hr.mono h) hg hm hk hb hl ha hdb he hpl
theorem pd_cal0 (c : Cal X.prog X.w X.K X.mg X.base x 0 m k) (hr : Room k' X.A) (h : k ≤ k') (hg : Gl X x) (hdb : (x == ("__debug__" : Str)) = false := by decide) : PD X (.Call (.Name x p) [] [] pos) (cCall m aNil) := by
  obtain ⟨f, fd, ps, F, hm, hk, hb⟩ := c.ex
  exact pd_call0 F (hr.mono h) hg hm hk hb hdb
end
theorem fn_none {P : Program} {w : World} {K : PySem.W.Frag} {mg : Str → Option Value} {base : Heap} {k n : Nat} {f : Addr} {fd : FuncData} {ps : List Str} (h : ps.length = n) : FnOk P w K mg base CX0 k f fd ps (spM K n fun _ => none) :=
  ⟨fun vs H Q E q => q.1.trans h.symm, fun A outer s H args us vs Q E hr he hb hv q => by
    obtain ⟨_, G, ars, r, outs, _, _, _, e, _⟩ := q
    cases e⟩
end PL
namespace PL
open PySem PySem.Spec PyProof.Rows L2
section
variable {X : Cx} {elt tg iter : Expr} {ifs : List Expr} {scope : Scope} {own : List (Str × Nat)} {pos : Pos} {it : FI} {g : FG} {t : FT} {f : FE} {ts : List Nat}
theorem pd_lcE (hc : X.calm = true) (hN : X.N.Nodup) (hi : PDI X tg iter it) (ok : BlkOk X.N X.env.scope scope own)
    (hg : ∀ (s : Shared) (H : Hp) (C : Addr) (cl : List (Str × Addr)) (fp : List Addr), PDG (X.blk s H scope (compEnvC scope cl C X.env) fp) tg g ts) (hts : ∀ j ∈ ts, j ∈ own.map (·.2))
    (ht : ∀ (s : Shared) (H : Hp) (C : Addr) (cl : List (Str × Addr)) (fp : List Addr), PDTs (X.blk s H scope (compEnvC scope cl C X.env) fp) ifs t)
    (he : ∀ (s : Shared) (H : Hp) (C : Addr) (cl : List (Str × Addr)) (fp : List Addr), PD (X.blk s H scope (compEnvC scope cl C X.env) fp) elt f) (hs : ∀ x, foldedSetIterable iter X.env x = pure x := by intro _; rfl) :
    PD X (.ListComp elt [⟨tg, iter, ifs, 0⟩] scope pos) (cLc (own.map (·.2)) it g t f) := (pd_lc hc hN hi ok hg hts ht he hs).1
end
end PL

/-! PL: the pure layer, 15: the law's def called with the script. -/
namespace PL
open PySem PySem.Spec PyProof.Rows L2
theorem end_ok {K : PySem.W.Frag} {H : Hp} {a : Addr} {ns : List Int} {m : Mir} (hm : m [.v (.list (ns.map .int))] = some (.pu (.bool true), [])) (hS : SqL K H a (ns.map V.int)) :
    spM K 1 m [.ref a] H (fun v _ => v = .bl true) fun _ _ _ => False := by
  let G : Hp := fun b => if b = a then H a else none
  have gH : Same G H := fun b o e => by
    have e' : (if b = a then H a else none) = some o := e
    by_cases hb : b = a
    · rw [if_pos hb] at e'; rw [hb]; exact e'
    · rw [if_neg hb] at e'; cases e'
  have ga : G a = H a := if_pos rfl
  have hG : SqL K G a (ns.map V.int) := by
    rcases hS with (h | ⟨o, h⟩) | h
    · exact .inl (.inl (ga.trans h))
    · exact .inl (.inr ⟨o, ga.trans h⟩)
    · exact .inr h
  refine ⟨rfl, G, [.v (.list (ns.map .int))], _, _, gH, .cons (Dp.lst hG ints_dps) .nil, List.nodup_nil, hm, fun G' v H' _ _ _ _ _ _ R => ?_⟩
  exact dp_bool R
end PL

/-! PL: the pure layer, 16: its functions worked out. -/
namespace PL
open PySem PySem.Spec PyProof.Rows L2
section
variable {ρ : Rho} {i j : Nat} {d e : D} {v : Vl} {a b c : FE} {as : FA} {t u : FT} {f h : FS} {g : FG}
@[simp] theorem ev_c : cC d ρ = some (.pu d, ρ) := rfl
@[simp] theorem ev_stl_pu : stl (.pu d) = .pu d := rfl
@[simp] theorem ev_stl_nw : stl (.nw d) = .pu d := rfl
@[simp] theorem ev_stl_sl : stl (.sl i) = .sl i := rfl
@[simp] theorem ev_cont_pu : cont ρ (.pu d) = some d := rfl
@[simp] theorem ev_cont_nw : cont ρ (.nw d) = some d := rfl
@[simp] theorem ev_mk_int {k : Int} : mk (.int k) = .pu (.int k) := rfl
@[simp] theorem ev_mk_bool {k : Bool} : mk (.bool k) = .pu (.bool k) := rfl
@[simp] theorem ev_mk_str {k : Str} : mk (.str k) = .pu (.str k) := rfl
@[simp] theorem ev_mk_tup {k : List D} : mk (.tuple k) = .pu (.tuple k) := rfl
@[simp] theorem ev_mk_lst {k : List D} : mk (.list k) = .nw (.list k) := rfl
@[simp] theorem ev_yes : tYes ρ = some (true, ρ) := rfl
@[simp] theorem ev_pass : sPass ρ = some (.nx ρ) := rfl
@[simp] theorem ev_never : sNever ρ = none := rfl
@[simp] theorem ev_anil : aNil ρ = some ([], ρ) := rfl
@[simp] theorem ev_ono : oNo ρ = some (none, ρ) := rfl
theorem ev_var_pu (h : ρ[i]? = some (.pu d)) : cVar i ρ = some (.pu d, ρ) := by unfold cVar; rw [h]
theorem ev_var_own (h : ρ[i]? = some (.own d)) : cVar i ρ = some (.sl i, ρ) := by unfold cVar; rw [h]
theorem ev_var_io (h : ρ[i]? = some (.io d)) : cVar i ρ = some (.sl i, ρ) := by unfold cVar; rw [h]
/-! loops of pure comprehensions -/
theorem wipe_rst {vs : List Nat} {ρ ρ' : Rho} (h : wipeR vs ρ' = wipeR vs ρ) : rst vs ρ ρ' = ρ := by
  have hl : ρ'.length = ρ.length := by
    have q := congrArg List.length h
    rw [wipeR_len, wipeR_len] at q
    exact q
  refine List.ext_getElem? fun j => ?_
  rw [rst_get vs hl.symm]
  by_cases hj : j ∈ vs
  · rw [if_pos hj]
  · rw [if_neg hj]
    have q : (wipeR vs ρ')[j]? = (wipeR vs ρ)[j]? := by rw [h]
    rw [wipeR_get, wipeR_get, if_neg hj, if_neg hj] at q
    exact q
theorem compGo_eq {vs : List Nat} {g : FG} {t : FT} {f : FE} {ρ0 : Rho} {R : D → Rho} {Pd : D → Bool} {F : D → D} : ∀ {ds : List D} {ρ : Rho}, wipeR vs ρ = ρ0 →
    (∀ x ∈ ds, g x ρ0 = some (R x) ∧ wipeR vs (R x) = ρ0 ∧ t (R x) = some (Pd x, R x) ∧ (Pd x = true → ∃ r, f (R x) = some (r, R x) ∧ stl r = .pu (F x))) →
    ∃ ρ', compGo vs g t f ds ρ = some ((ds.filter Pd).map F, ρ') ∧ wipeR vs ρ' = ρ0
  | [], ρ, h, _ => ⟨ρ, rfl, h⟩
  | x :: ds, ρ, h, k => by
    obtain ⟨k1, k2, k3, k4⟩ := k x List.mem_cons_self
    obtain ⟨ρ', e, e2⟩ := compGo_eq (ds := ds) k2 fun y hy => k y (List.mem_cons_of_mem _ hy)
    refine ⟨ρ', ?_, e2⟩
    unfold compGo
    rw [h, k1]
    simp only [Option.bind_some, k3]
    cases hp : Pd x with
    | true =>
      obtain ⟨r, q1, q2⟩ := k4 hp
      simp only [if_true, q1, Option.bind_some, q2, e]
      rw [List.filter_cons_of_pos hp]
      rfl
    | false =>
      simp only [Bool.false_eq_true, if_false, e]
      rw [List.filter_cons_of_neg (by rw [hp]; exact Bool.false_ne_true)]
theorem cLc_eq {vs : List Nat} {it : FI} {g : FG} {t : FT} {f : FE} {ρ : Rho} {ds : List D} (R : D → Rho) (Pd : D → Bool) (F : D → D) (hi : it ρ = some (ds, ρ)) (ok : okW vs ρ = true)
    (k : ∀ x ∈ ds, g x (wipeR vs ρ) = some (R x) ∧ wipeR vs (R x) = wipeR vs ρ ∧ t (R x) = some (Pd x, R x) ∧ (Pd x = true → ∃ r, f (R x) = some (r, R x) ∧ stl r = .pu (F x)))
    (hz : ds.length ≤ lineN) : cLc vs it g t f ρ = some (.nw (.list ((ds.filter Pd).map F)), ρ) := by
  obtain ⟨ρ', e, e2⟩ := compGo_eq (ρ := ρ) rfl k
  unfold cLc
  simp only [hi, Option.bind_some, ok, if_true, e]
  rw [if_pos (by rw [List.length_map]; exact Nat.le_trans (List.length_filter_le _ _) hz), wipe_rst e2]
end
end PL

/-! PL: the pure layer, 17: loops by invariants. -/
namespace PL
open PySem PySem.Spec PyProof.Rows L2
/-- a loop that only goes on: P what holds of what is left and the state -/
theorem forGo_inv {α : Type} {g : FG} {b : FS} (P : List D → α → Rho → Prop) (F : α → D → α)
    (step : ∀ (x : D) (ds : List D) (a : α) (ρ : Rho), P (x :: ds) a ρ → ∃ ρ1 ρ2, g x ρ = some ρ1 ∧ (b ρ1 = some (.nx ρ2) ∨ b ρ1 = some (.ct ρ2)) ∧ P ds (F a x) ρ2) :
    ∀ (ds : List D) (a : α) (ρ : Rho), P ds a ρ → ∃ ρ', forGo g b ds ρ = some (.nx ρ') ∧ P [] (ds.foldl F a) ρ'
  | [], a, ρ, h => ⟨ρ, rfl, h⟩
  | x :: ds, a, ρ, h => by
    obtain ⟨ρ1, ρ2, e1, e2, h2⟩ := step x ds a ρ h
    obtain ⟨ρ', e3, h3⟩ := forGo_inv P F step ds (F a x) ρ2 h2
    refine ⟨ρ', ?_, h3⟩
    unfold forGo
    rw [e1, Option.bind_some]
    rcases e2 with e2 | e2 <;> rw [e2] <;> exact e3
/-- the same without a result of its own -/
theorem forGo_P {g : FG} {b : FS} (P : List D → Rho → Prop)
    (step : ∀ (x : D) (ds : List D) (ρ : Rho), P (x :: ds) ρ → ∃ ρ1 ρ2, g x ρ = some ρ1 ∧ (b ρ1 = some (.nx ρ2) ∨ b ρ1 = some (.ct ρ2)) ∧ P ds ρ2) :
    ∀ (ds : List D) (ρ : Rho), P ds ρ → ∃ ρ', forGo g b ds ρ = some (.nx ρ') ∧ P [] ρ'
  | [], ρ, h => ⟨ρ, rfl, h⟩
  | x :: ds, ρ, h => by
    obtain ⟨ρ1, ρ2, e1, e2, h2⟩ := step x ds ρ h
    obtain ⟨ρ', e3, h3⟩ := forGo_P P step ds ρ2 h2
    refine ⟨ρ', ?_, h3⟩
    unfold forGo
    rw [e1, Option.bind_some]
    rcases e2 with e2 | e2 <;> rw [e2] <;> exact e3
/-- a while loop by a measure -/
theorem whileGo_P {t : FT} {b : FS} (P : Nat → Rho → Prop) (Q : Rho → Prop)
    (step : ∀ (m : Nat) (ρ : Rho), P m ρ → (∃ ρ1, t ρ = some (false, ρ1) ∧ Q ρ1) ∨ ∃ ρ1 ρ2 k, t ρ = some (true, ρ1) ∧ (b ρ1 = some (.nx ρ2) ∨ b ρ1 = some (.ct ρ2)) ∧ k < m ∧ P k ρ2) :
    ∀ (F m : Nat) (ρ : Rho), m < F → P m ρ → ∃ ρ', whileGo t b F ρ = some (.nx ρ') ∧ Q ρ'
  | 0, m, ρ, h, _ => absurd h (Nat.not_lt_zero _)
  | F + 1, m, ρ, h, hP => by
    rcases step m ρ hP with ⟨ρ1, e1, q⟩ | ⟨ρ1, ρ2, k, e1, e2, hk, h2⟩
    · refine ⟨ρ1, ?_, q⟩
      unfold whileGo
      rw [e1]
      rfl
    · obtain ⟨ρ', e3, q⟩ := whileGo_P P Q step F k ρ2 (by omega) h2
      refine ⟨ρ', ?_, q⟩
      unfold whileGo
      rw [e1, Option.bind_some]
      rcases e2 with e2 | e2
      · simp only [if_true, e2, Option.bind_some]; exact e3
      · simp only [if_true, e2, Option.bind_some]; exact e3
theorem iRg1_eq {a : FE} {ρ ρ' : Rho} {j : Int} (h : a ρ = some (.pu (.int j), ρ')) (hs : small j = true) : iRg1 a ρ = some (intsD 0 j.toNat, ρ') := by
  unfold iRg1
  rw [h]
  simp only [Option.bind_some, hs, if_true]
theorem iRg2_eq {a b : FE} {ρ ρ1 ρ' : Rho} {i j : Int} (h : a ρ = some (.pu (.int i), ρ1)) (h2 : b ρ1 = some (.pu (.int j), ρ')) (hs : small i = true) (hs2 : small j = true) : iRg2 a b ρ = some (intsD i (j - i).toNat, ρ') := by
  unfold iRg2
  rw [h]
  simp only [Option.bind_some, h2, hs, hs2, and_self, if_true]
theorem small_nat {n : Nat} (h : n ≤ 1000000000) : small (n : Int) = true := by
  unfold small
  rw [Bool.and_eq_true, decide_eq_true_eq, decide_eq_true_eq]
  omega
theorem small64_nat {n : Nat} (h : n ≤ 1000000000) : small64 (n : Int) = true := by
  unfold small64
  rw [Bool.and_eq_true, decide_eq_true_eq, decide_eq_true_eq]
  omega
theorem sSeq_nx {a b : FS} {ρ ρ' : Rho} (h : a ρ = some (.nx ρ')) : sSeq a b ρ = b ρ' := by
  unfold sSeq
  rw [h]; rfl
theorem sSeq_rt {a b : FS} {ρ ρ' : Rho} {v : Vl} (h : a ρ = some (.rt v ρ')) : sSeq a b ρ = some (.rt v ρ') := by
  unfold sSeq
  rw [h]; rfl
theorem sFor_eq {it : FI} {g : FG} {b : FS} {ρ ρ' : Rho} {ds : List D} (h : it ρ = some (ds, ρ')) : sFor it g b ρ = forGo g b ds ρ' := by
  unfold sFor
  rw [h]; rfl
theorem cOp2_pu {op : D → D → Option D} {a b : FE} {ρ ρ1 ρ2 : Rho} {x y r : D} (h1 : a ρ = some (.pu x, ρ1)) (h2 : b ρ1 = some (.pu y, ρ2)) (h3 : op x y = some r) : cOp2 op a b ρ = some (.pu r, ρ2) := by
  unfold cOp2
  rw [h1, Option.bind_some, h2, Option.bind_some]
  show (op x y).bind _ = _
  rw [h3]; rfl
theorem cOp2n_pu {op : D → D → Option D} {a b : FE} {ρ ρ1 ρ2 : Rho} {x y r : D} (h1 : a ρ = some (.pu x, ρ1)) (h2 : b ρ1 = some (.pu y, ρ2)) (h3 : op x y = some r) : cOp2n op a b ρ = some (mk r, ρ2) := by
  unfold cOp2n
  rw [h1, Option.bind_some, h2, Option.bind_some]
  show (op x y).bind _ = _
  rw [h3]; rfl
theorem cOpA_pu {op : List D → Option D} {a : FE} {ρ ρ1 : Rho} {x r : D} (h1 : a ρ = some (.pu x, ρ1)) (h3 : op [x] = some r) : cOpA op (aCons a aNil) ρ = some (.pu r, ρ1) := by
  have h : aCons a aNil ρ = some ([.pu x], ρ1) := by
    unfold aCons
    rw [h1]; rfl
  unfold cOpA
  rw [h, Option.bind_some]
  show (op [x]).bind _ = _
  rw [h3]; rfl
theorem cOpA_nw {op : List D → Option D} {a : FE} {ρ ρ1 : Rho} {x r : D} (h1 : a ρ = some (.nw x, ρ1)) (h3 : op [x] = some r) : cOpA op (aCons a aNil) ρ = some (.pu r, ρ1) := by
  have h : aCons a aNil ρ = some ([.pu x], ρ1) := by
    unfold aCons
    rw [h1]; rfl
  unfold cOpA
  rw [h, Option.bind_some]
  show (op [x]).bind _ = _
  rw [h3]; rfl
theorem sRet_eq {a : FE} {ρ ρ1 : Rho} {v : Vl} (h1 : a ρ = some (v, ρ1)) : sRet a ρ = some (.rt v ρ1) := by
  unfold sRet
  rw [h1]; rfl
theorem sAsg_pu {i : Nat} {a : FE} {ρ ρ1 ρ2 : Rho} {x : D} (h1 : a ρ = some (.pu x, ρ1)) (h2 : setS i (.pu x) ρ1 = some ρ2) : sAsg i a ρ = some (.nx ρ2) := by
  unfold sAsg
  rw [h1, Option.bind_some]
  show (setS i (.pu x) ρ1).bind _ = _
  rw [h2]; rfl
theorem sAsg_nw {i : Nat} {a : FE} {ρ ρ1 ρ2 : Rho} {x : D} (h1 : a ρ = some (.nw x, ρ1)) (h2 : setS i (.pu x) ρ1 = some ρ2) : sAsg i a ρ = some (.nx ρ2) := by
  unfold sAsg
  rw [h1, Option.bind_some]
  show (setS i (.pu x) ρ1).bind _ = _
  rw [h2]; rfl
theorem tBl_eq {a : FE} {ρ ρ1 : Rho} {k : Bool} (h1 : a ρ = some (.pu (.bool k), ρ1)) : tBl a ρ = some (k, ρ1) := by
  unfold tBl
  rw [h1]; rfl
theorem sIf_t {t : FT} {a b : FS} {ρ ρ1 : Rho} (h : t ρ = some (true, ρ1)) : sIf t a b ρ = a ρ1 := by
  unfold sIf
  rw [h]; rfl
theorem sIf_f {t : FT} {a b : FS} {ρ ρ1 : Rho} (h : t ρ = some (false, ρ1)) : sIf t a b ρ = b ρ1 := by
  unfold sIf
  rw [h]; rfl
theorem cIf_t {t : FT} {a b : FE} {ρ ρ1 : Rho} (h : t ρ = some (true, ρ1)) : cIf t a b ρ = a ρ1 := by
  unfold cIf
  rw [h]; rfl
theorem cIf_f {t : FT} {a b : FE} {ρ ρ1 : Rho} (h : t ρ = some (false, ρ1)) : cIf t a b ρ = b ρ1 := by
  unfold cIf
  rw [h]; rfl
theorem cAnd_t {a b : FE} {ρ ρ1 : Rho} {r : Vl × Rho} (h : a ρ = some (.pu (.bool true), ρ1)) (h2 : b ρ1 = some r) : cAnd a b ρ = some r := by
  unfold cAnd
  rw [h, ← h2]; rfl
theorem cAnd_f {a b : FE} {ρ ρ1 : Rho} (h : a ρ = some (.pu (.bool false), ρ1)) : cAnd a b ρ = some (.pu (.bool false), ρ1) := by
  unfold cAnd
  rw [h]; rfl
theorem cOr_t {a b : FE} {ρ ρ1 : Rho} (h : a ρ = some (.pu (.bool true), ρ1)) : cOr a b ρ = some (.pu (.bool true), ρ1) := by
  unfold cOr
  rw [h]; rfl
theorem cOr_f {a b : FE} {ρ ρ1 : Rho} {r : Vl × Rho} (h : a ρ = some (.pu (.bool false), ρ1)) (h2 : b ρ1 = some r) : cOr a b ρ = some r := by
  unfold cOr
  rw [h, ← h2]; rfl
/-! ### argument lists -/
def Args (as : FA) (ρ : Rho) (ds : List D) (ρ' : Rho) : Prop := as ρ = some (ds.map .pu, ρ')
theorem args_nil {ρ : Rho} : Args aNil ρ [] ρ := rfl
theorem args_pu {a : FE} {as : FA} {ρ ρ1 ρ2 : Rho} {x : D} {xs : List D} (h1 : a ρ = some (.pu x, ρ1)) (h2 : Args as ρ1 xs ρ2) : Args (aCons a as) ρ (x :: xs) ρ2 := by
  have h2' : as ρ1 = some (xs.map .pu, ρ2) := h2
  show aCons a as ρ = _
  unfold aCons
  rw [h1, Option.bind_some, h2']; rfl
theorem args_nw {a : FE} {as : FA} {ρ ρ1 ρ2 : Rho} {x : D} {xs : List D} (h1 : a ρ = some (.nw x, ρ1)) (h2 : Args as ρ1 xs ρ2) : Args (aCons a as) ρ (x :: xs) ρ2 := by
  have h2' : as ρ1 = some (xs.map .pu, ρ2) := h2
  show aCons a as ρ = _
  unfold aCons
  rw [h1, Option.bind_some, h2']; rfl
theorem conts_pus {ρ : Rho} : ∀ xs : List D, conts ρ (xs.map .pu) = some xs
  | [] => rfl
  | x :: xs => by
    show (some x).bind (fun d => (conts ρ (xs.map .pu)).bind fun ds => some (d :: ds)) = _
    rw [conts_pus xs]; rfl
theorem pures_pus : ∀ xs : List D, pures (xs.map .pu) = some xs
  | [] => rfl
  | x :: xs => by
    have ih := pures_pus xs
    simp [pures, ih]
theorem toArs_pus {ρ : Rho} : ∀ xs : List D, toArs ρ (xs.map .pu) = some (xs.map .v)
  | [] => rfl
  | x :: xs => by
    show (some (Ar.v x)).bind (fun a => (toArs ρ (xs.map .pu)).bind fun as => some (a :: as)) = _
    rw [toArs_pus xs]; rfl
theorem slotsOf_pus : ∀ xs : List D, slotsOf (xs.map .pu) = []
  | [] => rfl
  | x :: xs => slotsOf_pus xs
theorem cLst_args {as : FA} {ρ ρ' : Rho} {xs : List D} (h : Args as ρ xs ρ') (hl : xs.length ≤ lineN) : cLst as ρ = some (.nw (.list xs), ρ') := by
  have h' : as ρ = some (xs.map .pu, ρ') := h
  unfold cLst
  rw [h', Option.bind_some]
  show (pures (xs.map .pu)).bind _ = _
  rw [pures_pus, Option.bind_some, if_pos hl]
theorem cTup_args {as : FA} {ρ ρ' : Rho} {xs : List D} (h : Args as ρ xs ρ') (hl : xs.length ≤ lineN) : cTup as ρ = some (.pu (.tuple xs), ρ') := by
  have h' : as ρ = some (xs.map .pu, ρ') := h
  unfold cTup
  rw [h', Option.bind_some]
  show (pures (xs.map .pu)).bind _ = _
  rw [pures_pus, Option.bind_some, if_pos hl]
theorem cOpA_args {op : List D → Option D} {as : FA} {ρ ρ' : Rho} {xs : List D} {r : D} (h : Args as ρ xs ρ') (h3 : op xs = some r) : cOpA op as ρ = some (.pu r, ρ') := by
  have h' : as ρ = some (xs.map .pu, ρ') := h
  unfold cOpA
  rw [h', Option.bind_some]
  show (conts ρ' (xs.map .pu)).bind _ = _
  rw [conts_pus, Option.bind_some, h3]; rfl
theorem cOpAn_args {op : List D → Option D} {as : FA} {ρ ρ' : Rho} {xs : List D} {r : D} (h : Args as ρ xs ρ') (h3 : op xs = some r) : cOpAn op as ρ = some (mk r, ρ') := by
  have h' : as ρ = some (xs.map .pu, ρ') := h
  unfold cOpAn
  rw [h', Option.bind_some]
  show (conts ρ' (xs.map .pu)).bind _ = _
  rw [conts_pus, Option.bind_some, h3]; rfl
theorem cCall_args {m : Mir} {as : FA} {ρ ρ' : Rho} {xs : List D} {r : Vl} (h : Args as ρ xs ρ') (h3 : m (xs.map .v) = some (r, [])) : cCall m as ρ = some (r, ρ') := by
  have h' : as ρ = some (xs.map .pu, ρ') := h
  unfold cCall
  rw [h', Option.bind_some]
  show (toArs ρ' (xs.map .pu)).bind _ = _
  rw [toArs_pus, Option.bind_some]
  show (if (slotsOf (xs.map .pu)).Nodup then _ else none) = _
  rw [slotsOf_pus, if_pos List.nodup_nil, h3]; rfl
/-- the first argument is lent -/
theorem cCall_io {m : Mir} {i : Nat} {as : FA} {ρ ρ' ρ2 : Rho} {d d' : D} {xs : List D} {r : Vl} (h0 : cVar i ρ = some (.sl i, ρ)) (h : Args as ρ xs ρ') (hi : toAr ρ' (.sl i) = some (.m d))
    (h3 : m (.m d :: xs.map .v) = some (r, [d'])) (hp : putS i d' ρ' = some ρ2) : cCall m (aCons (cVar i) as) ρ = some (r, ρ2) := by
  have h' : as ρ = some (xs.map .pu, ρ') := h
  have ha : aCons (cVar i) as ρ = some (.sl i :: xs.map .pu, ρ') := by
    unfold aCons
    rw [h0, Option.bind_some, h']; rfl
  unfold cCall
  rw [ha, Option.bind_some]
  have ht : toArs ρ' (.sl i :: xs.map .pu) = some (.m d :: xs.map .v) := by
    show (toAr ρ' (.sl i)).bind _ = _
    rw [hi, Option.bind_some, toArs_pus]; rfl
  show (toArs ρ' (.sl i :: xs.map .pu)).bind _ = _
  rw [ht, Option.bind_some]
  have hs : slotsOf (.sl i :: xs.map .pu) = [i] := by
    show i :: slotsOf (xs.map .pu) = _
    rw [slotsOf_pus]
  show (if (slotsOf (.sl i :: xs.map .pu)).Nodup then _ else none) = _
  rw [hs, if_pos (by simp), h3, Option.bind_some]
  show ((putS i d' ρ').bind _).bind _ = _
  rw [hp]; rfl
theorem cSl_pu {op : D → Option Int → Option Int → Option D} {a : FE} {lo hi : FO} {ρ ρ1 ρ2 ρ3 : Rho} {x r : D} {l h : Option Int} (h1 : a ρ = some (.pu x, ρ1)) (h2 : lo ρ1 = some (l, ρ2)) (h3 : hi ρ2 = some (h, ρ3)) (h4 : op x l h = some r) : cSl mk op a lo hi ρ = some (mk r, ρ3) := by
  unfold cSl
  rw [h1, Option.bind_some, h2, Option.bind_some, h3, Option.bind_some]
  show (op x l h).bind _ = _
  rw [h4]; rfl
theorem oSo_pu {a : FE} {ρ ρ1 : Rho} {i : Int} (h1 : a ρ = some (.pu (.int i), ρ1)) : oSo a ρ = some (some i, ρ1) := by
  unfold oSo
  rw [h1]; rfl
theorem cM_args {T : String} {op : D → List D → Option D} {o : FE} {as : FA} {ρ ρ1 ρ2 : Rho} {x r : D} {xs : List D} (h1 : o ρ = some (.pu x, ρ1)) (ht : tyD T x = true) (h2 : Args as ρ1 xs ρ2) (h3 : op x xs = some r) : cM T .pu op o as ρ = some (.pu r, ρ2) := by
  have h' : as ρ1 = some (xs.map .pu, ρ2) := h2
  unfold cM
  rw [h1, Option.bind_some]
  show (if tyD T x = true then _ else none) = _
  rw [if_pos ht, h', Option.bind_some]
  show (conts ρ2 (xs.map .pu)).bind _ = _
  rw [conts_pus, Option.bind_some, h3]; rfl
theorem iE_pu {a : FE} {ρ ρ1 : Rho} {x : D} {ds : List D} (h1 : a ρ = some (.pu x, ρ1)) (h2 : itemsOf x = some ds) : iE a ρ = some (ds, ρ1) := by
  unfold iE
  rw [h1, Option.bind_some]
  show (itemsOf x).bind _ = _
  rw [h2]; rfl
theorem iE_nw {a : FE} {ρ ρ1 : Rho} {x : D} {ds : List D} (h1 : a ρ = some (.nw x, ρ1)) (h2 : itemsOf x = some ds) : iE a ρ = some (ds, ρ1) := by
  unfold iE
  rw [h1, Option.bind_some]
  show (itemsOf x).bind _ = _
  rw [h2]; rfl
theorem cOpn_pu {op : D → Option D} {a : FE} {ρ ρ1 : Rho} {x r : D} (h1 : a ρ = some (.pu x, ρ1)) (h3 : op x = some r) : cOpn op a ρ = some (mk r, ρ1) := by
  unfold cOpn
  rw [h1, Option.bind_some]
  show (op x).bind _ = _
  rw [h3]; rfl
theorem sTgt_pu {g : FG} {a : FE} {ρ ρ1 ρ2 : Rho} {x : D} (h1 : a ρ = some (.pu x, ρ1)) (h2 : g x ρ1 = some ρ2) : sTgt g a ρ = some (.nx ρ2) := by
  unfold sTgt
  rw [h1, Option.bind_some]
  show (g x ρ1).bind _ = _
  rw [h2]; rfl
theorem sNew_nw {i : Nat} {a : FE} {ρ ρ1 ρ2 : Rho} {x : D} (h1 : a ρ = some (.nw x, ρ1)) (h2 : setS i (.own x) ρ1 = some ρ2) : sNew i a ρ = some (.nx ρ2) := by
  unfold sNew
  rw [h1, Option.bind_some]
  show (setS i (.own x) ρ1).bind _ = _
  rw [h2]; rfl
/-- the second one is new -/
theorem cOp2n_pl {op : D → D → Option D} {a b : FE} {ρ ρ1 ρ2 : Rho} {x y r : D} (h1 : a ρ = some (.pu x, ρ1)) (h2 : b ρ1 = some (.nw y, ρ2)) (h3 : op x y = some r) : cOp2n op a b ρ = some (mk r, ρ2) := by
  unfold cOp2n
  rw [h1, Option.bind_some, h2, Option.bind_some]
  show (op x y).bind _ = _
  rw [h3]; rfl
theorem cOp2n_lp {op : D → D → Option D} {a b : FE} {ρ ρ1 ρ2 : Rho} {x y r : D} (h1 : a ρ = some (.nw x, ρ1)) (h2 : b ρ1 = some (.pu y, ρ2)) (h3 : op x y = some r) : cOp2n op a b ρ = some (mk r, ρ2) := by
  unfold cOp2n
  rw [h1, Option.bind_some, h2, Option.bind_some]
  show (op x y).bind _ = _
  rw [h3]; rfl
theorem cOp2n_ll {op : D → D → Option D} {a b : FE} {ρ ρ1 ρ2 : Rho} {x y r : D} (h1 : a ρ = some (.nw x, ρ1)) (h2 : b ρ1 = some (.nw y, ρ2)) (h3 : op x y = some r) : cOp2n op a b ρ = some (mk r, ρ2) := by
  unfold cOp2n
  rw [h1, Option.bind_some, h2, Option.bind_some]
  show (op x y).bind _ = _
  rw [h3]; rfl
theorem cOp2_lp {op : D → D → Option D} {a b : FE} {ρ ρ1 ρ2 : Rho} {x y r : D} (h1 : a ρ = some (.nw x, ρ1)) (h2 : b ρ1 = some (.pu y, ρ2)) (h3 : op x y = some r) : cOp2 op a b ρ = some (.pu r, ρ2) := by
  unfold cOp2
  rw [h1, Option.bind_some, h2, Option.bind_some]
  show (op x y).bind _ = _
  rw [h3]; rfl
theorem cOp2_pl {op : D → D → Option D} {a b : FE} {ρ ρ1 ρ2 : Rho} {x y r : D} (h1 : a ρ = some (.pu x, ρ1)) (h2 : b ρ1 = some (.nw y, ρ2)) (h3 : op x y = some r) : cOp2 op a b ρ = some (.pu r, ρ2) := by
  unfold cOp2
  rw [h1, Option.bind_some, h2, Option.bind_some]
  show (op x y).bind _ = _
  rw [h3]; rfl
theorem cOp2_ll {op : D → D → Option D} {a b : FE} {ρ ρ1 ρ2 : Rho} {x y r : D} (h1 : a ρ = some (.nw x, ρ1)) (h2 : b ρ1 = some (.nw y, ρ2)) (h3 : op x y = some r) : cOp2 op a b ρ = some (.pu r, ρ2) := by
  unfold cOp2
  rw [h1, Option.bind_some, h2, Option.bind_some]
  show (op x y).bind _ = _
  rw [h3]; rfl
theorem sParA_args {is : List Nat} {as : FA} {ρ ρ' ρ2 : Rho} {xs : List D} (h : Args as ρ xs ρ') (h2 : setAll is (xs.map .pu) ρ' = some ρ2) : sParA is as ρ = some (.nx ρ2) := by
  have h' : as ρ = some (xs.map .pu, ρ') := h
  unfold sParA
  rw [h', Option.bind_some]
  show (setAll is (xs.map .pu) ρ').bind _ = _
  rw [h2]; rfl
theorem rgOkB_nat {n : Nat} (h : n ≤ 1000000) : rgOkB 0 (n : Int) = true := by
  have h1 : small 0 = true := by decide
  have h2 : small (n : Int) = true := small_nat (by omega)
  have h3 : ((n : Int) - 0).toNat ≤ 16777216 := by omega
  unfold rgOkB
  rw [h1, h2, decide_eq_true h3]; rfl
theorem cTupRg1_eq {a : FE} {ρ ρ1 : Rho} {j : Int} (h : a ρ = some (.pu (.int j), ρ1)) (hs : rgOkB 0 j = true) : cTupRg1 a ρ = some (.pu (.tuple (intsD 0 j.toNat)), ρ1) := by
  unfold cTupRg1
  rw [h, Option.bind_some]
  show (if rgOkB 0 j = true then _ else none) = _
  rw [if_pos hs]
theorem seq3 {a b c d : FS} {ρ ρ' : Rho} (h : sSeq a (sSeq b (sSeq c sPass)) ρ = some (.nx ρ')) : sSeq a (sSeq b (sSeq c d)) ρ = d ρ' := by
  unfold sSeq at h ⊢
  cases ha : a ρ with
  | none => rw [ha] at h; cases h
  | some o =>
    rw [ha] at h
    cases o with
    | nx ρ1 =>
      simp only [Option.bind_some] at h ⊢
      cases hb : b ρ1 with
      | none => rw [hb] at h; cases h
      | some o =>
        rw [hb] at h
        cases o with
        | nx ρ2 =>
          simp only [Option.bind_some] at h ⊢
          cases hc : c ρ2 with
          | none => rw [hc] at h; cases h
          | some o =>
            rw [hc] at h
            cases o with
            | nx ρ3 =>
              simp only [Option.bind_some, ev_pass] at h ⊢
              cases h; rfl
            | _ => simp at h
        | _ => simp at h
    | _ => simp at h
theorem tOr_ff {a b : FT} {ρ ρ1 ρ2 : Rho} {k : Bool} (h1 : a ρ = some (false, ρ1)) (h2 : b ρ1 = some (k, ρ2)) : tOr a b ρ = some (k, ρ2) := by
  unfold tOr
  rw [h1, Option.bind_some]
  simp only [Bool.false_eq_true, if_false, h2]
theorem tOr_t {a b : FT} {ρ ρ1 : Rho} (h1 : a ρ = some (true, ρ1)) : tOr a b ρ = some (true, ρ1) := by
  unfold tOr
  rw [h1]; rfl
theorem tAnd_tt {a b : FT} {ρ ρ1 ρ2 : Rho} {k : Bool} (h1 : a ρ = some (true, ρ1)) (h2 : b ρ1 = some (k, ρ2)) : tAnd a b ρ = some (k, ρ2) := by
  unfold tAnd
  rw [h1, Option.bind_some]
  simp only [if_true, h2]
theorem tAnd_f {a b : FT} {ρ ρ1 : Rho} (h1 : a ρ = some (false, ρ1)) : tAnd a b ρ = some (false, ρ1) := by
  unfold tAnd
  rw [h1]; rfl
theorem tNot_eq {a : FT} {ρ ρ1 : Rho} {k : Bool} (h1 : a ρ = some (k, ρ1)) : tNot a ρ = some (!k, ρ1) := by
  unfold tNot
  rw [h1]; rfl
/-! ### owned lists -/
theorem cOp2n_sn {op : D → D → Option D} {a b : FE} {ρ ρ1 ρ2 : Rho} {i : Nat} {x y r : D} (h1 : a ρ = some (.sl i, ρ1)) (h2 : b ρ1 = some (.nw y, ρ2)) (hc : cont ρ2 (.sl i) = some x) (h3 : op x y = some r) : cOp2n op a b ρ = some (mk r, ρ2) := by
  unfold cOp2n
  rw [h1, Option.bind_some, h2, Option.bind_some]
  show (cont ρ2 (.sl i)).bind _ = _
  rw [hc, Option.bind_some]
  show (op x y).bind _ = _
  rw [h3]; rfl
theorem cOp2n_sp {op : D → D → Option D} {a b : FE} {ρ ρ1 ρ2 : Rho} {i : Nat} {x y r : D} (h1 : a ρ = some (.sl i, ρ1)) (h2 : b ρ1 = some (.pu y, ρ2)) (hc : cont ρ2 (.sl i) = some x) (h3 : op x y = some r) : cOp2n op a b ρ = some (mk r, ρ2) := by
  unfold cOp2n
  rw [h1, Option.bind_some, h2, Option.bind_some]
  show (cont ρ2 (.sl i)).bind _ = _
  rw [hc, Option.bind_some]
  show (op x y).bind _ = _
  rw [h3]; rfl
theorem cOp2_sp {op : D → D → Option D} {a b : FE} {ρ ρ1 ρ2 : Rho} {i : Nat} {x y r : D} (h1 : a ρ = some (.sl i, ρ1)) (h2 : b ρ1 = some (.pu y, ρ2)) (hc : cont ρ2 (.sl i) = some x) (h3 : op x y = some r) : cOp2 op a b ρ = some (.pu r, ρ2) := by
  unfold cOp2
  rw [h1, Option.bind_some, h2, Option.bind_some]
  show (cont ρ2 (.sl i)).bind _ = _
  rw [hc, Option.bind_some]
  show (op x y).bind _ = _
  rw [h3]; rfl
theorem sApp_pu {i : Nat} {e : FE} {ρ ρ1 ρ2 : Rho} {d : D} {ds : List D} (h : e ρ = some (.pu d, ρ1)) (hc : cont ρ1 (.sl i) = some (.list ds)) (hl : ds.length < lineN) (hp : putS i (.list (ds ++ [d])) ρ1 = some ρ2) : sApp i e ρ = some (.nx ρ2) := by
  unfold sApp
  rw [h, Option.bind_some]
  simp only [stl, hc, if_pos hl, hp, Option.bind_some]
theorem sSet_pu {i : Nat} {k e : FE} {ρ ρ1 ρ2 ρ3 : Rho} {d : D} {j : Int} {n : Nat} {ds : List D} (h : e ρ = some (.pu d, ρ1)) (h2 : k ρ1 = some (.pu (.int j), ρ2)) (hc : cont ρ2 (.sl i) = some (.list ds)) (hn : ixD ds.length j = some n) (hp : putS i (.list (ds.set n d)) ρ2 = some ρ3) : sSet i k e ρ = some (.nx ρ3) := by
  unfold sSet
  rw [h, Option.bind_some, h2, Option.bind_some]
  simp only [stl, hc, hn, hp, Option.bind_some]
theorem sPar2_np {i j : Nat} {a b : FE} {ρ ρ1 ρ2 ρ3 ρ4 : Rho} {x y : D} (h1 : a ρ = some (.nw x, ρ1)) (h2 : b ρ1 = some (.pu y, ρ2)) (h3 : setS i (.own x) ρ2 = some ρ3) (h4 : setS j (.pu y) ρ3 = some ρ4) : sPar2 true false i j a b ρ = some (.nx ρ4) := by
  unfold sPar2
  rw [h1, Option.bind_some, h2, Option.bind_some]
  show (setS i (.own x) ρ2).bind _ = _
  rw [h3, Option.bind_some]
  show (setS j (.pu y) ρ3).bind _ = _
  rw [h4]; rfl
theorem sFrz_eq {i : Nat} {f : FS} {ρ ρ1 : Rho} (h : frz i ρ = ρ1) : sFrz i f ρ = f ρ1 := by
  unfold sFrz
  rw [h]
theorem iEnum_pu {a : FE} {ρ ρ1 : Rho} {x : D} {ds : List D} (h1 : a ρ = some (.pu x, ρ1)) (h2 : itemsOf x = some ds) : iEnum a ρ = some (enumD ds, ρ1) := by
  unfold iEnum
  rw [h1, Option.bind_some]
  show (itemsOf x).bind _ = _
  rw [h2]; rfl
theorem sExp_eq {e : FE} {ρ ρ1 : Rho} {v : Vl} (h : e ρ = some (v, ρ1)) : sExp e ρ = some (.nx ρ1) := by
  unfold sExp
  rw [h]; rfl
theorem cOp_pu {op : D → Option D} {a : FE} {ρ ρ1 : Rho} {x r : D} (h1 : a ρ = some (.pu x, ρ1)) (h3 : op x = some r) : cOp op a ρ = some (.pu r, ρ1) := by
  unfold cOp
  rw [h1, Option.bind_some]
  show (op x).bind _ = _
  rw [h3]; rfl
/-- one turn of a loop -/
theorem forGo_nx {g : FG} {b : FS} {x : D} {ds : List D} {ρ ρ1 ρ2 : Rho} (h1 : g x ρ = some ρ1) (h2 : b ρ1 = some (.nx ρ2)) : forGo g b (x :: ds) ρ = forGo g b ds ρ2 := by
  rw [forGo, h1, Option.bind_some, h2]; rfl
theorem tTru_b {a : FE} {ρ ρ1 : Rho} {k : Bool} (h : a ρ = some (.pu (.bool k), ρ1)) : tTru' a ρ = some (k, ρ1) := by
  unfold tTru'
  rw [h]; rfl
theorem run_rt {b : FS} {ars : List Ar} {p n : Nat} {d : D} {ρ0 ρ' : Rho} {outs : List D} (hp : ars.length = p) (h0 : ars.map arS ++ List.replicate (n - p) .non = ρ0) (h : b ρ0 = some (.rt (.pu d) ρ')) (ho : outsOf ars ρ' = some outs) : runDef p n b ars = some (.pu d, outs) := by
  unfold runDef
  rw [if_pos hp, h0, h]
  simp only [Option.bind_some, retV, ho]
theorem run_rn {b : FS} {ars : List Ar} {p n : Nat} {d : D} {ρ0 ρ' : Rho} {outs : List D} (hp : ars.length = p) (h0 : ars.map arS ++ List.replicate (n - p) .non = ρ0) (h : b ρ0 = some (.rt (.nw d) ρ')) (ho : outsOf ars ρ' = some outs) : runDef p n b ars = some (.nw d, outs) := by
  unfold runDef
  rw [if_pos hp, h0, h]
  simp only [Option.bind_some, retV, ho]
/-- an owned list is given back -/
theorem run_ro {b : FS} {ars : List Ar} {p n i : Nat} {d : D} {ρ0 ρ' : Rho} {outs : List D} (hp : ars.length = p) (h0 : ars.map arS ++ List.replicate (n - p) .non = ρ0) (h : b ρ0 = some (.rt (.sl i) ρ')) (hi : ρ'[i]? = some (.own d)) (ho : outsOf ars ρ' = some outs) : runDef p n b ars = some (.nw d, outs) := by
  unfold runDef
  rw [if_pos hp, h0, h]
  simp only [Option.bind_some, retV, hi, ho]
theorem run_nx {b : FS} {ars : List Ar} {p n : Nat} {ρ0 ρ' : Rho} {outs : List D} (hp : ars.length = p) (h0 : ars.map arS ++ List.replicate (n - p) .non = ρ0) (h : b ρ0 = some (.nx ρ')) (ho : outsOf ars ρ' = some outs) : runDef p n b ars = some (.pu .none, outs) := by
  unfold runDef
  rw [if_pos hp, h0, h]
  simp only [Option.bind_some, ho]
/-! ### the same, the value told by what is wanted -/
theorem cOp2n_pu' {op : D → D → Option D} {a b : FE} {ρ ρ1 ρ2 : Rho} {x y r : D} (h1 : a ρ = some (.pu x, ρ1)) (h2 : b ρ1 = some (.pu y, ρ2)) (h3 : op x y = some r) {v : Vl} (hm : mk r = v := by rfl) : cOp2n op a b ρ = some (v, ρ2) := hm ▸ cOp2n_pu h1 h2 h3
theorem cOp2n_pl' {op : D → D → Option D} {a b : FE} {ρ ρ1 ρ2 : Rho} {x y r : D} (h1 : a ρ = some (.pu x, ρ1)) (h2 : b ρ1 = some (.nw y, ρ2)) (h3 : op x y = some r) {v : Vl} (hm : mk r = v := by rfl) : cOp2n op a b ρ = some (v, ρ2) := hm ▸ cOp2n_pl h1 h2 h3
theorem cOp2n_lp' {op : D → D → Option D} {a b : FE} {ρ ρ1 ρ2 : Rho} {x y r : D} (h1 : a ρ = some (.nw x, ρ1)) (h2 : b ρ1 = some (.pu y, ρ2)) (h3 : op x y = some r) {v : Vl} (hm : mk r = v := by rfl) : cOp2n op a b ρ = some (v, ρ2) := hm ▸ cOp2n_lp h1 h2 h3
theorem cOp2n_ll' {op : D → D → Option D} {a b : FE} {ρ ρ1 ρ2 : Rho} {x y r : D} (h1 : a ρ = some (.nw x, ρ1)) (h2 : b ρ1 = some (.nw y, ρ2)) (h3 : op x y = some r) {v : Vl} (hm : mk r = v := by rfl) : cOp2n op a b ρ = some (v, ρ2) := hm ▸ cOp2n_ll h1 h2 h3
theorem cOp2n_sn' {op : D → D → Option D} {a b : FE} {ρ ρ1 ρ2 : Rho} {i : Nat} {x y r : D} (h1 : a ρ = some (.sl i, ρ1)) (h2 : b ρ1 = some (.nw y, ρ2)) (hc : cont ρ2 (.sl i) = some x) (h3 : op x y = some r) {v : Vl} (hm : mk r = v := by rfl) : cOp2n op a b ρ = some (v, ρ2) := hm ▸ cOp2n_sn h1 h2 hc h3
theorem cOp2n_sp' {op : D → D → Option D} {a b : FE} {ρ ρ1 ρ2 : Rho} {i : Nat} {x y r : D} (h1 : a ρ = some (.sl i, ρ1)) (h2 : b ρ1 = some (.pu y, ρ2)) (hc : cont ρ2 (.sl i) = some x) (h3 : op x y = some r) {v : Vl} (hm : mk r = v := by rfl) : cOp2n op a b ρ = some (v, ρ2) := hm ▸ cOp2n_sp h1 h2 hc h3
theorem cOpAn_args' {op : List D → Option D} {as : FA} {ρ ρ' : Rho} {xs : List D} {r : D} (h : Args as ρ xs ρ') (h3 : op xs = some r) {v : Vl} (hm : mk r = v := by rfl) : cOpAn op as ρ = some (v, ρ') := hm ▸ cOpAn_args h h3
theorem cSl_pu' {op : D → Option Int → Option Int → Option D} {a : FE} {lo hi : FO} {ρ ρ1 ρ2 ρ3 : Rho} {x r : D} {l h : Option Int} (h1 : a ρ = some (.pu x, ρ1)) (h2 : lo ρ1 = some (l, ρ2)) (h3 : hi ρ2 = some (h, ρ3)) (h4 : op x l h = some r) {v : Vl} (hm : mk r = v := by rfl) : cSl mk op a lo hi ρ = some (v, ρ3) := hm ▸ cSl_pu h1 h2 h3 h4
theorem cOpn_pu' {op : D → Option D} {a : FE} {ρ ρ1 : Rho} {x r : D} (h1 : a ρ = some (.pu x, ρ1)) (h3 : op x = some r) {v : Vl} (hm : mk r = v := by rfl) : cOpn op a ρ = some (v, ρ1) := hm ▸ cOpn_pu h1 h3
end PL

namespace PL
open PySem PySem.Spec PyProof.Rows L2
/-- is_integer: slots 0 value -/
def b_is_integer : FS :=
  (sRet (cAnd (cOpn (opIsi "int") (cVar 0)) (cNotB (cOpn (opIsi "bool") (cVar 0)))))
def m_is_integer : Mir := runDef 1 1 b_is_integer
/-- is_whole: slots 0 value, 1 low, 2 high -/
def b_is_whole : FS :=
  (sRet (cAnd (cCall m_is_integer (aCons (cVar 0) aNil)) (cChain opLe opLe (cVar 1) (cVar 0) (cVar 2))))
def m_is_whole : Mir := runDef 3 3 b_is_whole
/-- is_tuple_of: slots 0 value, 1 low, 2 high -/
def b_is_tuple_of : FS :=
  (sRet (cAnd (cOpn (opIsi "tuple") (cVar 0)) (cChain opLe opLe (cVar 1) (cOpA fLen (aCons (cVar 0) aNil)) (cVar 2))))
def m_is_tuple_of : Mir := runDef 3 3 b_is_tuple_of
/-- is_word: slots 0 value, 1 signs, 2 low, 3 high, 4 sign -/
def b_is_word : FS :=
  (sRet (cAnd (cOpn (opIsi "str") (cVar 0)) (cAnd (cChain opLe opLe (cVar 2) (cOpA fLen (aCons (cVar 0) aNil)) (cVar 3)) (cOpA fAll (aCons (cLc [4] (iE (cVar 0)) (gN 4) tYes (cOp2 opIn (cVar 4) (cVar 1))) aNil)))))
def m_is_word : Mir := runDef 4 5 b_is_word
/-- fits_path: slots 0 value, 1 ahead, 2 sign -/
def b_fits_path : FS :=
  (sSeq (sIf (tNot (tTru' (cCall m_is_word (aCons (cVar 0) (aCons (cC (.str (Str.ofString "ur"))) (aCons (cC (.int 0)) (aCons (cOp2n opMul (cC (.int 2)) (cC (.int 30))) aNil))))))) (sRet (cC (.bool false))) sPass)
  (sSeq (sAsg 1 (cC (.int 0)))
  (sSeq (sFor (iE (cVar 0)) (gN 2) (sSeq (sAsg 1 (cOp2n opAdd (cVar 1) (cIf (tBl (cOp2 opEq (cVar 2) (cC (.str (Str.ofString "u"))))) (cC (.int 1)) (cOp opNeg (cC (.int 1))))))
  (sIf (tBl (cOp2 opLt (cVar 1) (cC (.int 0)))) (sRet (cC (.bool false))) sPass)))
  (sRet (cOp2 opEq (cVar 1) (cC (.int 0)))))))
def m_fits_path : Mir := runDef 1 3 b_fits_path
/-- need_path: slots 0 path -/
def b_need_path : FS :=
  (sIf (tNot (tTru' (cCall m_fits_path (aCons (cVar 0) aNil)))) sNever sPass)
def m_need_path : Mir := runDef 1 1 b_need_path
/-- row_in: slots 0 path, 1 sign, 2 found, 3 ahead -/
def b_row_in : FS :=
  (sSeq (sPar2 true false 2 3 (cLst aNil) (cC (.int 0)))
  (sSeq (sFor (iE (cVar 0)) (gN 1) (sSeq (sIf (tBl (cOp2 opEq (cVar 1) (cC (.str (Str.ofString "u"))))) (sApp 2 (cVar 3)) sPass)
  (sAsg 3 (cOp2n opAdd (cVar 3) (cIf (tBl (cOp2 opEq (cVar 1) (cC (.str (Str.ofString "u"))))) (cC (.int 1)) (cOp opNeg (cC (.int 1))))))))
  (sRet (cVar 2))))
def m_row_in : Mir := runDef 1 4 b_row_in
/-- path_in: slots 0 row, 1 own, 2 found, 3 ahead -/
def b_path_in : FS :=
  (sSeq (sTgt (gT ((gN 2) :: ((gN 3) :: []))) (cTup (aCons (cC (.str (Str.ofString ""))) (aCons (cC (.int 0)) aNil))))
  (sSeq (sFor (iE (cVar 0)) (gN 1) (sSeq (sAsg 2 (cOp2n opAdd (cOp2n opAdd (cVar 2) (cOp2n opMul (cC (.str (Str.ofString "r"))) (cOp2 opSub (cVar 3) (cVar 1)))) (cC (.str (Str.ofString "u")))))
  (sAsg 3 (cOp2n opAdd (cVar 1) (cC (.int 1))))))
  (sRet (cOp2n opAdd (cVar 2) (cOp2n opMul (cC (.str (Str.ofString "r"))) (cVar 3))))))
def m_path_in : Mir := runDef 1 4 b_path_in
/-- fits_row: slots 0 value, 1 own, 2 later -/
def b_fits_row : FS :=
  (sSeq (sIf (tOr (tNot (tTru' (cCall m_is_tuple_of (aCons (cVar 0) (aCons (cC (.int 0)) (aCons (cC (.int 30)) aNil)))))) (tNot (tTru' (cOpA fAll (aCons (cLc [1] (iE (cVar 0)) (gN 1) tYes (cCall m_is_whole (aCons (cVar 1) (aCons (cC (.int 0)) (aCons (cOp2 opSub (cC (.int 30)) (cC (.int 1))) aNil))))) aNil))))) (sRet (cC (.bool false))) sPass)
  (sRet (cOpA fAll (aCons (cLc [1, 2] (iZip (cOp2n opAdd (cTup (aCons (cOp opNeg (cC (.int 1))) aNil)) (cVar 0)) (cVar 0)) (gT ((gN 1) :: ((gN 2) :: []))) tYes (cOp2 opLe (cVar 2) (cOp2n opAdd (cVar 1) (cC (.int 1))))) aNil))))
def m_fits_row : Mir := runDef 1 3 b_fits_row
/-- pairs_in: slots 0 row, 1 found, 2 at, 3 own, 4 other -/
def b_pairs_in : FS :=
  (sSeq (sAsg 1 (cC (.int 0)))
  (sSeq (sFor (iEnum (cVar 0)) (gT ((gN 2) :: ((gN 3) :: []))) (sAsg 1 (cOp2n opAdd (cVar 1) (cOpA fLen (aCons (cLc [4] (iE (cSl mk opSl (cVar 0) (oSo (cOp2n opAdd (cVar 2) (cC (.int 1)))) oNo)) (gN 4) (tOr (tBl (cOp2 opEq (cVar 4) (cVar 3))) (tBl (cOp2 opEq (cVar 4) (cOp2 opSub (cVar 3) (cC (.int 1)))))) (cVar 4)) aNil)))))
  (sRet (cVar 1))))
def m_pairs_in : Mir := runDef 1 5 b_pairs_in
/-- heights_in: slots 0 path, 1 sign, 2 found, 3 ups -/
def b_heights_in : FS :=
  (sSeq (sPar2 true false 2 3 (cLst aNil) (cC (.int 0)))
  (sSeq (sFor (iE (cVar 0)) (gN 1) (sIf (tBl (cOp2 opEq (cVar 1) (cC (.str (Str.ofString "u"))))) (sAsg 3 (cOp2n opAdd (cVar 3) (cC (.int 1)))) (sApp 2 (cVar 3))))
  (sRet (cVar 2))))
def m_heights_in : Mir := runDef 1 4 b_heights_in
/-- bounces_in: slots 0 path, 1 heights, 2 found -/
def b_bounces_in : FS :=
  (sSeq (sPar2 false true 1 2 (cCall m_heights_in (aCons (cVar 0) aNil)) (cLst (aCons (cC (.int 0)) aNil)))
  (sSeq (sWhile (tBl (cOp2 opLt (cOp2 opIx (cVar 2) (cOp opNeg (cC (.int 1)))) (cOpA fLen (aCons (cVar 1) aNil)))) (sApp 2 (cOp2 opIx (cVar 1) (cOp2 opIx (cVar 2) (cOp opNeg (cC (.int 1)))))))
  (sRet (cVar 2))))
def m_bounces_in : Mir := runDef 1 3 b_bounces_in
/-- bounce_weight_in: slots 0 path, 1 found, 2 own -/
def b_bounce_weight_in : FS :=
  (sSeq (sAsg 1 (cCall m_bounces_in (aCons (cVar 0) aNil)))
  (sRet (cOpA fSum (aCons (cLc [2] (iE (cSl mk opSl (cVar 1) (oSo (cC (.int 1))) oNo)) (gN 2) tYes (cOp2 opSub (cOp2 opIx (cVar 1) (cOp opNeg (cC (.int 1)))) (cVar 2))) aNil))))
def m_bounce_weight_in : Mir := runDef 1 3 b_bounce_weight_in
/-- swept_in: slots 0 row, 1 found, 2 low, 3 own -/
def b_swept_in : FS :=
  (sSeq (sAsg 1 (cOp2n opMul (cC (.str (Str.ofString "u"))) (cM "list" .pu mLCount (cVar 0) (aCons (cC (.int 0)) aNil))))
  (sSeq (sFor (iRg1 (cOp2n opAdd (cOpA fMax (aCons (cOp2n opAdd (cLst (aCons (cOp opNeg (cC (.int 1))) aNil)) (cVar 0)) aNil)) (cC (.int 1)))) (gN 2) (sAsg 1 (cOp2n opAdd (cVar 1) (cM "str" .pu mJoin (cC (.str (Str.ofString ""))) (aCons (cLc [3] (iE (cVar 0)) (gN 3) (tBl (cOp2 opIn (cVar 3) (cTup (aCons (cVar 2) (aCons (cOp2n opAdd (cVar 2) (cC (.int 1))) aNil))))) (cIf (tBl (cOp2 opEq (cVar 3) (cVar 2))) (cC (.str (Str.ofString "r"))) (cC (.str (Str.ofString "u"))))) aNil)))))
  (sRet (cVar 1))))
def m_swept_in : Mir := runDef 1 4 b_swept_in
/-- with_level: slots 0 row, 1 low, 2 signs, 3 sign, 4 own, 5 behind, 6 count, 7 found, 8 met -/
def b_with_level : FS :=
  (sSeq (sPar2 true false 5 6 (cLst (aCons (cC (.int 0)) aNil)) (cC (.int 0)))
  (sSeq (sFor (iE (cVar 2)) (gN 3) (sIf (tBl (cOp2 opEq (cVar 3) (cC (.str (Str.ofString "r"))))) (sSeq (sAsg 6 (cOp2n opAdd (cVar 6) (cC (.int 1))))
  (sApp 5 (cC (.int 0)))) (sSet 5 (cVar 6) (cOp2n opAdd (cOp2 opIx (cVar 5) (cVar 6)) (cC (.int 1))))))
  (sFrz 5 (sSeq (sPar2 true false 7 8 (cLst aNil) (cC (.int 0)))
  (sSeq (sFor (iE (cVar 0)) (gN 4) (sSeq (sApp 7 (cVar 4))
  (sIf (tBl (cOp2 opEq (cVar 4) (cVar 1))) (sSeq (sAsg 8 (cOp2n opAdd (cVar 8) (cC (.int 1))))
  (sNew 7 (cOp2n opAdd (cVar 7) (cOp2n opMul (cLst (aCons (cOp2n opAdd (cVar 1) (cC (.int 1))) aNil)) (cOp2 opIx (cVar 5) (cVar 8)))))) sPass)))
  (sRet (cVar 7)))))))
def m_with_level : Mir := runDef 3 9 b_with_level
/-- unswept_in: slots 0 path, 1 bounces, 2 sizes, 3 row, 4 rest, 5 low, 6 size, 7 many, 8 own, 9 later -/
def b_unswept_in : FS :=
  (sSeq (sAsg 1 (cCall m_bounces_in (aCons (cVar 0) aNil)))
  (sSeq (sAsg 2 (cLc [8, 9] (iZip (cVar 1) (cSl mk opSl (cVar 1) (oSo (cC (.int 1))) oNo)) (gT ((gN 8) :: ((gN 9) :: []))) tYes (cOp2 opSub (cVar 9) (cVar 8))))
  (sSeq (sParA [3, 4] (aCons (cOp2n opMul (cLst (aCons (cC (.int 0)) aNil)) (cIf (tBl (cOp2 opNe (cVar 2) (cLst aNil))) (cOp2 opIx (cVar 2) (cC (.int 0))) (cC (.int 0)))) (aCons (cSl mk opSl (cVar 0) (oSo (cIf (tBl (cOp2 opNe (cVar 2) (cLst aNil))) (cOp2 opIx (cVar 2) (cC (.int 0))) (cC (.int 0)))) oNo) aNil)))
  (sSeq (sFor (iEnum (cVar 2)) (gT ((gN 5) :: ((gN 6) :: []))) (sSeq (sAsg 7 (cOp2n opAdd (cVar 6) (cIf (tBl (cOp2 opLt (cOp2n opAdd (cVar 5) (cC (.int 1))) (cOpA fLen (aCons (cVar 2) aNil)))) (cOp2 opIx (cVar 2) (cOp2n opAdd (cVar 5) (cC (.int 1)))) (cC (.int 0)))))
  (sParA [3, 4] (aCons (cCall m_with_level (aCons (cVar 3) (aCons (cVar 5) (aCons (cSl mk opSl (cVar 4) oNo (oSo (cVar 7))) aNil)))) (aCons (cSl mk opSl (cVar 4) (oSo (cVar 7)) oNo) aNil)))))
  (sRet (cVar 3))))))
def m_unswept_in : Mir := runDef 1 10 b_unswept_in
/-- area_row: slots 0 path -/
def b_area_row : FS :=
  (sSeq (sExp (cCall m_need_path (aCons (cVar 0) aNil)))
  (sRet (cOpA fTuple (aCons (cCall m_row_in (aCons (cVar 0) aNil)) aNil))))
def m_area_row : Mir := runDef 1 1 b_area_row
/-- path_with_row: slots 0 row -/
def b_path_with_row : FS :=
  (sSeq (sIf (tNot (tTru' (cCall m_fits_row (aCons (cVar 0) aNil)))) sNever sPass)
  (sRet (cCall m_path_in (aCons (cVar 0) aNil))))
def m_path_with_row : Mir := runDef 1 1 b_path_with_row
/-- area_of_path: slots 0 path -/
def b_area_of_path : FS :=
  (sSeq (sExp (cCall m_need_path (aCons (cVar 0) aNil)))
  (sRet (cOpA fSum (aCons (cCall m_row_in (aCons (cVar 0) aNil)) aNil))))
def m_area_of_path : Mir := runDef 1 1 b_area_of_path
/-- pair_weight: slots 0 path -/
def b_pair_weight : FS :=
  (sSeq (sExp (cCall m_need_path (aCons (cVar 0) aNil)))
  (sRet (cCall m_pairs_in (aCons (cCall m_row_in (aCons (cVar 0) aNil)) aNil))))
def m_pair_weight : Mir := runDef 1 1 b_pair_weight
/-- bounces_of: slots 0 path -/
def b_bounces_of : FS :=
  (sSeq (sExp (cCall m_need_path (aCons (cVar 0) aNil)))
  (sRet (cOpA fTuple (aCons (cCall m_bounces_in (aCons (cVar 0) aNil)) aNil))))
def m_bounces_of : Mir := runDef 1 1 b_bounces_of
/-- bounce_weight: slots 0 path -/
def b_bounce_weight : FS :=
  (sSeq (sExp (cCall m_need_path (aCons (cVar 0) aNil)))
  (sRet (cCall m_bounce_weight_in (aCons (cVar 0) aNil))))
def m_bounce_weight : Mir := runDef 1 1 b_bounce_weight
/-- swept_path: slots 0 path -/
def b_swept_path : FS :=
  (sSeq (sExp (cCall m_need_path (aCons (cVar 0) aNil)))
  (sRet (cCall m_swept_in (aCons (cCall m_row_in (aCons (cVar 0) aNil)) aNil))))
def m_swept_path : Mir := runDef 1 1 b_swept_path
/-- unswept_path: slots 0 path -/
def b_unswept_path : FS :=
  (sSeq (sExp (cCall m_need_path (aCons (cVar 0) aNil)))
  (sRet (cCall m_path_in (aCons (cCall m_unswept_in (aCons (cVar 0) aNil)) aNil))))
def m_unswept_path : Mir := runDef 1 1 b_unswept_path
/-- _law_cup: slots 0 script, 1 cell -/
def b__law_cup : FS :=
  (sSeq (sAsg 1 (cOpA fAbs (aCons (cOp2 opIx (cOp2n opAdd (cOpAn fList (aCons (cVar 0) aNil)) (cLst (aCons (cC (.int 0)) aNil))) (cC (.int 0))) aNil)))
  (sRet (cLst (aCons (cIf (tBl (cOp2 opGe (cVar 1) (cOp2 opPow (cC (.int 10)) (cC (.int 18))))) (cOp2 opFdiv (cVar 1) (cC (.int 73))) (cC (.int 0))) (aCons (cOp2n opAdd (cOp2 opMod (cOpA fInt (aCons (cOp2n opAdd (cOp2n opMul (cVar 1) (cC (.int 283))) (cC (.int 3907))) aNil)) (cC (.int 2077503167))) (cC (.int 167))) aNil)))))
def m__law_cup : Mir := runDef 1 2 b__law_cup
/-- _law_roll: slots 0 cup, 1 many, 2 deep, 3 found -/
def b__law_roll : FS :=
  (sSeq (sIf (tBl (cOp2 opGt (cOp2 opIx (cVar 0) (cC (.int 0))) (cC (.int 0)))) (sSeq (sAsg 3 (cOp2 opMod (cOpA fInt (aCons (cOp2 opIx (cVar 0) (cC (.int 0))) aNil)) (cVar 1)))
  (sSeq (sSet 0 (cC (.int 0)) (cOp2 opFdiv (cOp2 opIx (cVar 0) (cC (.int 0))) (cVar 1)))
  (sRet (cVar 3)))) sPass)
  (sSeq (sSet 0 (cC (.int 1)) (cOp2 opMod (cOpA fInt (aCons (cOp2n opAdd (cOp2n opMul (cOp2 opIx (cVar 0) (cC (.int 1))) (cC (.int 31051))) (cC (.int 7993))) aNil)) (cC (.int 2147483543))))
  (sSeq (sAsg 2 (cOp2 opMod (cOpA fInt (aCons (cOp2n opMul (cOp2 opIx (cVar 0) (cC (.int 1))) (cOp2n opAdd (cOp2 opIx (cVar 0) (cC (.int 1))) (cC (.int 229)))) aNil)) (cC (.int 2147483587))))
  (sRet (cOp2 opMod (cOpA fInt (aCons (cOp2 opFdiv (cVar 2) (cC (.int 821))) aNil)) (cVar 1))))))
def m__law_roll : Mir := runDef 2 4 b__law_roll
/-- _law_sort: slots 0 value -/
def b__law_sort : FS :=
  (sSeq (sIf (tOr (tBl (cOp2 opIs (cVar 0) (cC .none))) (tTru' (cOpn (opIsi "bool") (cVar 0)))) (sRet (cIf (tBl (cOp2 opIs (cVar 0) (cC .none))) (cC (.int 0)) (cC (.int 1)))) sPass)
  (sSeq (sIf (tOr (tTru' (cOpn (opIsi "int") (cVar 0))) (tTru' (cOpn (opIsi "str") (cVar 0)))) (sRet (cIf (tTru' (cOpn (opIsi "int") (cVar 0))) (cC (.int 2)) (cC (.int 3)))) sPass)
  (sRet (cIf (tTru' (cOpn (opIsi "tuple") (cVar 0))) (cC (.int 4)) (cIf (tTru' (cOpn (opIsi "list") (cVar 0))) (cC (.int 5)) (cC (.int 6)))))))
def m__law_sort : Mir := runDef 1 1 b__law_sort
/-- _law_like: slots 0 one, 1 other, 2 sort, 3 first, 4 second -/
def b__law_like (m__law_like : Mir) : FS :=
  (sSeq (sAsg 2 (cCall m__law_sort (aCons (cVar 1) aNil)))
  (sSeq (sIf (tOr (tBl (cOp2 opNe (cCall m__law_sort (aCons (cVar 0) aNil)) (cVar 2))) (tBl (cOp2 opEq (cVar 2) (cC (.int 6))))) (sRet (cC (.bool false))) sPass)
  (sSeq (sIf (tBl (cOp2 opIn (cVar 2) (cTup (aCons (cC (.int 4)) (aCons (cC (.int 5)) aNil))))) (sRet (cAnd (cOp2 opEq (cOpA fLen (aCons (cVar 0) aNil)) (cOpA fLen (aCons (cVar 1) aNil))) (cOp2 opEq (cLc [3, 4] (iZip (cVar 0) (cVar 1)) (gT ((gN 3) :: ((gN 4) :: []))) (tNot (tTru' (cCall m__law_like (aCons (cVar 3) (aCons (cVar 4) aNil))))) (cC (.int 1))) (cLst aNil)))) sPass)
  (sRet (cOp2 opEq (cVar 0) (cVar 1))))))
def r__law_like : Nat → Mir
  | 0 => fun _ => none
  | k + 1 => runDef 2 5 (b__law_like (r__law_like k))
def m__law_like : Mir := r__law_like 8
/-- _law_path: slots 0 cup, 1 size, 2 found, 3 ups, 4 downs, 5 up -/
def b__law_path : FS :=
  (sSeq (sTgt (gT ((gN 2) :: ((gN 3) :: ((gN 4) :: [])))) (cTup (aCons (cC (.str (Str.ofString ""))) (aCons (cC (.int 0)) (aCons (cC (.int 0)) aNil)))))
  (sSeq (sWhile (tBl (cOp2 opLt (cVar 4) (cVar 1))) (sSeq (sAsg 5 (cAnd (cOp2 opLt (cVar 3) (cVar 1)) (cOr (cOp2 opEq (cVar 3) (cVar 4)) (cOp2 opEq (cCall m__law_roll (aCons (cVar 0) (aCons (cC (.int 2)) aNil))) (cC (.int 0))))))
  (sParA [2, 3, 4] (aCons (cOp2n opAdd (cVar 2) (cIf (tTru' (cVar 5)) (cC (.str (Str.ofString "u"))) (cC (.str (Str.ofString "r"))))) (aCons (cOp2n opAdd (cVar 3) (cIf (tTru' (cVar 5)) (cC (.int 1)) (cC (.int 0)))) (aCons (cOp2n opAdd (cVar 4) (cIf (tTru' (cVar 5)) (cC (.int 0)) (cC (.int 1)))) aNil))))))
  (sRet (cVar 2))))
def m__law_path : Mir := runDef 2 6 b__law_path
/-- _law_is_path: slots 0 value, 1 heights, 2 at, 3 sign -/
def b__law_is_path : FS :=
  (sSeq (sIf (tOr (tBl (cOp2 opNe (cCall m__law_sort (aCons (cVar 0) aNil)) (cC (.int 3)))) (tOr (tBl (cOp2 opGt (cOpA fLen (aCons (cVar 0) aNil)) (cC (.int 60)))) (tBl (cOp2 opNe (cLc [3] (iE (cVar 0)) (gN 3) (tBl (cOp2 opNotIn (cVar 3) (cC (.str (Str.ofString "ur"))))) (cVar 3)) (cLst aNil))))) (sRet (cC (.bool false))) sPass)
  (sSeq (sAsg 1 (cLc [2] (iRg1 (cOp2n opAdd (cOpA fLen (aCons (cVar 0) aNil)) (cC (.int 1)))) (gN 2) tYes (cOp2 opSub (cM "str" .pu mCount (cSl mk opSl (cVar 0) oNo (oSo (cVar 2))) (aCons (cC (.str (Str.ofString "u"))) aNil)) (cM "str" .pu mCount (cSl mk opSl (cVar 0) oNo (oSo (cVar 2))) (aCons (cC (.str (Str.ofString "r"))) aNil)))))
  (sRet (cAnd (cOp2 opGe (cOpA fMin (aCons (cVar 1) aNil)) (cC (.int 0))) (cOp2 opEq (cOp2 opIx (cVar 1) (cOp opNeg (cC (.int 1)))) (cC (.int 0)))))))
def m__law_is_path : Mir := runDef 1 4 b__law_is_path
/-- _law_area_row: slots 0 path, 1 at, 2 sign -/
def b__law_area_row : FS :=
  (sRet (cLc [1, 2] (iEnum (cVar 0)) (gT ((gN 1) :: ((gN 2) :: []))) (tBl (cOp2 opEq (cVar 2) (cC (.str (Str.ofString "u"))))) (cOp2 opSub (cM "str" .pu mCount (cSl mk opSl (cVar 0) oNo (oSo (cVar 1))) (aCons (cC (.str (Str.ofString "u"))) aNil)) (cM "str" .pu mCount (cSl mk opSl (cVar 0) oNo (oSo (cVar 1))) (aCons (cC (.str (Str.ofString "r"))) aNil)))))
def m__law_area_row : Mir := runDef 1 3 b__law_area_row
/-- _law_pair_weight: slots 0 row, 1 found, 2 one, 3 other -/
def b__law_pair_weight : FS :=
  (sSeq (sAsg 1 (cC (.int 0)))
  (sSeq (sFor (iRg1 (cOpA fLen (aCons (cVar 0) aNil))) (gN 2) (sFor (iRg2 (cOp2n opAdd (cVar 2) (cC (.int 1))) (cOpA fLen (aCons (cVar 0) aNil))) (gN 3) (sAsg 1 (cOp2n opAdd (cVar 1) (cIf (tBl (cOp2 opIn (cOp2 opSub (cOp2 opIx (cVar 0) (cVar 2)) (cOp2 opIx (cVar 0) (cVar 3))) (cTup (aCons (cC (.int 0)) (aCons (cC (.int 1)) aNil))))) (cC (.int 1)) (cC (.int 0)))))))
  (sRet (cVar 1))))
def m__law_pair_weight : Mir := runDef 1 4 b__law_pair_weight
/-- _law_bounces: slots 0 path, 1 rights, 2 found, 3 at, 4 sign -/
def b__law_bounces : FS :=
  (sSeq (sAsg 1 (cLc [3, 4] (iEnum (cVar 0)) (gT ((gN 3) :: ((gN 4) :: []))) (tBl (cOp2 opEq (cVar 4) (cC (.str (Str.ofString "r"))))) (cVar 3)))
  (sSeq (sNew 2 (cLst (aCons (cC (.int 0)) aNil)))
  (sSeq (sWhile (tBl (cOp2 opLt (cOp2 opIx (cVar 2) (cOp opNeg (cC (.int 1)))) (cOpA fLen (aCons (cVar 1) aNil)))) (sApp 2 (cM "str" .pu mCount (cSl mk opSl (cVar 0) oNo (oSo (cOp2 opIx (cVar 1) (cOp2 opIx (cVar 2) (cOp opNeg (cC (.int 1))))))) (aCons (cC (.str (Str.ofString "u"))) aNil))))
  (sRet (cVar 2)))))
def m__law_bounces : Mir := runDef 1 5 b__law_bounces
/-- _law_all_paths: slots 0 size, 1 found, 2 turn, 3 longer, 4 path, 5 ups, 6 downs -/
def b__law_all_paths : FS :=
  (sSeq (sAsg 1 (cLst (aCons (cC (.str (Str.ofString ""))) aNil)))
  (sSeq (sFor (iRg1 (cOp2n opMul (cC (.int 2)) (cVar 0))) (gN 2) (sSeq (sAsg 3 (cLst aNil))
  (sSeq (sFor (iE (cVar 1)) (gN 4) (sSeq (sParA [5, 6] (aCons (cM "str" .pu mCount (cVar 4) (aCons (cC (.str (Str.ofString "u"))) aNil)) (aCons (cM "str" .pu mCount (cVar 4) (aCons (cC (.str (Str.ofString "r"))) aNil)) aNil)))
  (sAsg 3 (cOp2n opAdd (cOp2n opAdd (cVar 3) (cIf (tBl (cOp2 opLt (cVar 6) (cVar 5))) (cLst (aCons (cOp2n opAdd (cVar 4) (cC (.str (Str.ofString "r")))) aNil)) (cLst aNil))) (cIf (tBl (cOp2 opLt (cVar 5) (cVar 0))) (cLst (aCons (cOp2n opAdd (cVar 4) (cC (.str (Str.ofString "u")))) aNil)) (cLst aNil))))))
  (sAsg 1 (cVar 3)))))
  (sRet (cVar 1))))
def m__law_all_paths : Mir := runDef 1 7 b__law_all_paths
/-- _law_swept: slots 0 path, 1 row, 2 found, 3 level, 4 own -/
def b__law_swept : FS :=
  (sSeq (sAsg 1 (cCall m__law_area_row (aCons (cVar 0) aNil)))
  (sSeq (sAsg 2 (cOp2n opMul (cC (.str (Str.ofString "u"))) (cOpA fLen (aCons (cLc [4] (iE (cVar 1)) (gN 4) (tBl (cOp2 opEq (cVar 4) (cC (.int 0)))) (cVar 4)) aNil))))
  (sSeq (sFor (iRg1 (cOpA fLen (aCons (cVar 1) aNil))) (gN 3) (sFor (iE (cVar 1)) (gN 4) (sIf (tBl (cOp2 opEq (cVar 4) (cVar 3))) (sAsg 2 (cOp2n opAdd (cVar 2) (cC (.str (Str.ofString "r"))))) (sIf (tBl (cOp2 opEq (cVar 4) (cOp2n opAdd (cVar 3) (cC (.int 1))))) (sAsg 2 (cOp2n opAdd (cVar 2) (cC (.str (Str.ofString "u"))))) sPass))))
  (sRet (cVar 2)))))
def m__law_swept : Mir := runDef 1 5 b__law_swept
/-- _law_right: slots 0 path, 1 told, 2 bounces, 3 back, 4 row, 5 due, 6 level, 7 own, 8 later -/
def b__law_right : FS :=
  (sSeq (sTgt (gT ((gN 4) :: ((gN 5) :: []))) (cTup (aCons (cCall m__law_area_row (aCons (cVar 0) aNil)) (aCons (cCall m__law_swept (aCons (cVar 0) aNil)) aNil))))
  (sSeq (sIf (tOr (tNot (tTru' (cCall m__law_is_path (aCons (cVar 5) aNil)))) (tNot (tTru' (cCall m__law_like (aCons (cLst (aCons (cCall m_swept_path (aCons (cVar 0) aNil)) (aCons (cCall m_unswept_path (aCons (cVar 5) aNil)) aNil))) (aCons (cLst (aCons (cVar 5) (aCons (cVar 0) aNil))) aNil)))))) (sRet (cC (.bool false))) sPass)
  (sSeq (sAsg 1 (cLst (aCons (cCall m_area_of_path (aCons (cVar 5) aNil)) (aCons (cCall m_bounce_weight (aCons (cVar 5) aNil)) (aCons (cCall m_area_of_path (aCons (cVar 0) aNil)) (aCons (cCall m_pair_weight (aCons (cVar 0) aNil)) aNil))))))
  (sSeq (sIf (tNot (tTru' (cCall m__law_like (aCons (cVar 1) (aCons (cLst (aCons (cCall m__law_pair_weight (aCons (cVar 4) aNil)) (aCons (cOpA fSum (aCons (cVar 4) aNil)) (aCons (cOpA fSum (aCons (cVar 4) aNil)) (aCons (cCall m__law_pair_weight (aCons (cVar 4) aNil)) aNil))))) aNil))))) (sRet (cC (.bool false))) sPass)
  (sSeq (sAsg 2 (cCall m__law_bounces (aCons (cVar 5) aNil)))
  (sSeq (sIf (tBl (cOp2 opNe (cLc [7, 8] (iZip (cVar 2) (cSl mk opSl (cVar 2) (oSo (cC (.int 1))) oNo)) (gT ((gN 7) :: ((gN 8) :: []))) tYes (cOp2 opSub (cVar 8) (cVar 7))) (cLc [6] (iRg1 (cOp2n opAdd (cOpA fMax (aCons (cOp2n opAdd (cLst (aCons (cOp opNeg (cC (.int 1))) aNil)) (cVar 4)) aNil)) (cC (.int 1)))) (gN 6) tYes (cM "list" .pu mLCount (cVar 4) (aCons (cVar 6) aNil))))) (sRet (cC (.bool false))) sPass)
  (sSeq (sAsg 3 (cCall m_unswept_path (aCons (cVar 0) aNil)))
  (sSeq (sIf (tOr (tNot (tTru' (cCall m__law_is_path (aCons (cVar 3) aNil)))) (tOr (tBl (cOp2 opNe (cCall m__law_swept (aCons (cVar 3) aNil)) (cVar 0))) (tNot (tTru' (cCall m__law_like (aCons (cCall m_bounces_of (aCons (cVar 0) aNil)) (aCons (cOpA fTuple (aCons (cCall m__law_bounces (aCons (cVar 0) aNil)) aNil)) aNil))))))) (sRet (cC (.bool false))) sPass)
  (sRet (cCall m__law_like (aCons (cLst (aCons (cCall m_area_of_path (aCons (cVar 3) aNil)) (aCons (cCall m_pair_weight (aCons (cVar 3) aNil)) aNil))) (aCons (cLst (aCons (cCall m_bounce_weight (aCons (cVar 0) aNil)) (aCons (cCall m_area_of_path (aCons (cVar 0) aNil)) aNil))) aNil))))))))))))
def m__law_right : Mir := runDef 1 9 b__law_right
/-- _law_all_right: slots 0 cup, 1 every, 2 swept, 3 pairs, 4 path, 5 weight, 6 area -/
def b__law_all_right : FS :=
  (sSeq (sAsg 1 (cCall m__law_all_paths (aCons (cCall m__law_roll (aCons (cVar 0) (aCons (cC (.int 7)) aNil))) aNil)))
  (sSeq (sAsg 2 (cLc [4] (iE (cVar 1)) (gN 4) tYes (cCall m_swept_path (aCons (cVar 4) aNil))))
  (sSeq (sIf (tOr (tBl (cOp2 opNe (cOpAn fSortG (aCons (cVar 2) aNil)) (cVar 1))) (tBl (cOp2 opNe (cLc [4] (iE (cVar 2)) (gN 4) tYes (cCall m_unswept_path (aCons (cVar 4) aNil))) (cVar 1)))) (sRet (cC (.bool false))) sPass)
  (sSeq (sAsg 3 (cOpAn fSortG (aCons (cLc [4] (iE (cVar 1)) (gN 4) tYes (cTup (aCons (cCall m_pair_weight (aCons (cVar 4) aNil)) (aCons (cCall m_area_of_path (aCons (cVar 4) aNil)) aNil)))) aNil)))
  (sSeq (sIf (tBl (cOp2 opNe (cVar 3) (cOpAn fSortG (aCons (cLc [4] (iE (cVar 1)) (gN 4) tYes (cTup (aCons (cCall m_area_of_path (aCons (cVar 4) aNil)) (aCons (cCall m_bounce_weight (aCons (cVar 4) aNil)) aNil)))) aNil)))) (sRet (cC (.bool false))) sPass)
  (sRet (cOp2 opEq (cVar 3) (cOpAn fSortG (aCons (cLc [5, 6] (iE (cVar 3)) (gT ((gN 5) :: ((gN 6) :: []))) tYes (cTup (aCons (cVar 6) (aCons (cVar 5) aNil)))) aNil)))))))))
def m__law_all_right : Mir := runDef 1 7 b__law_all_right
/-- _law_high_path: slots 0 cup, 1 size, 2 found, 3 ups, 4 downs, 5 up -/
def b__law_high_path : FS :=
  (sSeq (sTgt (gT ((gN 2) :: ((gN 3) :: ((gN 4) :: [])))) (cTup (aCons (cC (.str (Str.ofString ""))) (aCons (cC (.int 0)) (aCons (cC (.int 0)) aNil)))))
  (sSeq (sWhile (tBl (cOp2 opLt (cVar 4) (cVar 1))) (sSeq (sAsg 5 (cAnd (cOp2 opLt (cVar 3) (cVar 1)) (cOr (cOp2 opEq (cVar 3) (cVar 4)) (cOp2 opGt (cCall m__law_roll (aCons (cVar 0) (aCons (cC (.int 4)) aNil))) (cC (.int 0))))))
  (sParA [2, 3, 4] (aCons (cOp2n opAdd (cVar 2) (cIf (tTru' (cVar 5)) (cC (.str (Str.ofString "u"))) (cC (.str (Str.ofString "r"))))) (aCons (cOp2n opAdd (cVar 3) (cIf (tTru' (cVar 5)) (cC (.int 1)) (cC (.int 0)))) (aCons (cOp2n opAdd (cVar 4) (cIf (tTru' (cVar 5)) (cC (.int 0)) (cC (.int 1)))) aNil))))))
  (sRet (cVar 2))))
def m__law_high_path : Mir := runDef 2 6 b__law_high_path
/-- _law_written_right: slots 0 told -/
def b__law_written_right : FS :=
  (sSeq (sIf (tNot (tTru' (cCall m__law_like (aCons (cLst (aCons (cCall m_unswept_path (aCons (cC (.str (Str.ofString "uruurr"))) aNil)) (aCons (cCall m_swept_path (aCons (cC (.str (Str.ofString "uururr"))) aNil)) aNil))) (aCons (cLst (aCons (cC (.str (Str.ofString "uururr"))) (aCons (cC (.str (Str.ofString "uruurr"))) aNil))) aNil))))) (sRet (cC (.bool false))) sPass)
  (sSeq (sAsg 0 (cLst (aCons (cCall m_swept_path (aCons (cC (.str (Str.ofString "uurrur"))) aNil)) (aCons (cCall m_unswept_path (aCons (cC (.str (Str.ofString "uururr"))) aNil)) (aCons (cCall m_swept_path (aCons (cC (.str (Str.ofString ""))) aNil)) (aCons (cCall m_swept_path (aCons (cC (.str (Str.ofString "ururur"))) aNil)) (aCons (cCall m_unswept_path (aCons (cC (.str (Str.ofString ""))) aNil)) (aCons (cCall m_swept_path (aCons (cC (.str (Str.ofString "uuurrr"))) aNil)) aNil))))))))
  (sRet (cCall m__law_like (aCons (cVar 0) (aCons (cLst (aCons (cC (.str (Str.ofString "uururr"))) (aCons (cC (.str (Str.ofString "uurrur"))) (aCons (cC (.str (Str.ofString ""))) (aCons (cC (.str (Str.ofString "uuurrr"))) (aCons (cC (.str (Str.ofString ""))) (aCons (cC (.str (Str.ofString "ururur"))) aNil))))))) aNil))))))
def m__law_written_right : Mir := runDef 0 1 b__law_written_right
/-- law: slots 0 script, 1 cup, 2 size, 3 path, 4 row, 5 many, 6 high -/
def b_law : FS :=
  (sSeq (sIf (tNot (tTru' (cCall m__law_written_right aNil))) (sRet (cC (.bool false))) sPass)
  (sSeq (sNew 1 (cCall m__law_cup (aCons (cVar 0) aNil)))
  (sSeq (sFor (iE (cTup (aCons (cCall m__law_roll (aCons (cVar 1) (aCons (cC (.int 4)) aNil))) (aCons (cCall m__law_roll (aCons (cVar 1) (aCons (cC (.int 9)) aNil))) (aCons (cCall m__law_roll (aCons (cVar 1) (aCons (cC (.int 20)) aNil))) (aCons (cCall m__law_roll (aCons (cVar 1) (aCons (cC (.int 31)) aNil))) (aCons (cOp2n opAdd (cC (.int 25)) (cCall m__law_roll (aCons (cVar 1) (aCons (cC (.int 6)) aNil)))) aNil))))))) (gN 2) (sIf (tNot (tTru' (cCall m__law_right (aCons (cCall m__law_path (aCons (cVar 1) (aCons (cVar 2) aNil))) aNil)))) (sRet (cC (.bool false))) sPass))
  (sSeq (sIf (tOr (tNot (tTru' (cCall m__law_all_right (aCons (cVar 1) aNil)))) (tNot (tTru' (cCall m__law_right (aCons (cCall m__law_high_path (aCons (cVar 1) (aCons (cOp2n opAdd (cC (.int 20)) (cCall m__law_roll (aCons (cVar 1) (aCons (cC (.int 11)) aNil)))) aNil))) aNil))))) (sRet (cC (.bool false))) sPass)
  (sSeq (sParA [5, 6] (aCons (cOp2n opAdd (cC (.int 1)) (cCall m__law_roll (aCons (cVar 1) (aCons (cC (.int 5)) aNil)))) (aCons (cOp2n opAdd (cC (.int 1)) (cCall m__law_roll (aCons (cVar 1) (aCons (cC (.int 6)) aNil)))) aNil)))
  (sSeq (sAsg 3 (cOp2n opMul (cOp2n opAdd (cOp2n opMul (cC (.str (Str.ofString "u"))) (cVar 6)) (cOp2n opMul (cC (.str (Str.ofString "r"))) (cVar 6))) (cVar 5)))
  (sSeq (sIf (tNot (tTru' (cCall m__law_right (aCons (cVar 3) aNil)))) (sRet (cC (.bool false))) sPass)
  (sSeq (sAsg 4 (cOpA fTuple (aCons (cOp2n opMul (cLstRg1 (cVar 6)) (cVar 5)) aNil)))
  (sRet (cCall m__law_like (aCons (cLst (aCons (cCall m_area_row (aCons (cVar 3) aNil)) (aCons (cCall m_path_with_row (aCons (cVar 4) aNil)) (aCons (cCall m_bounces_of (aCons (cVar 3) aNil)) aNil)))) (aCons (cLst (aCons (cVar 4) (aCons (cVar 3) (aCons (cTupRg3 (aCons (cC (.int 0)) (aCons (cOp2n opAdd (cOp2n opMul (cVar 6) (cVar 5)) (cC (.int 1))) (aCons (cVar 6) aNil)))) aNil)))) aNil))))))))))))
def m_law : Mir := runDef 1 7 b_law
end PL

namespace PL
open PySem PySem.Spec PyProof.Rows L2
def bc (b : Bool) : Nat := if b = true then 117 else 114
def pS (l : List Bool) : Str := ⟨(l.map bc).toArray⟩
def sgn (b : Bool) : D := .str ⟨#[bc b]⟩
theorem s_u : (Str.ofString "u" : Str) = ⟨#[117]⟩ := by decide +kernel
theorem s_r : (Str.ofString "r" : Str) = ⟨#[114]⟩ := by decide +kernel
theorem s_ur : (Str.ofString "ur" : Str) = ⟨#[117, 114]⟩ := by decide +kernel
theorem s_e : (Str.ofString "" : Str) = ⟨#[]⟩ := by decide +kernel
theorem pS_list (l : List Bool) : (pS l).cps.toList = l.map bc := by simp [pS]
theorem pS_len (l : List Bool) : (pS l).length = l.length := by simp [pS, Str.length]
theorem str_ext {x y : Str} (h : x.cps.toList = y.cps.toList) : x = y := by
  obtain ⟨a⟩ := x
  obtain ⟨b⟩ := y
  have : a = b := Array.toList_inj.mp h
  rw [this]
theorem bc_inj {a b : Bool} (h : bc a = bc b) : a = b := by cases a <;> cases b <;> first | rfl | (exact absurd h (by decide))
theorem map_bc_inj : ∀ {l m : List Bool}, l.map bc = m.map bc → l = m
  | [], [], _ => rfl
  | [], _ :: _, h => by cases h
  | _ :: _, [], h => by cases h
  | a :: l, b :: m, h => by
    simp only [List.map_cons, List.cons.injEq] at h
    rw [bc_inj h.1, map_bc_inj h.2]
theorem pS_inj {l m : List Bool} (h : pS l = pS m) : l = m := by
  have := congrArg (fun s : Str => s.cps.toList) h
  simp only [pS_list] at this
  exact map_bc_inj this
theorem pS_app (l m : List Bool) : pS l ++ pS m = pS (l ++ m) := by
  refine str_ext ?_
  show (pS l ++ pS m).cps.toList = _
  have e : (pS l ++ pS m).cps = (pS l).cps ++ (pS m).cps := rfl
  rw [e, Array.toList_append, pS_list, pS_list, pS_list, List.map_append]
theorem pS_nil : pS [] = ⟨#[]⟩ := rfl
theorem pS_one (b : Bool) : pS [b] = ⟨#[bc b]⟩ := rfl
theorem pS_u : pS [true] = ⟨#[117]⟩ := rfl
theorem pS_r : pS [false] = ⟨#[114]⟩ := rfl
theorem sgns_pS (l : List Bool) : ((pS l).cps.toList.map fun c => (.str ⟨#[c]⟩ : D)) = l.map sgn := by
  rw [pS_list, List.map_map]
  rfl
theorem items_pS (l : List Bool) : itemsOf (.str (pS l)) = some (l.map sgn) := by
  show some _ = _
  rw [sgns_pS]
theorem cut_pS (l : List Bool) (lo hi : Option Int) : cutS (pS l) lo hi = pS ((l.drop (HT.sIx l.length 0 lo)).take (HT.sIx l.length l.length hi - HT.sIx l.length 0 lo)) := by
  refine str_ext ?_
  unfold cutS
  rw [pS_len, pS_list, pS_list, List.toList_toArray, List.map_take, List.map_drop]
theorem rev_pS (l : List Bool) : revS (pS l) = pS l.reverse := by
  refine str_ext ?_
  unfold revS
  rw [List.toList_toArray, pS_list, pS_list, List.map_reverse]
theorem eqv_sgn (a b : Bool) : PyData.eqv (sgn a) (sgn b) = (a == b) := by
  cases a <;> cases b <;> decide +kernel
theorem depth_sgn (b : Bool) : (sgn b).depth = 0 := by cases b <;> decide +kernel
theorem eq_sgn_u (b : Bool) : opEq (sgn b) (.str ⟨#[117]⟩) = some (.bool b) := by
  cases b <;> kernel_rfl
theorem eq_sgn_r (b : Bool) : opEq (sgn b) (.str ⟨#[114]⟩) = some (.bool (!b)) := by
  cases b <;> kernel_rfl
theorem cnt_map (c : Bool) : ∀ l : List Bool, PyProof.Rows.cnt (bc c) (l.map bc) = (l.count c : Nat)
  | [] => rfl
  | a :: l => by
    rw [List.map_cons, PyProof.Rows.cnt_cons, cnt_map c l, List.count_cons]
    by_cases h : a = c
    · subst h; simp; omega
    · have h1 : ¬ bc a = bc c := fun e => h (bc_inj e)
      have h2 : (a == c) = false := by simpa using h
      simp [h1, h2]
theorem count_pS (c : Bool) (l : List Bool) : Txt.count (pS l) ⟨#[bc c]⟩ = (l.count c : Nat) := by
  have h := PyProof.Rows.count_is (pS l) (bc c)
  rw [h]
  have e := cnt_map c l
  rw [← pS_list] at e
  exact e
/-- how often up stands just ahead of right -/
def adj : List Bool → Nat
  | true :: false :: l => adj (false :: l) + 1
  | _ :: l => adj l
  | [] => 0
def adjN : List Nat → Nat
  | a :: b :: l => adjN (b :: l) + (if a = 117 ∧ b = 114 then 1 else 0)
  | _ => 0
theorem adjN_map : ∀ l : List Bool, adjN (l.map bc) = adj l
  | [] => rfl
  | [a] => by cases a <;> rfl
  | a :: b :: l => by
    have ih := adjN_map (b :: l)
    show adjN ((b :: l).map bc) + _ = _
    rw [ih]
    cases a <;> cases b <;> simp [adj, bc]
theorem at_ur (x : Str) (i : Nat) : StrLaws.At x ⟨#[117, 114]⟩ x.length i ↔ (x.cps.toList[i]? = some 117 ∧ x.cps.toList[i + 1]? = some 114) := by
  unfold StrLaws.At
  rw [StrLaws.subAt_eq]
  have hl : (⟨#[117, 114]⟩ : Str).length = 2 := rfl
  rw [hl]
  have hx : x.length = x.cps.toList.length := by simp [Str.length]
  rw [hx]
  generalize x.cps.toList = l
  constructor
  · rintro ⟨h1, h2⟩
    have h3 : (l.drop i).take 2 = [117, 114] := eq_of_beq h2
    have e0 : ((l.drop i).take 2)[0]? = some 117 := by rw [h3]; rfl
    have e1 : ((l.drop i).take 2)[1]? = some 114 := by rw [h3]; rfl
    rw [List.getElem?_take, if_pos (by omega), List.getElem?_drop] at e0 e1
    exact ⟨e0, e1⟩
  · rintro ⟨h1, h2⟩
    have hlt := (List.getElem?_eq_some_iff.mp h2).1
    refine ⟨by omega, ?_⟩
    have : (l.drop i).take 2 = [117, 114] := by
      have d1 : l.drop i = 117 :: l.drop (i + 1) := by
        rw [List.drop_eq_getElem_cons (by omega)]
        congr 1
        exact (List.getElem?_eq_some_iff.mp h1).2
      have d2 : l.drop (i + 1) = 114 :: l.drop (i + 1 + 1) := by
        rw [List.drop_eq_getElem_cons (by omega)]
        congr 1
        exact (List.getElem?_eq_some_iff.mp h2).2
      rw [d1, d2]; rfl
    rw [this]; rfl
theorem adjN_skip : ∀ (l : List Nat), ¬ (l[0]? = some 117 ∧ l[1]? = some 114) → adjN l = adjN (l.drop 1)
  | [], _ => rfl
  | [a], _ => rfl
  | a :: b :: l, h => by
    have h' : ¬ (a = 117 ∧ b = 114) := fun q => h (by simp [q.1, q.2])
    show adjN (b :: l) + _ = adjN (b :: l)
    rw [if_neg h']; rfl
theorem adjN_gap (l : List Nat) : ∀ (k a : Nat), (∀ j, a ≤ j → j < a + k → ¬ (l[j]? = some 117 ∧ l[j + 1]? = some 114)) → adjN (l.drop a) = adjN (l.drop (a + k))
  | 0, a, _ => rfl
  | k + 1, a, h => by
    have h0 := h a (Nat.le_refl _) (by omega)
    rw [adjN_skip (l.drop a) (by rw [List.getElem?_drop, List.getElem?_drop]; exact h0), List.drop_drop, adjN_gap l k (a + 1) fun j h1 h2 => h j (by omega) (by omega)]
    congr 2
    omega
theorem chain_adj (x : Str) : ∀ (cuts : List Nat) (a f : Nat), StrLaws.ChainG x ⟨#[117, 114]⟩ x.length a cuts f → (∀ k, f ≤ k → ¬ StrLaws.At x ⟨#[117, 114]⟩ x.length k) → adjN (x.cps.toList.drop a) = cuts.length
  | [], a, f, h, hn => by
    have e : f = a := h
    subst e
    have g := adjN_gap x.cps.toList (x.cps.toList.length) f fun j h1 _ q => hn j h1 ((at_ur x j).mpr q)
    rw [g, List.drop_eq_nil_of_le (by omega)]; rfl
  | d :: r, a, f, h, hn => by
    obtain ⟨had, hAt, hgap, hrest⟩ := h
    have ih := chain_adj x r _ f hrest hn
    obtain ⟨h1, h2⟩ := (at_ur x d).mp hAt
    have g := adjN_gap x.cps.toList (d - a) a fun j q1 q2 q => hgap j q1 (by omega) ((at_ur x j).mpr q)
    have e0 : a + (d - a) = d := by omega
    rw [e0] at g
    have hlt := (List.getElem?_eq_some_iff.mp h2).1
    have d1 : x.cps.toList.drop d = 117 :: x.cps.toList.drop (d + 1) := by
      rw [List.drop_eq_getElem_cons (by omega)]
      congr 1
      exact (List.getElem?_eq_some_iff.mp h1).2
    have d2 : x.cps.toList.drop (d + 1) = 114 :: x.cps.toList.drop (d + 1 + 1) := by
      rw [List.drop_eq_getElem_cons (by omega)]
      congr 1
      exact (List.getElem?_eq_some_iff.mp h2).2
    have s1 : adjN (x.cps.toList.drop (d + 1)) = adjN (x.cps.toList.drop (d + 2)) := by
      rw [adjN_skip _ (by rw [d2]; simp), List.drop_drop]
    have hw : d + (⟨#[117, 114]⟩ : Str).length = d + 2 := rfl
    rw [hw] at ih
    rw [g, d1, d2]
    show adjN (114 :: x.cps.toList.drop (d + 1 + 1)) + _ = _
    rw [← d2, s1, ih]
    simp
theorem count_ur (l : List Bool) : Txt.count (pS l) ⟨#[117, 114]⟩ = (adj l : Nat) := by
  obtain ⟨f, hG, hn⟩ := StrLaws.occ_tight (pS l) ⟨#[117, 114]⟩ (by decide)
  have := chain_adj (pS l) _ 0 f hG hn
  rw [List.drop_zero, pS_list, adjN_map] at this
  unfold Txt.count
  rw [← this]

theorem e_is_integer (d : D) : m_is_integer [.v d] = some (.pu (.bool (isiD "int" d && !isiD "bool" d)), []) := by
  simp [m_is_integer, runDef, b_is_integer, sRet, cAnd, cOpn, opIsi, cVar, arS, cNotB, outsOf, retV]
  cases isiD "int" d <;> cases isiD "bool" d <;> simp [outsOf, retV]
def wholeB (lo hi : Int) : D → Bool
  | .int i => decide (lo ≤ i) && decide (i ≤ hi)
  | _ => false
theorem e_is_whole (d : D) (lo hi : Int) : m_is_whole [.v d, .v (.int lo), .v (.int hi)] = some (.pu (.bool (wholeB lo hi d)), []) := by
  cases d <;> simp [m_is_whole, runDef, b_is_whole, sRet, cAnd, cCall, aCons, toArs, toAr, slotsOf, wb, e_is_integer, cVar, arS, outsOf, retV, isiD, tyName, cChain, opLe, onInts, wholeB]
  split <;> simp_all [outsOf, retV]
  omega
theorem e_is_tuple_of (ds : List D) (lo hi : Int) : m_is_tuple_of [.v (.tuple ds), .v (.int lo), .v (.int hi)] = some (.pu (.bool (decide (lo ≤ ds.length) && decide ((ds.length : Int) ≤ hi))), []) := by
  simp [m_is_tuple_of, runDef, b_is_tuple_of, sRet, cAnd, aCons, cVar, arS, outsOf, retV, cChain, opLe, onInts, cOpn, opIsi, isiD, tyName, cOpA, conts, fLen, on1]
  split <;> simp_all [outsOf, retV]
  omega
/-- each at least the next -/
def fallI : List Int → Bool
  | a :: b :: l => decide (b ≤ a) && fallI (b :: l)
  | _ => true
theorem boolsOf_maps {α : Type} (f : α → Bool) : ∀ l : List α, boolsOf (l.map fun x => .bool (f x)) = some (l.map f)
  | [] => rfl
  | a :: l => by
    show (boolsOf (l.map fun x => .bool (f x))).bind _ = _
    rw [boolsOf_maps f l]; rfl
theorem intsOf_maps {α : Type} (f : α → Int) : ∀ l : List α, intsOf (l.map fun x => .int (f x)) = some (l.map f)
  | [] => rfl
  | a :: l => by
    show (intsOf (l.map fun x => .int (f x))).bind _ = _
    rw [intsOf_maps f l]; rfl
theorem sIx_one (n : Nat) : HT.sIx n 0 (some 1) = min 1 n := HT.sIx_nat n 0 1
theorem cut_tail (ds : List D) : cutD ds (some 1) none = ds.drop 1 := by
  unfold cutD
  rw [sIx_one, HT.sIx_none]
  cases ds with
  | nil => rfl
  | cons a l =>
    have : min 1 (a :: l).length = 1 := by simp
    rw [this]
    simp
theorem filter_yes {α : Type} (l : List α) : l.filter (fun _ => true) = l := by simp
theorem zip_fall : ∀ ns : List Int, ((ns.zip (ns.drop 1)).map fun p => decide (p.2 ≤ p.1)).all id = fallI ns
  | [] => rfl
  | [a] => rfl
  | a :: b :: l => by
    have ih := zip_fall (b :: l)
    simp only [List.drop_succ_cons, List.drop_zero, List.zip_cons_cons, List.map_cons, List.all_cons, id, fallI] at ih ⊢
    rw [← ih]
theorem zipD_ints (ns ms : List Int) : zipD (ns.map .int) (ms.map .int) = (ns.zip ms).map fun p => .tuple [.int p.1, .int p.2] := by
  unfold zipD
  rw [List.zip_map, List.map_map]
  rfl
/-- a sign is u or r -/
def urB (c : Nat) : Bool := c == 117 || c == 114
theorem in_ur (c : Nat) : opIn (.str ⟨#[c]⟩) (.str ⟨#[117, 114]⟩) = some (.bool (urB c)) := by
  simp [opIn, opIn0, urB]
  by_cases h1 : c = 117 <;> by_cases h2 : c = 114 <;> simp [h1, h2]
theorem line_le {n : Nat} (h : n ≤ 1000000) : n ≤ lineN := by
  have : lineN = 16777216 := rfl
  omega
def wordB (z : Str) : Bool := decide ((z.length : Int) ≤ 60) && z.cps.toList.all urB
def hUr : D → D
  | .str s => .bool (urB (s.cps.toList.headD 0))
  | _ => .none
theorem e_is_word (z : Str) (hz : z.length ≤ 1000) : m_is_word [.v (.str z), .v (.str ⟨#[117, 114]⟩), .v (.int 0), .v (.int 60)] = some (.pu (.bool (wordB z)), []) := by
  have h := cLc_eq (vs := [4]) (it := iE (cVar 0)) (g := gN 4) (t := tYes) (f := cOp2 opIn (cVar 4) (cVar 1))
    (ρ := [.pu (.str z), .pu (.str ⟨#[117, 114]⟩), .pu (.int 0), .pu (.int 60), .non]) (ds := z.cps.toList.map fun c => .str ⟨#[c]⟩)
    (fun x => [.pu (.str z), .pu (.str ⟨#[117, 114]⟩), .pu (.int 0), .pu (.int 60), .pu x]) (fun _ => true) hUr
    (by simp [iE, cVar, itemsOf]) rfl (fun x hx => by
      obtain ⟨c, _, rfl⟩ := List.mem_map.mp hx
      simp [gN, setS, wipeR, cOp2, cVar, in_ur, hUr]) (line_le (by simp; have : z.cps.size = z.length := rfl; omega))
  have hm : (z.cps.toList.map fun c => PyData.str ⟨#[c]⟩).map hUr = z.cps.toList.map fun c => PyData.bool (urB c) := by
    rw [List.map_map]
    refine List.map_congr_left fun c _ => ?_
    simp [hUr]
  rw [filter_yes, hm] at h
  have hz' : z.length ≤ lineN := line_le (by omega)
  simp [m_is_word, runDef, b_is_word, sRet, cAnd, cOpA, aCons, arS, List.replicate, h, conts, fAll, on1, boolsOf_maps, cOpn, opIsi, isiD, tyName, cVar, cChain, opLe, onInts, fLen, hz', wordB]
  have h0 : (0 : Int) ≤ z.length := by omega
  by_cases hl : z.length ≤ 60
  · have : (z.length : Int) ≤ 60 := by omega
    simp [this, outsOf, retV]
  · have : ¬ (z.length : Int) ≤ 60 := by omega
    simp [this, outsOf, retV]
theorem e_is_word_no (d : D) (h : isiD "str" d = false) : m_is_word [.v d, .v (.str ⟨#[117, 114]⟩), .v (.int 0), .v (.int 60)] = some (.pu (.bool false), []) := by
  simp [m_is_word, runDef, b_is_word, sRet, cAnd, arS, List.replicate, cOpn, opIsi, h, cVar, outsOf, retV]
def heightsB (least : Int) (ns : List Int) : Bool := (decide (ns.length ≤ 300) && ns.all fun n => decide (least ≤ n) && decide (n ≤ 300)) && decide (ns.sum ≤ 300)
def maxZ (ns : List Int) : Int := ns.foldl max 0
def turnI (ns : List Int) : List Int := (List.range (maxZ ns).toNat).map fun (c : Nat) => ((ns.countP fun n => decide ((c : Int) < n) : Nat) : Int)
theorem intsD_zero (n : Nat) : intsD 0 n = (List.range n).map fun k => .int (k : Nat) := by
  unfold intsD
  simp
def gtB (c : Int) : D → Bool
  | .int n => decide (c < n)
  | _ => false
def cntD (ns : List Int) : D → D
  | .int c => .int ((ns.countP fun n => decide (c < n) : Nat) : Int)
  | _ => .none
theorem turn_inner (ns : List Int) (hz : ns.length ≤ 1000) (c : Int) (r2 : Sl) (hr : plainS (some r2) = true) : cLc [2] (iE (cVar 0)) (gN 2) (tBl (cOp2 opGt (cVar 2) (cVar 1))) (cVar 2) [.pu (.tuple (ns.map .int)), .pu (.int c), r2] =
    some (.nw (.list ((ns.filter fun n => decide (c < n)).map .int)), [.pu (.tuple (ns.map .int)), .pu (.int c), r2]) := by
  have h := cLc_eq (vs := [2]) (it := iE (cVar 0)) (g := gN 2) (t := tBl (cOp2 opGt (cVar 2) (cVar 1))) (f := cVar 2)
    (ρ := [.pu (.tuple (ns.map .int)), .pu (.int c), r2]) (ds := ns.map .int)
    (fun x => [.pu (.tuple (ns.map .int)), .pu (.int c), .pu x]) (gtB c) (fun x => x)
    (by simp [iE, cVar, itemsOf]) (by simp [okW, hr]) (fun x hx => by
      obtain ⟨n, _, rfl⟩ := List.mem_map.mp hx
      simp [gN, setS, wipeR, tBl, cOp2, cVar, opGt, onInts, gtB]) (line_le (by simp; omega))
  rw [List.filter_map, List.map_map] at h
  exact h
def laidI (ns : List Int) : List Int := srtDn (ns.filter fun n => decide (0 < n))
theorem eq_code (c k : Nat) : opEq (.str ⟨#[c]⟩) (.str ⟨#[k]⟩) = some (.bool (c == k)) := by
  have h : ((⟨#[c]⟩ : Str) == ⟨#[k]⟩) = (c == k) := by
    rw [Bool.eq_iff_iff]
    simp
  simp [opEq, PyData.depth, PyData.eqv, h]
theorem opEq_int (i j : Int) : opEq (.int i) (.int j) = some (.bool (i == j)) := by
  simp [opEq, PyData.depth, PyData.eqv]
def okN : Int → List Nat → Option Int
  | a, [] => some a
  | a, c :: l => if a + (if c == 117 then 1 else -1) < 0 then none else okN (a + (if c == 117 then 1 else -1)) l
def bdFits : FS := (sSeq (sAsg 1 (cOp2n opAdd (cVar 1) (cIf (tBl (cOp2 opEq (cVar 2) (cC (.str (Str.ofString "u"))))) (cC (.int 1)) (cOp opNeg (cC (.int 1))))))
  (sIf (tBl (cOp2 opLt (cVar 1) (cC (.int 0)))) (sRet (cC (.bool false))) sPass))
theorem fits_go (z : D) : ∀ (l : List Nat) (a : Int) (s : Sl), plainS (some s) = true → (match okN a l with
    | some e => ∃ s', forGo (gN 2) bdFits (l.map fun c => .str ⟨#[c]⟩) [.pu z, .pu (.int a), s] = some (.nx [.pu z, .pu (.int e), s'])
    | none => ∃ s1 s2, forGo (gN 2) bdFits (l.map fun c => .str ⟨#[c]⟩) [.pu z, .pu (.int a), s] = some (.rt (.pu (.bool false)) [.pu z, s1, s2]))
  | [], a, s, _ => ⟨s, rfl⟩
  | c :: l, a, s, hs => by
    have step : (gN 2 (.str ⟨#[c]⟩) [.pu z, .pu (.int a), s]) = some [.pu z, .pu (.int a), .pu (.str ⟨#[c]⟩)] := by
      cases s <;> simp [plainS] at hs <;> simp [gN, setS]
    have body : bdFits [.pu z, .pu (.int a), .pu (.str ⟨#[c]⟩)] = if a + (if c == 117 then 1 else -1) < 0 then some (.rt (.pu (.bool false)) [.pu z, .pu (.int (a + (if c == 117 then 1 else -1))), .pu (.str ⟨#[c]⟩)])
        else some (.nx [.pu z, .pu (.int (a + (if c == 117 then 1 else -1))), .pu (.str ⟨#[c]⟩)]) := by
      by_cases hc : c = 117
      · subst hc
        simp [bdFits, sSeq, sAsg, cOp2n, cVar, cIf, tBl, cOp2, s_u, eq_code, opAdd, setS, sIf, opLt, onInts, sRet]
      · simp [bdFits, sSeq, sAsg, cOp2n, cVar, cIf, tBl, cOp2, s_u, eq_code, opAdd, setS, sIf, opLt, onInts, sRet, hc, cOp, opNeg]
    unfold okN
    by_cases h : a + (if c == 117 then 1 else -1) < 0
    · rw [if_pos h]
      refine ⟨.pu (.int (a + (if c == 117 then 1 else -1))), .pu (.str ⟨#[c]⟩), ?_⟩
      rw [List.map_cons, forGo, step, Option.bind_some, body, if_pos h]
      rfl
    · rw [if_neg h]
      have ih := fits_go z l (a + (if c == 117 then 1 else -1)) (.pu (.str ⟨#[c]⟩)) rfl
      have e : forGo (gN 2) bdFits ((c :: l).map fun c => .str ⟨#[c]⟩) [.pu z, .pu (.int a), s] = forGo (gN 2) bdFits (l.map fun c => .str ⟨#[c]⟩) [.pu z, .pu (.int (a + (if c == 117 then 1 else -1))), .pu (.str ⟨#[c]⟩)] := by
        rw [List.map_cons, forGo, step, Option.bind_some, body, if_neg h]
        rfl
      revert ih
      rw [e]
      exact id
def fitsS (z : Str) : Bool := wordB z && (okN 0 z.cps.toList == some 0)
theorem e_fits_path (z : Str) (hz : z.length ≤ 1000) : m_fits_path [.v (.str z)] = some (.pu (.bool (fitsS z)), []) := by
  have h60 : opMul (.int 2) (.int 30) = some (.int 60) := by kernel_rfl
  by_cases hw : wordB z = true
  · have g := fits_go (.str z) z.cps.toList 0 .non rfl
    have e0 : b_fits_path [.pu (.str z), .non, .non] = ((forGo (gN 2) bdFits (z.cps.toList.map fun c => .str ⟨#[c]⟩) [.pu (.str z), .pu (.int 0), .non]).bind fun o => match o with
      | .nx ρ' => sRet (cOp2 opEq (cVar 1) (cC (.int 0))) ρ'
      | o => some o) := by
      simp [b_fits_path, sSeq, sIf, tNot, tTru', cCall, aCons, toArs, toAr, slotsOf, wb, cOp2n, h60, s_ur, e_is_word z hz, hw, truD, cVar, sAsg, setS, sFor, iE, itemsOf]
      rfl
    cases ho : okN 0 z.cps.toList with
    | some e =>
      rw [ho] at g
      obtain ⟨s', g⟩ := g
      simp [m_fits_path, runDef, arS, List.replicate, e0, g, sRet, cOp2, cVar, opEq_int, outsOf, retV, fitsS, hw, ho]
    | none =>
      rw [ho] at g
      obtain ⟨s1, s2, g⟩ := g
      simp [m_fits_path, runDef, arS, List.replicate, e0, g, outsOf, retV, fitsS, hw, ho]
  · have hw' : wordB z = false := by simpa using hw
    simp [m_fits_path, runDef, arS, List.replicate, b_fits_path, sSeq, sIf, tNot, tTru', cCall, aCons, toArs, toAr, slotsOf, wb, cOp2n, h60, s_ur, e_is_word z hz, hw', truD, cVar, sRet, outsOf, retV, fitsS]
theorem e_fits_path_no (d : D) (h : isiD "str" d = false) : m_fits_path [.v d] = some (.pu (.bool false), []) := by
  have h60 : opMul (.int 2) (.int 30) = some (.int 60) := by kernel_rfl
  simp [m_fits_path, runDef, arS, List.replicate, b_fits_path, sSeq, sIf, tNot, tTru', cCall, aCons, toArs, toAr, slotsOf, wb, cOp2n, h60, s_ur, e_is_word_no d h, truD, cVar, sRet, outsOf, retV]
theorem e_need_path (z : Str) (hz : z.length ≤ 1000) (h : fitsS z = true) : m_need_path [.v (.str z)] = some (.pu .none, []) := by
  simp [m_need_path, runDef, b_need_path, sIf, tNot, tTru', cCall, aCons, toArs, toAr, slotsOf, wb, cVar, arS, e_fits_path z hz, h, truD, outsOf]
def rowB : Int → List Bool → List Int
  | _, [] => []
  | a, true :: l => a :: rowB (a + 1) l
  | a, false :: l => rowB (a - 1) l
def hgtB : Int → List Bool → List Int
  | _, [] => []
  | k, true :: l => hgtB (k + 1) l
  | k, false :: l => k :: hgtB k l
def bdRow : FS := (sSeq (sIf (tBl (cOp2 opEq (cVar 1) (cC (.str (Str.ofString "u"))))) (sApp 2 (cVar 3)) sPass)
  (sAsg 3 (cOp2n opAdd (cVar 3) (cIf (tBl (cOp2 opEq (cVar 1) (cC (.str (Str.ofString "u"))))) (cC (.int 1)) (cOp opNeg (cC (.int 1)))))))
theorem row_go (z : D) : ∀ (l : List Bool) (a : Int) (f : List Int) (s : Sl), plainS (some s) = true → f.length + l.length ≤ 1000 →
    ∃ s' a', forGo (gN 1) bdRow (l.map sgn) [.pu z, s, .own (.list (f.map .int)), .pu (.int a)] = some (.nx [.pu z, s', .own (.list ((f ++ rowB a l).map .int)), .pu (.int a')])
  | [], a, f, s, _, _ => ⟨s, a, by simp [rowB]; rfl⟩
  | b :: l, a, f, s, hs, hz => by
    have step : (gN 1 (sgn b) [.pu z, s, .own (.list (f.map .int)), .pu (.int a)]) = some [.pu z, .pu (sgn b), .own (.list (f.map .int)), .pu (.int a)] := by
      cases s <;> simp [plainS] at hs <;> simp [gN, setS]
    have hl : f.length < lineN := Nat.lt_of_lt_of_le (by simp at hz; omega : f.length < 1001) (line_le (by omega))
    cases b with
    | true =>
      obtain ⟨s', a', ih⟩ := row_go z l (a + 1) (f ++ [a]) (.pu (sgn true)) rfl (by simp at hz ⊢; omega)
      refine ⟨s', a', ?_⟩
      have body : bdRow [.pu z, .pu (sgn true), .own (.list (f.map .int)), .pu (.int a)] = some (.nx [.pu z, .pu (sgn true), .own (.list ((f ++ [a]).map .int)), .pu (.int (a + 1))]) := by
        simp [bdRow, sSeq, sIf, tBl, cOp2, cVar, s_u, eq_sgn_u, sApp, cont, hl, putS, sAsg, cOp2n, cIf, opAdd, setS]
      rw [List.map_cons, forGo, step, Option.bind_some, body]
      show forGo _ _ _ _ = _
      rw [ih]
      simp [rowB]
    | false =>
      obtain ⟨s', a', ih⟩ := row_go z l (a - 1) f (.pu (sgn false)) rfl (by simp at hz ⊢; omega)
      refine ⟨s', a', ?_⟩
      have body : bdRow [.pu z, .pu (sgn false), .own (.list (f.map .int)), .pu (.int a)] = some (.nx [.pu z, .pu (sgn false), .own (.list (f.map .int)), .pu (.int (a - 1))]) := by
        simp [bdRow, sSeq, sIf, tBl, cOp2, cVar, s_u, eq_sgn_u, sAsg, cOp2n, cIf, opAdd, setS, cOp, opNeg]
        omega
      rw [List.map_cons, forGo, step, Option.bind_some, body]
      show forGo _ _ _ _ = _
      rw [ih]
      simp [rowB]
theorem e_row_in (l : List Bool) (hz : l.length ≤ 1000) : m_row_in [.v (.str (pS l))] = some (.nw (.list ((rowB 0 l).map .int)), []) := by
  obtain ⟨s', a', g⟩ := row_go (.str (pS l)) l 0 [] .non rfl (by simpa using hz)
  have h0 : (0 : Nat) ≤ lineN := Nat.zero_le _
  have e0 : b_row_in [.pu (.str (pS l)), .non, .non, .non] = ((forGo (gN 1) bdRow (l.map sgn) [.pu (.str (pS l)), .non, .own (.list []), .pu (.int 0)]).bind fun o => match o with
      | .nx ρ' => sRet (cVar 2) ρ'
      | o => some o) := by
    simp [b_row_in, sSeq, sPar2, cLst, pures, kp, setV, setS, sFor, iE, cVar, items_pS]
    rfl
  simp at g
  simp [m_row_in, runDef, arS, List.replicate, e0, g, sRet, cVar, outsOf, retV]
def bdHgt : FS := (sIf (tBl (cOp2 opEq (cVar 1) (cC (.str (Str.ofString "u"))))) (sAsg 3 (cOp2n opAdd (cVar 3) (cC (.int 1)))) (sApp 2 (cVar 3)))
theorem hgt_go (z : D) : ∀ (l : List Bool) (a : Int) (f : List Int) (s : Sl), plainS (some s) = true → f.length + l.length ≤ 1000 →
    ∃ s' a', forGo (gN 1) bdHgt (l.map sgn) [.pu z, s, .own (.list (f.map .int)), .pu (.int a)] = some (.nx [.pu z, s', .own (.list ((f ++ hgtB a l).map .int)), .pu (.int a')])
  | [], a, f, s, _, _ => ⟨s, a, by simp [hgtB]; rfl⟩
  | b :: l, a, f, s, hs, hz => by
    have step : (gN 1 (sgn b) [.pu z, s, .own (.list (f.map .int)), .pu (.int a)]) = some [.pu z, .pu (sgn b), .own (.list (f.map .int)), .pu (.int a)] := by
      cases s <;> simp [plainS] at hs <;> simp [gN, setS]
    have hl : f.length < lineN := Nat.lt_of_lt_of_le (by simp at hz; omega : f.length < 1001) (line_le (by omega))
    cases b with
    | true =>
      obtain ⟨s', a', ih⟩ := hgt_go z l (a + 1) f (.pu (sgn true)) rfl (by simp at hz ⊢; omega)
      refine ⟨s', a', ?_⟩
      have body : bdHgt [.pu z, .pu (sgn true), .own (.list (f.map .int)), .pu (.int a)] = some (.nx [.pu z, .pu (sgn true), .own (.list (f.map .int)), .pu (.int (a + 1))]) := by
        simp [bdHgt, sSeq, sIf, tBl, cOp2, cVar, s_u, eq_sgn_u, sAsg, cOp2n, opAdd, setS]
      rw [List.map_cons, forGo, step, Option.bind_some, body]
      show forGo _ _ _ _ = _
      rw [ih]
      simp [hgtB]
    | false =>
      obtain ⟨s', a', ih⟩ := hgt_go z l a (f ++ [a]) (.pu (sgn false)) rfl (by simp at hz ⊢; omega)
      refine ⟨s', a', ?_⟩
      have body : bdHgt [.pu z, .pu (sgn false), .own (.list (f.map .int)), .pu (.int a)] = some (.nx [.pu z, .pu (sgn false), .own (.list ((f ++ [a]).map .int)), .pu (.int a)]) := by
        simp [bdHgt, sSeq, sIf, tBl, cOp2, cVar, s_u, eq_sgn_u, sApp, cont, hl, putS]
      rw [List.map_cons, forGo, step, Option.bind_some, body]
      show forGo _ _ _ _ = _
      rw [ih]
      simp [hgtB]
theorem e_heights_in (l : List Bool) (hz : l.length ≤ 1000) : m_heights_in [.v (.str (pS l))] = some (.nw (.list ((hgtB 0 l).map .int)), []) := by
  obtain ⟨s', a', g⟩ := hgt_go (.str (pS l)) l 0 [] .non rfl (by simpa using hz)
  have e0 : b_heights_in [.pu (.str (pS l)), .non, .non, .non] = ((forGo (gN 1) bdHgt (l.map sgn) [.pu (.str (pS l)), .non, .own (.list []), .pu (.int 0)]).bind fun o => match o with
      | .nx ρ' => sRet (cVar 2) ρ'
      | o => some o) := by
    simp [b_heights_in, sSeq, sPar2, cLst, pures, kp, setV, setS, sFor, iE, cVar, items_pS]
    rfl
  simp at g
  simp [m_heights_in, runDef, arS, List.replicate, e0, g, sRet, cVar, outsOf, retV]

/-- the path of a row: (found, ahead) on -/
def pathI : Int → List Int → List Bool
  | a, [] => List.replicate a.toNat false
  | a, o :: l => List.replicate (a - o).toNat false ++ true :: pathI (o + 1) l
theorem mul_r (n : Int) (h : -1000 ≤ n) (h2 : n ≤ 1000) : opMul (.str ⟨#[114]⟩) (.int n) = some (.str (pS (List.replicate n.toNat false))) := by
  have e : Txt.mul ⟨#[114]⟩ n = pS (List.replicate n.toNat false) := by
    refine str_ext ?_
    rw [pS_list]
    unfold Txt.mul
    by_cases h1 : n < 1
    · rw [if_pos h1]
      have : n.toNat = 0 := by omega
      rw [this]; rfl
    · rw [if_neg h1]
      split
      · rename_i hc
        have hc' : n = 1 := by
          simp [Str.length] at hc
          exact hc
        subst hc'
        rfl
      · have key : ∀ (m : Nat) (acc : Array Nat), ((List.replicate m (⟨#[114]⟩ : Str).cps).foldl (fun x1 x2 => x1 ++ x2) acc).toList = acc.toList ++ List.replicate m 114 := by
          intro m
          induction m with
          | zero => intro acc; simp
          | succ m ih =>
            intro acc
            rw [List.replicate_succ, List.foldl_cons, ih, List.replicate_succ]
            simp
        rw [key]
        simp [bc]
  have h3 : n.toNat ≤ 16777216 := by omega
  have hl : (⟨#[114]⟩ : Str).length = 1 := rfl
  simp [opMul, hl, h3, e]
  omega
theorem str_len_app (x y : Str) : (x ++ y).length = x.length + y.length := by
  have e : (x ++ y).cps = x.cps ++ y.cps := rfl
  simp [Str.length, e]
theorem add_pS (l m : List Bool) (h : l.length + m.length ≤ 100000) : opAdd (.str (pS l)) (.str (pS m)) = some (.str (pS (l ++ m))) := by
  have h' : l.length + m.length ≤ lineN := line_le (by omega)
  simp [opAdd, pS_len, h', pS_app]
/-- a row that a path may have: it rises by at most one, none below zero -/
def riseI : Int → List Int → Bool
  | _, [] => true
  | a, o :: l => decide (0 ≤ o) && decide (o ≤ a) && riseI (o + 1) l
def bdPath : FS := (sSeq (sAsg 2 (cOp2n opAdd (cOp2n opAdd (cVar 2) (cOp2n opMul (cC (.str (Str.ofString "r"))) (cOp2 opSub (cVar 3) (cVar 1)))) (cC (.str (Str.ofString "u")))))
  (sAsg 3 (cOp2n opAdd (cVar 1) (cC (.int 1)))))
theorem path_go (z : D) : ∀ (ns : List Int) (a : Int) (f : List Bool) (s : Sl), plainS (some s) = true → (∀ n ∈ ns, 0 ≤ n ∧ n ≤ 100) → 0 ≤ a → a ≤ 101 → f.length + 102 * ns.length ≤ 50000 →
    ∃ s' f' a', forGo (gN 1) bdPath (ns.map .int) [.pu z, s, .pu (.str (pS f)), .pu (.int a)] = some (.nx [.pu z, s', .pu (.str (pS f')), .pu (.int a')]) ∧ f ++ pathI a ns = f' ++ List.replicate a'.toNat false ∧ 0 ≤ a' ∧ a' ≤ 101 ∧ f'.length ≤ 50000
  | [], a, f, s, _, _, h0, h1, hz => ⟨s, f, a, rfl, rfl, h0, h1, by simpa using hz⟩
  | o :: ns, a, f, s, hs, ho, h0, h1, hz => by
    obtain ⟨o1, o2⟩ := ho o List.mem_cons_self
    have step : (gN 1 (.int o) [.pu z, s, .pu (.str (pS f)), .pu (.int a)]) = some [.pu z, .pu (.int o), .pu (.str (pS f)), .pu (.int a)] := by
      cases s <;> simp [plainS] at hs <;> simp [gN, setS]
    have hlr : (List.replicate (a - o).toNat false).length ≤ 101 := by simp; omega
    simp only [List.length_cons] at hz
    have body : bdPath [.pu z, .pu (.int o), .pu (.str (pS f)), .pu (.int a)] = some (.nx [.pu z, .pu (.int o), .pu (.str (pS (f ++ List.replicate (a - o).toNat false ++ [true]))), .pu (.int (o + 1))]) := by
      have m1 := mul_r (a - o) (by omega) (by omega)
      have a1 := add_pS f (List.replicate (a - o).toNat false) (by omega)
      have a2 := add_pS (f ++ List.replicate (a - o).toNat false) [true] (by simp only [List.length_append, List.length_cons, List.length_nil]; omega)
      rw [pS_u] at a2
      have a3 : opAdd (.int o) (.int 1) = some (.int (o + 1)) := rfl
      have s1 : opSub (.int a) (.int o) = some (.int (a - o)) := rfl
      simp only [bdPath, sSeq, sAsg, cOp2n, cOp2, cVar, s_u, s_r, List.getElem?_cons_zero, List.getElem?_cons_succ, Option.bind_some, ev_c, ev_stl_pu, ev_cont_pu, s1, m1, ev_mk_str, a1, a2, setS, List.set_cons_succ, List.set_cons_zero, a3, ev_mk_int]
    obtain ⟨s', f', a', ih, e, q1, q2, q3⟩ := path_go z ns (o + 1) (f ++ List.replicate (a - o).toNat false ++ [true]) (.pu (.int o)) rfl (fun n hn => ho n (List.mem_cons_of_mem _ hn)) (by omega) (by omega)
      (by simp only [List.length_append, List.length_cons, List.length_nil]; omega)
    refine ⟨s', f', a', ?_, ?_, q1, q2, q3⟩
    · rw [List.map_cons, forGo, step, Option.bind_some, body]
      exact ih
    · rw [← e]
      simp [pathI]
theorem e_path_in (ns : List Int) (isl : Bool) (ho : ∀ n ∈ ns, 0 ≤ n ∧ n ≤ 100) (hz : ns.length ≤ 400) : m_path_in [.v (if isl = true then .list (ns.map .int) else .tuple (ns.map .int))] = some (.pu (.str (pS (pathI 0 ns))), []) := by
  generalize hd : (if isl = true then PyData.list (ns.map .int) else PyData.tuple (ns.map .int)) = d
  have hi : itemsOf d = some (ns.map .int) := by rw [← hd]; cases isl <;> rfl
  obtain ⟨s', f', a', g, e, q1, q2, q3⟩ := path_go d ns 0 [] .non rfl ho (by omega) (by omega) (by simp; omega)
  have h2 : (2 : Nat) ≤ lineN := line_le (by omega)
  have e0 : b_path_in [.pu d, .non, .non, .non] = ((forGo (gN 1) bdPath (ns.map .int) [.pu d, .non, .pu (.str (pS [])), .pu (.int 0)]).bind fun o => match o with
      | .nx ρ' => sRet (cOp2n opAdd (cVar 2) (cOp2n opMul (cC (.str (Str.ofString "r"))) (cVar 3))) ρ'
      | o => some o) := by
    simp [b_path_in, sSeq, sTgt, cTup, aCons, pures, h2, gT, gAll, gN, setS, sFor, iE, cVar, hi, s_e]
    rfl
  have m1 := mul_r a' (by omega) (by omega)
  have a1 := add_pS f' (List.replicate a'.toNat false) (by simp; omega)
  have e' : pathI 0 ns = f' ++ List.replicate a'.toNat false := by simpa using e
  simp [m_path_in, runDef, arS, List.replicate, e0, g, sRet, cOp2n, cVar, s_r, m1, a1, outsOf, retV, e']
def rowZip (ns : List Int) : List (Int × Int) := ((-1) :: ns).zip ns
theorem e_fits_row (ns : List Int) (hz : ns.length ≤ 30) (h1 : ∀ n ∈ ns, 0 ≤ n ∧ n ≤ 29) (h2 : (rowZip ns).all (fun p => decide (p.2 ≤ p.1 + 1)) = true) : m_fits_row [.v (.tuple (ns.map .int))] = some (.pu (.bool true), []) := by
  have c29 : opSub (.int 30) (.int 1) = some (.int 29) := by kernel_rfl
  have h := cLc_eq (vs := [1]) (it := iE (cVar 0)) (g := gN 1) (t := tYes) (f := cCall m_is_whole (aCons (cVar 1) (aCons (cC (.int 0)) (aCons (cOp2 opSub (cC (.int 30)) (cC (.int 1))) aNil))))
    (ρ := [.pu (.tuple (ns.map .int)), .non, .non]) (ds := ns.map .int)
    (fun x => [.pu (.tuple (ns.map .int)), .pu x, .non]) (fun _ => true) (fun x => .bool (wholeB 0 29 x))
    (by simp [iE, cVar, itemsOf]) rfl (fun x hx => by
      simp [gN, setS, wipeR, cCall, aCons, toArs, toAr, slotsOf, wb, cVar, cOp2, c29, e_is_whole]) (line_le (by simp; omega))
  have hm : (ns.map PyData.int).map (fun x => PyData.bool (wholeB 0 29 x)) = ns.map fun n => PyData.bool (decide (0 ≤ n) && decide (n ≤ 29)) := by
    rw [List.map_map]; rfl
  rw [filter_yes, hm] at h
  have ha2 : ((ns.map fun n => decide (0 ≤ n) && decide (n ≤ 29)).all id) = true := by
    rw [List.all_map, List.all_eq_true]
    intro n hn
    simp [h1 n hn]
  have hadd : opAdd (.tuple [.int (-1)]) (.tuple (ns.map .int)) = some (.tuple (((-1) :: ns).map .int)) := by
    have : 1 + ns.length ≤ lineN := line_le (by omega)
    simp [opAdd, this]
  have o1 : (1 : Nat) ≤ lineN := line_le (by omega)
  have g := cLc_eq (vs := [1, 2]) (it := iZip (cOp2n opAdd (cTup (aCons (cOp opNeg (cC (.int 1))) aNil)) (cVar 0)) (cVar 0)) (g := gT ((gN 1) :: ((gN 2) :: []))) (t := tYes) (f := cOp2 opLe (cVar 2) (cOp2n opAdd (cVar 1) (cC (.int 1))))
    (ρ := [.pu (.tuple (ns.map .int)), .non, .non]) (ds := zipD (((-1) :: ns).map .int) (ns.map .int))
    (fun x => match x with | .tuple [a, b] => [.pu (.tuple (ns.map .int)), .pu a, .pu b] | _ => []) (fun _ => true) (fun x => match x with | .tuple [.int a, .int b] => .bool (decide (b ≤ a + 1)) | _ => .none)
    (by simp only [iZip, cOp2n, cTup, aCons, cOp, opNeg, cVar, pures, ev_c, ev_anil, Option.bind_some, ev_cont_pu, ev_stl_pu, List.getElem?_cons_zero, List.length_cons, List.length_nil, Nat.zero_add, if_pos o1, hadd, ev_mk_tup]) rfl (fun x hx => by
      rw [zipD_ints] at hx
      obtain ⟨⟨a, b⟩, _, rfl⟩ := List.mem_map.mp hx
      simp [gT, gAll, gN, setS, wipeR, cOp2, cOp2n, cVar, opLe, onInts, opAdd]) (line_le (by simp [zipD]; omega))
  have hm2 : (zipD (((-1) :: ns).map .int) (ns.map .int)).map (fun x => match x with | .tuple [.int a, .int b] => PyData.bool (decide (b ≤ a + 1)) | _ => .none) = (rowZip ns).map fun p => PyData.bool (decide (p.2 ≤ p.1 + 1)) := by
    rw [zipD_ints, List.map_map]
    rfl
  have g' := g
  rw [filter_yes] at g'
  have g2 : cLc [1, 2] (iZip (cOp2n opAdd (cTup (aCons (cOp opNeg (cC (.int 1))) aNil)) (cVar 0)) (cVar 0)) (gT ((gN 1) :: ((gN 2) :: []))) tYes (cOp2 opLe (cVar 2) (cOp2n opAdd (cVar 1) (cC (.int 1)))) [.pu (.tuple (ns.map .int)), .non, .non] =
      some (.nw (.list ((rowZip ns).map fun p => PyData.bool (decide (p.2 ≤ p.1 + 1)))), [.pu (.tuple (ns.map .int)), .non, .non]) := by
    rw [g', zipD_ints, List.map_map]
    rfl
  have hb2 : (((rowZip ns).map fun p => decide (p.2 ≤ p.1 + 1)).all id) = true := by rw [List.all_map]; exact h2
  have hl : ¬ 30 < (ns.length : Int) := by omega
  have hl3 : (ns.length : Int) ≤ 30 := by omega
  simp [m_fits_row, runDef, arS, List.replicate, b_fits_row, sSeq, sIf, tOr, tNot, tTru', sRet, cOpA, cCall, aCons, toArs, toAr, slotsOf, wb, e_is_tuple_of, h, g2, cVar, conts, fAll, on1, boolsOf_maps, truD, outsOf, retV, hl, hl3, ha2, hb2]

theorem cut_from (ds : List D) (k : Nat) : cutD ds (some (k : Int)) none = ds.drop k := by
  unfold cutD
  rw [HT.sIx_nat, HT.sIx_none]
  by_cases h : k ≤ ds.length
  · rw [Nat.min_eq_left h, List.take_of_length_le (by simp)]
  · rw [Nat.min_eq_right (by omega), List.drop_eq_nil_of_le (Nat.le_refl _), List.drop_eq_nil_of_le (by omega)]
    simp
theorem enum_ints (ns : List Int) : enumD (ns.map .int) = ns.zipIdx.map fun p => .tuple [.int (p.2 : Nat), .int p.1] := by
  unfold enumD
  rw [List.zipIdx_map, List.map_map]
  rfl
def nearB (a o : Int) : Bool := o == a || o == a - 1
def pairI : List Int → Int
  | [] => 0
  | a :: l => ((l.countP (nearB a) : Nat) : Int) + pairI l
def nearD (a : Int) : D → Bool
  | .int o => nearB a o
  | _ => false
def bdPair : FS := (sAsg 1 (cOp2n opAdd (cVar 1) (cOpA fLen (aCons (cLc [4] (iE (cSl mk opSl (cVar 0) (oSo (cOp2n opAdd (cVar 2) (cC (.int 1)))) oNo)) (gN 4) (tOr (tBl (cOp2 opEq (cVar 4) (cVar 3))) (tBl (cOp2 opEq (cVar 4) (cOp2 opSub (cVar 3) (cC (.int 1)))))) (cVar 4)) aNil))))
theorem pair_go (ns : List Int) (hz : ns.length ≤ 1000) : ∀ (l : List Int) (k : Nat) (f : Int) (s2 s3 : Sl), plainS (some s2) = true → plainS (some s3) = true → ns.drop k = l →
    ∃ s2' s3', forGo (gT ((gN 2) :: ((gN 3) :: []))) bdPair ((l.zipIdx k).map fun p => .tuple [.int (p.2 : Nat), .int p.1]) [.pu (.list (ns.map .int)), .pu (.int f), s2, s3, .non] = some (.nx [.pu (.list (ns.map .int)), .pu (.int (f + pairI l)), s2', s3', .non])
  | [], k, f, s2, s3, _, _, _ => ⟨s2, s3, by simp [pairI]; rfl⟩
  | a :: l, k, f, s2, s3, h2, h3, hd => by
    have step : (gT ((gN 2) :: ((gN 3) :: []))) (.tuple [.int (k : Nat), .int a]) [.pu (.list (ns.map .int)), .pu (.int f), s2, s3, .non] = some [.pu (.list (ns.map .int)), .pu (.int f), .pu (.int (k : Nat)), .pu (.int a), .non] := by
      cases s2 <;> simp [plainS] at h2 <;> cases s3 <;> simp [plainS] at h3 <;> simp [gT, gAll, gN, setS]
    have hd2 : ns.drop (k + 1) = l := by rw [← List.drop_drop, hd]; rfl
    have hcut : cutD (ns.map .int) (some ((k : Int) + 1)) none = l.map .int := by
      have : ((k : Int) + 1) = ((k + 1 : Nat) : Int) := by omega
      rw [this, cut_from, ← List.map_drop, hd2]
    have h := cLc_eq (vs := [4]) (it := iE (cSl mk opSl (cVar 0) (oSo (cOp2n opAdd (cVar 2) (cC (.int 1)))) oNo)) (g := gN 4) (t := tOr (tBl (cOp2 opEq (cVar 4) (cVar 3))) (tBl (cOp2 opEq (cVar 4) (cOp2 opSub (cVar 3) (cC (.int 1)))))) (f := cVar 4)
      (ρ := [.pu (.list (ns.map .int)), .pu (.int f), .pu (.int (k : Nat)), .pu (.int a), .non]) (ds := l.map .int)
      (fun x => [.pu (.list (ns.map .int)), .pu (.int f), .pu (.int (k : Nat)), .pu (.int a), .pu x]) (nearD a) (fun x => x)
      (by simp [iE, cSl, cVar, oSo, cOp2n, opAdd, opSl, hcut, itemsOf]) rfl (fun x hx => by
        obtain ⟨o, _, rfl⟩ := List.mem_map.mp hx
        simp [gN, setS, wipeR, tOr, tBl, cOp2, cVar, opEq_int, opSub, onInts, nearD, nearB]
        split <;> simp_all) (line_le (by
          have := congrArg List.length hd2
          simp at this ⊢
          omega))
    rw [List.filter_map, List.map_map] at h
    have h' : cLc [4] (iE (cSl mk opSl (cVar 0) (oSo (cOp2n opAdd (cVar 2) (cC (.int 1)))) oNo)) (gN 4) (tOr (tBl (cOp2 opEq (cVar 4) (cVar 3))) (tBl (cOp2 opEq (cVar 4) (cOp2 opSub (cVar 3) (cC (.int 1)))))) (cVar 4) [.pu (.list (ns.map .int)), .pu (.int f), .pu (.int (k : Nat)), .pu (.int a), .non] =
        some (.nw (.list ((l.filter (nearB a)).map .int)), [.pu (.list (ns.map .int)), .pu (.int f), .pu (.int (k : Nat)), .pu (.int a), .non]) := h
    have body : bdPair [.pu (.list (ns.map .int)), .pu (.int f), .pu (.int (k : Nat)), .pu (.int a), .non] = some (.nx [.pu (.list (ns.map .int)), .pu (.int (f + (l.countP (nearB a) : Nat))), .pu (.int (k : Nat)), .pu (.int a), .non]) := by
      simp [bdPair, sAsg, cOp2n, cVar, cOpA, aCons, h', conts, fLen, on1, opAdd, setS, List.countP_eq_length_filter]
    obtain ⟨s2', s3', ih⟩ := pair_go ns hz l (k + 1) (f + (l.countP (nearB a) : Nat)) (.pu (.int (k : Nat))) (.pu (.int a)) rfl rfl hd2
    refine ⟨s2', s3', ?_⟩
    rw [List.zipIdx_cons, List.map_cons, forGo, step, Option.bind_some, body]
    show forGo _ _ _ _ = _
    rw [ih]
    simp only [pairI]
    rw [Int.add_assoc]
theorem e_pairs_in (ns : List Int) (hz : ns.length ≤ 1000) : m_pairs_in [.v (.list (ns.map .int))] = some (.pu (.int (pairI ns)), []) := by
  obtain ⟨s2, s3, g⟩ := pair_go ns hz ns 0 0 .non .non rfl rfl rfl
  have e0 : b_pairs_in [.pu (.list (ns.map .int)), .non, .non, .non, .non] = ((forGo (gT ((gN 2) :: ((gN 3) :: []))) bdPair (ns.zipIdx.map fun p => .tuple [.int (p.2 : Nat), .int p.1]) [.pu (.list (ns.map .int)), .pu (.int 0), .non, .non, .non]).bind fun o => match o with
      | .nx ρ' => sRet (cVar 1) ρ'
      | o => some o) := by
    simp [b_pairs_in, sSeq, sAsg, setS, sFor, iEnum, cVar, itemsOf, enum_ints]
    rfl
  simp [m_pairs_in, runDef, arS, List.replicate, e0, g, sRet, cVar, outsOf, retV]
def bnc (hs : List Int) : Nat → Int → List Int
  | 0, _ => []
  | n + 1, x => if x < hs.length then hs.getD x.toNat 0 :: bnc hs n (hs.getD x.toNat 0) else []
def Climb (hs : List Int) : Prop := ∀ i, i < hs.length → (i : Int) < hs.getD i 0 ∧ hs.getD i 0 ≤ hs.length
def tsBnc : FT := (tBl (cOp2 opLt (cOp2 opIx (cVar 2) (cOp opNeg (cC (.int 1)))) (cOpA fLen (aCons (cVar 1) aNil))))
def bdBnc : FS := (sApp 2 (cOp2 opIx (cVar 1) (cOp2 opIx (cVar 2) (cOp opNeg (cC (.int 1))))))
theorem ix_last (f : List Int) (x : Int) : opIx (.list ((f ++ [x]).map .int)) (.int (-1)) = some (.int x) := by
  rw [List.map_append]
  exact atI_last _ _
theorem ix_at (hs : List Int) (x : Int) (h0 : 0 ≤ x) (h : x < hs.length) : opIx (.list (hs.map .int)) (.int x) = some (.int (hs.getD x.toNat 0)) := by
  obtain ⟨k, rfl⟩ : ∃ k : Nat, x = k := ⟨x.toNat, by omega⟩
  rw [Int.toNat_natCast]
  have hlt : k < hs.length := by omega
  have e : (hs.map PyData.int)[k]? = some (.int (hs.getD k 0)) := by
    rw [List.getElem?_map, List.getElem?_eq_getElem hlt]
    simp [List.getD, List.getElem?_eq_getElem hlt]
  exact atI_nat e
theorem bnc_go (z : D) (hs : List Int) (hz : hs.length ≤ 1000) (hc : Climb hs) : ∀ (m F : Nat) (x : Int) (f : List Int), 0 ≤ x → x ≤ hs.length → hs.length - x.toNat ≤ m → m < F → f.length + m ≤ 2000 →
    whileGo tsBnc bdBnc F [.pu z, .pu (.list (hs.map .int)), .own (.list ((f ++ [x]).map .int))] = some (.nx [.pu z, .pu (.list (hs.map .int)), .own (.list ((f ++ [x] ++ bnc hs m x).map .int))])
  | m, 0, x, f, _, _, _, hF, _ => absurd hF (Nat.not_lt_zero _)
  | m, F + 1, x, f, h0, h1, hm, hF, hl => by
    have test : tsBnc [.pu z, .pu (.list (hs.map .int)), .own (.list ((f ++ [x]).map .int))] = some (decide (x < hs.length), [.pu z, .pu (.list (hs.map .int)), .own (.list ((f ++ [x]).map .int))]) := by
      have e := ix_last f x
      simp only [tsBnc, tBl, cOp2, cOp, opNeg, cVar, cOpA, aCons, ev_c, ev_anil, Option.bind_some, ev_cont_pu, ev_stl_pu, ev_stl_sl, cont, List.getElem?_cons_zero, List.getElem?_cons_succ, e, conts, fLen, on1, opLt, onInts, List.length_map]
    unfold whileGo
    rw [test]
    simp only [Option.bind_some]
    by_cases hx : x < hs.length
    · rw [decide_eq_true hx, if_pos rfl]
      have hmp : 0 < m := by omega
      obtain ⟨m', rfl⟩ : ∃ m', m = m' + 1 := ⟨m - 1, by omega⟩
      have hlt : x.toNat < hs.length := by omega
      obtain ⟨c1, c2⟩ := hc x.toNat hlt
      have hlen : (f ++ [x]).length < lineN := Nat.lt_of_lt_of_le (by simp; omega : (f ++ [x]).length < 3000) (line_le (by omega))
      have body : bdBnc [.pu z, .pu (.list (hs.map .int)), .own (.list ((f ++ [x]).map .int))] = some (.nx [.pu z, .pu (.list (hs.map .int)), .own (.list ((f ++ [x] ++ [hs.getD x.toNat 0]).map .int))]) := by
        have e := ix_last f x
        have e2 := ix_at hs x h0 hx
        have e3 : ((f ++ [x]).map PyData.int).length < lineN := by rw [List.length_map]; exact hlen
        simp only [bdBnc, sApp, cOp2, cOp, opNeg, cVar, ev_c, Option.bind_some, ev_cont_pu, ev_stl_pu, ev_stl_sl, cont, List.getElem?_cons_zero, List.getElem?_cons_succ, e, e2, if_pos e3, putS, List.set_cons_succ, List.set_cons_zero]
        rw [List.map_append (l₁ := f ++ [x])]
        rfl
      rw [body]
      have ih := bnc_go z hs hz hc m' F (hs.getD x.toNat 0) (f ++ [x]) (by omega) c2 (by omega) (by omega) (by simp; omega)
      show whileGo tsBnc bdBnc F _ = _
      rw [ih]
      have e4 : bnc hs (m' + 1) x = hs.getD x.toNat 0 :: bnc hs m' (hs.getD x.toNat 0) := by
        show (if x < hs.length then _ else _) = _
        rw [if_pos hx]
      rw [e4]
      simp
    · rw [decide_eq_false hx]
      have e4 : bnc hs m x = [] := by
        cases m with
        | zero => rfl
        | succ m' =>
          show (if x < hs.length then _ else _) = _
          rw [if_neg hx]
      rw [e4]
      simp
def bncAll (l : List Bool) : List Int := 0 :: bnc (hgtB 0 l) (hgtB 0 l).length 0
theorem hgt_len : ∀ (l : List Bool) (k : Int), (hgtB k l).length ≤ l.length
  | [], _ => Nat.le_refl _
  | true :: l, k => by have := hgt_len l (k + 1); simp [hgtB]; omega
  | false :: l, k => by have := hgt_len l k; simp [hgtB]; omega
theorem row_len : ∀ (l : List Bool) (k : Int), (rowB k l).length ≤ l.length
  | [], _ => Nat.le_refl _
  | true :: l, k => by have := row_len l (k + 1); simp [rowB]; omega
  | false :: l, k => by have := row_len l (k - 1); simp [rowB]; omega
theorem e_bounces_in (l : List Bool) (hz : l.length ≤ 500) (hc : Climb (hgtB 0 l)) : m_bounces_in [.v (.str (pS l))] = some (.nw (.list ((bncAll l).map .int)), []) := by
  have hh := hgt_len l 0
  have g := bnc_go (.str (pS l)) (hgtB 0 l) (by omega) hc (hgtB 0 l).length fuelN 0 [] (by omega) (by omega) (by simp) (by unfold fuelN; omega) (by simp; omega)
  have h1 : (1 : Nat) ≤ lineN := line_le (by omega)
  have e0 : b_bounces_in [.pu (.str (pS l)), .non, .non] = ((whileGo tsBnc bdBnc fuelN [.pu (.str (pS l)), .pu (.list ((hgtB 0 l).map .int)), .own (.list (([] ++ [0] : List Int).map .int))]).bind fun o => match o with
      | .nx ρ' => sRet (cVar 2) ρ'
      | o => some o) := by
    simp [b_bounces_in, sSeq, sPar2, cCall, aCons, toArs, toAr, slotsOf, wb, e_heights_in l (by omega), cLst, pures, h1, kp, setV, setS, sWhile, cVar]
    rfl
  rw [g] at e0
  simp [m_bounces_in, runDef, arS, List.replicate, e0, sRet, cVar, outsOf, retV, bncAll]
def lastI (ns : List Int) : Int := ns.getLastD 0
theorem ix_lastD (ns : List Int) (h : ns ≠ []) : opIx (.list (ns.map .int)) (.int (-1)) = some (.int (lastI ns)) := by
  have e : ns = ns.dropLast ++ [lastI ns] := by
    unfold lastI
    rw [List.getLastD_eq_getLast?, List.getLast?_eq_some_getLast h]
    exact (List.dropLast_concat_getLast h).symm
  rw [e]
  have e2 : lastI (ns.dropLast ++ [lastI ns]) = lastI ns := by rw [← e]
  rw [e2]
  exact ix_last _ _
def subD (w : Int) : D → D
  | .int o => .int (w - o)
  | _ => .none
theorem e_bounce_weight_in (l : List Bool) (hz : l.length ≤ 500) (hc : Climb (hgtB 0 l)) (hb : (bncAll l).length ≤ 1000) : m_bounce_weight_in [.v (.str (pS l))] = some (.pu (.int (((bncAll l).tail.map fun o => lastI (bncAll l) - o).sum)), []) := by
  have hne : bncAll l ≠ [] := by unfold bncAll; simp
  have hbi := e_bounces_in l hz hc
  revert hne hb hbi
  generalize bncAll l = bs
  intro hb hne hbi
  have hcut : cutD (bs.map .int) (some 1) none = bs.tail.map .int := by rw [cut_tail, ← List.map_drop, List.drop_one]
  have h := cLc_eq (vs := [2]) (it := iE (cSl mk opSl (cVar 1) (oSo (cC (.int 1))) oNo)) (g := gN 2) (t := tYes) (f := cOp2 opSub (cOp2 opIx (cVar 1) (cOp opNeg (cC (.int 1)))) (cVar 2))
    (ρ := [.pu (.str (pS l)), .pu (.list (bs.map .int)), .non]) (ds := bs.tail.map .int)
    (fun x => [.pu (.str (pS l)), .pu (.list (bs.map .int)), .pu x]) (fun _ => true) (subD (lastI bs))
    (by simp [iE, cSl, cVar, oSo, opSl, hcut, itemsOf]) rfl (fun x hx => by
      obtain ⟨o, _, rfl⟩ := List.mem_map.mp hx
      simp [gN, setS, wipeR, cOp2, cVar, cOp, opNeg, ix_lastD bs hne, opSub, onInts, subD]) (line_le (by simp; omega))
  rw [filter_yes, List.map_map] at h
  have h' : cLc [2] (iE (cSl mk opSl (cVar 1) (oSo (cC (.int 1))) oNo)) (gN 2) tYes (cOp2 opSub (cOp2 opIx (cVar 1) (cOp opNeg (cC (.int 1)))) (cVar 2)) [.pu (.str (pS l)), .pu (.list (bs.map .int)), .non] =
      some (.nw (.list (bs.tail.map fun o => .int (lastI bs - o))), [.pu (.str (pS l)), .pu (.list (bs.map .int)), .non]) := h
  have hio : intsOf ((bs.map fun o => PyData.int (lastI bs - o)).tail) = some ((bs.map fun o => lastI bs - o).tail) := by
    rw [← List.map_tail, ← List.map_tail, intsOf_maps]
  simp [hio, m_bounce_weight_in, runDef, arS, List.replicate, b_bounce_weight_in, sSeq, sAsg, cCall, aCons, toArs, toAr, slotsOf, wb, hbi, setS, sRet, cOpA, h', conts, fSum, on1, seqOf, intsOf_maps, cVar, outsOf, retV]
def besI (ns : List Int) : List Int := ns.zipIdx.map fun p => ((p.2 : Nat) : Int) - p.1
def besD : D → D
  | .tuple [.int a, .int b] => .int (a - b)
  | _ => .none
def stairB (n : Int) (ns : List Int) : Bool := (ns.zipIdx.map fun p => decide (p.1 ≤ n - 1 - ((p.2 : Nat) : Int))).all id
def stairD (n : Int) : D → D
  | .tuple [.int a, .int b] => .bool (decide (b ≤ n - 1 - a))
  | _ => .none
theorem mul_tup0 (k : Int) (h0 : -1000 ≤ k) (h1 : k ≤ 1000) : opMul (.tuple [.int 0]) (.int k) = some (.tuple ((List.replicate k.toNat (0 : Int)).map .int)) := by
  have e : (List.replicate k.toNat [PyData.int 0]).flatten = (List.replicate k.toNat (0 : Int)).map .int := by
    generalize k.toNat = m
    induction m with
    | zero => rfl
    | succ m ih => rw [List.replicate_succ, List.flatten_cons, ih, List.replicate_succ]; rfl
  simp only [opMul]
  rw [if_pos ⟨by omega, by omega, by simp; omega⟩, e]
theorem e_area_row (l : List Bool) (hz : l.length ≤ 500) (h : fitsS (pS l) = true) : m_area_row [.v (.str (pS l))] = some (.pu (.tuple ((rowB 0 l).map .int)), []) := by
  have hn := e_need_path (pS l) (by rw [pS_len]; omega) h
  have hr := e_row_in l (by omega)
  simp [m_area_row, runDef, arS, b_area_row, sSeq, sExp, sRet, cOpA, cCall, aCons, toArs, toAr, slotsOf, wb, hn, hr, cVar, conts, fTuple, on1, seqOf, outsOf, retV]
theorem e_area_of_path (l : List Bool) (hz : l.length ≤ 500) (h : fitsS (pS l) = true) : m_area_of_path [.v (.str (pS l))] = some (.pu (.int (rowB 0 l).sum), []) := by
  have hn := e_need_path (pS l) (by rw [pS_len]; omega) h
  have hr := e_row_in l (by omega)
  simp [m_area_of_path, runDef, arS, b_area_of_path, sSeq, sExp, sRet, cOpA, cCall, aCons, toArs, toAr, slotsOf, wb, hn, hr, cVar, conts, fSum, on1, seqOf, intsOf_map, outsOf, retV]
theorem e_path_with_row (ns : List Int) (hz : ns.length ≤ 30) (h1 : ∀ n ∈ ns, 0 ≤ n ∧ n ≤ 29) (h2 : (rowZip ns).all (fun p => decide (p.2 ≤ p.1 + 1)) = true) : m_path_with_row [.v (.tuple (ns.map .int))] = some (.pu (.str (pS (pathI 0 ns))), []) := by
  have hf := e_fits_row ns hz h1 h2
  have hp := e_path_in ns false (fun n hn => by have := h1 n hn; omega) (by omega)
  simp only [Bool.false_eq_true, if_false] at hp
  simp [m_path_with_row, runDef, arS, b_path_with_row, sSeq, sIf, tNot, tTru', sRet, cCall, aCons, toArs, toAr, slotsOf, wb, hf, hp, cVar, truD, outsOf, retV]
theorem e_pair_weight (l : List Bool) (hz : l.length ≤ 500) (h : fitsS (pS l) = true) : m_pair_weight [.v (.str (pS l))] = some (.pu (.int (pairI (rowB 0 l))), []) := by
  have hn := e_need_path (pS l) (by rw [pS_len]; omega) h
  have hr := e_row_in l (by omega)
  have hp := e_pairs_in (rowB 0 l) (by have := row_len l 0; omega)
  simp [m_pair_weight, runDef, arS, b_pair_weight, sSeq, sExp, sRet, cCall, aCons, toArs, toAr, slotsOf, wb, hn, hr, hp, cVar, outsOf, retV]
theorem e_bounces_of (l : List Bool) (hz : l.length ≤ 500) (h : fitsS (pS l) = true) (hc : Climb (hgtB 0 l)) : m_bounces_of [.v (.str (pS l))] = some (.pu (.tuple ((bncAll l).map .int)), []) := by
  have hn := e_need_path (pS l) (by rw [pS_len]; omega) h
  have hr := e_bounces_in l hz hc
  simp [m_bounces_of, runDef, arS, b_bounces_of, sSeq, sExp, sRet, cOpA, cCall, aCons, toArs, toAr, slotsOf, wb, hn, hr, cVar, conts, fTuple, on1, seqOf, outsOf, retV]
theorem e_bounce_weight (l : List Bool) (hz : l.length ≤ 500) (h : fitsS (pS l) = true) (hc : Climb (hgtB 0 l)) (hb : (bncAll l).length ≤ 1000) : m_bounce_weight [.v (.str (pS l))] = some (.pu (.int (((bncAll l).tail.map fun o => lastI (bncAll l) - o).sum)), []) := by
  have hn := e_need_path (pS l) (by rw [pS_len]; omega) h
  have hr := e_bounce_weight_in l hz hc hb
  simp [m_bounce_weight, runDef, arS, b_bounce_weight, sSeq, sExp, sRet, cCall, aCons, toArs, toAr, slotsOf, wb, hn, hr, cVar, outsOf, retV]
def cupD (a b : Int) : D := .list [.int a, .int b]
def CupOk (a b : Int) : Prop := 0 ≤ a ∧ 0 ≤ b ∧ b < 2 ^ 40
theorem ix_c0 (a b : Int) : opIx (cupD a b) (.int 0) = some (.int a) := rfl
theorem ix_c1 (a b : Int) : opIx (cupD a b) (.int 1) = some (.int b) := rfl
theorem small_b {b : Int} (h0 : 0 ≤ b) (h1 : b < 2 ^ 40) : small64 b = true := by
  unfold small64
  simp
  omega
theorem e_roll (a b many : Int) (h : CupOk a b) (h0 : 0 < many) (h1 : many ≤ 1000) : ∃ r a' b', m__law_roll [.m (cupD a b), .v (.int many)] = some (.pu (.int r), [cupD a' b']) ∧ 0 ≤ r ∧ r < many ∧ CupOk a' b' := by
  obtain ⟨ha, hb, hb2⟩ := h
  by_cases hp : 0 < a
  · have hf : opFdiv (.int a) (.int many) = some (.int (a / many)) := by
      have : many < 1073741824 := by omega
      simp [opFdiv, onInts, h0, this]
    have hm : opMod (.int a) (.int many) = some (.int (a % many)) := by simp [opMod, onInts, h0]
    refine ⟨a % many, a / many, b, ?_, Int.emod_nonneg _ (by omega), Int.emod_lt_of_pos _ h0, Int.ediv_nonneg ha (by omega), hb, hb2⟩
    have e0 : opGt (.int a) (.int 0) = some (.bool true) := by simp [opGt, onInts, hp]
    have i0 : opIx (.list [.int a, .int b]) (.int 0) = some (.int a) := rfl
    simp [m__law_roll, runDef, arS, List.replicate, b__law_roll, sSeq, sIf, tBl, cOp2, cVar, cont, i0, e0, sAsg, cOpA, aCons, conts, fInt, on1, hm, setS, sSet, hf, cupD, ixD, putS, sRet, outsOf, retV]
  · have ha0 : a = 0 := by omega
    subst ha0
    have e0 : opGt (.int 0) (.int 0) = some (.bool false) := by kernel_rfl
    have m1 : opMul (.int b) (.int 31051) = some (.int (b * 31051)) := by
      have : small64 31051 = true := by decide
      simp [opMul, this]
    generalize hb1 : (b * 31051 + 7993) % 2147483543 = b1
    have b10 : 0 ≤ b1 := by rw [← hb1]; exact Int.emod_nonneg _ (by decide)
    have b11 : b1 < 2147483543 := by rw [← hb1]; exact Int.emod_lt_of_pos _ (by decide)
    have d1 : opMod (.int (b * 31051 + 7993)) (.int 2147483543) = some (.int b1) := by simp [opMod, onInts, hb1]
    have m2 : opMul (.int b1) (.int (b1 + 229)) = some (.int (b1 * (b1 + 229))) := by
      have : small64 b1 = true := small_b b10 (by omega)
      simp [opMul, this]
    generalize hd : (b1 * (b1 + 229)) % 2147483587 = dp
    have d2 : opMod (.int (b1 * (b1 + 229))) (.int 2147483587) = some (.int dp) := by simp [opMod, onInts, hd]
    have f1 : opFdiv (.int dp) (.int 821) = some (.int (dp / 821)) := by simp [opFdiv, onInts]
    have d3 : opMod (.int (dp / 821)) (.int many) = some (.int (dp / 821 % many)) := by simp [opMod, onInts, h0]
    refine ⟨dp / 821 % many, 0, b1, ?_, Int.emod_nonneg _ (by omega), Int.emod_lt_of_pos _ h0, Int.le_refl _, b10, by omega⟩
    have a1 : opAdd (.int (b * 31051)) (.int 7993) = some (.int (b * 31051 + 7993)) := rfl
    have a2 : opAdd (.int b1) (.int 229) = some (.int (b1 + 229)) := rfl
    have i0 : opIx (.list [.int 0, .int b]) (.int 0) = some (.int 0) := rfl
    have i1 : opIx (.list [.int 0, .int b]) (.int 1) = some (.int b) := rfl
    have i2 : opIx (.list [.int 0, .int b1]) (.int 1) = some (.int b1) := rfl
    simp [m__law_roll, runDef, arS, List.replicate, b__law_roll, sSeq, sIf, tBl, cOp2, cOp2n, cVar, cont, i0, i1, i2, e0, sAsg, cOpA, aCons, conts, fInt, on1, m1, a1, d1, m2, a2, d2, f1, d3, setS, sSet, cupD, ixD, putS, sRet, outsOf, retV]
theorem e_cup (ns : List Int) (hz : ns.length ≤ 1000) : ∃ a b, m__law_cup [.v (.list (ns.map .int))] = some (.nw (cupD a b), []) ∧ CupOk a b := by
  have hx := ix_at (ns ++ [0]) 0 (by omega) (by simp <;> omega)
  generalize hq : (ns ++ [0]).getD (0 : Int).toNat 0 = q at hx
  generalize hc : (if q < 0 then -q else q) = c
  have hc0 : 0 ≤ c := by rw [← hc]; split <;> omega
  have hl : ns.length + 1 ≤ lineN := line_le (by omega)
  have o1 : (1 : Nat) ≤ lineN := line_le (by omega)
  have o2 : (2 : Nat) ≤ lineN := line_le (by omega)
  have hpow : opPow (.int 10) (.int 18) = some (.int 1000000000000000000) := by kernel_rfl
  have m1 : opMul (.int c) (.int 283) = some (.int (c * 283)) := by
    have : small64 283 = true := by decide
    simp [opMul, this]
  have a1 : opAdd (.int (c * 283)) (.int 3907) = some (.int (c * 283 + 3907)) := rfl
  generalize hb : (c * 283 + 3907) % 2077503167 = b
  have b0 : 0 ≤ b := by rw [← hb]; exact Int.emod_nonneg _ (by decide)
  have b1 : b < 2077503167 := by rw [← hb]; exact Int.emod_lt_of_pos _ (by decide)
  have d1 : opMod (.int (c * 283 + 3907)) (.int 2077503167) = some (.int b) := by simp [opMod, onInts, hb]
  have a2 : opAdd (.int b) (.int 167) = some (.int (b + 167)) := rfl
  have f1 : opFdiv (.int c) (.int 73) = some (.int (c / 73)) := by simp [opFdiv, onInts]
  have habs : fAbs [.int q] = some (.int c) := by simp [fAbs, on1, hc]
  have hadd : opAdd (.list (ns.map .int)) (.list [.int 0]) = some (.list ((ns ++ [0]).map .int)) := by simp [opAdd, hl]
  refine ⟨if 1000000000000000000 ≤ c then c / 73 else 0, b + 167, ?_, ?_, by omega, by omega⟩
  · have hge : opGe (.int c) (.int 1000000000000000000) = some (.bool (decide (1000000000000000000 ≤ c))) := rfl
    by_cases hbig : 1000000000000000000 ≤ c
    · simp [m__law_cup, runDef, arS, List.replicate, b__law_cup, sSeq, sAsg, cOpA, cOpAn, cOp2, cOp2n, aCons, conts, fList, on1, cLst, pures, o1, o2, cVar, hadd, hx, habs, setS, sRet, cIf, tBl, hpow, hge, hbig, f1, m1, a1, fInt, d1, a2, outsOf, retV, cupD, -List.map_append]
    · simp [m__law_cup, runDef, arS, List.replicate, b__law_cup, sSeq, sAsg, cOpA, cOpAn, cOp2, cOp2n, aCons, conts, fList, on1, cLst, pures, o1, o2, cVar, hadd, hx, habs, setS, sRet, cIf, tBl, hpow, hge, hbig, f1, m1, a1, fInt, d1, a2, outsOf, retV, cupD, -List.map_append]
  · split
    · exact Int.ediv_nonneg hc0 (by decide)
    · omega
def Dyck (l : List Bool) (n : Nat) : Prop := okN 0 (l.map bc) = some 0 ∧ l.count true = n ∧ l.count false = n
theorem okN_snoc : ∀ (l : List Nat) (a : Int) (c : Nat), okN a (l ++ [c]) = (okN a l).bind fun e => if e + (if c == 117 then 1 else -1) < 0 then none else some (e + (if c == 117 then 1 else -1))
  | [], a, c => by
    show okN a [c] = _
    unfold okN
    rfl
  | d :: l, a, c => by
    rw [List.cons_append]
    unfold okN
    generalize a + (if (d == 117) = true then 1 else -1) = e
    by_cases h : e < 0
    · rw [if_pos h, if_pos h]; rfl
    · rw [if_neg h, if_neg h]; exact okN_snoc l e c
theorem cnt_tf : ∀ l : List Bool, l.length = l.count true + l.count false
  | [] => rfl
  | true :: l => by have := cnt_tf l; simp; omega
  | false :: l => by have := cnt_tf l; simp; omega
def tsPath : FT := (tBl (cOp2 opLt (cVar 4) (cVar 1)))
def bdDraw : FS := (sSeq (sAsg 5 (cAnd (cOp2 opLt (cVar 3) (cVar 1)) (cOr (cOp2 opEq (cVar 3) (cVar 4)) (cOp2 opEq (cCall m__law_roll (aCons (cVar 0) (aCons (cC (.int 2)) aNil))) (cC (.int 0))))))
  (sParA [2, 3, 4] (aCons (cOp2n opAdd (cVar 2) (cIf (tTru' (cVar 5)) (cC (.str (Str.ofString "u"))) (cC (.str (Str.ofString "r"))))) (aCons (cOp2n opAdd (cVar 3) (cIf (tTru' (cVar 5)) (cC (.int 1)) (cC (.int 0)))) (aCons (cOp2n opAdd (cVar 4) (cIf (tTru' (cVar 5)) (cC (.int 0)) (cC (.int 1)))) aNil)))))
theorem draw_body (a b : Int) (n u d : Nat) (f : List Bool) (s : Sl) (hs : plainS (some s) = true) (hc : CupOk a b) (hf : f.length ≤ 1000) (hdu : d ≤ u) (hun : u ≤ n) (hdn : d < n) : ∃ a' b' up, CupOk a' b' ∧ (up = true → u < n) ∧ (up = false → d < u) ∧
    bdDraw [.io (cupD a b), .pu (.int (n : Nat)), .pu (.str (pS f)), .pu (.int (u : Nat)), .pu (.int (d : Nat)), s] =
      some (.nx [.io (cupD a' b'), .pu (.int (n : Nat)), .pu (.str (pS (f ++ [up]))), .pu (.int ((u + (if up = true then 1 else 0) : Nat) : Int)), .pu (.int ((d + (if up = true then 0 else 1) : Nat) : Int)), .pu (.bool up)]) := by
  have fin : ∀ (a' b' : Int) (up : Bool), sParA [2, 3, 4] (aCons (cOp2n opAdd (cVar 2) (cIf (tTru' (cVar 5)) (cC (.str (Str.ofString "u"))) (cC (.str (Str.ofString "r"))))) (aCons (cOp2n opAdd (cVar 3) (cIf (tTru' (cVar 5)) (cC (.int 1)) (cC (.int 0)))) (aCons (cOp2n opAdd (cVar 4) (cIf (tTru' (cVar 5)) (cC (.int 0)) (cC (.int 1)))) aNil)))
      [.io (cupD a' b'), .pu (.int (n : Nat)), .pu (.str (pS f)), .pu (.int (u : Nat)), .pu (.int (d : Nat)), .pu (.bool up)] =
      some (.nx [.io (cupD a' b'), .pu (.int (n : Nat)), .pu (.str (pS (f ++ [up]))), .pu (.int ((u + (if up = true then 1 else 0) : Nat) : Int)), .pu (.int ((d + (if up = true then 0 else 1) : Nat) : Int)), .pu (.bool up)]) := fun a' b' up => by
    have a1 := add_pS f [up] (by simp; omega)
    have u1 : opAdd (.int (u : Nat)) (.int 1) = some (.int ((u : Int) + 1)) := rfl
    have u0 : opAdd (.int (u : Nat)) (.int 0) = some (.int ((u : Int) + 0)) := rfl
    have d1 : opAdd (.int (d : Nat)) (.int 1) = some (.int ((d : Int) + 1)) := rfl
    have d0 : opAdd (.int (d : Nat)) (.int 0) = some (.int ((d : Int) + 0)) := rfl
    cases up with
    | true =>
      rw [pS_u] at a1
      simp [sParA, aCons, cOp2n, cVar, cIf, tTru', truD, s_u, s_r, a1, u1, u0, d1, d0, setAll, setS]
    | false =>
      rw [pS_r] at a1
      simp [sParA, aCons, cOp2n, cVar, cIf, tTru', truD, s_u, s_r, a1, u1, u0, d1, d0, setAll, setS]
  by_cases hu : u < n
  · have l1 : opLt (.int (u : Nat)) (.int (n : Nat)) = some (.bool true) := by simp [opLt, onInts, hu]
    by_cases he : u = d
    · have q1 : opEq (.int (u : Nat)) (.int (d : Nat)) = some (.bool true) := by rw [opEq_int]; simp [he]
      refine ⟨a, b, true, hc, fun _ => hu, fun z => (by cases z), ?_⟩
      rw [← fin a b true]
      cases s <;> simp [plainS] at hs <;> simp [bdDraw, sSeq, sAsg, cAnd, cOp2, cVar, l1, cOr, q1, setS]
    · have q1 : opEq (.int (u : Nat)) (.int (d : Nat)) = some (.bool false) := by rw [opEq_int]; simp; omega
      obtain ⟨r, a', b', e, _, _, hc'⟩ := e_roll a b 2 hc (by decide) (by decide)
      refine ⟨a', b', r == 0, hc', fun _ => hu, fun _ => (by omega), ?_⟩
      rw [← fin a' b' (r == 0)]
      have q2 : opEq (.int r) (.int 0) = some (.bool (r == 0)) := opEq_int r 0
      cases s <;> simp [plainS] at hs <;> simp [bdDraw, sSeq, sAsg, cAnd, cOp2, cVar, l1, cOr, q1, setS, cCall, aCons, toArs, toAr, slotsOf, e, wb, putS, q2]
  · have l1 : opLt (.int (u : Nat)) (.int (n : Nat)) = some (.bool false) := by simp [opLt, onInts]; omega
    refine ⟨a, b, false, hc, fun z => (by cases z), fun _ => (by omega), ?_⟩
    rw [← fin a b false]
    cases s <;> simp [plainS] at hs <;> simp [bdDraw, sSeq, sAsg, cAnd, cOp2, cVar, l1, setS]
theorem draw_go (n : Nat) (hn : n ≤ 100) : ∀ (m F : Nat) (a b : Int) (u d : Nat) (f : List Bool) (s : Sl), plainS (some s) = true → CupOk a b → d ≤ u → u ≤ n → okN 0 (f.map bc) = some ((u : Int) - d) → f.count true = u → f.count false = d → (n - u) + (n - d) ≤ m → m < F →
    ∃ a' b' l s' , CupOk a' b' ∧ Dyck l n ∧ whileGo tsPath bdDraw F [.io (cupD a b), .pu (.int (n : Nat)), .pu (.str (pS f)), .pu (.int (u : Nat)), .pu (.int (d : Nat)), s] =
      some (.nx [.io (cupD a' b'), .pu (.int (n : Nat)), .pu (.str (pS l)), .pu (.int (n : Nat)), .pu (.int (n : Nat)), s'])
  | m, 0, _, _, _, _, _, _, _, _, _, _, _, _, _, _, hF => absurd hF (Nat.not_lt_zero _)
  | m, F + 1, a, b, u, d, f, s, hs, hc, hdu, hun, hok, hct, hcf, hm, hF => by
    have test : tsPath [.io (cupD a b), .pu (.int (n : Nat)), .pu (.str (pS f)), .pu (.int (u : Nat)), .pu (.int (d : Nat)), s] = some (decide (d < n), [.io (cupD a b), .pu (.int (n : Nat)), .pu (.str (pS f)), .pu (.int (u : Nat)), .pu (.int (d : Nat)), s]) := by
      simp [tsPath, tBl, cOp2, cVar, opLt, onInts]
    unfold whileGo
    rw [test]
    simp only [Option.bind_some]
    by_cases hd : d < n
    · rw [decide_eq_true hd, if_pos rfl]
      have hlen : f.length ≤ 1000 := by
        have := cnt_tf f
        omega
      obtain ⟨a', b', up, hc', h1, h2, e⟩ := draw_body a b n u d f s hs hc hlen hdu hun hd
      rw [e]
      show ∃ a' b' l s', _ ∧ _ ∧ whileGo tsPath bdDraw F _ = _
      cases up with
      | true =>
        have hu := h1 rfl
        refine draw_go n hn (m - 1) F a' b' (u + 1) d (f ++ [true]) (.pu (.bool true)) rfl hc' (by omega) (by omega) ?_ (by simp [hct]) (by simp [hcf]) (by omega) (by omega)
        rw [List.map_append]
        have : ([true].map bc) = [117] := rfl
        rw [this, okN_snoc, hok]
        simp
        omega
      | false =>
        have hu := h2 rfl
        refine draw_go n hn (m - 1) F a' b' u (d + 1) (f ++ [false]) (.pu (.bool false)) rfl hc' (by omega) (by omega) ?_ (by simp [hct]) (by simp [hcf]) (by omega) (by omega)
        rw [List.map_append]
        have : ([false].map bc) = [114] := rfl
        rw [this, okN_snoc, hok]
        simp
        omega
    · rw [decide_eq_false hd]
      have ed : d = n := by omega
      have eu : u = n := by omega
      subst ed
      subst eu
      refine ⟨a, b, f, s, hc, ⟨by rw [hok]; simp, hct, hcf⟩, ?_⟩
      simp
theorem e_draw (a b : Int) (n : Nat) (hc : CupOk a b) (hn : n ≤ 100) : ∃ a' b' l, CupOk a' b' ∧ Dyck l n ∧ m__law_path [.m (cupD a b), .v (.int (n : Nat))] = some (.pu (.str (pS l)), [cupD a' b']) := by
  obtain ⟨a', b', l, s', h1, h2, g⟩ := draw_go n hn (n + n) fuelN a b 0 0 [] .non rfl hc (Nat.le_refl _) (Nat.zero_le _) rfl rfl rfl (by omega) (by unfold fuelN; omega)
  refine ⟨a', b', l, h1, h2, ?_⟩
  have o3 : (3 : Nat) ≤ lineN := line_le (by omega)
  have e0 : b__law_path [.io (cupD a b), .pu (.int (n : Nat)), .non, .non, .non, .non] = ((whileGo tsPath bdDraw fuelN [.io (cupD a b), .pu (.int (n : Nat)), .pu (.str (pS [])), .pu (.int ((0 : Nat) : Int)), .pu (.int ((0 : Nat) : Int)), .non]).bind fun o => match o with
      | .nx ρ' => sRet (cVar 2) ρ'
      | o => some o) := by
    simp [b__law_path, sSeq, sTgt, cTup, aCons, pures, o3, gT, gAll, gN, setS, sWhile, s_e]
    rfl
  rw [g] at e0
  simp [m__law_path, runDef, arS, List.replicate, e0, sRet, cVar, outsOf, retV]

def sortI : D → Int
  | .none => 0
  | .bool _ => 1
  | .int _ => 2
  | .str _ => 3
  | .tuple _ => 4
  | .list _ => 5
  | .dict _ => 6
theorem e_sort (d : D) : m__law_sort [.v d] = some (.pu (.int (sortI d)), []) := by
  cases d <;> simp [m__law_sort, runDef, arS, List.replicate, b__law_sort, sSeq, sIf, tOr, tBl, tTru', cOp2, cOpn, opIs, isN, opIsi, isiD, tyName, cVar, truD, sRet, cIf, outsOf, retV, sortI]
mutual
/-- no dict, rows no longer than n -/
def narrow (n : Nat) : D → Bool
  | .list ds => decide (ds.length ≤ n) && narrowAll n ds
  | .tuple ds => decide (ds.length ≤ n) && narrowAll n ds
  | .dict _ => false
  | _ => true
def narrowAll (n : Nat) : List D → Bool
  | [] => true
  | d :: ds => narrow n d && narrowAll n ds
end
mutual
theorem narrow_plain (n : Nat) : ∀ d : D, narrow n d = true → d.plain = true
  | .none, _ => rfl
  | .bool _, _ => rfl
  | .int _, _ => rfl
  | .str _, _ => rfl
  | .list ds, h => by
    simp only [narrow, Bool.and_eq_true] at h
    exact narrowAll_plain n ds h.2
  | .tuple ds, h => by
    simp only [narrow, Bool.and_eq_true] at h
    exact narrowAll_plain n ds h.2
  | .dict _, h => by simp [narrow] at h
theorem narrowAll_plain (n : Nat) : ∀ ds : List D, narrowAll n ds = true → PyData.plainAll ds = true
  | [], _ => rfl
  | d :: ds, h => by
    simp only [narrowAll, Bool.and_eq_true] at h
    show (d.plain && PyData.plainAll ds) = true
    rw [narrow_plain n d h.1, narrowAll_plain n ds h.2]; rfl
end
theorem narrow_mem {n : Nat} : ∀ {ds : List D} {d : D}, narrowAll n ds = true → d ∈ ds → narrow n d = true
  | e :: ds, d, h, hm => by
    simp only [narrowAll, Bool.and_eq_true] at h
    rcases List.mem_cons.mp hm with rfl | hm
    · exact h.1
    · exact narrow_mem h.2 hm
theorem depth_mem : ∀ {ds : List D} {d : D}, d ∈ ds → d.depth ≤ PyData.depthAll ds
  | e :: ds, d, hm => by
    simp only [PyData.depthAll]
    rcases List.mem_cons.mp hm with rfl | hm
    · exact Nat.le_max_left _ _
    · exact Nat.le_trans (depth_mem hm) (Nat.le_max_right _ _)
theorem zip_self_mem {ds : List D} {x : D} (h : x ∈ zipD ds ds) : ∃ d, d ∈ ds ∧ x = .tuple [d, d] := by
  unfold zipD at h
  obtain ⟨⟨a, b⟩, h1, rfl⟩ := List.mem_map.mp h
  have : ∀ (l : List D), (a, b) ∈ l.zip l → a = b ∧ a ∈ l := by
    intro l
    induction l with
    | nil => intro q; cases q
    | cons c l ih =>
      intro q
      rw [List.zip_cons_cons] at q
      rcases List.mem_cons.mp q with q | q
      · cases q; exact ⟨rfl, List.mem_cons_self⟩
      · obtain ⟨q1, q2⟩ := ih q
        exact ⟨q1, List.mem_cons_of_mem _ q2⟩
  obtain ⟨q1, q2⟩ := this ds h1
  subst q1
  exact ⟨a, q2, rfl⟩
theorem like_seq (k : Nat) (ds : List D) (one : D) (ho : one = .list ds ∨ one = .tuple ds) (hl : ds.length ≤ 1000) (ih : ∀ d ∈ ds, r__law_like k [.v d, .v d] = some (.pu (.bool true), [])) (s : D) :
    cLc [3, 4] (iZip (cVar 0) (cVar 1)) (gT ((gN 3) :: ((gN 4) :: []))) (tNot (tTru' (cCall (r__law_like k) (aCons (cVar 3) (aCons (cVar 4) aNil))))) (cC (.int 1)) [.pu one, .pu one, .pu s, .non, .non] =
      some (.nw (.list []), [.pu one, .pu one, .pu s, .non, .non]) := by
  have hz : iZip (cVar 0) (cVar 1) [.pu one, .pu one, .pu s, .non, .non] = some (zipD ds ds, [.pu one, .pu one, .pu s, .non, .non]) := by
    rcases ho with rfl | rfl <;> simp [iZip, cVar]
  have h := cLc_eq (vs := [3, 4]) (it := iZip (cVar 0) (cVar 1)) (g := gT ((gN 3) :: ((gN 4) :: []))) (t := tNot (tTru' (cCall (r__law_like k) (aCons (cVar 3) (aCons (cVar 4) aNil))))) (f := cC (.int 1))
    (ρ := [.pu one, .pu one, .pu s, .non, .non]) (ds := zipD ds ds)
    (fun x => match x with | .tuple [a, b] => [.pu one, .pu one, .pu s, .pu a, .pu b] | _ => []) (fun _ => false) (fun x => x) hz rfl (fun x hx => by
      obtain ⟨d, hd, rfl⟩ := zip_self_mem hx
      simp [gT, gAll, gN, setS, wipeR, tNot, tTru', cCall, aCons, toArs, toAr, slotsOf, wb, cVar, ih d hd, truD]) (line_le (by simp [zipD]; omega))
  have e0 : (zipD ds ds).filter (fun _ => false) = [] := List.filter_eq_nil_iff.mpr (by simp)
  rw [e0] at h
  exact h
theorem like_refl : ∀ (k : Nat) (d : D), narrow 1000 d = true → d.depth < k → k ≤ 8 → r__law_like k [.v d, .v d] = some (.pu (.bool true), [])
  | 0, d, _, h, _ => absurd h (Nat.not_lt_zero _)
  | k + 1, d, hn, hd, hk => by
    have heq : opEq d d = some (.bool true) := by
      unfold opEq
      rw [if_pos (by rw [Nat.min_self]; omega), SeqAt.eqv_refl_plain d (narrow_plain _ d hn)]
    have n1 : opNe (.int (sortI d)) (.int (sortI d)) = some (.bool false) := by
      simp [opNe, PyData.depth, PyData.eqv]
    have n2 : opEq (.int (sortI d)) (.int 6) = some (.bool (sortI d == 6)) := opEq_int _ _
    have o2 : (2 : Nat) ≤ lineN := line_le (by omega)
    have hin : opIn (.int (sortI d)) (.tuple [.int 4, .int 5]) = some (.bool (decide (sortI d = 4) || decide (sortI d = 5))) := by
      cases d <;> kernel_rfl
    have hnil : opEq (.list []) (.list []) = some (.bool true) := by kernel_rfl
    show runDef 2 5 (b__law_like (r__law_like k)) [.v d, .v d] = _
    have seq : ∀ ds, (d = .list ds ∨ d = .tuple ds) → ds.length ≤ 1000 → narrowAll 1000 ds = true → PyData.depthAll ds < k → runDef 2 5 (b__law_like (r__law_like k)) [.v d, .v d] = some (.pu (.bool true), []) := fun ds ho hl hna hdep => by
      have hs := like_seq k ds d ho hl (fun e he => like_refl k e (narrow_mem hna he) (Nat.lt_of_le_of_lt (depth_mem he) hdep) (by omega)) (.int (sortI d))
      have s6 : (sortI d == 6) = false := by rcases ho with rfl | rfl <;> rfl
      have s45 : (decide (sortI d = 4) || decide (sortI d = 5)) = true := by rcases ho with rfl | rfl <;> rfl
      have hlen : fLen [d] = some (.int (ds.length : Nat)) := by rcases ho with rfl | rfl <;> simp [fLen, on1]
      have hle : opEq (.int (ds.length : Nat)) (.int (ds.length : Nat)) = some (.bool true) := by rw [opEq_int]; simp
      simp [runDef, arS, List.replicate, b__law_like, sSeq, sAsg, cCall, aCons, toArs, toAr, slotsOf, wb, cVar, e_sort, setS, sIf, tOr, tBl, cOp2, n1, n2, s6, cTup, pures, o2, hin, s45, sRet, cAnd, cOpA, conts, hlen, hle, hs, cLst, hnil, outsOf, retV]
    cases d with
    | list ds =>
      simp only [narrow, Bool.and_eq_true, decide_eq_true_eq] at hn
      have : PyData.depth (.list ds) = PyData.depthAll ds + 1 := by simp [PyData.depth]
      exact seq ds (.inl rfl) hn.1 hn.2 (by omega)
    | tuple ds =>
      simp only [narrow, Bool.and_eq_true, decide_eq_true_eq] at hn
      have : PyData.depth (.tuple ds) = PyData.depthAll ds + 1 := by simp [PyData.depth]
      exact seq ds (.inr rfl) hn.1 hn.2 (by omega)
    | dict _ => simp [narrow] at hn
    | _ =>
      simp only [sortI] at n1 n2 hin
      simp [runDef, arS, List.replicate, b__law_like, sSeq, sAsg, cCall, aCons, toArs, toAr, slotsOf, wb, cVar, e_sort, sortI, setS, sIf, tOr, tBl, cOp2, n1, n2, cTup, pures, o2, hin, sRet, heq, outsOf, retV]
theorem e_like (d : D) (hn : narrow 1000 d = true) (hd : d.depth < 8) : m__law_like [.v d, .v d] = some (.pu (.bool true), []) := like_refl 8 d hn hd (Nat.le_refl _)

theorem cut_to (l : List Bool) (k : Nat) : cutS (pS l) none (some (k : Int)) = pS (l.take k) := by
  rw [cut_pS, HT.sIx_nat, HT.sIx_none]
  congr 1
  rw [List.drop_zero, Nat.sub_zero]
  by_cases h : k ≤ l.length
  · rw [Nat.min_eq_left h]
  · rw [Nat.min_eq_right (by omega), List.take_length, List.take_of_length_le (by omega)]
theorem sl_to (l : List Bool) (k : Nat) (hl : l.length ≤ 1000) : opSl (.str (pS l)) none (some (k : Int)) = some (.str (pS (l.take k))) := by
  have : l.length ≤ lineN := line_le (by omega)
  simp [opSl, pS_len, this, cut_to]
theorem cnt_u (l : List Bool) : mCount (.str (pS l)) [.str ⟨#[117]⟩] = some (.int (l.count true : Nat)) := by
  have := count_pS true l
  simp only [mCount]
  rw [show (⟨#[117]⟩ : Str) = ⟨#[bc true]⟩ from rfl, this]
theorem cnt_r (l : List Bool) : mCount (.str (pS l)) [.str ⟨#[114]⟩] = some (.int (l.count false : Nat)) := by
  have := count_pS false l
  simp only [mCount]
  rw [show (⟨#[114]⟩ : Str) = ⟨#[bc false]⟩ from rfl, this]
theorem enum_sgns (l : List Bool) : enumD (l.map sgn) = l.zipIdx.map fun p => .tuple [.int (p.2 : Nat), sgn p.1] := by
  unfold enumD
  rw [List.zipIdx_map, List.map_map]
  rfl
/-- u so far, less r so far -/
def hAt (l : List Bool) (k : Nat) : Int := ((l.take k).count true : Nat) - ((l.take k).count false : Nat)
theorem rowB_pre : ∀ (l pre : List Bool), ((l.zipIdx pre.length).filter (·.1)).map (fun p => hAt (pre ++ l) p.2) = rowB ((pre.count true : Nat) - (pre.count false : Nat)) l
  | [], pre => rfl
  | true :: l, pre => by
    have ih := rowB_pre l (pre ++ [true])
    rw [List.length_append, List.append_assoc] at ih
    have e : hAt (pre ++ true :: l) pre.length = (pre.count true : Nat) - (pre.count false : Nat) := by
      unfold hAt
      rw [List.take_left' rfl]
    rw [List.zipIdx_cons, List.filter_cons_of_pos rfl, List.map_cons, e]
    show _ :: _ = _ :: rowB _ l
    congr 1
    rw [show ((pre.count true : Nat) : Int) - (pre.count false : Nat) + 1 = (((pre ++ [true]).count true : Nat) : Int) - ((pre ++ [true]).count false : Nat) by simp; omega]
    exact ih
  | false :: l, pre => by
    have ih := rowB_pre l (pre ++ [false])
    rw [List.length_append, List.append_assoc] at ih
    rw [List.zipIdx_cons, List.filter_cons_of_neg (by simp)]
    show _ = rowB _ l
    rw [show ((pre.count true : Nat) : Int) - (pre.count false : Nat) - 1 = (((pre ++ [false]).count true : Nat) : Int) - ((pre ++ [false]).count false : Nat) by simp; omega]
    exact ih
theorem rowB_at (l : List Bool) : (l.zipIdx.filter (·.1)).map (fun p => hAt l p.2) = rowB 0 l := rowB_pre l []
def sgB : D → Bool
  | .tuple [_, .str s] => s.cps.toList.headD 0 == 117
  | _ => false
theorem sgB_sgn (a : D) (b : Bool) : sgB (.tuple [a, sgn b]) = b := by cases b <;> rfl
def hAtD (l : List Bool) : D → D
  | .tuple [.int k, _] => .int (hAt l k.toNat)
  | _ => .none
theorem e_law_area_row (l : List Bool) (hz : l.length ≤ 1000) : m__law_area_row [.v (.str (pS l))] = some (.nw (.list ((rowB 0 l).map .int)), []) := by
  have h := cLc_eq (vs := [1, 2]) (it := iEnum (cVar 0)) (g := gT ((gN 1) :: ((gN 2) :: []))) (t := tBl (cOp2 opEq (cVar 2) (cC (.str (Str.ofString "u")))))
    (f := cOp2 opSub (cM "str" .pu mCount (cSl mk opSl (cVar 0) oNo (oSo (cVar 1))) (aCons (cC (.str (Str.ofString "u"))) aNil)) (cM "str" .pu mCount (cSl mk opSl (cVar 0) oNo (oSo (cVar 1))) (aCons (cC (.str (Str.ofString "r"))) aNil)))
    (ρ := [.pu (.str (pS l)), .non, .non]) (ds := l.zipIdx.map fun p => .tuple [.int (p.2 : Nat), sgn p.1])
    (fun x => match x with | .tuple [a, b] => [.pu (.str (pS l)), .pu a, .pu b] | _ => []) sgB (hAtD l)
    (by simp [iEnum, cVar, items_pS, enum_sgns]) rfl (fun x hx => by
      obtain ⟨⟨b, k⟩, _, rfl⟩ := List.mem_map.mp hx
      have hs := sl_to l k hz
      simp [gT, gAll, gN, setS, wipeR, tBl, cOp2, cVar, s_u, s_r, eq_sgn_u, sgB_sgn, cM, tyD, cSl, oSo, hs, aCons, conts, cnt_u, cnt_r, opSub, onInts, hAtD, hAt]) (line_le (by simp; omega))
  rw [List.filter_map, List.map_map] at h
  have e1 : (l.zipIdx.filter (sgB ∘ fun p => PyData.tuple [.int (p.2 : Nat), sgn p.1])) = l.zipIdx.filter (·.1) := by
    refine List.filter_congr fun p _ => ?_
    exact sgB_sgn _ _
  rw [e1] at h
  have e2 : (l.zipIdx.filter (·.1)).map (hAtD l ∘ fun p => PyData.tuple [.int (p.2 : Nat), sgn p.1]) = (rowB 0 l).map .int := by
    rw [← rowB_at, List.map_map]
    refine List.map_congr_left fun p _ => ?_
    simp [hAtD]
  rw [e2] at h
  simp [m__law_area_row, runDef, arS, List.replicate, b__law_area_row, sRet, h, outsOf, retV]

def hts : Int → List Bool → List Int
  | a, [] => [a]
  | a, true :: l => a :: hts (a + 1) l
  | a, false :: l => a :: hts (a - 1) l
theorem hts_ne : ∀ (l : List Bool) (a : Int), hts a l ≠ []
  | [], _ => by simp [hts]
  | true :: _, _ => by simp [hts]
  | false :: _, _ => by simp [hts]
theorem hts_pre : ∀ (l pre : List Bool), (List.range' pre.length (l.length + 1)).map (fun k => hAt (pre ++ l) k) = hts ((pre.count true : Nat) - (pre.count false : Nat)) l
  | [], pre => by
    simp [List.range'_succ, hts, hAt]
  | true :: l, pre => by
    have ih := hts_pre l (pre ++ [true])
    rw [List.length_append, List.append_assoc] at ih
    have e : hAt (pre ++ true :: l) pre.length = (pre.count true : Nat) - (pre.count false : Nat) := by
      unfold hAt
      rw [List.take_left' rfl]
    rw [List.length_cons, List.range'_succ, List.map_cons, e]
    show _ :: _ = _ :: hts _ l
    congr 1
    rw [show ((pre.count true : Nat) : Int) - (pre.count false : Nat) + 1 = (((pre ++ [true]).count true : Nat) : Int) - ((pre ++ [true]).count false : Nat) by simp; omega]
    exact ih
  | false :: l, pre => by
    have ih := hts_pre l (pre ++ [false])
    rw [List.length_append, List.append_assoc] at ih
    have e : hAt (pre ++ false :: l) pre.length = (pre.count true : Nat) - (pre.count false : Nat) := by
      unfold hAt
      rw [List.take_left' rfl]
    rw [List.length_cons, List.range'_succ, List.map_cons, e]
    show _ :: _ = _ :: hts _ l
    congr 1
    rw [show ((pre.count true : Nat) : Int) - (pre.count false : Nat) - 1 = (((pre ++ [false]).count true : Nat) : Int) - ((pre ++ [false]).count false : Nat) by simp; omega]
    exact ih
theorem hts_at (l : List Bool) : (List.range (l.length + 1)).map (hAt l) = hts 0 l := by
  rw [List.range_eq_range']
  exact hts_pre l []
theorem last_cons (a : Int) {l : List Int} (h : l ≠ []) : lastI (a :: l) = lastI l := by
  cases l with
  | nil => exact absurd rfl h
  | cons b l => rfl
theorem okN_hts : ∀ (l : List Bool) (a : Int), 0 ≤ a → okN a (l.map bc) = if (hts a l).all (fun x => decide (0 ≤ x)) = true then some (lastI (hts a l)) else none
  | [], a, h => by
    simp [okN, hts, lastI, h]
  | true :: l, a, h => by
    have ih := okN_hts l (a + 1) (by omega)
    show (if a + (if (117 : Nat) == 117 then 1 else -1) < 0 then none else okN (a + (if (117 : Nat) == 117 then 1 else -1)) (l.map bc)) = _
    have e : a + (if ((117 : Nat) == 117) = true then (1 : Int) else -1) = a + 1 := by simp
    rw [e, if_neg (by omega), ih]
    show _ = if (a :: hts (a + 1) l).all _ = true then some (lastI (a :: hts (a + 1) l)) else none
    rw [last_cons a (hts_ne l (a + 1)), List.all_cons, decide_eq_true h, Bool.true_and]
  | false :: l, a, h => by
    show (if a + (if (114 : Nat) == 117 then 1 else -1) < 0 then none else okN (a + (if (114 : Nat) == 117 then 1 else -1)) (l.map bc)) = _
    have e : a + (if ((114 : Nat) == 117) = true then (1 : Int) else -1) = a - 1 := by simp; omega
    rw [e]
    show _ = if (a :: hts (a - 1) l).all _ = true then some (lastI (a :: hts (a - 1) l)) else none
    rw [last_cons a (hts_ne l (a - 1)), List.all_cons, decide_eq_true h, Bool.true_and]
    by_cases hn : a - 1 < 0
    · rw [if_pos hn]
      have : (hts (a - 1) l).all (fun x => decide (0 ≤ x)) = false := by
        have h0 : ∃ t, hts (a - 1) l = (a - 1) :: t := by
          cases l with
          | nil => exact ⟨[], rfl⟩
          | cons b l => cases b <;> exact ⟨_, rfl⟩
        obtain ⟨t, h0⟩ := h0
        rw [h0, List.all_cons, decide_eq_false (by omega), Bool.false_and]
      rw [this]
      rfl
    · rw [if_neg hn]
      exact okN_hts l (a - 1) (by omega)
theorem foldl_min_ge : ∀ (l : List Int) (a : Int), decide (0 ≤ l.foldl min a) = (decide (0 ≤ a) && l.all fun x => decide (0 ≤ x))
  | [], a => by rw [List.foldl_nil, List.all_nil, Bool.and_true]
  | b :: l, a => by
    rw [List.foldl_cons, foldl_min_ge l (min a b), List.all_cons]
    by_cases h1 : 0 ≤ a <;> by_cases h2 : 0 ≤ b
    · simp [h1, h2, Int.le_min]
    · simp [h1, h2, Int.le_min]
    · simp [h1, h2, Int.le_min]
    · simp [h1, h2, Int.le_min]
/-- a text of the two signs alone -/
theorem word_pS {z : Str} (h : z.cps.toList.all urB = true) : z = pS (z.cps.toList.map fun c => c == 117) := by
  refine str_ext ?_
  rw [pS_list, List.map_map]
  have : ∀ (l : List Nat), l.all urB = true → l = l.map (bc ∘ fun c => c == 117) := by
    intro l
    induction l with
    | nil => intro _; rfl
    | cons c l ih =>
      intro q
      rw [List.all_cons, Bool.and_eq_true] at q
      rw [List.map_cons, ← ih q.2]
      congr 1
      have q1 := q.1
      unfold urB at q1
      simp only [Function.comp, bc]
      by_cases hc : c = 117
      · simp [hc]
      · simp [hc] at q1
        simp [q1]
  exact this _ h
def notUr : D → Bool
  | .str s => !urB (s.cps.toList.headD 0)
  | _ => false
theorem notIn_ur (c : Nat) : opNotIn (.str ⟨#[c]⟩) (.str ⟨#[117, 114]⟩) = some (.bool (!urB c)) := by
  simp [opNotIn, opIn0, urB]
  by_cases h1 : c = 117 <;> by_cases h2 : c = 114 <;> simp [h1, h2]
theorem bad_signs (z : Str) (hz : z.length ≤ 1000) : ∃ bad, cLc [3] (iE (cVar 0)) (gN 3) (tBl (cOp2 opNotIn (cVar 3) (cC (.str (Str.ofString "ur"))))) (cVar 3) [.pu (.str z), .non, .non, .non] = some (.nw (.list bad), [.pu (.str z), .non, .non, .non]) ∧
    PyData.depthAll bad = 0 ∧ (bad.isEmpty = z.cps.toList.all urB) := by
  have h := cLc_eq (vs := [3]) (it := iE (cVar 0)) (g := gN 3) (t := tBl (cOp2 opNotIn (cVar 3) (cC (.str (Str.ofString "ur"))))) (f := cVar 3)
    (ρ := [.pu (.str z), .non, .non, .non]) (ds := z.cps.toList.map fun c => .str ⟨#[c]⟩)
    (fun x => [.pu (.str z), .non, .non, .pu x]) notUr (fun x => x)
    (by simp [iE, cVar, itemsOf]) rfl (fun x hx => by
      obtain ⟨c, _, rfl⟩ := List.mem_map.mp hx
      simp [gN, setS, wipeR, tBl, cOp2, cVar, s_ur, notIn_ur, notUr]) (line_le (by simp; have : z.cps.size = z.length := rfl; omega))
  refine ⟨_, h, ?_, ?_⟩
  · rw [List.map_id']
    have : ∀ (l : List Nat), PyData.depthAll ((l.map fun c => (.str ⟨#[c]⟩ : D)).filter notUr) = 0 := by
      intro l
      induction l with
      | nil => simp [PyData.depthAll]
      | cons c l ih =>
        rw [List.map_cons, List.filter_cons]
        split
        · simp only [PyData.depthAll, ih, PyData.depth]; rfl
        · exact ih
    exact this _
  · rw [List.map_id']
    generalize z.cps.toList = l
    induction l with
    | nil => rfl
    | cons c l ih =>
      rw [List.map_cons, List.filter_cons, List.all_cons]
      have e : notUr (.str ⟨#[c]⟩) = !urB c := by simp [notUr]
      rw [e]
      cases urB c with
      | true => simpa using ih
      | false => simp
theorem ne_nil (bad : List D) (h : PyData.depthAll bad = 0) : opNe (.list bad) (.list []) = some (.bool (!bad.isEmpty)) := by
  have h1 : PyData.depth (.list []) = 1 := by simp [PyData.depth, PyData.depthAll]
  unfold opNe
  rw [if_pos (by rw [h1]; omega)]
  congr 2
  cases bad <;> simp [PyData.eqv, PyData.eqvAll]
theorem e_law_is_path_no (d : D) (h : sortI d ≠ 3) : m__law_is_path [.v d] = some (.pu (.bool false), []) := by
  have n1 : opNe (.int (sortI d)) (.int 3) = some (.bool true) := by
    simp [opNe, PyData.depth, PyData.eqv, h]
  simp [m__law_is_path, runDef, arS, List.replicate, b__law_is_path, sSeq, sIf, tOr, tBl, cOp2, cCall, aCons, toArs, toAr, slotsOf, wb, cVar, e_sort, n1, sRet, outsOf, retV]
def htD (l : List Bool) : D → D
  | .int k => .int (hAt l k.toNat)
  | _ => .none
theorem fits_hts (l : List Bool) (hw : wordB (pS l) = true) {x : Int} {xs : List Int} (hx : hts 0 l = x :: xs) : fitsS (pS l) = (decide (0 ≤ xs.foldl min x) && (lastI (hts 0 l) == 0)) := by
  have ec : (hts 0 l).all (fun x => decide (0 ≤ x)) = (decide (0 ≤ x) && xs.all fun x => decide (0 ≤ x)) := by rw [hx, List.all_cons]
  unfold fitsS
  rw [hw, Bool.true_and, pS_list, okN_hts l 0 (Int.le_refl 0), foldl_min_ge, ec]
  cases (decide (0 ≤ x) && xs.all fun x => decide (0 ≤ x)) with
  | true => simp
  | false => simp
theorem min_hts (l : List Bool) {x : Int} {xs : List Int} (hx : hts 0 l = x :: xs) : fMin [.list ((hts 0 l).map .int)] = some (.int (xs.foldl min x)) := by
  rw [hx]
  show (intsOf ((x :: xs).map .int)).bind minI = _
  rw [intsOf_map]
  rfl
theorem heights_lc (l : List Bool) (hz : l.length ≤ 1000) : cLc [2] (iRg1 (cOp2n opAdd (cOpA fLen (aCons (cVar 0) aNil)) (cC (.int 1)))) (gN 2) tYes
        (cOp2 opSub (cM "str" .pu mCount (cSl mk opSl (cVar 0) oNo (oSo (cVar 2))) (aCons (cC (.str (Str.ofString "u"))) aNil)) (cM "str" .pu mCount (cSl mk opSl (cVar 0) oNo (oSo (cVar 2))) (aCons (cC (.str (Str.ofString "r"))) aNil)))
        [.pu (.str (pS l)), .non, .non, .non] = some (.nw (.list ((hts 0 l).map .int)), [.pu (.str (pS l)), .non, .non, .non]) := by
  have hlen : fLen [.str (pS l)] = some (.int (l.length : Nat)) := by
    have : l.length ≤ lineN := line_le (by omega)
    simp [fLen, on1, pS_len, this]
  have ha1 : opAdd (.int (l.length : Nat)) (.int 1) = some (.int ((l.length : Int) + 1)) := rfl
  have hsm : small ((l.length : Int) + 1) = true := small_nat (n := l.length + 1) (by omega)
  have hnat : ((l.length : Int) + 1).toNat = l.length + 1 := by omega
  have e : cOp2n opAdd (cOpA fLen (aCons (cVar 0) aNil)) (cC (.int 1)) [.pu (.str (pS l)), .non, .non, .non] = some (.pu (.int ((l.length : Int) + 1)), [.pu (.str (pS l)), .non, .non, .non]) := by
    simp only [cOp2n, cOpA, aCons, cVar, ev_c, ev_anil, Option.bind_some, List.getElem?_cons_zero, ev_stl_pu, ev_cont_pu, conts, hlen, ha1, ev_mk_int]
  have hit : iRg1 (cOp2n opAdd (cOpA fLen (aCons (cVar 0) aNil)) (cC (.int 1))) [.pu (.str (pS l)), .non, .non, .non] = some ((List.range (l.length + 1)).map fun k => .int (k : Nat), [.pu (.str (pS l)), .non, .non, .non]) := by
    rw [iRg1_eq e hsm, hnat, intsD_zero]
  have h := cLc_eq (vs := [2]) (it := iRg1 (cOp2n opAdd (cOpA fLen (aCons (cVar 0) aNil)) (cC (.int 1)))) (g := gN 2) (t := tYes)
    (f := cOp2 opSub (cM "str" .pu mCount (cSl mk opSl (cVar 0) oNo (oSo (cVar 2))) (aCons (cC (.str (Str.ofString "u"))) aNil)) (cM "str" .pu mCount (cSl mk opSl (cVar 0) oNo (oSo (cVar 2))) (aCons (cC (.str (Str.ofString "r"))) aNil)))
    (ρ := [.pu (.str (pS l)), .non, .non, .non]) (ds := (List.range (l.length + 1)).map fun k => .int (k : Nat))
    (fun x => [.pu (.str (pS l)), .non, .pu x, .non]) (fun _ => true) (htD l) hit rfl (fun x hx => by
      obtain ⟨k, _, rfl⟩ := List.mem_map.mp hx
      have hs := sl_to l k (by omega)
      simp [gN, setS, wipeR, cOp2, cVar, s_u, s_r, cM, tyD, cSl, oSo, hs, aCons, conts, cnt_u, cnt_r, opSub, onInts, hAt, htD]) (line_le (by rw [List.length_map, List.length_range]; omega))
  rw [filter_yes, List.map_map] at h
  have e2 : (List.range (l.length + 1)).map (htD l ∘ fun (k : Nat) => PyData.int (k : Nat)) = (hts 0 l).map .int := by
    rw [← hts_at, List.map_map]
    refine List.map_congr_left fun k _ => ?_
    simp [htD]
  rw [e2] at h
  exact h
theorem e_law_is_path (z : Str) (hz : z.length ≤ 1000) : m__law_is_path [.v (.str z)] = some (.pu (.bool (fitsS z)), []) := by
  obtain ⟨bad, hb, hbd, hbe⟩ := bad_signs z hz
  have n1 : opNe (.int 3) (.int 3) = some (.bool false) := by kernel_rfl
  have hlen : fLen [.str z] = some (.int (z.length : Nat)) := by
    have : z.length ≤ lineN := line_le (by omega)
    simp [fLen, on1, this]
  have o0 : (0 : Nat) ≤ lineN := Nat.zero_le _
  have hgt : opGt (.int (z.length : Nat)) (.int 60) = some (.bool (decide ((60 : Int) < z.length))) := rfl
  have hne := ne_nil bad hbd
  by_cases hl : (60 : Int) < z.length
  · have hw : wordB z = false := by
      unfold wordB
      rw [decide_eq_false (by omega), Bool.false_and]
    rw [decide_eq_true hl] at hgt
    have hf : fitsS z = false := by unfold fitsS; rw [hw]; rfl
    rw [hf]
    simp [m__law_is_path, runDef, arS, List.replicate, b__law_is_path, sSeq, sIf, tOr, tBl, cOp2, cCall, aCons, toArs, toAr, slotsOf, wb, cVar, e_sort, sortI, n1, cOpA, conts, hlen, hgt, sRet, outsOf, retV]
  · rw [decide_eq_false hl] at hgt
    by_cases ha : z.cps.toList.all urB = true
    · rw [ha] at hbe
      rw [hbe] at hne
      have hw : wordB z = true := by
        unfold wordB
        rw [decide_eq_true (by omega), ha]; rfl
      have hp := word_pS ha
      generalize z.cps.toList.map (fun c => c == 117) = l at hp
      subst hp
      rw [pS_len] at hz hl hlen
      have h := heights_lc l hz
      have hmin : ∃ x xs, hts 0 l = x :: xs := by
        cases hh : hts 0 l with
        | nil => exact absurd hh (hts_ne l 0)
        | cons x xs => exact ⟨x, xs, rfl⟩
      obtain ⟨x, xs, hx⟩ := hmin
      have hfm := min_hts l hx
      have hge : opGe (.int (xs.foldl min x)) (.int 0) = some (.bool (decide (0 ≤ xs.foldl min x))) := rfl
      have hlx := ix_lastD (hts 0 l) (hts_ne l 0)
      have hfit := fits_hts l hw hx
      rw [hfit]
      have hq : opEq (.int (lastI (hts 0 l))) (.int 0) = some (.bool (lastI (hts 0 l) == 0)) := opEq_int _ _
      have hgt' : opGt (.int (l.length : Nat)) (.int 60) = some (.bool false) := by rw [pS_len] at hgt; exact hgt
      have e0 : b__law_is_path [.pu (.str (pS l)), .non, .non, .non] = some (.rt (.pu (.bool (decide (0 ≤ xs.foldl min x) && (lastI (hts 0 l) == 0)))) [.pu (.str (pS l)), .pu (.list ((hts 0 l).map .int)), .non, .non]) := by
        simp [b__law_is_path, sSeq, sIf, tOr, tBl, cOp2, cCall, aCons, toArs, toAr, slotsOf, wb, cVar, e_sort, sortI, n1, cOpA, conts, hlen, hgt', hb, cLst, pures, hne, h, sAsg, setS, sRet, cAnd, hfm, hge, hlx, cOp, opNeg, hq]
        cases decide (0 ≤ xs.foldl min x) <;> simp
      simp [m__law_is_path, runDef, arS, List.replicate, e0, outsOf, retV]
    · have ha' : z.cps.toList.all urB = false := by simpa using ha
      rw [ha'] at hbe
      rw [hbe] at hne
      have hw : wordB z = false := by
        unfold wordB
        rw [ha', Bool.and_false]
      have hf : fitsS z = false := by unfold fitsS; rw [hw]; rfl
      rw [hf]
      simp [m__law_is_path, runDef, arS, List.replicate, b__law_is_path, sSeq, sIf, tOr, tBl, cOp2, cCall, aCons, toArs, toAr, slotsOf, wb, cVar, e_sort, sortI, n1, cOpA, conts, hlen, hgt, hb, cLst, pures, hne, sRet, outsOf, retV]

theorem ok_t {a b : Int} {l : List Bool} (h : okN a ((true :: l).map bc) = some b) : 0 ≤ a + 1 ∧ okN (a + 1) (l.map bc) = some b := by
  rw [List.map_cons] at h
  unfold okN at h
  have e : a + (if (bc true == 117) = true then (1 : Int) else -1) = a + 1 := by simp [bc]
  rw [e] at h
  by_cases hn : a + 1 < 0
  · rw [if_pos hn] at h; cases h
  · rw [if_neg hn] at h; exact ⟨by omega, h⟩
theorem ok_f {a b : Int} {l : List Bool} (h : okN a ((false :: l).map bc) = some b) : 0 ≤ a - 1 ∧ okN (a - 1) (l.map bc) = some b := by
  rw [List.map_cons] at h
  unfold okN at h
  have e : a + (if (bc false == 117) = true then (1 : Int) else -1) = a - 1 := by simp [bc]; omega
  rw [e] at h
  by_cases hn : a - 1 < 0
  · rw [if_pos hn] at h; cases h
  · rw [if_neg hn] at h; exact ⟨by omega, h⟩
theorem ok_snoc_t {a e : Int} {l : List Bool} (h : okN a (l.map bc) = some e) (he : 0 ≤ e) : okN a ((l ++ [true]).map bc) = some (e + 1) := by
  rw [List.map_append, List.map_cons, List.map_nil, okN_snoc, h]
  have : ¬ e + 1 < 0 := by omega
  simp [bc, this]
theorem ok_snoc_f {a e : Int} {l : List Bool} (h : okN a (l.map bc) = some e) (he : 1 ≤ e) : okN a ((l ++ [false]).map bc) = some (e - 1) := by
  rw [List.map_append, List.map_cons, List.map_nil, okN_snoc, h]
  have : ¬ e + -1 < 0 := by omega
  simp [bc, this]
  omega
theorem ok_end : ∀ (l : List Bool) (a b : Int), okN a (l.map bc) = some b → b = a + (l.count true : Nat) - (l.count false : Nat)
  | [], a, b, h => by
    have : a = b := by simpa [okN] using h
    simp [this]
  | true :: l, a, b, h => by
    have := ok_end l _ _ (ok_t h).2
    simp; omega
  | false :: l, a, b, h => by
    have := ok_end l _ _ (ok_f h).2
    simp; omega
theorem row_bd : ∀ (l : List Bool) (a b : Int), 0 ≤ a → okN a (l.map bc) = some b → ∀ x ∈ rowB a l, 0 ≤ x ∧ x ≤ a + (l.count true : Nat) - 1
  | [], a, b, _, _, x, hx => by cases hx
  | true :: l, a, b, ha, h, x, hx => by
    simp only [rowB] at hx
    simp only [List.count_cons_self]
    rcases List.mem_cons.mp hx with rfl | hx
    · omega
    · have := row_bd l (a + 1) b (by omega) (ok_t h).2 x hx
      omega
  | false :: l, a, b, ha, h, x, hx => by
    simp only [rowB] at hx
    have := row_bd l (a - 1) b (ok_f h).1 (ok_f h).2 x hx
    simp
    omega
theorem row_rise : ∀ (l : List Bool) (a p : Int), a ≤ p + 1 → ((p :: rowB a l).zip (rowB a l)).all (fun q => decide (q.2 ≤ q.1 + 1)) = true
  | [], a, p, _ => rfl
  | true :: l, a, p, h => by
    have ih := row_rise l (a + 1) a (by omega)
    simp only [rowB, List.zip_cons_cons, List.all_cons, ih, Bool.and_true, decide_eq_true_eq]
    exact h
  | false :: l, a, p, h => by
    have ih := row_rise l (a - 1) p (by omega)
    simp only [rowB]
    exact ih
theorem row_cnt : ∀ (l : List Bool) (a : Int), (rowB a l).length = l.count true
  | [], _ => rfl
  | true :: l, a => by simp [rowB, row_cnt l (a + 1)]
  | false :: l, a => by simp [rowB, row_cnt l (a - 1)]
theorem hgt_cnt : ∀ (l : List Bool) (a : Int), (hgtB a l).length = l.count false
  | [], _ => rfl
  | true :: l, a => by simp [hgtB, hgt_cnt l (a + 1)]
  | false :: l, a => by simp [hgtB, hgt_cnt l a]
theorem path_row : ∀ (l : List Bool) (a b : Int), b ≤ a → okN b (l.map bc) = some 0 → pathI a (rowB b l) = List.replicate (a - b).toNat false ++ l
  | [], a, b, h, ho => by
    have : b = 0 := by simpa [okN] using ho
    subst this
    simp [rowB, pathI]
  | true :: l, a, b, h, ho => by
    have ih := path_row l (b + 1) (b + 1) (by omega) (ok_t ho).2
    simp [rowB, pathI, ih]
  | false :: l, a, b, h, ho => by
    have ih := path_row l a (b - 1) (by omega) (ok_f ho).2
    have e : (a - (b - 1)).toNat = (a - b).toNat + 1 := by omega
    rw [rowB, ih, e, List.replicate_succ', List.append_assoc]
    rfl
theorem path_row0 {l : List Bool} (h : okN 0 (l.map bc) = some 0) : pathI 0 (rowB 0 l) = l := by
  simpa using path_row l 0 0 (by omega) h
theorem hgt_bd : ∀ (l : List Bool) (a k : Int), 0 ≤ a → okN a (l.map bc) = some 0 → ∀ i, i < (hgtB k l).length → k - a + i < (hgtB k l).getD i 0 ∧ (hgtB k l).getD i 0 ≤ k + (l.count true : Nat)
  | [], a, k, _, _, i, hi => by simp [hgtB] at hi
  | true :: l, a, k, ha, h, i, hi => by
    simp only [hgtB] at hi ⊢
    have := hgt_bd l (a + 1) (k + 1) (by omega) (ok_t h).2 i hi
    rw [List.count_cons_self]
    omega
  | false :: l, a, k, ha, h, i, hi => by
    simp only [hgtB] at hi ⊢
    have h1 := (ok_f h).1
    cases i with
    | zero => simp; omega
    | succ i =>
      have := hgt_bd l (a - 1) k h1 (ok_f h).2 i (by simpa using hi)
      simp at this ⊢
      omega
theorem climb {l : List Bool} {n : Nat} (h : Dyck l n) : Climb (hgtB 0 l) := fun i hi => by
  have := hgt_bd l 0 0 (Int.le_refl _) h.1 i hi
  have e := hgt_cnt l 0
  rw [h.2.2] at e
  rw [h.2.1] at this
  rw [e]
  omega
theorem bnc_last (hs : List Int) (hc : Climb hs) : ∀ (m : Nat) (x : Int), 0 ≤ x → x ≤ hs.length → (hs.length : Int) ≤ x + m → lastI (x :: bnc hs m x) = hs.length
  | 0, x, h0, h1, h2 => by
    simp [bnc, lastI]; omega
  | m + 1, x, h0, h1, h2 => by
    unfold bnc
    by_cases hx : x < hs.length
    · rw [if_pos hx]
      obtain ⟨c1, c2⟩ := hc x.toNat (by omega)
      have ih := bnc_last hs hc m (hs.getD x.toNat 0) (by omega) c2 (by omega)
      unfold lastI at ih ⊢
      rw [List.getLastD_cons]
      exact ih
    · rw [if_neg hx]
      simp [lastI]; omega
theorem bnc_len (hs : List Int) : ∀ (m : Nat) (x : Int), (bnc hs m x).length ≤ m
  | 0, _ => Nat.le_refl _
  | m + 1, x => by
    unfold bnc
    split
    · simpa using bnc_len hs m _
    · simp
theorem bncAll_last {l : List Bool} {n : Nat} (h : Dyck l n) : lastI (bncAll l) = n := by
  unfold bncAll
  rw [bnc_last _ (climb h) _ 0 (Int.le_refl _) (by omega) (by omega), hgt_cnt, h.2.2]
theorem bncAll_len {l : List Bool} {n : Nat} (h : Dyck l n) : (bncAll l).length ≤ n + 1 := by
  unfold bncAll
  have := bnc_len (hgtB 0 l) (hgtB 0 l).length 0
  rw [hgt_cnt, h.2.2] at this
  rw [List.length_cons, hgt_cnt, h.2.2]
  omega
/-- each step of the bounces, times how many there are ahead of it -/
theorem abel : ∀ (bs : List Int) (b : Int) (k : Nat), ((((b :: bs).zip bs).map fun p => p.2 - p.1).zipIdx k |>.map fun p => ((p.2 : Nat) : Int) * p.1).sum = (bs.map fun o => lastI (b :: bs) - o).sum + (k : Int) * (lastI (b :: bs) - b)
  | [], b, k => by simp [lastI]
  | c :: bs, b, k => by
    have ih := abel bs c (k + 1)
    have e : lastI (b :: c :: bs) = lastI (c :: bs) := by simp [lastI]
    rw [e]
    simp only [List.zip_cons_cons, List.map_cons, List.zipIdx_cons, List.sum_cons, ih]
    generalize lastI (c :: bs) = z
    rw [show ((k + 1 : Nat) : Int) = (k : Int) + 1 by omega, Int.add_mul, Int.mul_sub, Int.mul_sub, Int.mul_sub (k : Int) z b]
    generalize (k : Int) * z = x1
    generalize (k : Int) * c = x2
    generalize (k : Int) * b = x3
    omega
def rf (l : List Bool) : List Bool := (l.reverse).map (!·)
theorem rf_cons (b : Bool) (l : List Bool) : rf (b :: l) = rf l ++ [!b] := by simp [rf]
theorem rf_ok : ∀ (l : List Bool) (a b : Int), 0 ≤ a → okN a (l.map bc) = some b → okN b ((rf l).map bc) = some a
  | [], a, b, _, h => by
    have : a = b := by simpa [okN] using h
    subst this; rfl
  | true :: l, a, b, ha, h => by
    have ih := rf_ok l (a + 1) b (by omega) (ok_t h).2
    rw [rf_cons]
    have := ok_snoc_f ih (by omega)
    rw [show (!true) = false from rfl, this]
    congr 1
    omega
  | false :: l, a, b, ha, h => by
    have h1 := (ok_f h).1
    have ih := rf_ok l (a - 1) b h1 (ok_f h).2
    rw [rf_cons]
    have := ok_snoc_t ih h1
    rw [show (!false) = true from rfl, this]
    congr 1
    omega
theorem rf_cnt (c : Bool) : ∀ l : List Bool, (rf l).count c = l.count (!c)
  | [] => rfl
  | b :: l => by
    rw [rf_cons, List.count_append, rf_cnt c l]
    cases b <;> cases c <;> simp
theorem rf_dyck {l : List Bool} {n : Nat} (h : Dyck l n) : Dyck (rf l) n :=
  ⟨rf_ok l 0 0 (Int.le_refl _) h.1, by rw [rf_cnt]; exact h.2.2, by rw [rf_cnt]; exact h.2.1⟩
theorem adj_cons (a b : Bool) (l : List Bool) : adj (a :: b :: l) = adj (b :: l) + (if a = true ∧ b = false then 1 else 0) := by
  cases a <;> cases b <;> simp [adj]
theorem adj_snoc : ∀ (l : List Bool) (b c : Bool), adj (l ++ [b, c]) = adj (l ++ [b]) + (if b = true ∧ c = false then 1 else 0)
  | [], b, c => by rw [List.nil_append, List.nil_append, adj_cons]; cases b <;> cases c <;> simp [adj]
  | [a], b, c => by
    simp only [List.cons_append, List.nil_append, adj_cons]
    cases a <;> cases b <;> cases c <;> simp [adj]
  | a :: a' :: l, b, c => by
    have ih := adj_snoc (a' :: l) b c
    simp only [List.cons_append] at ih ⊢
    rw [adj_cons, adj_cons, ih]
    omega
theorem adj_rf : ∀ l : List Bool, adj (rf l) = adj l
  | [] => rfl
  | [a] => by cases a <;> rfl
  | a :: b :: l => by
    have ih := adj_rf (b :: l)
    rw [rf_cons] at ih
    rw [rf_cons, rf_cons, List.append_assoc, List.cons_append, List.nil_append, adj_snoc, ih, adj_cons]
    cases a <;> cases b <;> simp
/-- the heights at which steps to the right end -/
def dnB : Int → List Bool → Int
  | _, [] => 0
  | a, true :: l => dnB (a + 1) l
  | a, false :: l => (a - 1) + dnB (a - 1) l
theorem row_snoc_t : ∀ (l : List Bool) (a : Int), (rowB a (l ++ [true])).sum = (rowB a l).sum + (a + (l.count true : Nat) - (l.count false : Nat))
  | [], a => by simp [rowB]
  | true :: l, a => by
    have := row_snoc_t l (a + 1)
    simp [rowB, this]; omega
  | false :: l, a => by
    have := row_snoc_t l (a - 1)
    simp [rowB, this]; omega
theorem row_snoc_f : ∀ (l : List Bool) (a : Int), rowB a (l ++ [false]) = rowB a l
  | [], a => by simp [rowB]
  | true :: l, a => by
    have := row_snoc_f l (a + 1)
    simp [rowB, this]
  | false :: l, a => by
    have := row_snoc_f l (a - 1)
    simp [rowB, this]
theorem row_rf : ∀ (l : List Bool) (a b : Int), b = a + (l.count true : Nat) - (l.count false : Nat) → (rowB b (rf l)).sum = dnB a l
  | [], a, b, _ => rfl
  | true :: l, a, b, h => by
    rw [rf_cons, show (!true) = false from rfl, row_snoc_f]
    exact row_rf l (a + 1) b (by simp at h; omega)
  | false :: l, a, b, h => by
    rw [rf_cons, show (!false) = true from rfl, row_snoc_t, row_rf l (a - 1) b (by simp at h; omega), rf_cnt, rf_cnt]
    simp [dnB] at h ⊢
    omega
theorem row_dn : ∀ (l : List Bool) (a b : Int), b = a + (l.count true : Nat) - (l.count false : Nat) → 2 * (rowB a l).sum - 2 * dnB a l = b * (b - 1) - a * (a - 1)
  | [], a, b, h => by
    have : b = a := by simpa using h
    subst this; simp [rowB, dnB]
  | true :: l, a, b, h => by
    have ih := row_dn l (a + 1) b (by simp at h; omega)
    simp only [rowB, dnB, List.sum_cons]
    have e : (a + 1) * (a + 1 - 1) = a * (a - 1) + 2 * a := by
      rw [Int.add_sub_cancel, Int.add_mul, Int.mul_sub]; omega
    rw [e] at ih
    omega
  | false :: l, a, b, h => by
    have ih := row_dn l (a - 1) b (by simp at h; omega)
    simp only [rowB, dnB]
    have e : (a - 1) * (a - 1 - 1) = a * (a - 1) - 2 * (a - 1) := by
      rw [Int.sub_mul, Int.mul_sub, Int.mul_sub]; omega
    rw [e] at ih
    omega
theorem area_rf {l : List Bool} {n : Nat} (h : Dyck l n) : (rowB 0 (rf l)).sum = (rowB 0 l).sum := by
  have e : (0 : Int) = 0 + (l.count true : Nat) - (l.count false : Nat) := by rw [h.2.1, h.2.2]; omega
  rw [row_rf l 0 0 e]
  have := row_dn l 0 0 e
  simp at this
  omega
/-- how many r are ahead of each u -/
def rB : Int → List Bool → List Int
  | _, [] => []
  | k, true :: l => k :: rB k l
  | k, false :: l => rB (k + 1) l
theorem bes_row : ∀ (l : List Bool) (a : Int) (k : Nat), ((rowB a l).zipIdx k).map (fun p => ((p.2 : Nat) : Int) - p.1) = rB (k - a) l
  | [], _, _ => rfl
  | true :: l, a, k => by
    have ih := bes_row l (a + 1) (k + 1)
    simp only [rowB, List.zipIdx_cons, List.map_cons, rB, ih]
    congr 2
    omega
  | false :: l, a, k => by
    have ih := bes_row l (a - 1) k
    simp only [rowB, rB, ih]
    congr 1
    omega
theorem bes_rB : ∀ (l : List Bool) (a : Int) (k : Nat), ((rB (k - a) l).zipIdx k).map (fun p => ((p.2 : Nat) : Int) - p.1) = rowB a l
  | [], _, _ => rfl
  | true :: l, a, k => by
    have ih := bes_rB l (a + 1) (k + 1)
    rw [show ((k + 1 : Nat) : Int) - (a + 1) = k - a by omega] at ih
    simp only [rowB, List.zipIdx_cons, List.map_cons, rB, ih]
    congr 1
    omega
  | false :: l, a, k => by
    have ih := bes_rB l (a - 1) k
    rw [show (k : Int) - (a - 1) = k - a + 1 by omega] at ih
    simp only [rowB, rB, ih]
theorem besI_row (l : List Bool) : besI (rowB 0 l) = rB 0 l := by
  have := bes_row l 0 0
  simpa [besI] using this
theorem besI_rB (l : List Bool) : besI (rB 0 l) = rowB 0 l := by
  have := bes_rB l 0 0
  simpa [besI] using this
theorem rB_ge : ∀ (l : List Bool) (k : Int), ∀ x ∈ rB k l, k ≤ x
  | [], _, x, h => by cases h
  | true :: l, k, x, h => by
    simp only [rB] at h
    rcases List.mem_cons.mp h with rfl | h
    · exact Int.le_refl _
    · exact rB_ge l k x h
  | false :: l, k, x, h => by
    simp only [rB] at h
    have := rB_ge l (k + 1) x h
    omega
theorem rB_up : ∀ (l : List Bool) (k : Int), (rB k l).Pairwise (· ≤ ·)
  | [], _ => List.Pairwise.nil
  | true :: l, k => List.pairwise_cons.mpr ⟨fun x h => rB_ge l k x h, rB_up l k⟩
  | false :: l, k => rB_up l (k + 1)
theorem rB_len : ∀ (l : List Bool) (k : Int), (rB k l).length = l.count true
  | [], _ => rfl
  | true :: l, k => by simp [rB, rB_len l k]
  | false :: l, k => by simp [rB, rB_len l (k + 1)]
/-- the piles beside a path -/
def pilesB (l : List Bool) : List Int := ((rB 0 l).filter fun n => decide (0 < n)).reverse
theorem laid_rB (l : List Bool) : laidI (rB 0 l) = pilesB l := by
  unfold laidI pilesB
  refine (srtDn_eq (List.reverse_perm _) ?_).symm
  rw [List.pairwise_reverse]
  exact (rB_up l 0).filter _
theorem srt_rB (l : List Bool) : srtUp (rB 0 l) = rB 0 l := (srtUp_eq (List.Perm.refl _) (rB_up l 0)).symm
theorem split_zero : ∀ (ns : List Int), ns.Pairwise (· ≤ ·) → (∀ x ∈ ns, 0 ≤ x) → ns = List.replicate (ns.length - (ns.filter fun n => decide (0 < n)).length) 0 ++ ns.filter fun n => decide (0 < n)
  | [], _, _ => rfl
  | a :: ns, hp, h0 => by
    obtain ⟨p1, p2⟩ := List.pairwise_cons.mp hp
    by_cases ha : 0 < a
    · have e : (a :: ns).filter (fun n => decide (0 < n)) = a :: ns := List.filter_eq_self.mpr fun x hx => by
        rcases List.mem_cons.mp hx with rfl | hx
        · simpa using ha
        · have := p1 x hx
          simp; omega
      rw [e, Nat.sub_self]; rfl
    · have ha0 : a = 0 := by have := h0 a List.mem_cons_self; omega
      subst ha0
      have ih := split_zero ns p2 fun x hx => h0 x (List.mem_cons_of_mem _ hx)
      rw [List.filter_cons_of_neg (by simp)]
      have hl : (ns.filter fun n => decide (0 < n)).length ≤ ns.length := List.length_filter_le _ _
      rw [show (0 :: ns).length - (ns.filter fun n => decide (0 < n)).length = (ns.length - (ns.filter fun n => decide (0 < n)).length) + 1 by simp; omega, List.replicate_succ, List.cons_append, ← ih]
theorem zeros_piles {l : List Bool} {n : Nat} (h : Dyck l n) : List.replicate ((n : Int) - (pilesB l).length).toNat (0 : Int) ++ (pilesB l).reverse = rB 0 l := by
  have := split_zero (rB 0 l) (rB_up l 0) (rB_ge l 0)
  rw [rB_len, h.2.1] at this
  unfold pilesB
  rw [List.reverse_reverse, List.length_reverse]
  rw [show ((n : Int) - ((rB 0 l).filter fun n => decide (0 < n)).length).toNat = n - ((rB 0 l).filter fun n => decide (0 < n)).length by omega]
  exact this.symm
theorem piles_len {l : List Bool} {n : Nat} (h : Dyck l n) : (pilesB l).length ≤ n := by
  unfold pilesB
  rw [List.length_reverse]
  have := List.length_filter_le (fun n : Int => decide (0 < n)) (rB 0 l)
  rw [rB_len, h.2.1] at this
  exact this
theorem fall_of : ∀ (ns : List Int), ns.Pairwise (· ≥ ·) → fallI ns = true
  | [], _ => rfl
  | [a], _ => rfl
  | a :: b :: ns, h => by
    obtain ⟨p1, p2⟩ := List.pairwise_cons.mp h
    have ih := fall_of (b :: ns) p2
    have := p1 b List.mem_cons_self
    simp only [fallI, ih, Bool.and_true, decide_eq_true_eq]
    exact this
theorem piles_fall (l : List Bool) : fallI (pilesB l) = true := by
  refine fall_of _ ?_
  unfold pilesB
  rw [List.pairwise_reverse]
  exact (rB_up l 0).filter _
theorem sum_filter_pos : ∀ (ns : List Int), (∀ x ∈ ns, 0 ≤ x) → (ns.filter fun n => decide (0 < n)).sum = ns.sum
  | [], _ => rfl
  | a :: ns, h => by
    have ih := sum_filter_pos ns fun x hx => h x (List.mem_cons_of_mem _ hx)
    have := h a List.mem_cons_self
    rw [List.filter_cons]
    split
    · simp [ih]
    · rename_i hn
      have : a = 0 := by simp at hn; omega
      simp [ih, this]
theorem sum_rev (ns : List Int) : ns.reverse.sum = ns.sum := by
  induction ns with
  | nil => rfl
  | cons a ns ih => simp [ih]; omega
theorem piles_sum (l : List Bool) : (pilesB l).sum = (rB 0 l).sum := by
  unfold pilesB
  rw [sum_rev, sum_filter_pos _ (rB_ge l 0)]
theorem rB_row : ∀ (l : List Bool) (a : Int) (k : Nat), 2 * ((rB (k - a) l).sum + (rowB a l).sum) = (k + (l.count true : Nat)) * (k + (l.count true : Nat) - 1) - k * (k - 1)
  | [], a, k => by simp [rB, rowB]
  | true :: l, a, k => by
    have ih := rB_row l (a + 1) (k + 1)
    rw [show ((k + 1 : Nat) : Int) - (a + 1) = k - a by omega] at ih
    simp only [rB, rowB, List.sum_cons, List.count_cons_self]
    generalize (rB (k - a) l).sum = x at ih ⊢
    generalize (rowB (a + 1) l).sum = y at ih ⊢
    generalize l.count true = c at ih ⊢
    rw [show (((k + 1 : Nat) : Int) + (c : Int)) = (k : Int) + ((c + 1 : Nat) : Int) by omega] at ih
    generalize ((k : Int) + ((c + 1 : Nat) : Int)) * ((k : Int) + ((c + 1 : Nat) : Int) - 1) = w at ih ⊢
    have e : ((k + 1 : Nat) : Int) * (((k + 1 : Nat) : Int) - 1) = k * (k - 1) + 2 * k := by
      rw [show ((k + 1 : Nat) : Int) = (k : Int) + 1 by omega, Int.add_sub_cancel, Int.add_mul, Int.mul_sub]; omega
    rw [e] at ih
    omega
  | false :: l, a, k => by
    have ih := rB_row l (a - 1) k
    rw [show (k : Int) - (a - 1) = k - a + 1 by omega] at ih
    simpa [rB, rowB] using ih
theorem rB_le : ∀ (l : List Bool) (a k : Int), 0 ≤ a → okN a (l.map bc) = some 0 → ∀ (i : Nat), i < (rB k l).length → (rB k l).getD i 0 ≤ k + a + i
  | [], a, k, _, _, i, hi => by simp [rB] at hi
  | true :: l, a, k, ha, h, i, hi => by
    simp only [rB] at hi ⊢
    cases i with
    | zero => simp; omega
    | succ i =>
      have := rB_le l (a + 1) k (by omega) (ok_t h).2 i (by simpa using hi)
      simp at this ⊢
      omega
  | false :: l, a, k, ha, h, i, hi => by
    simp only [rB] at hi ⊢
    have := rB_le l (a - 1) (k + 1) (ok_f h).1 (ok_f h).2 i hi
    omega
theorem piles_get {l : List Bool} {n : Nat} (h : Dyck l n) (i : Nat) (hi : i < (pilesB l).length) : (pilesB l)[i] ≤ (n : Int) - 1 - i := by
  have z := zeros_piles h
  have hl := piles_len h
  have hn : (rB 0 l).length = n := by rw [rB_len, h.2.1]
  have b := rB_le l 0 0 (Int.le_refl _) h.1 (n - 1 - i) (by omega)
  have e : (rB 0 l).getD (n - 1 - i) 0 = (pilesB l)[i] := by
    rw [← z, List.getD_eq_getElem?_getD, List.getElem?_append_right (by simp; omega), List.length_replicate]
    rw [List.getElem?_reverse (by omega)]
    rw [show (pilesB l).length - 1 - (n - 1 - i - ((n : Int) - ((pilesB l).length : Nat)).toNat) = i by omega]
    rw [List.getElem?_eq_getElem hi]
    rfl
  rw [e] at b
  omega
theorem stair_of (n : Int) (ns : List Int) (h : ∀ (i : Nat) (hi : i < ns.length), ns[i] ≤ n - 1 - i) : stairB n ns = true := by
  unfold stairB
  rw [List.all_map, List.all_eq_true]
  rintro ⟨x, i⟩ hx
  have := List.mem_zipIdx hx
  obtain ⟨_, h1, h2⟩ := this
  have := h i (by simpa using h1)
  simp at h2
  simp [h2]
  exact this
theorem piles_stair {l : List Bool} {n : Nat} (h : Dyck l n) : stairB n (pilesB l) = true := stair_of _ _ (piles_get h)
theorem piles_mem {l : List Bool} {n : Nat} (h : Dyck l n) : ∀ x ∈ pilesB l, 1 ≤ x ∧ x ≤ n := fun x hx => by
  obtain ⟨i, hi, rfl⟩ := List.mem_iff_getElem.mp hx
  have h1 := piles_get h i hi
  have h2 : (pilesB l)[i] ∈ (rB 0 l).filter fun n => decide (0 < n) := by
    have := List.getElem_mem hi
    unfold pilesB at this
    exact List.mem_reverse.mp this
  have := (List.mem_filter.mp h2).2
  simp at this
  omega
theorem piles_area {l : List Bool} {n : Nat} (h : Dyck l n) : 2 * ((pilesB l).sum + (rowB 0 l).sum) = (n : Int) * (n - 1) := by
  have := rB_row l 0 0
  rw [piles_sum]
  rw [h.2.1] at this
  simpa using this
theorem row_nn {l : List Bool} {n : Nat} (h : Dyck l n) : 0 ≤ (rowB 0 l).sum := by
  have := row_bd l 0 0 (Int.le_refl _) h.1
  revert this
  generalize rowB 0 l = ns
  intro this
  induction ns with
  | nil => simp
  | cons a ns ih =>
    have h1 := (this a List.mem_cons_self).1
    have h2 := ih fun x hx => this x (List.mem_cons_of_mem _ hx)
    simp; omega
theorem piles_heights {l : List Bool} {n : Nat} (h : Dyck l n) (hn : n ≤ 24) : heightsB 1 (pilesB l) = true := by
  have h1 := piles_len h
  have h2 := piles_mem h
  have h3 := piles_area h
  have h4 := row_nn h
  have h5 : (n : Int) * (n - 1) ≤ 24 * 23 := by
    have a1 : (n : Int) * (n - 1) ≤ (n : Int) * 23 := Int.mul_le_mul_of_nonneg_left (by omega) (by omega)
    omega
  unfold heightsB
  rw [decide_eq_true (by omega), decide_eq_true (by omega)]
  simp
  intro x hx
  have := h2 x hx
  omega
def uA : List Bool → List Int
  | [] => []
  | true :: l => uA l
  | false :: l => (l.count true : Nat) :: uA l
theorem rB_snoc_t : ∀ (l : List Bool) (k : Int), rB k (l ++ [true]) = rB k l ++ [k + (l.count false : Nat)]
  | [], k => by simp [rB]
  | true :: l, k => by simp [rB, rB_snoc_t l k]
  | false :: l, k => by simp [rB, rB_snoc_t l (k + 1)]; omega
theorem rB_snoc_f : ∀ (l : List Bool) (k : Int), rB k (l ++ [false]) = rB k l
  | [], k => by simp [rB]
  | true :: l, k => by simp [rB, rB_snoc_f l k]
  | false :: l, k => by simp [rB, rB_snoc_f l (k + 1)]
theorem rB_rf : ∀ l : List Bool, rB 0 (rf l) = (uA l).reverse
  | [] => rfl
  | true :: l => by rw [rf_cons, show (!true) = false from rfl, rB_snoc_f, rB_rf l]; rfl
  | false :: l => by
    rw [rf_cons, show (!false) = true from rfl, rB_snoc_t, rB_rf l, rf_cnt]
    simp [uA]
theorem uA_cnt : ∀ (l : List Bool) (k : Int), uA l = (List.range (l.count false)).map fun (j : Nat) => (((rB k l).countP fun n => decide (k + (j : Int) < n) : Nat) : Int)
  | [], k => rfl
  | true :: l, k => by
    have ih := uA_cnt l k
    simp only [uA, rB]
    rw [ih]
    simp
    intro j hj
    rw [List.countP_cons_of_neg (by simp; omega)]
  | false :: l, k => by
    have ih := uA_cnt l (k + 1)
    simp only [uA, rB, List.count_cons_self]
    rw [List.range_succ_eq_map, List.map_cons, List.map_map, ih]
    congr 1
    · have : (rB (k + 1) l).countP (fun n => decide (k + ((0 : Nat) : Int) < n)) = (rB (k + 1) l).length := List.countP_eq_length.mpr fun x hx => by
        have := rB_ge l (k + 1) x hx
        simp; omega
      rw [this, rB_len]
    · refine List.map_congr_left fun j _ => ?_
      simp only [Function.comp]
      congr 2
      funext n
      congr 1
      have : k + 1 + (j : Int) = k + (j + 1 : Nat) := by omega
      simp
      omega
theorem maxZ_ge (ns : List Int) : ∀ x ∈ ns, x ≤ maxZ ns := by
  unfold maxZ
  have key : ∀ (l : List Int) (a : Int), a ≤ l.foldl max a ∧ ∀ x ∈ l, x ≤ l.foldl max a := by
    intro l
    induction l with
    | nil => intro a; exact ⟨Int.le_refl a, fun x h => by cases h⟩
    | cons b l ih =>
      intro a
      obtain ⟨h1, h2⟩ := ih (max a b)
      refine ⟨Int.le_trans (Int.le_max_left a b) h1, fun x hx => ?_⟩
      rcases List.mem_cons.mp hx with rfl | hx
      · exact Int.le_trans (Int.le_max_right a x) h1
      · exact h2 x hx
  exact (key ns 0).2
theorem maxZ_nn (ns : List Int) : 0 ≤ maxZ ns := by
  unfold maxZ
  have key : ∀ (l : List Int) (a : Int), a ≤ l.foldl max a := by
    intro l
    induction l with
    | nil => intro a; exact Int.le_refl a
    | cons b l ih => intro a; exact Int.le_trans (Int.le_max_left a b) (ih _)
  exact key ns 0
theorem maxZ_mem (ns : List Int) : 0 < maxZ ns → maxZ ns ∈ ns := by
  unfold maxZ
  have key : ∀ (l : List Int) (a : Int), l.foldl max a = a ∨ l.foldl max a ∈ l := by
    intro l
    induction l with
    | nil => intro a; exact .inl rfl
    | cons b l ih =>
      intro a
      rw [List.foldl_cons]
      rcases ih (max a b) with h | h
      · rw [h]
        by_cases hab : a ≤ b
        · right; rw [Int.max_eq_right hab]; exact List.mem_cons_self
        · left; rw [Int.max_eq_left (by omega)]
      · exact .inr (List.mem_cons_of_mem _ h)
  intro h
  rcases key ns 0 with e | e
  · omega
  · exact e
theorem filter_range_map (f : Nat → Int) : ∀ (N M : Nat), M ≤ N → (∀ j, j < N → (0 < f j ↔ j < M)) → ((List.range N).map f).filter (fun n => decide (0 < n)) = (List.range M).map f
  | 0, M, h, _ => by
    have : M = 0 := by omega
    subst this; rfl
  | N + 1, M, h, k => by
    rw [List.range_succ, List.map_append, List.filter_append]
    by_cases hM : M = N + 1
    · subst hM
      have e : ((List.range N).map f).filter (fun n => decide (0 < n)) = (List.range N).map f := List.filter_eq_self.mpr fun x hx => by
        obtain ⟨j, hj, rfl⟩ := List.mem_map.mp hx
        have hj' := List.mem_range.mp hj
        have := (k j (by omega)).mpr (by omega)
        simpa using this
      have e2 : ([N].map f).filter (fun n => decide (0 < n)) = [N].map f := List.filter_eq_self.mpr fun x hx => by
        obtain ⟨j, hj, rfl⟩ := List.mem_map.mp hx
        have hj' : j = N := by simpa using hj
        have := (k j (by omega)).mpr (by omega)
        simpa using this
      rw [e, e2, List.range_succ, List.map_append]
    · have ih := filter_range_map f N M (by omega) fun j hj => k j (by omega)
      rw [ih]
      have hN := k N (by omega)
      have : ¬ 0 < f N := fun q => by have := hN.mp q; omega
      simp [this]
theorem piles_turned {l : List Bool} {n : Nat} (h : Dyck l n) : pilesB (rf l) = turnI (pilesB l) := by
  have hm := piles_mem h
  have e1 : pilesB (rf l) = (uA l).filter fun n => decide (0 < n) := by
    unfold pilesB
    rw [rB_rf, List.filter_reverse, List.reverse_reverse]
  have e2 := uA_cnt l 0
  have hcnt : ∀ j : Nat, (rB 0 l).countP (fun n => decide (0 + (j : Int) < n)) = (pilesB l).countP fun n => decide ((j : Int) < n) := fun j => by
    unfold pilesB
    rw [List.countP_reverse, List.countP_filter]
    congr 1
    funext x
    by_cases hx : (j : Int) < x
    · simp [hx]; omega
    · simp [hx]
  rw [e1, e2, h.2.2]
  unfold turnI
  have e3 : (fun (j : Nat) => (((rB 0 l).countP fun n => decide (0 + (j : Int) < n) : Nat) : Int)) = fun (c : Nat) => (((pilesB l).countP fun n => decide ((c : Int) < n) : Nat) : Int) := by
    funext j
    rw [hcnt j]
  rw [e3]
  refine filter_range_map _ n (maxZ (pilesB l)).toNat ?_ ?_
  · have h0 := maxZ_nn (pilesB l)
    by_cases hz : 0 < maxZ (pilesB l)
    · have := hm _ (maxZ_mem _ hz)
      omega
    · omega
  · intro j hj
    constructor
    · intro hp
      have hp' : 0 < (pilesB l).countP fun n => decide ((j : Int) < n) := by omega
      obtain ⟨x, hx, hx2⟩ := List.countP_pos_iff.mp hp'
      have := maxZ_ge _ x hx
      simp at hx2
      omega
    · intro hlt
      have : 0 < (pilesB l).countP fun n => decide ((j : Int) < n) := List.countP_pos_iff.mpr ⟨maxZ (pilesB l), maxZ_mem _ (by omega), by simp; omega⟩
      omega

theorem in_01 (a o : Int) : opIn (.int (a - o)) (.tuple [.int 0, .int 1]) = some (.bool (nearB a o)) := by
  have h : (PyData.eqv (.int 0) (.int (a - o)) || PyData.eqv (.int 1) (.int (a - o))) = nearB a o := by
    unfold nearB
    rw [Bool.eq_iff_iff]
    simp [PyData.eqv]
    omega
  simp [opIn, opIn0, PyData.depth, PyData.depthAll, h]
def bdPwI : FS := (sAsg 1 (cOp2n opAdd (cVar 1) (cIf (tBl (cOp2 opIn (cOp2 opSub (cOp2 opIx (cVar 0) (cVar 2)) (cOp2 opIx (cVar 0) (cVar 3))) (cTup (aCons (cC (.int 0)) (aCons (cC (.int 1)) aNil))))) (cC (.int 1)) (cC (.int 0)))))
theorem ix_nat (ns : List Int) (k : Nat) (a : Int) (h : ns[k]? = some a) : opIx (.list (ns.map .int)) (.int (k : Nat)) = some (.int a) :=
  atI_nat (by rw [List.getElem?_map, h]; rfl)
theorem pwI_go (ns : List Int) (k : Nat) (a : Int) (hk : ns[k]? = some a) : ∀ (l : List Int) (j : Nat) (f : Int) (s : Sl), plainS (some s) = true → ns.drop j = l →
    ∃ s', plainS (some s') = true ∧ forGo (gN 3) bdPwI ((List.range' j l.length).map fun k => .int (k : Nat)) [.pu (.list (ns.map .int)), .pu (.int f), .pu (.int (k : Nat)), s] = some (.nx [.pu (.list (ns.map .int)), .pu (.int (f + (l.countP (nearB a) : Nat))), .pu (.int (k : Nat)), s'])
  | [], j, f, s, hs, _ => ⟨s, hs, by simp; rfl⟩
  | o :: l, j, f, s, hs, hd => by
    have hj : ns[j]? = some o := by
      have := congrArg (fun z => z[0]?) hd
      simpa using this
    have hd2 : ns.drop (j + 1) = l := by rw [← List.drop_drop, hd]; rfl
    have step : (gN 3) (.int (j : Nat)) [.pu (.list (ns.map .int)), .pu (.int f), .pu (.int (k : Nat)), s] = some [.pu (.list (ns.map .int)), .pu (.int f), .pu (.int (k : Nat)), .pu (.int (j : Nat))] := by
      cases s <;> simp [plainS] at hs <;> simp [gN, setS]
    have i1 := ix_nat ns k a hk
    have i2 := ix_nat ns j o hj
    have s1 : opSub (.int a) (.int o) = some (.int (a - o)) := rfl
    have o2 : (2 : Nat) ≤ lineN := line_le (by omega)
    have n1 := in_01 a o
    have body : bdPwI [.pu (.list (ns.map .int)), .pu (.int f), .pu (.int (k : Nat)), .pu (.int (j : Nat))] = some (.nx [.pu (.list (ns.map .int)), .pu (.int (f + if nearB a o = true then 1 else 0)), .pu (.int (k : Nat)), .pu (.int (j : Nat))]) := by
      cases hn : nearB a o <;> rw [hn] at n1 <;> simp [bdPwI, sAsg, cOp2n, cVar, cIf, tBl, cOp2, i1, i2, s1, cTup, aCons, pures, o2, n1, opAdd, setS]
    obtain ⟨s', hs', ih⟩ := pwI_go ns k a hk l (j + 1) (f + if nearB a o = true then 1 else 0) (.pu (.int (j : Nat))) rfl hd2
    refine ⟨s', hs', ?_⟩
    rw [List.length_cons, List.range'_succ, List.map_cons, forGo, step, Option.bind_some, body]
    show forGo _ _ _ _ = _
    rw [ih, List.countP_cons]
    congr 6
    split <;> omega
def bdPwO : FS := (sFor (iRg2 (cOp2n opAdd (cVar 2) (cC (.int 1))) (cOpA fLen (aCons (cVar 0) aNil))) (gN 3) bdPwI)
theorem intsD_range' (j n : Nat) : intsD (j : Nat) n = (List.range' j n).map fun k => .int (k : Nat) := by
  unfold intsD
  rw [List.range'_eq_map_range, List.map_map]
  refine List.map_congr_left fun k _ => ?_
  simp
theorem pwO_go (ns : List Int) (hz : ns.length ≤ 1000) : ∀ (l : List Int) (j : Nat) (f : Int) (s2 s : Sl), plainS (some s2) = true → plainS (some s) = true → ns.drop j = l →
    ∃ s2' s', forGo (gN 2) bdPwO ((List.range' j l.length).map fun k => .int (k : Nat)) [.pu (.list (ns.map .int)), .pu (.int f), s2, s] = some (.nx [.pu (.list (ns.map .int)), .pu (.int (f + pairI l)), s2', s'])
  | [], j, f, s2, s, hs2, hs, _ => ⟨s2, s, by simp [pairI]; rfl⟩
  | a :: l, j, f, s2, s, hs2, hs, hd => by
    have hj : ns[j]? = some a := by
      have := congrArg (fun z => z[0]?) hd
      simpa using this
    have hd2 : ns.drop (j + 1) = l := by rw [← List.drop_drop, hd]; rfl
    have hlen : l.length = ns.length - (j + 1) := by rw [← hd2, List.length_drop]
    have step : (gN 2) (.int (j : Nat)) [.pu (.list (ns.map .int)), .pu (.int f), s2, s] = some [.pu (.list (ns.map .int)), .pu (.int f), .pu (.int (j : Nat)), s] := by
      cases s2 <;> simp [plainS] at hs2 <;> simp [gN, setS]
    obtain ⟨s', hs', e⟩ := pwI_go ns j a hj l (j + 1) f s hs hd2
    have hfl : fLen [.list (ns.map .int)] = some (.int (ns.length : Nat)) := by simp [fLen, on1]
    have a1 : opAdd (.int (j : Nat)) (.int 1) = some (.int ((j + 1 : Nat) : Int)) := rfl
    have hj2 : j < ns.length := (List.getElem?_eq_some_iff.mp hj).1
    have sm1 : small ((j + 1 : Nat) : Int) = true := small_nat (by omega)
    have sm2 : small (ns.length : Nat) = true := small_nat (by omega)
    have ei : iRg2 (cOp2n opAdd (cVar 2) (cC (.int 1))) (cOpA fLen (aCons (cVar 0) aNil)) [.pu (.list (ns.map .int)), .pu (.int f), .pu (.int (j : Nat)), s] =
        some ((List.range' (j + 1) l.length).map fun k => .int (k : Nat), [.pu (.list (ns.map .int)), .pu (.int f), .pu (.int (j : Nat)), s]) := by
      rw [iRg2_eq (i := ((j + 1 : Nat) : Int)) (j := (ns.length : Nat)) (ρ1 := [.pu (.list (ns.map .int)), .pu (.int f), .pu (.int (j : Nat)), s]) (ρ' := [.pu (.list (ns.map .int)), .pu (.int f), .pu (.int (j : Nat)), s])
        (by simp only [cOp2n, cVar, ev_c, Option.bind_some, List.getElem?_cons_zero, List.getElem?_cons_succ, ev_stl_pu, ev_cont_pu, a1, ev_mk_int]) (by simp only [cOpA, aCons, cVar, ev_anil, Option.bind_some, List.getElem?_cons_zero, ev_stl_pu, conts, ev_cont_pu, hfl]) sm1 sm2]
      rw [show (((ns.length : Nat) : Int) - ((j + 1 : Nat) : Int)).toNat = l.length by omega, intsD_range']
    have body : bdPwO [.pu (.list (ns.map .int)), .pu (.int f), .pu (.int (j : Nat)), s] = some (.nx [.pu (.list (ns.map .int)), .pu (.int (f + (l.countP (nearB a) : Nat))), .pu (.int (j : Nat)), s']) := by
      unfold bdPwO sFor
      rw [ei]
      exact e
    obtain ⟨s2', s'', ih⟩ := pwO_go ns hz l (j + 1) (f + (l.countP (nearB a) : Nat)) (.pu (.int (j : Nat))) s' rfl hs' hd2
    refine ⟨s2', s'', ?_⟩
    rw [List.length_cons, List.range'_succ, List.map_cons, forGo, step, Option.bind_some, body]
    show forGo _ _ _ _ = _
    rw [ih]
    simp only [pairI]
    rw [Int.add_assoc]
theorem e_law_pair_weight (ns : List Int) (hz : ns.length ≤ 1000) : m__law_pair_weight [.v (.list (ns.map .int))] = some (.pu (.int (pairI ns)), []) := by
  obtain ⟨s2, s3, g⟩ := pwO_go ns hz ns 0 0 .non .non rfl rfl rfl
  have hfl : fLen [.list (ns.map .int)] = some (.int (ns.length : Nat)) := by simp [fLen, on1]
  have sm2 : small (ns.length : Nat) = true := small_nat (by omega)
  have ei : iRg1 (cOpA fLen (aCons (cVar 0) aNil)) [.pu (.list (ns.map .int)), .pu (.int 0), .non, .non] = some ((List.range' 0 ns.length).map fun k => .int (k : Nat), [.pu (.list (ns.map .int)), .pu (.int 0), .non, .non]) := by
    rw [iRg1_eq (j := (ns.length : Nat)) (ρ' := [.pu (.list (ns.map .int)), .pu (.int 0), .non, .non]) (by simp only [cOpA, aCons, cVar, ev_anil, Option.bind_some, List.getElem?_cons_zero, ev_stl_pu, conts, ev_cont_pu, hfl]) sm2]
    rw [Int.toNat_natCast]
    have := intsD_range' 0 ns.length
    rw [← this, Int.natCast_zero]
  have ef : sFor (iRg1 (cOpA fLen (aCons (cVar 0) aNil))) (gN 2) bdPwO [.pu (.list (ns.map .int)), .pu (.int 0), .non, .non] = some (.nx [.pu (.list (ns.map .int)), .pu (.int (0 + pairI ns)), s2, s3]) := by
    rw [sFor_eq ei]
    exact g
  have e0 : b__law_pair_weight [.pu (.list (ns.map .int)), .non, .non, .non] = some (.rt (.pu (.int (pairI ns))) [.pu (.list (ns.map .int)), .pu (.int (0 + pairI ns)), s2, s3]) := by
    unfold b__law_pair_weight
    rw [sSeq_nx (ρ' := [.pu (.list (ns.map .int)), .pu (.int 0), .non, .non]) rfl]
    refine (sSeq_nx (b := sRet (cVar 1)) ef).trans ?_
    simp [sRet, cVar]
  simp [m__law_pair_weight, runDef, arS, List.replicate, e0, outsOf, retV]
def rightsI (l : List Bool) : List Int := (l.zipIdx.filter fun p => !p.1).map fun p => ((p.2 : Nat) : Int)
theorem rights_pre : ∀ (l pre : List Bool), ((l.zipIdx pre.length).filter fun p => !p.1).map (fun p => ((((pre ++ l).take p.2).count true : Nat) : Int)) = hgtB ((pre.count true : Nat) : Int) l
  | [], pre => rfl
  | false :: l, pre => by
    have ih := rights_pre l (pre ++ [false])
    rw [List.length_append, List.append_assoc] at ih
    have e : (pre ++ false :: l).take pre.length = pre := List.take_left' rfl
    rw [List.zipIdx_cons, List.filter_cons_of_pos rfl, List.map_cons, e]
    show _ :: _ = _ :: hgtB _ l
    congr 1
    rw [show ((pre.count true : Nat) : Int) = (((pre ++ [false]).count true : Nat) : Int) by simp]
    exact ih
  | true :: l, pre => by
    have ih := rights_pre l (pre ++ [true])
    rw [List.length_append, List.append_assoc] at ih
    rw [List.zipIdx_cons, List.filter_cons_of_neg (by simp)]
    show _ = hgtB _ l
    rw [show ((pre.count true : Nat) : Int) + 1 = (((pre ++ [true]).count true : Nat) : Int) by simp]
    exact ih
theorem rights_hgt (l : List Bool) : (rightsI l).map (fun x => (((l.take x.toNat).count true : Nat) : Int)) = hgtB 0 l := by
  have h := rights_pre l []
  unfold rightsI
  rw [List.map_map]
  exact h
def tsLb : FT := (tBl (cOp2 opLt (cOp2 opIx (cVar 2) (cOp opNeg (cC (.int 1)))) (cOpA fLen (aCons (cVar 1) aNil))))
def bdLb : FS := (sApp 2 (cM "str" .pu mCount (cSl mk opSl (cVar 0) oNo (oSo (cOp2 opIx (cVar 1) (cOp2 opIx (cVar 2) (cOp opNeg (cC (.int 1))))))) (aCons (cC (.str (Str.ofString "u"))) aNil)))
theorem rights_nn (l : List Bool) : ∀ x ∈ rightsI l, 0 ≤ x := fun x hx => by
  unfold rightsI at hx
  obtain ⟨p, _, rfl⟩ := List.mem_map.mp hx
  omega
theorem rights_len (l : List Bool) : (rightsI l).length = (hgtB 0 l).length := by rw [← rights_hgt, List.length_map]
theorem lb_go (l : List Bool) (hl : l.length ≤ 500) (hc : Climb (hgtB 0 l)) : ∀ (m F : Nat) (x : Int) (f : List Int), 0 ≤ x → x ≤ (hgtB 0 l).length → (hgtB 0 l).length - x.toNat ≤ m → m < F → f.length + m ≤ 2000 →
    whileGo tsLb bdLb F [.pu (.str (pS l)), .pu (.list ((rightsI l).map .int)), .own (.list ((f ++ [x]).map .int)), .non, .non] = some (.nx [.pu (.str (pS l)), .pu (.list ((rightsI l).map .int)), .own (.list ((f ++ [x] ++ bnc (hgtB 0 l) m x).map .int)), .non, .non])
  | m, 0, x, f, _, _, _, hF, _ => absurd hF (Nat.not_lt_zero _)
  | m, F + 1, x, f, h0, h1, hm, hF, hz => by
    have hrl := rights_len l
    have test : tsLb [.pu (.str (pS l)), .pu (.list ((rightsI l).map .int)), .own (.list ((f ++ [x]).map .int)), .non, .non] = some (decide (x < (hgtB 0 l).length), [.pu (.str (pS l)), .pu (.list ((rightsI l).map .int)), .own (.list ((f ++ [x]).map .int)), .non, .non]) := by
      have e := ix_last f x
      simp only [tsLb, tBl, cOp2, cOp, opNeg, cVar, cOpA, aCons, ev_c, ev_anil, Option.bind_some, ev_cont_pu, ev_stl_pu, ev_stl_sl, cont, List.getElem?_cons_zero, List.getElem?_cons_succ, e, conts, fLen, on1, opLt, onInts, List.length_map, hrl]
    unfold whileGo
    rw [test]
    simp only [Option.bind_some]
    by_cases hx : x < (hgtB 0 l).length
    · rw [decide_eq_true hx, if_pos rfl]
      obtain ⟨m', rfl⟩ : ∃ m', m = m' + 1 := ⟨m - 1, by omega⟩
      have hlt : x.toNat < (hgtB 0 l).length := by omega
      obtain ⟨c1, c2⟩ := hc x.toNat hlt
      have hlen : (f ++ [x]).length < lineN := Nat.lt_of_lt_of_le (by simp; omega : (f ++ [x]).length < 3000) (line_le (by omega))
      have hg : (hgtB 0 l).getD x.toNat 0 = ((l.take ((rightsI l).getD x.toNat 0).toNat).count true : Nat) := by
        rw [← rights_hgt l]
        have hlt2 : x.toNat < (rightsI l).length := by omega
        simp [List.getD, List.getElem?_map, List.getElem?_eq_getElem hlt2]
      have hnn : 0 ≤ (rightsI l).getD x.toNat 0 := by
        have hlt2 : x.toNat < (rightsI l).length := by omega
        simp only [List.getD, List.getElem?_eq_getElem hlt2, Option.getD_some]
        exact rights_nn l _ (List.getElem_mem _)
      have body : bdLb [.pu (.str (pS l)), .pu (.list ((rightsI l).map .int)), .own (.list ((f ++ [x]).map .int)), .non, .non] = some (.nx [.pu (.str (pS l)), .pu (.list ((rightsI l).map .int)), .own (.list ((f ++ [x] ++ [(hgtB 0 l).getD x.toNat 0]).map .int)), .non, .non]) := by
        have e := ix_last f x
        have e2 := ix_at (rightsI l) x h0 (by omega)
        have e3 : ((f ++ [x]).map PyData.int).length < lineN := by rw [List.length_map]; exact hlen
        generalize (rightsI l).getD x.toNat 0 = y at e2 hg hnn
        obtain ⟨k, rfl⟩ : ∃ k : Nat, y = k := ⟨y.toNat, by omega⟩
        have e4 := sl_to l k (by omega)
        have e5 := cnt_u (l.take k)
        rw [Int.toNat_natCast] at hg
        simp only [bdLb, sApp, cM, cSl, oSo, ev_ono, cOp2, cOp, opNeg, cVar, ev_c, Option.bind_some, ev_cont_pu, ev_stl_pu, ev_stl_sl, cont, List.getElem?_cons_zero, List.getElem?_cons_succ, e, e2, e4, ev_mk_str, tyD, beq_self_eq_true, if_true, aCons, ev_anil, s_u, conts, e5, if_pos e3, putS, List.set_cons_succ, List.set_cons_zero]
        rw [List.map_append (l₁ := f ++ [x]), hg]
        rfl
      rw [body]
      have ih := lb_go l hl hc m' F ((hgtB 0 l).getD x.toNat 0) (f ++ [x]) (by omega) c2 (by omega) (by omega) (by simp; omega)
      show whileGo tsLb bdLb F _ = _
      rw [ih]
      have e4 : bnc (hgtB 0 l) (m' + 1) x = (hgtB 0 l).getD x.toNat 0 :: bnc (hgtB 0 l) m' ((hgtB 0 l).getD x.toNat 0) := by
        show (if x < (hgtB 0 l).length then _ else _) = _
        rw [if_pos hx]
      rw [e4]
      simp
    · rw [decide_eq_false hx]
      have e4 : bnc (hgtB 0 l) m x = [] := by
        cases m with
        | zero => rfl
        | succ m' =>
          show (if x < (hgtB 0 l).length then _ else _) = _
          rw [if_neg hx]
      rw [e4]
      simp
def sgR : D → Bool
  | .tuple [_, .str s] => s.cps.toList.headD 0 == 114
  | _ => false
theorem sgR_sgn (a : D) (b : Bool) : sgR (.tuple [a, sgn b]) = !b := by cases b <;> rfl
def fst2 : D → D
  | .tuple [a, _] => a
  | _ => .none
theorem e_law_bounces (l : List Bool) (hz : l.length ≤ 500) (hc : Climb (hgtB 0 l)) : m__law_bounces [.v (.str (pS l))] = some (.nw (.list ((bncAll l).map .int)), []) := by
  have h := cLc_eq (vs := [3, 4]) (it := iEnum (cVar 0)) (g := gT ((gN 3) :: ((gN 4) :: []))) (t := tBl (cOp2 opEq (cVar 4) (cC (.str (Str.ofString "r"))))) (f := cVar 3)
    (ρ := [.pu (.str (pS l)), .non, .non, .non, .non]) (ds := l.zipIdx.map fun p => .tuple [.int (p.2 : Nat), sgn p.1])
    (fun x => match x with | .tuple [a, b] => [.pu (.str (pS l)), .non, .non, .pu a, .pu b] | _ => []) sgR fst2
    (by simp [iEnum, cVar, items_pS, enum_sgns]) rfl (fun x hx => by
      obtain ⟨⟨b, k⟩, _, rfl⟩ := List.mem_map.mp hx
      simp [gT, gAll, gN, setS, wipeR, tBl, cOp2, cVar, s_r, eq_sgn_r, sgR_sgn, fst2]) (line_le (by simp; omega))
  rw [List.filter_map, List.map_map] at h
  have e1 : (l.zipIdx.filter (sgR ∘ fun p => PyData.tuple [.int (p.2 : Nat), sgn p.1])) = l.zipIdx.filter fun p => !p.1 := by
    refine List.filter_congr fun p _ => ?_
    exact sgR_sgn _ _
  rw [e1] at h
  have e2 : (l.zipIdx.filter fun p => !p.1).map (fst2 ∘ fun p => PyData.tuple [.int (p.2 : Nat), sgn p.1]) = (rightsI l).map .int := by
    unfold rightsI
    rw [List.map_map]
    refine List.map_congr_left fun p _ => ?_
    rfl
  rw [e2] at h
  have hh := hgt_len l 0
  have g := lb_go l hz hc (hgtB 0 l).length fuelN 0 [] (by omega) (by omega) (by simp) (by unfold fuelN; omega) (by simp; omega)
  have h1 : (1 : Nat) ≤ lineN := line_le (by omega)
  have e0 : b__law_bounces [.pu (.str (pS l)), .non, .non, .non, .non] = ((whileGo tsLb bdLb fuelN [.pu (.str (pS l)), .pu (.list ((rightsI l).map .int)), .own (.list (([] ++ [0] : List Int).map .int)), .non, .non]).bind fun o => match o with
      | .nx ρ' => sRet (cVar 2) ρ'
      | o => some o) := by
    simp only [b__law_bounces, sSeq, sAsg, h, Option.bind_some, ev_stl_nw, setS, List.getElem?_cons_zero, List.getElem?_cons_succ, List.set_cons_succ, List.set_cons_zero, sNew, cLst, aCons, ev_c, ev_stl_pu, ev_anil, pures, List.length_cons, List.length_nil, Nat.zero_add, if_pos h1, sWhile]
    rfl
  rw [g] at e0
  simp [m__law_bounces, runDef, arS, List.replicate, e0, sRet, cVar, outsOf, retV, bncAll]

theorem narrowAll_ints (n : Nat) : ∀ ns : List Int, narrowAll n (ns.map .int) = true
  | [] => rfl
  | a :: ns => by
    show (narrow n (.int a) && narrowAll n (ns.map .int)) = true
    rw [narrowAll_ints n ns]; rfl
theorem depthAll_ints : ∀ ns : List Int, PyData.depthAll (ns.map .int) = 0
  | [] => rfl
  | a :: ns => by
    simp [PyData.depthAll, PyData.depth, depthAll_ints ns]
theorem narrow_tup {ns : List Int} (h : ns.length ≤ 1000) : narrow 1000 (.tuple (ns.map .int)) = true := by
  simp [narrow, narrowAll_ints, h]
theorem depth_tup (ns : List Int) : PyData.depth (.tuple (ns.map .int)) = 1 := by
  simp [PyData.depth, depthAll_ints]
theorem eq_self (d : D) (hp : d.plain = true) (hd : d.depth ≤ 64) : opEq d d = some (.bool true) := by
  unfold opEq
  rw [Nat.min_self, if_pos hd, SeqAt.eqv_refl_plain d hp]
theorem ne_self (d : D) (hp : d.plain = true) (hd : d.depth ≤ 64) : opNe d d = some (.bool false) := by
  unfold opNe
  rw [Nat.min_self, if_pos hd, SeqAt.eqv_refl_plain d hp]
  rfl
theorem rB_pre : ∀ (l pre : List Bool), ((l.zipIdx pre.length).filter (·.1)).map (fun p => ((((pre ++ l).take p.2).count false : Nat) : Int)) = rB ((pre.count false : Nat) : Int) l
  | [], pre => rfl
  | true :: l, pre => by
    have ih := rB_pre l (pre ++ [true])
    rw [List.length_append, List.append_assoc] at ih
    have e : (pre ++ true :: l).take pre.length = pre := List.take_left' rfl
    rw [List.zipIdx_cons, List.filter_cons_of_pos rfl, List.map_cons, e]
    show _ :: _ = _ :: rB _ l
    congr 1
    rw [show ((pre.count false : Nat) : Int) = (((pre ++ [true]).count false : Nat) : Int) by simp]
    exact ih
  | false :: l, pre => by
    have ih := rB_pre l (pre ++ [false])
    rw [List.length_append, List.append_assoc] at ih
    rw [List.zipIdx_cons, List.filter_cons_of_neg (by simp)]
    show _ = rB _ l
    rw [show ((pre.count false : Nat) : Int) + 1 = (((pre ++ [false]).count false : Nat) : Int) by simp]
    exact ih
theorem rB_at (l : List Bool) : (l.zipIdx.filter (·.1)).map (fun p => (((l.take p.2).count false : Nat) : Int)) = rB 0 l := rB_pre l []
def rAtD (l : List Bool) : D → D
  | .tuple [.int k, _] => .int ((l.take k.toNat).count false : Nat)
  | _ => .none
theorem heights_ev (l : List Bool) (hz : l.length ≤ 1000) (o n : D) : cLc [5, 6] (iEnum (cVar 0)) (gT ((gN 5) :: ((gN 6) :: []))) (tBl (cOp2 opEq (cVar 6) (cC (.str (Str.ofString "u"))))) (cM "str" .pu mCount (cSl mk opSl (cVar 0) oNo (oSo (cVar 5))) (aCons (cC (.str (Str.ofString "r"))) aNil))
    [.pu (.str (pS l)), .pu o, .pu n, .non, .non, .non, .non, .non] = some (.nw (.list ((rB 0 l).map .int)), [.pu (.str (pS l)), .pu o, .pu n, .non, .non, .non, .non, .non]) := by
  have h := cLc_eq (vs := [5, 6]) (it := iEnum (cVar 0)) (g := gT ((gN 5) :: ((gN 6) :: []))) (t := tBl (cOp2 opEq (cVar 6) (cC (.str (Str.ofString "u"))))) (f := cM "str" .pu mCount (cSl mk opSl (cVar 0) oNo (oSo (cVar 5))) (aCons (cC (.str (Str.ofString "r"))) aNil))
    (ρ := [.pu (.str (pS l)), .pu o, .pu n, .non, .non, .non, .non, .non]) (ds := l.zipIdx.map fun p => .tuple [.int (p.2 : Nat), sgn p.1])
    (fun x => match x with | .tuple [a, b] => [.pu (.str (pS l)), .pu o, .pu n, .non, .non, .pu a, .pu b, .non] | _ => []) sgB (rAtD l)
    (by simp [iEnum, cVar, items_pS, enum_sgns]) rfl (fun x hx => by
      obtain ⟨⟨b, k⟩, _, rfl⟩ := List.mem_map.mp hx
      have hs := sl_to l k hz
      simp [gT, gAll, gN, setS, wipeR, tBl, cOp2, cVar, s_u, s_r, eq_sgn_u, sgB_sgn, cM, tyD, cSl, oSo, hs, aCons, conts, cnt_r, rAtD]) (line_le (by simp; omega))
  rw [List.filter_map, List.map_map] at h
  have e1 : (l.zipIdx.filter (sgB ∘ fun p => PyData.tuple [.int (p.2 : Nat), sgn p.1])) = l.zipIdx.filter (·.1) := by
    refine List.filter_congr fun p _ => ?_
    exact sgB_sgn _ _
  rw [e1] at h
  have e2 : (l.zipIdx.filter (·.1)).map (rAtD l ∘ fun p => PyData.tuple [.int (p.2 : Nat), sgn p.1]) = (rB 0 l).map .int := by
    rw [← rB_at, List.map_map]
    refine List.map_congr_left fun p _ => ?_
    simp [rAtD]
  rw [e2] at h
  exact h
theorem lpiles_ev (l : List Bool) (hz : l.length ≤ 1000) (o n : D) : cLc [7] (iE (cOpn opRev (cOpAn fSorted (aCons (cVar 3) aNil)))) (gN 7) (tBl (cOp2 opGt (cVar 7) (cC (.int 0)))) (cVar 7)
    [.pu (.str (pS l)), .pu o, .pu n, .pu (.list ((rB 0 l).map .int)), .non, .non, .non, .non] = some (.nw (.list ((pilesB l).map .int)), [.pu (.str (pS l)), .pu o, .pu n, .pu (.list ((rB 0 l).map .int)), .non, .non, .non, .non]) := by
  have hsrt : fSorted [.list ((rB 0 l).map .int)] = some (.list ((rB 0 l).map .int)) := by
    simp only [fSorted, on1, intsOf_map, Option.bind_some, srt_rB]
  have h := cLc_eq (vs := [7]) (it := iE (cOpn opRev (cOpAn fSorted (aCons (cVar 3) aNil)))) (g := gN 7) (t := tBl (cOp2 opGt (cVar 7) (cC (.int 0)))) (f := cVar 7)
    (ρ := [.pu (.str (pS l)), .pu o, .pu n, .pu (.list ((rB 0 l).map .int)), .non, .non, .non, .non]) (ds := (rB 0 l).reverse.map .int)
    (fun x => [.pu (.str (pS l)), .pu o, .pu n, .pu (.list ((rB 0 l).map .int)), .non, .non, .non, .pu x]) (gtB 0) (fun x => x)
    (by simp [iE, cOpn, cOpAn, aCons, cVar, conts, hsrt, opRev, itemsOf]) rfl (fun x hx => by
      obtain ⟨k, _, rfl⟩ := List.mem_map.mp hx
      simp [gN, setS, wipeR, tBl, cOp2, cVar, opGt, onInts, gtB]) (line_le (by
        have : (rB 0 l).length = l.count true := rB_len l 0
        have := cnt_tf l
        simp; omega))
  rw [List.filter_map, List.map_map] at h
  have e : (gtB 0 ∘ PyData.int) = fun n => decide (0 < n) := rfl
  rw [e, List.filter_reverse] at h
  exact h
theorem fits_dyck {l : List Bool} {n : Nat} (h : Dyck l n) (hn : n ≤ 30) : fitsS (pS l) = true := by
  have hl := cnt_tf l
  have h1 := h.2.1
  have h2 := h.2.2
  unfold fitsS wordB
  rw [pS_list, pS_len, h.1, decide_eq_true (by omega)]
  simp
  exact ⟨fun _ => rfl, fun _ => rfl⟩
theorem dyck_len {l : List Bool} {n : Nat} (h : Dyck l n) : l.length = 2 * n := by
  have hl := cnt_tf l
  have h1 := h.2.1
  have h2 := h.2.2
  omega
theorem maxZ_piles {l : List Bool} {n : Nat} (h : Dyck l n) : maxZ (pilesB l) ≤ n := by
  by_cases hz : 0 < maxZ (pilesB l)
  · exact (piles_mem h _ (maxZ_mem _ hz)).2
  · omega
theorem half_prod {n s : Int} (h : 2 * s = n * (n - 1)) : n * (n - 1) / 2 = s := by
  rw [← h]
  exact Int.mul_ediv_cancel_left s (by decide)
def pk (l : List Bool) (k : Nat) : Bool := l.getD (k - 1) false && !l.getD k true
theorem peaks_go : ∀ (l : List Bool) (a : Bool), (List.range' 1 l.length).countP (pk (a :: l)) = adj (a :: l)
  | [], a => by cases a <;> rfl
  | b :: l, a => by
    have ih := peaks_go l b
    have e : (List.range' (1 + 1) l.length).countP (pk (a :: b :: l)) = (List.range' 1 l.length).countP (pk (b :: l)) := by
      rw [show List.range' (1 + 1) l.length = (List.range' 1 l.length).map (1 + ·) from (List.map_add_range' ..).symm, List.countP_map]
      refine List.countP_congr fun k hk => ?_
      have hk1 : 1 ≤ k := (List.mem_range'_1.mp hk).1
      obtain ⟨j, rfl⟩ : ∃ j, k = j + 1 := ⟨k - 1, by omega⟩
      simp [pk, Function.comp, show 1 + (j + 1) = j + 2 by omega]
    rw [List.length_cons, List.range'_succ, List.countP_cons, adj_cons, ← ih, e]
    congr 1
    cases a <;> cases b <;> rfl
theorem ix_pS (l : List Bool) (k : Nat) (hk : k < l.length) (hl : l.length ≤ 1000) (x : Bool) : opIx (.str (pS l)) (.int (k : Nat)) = some (.str ⟨#[bc (l.getD k x)]⟩) := by
  have h1 : (pS l).length ≤ lineN := by rw [pS_len]; exact line_le (by omega)
  have h2 : atI (pS l).cps.toList (k : Nat) = some (bc (l.getD k x)) := by
    refine atI_nat ?_
    rw [pS_list, List.getElem?_map, List.getElem?_eq_getElem hk]
    simp [List.getD, List.getElem?_eq_getElem hk]
  simp only [opIx, if_pos h1, h2, Option.bind_some]
def pkD (l : List Bool) : D → Bool
  | .int k => pk l k.toNat
  | _ => false
abbrev st (c p : D) (s2 s3 s4 s5 s6 s7 s8 s9 : Sl) : Rho := [.io c, .pu p, s2, s3, s4, s5, s6, s7, s8, s9, .non, .non, .non, .non, .non]
theorem peaks_ev (l : List Bool) (hz : l.length ≤ 1000) (c : D) (s7 s8 s9 : Sl) : cOpA fLen (aCons (cLc [10] (iRg2 (cC (.int 1)) (cOpA fLen (aCons (cVar 1) aNil))) (gN 10) (tAnd (tBl (cOp2 opEq (cOp2 opIx (cVar 1) (cOp2 opSub (cVar 10) (cC (.int 1)))) (cC (.str (Str.ofString "u"))))) (tBl (cOp2 opEq (cOp2 opIx (cVar 1) (cVar 10)) (cC (.str (Str.ofString "r")))))) (cVar 10)) aNil)
    (st c (.str (pS l)) .non .non .non .non .non s7 s8 s9) = some (.pu (.int (adj l : Nat)), st c (.str (pS l)) .non .non .non .non .non s7 s8 s9) := by
  have hlen : fLen [.str (pS l)] = some (.int (l.length : Nat)) := by
    have : l.length ≤ lineN := line_le (by omega)
    simp [fLen, on1, pS_len, this]
  have hit : iRg2 (cC (.int 1)) (cOpA fLen (aCons (cVar 1) aNil)) (st c (.str (pS l)) .non .non .non .non .non s7 s8 s9) = some ((List.range' 1 (l.length - 1)).map fun k => .int (k : Nat), st c (.str (pS l)) .non .non .non .non .non s7 s8 s9) := by
    rw [iRg2_eq (i := 1) (j := (l.length : Nat)) (ρ1 := st c (.str (pS l)) .non .non .non .non .non s7 s8 s9) (ρ' := st c (.str (pS l)) .non .non .non .non .non s7 s8 s9) rfl (cOpA_pu rfl hlen) (by decide) (small_nat (by omega))]
    rw [show (((l.length : Nat) : Int) - 1).toNat = l.length - 1 by omega]
    have := intsD_range' 1 (l.length - 1)
    rw [← this]; rfl
  have h := cLc_eq (vs := [10]) (it := iRg2 (cC (.int 1)) (cOpA fLen (aCons (cVar 1) aNil))) (g := gN 10) (t := tAnd (tBl (cOp2 opEq (cOp2 opIx (cVar 1) (cOp2 opSub (cVar 10) (cC (.int 1)))) (cC (.str (Str.ofString "u"))))) (tBl (cOp2 opEq (cOp2 opIx (cVar 1) (cVar 10)) (cC (.str (Str.ofString "r")))))) (f := cVar 10)
    (fun x => [.io c, .pu (.str (pS l)), .non, .non, .non, .non, .non, s7, s8, s9, .pu x, .non, .non, .non, .non]) (pkD l) (fun x => x) hit rfl (fun x hx => by
      obtain ⟨k, hk, rfl⟩ := List.mem_map.mp hx
      obtain ⟨k1, k2⟩ := List.mem_range'_1.mp hk
      have i1 := ix_pS l (k - 1) (by omega) hz false
      have i2 := ix_pS l k (by omega) hz true
      have s1 : opSub (.int (k : Nat)) (.int 1) = some (.int ((k - 1 : Nat) : Int)) := by
        show some (PyData.int _) = _
        congr 2
        omega
      have e1 := eq_sgn_u (l.getD (k - 1) false)
      have e2 := eq_sgn_r (l.getD k true)
      unfold sgn at e1 e2
      have t1 : tBl (cOp2 opEq (cOp2 opIx (cVar 1) (cOp2 opSub (cVar 10) (cC (.int 1)))) (cC (.str (Str.ofString "u")))) [.io c, .pu (.str (pS l)), .non, .non, .non, .non, .non, s7, s8, s9, .pu (.int (k : Nat)), .non, .non, .non, .non] = some (l.getD (k - 1) false, [.io c, .pu (.str (pS l)), .non, .non, .non, .non, .non, s7, s8, s9, .pu (.int (k : Nat)), .non, .non, .non, .non]) := by
        refine tBl_eq (cOp2_pu (cOp2_pu rfl (cOp2_pu rfl rfl s1) i1) rfl ?_)
        rw [s_u]; exact e1
      have t2 : tBl (cOp2 opEq (cOp2 opIx (cVar 1) (cVar 10)) (cC (.str (Str.ofString "r")))) [.io c, .pu (.str (pS l)), .non, .non, .non, .non, .non, s7, s8, s9, .pu (.int (k : Nat)), .non, .non, .non, .non] = some (!l.getD k true, [.io c, .pu (.str (pS l)), .non, .non, .non, .non, .non, s7, s8, s9, .pu (.int (k : Nat)), .non, .non, .non, .non]) := by
        refine tBl_eq (cOp2_pu (cOp2_pu rfl rfl i2) rfl ?_)
        rw [s_r]; exact e2
      refine ⟨rfl, rfl, ?_, fun _ => ⟨_, rfl, rfl⟩⟩
      simp only [tAnd, t1, Option.bind_some, t2, pkD, Int.toNat_natCast, pk]
      cases l.getD (k - 1) false <;> simp) (line_le (by simp; omega))
  have e : (((List.range' 1 (l.length - 1)).map fun k => PyData.int (k : Nat)).filter (pkD l)).length = adj l := by
    rw [← List.countP_eq_length_filter, List.countP_map]
    cases l with
    | nil => rfl
    | cons a l =>
      rw [← peaks_go l a]
      exact List.countP_congr fun k _ => by simp [pkD]
  refine cOpA_nw h ?_
  simp only [fLen, on1, List.length_map, e]
def subW (w : Int) : D → D
  | .int o => .int (w - o)
  | _ => .none
theorem weight_ev (bs : List Int) (hb : bs.length ≤ 1000) (n : Int) (c p : D) (s2 s7 : Sl) : cOpA fSum (aCons (cLc [11] (iE (cSl mk opSl (cVar 8) (oSo (cC (.int 1))) oNo)) (gN 11) tYes (cOp2 opSub (cVar 9) (cVar 11))) aNil)
    (st c p s2 .non .non .non .non s7 (.pu (.list (bs.map .int))) (.pu (.int n))) = some (.pu (.int (bs.tail.map fun o => n - o).sum), st c p s2 .non .non .non .non s7 (.pu (.list (bs.map .int))) (.pu (.int n))) := by
  have hcut : cutD (bs.map .int) (some 1) none = bs.tail.map .int := by rw [cut_tail, ← List.map_drop, List.drop_one]
  have h := cLc_eq (vs := [11]) (it := iE (cSl mk opSl (cVar 8) (oSo (cC (.int 1))) oNo)) (g := gN 11) (t := tYes) (f := cOp2 opSub (cVar 9) (cVar 11))
    (ρ := st c p s2 .non .non .non .non s7 (.pu (.list (bs.map .int))) (.pu (.int n))) (ds := bs.tail.map .int)
    (fun x => [.io c, .pu p, s2, .non, .non, .non, .non, s7, .pu (.list (bs.map .int)), .pu (.int n), .non, .pu x, .non, .non, .non]) (fun _ => true) (subW n)
    (by simp [iE, cSl, cVar, oSo, opSl, hcut, itemsOf]) rfl (fun x hx => by
      obtain ⟨o, _, rfl⟩ := List.mem_map.mp hx
      exact ⟨rfl, rfl, rfl, fun _ => ⟨_, cOp2_pu rfl rfl rfl, rfl⟩⟩) (line_le (by simp; omega))
  rw [filter_yes, List.map_map] at h
  refine cOpA_nw h ?_
  have : bs.tail.map (subW n ∘ PyData.int) = bs.tail.map fun o => .int (n - o) := rfl
  simp only [fSum, on1, seqOf, Option.bind_some, this, intsOf_maps]
def stepD : D → D
  | .tuple [.int a, .int b] => .int (b - a)
  | _ => .none
def stepsI (bs : List Int) : List Int := (bs.zip bs.tail).map fun p => p.2 - p.1
theorem steps_ev (bs : List Int) (hb : bs.length ≤ 1000) (c p : D) (s2 s3 s4 s7 s9 : Sl) : cLc [11, 12] (iZip (cVar 8) (cSl mk opSl (cVar 8) (oSo (cC (.int 1))) oNo)) (gT ((gN 11) :: ((gN 12) :: []))) tYes (cOp2 opSub (cVar 12) (cVar 11))
    (st c p s2 s3 s4 .non .non s7 (.pu (.list (bs.map .int))) s9) = some (.nw (.list ((stepsI bs).map .int)), st c p s2 s3 s4 .non .non s7 (.pu (.list (bs.map .int))) s9) := by
  have hcut : cutD (bs.map .int) (some 1) none = bs.tail.map .int := by rw [cut_tail, ← List.map_drop, List.drop_one]
  have h := cLc_eq (vs := [11, 12]) (it := iZip (cVar 8) (cSl mk opSl (cVar 8) (oSo (cC (.int 1))) oNo)) (g := gT ((gN 11) :: ((gN 12) :: []))) (t := tYes) (f := cOp2 opSub (cVar 12) (cVar 11))
    (ρ := st c p s2 s3 s4 .non .non s7 (.pu (.list (bs.map .int))) s9) (ds := zipD (bs.map .int) (bs.tail.map .int))
    (fun x => match x with | .tuple [a, b] => [.io c, .pu p, s2, s3, s4, .non, .non, s7, .pu (.list (bs.map .int)), s9, .non, .pu a, .pu b, .non, .non] | _ => []) (fun _ => true) stepD
    (by simp [iZip, cSl, cVar, oSo, opSl, hcut]) rfl (fun x hx => by
      rw [zipD_ints] at hx
      obtain ⟨⟨a, b⟩, _, rfl⟩ := List.mem_map.mp hx
      exact ⟨rfl, rfl, rfl, fun _ => ⟨_, cOp2_pu rfl rfl rfl, rfl⟩⟩) (line_le (by simp [zipD]; omega))
  rw [filter_yes, zipD_ints, List.map_map] at h
  rw [h]
  unfold stepsI
  rw [List.map_map]
  rfl
def mulD : D → D
  | .tuple [.int a, .int b] => .int (a * b)
  | _ => .none
theorem abel_ev (ss : List Int) (hs : ss.length ≤ 1000) (c p : D) (s2 s3 s4 s7 s8 s9 : Sl) : cOpA fSum (aCons (cLc [10, 14] (iEnum (cVar 5)) (gT ((gN 10) :: ((gN 14) :: []))) tYes (cOp2n opMul (cVar 10) (cVar 14))) aNil)
    (st c p s2 s3 s4 (.pu (.list (ss.map .int))) .non s7 s8 s9) = some (.pu (.int (ss.zipIdx.map fun p => ((p.2 : Nat) : Int) * p.1).sum), st c p s2 s3 s4 (.pu (.list (ss.map .int))) .non s7 s8 s9) := by
  have h := cLc_eq (vs := [10, 14]) (it := iEnum (cVar 5)) (g := gT ((gN 10) :: ((gN 14) :: []))) (t := tYes) (f := cOp2n opMul (cVar 10) (cVar 14))
    (ρ := st c p s2 s3 s4 (.pu (.list (ss.map .int))) .non s7 s8 s9) (ds := ss.zipIdx.map fun p => .tuple [.int (p.2 : Nat), .int p.1])
    (fun x => match x with | .tuple [a, b] => [.io c, .pu p, s2, s3, s4, .pu (.list (ss.map .int)), .non, s7, s8, s9, .pu a, .non, .non, .non, .pu b] | _ => []) (fun _ => true) mulD
    (by simp [iEnum, cVar, itemsOf, enum_ints]) rfl (fun x hx => by
      obtain ⟨⟨a, b⟩, hm, rfl⟩ := List.mem_map.mp hx
      have hb : b < ss.length := by
        have := (List.mem_zipIdx hm).2.1
        omega
      have m : opMul (.int (b : Nat)) (.int a) = some (.int ((b : Nat) * a)) := by
        have : small64 (b : Nat) = true := small64_nat (by omega)
        simp only [opMul, this, Bool.true_or, if_true]
      exact ⟨rfl, rfl, rfl, fun _ => ⟨_, cOp2n_pu rfl rfl m, rfl⟩⟩) (line_le (by simp; omega))
  rw [filter_yes, List.map_map] at h
  refine cOpA_nw h ?_
  have : ss.zipIdx.map (mulD ∘ fun p => PyData.tuple [.int (p.2 : Nat), .int p.1]) = ss.zipIdx.map fun p => .int (((p.2 : Nat) : Int) * p.1) := rfl
  simp only [fSum, on1, seqOf, Option.bind_some, this, intsOf_maps]
def flD : D → D
  | .str s => .str ⟨#[bc (!(s.cps.toList.headD 0 == 117))]⟩
  | _ => .none
theorem join_bits (l : List Bool) : Txt.join ⟨#[]⟩ (l.map fun b => (⟨#[bc b]⟩ : Str)) = pS l := by
  unfold Txt.join
  rw [StrLaws.glued_eq_join]
  induction l with
  | nil => rfl
  | cons b l ih =>
    cases l with
    | nil => rfl
    | cons c m =>
      show (⟨#[bc b]⟩ : Str) ++ ⟨#[]⟩ ++ Str.join ⟨#[]⟩ ((c :: m).map fun b => (⟨#[bc b]⟩ : Str)) = _
      rw [ih]
      refine str_ext ?_
      have e : ((⟨#[bc b]⟩ : Str) ++ ⟨#[]⟩ ++ pS (c :: m)).cps = #[bc b] ++ #[] ++ (pS (c :: m)).cps := rfl
      rw [e, pS_list (b :: c :: m), Array.toList_append, pS_list]
      rfl
theorem other_ev (l : List Bool) (hz : l.length ≤ 1000) (c : D) (s2 s3 s4 s5 s7 s8 s9 : Sl) : cM "str" .pu mJoin (cC (.str (Str.ofString ""))) (aCons (cLc [13] (iE (cOpn opRev (cVar 1))) (gN 13) tYes (cIf (tBl (cOp2 opEq (cVar 13) (cC (.str (Str.ofString "r"))))) (cC (.str (Str.ofString "u"))) (cC (.str (Str.ofString "r"))))) aNil)
    (st c (.str (pS l)) s2 s3 s4 s5 .non s7 s8 s9) = some (.pu (.str (pS (rf l))), st c (.str (pS l)) s2 s3 s4 s5 .non s7 s8 s9) := by
  have hl : (pS l).length ≤ lineN := by rw [pS_len]; exact line_le (by omega)
  have h := cLc_eq (vs := [13]) (it := iE (cOpn opRev (cVar 1))) (g := gN 13) (t := tYes) (f := cIf (tBl (cOp2 opEq (cVar 13) (cC (.str (Str.ofString "r"))))) (cC (.str (Str.ofString "u"))) (cC (.str (Str.ofString "r"))))
    (ρ := st c (.str (pS l)) s2 s3 s4 s5 .non s7 s8 s9) (ds := l.reverse.map sgn)
    (fun x => [.io c, .pu (.str (pS l)), s2, s3, s4, s5, .non, s7, s8, s9, .non, .non, .non, .pu x, .non]) (fun _ => true) flD
    (by simp only [iE, cOpn, cVar, List.getElem?_cons_zero, List.getElem?_cons_succ, Option.bind_some, ev_stl_pu, ev_cont_pu, opRev, if_pos hl, rev_pS, ev_mk_str, items_pS]) rfl (fun x hx => by
      obtain ⟨b, _, rfl⟩ := List.mem_map.mp hx
      refine ⟨rfl, rfl, rfl, fun _ => ?_⟩
      have t := eq_sgn_r b
      rw [← s_r] at t
      cases b with
      | true => exact ⟨_, (cIf_f (tBl_eq (cOp2_pu rfl rfl t))), by rw [s_r]; rfl⟩
      | false => exact ⟨_, (cIf_t (tBl_eq (cOp2_pu rfl rfl t))), by rw [s_u]; rfl⟩) (line_le (by simp; omega))
  rw [filter_yes, List.map_map] at h
  have e : l.reverse.map (flD ∘ sgn) = ((rf l).map fun b => (⟨#[bc b]⟩ : Str)).map .str := by
    unfold rf
    rw [List.map_map, List.map_map]
    refine List.map_congr_left fun b _ => ?_
    cases b <;> rfl
  rw [e] at h
  have hlen : (rf l).length = l.length := by simp [rf]
  have hsum : ∀ m : List Bool, ((m.map fun b => (⟨#[bc b]⟩ : Str)).map (·.length)).sum = m.length := by
    intro m
    induction m with
    | nil => rfl
    | cons b m ih =>
      simp only [List.map_cons, List.sum_cons, ih, List.length_cons]
      have : (⟨#[bc b]⟩ : Str).length = 1 := rfl
      rw [this]; omega
  have j : mJoin (.str ⟨#[]⟩) [.list (((rf l).map fun b => (⟨#[bc b]⟩ : Str)).map .str)] = some (.str (pS (rf l))) := by
    have z : (⟨#[]⟩ : Str).length = 0 := rfl
    simp only [mJoin, seqOf, Option.bind_some, strsOf_map, hsum, z, Nat.mul_zero, Nat.add_zero, hlen, join_bits]
    rw [if_pos (by omega)]
  simp only [cM, ev_c, s_e, Option.bind_some, ev_stl_pu, ev_cont_pu, tyD, beq_self_eq_true, if_true, aCons, h, ev_stl_nw, ev_anil, conts, j]
theorem like_run {a b : FE} {ρ ρ1 ρ2 : Rho} {d : D} {v w : Vl} (ha : a ρ = some (v, ρ1)) (hv : stl v = .pu d) (hb : b ρ1 = some (w, ρ2)) (hw : stl w = .pu d) (hl : m__law_like [.v d, .v d] = some (.pu (.bool true), [])) :
    cCall m__law_like (aCons a (aCons b aNil)) ρ = some (.pu (.bool true), ρ2) := by
  unfold cCall aCons
  rw [ha, Option.bind_some]
  show ((((b ρ1).bind fun p => (aNil p.2).bind fun q => some (stl p.1 :: q.1, q.2)).bind fun q => some (stl v :: q.1, q.2)).bind _) = _
  rw [hb, hv]
  simp only [Option.bind_some, ev_anil, hw, toArs, toAr, hl, slotsOf, List.nodup_nil, if_true, wb]
theorem not_f {a : FE} {ρ ρ1 : Rho} (h : a ρ = some (.pu (.bool true), ρ1)) : tNot (tTru' a) ρ = some (false, ρ1) := by
  unfold tNot tTru'
  rw [h]; rfl
theorem guard {a : FE} {c d : FS} {ρ ρ1 : Rho} (h : a ρ = some (.pu (.bool true), ρ1)) : sSeq (sIf (tNot (tTru' a)) c sPass) d ρ = d ρ1 := sSeq_nx ((sIf_f (not_f h)).trans rfl)
/-- what is judged: any text that is not long, or no text -/
def Judge (d : D) : Prop := (∃ z : Str, d = .str z ∧ z.length ≤ 1000) ∨ sortI d ≠ 3
theorem up_mul (n : Nat) (h : n ≤ 1000) : opMul (.str ⟨#[117]⟩) (.int (n : Nat)) = some (.str (pS (List.replicate n true))) := by
  have e : Txt.mul ⟨#[117]⟩ (n : Nat) = pS (List.replicate n true) := by
    refine str_ext ?_
    rw [pS_list]
    unfold Txt.mul
    by_cases h1 : (n : Int) < 1
    · rw [if_pos h1]
      have : n = 0 := by omega
      rw [this]; rfl
    · rw [if_neg h1]
      split
      · rename_i hc
        have hc' : n = 1 := by
          simp [Str.length] at hc
          omega
        subst hc'
        rfl
      · have key : ∀ (m : Nat) (acc : Array Nat), ((List.replicate m (⟨#[117]⟩ : Str).cps).foldl (fun x1 x2 => x1 ++ x2) acc).toList = acc.toList ++ List.replicate m 117 := by
          intro m
          induction m with
          | zero => intro acc; simp
          | succ m ih =>
            intro acc
            rw [List.replicate_succ, List.foldl_cons, ih, List.replicate_succ]
            simp
        rw [key]
        simp [bc]
  have h3 : (n : Int).toNat ≤ 16777216 := by omega
  have hl : (⟨#[117]⟩ : Str).length = 1 := rfl
  simp only [opMul, hl, Nat.one_mul, e]
  rw [if_pos ⟨h3, h3, by omega⟩]
def lowB (n : Nat) : List Bool := (List.replicate n [true, false]).flatten
theorem ur_mul (n : Nat) (h : n ≤ 1000) : opMul (.str ⟨#[117, 114]⟩) (.int (n : Nat)) = some (.str (pS (lowB n))) := by
  have e : Txt.mul ⟨#[117, 114]⟩ (n : Nat) = pS (lowB n) := by
    refine str_ext ?_
    rw [pS_list]
    unfold Txt.mul
    by_cases h1 : (n : Int) < 1
    · rw [if_pos h1]
      have : n = 0 := by omega
      rw [this]; rfl
    · rw [if_neg h1]
      split
      · rename_i hc
        have hc' : n = 1 := by
          simp [Str.length] at hc
          omega
        subst hc'
        rfl
      · have key : ∀ (m : Nat) (acc : Array Nat), ((List.replicate m (⟨#[117, 114]⟩ : Str).cps).foldl (fun x1 x2 => x1 ++ x2) acc).toList = acc.toList ++ (lowB m).map bc := by
          intro m
          induction m with
          | zero => intro acc; simp [lowB]
          | succ m ih =>
            intro acc
            have : (lowB (m + 1)).map bc = [117, 114] ++ (lowB m).map bc := by
              unfold lowB
              rw [List.replicate_succ, List.flatten_cons, List.map_append]; rfl
            rw [List.replicate_succ, List.foldl_cons, ih, this]
            simp
        rw [key]
        simp
  have h3 : (n : Int).toNat ≤ 16777216 := by omega
  have hl : (⟨#[117, 114]⟩ : Str).length = 2 := rfl
  simp only [opMul, hl, e]
  rw [if_pos ⟨h3, by omega, by omega⟩]
theorem lowB_len (n : Nat) : (lowB n).length = 2 * n := by
  unfold lowB
  induction n with
  | zero => rfl
  | succ n ih => rw [List.replicate_succ, List.flatten_cons, List.length_append, ih]; simp; omega
theorem cut_fromS (l : List Bool) (k : Nat) : cutS (pS l) (some (k : Int)) none = pS (l.drop k) := by
  rw [cut_pS, HT.sIx_nat, HT.sIx_none]
  congr 1
  by_cases h : k ≤ l.length
  · rw [Nat.min_eq_left h, List.take_of_length_le (by simp)]
  · rw [Nat.min_eq_right (by omega), List.drop_eq_nil_of_le (Nat.le_refl _), List.drop_eq_nil_of_le (by omega)]
    simp
theorem sl_from (l : List Bool) (k : Nat) (hl : l.length ≤ 1000) : opSl (.str (pS l)) (some (k : Int)) none = some (.str (pS (l.drop k))) := by
  have : l.length ≤ lineN := line_le (by omega)
  simp only [opSl, pS_len, if_pos this, cut_fromS]
theorem add_str (x y : Str) (h : x.length + y.length ≤ 100000) : opAdd (.str x) (.str y) = some (.str (x ++ y)) := by
  have : x.length + y.length ≤ lineN := line_le (by omega)
  simp only [opAdd, if_pos this]
theorem add_lst (xs ys : List D) (h : xs.length + ys.length ≤ 100000) : opAdd (.list xs) (.list ys) = some (.list (xs ++ ys)) := by
  have : xs.length + ys.length ≤ lineN := line_le (by omega)
  simp only [opAdd, if_pos this]
theorem jd_pS (l : List Bool) (h : l.length ≤ 1000) : Judge (.str (pS l)) := .inl ⟨_, rfl, by rw [pS_len]; exact h⟩
theorem s_sp : (Str.ofString " " : Str) = ⟨#[32]⟩ := by decide +kernel
theorem s_U : (Str.ofString "U" : Str) = ⟨#[85]⟩ := by decide +kernel
theorem s_R : (Str.ofString "R" : Str) = ⟨#[82]⟩ := by decide +kernel
theorem s_x : (Str.ofString "x" : Str) = ⟨#[120]⟩ := by decide +kernel
theorem near_rest (c : D) (l : List Bool) (k : Nat) (hl : l.length ≤ 100) (hk : k ≤ l.length) : ∃ ds, (∀ d ∈ ds, Judge d) ∧ ds.length ≤ 1000 ∧
    (sSeq (sAsg 3 (cLst (aCons (cVar 1) (aCons (cOpn opRev (cVar 1)) (aCons (cOp2n opAdd (cSl mk opSl (cVar 1) (oSo (cVar 2)) oNo) (cSl mk opSl (cVar 1) oNo (oSo (cVar 2)))) (aCons (cOp2n opAdd (cOp2n opAdd (cSl mk opSl (cVar 1) oNo (oSo (cVar 2))) (cC (.str (Str.ofString "u")))) (cSl mk opSl (cVar 1) (oSo (cVar 2)) oNo)) (aCons (cOp2n opAdd (cSl mk opSl (cVar 1) oNo (oSo (cVar 2))) (cSl mk opSl (cVar 1) (oSo (cOp2n opAdd (cVar 2) (cC (.int 1)))) oNo)) (aCons (cOp2n opAdd (cVar 1) (cC (.str (Str.ofString "ur")))) aNil))))))))
  (sSeq (sAsg 3 (cOp2n opAdd (cVar 3) (cLst (aCons (cOp2n opMul (cC (.str (Str.ofString "ur"))) (cC (.int 30))) (aCons (cOp2n opMul (cC (.str (Str.ofString "ur"))) (cC (.int 31))) (aCons (cOp2n opAdd (cOp2n opMul (cC (.str (Str.ofString "u"))) (cC (.int 30))) (cOp2n opMul (cC (.str (Str.ofString "r"))) (cC (.int 30)))) aNil))))))
  (sSeq (sAsg 3 (cOp2n opAdd (cVar 3) (cLst (aCons (cOpAn fList (aCons (cVar 1) aNil)) (aCons (cC .none) (aCons (cC (.int 5)) (aCons (cOp2n opAdd (cVar 1) (cC (.str (Str.ofString " ")))) (aCons (cIf (tBl (cOp2 opNe (cVar 1) (cC (.str (Str.ofString ""))))) (cM "str" .pu mUpper (cVar 1) aNil) (cC (.str (Str.ofString "R")))) (aCons (cC (.str (Str.ofString "U"))) (aCons (cC (.str (Str.ofString "x"))) (aCons (cTup (aCons (cC (.str (Str.ofString "u"))) (aCons (cC (.str (Str.ofString "r"))) aNil))) (aCons (cC (.bool true)) (aCons (cOp2n opAdd (cOp2n opAdd (cSl mk opSl (cVar 1) oNo (oSo (cVar 2))) (cC (.str (Str.ofString "ur")))) (cSl mk opSl (cVar 1) (oSo (cVar 2)) oNo)) aNil)))))))))))))
  sPass))) [.io c, .pu (.str (pS l)), .pu (.int (k : Nat)), .non, .non] = some (.nx [.io c, .pu (.str (pS l)), .pu (.int (k : Nat)), .pu (.list ds), .non]) := by
  have hlz : l.length ≤ lineN := line_le (by omega)
  have t1 := sl_to l k (by omega)
  have t2 := sl_from l k (by omega)
  have t3 := sl_from l (k + 1) (by omega)
  have htk : (l.take k).length ≤ 100 := by simp; omega
  have hdk : (l.drop k).length ≤ 100 := by simp; omega
  have hdk1 : (l.drop (k + 1)).length ≤ 100 := by simp; omega
  have rv : opRev (.str (pS l)) = some (.str (pS l.reverse)) := by
    have : (pS l).length ≤ lineN := by rw [pS_len]; exact hlz
    simp only [opRev, if_pos this, rev_pS]
  have a1 := add_pS (l.drop k) (l.take k) (by omega)
  have a2 := add_pS (l.take k) [true] (by simp only [List.length_cons, List.length_nil]; omega)
  have a3 := add_pS (l.take k ++ [true]) (l.drop k) (by simp only [List.length_append, List.length_cons, List.length_nil]; omega)
  have a4 := add_pS (l.take k) (l.drop (k + 1)) (by omega)
  have a5 := add_pS l [true, false] (by simp only [List.length_cons, List.length_nil]; omega)
  have a6 := add_pS (l.take k) [true, false] (by simp only [List.length_cons, List.length_nil]; omega)
  have a7 := add_pS (l.take k ++ [true, false]) (l.drop k) (by simp only [List.length_append, List.length_cons, List.length_nil]; omega)
  have pur : pS [true, false] = ⟨#[117, 114]⟩ := rfl
  have k1 : opAdd (.int (k : Nat)) (.int 1) = some (.int ((k + 1 : Nat) : Int)) := rfl
  have m1 := ur_mul 30 (by omega)
  have m2 := ur_mul 31 (by omega)
  have m3 := up_mul 30 (by omega)
  have m4 := mul_r 30 (by omega) (by omega)
  have a8 := add_pS (List.replicate 30 true) (List.replicate (30 : Int).toNat false) (by simp)
  have o6 : (6 : Nat) ≤ lineN := line_le (by omega)
  have o3 : (3 : Nat) ≤ lineN := line_le (by omega)
  have o2 : (2 : Nat) ≤ lineN := line_le (by omega)
  have o10 : (10 : Nat) ≤ lineN := line_le (by omega)
  have fl : fList [.str (pS l)] = some (.list (signsD (pS l))) := by
    have : (pS l).length ≤ lineN := by rw [pS_len]; exact hlz
    simp only [fList, on1, if_pos this]
  have sp := add_str (pS l) ⟨#[32]⟩ (by rw [pS_len]; have : (⟨#[32]⟩ : Str).length = 1 := rfl; omega)
  have spl : (pS l ++ (⟨#[32]⟩ : Str)).length ≤ 1000 := by rw [str_len_app, pS_len]; have : (⟨#[32]⟩ : Str).length = 1 := rfl; omega
  have up : ∃ z : Str, z.length ≤ 1000 ∧ ∀ ρ : Rho, ρ[1]? = some (.pu (.str (pS l))) → cIf (tBl (cOp2 opNe (cVar 1) (cC (.str (Str.ofString ""))))) (cM "str" .pu mUpper (cVar 1) aNil) (cC (.str (Str.ofString "R"))) ρ = some (.pu (.str z), ρ) := by
    have hne : ∃ q, opNe (.str (pS l)) (.str (Str.ofString "")) = some (.bool q) := ⟨_, by
      unfold opNe
      rw [if_pos (by simp [PyData.depth])]⟩
    obtain ⟨q, hq⟩ := hne
    cases q with
    | true =>
      have hu : mUpper (.str (pS l)) [] = some (.str (Txt.upper (pS l))) := by
        have : (pS l).length ≤ 5592405 := by rw [pS_len]; omega
        simp only [mUpper, if_pos this]
      refine ⟨Txt.upper (pS l), ?_, fun ρ hρ => ?_⟩
      · have := len_upper (pS l)
        rw [pS_len] at this
        omega
      · have hv := ev_var_pu hρ
        refine (cIf_t (tBl_eq (cOp2_pu hv rfl hq))).trans ?_
        exact cM_args hv rfl args_nil hu
    | false =>
      refine ⟨Str.ofString "R", by decide +kernel, fun ρ hρ => ?_⟩
      have hv := ev_var_pu hρ
      exact cIf_f (tBl_eq (cOp2_pu hv rfl hq))
  obtain ⟨zu, hzu, hup⟩ := up
  refine ⟨([.str (pS l), .str (pS l.reverse), .str (pS (l.drop k ++ l.take k)), .str (pS (l.take k ++ [true] ++ l.drop k)), .str (pS (l.take k ++ l.drop (k + 1))), .str (pS (l ++ [true, false]))] ++
    [.str (pS (lowB 30)), .str (pS (lowB 31)), .str (pS (List.replicate 30 true ++ List.replicate (30 : Int).toNat false))]) ++
    [.list (signsD (pS l)), .none, .int 5, .str (pS l ++ ⟨#[32]⟩), .str zu, .str ⟨#[85]⟩, .str ⟨#[120]⟩, .tuple [.str ⟨#[117]⟩, .str ⟨#[114]⟩], .bool true, .str (pS (l.take k ++ [true, false] ++ l.drop k))], ?_, by simp, ?_⟩
  · intro d hd
    have hnt : ∀ e : D, sortI e ≠ 3 → Judge e := fun e h => .inr h
    have h1 : ∀ x : Nat, Judge (.str ⟨#[x]⟩) := fun x => .inl ⟨_, rfl, by show (1 : Nat) ≤ 1000; omega⟩
    simp only [List.mem_append, List.mem_cons, List.not_mem_nil, or_false] at hd
    rcases hd with ((rfl | rfl | rfl | rfl | rfl | rfl) | (rfl | rfl | rfl)) | (rfl | rfl | rfl | rfl | rfl | rfl | rfl | rfl | rfl | rfl)
    · exact jd_pS _ (by omega)
    · exact jd_pS _ (by simp; omega)
    · exact jd_pS _ (by rw [List.length_append]; omega)
    · exact jd_pS _ (by simp only [List.length_append, List.length_cons, List.length_nil]; omega)
    · exact jd_pS _ (by rw [List.length_append]; omega)
    · exact jd_pS _ (by simp only [List.length_append, List.length_cons, List.length_nil]; omega)
    · exact jd_pS _ (by rw [lowB_len]; omega)
    · exact jd_pS _ (by rw [lowB_len]; omega)
    · exact jd_pS _ (by simp)
    · exact hnt _ (by simp [sortI])
    · exact hnt _ (by simp [sortI])
    · exact hnt _ (by simp [sortI])
    · exact .inl ⟨_, rfl, spl⟩
    · exact .inl ⟨_, rfl, hzu⟩
    · exact h1 _
    · exact h1 _
    · exact hnt _ (by simp [sortI])
    · exact hnt _ (by simp [sortI])
    · exact jd_pS _ (by simp only [List.length_append, List.length_cons, List.length_nil]; omega)
  · rw [s_u, s_r, s_ur, s_sp, s_U, s_x]
    refine (sSeq_nx (sAsg_nw (i := 3) (cLst_args (args_pu rfl (args_pu (cOpn_pu rfl rv) (args_pu (cOp2n_pu (cSl_pu rfl (oSo_pu rfl) rfl t2) (cSl_pu rfl rfl (oSo_pu rfl) t1) a1)
      (args_pu (cOp2n_pu (cOp2n_pu (cSl_pu rfl rfl (oSo_pu rfl) t1) rfl a2) (cSl_pu rfl (oSo_pu rfl) rfl t2) a3) (args_pu (cOp2n_pu (cSl_pu rfl rfl (oSo_pu rfl) t1) (cSl_pu rfl (oSo_pu (cOp2n_pu rfl rfl k1)) rfl t3) a4) (args_pu (cOp2n_pu rfl rfl a5) args_nil)))))) o6) rfl)).trans ?_
    refine (sSeq_nx (sAsg_nw (i := 3) (cOp2n_pl rfl (cLst_args (args_pu (cOp2n_pu rfl rfl m1) (args_pu (cOp2n_pu rfl rfl m2) (args_pu (cOp2n_pu (cOp2n_pu rfl rfl m3) (cOp2n_pu rfl rfl m4) a8) args_nil))) o3) (add_lst _ _ (by simp))) rfl)).trans ?_
    refine (sSeq_nx (sAsg_nw (i := 3) (cOp2n_pl rfl (cLst_args (args_nw (cOpAn_args (args_pu rfl args_nil) fl) (args_pu rfl (args_pu rfl (args_pu (cOp2n_pu rfl rfl sp) (args_pu (hup _ rfl) (args_pu rfl (args_pu rfl (args_pu (cTup_args (args_pu rfl (args_pu rfl args_nil)) o2)
      (args_pu rfl (args_pu (cOp2n_pu (cOp2n_pu (cSl_pu rfl rfl (oSo_pu rfl) t1) rfl a6) (cSl_pu rfl (oSo_pu rfl) rfl t2) a7) args_nil)))))))))) o10) (add_lst _ _ (by simp))) rfl)).trans ?_
    rfl

def topB (n : Nat) : List Bool := List.replicate n true ++ List.replicate n false
def chk (n : Nat) : Bool :=
  decide (okN 0 ((topB n).map bc) = some 0) && decide ((topB n).count true = n) && decide ((topB n).count false = n) &&
  decide (okN 0 ((lowB n).map bc) = some 0) && decide ((lowB n).count true = n) && decide ((lowB n).count false = n) &&
  decide ((rowB 0 (topB n)).sum = (n : Int) * (n - 1) / 2) && decide (((bncAll (topB n)).tail.map fun o => lastI (bncAll (topB n)) - o).sum = 0) && decide (pairI (rowB 0 (topB n)) = 0) &&
  decide ((rowB 0 (lowB n)).sum = 0) && decide (((bncAll (lowB n)).tail.map fun o => lastI (bncAll (lowB n)) - o).sum = (n : Int) * (n - 1) / 2) && decide (pairI (rowB 0 (lowB n)) = (n : Int) * (n - 1) / 2) &&
  decide (bncAll (lowB n) = (List.range (n + 1)).map fun k => ((k : Nat) : Int))
theorem chk_all : ∀ n : Nat, n < 31 → 0 < n → chk n = true := by decide +kernel
def PRest (scr : D) (ds : List D) (ρ : Rho) : Prop := (∀ d ∈ ds, ∃ n : Nat, n ≤ 30 ∧ d = .int (n : Nat)) ∧ ∃ a b s, CupOk a b ∧ plainS (some s) = true ∧ ρ = [.pu scr, .own (cupD a b), s, .non, .non, .non, .non]
end PL

/-! k84, 1: paths swept, plain. -/
namespace PL
/-- a level of a swept path -/
def W (low : Int) : List Int → List Bool
  | [] => []
  | x :: l => if x = low then false :: W low l else if x = low + 1 then true :: W low l else W low l
def SW (k m : Nat) (row : List Int) : List Bool := ((List.range' k m).map fun j => W (j : Nat) row).flatten
def Sn (m : Nat) (row : List Int) : List Bool := List.replicate (row.count 0) true ++ SW 0 m row
def Rv : Int → List Int → Prop
  | _, [] => True
  | p, x :: l => 0 ≤ x ∧ x ≤ p + 1 ∧ Rv x l
theorem rv_nn : ∀ (l : List Int) (p : Int), Rv p l → ∀ x ∈ l, 0 ≤ x
  | y :: l, p, h, x, hx => by
    rcases List.mem_cons.mp hx with rfl | hx
    · exact h.1
    · exact rv_nn l y h.2.2 x hx
theorem rv_lt : ∀ (l : List Int) (p : Int), Rv p l → ∀ x ∈ l, x ≤ p + (l.length : Nat)
  | y :: l, p, h, x, hx => by
    have h1 := h.2.1
    rcases List.mem_cons.mp hx with rfl | hx
    · simp; omega
    · have := rv_lt l y h.2.2 x hx
      simp; omega
theorem row_rv : ∀ (l : List Bool) (a p : Int), 0 ≤ a → a ≤ p + 1 → okN a (l.map bc) = some 0 → Rv p (rowB a l)
  | [], a, p, _, _, _ => trivial
  | true :: l, a, p, h0, h1, h => ⟨h0, h1, row_rv l (a + 1) a (by omega) (by omega) (ok_t h).2⟩
  | false :: l, a, p, h0, h1, h => row_rv l (a - 1) p (ok_f h).1 (by omega) (ok_f h).2
/-! words -/
theorem okN_app : ∀ (x y : List Bool) (a : Int), okN a ((x ++ y).map bc) = (okN a (x.map bc)).bind fun e => okN e (y.map bc)
  | [], y, a => rfl
  | b :: x, y, a => by
    rw [List.cons_append, List.map_cons, List.map_cons]
    show (if a + (if (bc b == 117) = true then 1 else -1) < 0 then none else okN (a + (if (bc b == 117) = true then 1 else -1)) ((x ++ y).map bc)) = (if a + (if (bc b == 117) = true then 1 else -1) < 0 then none else okN (a + (if (bc b == 117) = true then 1 else -1)) (x.map bc)).bind _
    by_cases h : a + (if (bc b == 117) = true then 1 else -1) < 0
    · rw [if_pos h, if_pos h]; rfl
    · rw [if_neg h, if_neg h]
      exact okN_app x y _
theorem okN_rep : ∀ (n : Nat) (a : Int), 0 ≤ a → okN a ((List.replicate n true).map bc) = some (a + n)
  | 0, a, h => by simp [okN]
  | n + 1, a, h => by
    rw [List.replicate_succ, List.map_cons]
    unfold okN
    have e : a + (if (bc true == 117) = true then (1 : Int) else -1) = a + 1 := by simp [bc]
    rw [e, if_neg (by omega), okN_rep n (a + 1) (by omega)]
    congr 1
    omega
theorem okN_rep_f : ∀ (n : Nat) (a : Int), (n : Int) ≤ a → okN a ((List.replicate n false).map bc) = some (a - n)
  | 0, a, h => by simp [okN]
  | n + 1, a, h => by
    rw [List.replicate_succ, List.map_cons]
    unfold okN
    have e : a + (if (bc false == 117) = true then (1 : Int) else -1) = a - 1 := by simp [bc]; omega
    rw [e, if_neg (by omega), okN_rep_f n (a - 1) (by omega)]
    congr 1
    omega
theorem okN_W (low : Int) : ∀ (row : List Int) (h : Int), (row.count low : Int) ≤ h → okN h ((W low row).map bc) = some (h - (row.count low : Nat) + (row.count (low + 1) : Nat))
  | [], h, _ => by simp [W, okN]
  | x :: l, h, hh => by
    unfold W
    by_cases h1 : x = low
    · subst h1
      have hne : ¬ (x == x + 1) = true := by simp; omega
      rw [List.count_cons_self] at hh ⊢
      rw [List.count_cons, if_neg hne]
      rw [if_pos rfl, List.map_cons]
      unfold okN
      have e : h + (if (bc false == 117) = true then (1 : Int) else -1) = h - 1 := by simp [bc]; omega
      rw [e, if_neg (by omega), okN_W x l (h - 1) (by omega)]
      congr 1
      omega
    · rw [if_neg h1]
      by_cases h2 : x = low + 1
      · subst h2
        have hne : ¬ (low + 1 == low) = true := by simp; omega
        rw [List.count_cons, if_neg hne] at hh ⊢
        rw [List.count_cons_self, if_pos rfl, List.map_cons]
        unfold okN
        have e : h + (if (bc true == 117) = true then (1 : Int) else -1) = h + 1 := by simp [bc]
        rw [e, if_neg (by omega), okN_W low l (h + 1) (by omega)]
        congr 1
        omega
      · rw [if_neg h2]
        have n1 : ¬ (x == low) = true := by simpa using h1
        have n2 : ¬ (x == low + 1) = true := by simpa using h2
        rw [List.count_cons, if_neg n1] at hh ⊢
        rw [List.count_cons, if_neg n2]
        exact okN_W low l h (by omega)
theorem SW_zero (k : Nat) (row : List Int) : SW k 0 row = [] := rfl
theorem SW_succ (k m : Nat) (row : List Int) : SW k (m + 1) row = W (k : Nat) row ++ SW (k + 1) m row := by
  unfold SW
  rw [List.range'_succ, List.map_cons, List.flatten_cons]
theorem SW_snoc (k m : Nat) (row : List Int) : SW k (m + 1) row = SW k m row ++ W ((k + m : Nat) : Int) row := by
  unfold SW
  rw [List.range'_concat, List.map_append, List.flatten_append]
  simp
theorem SW_add (k m j : Nat) (row : List Int) : SW k (m + j) row = SW k m row ++ SW (k + m) j row := by
  unfold SW
  rw [← List.range'_append_1, List.map_append, List.flatten_append]
theorem okN_SW (row : List Int) : ∀ (m k : Nat), okN (row.count (k : Int) : Nat) ((SW k m row).map bc) = some (row.count ((k + m : Nat) : Int) : Nat)
  | 0, k => by simp [SW_zero, okN]
  | m + 1, k => by
    rw [SW_succ, okN_app, okN_W _ _ _ (by omega), Option.bind_some]
    have := okN_SW row m (k + 1)
    rw [show ((row.count (k : Int) : Nat) : Int) - (row.count (k : Int) : Nat) + (row.count ((k : Int) + 1) : Nat) = (row.count ((k + 1 : Nat) : Int) : Nat) by
      rw [show ((k + 1 : Nat) : Int) = (k : Int) + 1 by omega]; omega]
    rw [this, show k + 1 + m = k + (m + 1) by omega]
theorem W_t (low : Int) : ∀ row : List Int, (W low row).count true = row.count (low + 1)
  | [] => rfl
  | x :: l => by
    have ih := W_t low l
    unfold W
    by_cases h1 : x = low
    · subst h1
      have hne : ¬ (x == x + 1) = true := by simp; omega
      rw [if_pos rfl, List.count_cons (a := x + 1), if_neg hne]
      simpa using ih
    · rw [if_neg h1]
      by_cases h2 : x = low + 1
      · subst h2
        rw [if_pos rfl, List.count_cons_self, List.count_cons_self, ih]
      · have n2 : ¬ (x == low + 1) = true := by simpa using h2
        rw [if_neg h2, List.count_cons (a := low + 1), if_neg n2, ih]; rfl
theorem W_f (low : Int) : ∀ row : List Int, (W low row).count false = row.count low
  | [] => rfl
  | x :: l => by
    have ih := W_f low l
    unfold W
    by_cases h1 : x = low
    · subst h1
      rw [if_pos rfl, List.count_cons_self, List.count_cons_self, ih]
    · have n1 : ¬ (x == low) = true := by simpa using h1
      rw [if_neg h1, List.count_cons (a := low), if_neg n1]
      by_cases h2 : x = low + 1
      · rw [if_pos h2]; simpa using ih
      · rw [if_neg h2, ih]; rfl
/-- how many items are below k -/
def Cn (row : List Int) : Nat → Nat
  | 0 => 0
  | k + 1 => Cn row k + row.count (k : Int)
theorem SW_f (row : List Int) : ∀ m : Nat, (SW 0 m row).count false = Cn row m
  | 0 => rfl
  | m + 1 => by
    rw [SW_snoc, List.count_append, SW_f row m, W_f, Nat.zero_add]; rfl
theorem SW_t (row : List Int) : ∀ m : Nat, row.count 0 + (SW 0 m row).count true = Cn row (m + 1)
  | 0 => by simp [SW_zero, Cn]
  | m + 1 => by
    have := SW_t row m
    rw [SW_snoc, List.count_append, W_t, Nat.zero_add]
    show _ = Cn row (m + 1) + row.count ((m + 1 : Nat) : Int)
    rw [← this, show ((m + 1 : Nat) : Int) = (m : Int) + 1 by omega]
    omega
theorem Cn_nil : ∀ m, Cn [] m = 0
  | 0 => rfl
  | m + 1 => by simp [Cn, Cn_nil m]
theorem Cn_cons (x : Int) (l : List Int) (h0 : 0 ≤ x) : ∀ m : Nat, Cn (x :: l) m = Cn l m + (if x < m then 1 else 0)
  | 0 => by
    have : ¬ x < ((0 : Nat) : Int) := by omega
    rw [if_neg this]; rfl
  | m + 1 => by
    have ih := Cn_cons x l h0 m
    show Cn (x :: l) m + (x :: l).count (m : Int) = _
    rw [ih, List.count_cons]
    show _ = Cn l m + l.count (m : Int) + _
    by_cases h1 : x = (m : Int)
    · subst h1
      have a : ¬ ((m : Nat) : Int) < (m : Nat) := by omega
      have b : ((m : Nat) : Int) < ((m + 1 : Nat) : Int) := by omega
      rw [if_neg a, if_pos b]
      simp; omega
    · have n1 : ¬ (x == (m : Int)) = true := by simpa using h1
      rw [if_neg n1]
      by_cases h2 : x < (m : Nat)
      · rw [if_pos h2, if_pos (by omega)]; omega
      · rw [if_neg h2, if_neg (by omega)]; omega
theorem Cn_all : ∀ (row : List Int) (m : Nat), (∀ x ∈ row, 0 ≤ x ∧ x < m) → Cn row m = row.length
  | [], m, _ => Cn_nil m
  | x :: l, m, h => by
    obtain ⟨h0, h1⟩ := h x List.mem_cons_self
    rw [Cn_cons x l h0, if_pos h1, Cn_all l m fun y hy => h y (List.mem_cons_of_mem _ hy)]
    rfl
theorem cnt_zero {row : List Int} {m : Nat} (h : ∀ x ∈ row, 0 ≤ x ∧ x < m) (k : Nat) (hk : m ≤ k) : row.count (k : Int) = 0 := by
  rw [List.count_eq_zero]
  intro hm
  have := (h _ hm).2
  omega
theorem W_nil {row : List Int} {m : Nat} (h : ∀ x ∈ row, 0 ≤ x ∧ x < m) (k : Nat) (hk : m ≤ k) : W (k : Nat) row = [] := by
  have h1 := W_f (k : Int) row
  have h2 := W_t (k : Int) row
  rw [cnt_zero h k hk] at h1
  rw [show (k : Int) + 1 = ((k + 1 : Nat) : Int) by omega, cnt_zero h (k + 1) (by omega)] at h2
  have := cnt_tf (W (k : Int) row)
  exact List.eq_nil_of_length_eq_zero (by omega)
theorem Sn_ext {row : List Int} {m : Nat} (h : ∀ x ∈ row, 0 ≤ x ∧ x < m) : ∀ j : Nat, Sn (m + j) row = Sn m row
  | 0 => rfl
  | j + 1 => by
    have ih := Sn_ext h j
    unfold Sn at ih ⊢
    rw [show m + (j + 1) = (m + j) + 1 by omega, SW_snoc, W_nil h (0 + (m + j)) (by omega), List.append_nil]
    exact ih
theorem Sn_dyck {row : List Int} {m : Nat} (h : ∀ x ∈ row, 0 ≤ x ∧ x < m) : Dyck (Sn m row) row.length := by
  have hc := Cn_all row m h
  have ht := SW_t row m
  have hz := cnt_zero h m (Nat.le_refl _)
  refine ⟨?_, ?_, ?_⟩
  · unfold Sn
    rw [okN_app, okN_rep _ _ (Int.le_refl 0), Option.bind_some, Int.zero_add]
    have := okN_SW row m 0
    rw [show ((0 : Nat) : Int) = 0 from rfl] at this
    rw [this, Nat.zero_add, hz]; rfl
  · unfold Sn
    rw [List.count_append, List.count_replicate_self, ht]
    show Cn row m + row.count (m : Int) = _
    rw [hz, hc]; rfl
  · unfold Sn
    rw [List.count_append, SW_f, hc, List.count_replicate]
    simp
/-! areas -/
theorem row_app : ∀ (x y : List Bool) (a : Int), (rowB a (x ++ y)).sum = (rowB a x).sum + (rowB (a + (x.count true : Nat) - (x.count false : Nat)) y).sum
  | [], y, a => by simp [rowB]
  | true :: x, y, a => by
    have := row_app x y (a + 1)
    simp only [List.cons_append, rowB, List.sum_cons, this, List.count_cons_self]
    rw [show a + 1 + ((x.count true : Nat) : Int) - ((x.count false : Nat) : Int) = a + ((x.count true + 1 : Nat) : Int) - (((true :: x).count false : Nat) : Int) by simp; omega]
    omega
  | false :: x, y, a => by
    have := row_app x y (a - 1)
    simp only [List.cons_append, rowB, this, List.count_cons_self]
    rw [show a - 1 + ((x.count true : Nat) : Int) - ((x.count false : Nat) : Int) = a + (((false :: x).count true : Nat) : Int) - ((x.count false + 1 : Nat) : Int) by simp; omega]
def PP (v : Int) : List Int → Int
  | [] => 0
  | x :: l => (if x = v then ((l.countP (nearB v) : Nat) : Int) else 0) + PP v l
theorem near_cnt (v : Int) : ∀ l : List Int, l.countP (nearB v) = l.count v + l.count (v - 1)
  | [] => rfl
  | x :: l => by
    rw [List.countP_cons, List.count_cons, List.count_cons, near_cnt v l]
    unfold nearB
    by_cases h1 : x = v
    · subst h1
      have : ¬ (x == x - 1) = true := by simp; omega
      simp [this]; omega
    · by_cases h2 : x = v - 1
      · subst h2
        have : ¬ (v - 1 == v) = true := by simp; omega
        simp [this]; omega
      · simp [h1, h2]
theorem row_W (low : Int) : ∀ (row : List Int) (h : Int), (rowB h (W low row)).sum = PP (low + 1) row + (h - (row.count low : Nat)) * (row.count (low + 1) : Nat)
  | [], h => by simp [W, rowB, PP]
  | x :: l, h => by
    unfold W
    by_cases h1 : x = low
    · subst h1
      have hne : ¬ (x == x + 1) = true := by simp; omega
      have hn2 : ¬ x = x + 1 := by omega
      have ih := row_W x l (h - 1)
      rw [if_pos rfl]
      simp only [rowB, ih, PP, if_neg hn2, List.count_cons_self]
      rw [List.count_cons (a := x + 1), if_neg hne]
      rw [show h - 1 - ((l.count x : Nat) : Int) = h - ((l.count x + 1 : Nat) : Int) by omega]
      simp
    · rw [if_neg h1]
      have n1 : ¬ (x == low) = true := by simpa using h1
      by_cases h2 : x = low + 1
      · subst h2
        have ih := row_W low l (h + 1)
        rw [if_pos rfl]
        simp only [rowB, List.sum_cons, ih, PP, if_true, List.count_cons_self]
        rw [List.count_cons (a := low), if_neg n1, near_cnt, Int.add_sub_cancel]
        generalize PP (low + 1) l = p
        generalize l.count (low + 1) = c'
        generalize l.count low = c
        rw [show ((c' + 1 : Nat) : Int) = (c' : Int) + 1 by omega, Int.mul_add, Int.mul_one, show h + 1 - (c : Int) = (h - (c : Int)) + 1 by omega, Int.add_mul, Int.one_mul]
        simp
        omega
      · have n2 : ¬ (x == low + 1) = true := by simpa using h2
        rw [if_neg h2, row_W low l h]
        simp only [PP, if_neg h2]
        rw [List.count_cons (a := low), if_neg n1, List.count_cons (a := low + 1), if_neg n2]
        simp
/-- the sum of PP v for v below m -/
def PS (row : List Int) : Nat → Int
  | 0 => 0
  | m + 1 => PS row m + PP (m : Int) row
theorem PS_nil : ∀ m, PS [] m = 0
  | 0 => rfl
  | m + 1 => by simp [PS, PS_nil m, PP]
theorem PS_cons (x : Int) (l : List Int) (h0 : 0 ≤ x) : ∀ m : Nat, PS (x :: l) m = PS l m + (if x < m then ((l.countP (nearB x) : Nat) : Int) else 0)
  | 0 => by
    have : ¬ x < ((0 : Nat) : Int) := by omega
    rw [if_neg this]; rfl
  | m + 1 => by
    have ih := PS_cons x l h0 m
    show PS (x :: l) m + ((if x = (m : Int) then ((l.countP (nearB (m : Int)) : Nat) : Int) else 0) + PP (m : Int) l) = PS l m + PP (m : Int) l + _
    rw [ih]
    by_cases h1 : x = (m : Int)
    · subst h1
      rw [if_pos rfl, if_neg (by omega), if_pos (by omega)]
      omega
    · rw [if_neg h1]
      by_cases h2 : x < (m : Nat)
      · rw [if_pos h2, if_pos (by omega)]; omega
      · rw [if_neg h2, if_neg (by omega)]; omega
theorem PS_all : ∀ (row : List Int) (m : Nat), (∀ x ∈ row, 0 ≤ x ∧ x < m) → PS row m = pairI row
  | [], m, _ => PS_nil m
  | x :: l, m, h => by
    obtain ⟨h0, h1⟩ := h x List.mem_cons_self
    rw [PS_cons x l h0, if_pos h1, PS_all l m fun y hy => h y (List.mem_cons_of_mem _ hy)]
    show _ = _ + pairI l
    omega
theorem rep_area : ∀ n : Nat, (rowB 0 (List.replicate (n + 1) true)).sum = (rowB 0 (List.replicate n true)).sum + n := fun n => by
  rw [List.replicate_succ', row_snoc_t, List.count_replicate_self, List.count_replicate]
  simp
theorem PP_zero : ∀ (row : List Int), (∀ x ∈ row, 0 ≤ x) → PP 0 row = (rowB 0 (List.replicate (row.count 0) true)).sum
  | [], _ => rfl
  | x :: l, h => by
    have ih := PP_zero l fun y hy => h y (List.mem_cons_of_mem _ hy)
    show (if x = 0 then ((l.countP (nearB 0) : Nat) : Int) else 0) + PP 0 l = _
    by_cases h1 : x = 0
    · subst h1
      have hm : l.count (-1) = 0 := by
        rw [List.count_eq_zero]
        intro q
        have := h _ (List.mem_cons_of_mem _ q)
        omega
      rw [if_pos rfl, List.count_cons_self, rep_area, ih, near_cnt, show (0 : Int) - 1 = -1 from rfl, hm]
      omega
    · have n1 : ¬ (x == 0) = true := by simpa using h1
      rw [if_neg h1, List.count_cons, if_neg n1, ih]
      simp
theorem SW_area (row : List Int) (h : ∀ x ∈ row, 0 ≤ x) : ∀ m : Nat, (rowB 0 (Sn m row)).sum = PS row (m + 1)
  | 0 => by
    unfold Sn
    rw [SW_zero, List.append_nil, ← PP_zero row h]
    simp [PS]
  | m + 1 => by
    have ih := SW_area row h m
    have ht := SW_t row m
    have hf := SW_f row m
    unfold Sn at ih ⊢
    rw [SW_snoc, ← List.append_assoc, row_app, ih, row_W, List.count_append, List.count_append, List.count_replicate_self, ht, hf, List.count_replicate, Nat.zero_add]
    show _ = PS row (m + 1) + PP ((m + 1 : Nat) : Int) row
    have e : (0 : Int) + ((Cn row (m + 1) : Nat) : Int) - (((if (true == false) = true then row.count 0 else 0) + Cn row m : Nat) : Int) - ((row.count (m : Int) : Nat) : Int) = 0 := by
      have : Cn row (m + 1) = Cn row m + row.count (m : Int) := rfl
      simp [this]
      omega
    rw [e, Int.zero_mul, show ((m + 1 : Nat) : Int) = (m : Int) + 1 by omega]
    omega
theorem area_swept {row : List Int} {m : Nat} (h : ∀ x ∈ row, 0 ≤ x ∧ x < m) : (rowB 0 (Sn m row)).sum = pairI row := by
  rw [SW_area row (fun x hx => (h x hx).1) m]
  exact PS_all row (m + 1) fun x hx => by have := h x hx; omega
end PL

/-! k84, 2: the bounces of a swept path, and how it is led back, plain. -/
namespace PL
theorem W_head (low : Int) : ∀ (l : List Int) (p : Int), Rv p l → p < low → W low l = [] ∨ ∃ t, W low l = false :: t
  | [], _, _, _ => .inl rfl
  | x :: l, p, h, hp => by
    have h1 := h.2.1
    unfold W
    by_cases e : x = low
    · rw [if_pos e]; exact .inr ⟨_, rfl⟩
    · rw [if_neg e, if_neg (by omega)]
      exact W_head low l x h.2.2 (by omega)
theorem rv_dense : ∀ (l : List Int) (p v : Int), Rv p l → p < v → (∃ x ∈ l, v ≤ x) → 0 < l.count v
  | [], _, _, _, _, ⟨x, hx, _⟩ => by cases hx
  | y :: l, p, v, h, hp, ⟨x, hx, hv⟩ => by
    have h1 := h.2.1
    by_cases e : y = v
    · rw [e, List.count_cons_self]; omega
    · have hy : y < v := by omega
      have hx' : x ∈ l := by
        rcases List.mem_cons.mp hx with rfl | hx
        · omega
        · exact hx
      have := rv_dense l y v h.2.2 hy ⟨x, hx', hv⟩
      rw [List.count_cons]
      omega
/-- one more than the greatest item -/
def topN (row : List Int) : Nat := (row.foldl max (-1) + 1).toNat
theorem fold_max : ∀ (l : List Int) (a : Int), a ≤ l.foldl max a ∧ (∀ x ∈ l, x ≤ l.foldl max a) ∧ (l.foldl max a = a ∨ l.foldl max a ∈ l)
  | [], a => ⟨Int.le_refl a, (fun x h => by cases h), .inl rfl⟩
  | b :: l, a => by
    obtain ⟨h1, h2, h3⟩ := fold_max l (max a b)
    refine ⟨Int.le_trans (Int.le_max_left a b) h1, fun x hx => ?_, ?_⟩
    · rcases List.mem_cons.mp hx with rfl | hx
      · exact Int.le_trans (Int.le_max_right a x) h1
      · exact h2 x hx
    · rw [List.foldl_cons]
      rcases h3 with h3 | h3
      · rw [h3]
        by_cases hab : a ≤ b
        · right; rw [Int.max_eq_right hab]; exact List.mem_cons_self
        · left; rw [Int.max_eq_left (by omega)]
      · exact .inr (List.mem_cons_of_mem _ h3)
theorem top_lt {row : List Int} (h : ∀ x ∈ row, 0 ≤ x) : ∀ x ∈ row, 0 ≤ x ∧ x < topN row := fun x hx => by
  have := (fold_max row (-1)).2.1 x hx
  have := h x hx
  unfold topN
  omega
theorem top_dense {row : List Int} {k : Nat} (h : Rv (-1) row) (hk : k < topN row) : 0 < row.count (k : Int) := by
  have hm := (fold_max row (-1)).2.2
  unfold topN at hk
  rcases hm with hm | hm
  · omega
  · exact rv_dense row (-1) k h (by omega) ⟨_, hm, by omega⟩
theorem top_le {row : List Int} (h : Rv (-1) row) : topN row ≤ row.length := by
  have hm := (fold_max row (-1)).2.2
  unfold topN
  rcases hm with hm | hm
  · omega
  · have := rv_lt row (-1) h _ hm
    omega
/-! bounces -/
theorem hgt_app : ∀ (x y : List Bool) (k : Int), hgtB k (x ++ y) = hgtB k x ++ hgtB (k + (x.count true : Nat)) y
  | [], y, k => by simp [hgtB]
  | true :: x, y, k => by
    simp only [List.cons_append, hgtB, hgt_app x y (k + 1), List.count_cons_self]
    congr 2
    omega
  | false :: x, y, k => by
    simp only [List.cons_append, hgtB, hgt_app x y k]
    rw [List.count_cons, if_neg (by decide), Nat.add_zero]
theorem Cn_mono (row : List Int) : ∀ (j k : Nat), Cn row k ≤ Cn row (k + j)
  | 0, k => Nat.le_refl _
  | j + 1, k => Nat.le_trans (Cn_mono row j k) (Nat.le_add_right _ _)
/-- at the place of what is below k stands what is below k + 1 -/
theorem hgt_at {row : List Int} (hr : Rv (-1) row) {k M : Nat} (hM : M = topN row) (hk : k < M) : (hgtB 0 (Sn M row)).getD (Cn row k) 0 = (Cn row (k + 1) : Nat) := by
  have hc := top_dense hr (hM ▸ hk)
  have e : Sn M row = (List.replicate (row.count 0) true ++ SW 0 k row) ++ (W (k : Nat) row ++ SW (k + 1) (M - k - 1) row) := by
    unfold Sn
    rw [List.append_assoc, ← SW_succ]
    have : SW 0 M row = SW 0 (k + (M - k - 1 + 1)) row := by congr 1; omega
    rw [this, SW_add, Nat.zero_add]
  have hl : (hgtB 0 (List.replicate (row.count 0) true ++ SW 0 k row)).length = Cn row k := by
    rw [hgt_cnt, List.count_append, SW_f, List.count_replicate]
    simp
  rw [e, hgt_app, List.getD_eq_getElem?_getD, List.getElem?_append_right (by rw [hl]; exact Nat.le_refl _), hl, Nat.sub_self, List.count_append, List.count_replicate_self, SW_t]
  rcases W_head (k : Int) row (-1) hr (by omega) with h | ⟨t, h⟩
  · have := W_f (k : Int) row
    rw [h] at this
    simp at this
    omega
  · rw [h]
    simp [hgtB]
theorem bnc_swept {row : List Int} (hr : Rv (-1) row) {M : Nat} (hM : M = topN row) : ∀ (f k : Nat), k ≤ M → M - k ≤ f → bnc (hgtB 0 (Sn M row)) f (Cn row k : Nat) = (List.range' (k + 1) (M - k)).map fun j => ((Cn row j : Nat) : Int)
  | 0, k, hk, hf => by
    have : M - k = 0 := by omega
    rw [this]; rfl
  | f + 1, k, hk, hf => by
    have hx := top_lt (rv_nn row (-1) hr)
    rw [← hM] at hx
    have hn := Cn_all row M hx
    have hl : (hgtB 0 (Sn M row)).length = row.length := by rw [hgt_cnt, (Sn_dyck hx).2.2]
    unfold bnc
    by_cases h : k < M
    · have hc := top_dense hr (hM ▸ h)
      have h1 : Cn row (k + 1) = Cn row k + row.count (k : Int) := rfl
      have h2 := Cn_mono row (M - k - 1) (k + 1)
      rw [show k + 1 + (M - k - 1) = M by omega, hn] at h2
      rw [if_pos (by rw [hl]; omega), Int.toNat_natCast, hgt_at hr hM h, bnc_swept hr hM f (k + 1) (by omega) (by omega)]
      rw [show M - k = (M - (k + 1)) + 1 by omega, List.range'_succ, List.map_cons]
    · have : k = M := by omega
      subst this
      rw [if_neg (by rw [hl, hn]; omega), Nat.sub_self]
      rfl
theorem bncAll_swept {row : List Int} (hr : Rv (-1) row) : bncAll (Sn (topN row) row) = (List.range' 0 (topN row + 1)).map fun j => ((Cn row j : Nat) : Int) := by
  have hx := top_lt (rv_nn row (-1) hr)
  have hl : (hgtB 0 (Sn (topN row) row)).length = row.length := by rw [hgt_cnt, (Sn_dyck hx).2.2]
  unfold bncAll
  have := bnc_swept hr rfl (hgtB 0 (Sn (topN row) row)).length 0 (Nat.zero_le _) (by rw [hl]; have := top_le hr; omega)
  rw [show ((Cn row 0 : Nat) : Int) = 0 from rfl] at this
  rw [this, List.range'_succ, List.map_cons]
  rfl
theorem zip_steps (row : List Int) : ∀ (m k : Nat), ((((Cn row k : Nat) : Int) :: (List.range' (k + 1) m).map fun j => ((Cn row j : Nat) : Int)).zip ((List.range' (k + 1) m).map fun j => ((Cn row j : Nat) : Int))).map (fun p => p.2 - p.1) = (List.range' k m).map fun (j : Nat) => ((row.count (j : Int) : Nat) : Int)
  | 0, k => rfl
  | m + 1, k => by
    have ih := zip_steps row m (k + 1)
    rw [List.range'_succ, List.map_cons, List.zip_cons_cons, List.map_cons, ih, List.range'_succ (s := k), List.map_cons]
    congr 1
    have : Cn row (k + 1) = Cn row k + row.count (k : Int) := rfl
    simp only [this]
    omega
def cnts (row : List Int) (k m : Nat) : List Nat := (List.range' k m).map fun (j : Nat) => row.count (j : Int)
theorem steps_swept {row : List Int} (hr : Rv (-1) row) : stepsI (bncAll (Sn (topN row) row)) = (cnts row 0 (topN row)).map fun (c : Nat) => (c : Int) := by
  rw [bncAll_swept hr]
  unfold stepsI cnts
  rw [List.range'_succ, List.map_cons, List.tail_cons, List.map_map]
  exact zip_steps row (topN row) 0
/-- each level times how many stand there -/
def KS (row : List Int) : Nat → Int
  | 0 => 0
  | m + 1 => KS row m + (m : Int) * (row.count (m : Int) : Nat)
theorem KS_cons (x : Int) (l : List Int) (h0 : 0 ≤ x) : ∀ m : Nat, KS (x :: l) m = KS l m + (if x < m then x else 0)
  | 0 => by
    have : ¬ x < ((0 : Nat) : Int) := by omega
    rw [if_neg this]; rfl
  | m + 1 => by
    have ih := KS_cons x l h0 m
    show KS (x :: l) m + (m : Int) * ((x :: l).count (m : Int) : Nat) = KS l m + (m : Int) * (l.count (m : Int) : Nat) + _
    rw [ih, List.count_cons]
    by_cases h1 : x = (m : Int)
    · subst h1
      rw [if_neg (by omega), if_pos (by simp), if_pos (by omega), show ((l.count ((m : Nat) : Int) + 1 : Nat) : Int) = (l.count ((m : Nat) : Int) : Nat) + 1 by omega, Int.mul_add, Int.mul_one]
      omega
    · have n1 : ¬ (x == (m : Int)) = true := by simpa using h1
      rw [if_neg n1]
      by_cases h2 : x < (m : Nat)
      · rw [if_pos h2, if_pos (by omega), Nat.add_zero]; omega
      · rw [if_neg h2, if_neg (by omega), Nat.add_zero]; omega
theorem KS_all : ∀ (row : List Int) (m : Nat), (∀ x ∈ row, 0 ≤ x ∧ x < m) → KS row m = row.sum
  | [], m, _ => by
    have : ∀ m, KS [] m = 0 := by
      intro m
      induction m with
      | zero => rfl
      | succ m ih => simp [KS, ih]
    rw [this]; rfl
  | x :: l, m, h => by
    obtain ⟨h0, h1⟩ := h x List.mem_cons_self
    rw [KS_cons x l h0, if_pos h1, KS_all l m fun y hy => h y (List.mem_cons_of_mem _ hy), List.sum_cons]
    omega
theorem KS_range (row : List Int) : ∀ (m k : Nat), (((List.range' k m).map fun (j : Nat) => ((row.count (j : Int) : Nat) : Int)).zipIdx k |>.map fun p => ((p.2 : Nat) : Int) * p.1).sum = KS row (k + m) - KS row k
  | 0, k => by simp
  | m + 1, k => by
    have ih := KS_range row m (k + 1)
    rw [List.range'_succ, List.map_cons, List.zipIdx_cons, List.map_cons, List.sum_cons, ih, show k + 1 + m = k + (m + 1) by omega]
    show (k : Int) * ((row.count (k : Int) : Nat) : Int) + (_ - (KS row k + (k : Int) * ((row.count (k : Int) : Nat) : Int))) = _
    omega
theorem bw_swept {row : List Int} (hr : Rv (-1) row) : ((bncAll (Sn (topN row) row)).tail.map fun o => (row.length : Int) - o).sum = row.sum := by
  have hx := top_lt (rv_nn row (-1) hr)
  have hd := Sn_dyck hx
  have hl := bncAll_last hd
  have ha := abel (bncAll (Sn (topN row) row)).tail 0 0
  have e : (0 :: (bncAll (Sn (topN row) row)).tail) = bncAll (Sn (topN row) row) := rfl
  rw [e, hl] at ha
  have hs := steps_swept hr
  unfold stepsI at hs
  rw [hs] at ha
  unfold cnts at ha
  rw [List.map_map] at ha
  have hk := KS_range row (topN row) 0
  have e2 : (List.range' 0 (topN row)).map ((fun (c : Nat) => (c : Int)) ∘ fun (j : Nat) => row.count (j : Int)) = (List.range' 0 (topN row)).map fun (j : Nat) => ((row.count (j : Int) : Nat) : Int) := rfl
  rw [e2, hk, Nat.zero_add, KS_all row _ hx] at ha
  have k0 : KS row 0 = 0 := rfl
  rw [k0] at ha
  omega
/-! led back -/
def bh : List Bool → Nat × List Nat
  | [] => (0, [])
  | true :: s => ((bh s).1 + 1, (bh s).2)
  | false :: s => (0, (bh s).1 :: (bh s).2)
def ins (low : Int) : List Int → List Nat → List Int
  | [], _ => []
  | x :: l, bs => if x = low then match bs with
      | [] => x :: ins low l []
      | b :: bs => x :: (List.replicate b (low + 1) ++ ins low l bs)
    else x :: ins low l bs
def unsw : Int → List Nat → List Int → List Bool → List Int
  | _, [], row, _ => row
  | low, s :: ss, row, rest => unsw (low + 1) ss (ins low row (bh (rest.take (s + ss.headD 0))).2) (rest.drop (s + ss.headD 0))
theorem level_back (low : Int) : ∀ (l : List Int) (p : Int), Rv p l → List.replicate (bh (W low l)).1 (low + 1) ++ ins low (l.filter fun x => decide (x ≤ low)) (bh (W low l)).2 = l.filter fun x => decide (x ≤ low + 1)
  | [], p, _ => rfl
  | x :: l, p, h => by
    have ih := level_back low l x h.2.2
    unfold W
    by_cases h1 : x = low
    · subst h1
      rw [if_pos rfl, List.filter_cons_of_pos (by simp), List.filter_cons_of_pos (by simp; omega)]
      show List.replicate 0 _ ++ (if x = x then x :: (List.replicate (bh (W x l)).1 (x + 1) ++ ins x _ (bh (W x l)).2) else _) = _
      rw [if_pos rfl, ih]; rfl
    · rw [if_neg h1]
      by_cases h2 : x = low + 1
      · subst h2
        rw [if_pos rfl, List.filter_cons_of_neg (by simp; omega), List.filter_cons_of_pos (by simp)]
        show List.replicate ((bh (W low l)).1 + 1) _ ++ ins low _ (bh (W low l)).2 = _
        rw [List.replicate_succ, List.cons_append, ih]
      · rw [if_neg h2]
        by_cases h3 : x < low
        · rw [List.filter_cons_of_pos (by simp; omega), List.filter_cons_of_pos (by simp; omega)]
          have hb : (bh (W low l)).1 = 0 := by
            rcases W_head low l x h.2.2 h3 with e | ⟨t, e⟩
            · rw [e]; rfl
            · rw [e]; rfl
          rw [hb] at ih ⊢
          show [] ++ (if x = low then _ else x :: ins low _ _) = _
          rw [if_neg h1, ← ih]; rfl
        · rw [List.filter_cons_of_neg (by simp; omega), List.filter_cons_of_neg (by simp; omega)]
          exact ih
theorem level_back0 {row : List Int} (hr : Rv (-1) row) (k : Nat) : ins (k : Nat) (row.filter fun x => decide (x ≤ (k : Nat))) (bh (W (k : Nat) row)).2 = row.filter fun x => decide (x ≤ ((k + 1 : Nat) : Int)) := by
  have h := level_back (k : Nat) row (-1) hr
  have hb : (bh (W (k : Nat) row)).1 = 0 := by
    rcases W_head (k : Nat) row (-1) hr (by omega) with e | ⟨t, e⟩
    · rw [e]; rfl
    · rw [e]; rfl
  rw [hb] at h
  rw [show ((k + 1 : Nat) : Int) = (k : Int) + 1 by omega]
  exact h
theorem W_len (low : Int) (row : List Int) : (W low row).length = row.count low + row.count (low + 1) := by
  rw [cnt_tf, W_t, W_f]; omega
theorem cnts_succ (row : List Int) (k m : Nat) : cnts row k (m + 1) = row.count (k : Int) :: cnts row (k + 1) m := by
  unfold cnts
  rw [List.range'_succ, List.map_cons]
theorem unsw_swept {row : List Int} (hr : Rv (-1) row) : ∀ (m k : Nat), k + m = topN row → unsw (k : Nat) (cnts row k m) (row.filter fun x => decide (x ≤ (k : Nat))) (SW k m row) = row
  | 0, k, hk => by
    show row.filter _ = row
    rw [List.filter_eq_self]
    intro x hx
    have := top_lt (rv_nn row (-1) hr) x hx
    simp; omega
  | m + 1, k, hk => by
    rw [cnts_succ, SW_succ]
    have hh : (cnts row (k + 1) m).headD 0 = row.count ((k : Int) + 1) := by
      cases m with
      | zero =>
        have hz := cnt_zero (top_lt (rv_nn row (-1) hr)) (k + 1) (by omega)
        rw [show ((k + 1 : Nat) : Int) = (k : Int) + 1 by omega] at hz
        rw [hz]; rfl
      | succ m =>
        rw [cnts_succ]
        show row.count ((k + 1 : Nat) : Int) = _
        rw [show ((k + 1 : Nat) : Int) = (k : Int) + 1 by omega]
    show unsw ((k : Int) + 1) (cnts row (k + 1) m) (ins (k : Nat) _ (bh ((W (k : Nat) row ++ SW (k + 1) m row).take _)).2) ((W (k : Nat) row ++ SW (k + 1) m row).drop _) = _
    rw [hh, ← W_len, List.take_left' rfl, List.drop_left' rfl, level_back0 hr k]
    have ih := unsw_swept hr m (k + 1) (by omega)
    rw [show ((k + 1 : Nat) : Int) = (k : Int) + 1 by omega] at ih ⊢
    exact ih
theorem filter_zero {row : List Int} (h : ∀ x ∈ row, 0 ≤ x) : row.filter (fun x => decide (x ≤ ((0 : Nat) : Int))) = List.replicate (row.count 0) 0 := by
  induction row with
  | nil => rfl
  | cons x l ih =>
    have h0 := h x List.mem_cons_self
    have ih := ih fun y hy => h y (List.mem_cons_of_mem _ hy)
    by_cases hx : x = 0
    · subst hx
      rw [List.filter_cons_of_pos (by simp), ih, List.count_cons_self, List.replicate_succ]
    · have : ¬ (x == 0) = true := by simpa using hx
      rw [List.filter_cons_of_neg (by simp; omega), ih, List.count_cons, if_neg this]; rfl
/-- what a swept path is led back to -/
def unswI (l : List Bool) : List Int :=
  let ss := (stepsI (bncAll l)).map Int.toNat
  unsw 0 ss (List.replicate (ss.headD 0) 0) (l.drop (ss.headD 0))
theorem unsw_of_swept {row : List Int} (hr : Rv (-1) row) : unswI (Sn (topN row) row) = row := by
  have hx := rv_nn row (-1) hr
  unfold unswI
  have hs : (stepsI (bncAll (Sn (topN row) row))).map Int.toNat = cnts row 0 (topN row) := by
    rw [steps_swept hr, List.map_map]
    have : (Int.toNat ∘ fun (c : Nat) => (c : Int)) = id := by funext c; simp
    rw [this, List.map_id]
  simp only [hs]
  have hh : (cnts row 0 (topN row)).headD 0 = row.count 0 := by
    cases hm : topN row with
    | zero =>
      have hz := cnt_zero (top_lt hx) 0 (by omega)
      exact hz.symm
    | succ m => rw [cnts_succ]; rfl
  rw [hh, ← filter_zero hx]
  have hd : (Sn (topN row) row).drop (row.count 0) = SW 0 (topN row) row := by
    unfold Sn
    exact List.drop_left' (by simp)
  rw [hd]
  exact unsw_swept hr (topN row) 0 (Nat.zero_add _)
end PL

/-! k84, 3: each path is a swept one, plain. -/
namespace PL
theorem row_rep_f : ∀ (n : Nat) (a : Int) (y : List Bool), rowB a (List.replicate n false ++ y) = rowB (a - n) y
  | 0, a, y => by simp
  | n + 1, a, y => by
    rw [List.replicate_succ, List.cons_append]
    show rowB (a - 1) (List.replicate n false ++ y) = _
    rw [row_rep_f n (a - 1) y]
    congr 1
    omega
theorem path_of_row : ∀ (row : List Int) (a : Int), 0 ≤ a → Rv (a - 1) row → okN a ((pathI a row).map bc) = some 0 ∧ rowB a (pathI a row) = row ∧ (pathI a row).count true = row.length ∧ ((pathI a row).count false : Int) = a + row.length
  | [], a, h, _ => by
    have e := okN_rep_f a.toNat a (by omega)
    have r := row_rep_f a.toNat a []
    rw [List.append_nil] at r
    refine ⟨?_, ?_, ?_, ?_⟩
    · show okN a ((List.replicate a.toNat false).map bc) = _
      rw [e]
      congr 1
      omega
    · show rowB a (List.replicate a.toNat false) = _
      rw [r]; rfl
    · show (List.replicate a.toNat false).count true = _
      rw [List.count_replicate]; rfl
    · show ((List.replicate a.toNat false).count false : Int) = _
      rw [List.count_replicate_self]
      simp; omega
  | o :: l, a, h, hr => by
    obtain ⟨h0, h1, h2⟩ := hr
    obtain ⟨i1, i2, i3, i4⟩ := path_of_row l (o + 1) (by omega) (by rw [Int.add_sub_cancel]; exact h2)
    have e := okN_rep_f (a - o).toNat a (by omega)
    rw [show a - ((a - o).toNat : Int) = o by omega] at e
    refine ⟨?_, ?_, ?_, ?_⟩
    · show okN a ((List.replicate (a - o).toNat false ++ true :: pathI (o + 1) l).map bc) = _
      rw [okN_app, e, Option.bind_some, List.map_cons]
      show (if o + (if (bc true == 117) = true then (1 : Int) else -1) < 0 then none else okN (o + (if (bc true == 117) = true then (1 : Int) else -1)) ((pathI (o + 1) l).map bc)) = _
      have q : o + (if (bc true == 117) = true then (1 : Int) else -1) = o + 1 := by simp [bc]
      rw [q, if_neg (by omega), i1]
    · show rowB a (List.replicate (a - o).toNat false ++ true :: pathI (o + 1) l) = _
      rw [row_rep_f, show a - ((a - o).toNat : Int) = o by omega]
      show o :: rowB (o + 1) (pathI (o + 1) l) = _
      rw [i2]
    · show (List.replicate (a - o).toNat false ++ true :: pathI (o + 1) l).count true = _
      rw [List.count_append, List.count_cons_self, i3, List.count_replicate]
      simp
    · show ((List.replicate (a - o).toNat false ++ true :: pathI (o + 1) l).count false : Int) = _
      rw [List.count_append, List.count_replicate_self, List.count_cons, if_neg (by decide), Nat.add_zero]
      simp
      omega
theorem dyck_of_row {row : List Int} (hr : Rv (-1) row) : Dyck (pathI 0 row) row.length ∧ rowB 0 (pathI 0 row) = row := by
  obtain ⟨h1, h2, h3, h4⟩ := path_of_row row 0 (Int.le_refl 0) hr
  exact ⟨⟨h1, h3, by omega⟩, h2⟩
theorem rv_of_dyck {l : List Bool} {n : Nat} (h : Dyck l n) : Rv (-1) (rowB 0 l) := row_rv l 0 (-1) (Int.le_refl 0) (by omega) h.1
/-- a path swept -/
def sw (l : List Bool) : List Bool := Sn (topN (rowB 0 l)) (rowB 0 l)
theorem sw_dyck {l : List Bool} {n : Nat} (h : Dyck l n) : Dyck (sw l) n := by
  have hr := rv_of_dyck h
  have := Sn_dyck (top_lt (rv_nn _ _ hr))
  rw [row_cnt, h.2.1] at this
  exact this
theorem un_sw {l : List Bool} {n : Nat} (h : Dyck l n) : unswI (sw l) = rowB 0 l := unsw_of_swept (rv_of_dyck h)
theorem sw_inj {l m : List Bool} {n : Nat} (h : Dyck l n) (k : Dyck m n) (e : sw l = sw m) : l = m := by
  have h1 := un_sw h
  have h2 := un_sw k
  rw [e, h2] at h1
  rw [← path_row0 h.1, ← path_row0 k.1, h1]
/-! all words -/
def allB : Nat → List (List Bool)
  | 0 => [[]]
  | n + 1 => (allB n).map (true :: ·) ++ (allB n).map (false :: ·)
theorem allB_mem : ∀ l : List Bool, l ∈ allB l.length
  | [] => by simp [allB]
  | b :: l => by
    have ih := allB_mem l
    show b :: l ∈ (allB l.length).map (true :: ·) ++ (allB l.length).map (false :: ·)
    cases b with
    | true => exact List.mem_append_left _ (List.mem_map.mpr ⟨l, ih, rfl⟩)
    | false => exact List.mem_append_right _ (List.mem_map.mpr ⟨l, ih, rfl⟩)
theorem map_nodup {α β : Type} (f : α → β) (hf : ∀ x y, f x = f y → x = y) {l : List α} (h : l.Nodup) : (l.map f).Nodup := by
  refine List.pairwise_map.mpr (h.imp fun hxy e => hxy (hf _ _ e))
theorem allB_nodup : ∀ n, (allB n).Nodup
  | 0 => by simp [allB]
  | n + 1 => by
    have ih := allB_nodup n
    refine List.nodup_append.mpr ⟨map_nodup _ (fun x y e => by simpa using e) ih, map_nodup _ (fun x y e => by simpa using e) ih, fun x hx y hy e => ?_⟩
    obtain ⟨a, _, rfl⟩ := List.mem_map.mp hx
    obtain ⟨b, _, rfl⟩ := List.mem_map.mp hy
    simp at e
theorem sub_back {α : Type} [BEq α] [LawfulBEq α] : ∀ (A B : List α), A.Nodup → (∀ x ∈ A, x ∈ B) → B.length ≤ A.length → ∀ y ∈ B, y ∈ A
  | [], B, _, _, hl, y, hy => by
    cases B with
    | nil => cases hy
    | cons b B => simp at hl
  | a :: A, B, nd, hs, hl, y, hy => by
    obtain ⟨n1, n2⟩ := List.nodup_cons.mp nd
    by_cases e : y = a
    · rw [e]; exact List.mem_cons_self
    · have ha := hs a List.mem_cons_self
      refine List.mem_cons_of_mem _ (sub_back A (B.erase a) n2 (fun x hx => ?_) ?_ y ?_)
      · refine (List.mem_erase_of_ne ?_).mpr (hs x (List.mem_cons_of_mem _ hx))
        rintro rfl
        exact n1 hx
      · rw [List.length_erase_of_mem ha]
        simp at hl
        omega
      · exact (List.mem_erase_of_ne e).mpr hy
def isDyck (n : Nat) (l : List Bool) : Bool := decide (okN 0 (l.map bc) = some 0) && decide (l.count true = n) && decide (l.count false = n)
theorem isDyck_iff {n : Nat} {l : List Bool} : isDyck n l = true ↔ Dyck l n := by
  unfold isDyck Dyck
  rw [Bool.and_eq_true, Bool.and_eq_true, decide_eq_true_eq, decide_eq_true_eq, decide_eq_true_eq, and_assoc]
theorem sw_surj {l : List Bool} {n : Nat} (h : Dyck l n) : ∃ m, Dyck m n ∧ sw m = l := by
  have hlen : ∀ m : List Bool, Dyck m n → m.length = 2 * n := fun m hm => by
    have := cnt_tf m
    rw [hm.2.1, hm.2.2] at this
    omega
  have hmem : ∀ m : List Bool, m ∈ (allB (2 * n)).filter (isDyck n) ↔ Dyck m n := fun m => by
    rw [List.mem_filter, isDyck_iff]
    refine ⟨fun q => q.2, fun q => ⟨?_, q⟩⟩
    rw [← hlen m q]
    exact allB_mem m
  have nd : ((allB (2 * n)).filter (isDyck n)).Nodup := (allB_nodup (2 * n)).filter _
  have key := sub_back (((allB (2 * n)).filter (isDyck n)).map sw) ((allB (2 * n)).filter (isDyck n)) (by
    refine List.pairwise_map.mpr ?_
    refine List.Pairwise.imp_of_mem (fun {a b} ha hb hab e => hab ?_) nd
    exact sw_inj ((hmem a).mp ha) ((hmem b).mp hb) e) (fun x hx => by
    obtain ⟨a, ha, rfl⟩ := List.mem_map.mp hx
    exact (hmem _).mpr (sw_dyck ((hmem a).mp ha))) (by simp) l ((hmem l).mpr h)
  obtain ⟨m, hm, e⟩ := List.mem_map.mp key
  exact ⟨m, (hmem m).mp hm, e⟩
/-- a path led back -/
def un (l : List Bool) : List Bool := pathI 0 (unswI l)
theorem un_spec {l : List Bool} {n : Nat} (h : Dyck l n) : Dyck (un l) n ∧ sw (un l) = l ∧ rowB 0 (un l) = unswI l := by
  obtain ⟨m, hm, e⟩ := sw_surj h
  have h1 := un_sw hm
  rw [e] at h1
  have h2 : un l = m := by
    unfold un
    rw [h1, path_row0 hm.1]
  rw [h2]
  exact ⟨hm, e, h1.symm⟩
theorem un_of_sw {l : List Bool} {n : Nat} (h : Dyck l n) : un (sw l) = l := by
  unfold un
  rw [un_sw h, path_row0 h.1]
theorem sw_area {l : List Bool} {n : Nat} (h : Dyck l n) : (rowB 0 (sw l)).sum = pairI (rowB 0 l) := area_swept (top_lt (rv_nn _ _ (rv_of_dyck h)))
theorem sw_bounce {l : List Bool} {n : Nat} (h : Dyck l n) : ((bncAll (sw l)).tail.map fun o => lastI (bncAll (sw l)) - o).sum = (rowB 0 l).sum := by
  have h1 := bw_swept (rv_of_dyck h)
  rw [row_cnt, h.2.1] at h1
  rw [bncAll_last (sw_dyck h)]
  exact h1
theorem sw_steps {l : List Bool} {n : Nat} (h : Dyck l n) : stepsI (bncAll (sw l)) = (cnts (rowB 0 l) 0 (topN (rowB 0 l))).map fun (c : Nat) => (c : Int) := steps_swept (rv_of_dyck h)
end PL

/-! k84, 4: swept_in, with_level, unswept_in worked out. -/
namespace PL
open PySem PySem.Spec PyProof.Rows L2
theorem mul_pS (l : List Bool) (n : Nat) (hn : n ≤ 1000) (hl : l.length ≤ 1000) : opMul (.str (pS l)) (.int (n : Nat)) = some (.str (pS (List.replicate n l).flatten)) := by
  have e : Txt.mul (pS l) (n : Nat) = pS (List.replicate n l).flatten := by
    refine str_ext ?_
    rw [pS_list]
    unfold Txt.mul
    by_cases h1 : (n : Int) < 1
    · rw [if_pos h1]
      have : n = 0 := by omega
      rw [this]; rfl
    · rw [if_neg h1]
      have key : ∀ (m : Nat) (acc : Array Nat), ((List.replicate m (pS l).cps).foldl (fun x1 x2 => x1 ++ x2) acc).toList = acc.toList ++ (List.replicate m l).flatten.map bc := by
        intro m
        induction m with
        | zero => intro acc; simp
        | succ m ih =>
          intro acc
          rw [List.replicate_succ, List.foldl_cons, ih, List.replicate_succ, List.flatten_cons, List.map_append, Array.toList_append, pS_list, List.append_assoc]
      split
      · rename_i hc
        have h1' : n = 1 ∨ l = [] := by
          have hlen := pS_len l
          simp at hc
          rcases hc with hc | hc
          · left; omega
          · right
            have : l.length = 0 := by
              first
              | exact hlen.symm.trans hc
              | (simp [Str.length] at hc hlen; omega)
            exact List.eq_nil_of_length_eq_zero this
        rcases h1' with rfl | rfl
        · rw [pS_list]; simp
        · rw [pS_list]; simp
      · rw [key]
        simp
  have : l.length * n ≤ 1000 * 1000 := Nat.mul_le_mul hl hn
  simp only [opMul, pS_len, e, Int.toNat_natCast]
  rw [if_pos ⟨by omega, by omega, by omega⟩]
theorem lcount (ns : List Int) (k : Int) : mLCount (.list (ns.map .int)) [.int k] = some (.int (ns.count k : Nat)) := by
  simp only [mLCount, intsOf_map, Option.bind_some]
theorem in_two (x a b : Int) : opIn (.int x) (.tuple [.int a, .int b]) = some (.bool (x == a || x == b)) := by
  have h : (PyData.eqv (.int a) (.int x) || PyData.eqv (.int b) (.int x)) = (x == a || x == b) := by
    rw [Bool.eq_iff_iff]
    simp [PyData.eqv]
    omega
  simp [opIn, opIn0, PyData.depth, PyData.depthAll, h]
def inLow (low : Int) : D → Bool
  | .int x => x == low || x == low + 1
  | _ => false
def sgLow (low : Int) : D → D
  | .int x => sgn (!(x == low))
  | _ => .none
theorem W_filter (low : Int) : ∀ row : List Int, ((row.map PyData.int).filter (inLow low)).map (sgLow low) = ((W low row).map fun b => (⟨#[bc b]⟩ : Str)).map .str
  | [] => rfl
  | x :: l => by
    have ih := W_filter low l
    unfold W
    by_cases h1 : x = low
    · subst h1
      have : inLow x (.int x) = true := by simp [inLow]
      rw [if_pos rfl, List.map_cons, List.filter_cons_of_pos this, List.map_cons, ih]
      simp [sgLow, sgn]
    · rw [if_neg h1]
      by_cases h2 : x = low + 1
      · subst h2
        have : inLow low (.int (low + 1)) = true := by simp [inLow]
        have hne : ((low + 1 : Int) == low) = false := by simp; omega
        rw [if_pos rfl, List.map_cons, List.filter_cons_of_pos this, List.map_cons, ih]
        simp [sgLow, sgn, hne]
      · have : ¬ inLow low (.int x) = true := by simp [inLow, h1, h2]
        rw [if_neg h2, List.map_cons, List.filter_cons_of_neg this, ih]
theorem join_strs (l : List Bool) (hl : l.length ≤ 1000) : mJoin (.str ⟨#[]⟩) [.list ((l.map fun b => (⟨#[bc b]⟩ : Str)).map .str)] = some (.str (pS l)) := by
  have hsum : ∀ m : List Bool, ((m.map fun b => (⟨#[bc b]⟩ : Str)).map (·.length)).sum = m.length := by
    intro m
    induction m with
    | nil => rfl
    | cons b m ih =>
      simp only [List.map_cons, List.sum_cons, ih, List.length_cons]
      have : (⟨#[bc b]⟩ : Str).length = 1 := rfl
      rw [this]; omega
  have z : (⟨#[]⟩ : Str).length = 0 := rfl
  simp only [mJoin, seqOf, Option.bind_some, strsOf_map, hsum, z, Nat.mul_zero, Nat.add_zero, join_bits]
  rw [if_pos (by omega)]
def wdLv : FE := cM "str" .pu mJoin (cC (.str (Str.ofString ""))) (aCons (cLc [3] (iE (cVar 0)) (gN 3) (tBl (cOp2 opIn (cVar 3) (cTup (aCons (cVar 2) (aCons (cOp2n opAdd (cVar 2) (cC (.int 1))) aNil))))) (cIf (tBl (cOp2 opEq (cVar 3) (cVar 2))) (cC (.str (Str.ofString "r"))) (cC (.str (Str.ofString "u"))))) aNil)
theorem wdLv_ev (row : List Int) (hz : row.length ≤ 1000) (f : D) (low : Int) : wdLv [.pu (.list (row.map .int)), .pu f, .pu (.int low), .non] = some (.pu (.str (pS (W low row))), [.pu (.list (row.map .int)), .pu f, .pu (.int low), .non]) := by
  have o2 : (2 : Nat) ≤ lineN := line_le (by omega)
  have h := cLc_eq (vs := [3]) (it := iE (cVar 0)) (g := gN 3) (t := tBl (cOp2 opIn (cVar 3) (cTup (aCons (cVar 2) (aCons (cOp2n opAdd (cVar 2) (cC (.int 1))) aNil))))) (f := cIf (tBl (cOp2 opEq (cVar 3) (cVar 2))) (cC (.str (Str.ofString "r"))) (cC (.str (Str.ofString "u"))))
    (ρ := [.pu (.list (row.map .int)), .pu f, .pu (.int low), .non]) (ds := row.map .int)
    (fun x => [.pu (.list (row.map .int)), .pu f, .pu (.int low), .pu x]) (inLow low) (sgLow low)
    (iE_pu rfl rfl) rfl (fun x hx => by
      obtain ⟨n, _, rfl⟩ := List.mem_map.mp hx
      refine ⟨rfl, rfl, tBl_eq (cOp2_pu rfl (cTup_args (args_pu rfl (args_pu (cOp2n_pu' rfl rfl rfl) args_nil)) o2) (in_two n low (low + 1))), fun _ => ?_⟩
      have t := opEq_int n low
      cases hq : (n == low) with
      | true =>
        rw [hq] at t
        exact ⟨_, cIf_t (tBl_eq (cOp2_pu rfl rfl t)), by rw [s_r]; simp [sgLow, hq]; rfl⟩
      | false =>
        rw [hq] at t
        exact ⟨_, cIf_f (tBl_eq (cOp2_pu rfl rfl t)), by rw [s_u]; simp [sgLow, hq]; rfl⟩) (line_le (by simp; omega))
  rw [W_filter] at h
  have hW : (W low row).length ≤ 1000 := by
    have h1 := List.count_le_length (a := low) (l := row)
    have key : ∀ l : List Int, (W low l).length ≤ l.length := by
      intro l
      induction l with
      | nil => exact Nat.le_refl _
      | cons x l ih =>
        unfold W
        split
        · simpa using ih
        · split
          · simpa using ih
          · simp; omega
    have := key row
    omega
  have j := join_strs (W low row) hW
  rw [← s_e] at j
  unfold wdLv
  exact cM_args rfl rfl (args_nw h args_nil) j
theorem W_le (low : Int) : ∀ l : List Int, (W low l).length ≤ l.length
  | [] => Nat.le_refl _
  | x :: l => by
    have ih := W_le low l
    unfold W
    split
    · simpa using ih
    · split
      · simpa using ih
      · simp; omega
theorem SW_le (row : List Int) : ∀ (m k : Nat), (SW k m row).length ≤ m * row.length
  | 0, k => by simp [SW_zero]
  | m + 1, k => by
    have := SW_le row m (k + 1)
    have h2 := W_le (k : Nat) row
    rw [SW_succ, List.length_append, Nat.succ_mul]
    omega
def bdLv : FS := (sAsg 1 (cOp2n opAdd (cVar 1) wdLv))
theorem swept_go (row : List Int) (hz : row.length ≤ 100) : ∀ (m k : Nat) (f : List Bool) (s : Sl), plainS (some s) = true → f.length + m * row.length ≤ 20000 →
    ∃ s', forGo (gN 2) bdLv ((List.range' k m).map fun j => .int (j : Nat)) [.pu (.list (row.map .int)), .pu (.str (pS f)), s, .non] = some (.nx [.pu (.list (row.map .int)), .pu (.str (pS (f ++ SW k m row))), s', .non])
  | 0, k, f, s, hs, _ => ⟨s, by simp [SW_zero]; rfl⟩
  | m + 1, k, f, s, hs, hl => by
    rw [Nat.succ_mul] at hl
    have hw := W_le (k : Nat) row
    obtain ⟨s', ih⟩ := swept_go row hz m (k + 1) (f ++ W (k : Nat) row) (.pu (.int (k : Nat))) rfl (by rw [List.length_append]; omega)
    refine ⟨s', ?_⟩
    have step : (gN 2) (.int (k : Nat)) [.pu (.list (row.map .int)), .pu (.str (pS f)), s, .non] = some [.pu (.list (row.map .int)), .pu (.str (pS f)), .pu (.int (k : Nat)), .non] := by
      cases s <;> simp [plainS] at hs <;> rfl
    have a := add_pS f (W (k : Nat) row) (by omega)
    have body : bdLv [.pu (.list (row.map .int)), .pu (.str (pS f)), .pu (.int (k : Nat)), .non] = some (.nx [.pu (.list (row.map .int)), .pu (.str (pS (f ++ W (k : Nat) row))), .pu (.int (k : Nat)), .non]) := by
      unfold bdLv
      exact sAsg_pu (i := 1) (cOp2n_pu' rfl (wdLv_ev row (by omega) _ _) a) rfl
    rw [List.range'_succ, List.map_cons, forGo_nx step body]
    rw [List.append_assoc, ← SW_succ] at ih
    exact ih
theorem fmax_row (row : List Int) : fMax [.list (([-1] ++ row).map .int)] = some (.int (row.foldl max (-1))) := by
  show (intsOf (((-1) :: row).map .int)).bind maxI = _
  rw [intsOf_map]; rfl
theorem top_int_eq (row : List Int) : row.foldl max (-1) + 1 = (topN row : Nat) := by
  have := (fold_max row (-1)).1
  unfold topN
  omega
theorem rng_top {row : List Int} {ρ : Rho} {i : Nat} (hv : cVar i ρ = some (.pu (.list (row.map .int)), ρ)) (ht : topN row ≤ 1000) (hl : row.length ≤ 1000) : iRg1 (cOp2n opAdd (cOpA fMax (aCons (cOp2n opAdd (cLst (aCons (cOp opNeg (cC (.int 1))) aNil)) (cVar i)) aNil)) (cC (.int 1))) ρ = some ((List.range' 0 (topN row)).map fun k => .int (k : Nat), ρ) := by
  have o1 : (1 : Nat) ≤ lineN := line_le (by omega)
  have a1 : opAdd (.list [.int (-1)]) (.list (row.map .int)) = some (.list (([-1] ++ row).map .int)) := by
    rw [add_lst _ _ (by simp; omega)]
    rfl
  have a2 : opAdd (.int (row.foldl max (-1))) (.int 1) = some (.int ((topN row : Nat) : Int)) := by
    show some (PyData.int _) = _
    rw [top_int_eq]
  have e := iRg1_eq (a := cOp2n opAdd (cOpA fMax (aCons (cOp2n opAdd (cLst (aCons (cOp opNeg (cC (.int 1))) aNil)) (cVar i)) aNil)) (cC (.int 1))) (ρ := ρ) (ρ' := ρ) (j := ((topN row : Nat) : Int))
    (cOp2n_pu' (cOpA_args (args_nw (cOp2n_lp' (cLst_args (args_pu (cOp_pu (op := opNeg) (x := .int 1) rfl rfl) args_nil) o1) hv a1) args_nil) (fmax_row row)) rfl a2) (small_nat (by omega))
  rw [e, Int.toNat_natCast]
  have := intsD_range' 0 (topN row)
  rw [← this]; rfl
theorem e_swept_in {row : List Int} (hr : Rv (-1) row) (hl : row.length ≤ 100) : m_swept_in [.v (.list (row.map .int))] = some (.pu (.str (pS (Sn (topN row) row))), []) := by
  have ht := top_le hr
  have hc := List.count_le_length (a := (0 : Int)) (l := row)
  have m1 := up_mul (row.count 0) (by omega)
  have hm : topN row * row.length ≤ 100 * 100 := Nat.mul_le_mul (by omega) hl
  obtain ⟨s', g⟩ := swept_go row hl (topN row) 0 (List.replicate (row.count 0) true) .non rfl (by simp; omega)
  have e0 : b_swept_in [.pu (.list (row.map .int)), .non, .non, .non] = some (.rt (.pu (.str (pS (Sn (topN row) row)))) [.pu (.list (row.map .int)), .pu (.str (pS (Sn (topN row) row))), s', .non]) := by
    unfold b_swept_in
    rw [s_u]
    refine (sSeq_nx (sAsg_pu (i := 1) (cOp2n_pu rfl (cM_args rfl rfl (args_pu rfl args_nil) (lcount row 0)) m1) rfl)).trans ?_
    rw [← s_u]
    refine (sSeq_nx ((sFor_eq (rng_top rfl (by omega) (by omega))).trans g)).trans ?_
    rfl
  exact run_rt rfl rfl e0 rfl
/-! ### with_level -/
def natsD (ns : List Nat) : List D := ns.map fun n => .int (n : Nat)
def bdSg : FS := (sIf (tBl (cOp2 opEq (cVar 3) (cC (.str (Str.ofString "r"))))) (sSeq (sAsg 6 (cOp2n opAdd (cVar 6) (cC (.int 1))))
  (sApp 5 (cC (.int 0)))) (sSet 5 (cVar 6) (cOp2n opAdd (cOp2 opIx (cVar 5) (cVar 6)) (cC (.int 1)))))
theorem sg_go (row low sg : D) : ∀ (l : List Bool) (d : List Nat) (c : Nat) (s : Sl), plainS (some s) = true → d.length + l.length ≤ 1000 →
    ∃ s' c', forGo (gN 3) bdSg (l.map sgn) [.pu row, .pu low, .pu sg, s, .non, .own (.list (natsD (d ++ [c]))), .pu (.int (d.length : Nat)), .non, .non] =
      some (.nx [.pu row, .pu low, .pu sg, s', .non, .own (.list (natsD (d ++ (c + (bh l).1) :: (bh l).2))), .pu (.int c'), .non, .non])
  | [], d, c, s, hs, _ => ⟨s, d.length, rfl⟩
  | b :: l, d, c, s, hs, hz => by
    have step : (gN 3) (sgn b) [.pu row, .pu low, .pu sg, s, .non, .own (.list (natsD (d ++ [c]))), .pu (.int (d.length : Nat)), .non, .non] = some [.pu row, .pu low, .pu sg, .pu (sgn b), .non, .own (.list (natsD (d ++ [c]))), .pu (.int (d.length : Nat)), .non, .non] := by
      cases s <;> simp [plainS] at hs <;> rfl
    have hlen : (natsD (d ++ [c])).length < lineN := Nat.lt_of_lt_of_le (by simp [natsD]; omega : (natsD (d ++ [c])).length < 2000) (line_le (by omega))
    have t := eq_sgn_r b
    rw [← s_r] at t
    simp only [List.length_cons] at hz
    cases b with
    | false =>
      obtain ⟨s', c', ih⟩ := sg_go row low sg l (d ++ [c]) 0 (.pu (sgn false)) rfl (by simp; omega)
      refine ⟨s', c', ?_⟩
      have a1 : opAdd (.int (d.length : Nat)) (.int 1) = some (.int (((d ++ [c]).length : Nat) : Int)) := by
        show some (PyData.int _) = _
        congr 2
        simp
      have body : bdSg [.pu row, .pu low, .pu sg, .pu (sgn false), .non, .own (.list (natsD (d ++ [c]))), .pu (.int (d.length : Nat)), .non, .non] = some (.nx [.pu row, .pu low, .pu sg, .pu (sgn false), .non, .own (.list (natsD (d ++ [c] ++ [0]))), .pu (.int ((d ++ [c]).length : Nat)), .non, .non]) := by
        unfold bdSg
        refine (sIf_t (tBl_eq (cOp2_pu rfl rfl t))).trans ?_
        refine (sSeq_nx (sAsg_pu (i := 6) (cOp2n_pu rfl rfl a1) rfl)).trans ?_
        refine sApp_pu rfl rfl hlen ?_
        simp [putS, natsD]
      rw [List.map_cons, forGo_nx step body]
      have e : (d ++ [c]) ++ (0 + (bh l).1) :: (bh l).2 = d ++ (c + (bh (false :: l)).1) :: (bh (false :: l)).2 := by
        show _ = d ++ (c + 0) :: ((bh l).1 :: (bh l).2)
        simp
      rw [e] at ih
      exact ih
    | true =>
      obtain ⟨s', c', ih⟩ := sg_go row low sg l d (c + 1) (.pu (sgn true)) rfl (by omega)
      refine ⟨s', c', ?_⟩
      have i1 : opIx (.list (natsD (d ++ [c]))) (.int (d.length : Nat)) = some (.int (c : Nat)) := atI_nat (by simp [natsD])
      have a1 : opAdd (.int (c : Nat)) (.int 1) = some (.int ((c + 1 : Nat) : Int)) := rfl
      have x1 : ixD (natsD (d ++ [c])).length ((d.length : Nat) : Int) = some d.length := by
        unfold ixD
        rw [if_pos (by omega), if_pos (by simp [natsD]; omega), Int.toNat_natCast]
      have st : (natsD (d ++ [c])).set d.length (.int ((c + 1 : Nat) : Int)) = natsD (d ++ [c + 1]) := by
        unfold natsD
        rw [List.map_append, List.set_append_right _ _ (by simp)]
        simp
      have body : bdSg [.pu row, .pu low, .pu sg, .pu (sgn true), .non, .own (.list (natsD (d ++ [c]))), .pu (.int (d.length : Nat)), .non, .non] = some (.nx [.pu row, .pu low, .pu sg, .pu (sgn true), .non, .own (.list (natsD (d ++ [c + 1]))), .pu (.int (d.length : Nat)), .non, .non]) := by
        unfold bdSg
        refine (sIf_f (tBl_eq (cOp2_pu rfl rfl t))).trans ?_
        refine sSet_pu (cOp2n_pu (cOp2_sp rfl rfl rfl i1) rfl a1) rfl rfl x1 ?_
        show putS 5 (.list ((natsD (d ++ [c])).set d.length (.int ((c + 1 : Nat) : Int)))) _ = _
        rw [st]; rfl
      rw [List.map_cons, forGo_nx step body]
      have e : d ++ (c + 1 + (bh l).1) :: (bh l).2 = d ++ (c + (bh (true :: l)).1) :: (bh (true :: l)).2 := by
        show _ = d ++ (c + ((bh l).1 + 1)) :: (bh l).2
        congr 2
        omega
      rw [e] at ih
      exact ih
theorem bh_len : ∀ l : List Bool, (bh l).2.length = l.count false
  | [] => rfl
  | true :: l => by
    have := bh_len l
    show (bh l).2.length = _
    simpa using this
  | false :: l => by
    have := bh_len l
    show (bh l).2.length + 1 = _
    simp [this]
def bdIn : FS := (sSeq (sApp 7 (cVar 4))
  (sIf (tBl (cOp2 opEq (cVar 4) (cVar 1))) (sSeq (sAsg 8 (cOp2n opAdd (cVar 8) (cC (.int 1))))
  (sNew 7 (cOp2n opAdd (cVar 7) (cOp2n opMul (cLst (aCons (cOp2n opAdd (cVar 1) (cC (.int 1))) aNil)) (cOp2 opIx (cVar 5) (cVar 8)))))) sPass))
theorem rep_int (a : Int) (b : Nat) (h : b ≤ 1000) : opMul (.list [.int a]) (.int (b : Nat)) = some (.list ((List.replicate b a).map .int)) := by
  have e : (List.replicate b [PyData.int a]).flatten = (List.replicate b a).map .int := by
    induction b with
    | zero => rfl
    | succ m ih => rw [List.replicate_succ, List.flatten_cons, ih (by omega), List.replicate_succ]; rfl
  simp only [opMul]
  rw [if_pos ⟨by omega, by omega, by simp; omega⟩, Int.toNat_natCast, e]
theorem in_go (row sg : D) (low : Int) (B : List Nat) (s3 s6 : Sl) (hB : ∀ b ∈ B, b ≤ 1000) : ∀ (l : List Int) (met : Nat) (f : List Int) (s : Sl), plainS (some s) = true → met + l.count low < B.length → f.length + l.length * 1001 ≤ 1000000 →
    ∃ s' m', forGo (gN 4) bdIn (l.map .int) [.pu row, .pu (.int low), .pu sg, s3, s, .pu (.list (natsD B)), s6, .own (.list (f.map .int)), .pu (.int (met : Nat))] =
      some (.nx [.pu row, .pu (.int low), .pu sg, s3, s', .pu (.list (natsD B)), s6, .own (.list ((f ++ ins low l (B.drop (met + 1))).map .int)), .pu (.int m')])
  | [], met, f, s, hs, _, _ => ⟨s, met, by simp [ins]; rfl⟩
  | x :: l, met, f, s, hs, hm, hz => by
    have step : (gN 4) (.int x) [.pu row, .pu (.int low), .pu sg, s3, s, .pu (.list (natsD B)), s6, .own (.list (f.map .int)), .pu (.int (met : Nat))] = some [.pu row, .pu (.int low), .pu sg, s3, .pu (.int x), .pu (.list (natsD B)), s6, .own (.list (f.map .int)), .pu (.int (met : Nat))] := by
      cases s <;> simp [plainS] at hs <;> rfl
    simp only [List.length_cons, Nat.add_mul] at hz
    have hlen : (f.map PyData.int).length < lineN := Nat.lt_of_lt_of_le (by simp; omega : (f.map PyData.int).length < 1000001) (by have : lineN = 16777216 := rfl; omega)
    have t := opEq_int x low
    by_cases hx : x = low
    · subst hx
      rw [List.count_cons_self] at hm
      have hlt : met + 1 < B.length := by omega
      have hd : B.drop (met + 1) = B[met + 1] :: B.drop (met + 2) := by rw [List.drop_eq_getElem_cons hlt]
      have hb := hB _ (List.getElem_mem hlt)
      obtain ⟨s', m', ih⟩ := in_go row sg x B s3 s6 hB l (met + 1) (f ++ x :: List.replicate B[met + 1] (x + 1)) (.pu (.int x)) rfl (by omega) (by simp; omega)
      refine ⟨s', m', ?_⟩
      have t' : opEq (.int x) (.int x) = some (.bool true) := by rw [t]; simp
      have a1 : opAdd (.int (met : Nat)) (.int 1) = some (.int ((met + 1 : Nat) : Int)) := rfl
      have i1 : opIx (.list (natsD B)) (.int ((met + 1 : Nat) : Int)) = some (.int (B[met + 1] : Nat)) := atI_nat (by simp [natsD, List.getElem?_eq_getElem hlt])
      have r1 := rep_int (x + 1) B[met + 1] hb
      have o1 : (1 : Nat) ≤ lineN := line_le (by omega)
      have c1 : opAdd (.list (f.map PyData.int ++ [.int x])) (.list ((List.replicate B[met + 1] (x + 1)).map .int)) = some (.list ((f ++ x :: List.replicate B[met + 1] (x + 1)).map .int)) := by
        have : (f.map PyData.int ++ [PyData.int x]).length + ((List.replicate B[met + 1] (x + 1)).map PyData.int).length ≤ lineN := by
          have : lineN = 16777216 := rfl
          simp
          omega
        simp only [opAdd, if_pos this]
        simp
      have body : bdIn [.pu row, .pu (.int x), .pu sg, s3, .pu (.int x), .pu (.list (natsD B)), s6, .own (.list (f.map .int)), .pu (.int (met : Nat))] =
          some (.nx [.pu row, .pu (.int x), .pu sg, s3, .pu (.int x), .pu (.list (natsD B)), s6, .own (.list ((f ++ x :: List.replicate B[met + 1] (x + 1)).map .int)), .pu (.int ((met + 1 : Nat) : Int))]) := by
        unfold bdIn
        refine (sSeq_nx (sApp_pu rfl rfl hlen rfl)).trans ?_
        refine (sIf_t (tBl_eq (cOp2_pu rfl rfl t'))).trans ?_
        refine (sSeq_nx (sAsg_pu (i := 8) (cOp2n_pu rfl rfl a1) rfl)).trans ?_
        exact sNew_nw (i := 7) (cOp2n_sn' rfl (cOp2n_lp' (cLst_args (args_pu (cOp2n_pu' rfl rfl rfl) args_nil) o1) (cOp2_pu rfl rfl i1) r1) rfl c1) rfl
      rw [List.map_cons, forGo_nx step body, ih]
      have e : ins x (x :: l) (B.drop (met + 1)) = x :: (List.replicate B[met + 1] (x + 1) ++ ins x l (B.drop (met + 2))) := by
        rw [hd]
        show (if x = x then _ else _) = _
        rw [if_pos rfl]
      rw [e, List.append_assoc, List.cons_append]
    · have n1 : ¬ (x == low) = true := by simpa using hx
      rw [List.count_cons, if_neg n1, Nat.add_zero] at hm
      obtain ⟨s', m', ih⟩ := in_go row sg low B s3 s6 hB l met (f ++ [x]) (.pu (.int x)) rfl hm (by simp; omega)
      refine ⟨s', m', ?_⟩
      have t' : opEq (.int x) (.int low) = some (.bool false) := by rw [t]; simp [hx]
      have body : bdIn [.pu row, .pu (.int low), .pu sg, s3, .pu (.int x), .pu (.list (natsD B)), s6, .own (.list (f.map .int)), .pu (.int (met : Nat))] =
          some (.nx [.pu row, .pu (.int low), .pu sg, s3, .pu (.int x), .pu (.list (natsD B)), s6, .own (.list ((f ++ [x]).map .int)), .pu (.int (met : Nat))]) := by
        unfold bdIn
        refine (sSeq_nx (sApp_pu rfl rfl hlen rfl)).trans ?_
        refine (sIf_f (tBl_eq (cOp2_pu rfl rfl t'))).trans ?_
        simp
      rw [List.map_cons, forGo_nx step body, ih]
      have e : ins low (x :: l) (B.drop (met + 1)) = x :: ins low l (B.drop (met + 1)) := by
        show (if x = low then _ else _) = _
        rw [if_neg hx]
      rw [e, List.append_assoc]
      rfl
theorem bh_le : ∀ l : List Bool, (bh l).1 ≤ l.length ∧ ∀ b ∈ (bh l).2, b ≤ l.length
  | [] => ⟨Nat.le_refl _, fun b h => by cases h⟩
  | true :: l => by
    obtain ⟨h1, h2⟩ := bh_le l
    exact ⟨by show (bh l).1 + 1 ≤ _; simp; omega, fun b h => by have := h2 b h; simp; omega⟩
  | false :: l => by
    obtain ⟨h1, h2⟩ := bh_le l
    refine ⟨Nat.zero_le _, fun b h => ?_⟩
    rcases List.mem_cons.mp h with rfl | h
    · simp; omega
    · have := h2 b h; simp; omega
theorem e_with_level (row : List Int) (low : Int) (l : List Bool) (hr : row.length ≤ 200) (hl : l.length ≤ 500) (hc : row.count low ≤ l.count false) :
    m_with_level [.v (.list (row.map .int)), .v (.int low), .v (.str (pS l))] = some (.nw (.list ((ins low row (bh l).2).map .int)), []) := by
  have o1 : (1 : Nat) ≤ lineN := line_le (by omega)
  obtain ⟨s3, c', g1⟩ := sg_go (.list (row.map .int)) (.int low) (.str (pS l)) l [] 0 .non rfl (by simp; omega)
  rw [Nat.zero_add, List.nil_append, List.nil_append] at g1
  have hb := bh_le l
  obtain ⟨s4, m', g2⟩ := in_go (.list (row.map .int)) (.str (pS l)) low ((bh l).1 :: (bh l).2) s3 (.pu (.int c')) (fun b h => by
    rcases List.mem_cons.mp h with rfl | h
    · omega
    · have := hb.2 b h; omega) row 0 [] .non rfl (by rw [List.length_cons, bh_len]; omega) (by simp; omega)
  rw [List.nil_append] at g2
  have e0 : b_with_level [.pu (.list (row.map .int)), .pu (.int low), .pu (.str (pS l)), .non, .non, .non, .non, .non, .non] =
      some (.rt (.sl 7) [.pu (.list (row.map .int)), .pu (.int low), .pu (.str (pS l)), s3, s4, .pu (.list (natsD ((bh l).1 :: (bh l).2))), .pu (.int c'), .own (.list ((ins low row (bh l).2).map .int)), .pu (.int m')]) := by
    unfold b_with_level
    refine (sSeq_nx (sPar2_np (i := 5) (j := 6) (cLst_args (args_pu rfl args_nil) o1) rfl rfl rfl)).trans ?_
    refine (sSeq_nx ((sFor_eq (iE_pu rfl (items_pS l))).trans g1)).trans ?_
    refine (sFrz_eq rfl).trans ?_
    refine (sSeq_nx (sPar2_np (i := 7) (j := 8) (cLst_args args_nil (Nat.zero_le _)) rfl rfl rfl)).trans ?_
    refine (sSeq_nx ((sFor_eq (iE_pu rfl rfl)).trans g2)).trans ?_
    rfl
  exact run_ro rfl rfl e0 rfl rfl
end PL

/-! k84, 5: unswept_in, _law_swept, the doors. -/
namespace PL
open PySem PySem.Spec PyProof.Rows L2
def UOk (N : Nat) : Int → List Nat → List Int → List Bool → Prop
  | _, [], R, _ => R.length ≤ N
  | low, s :: ss, R, rest => R.length ≤ N ∧ R.count low ≤ (rest.take (s + ss.headD 0)).count false ∧ UOk N (low + 1) ss (ins low R (bh (rest.take (s + ss.headD 0))).2) (rest.drop (s + ss.headD 0))
theorem depth_nats : ∀ ns : List Nat, PyData.depthAll (natsD ns) = 0
  | [] => rfl
  | a :: ns => by
    have ih := depth_nats ns
    show max (PyData.depth (.int (a : Nat))) (PyData.depthAll (natsD ns)) = 0
    rw [ih]; rfl
theorem first_ev (ss : List Nat) {ρ : Rho} (h : cVar 2 ρ = some (.pu (.list (natsD ss)), ρ)) : cIf (tBl (cOp2 opNe (cVar 2) (cLst aNil))) (cOp2 opIx (cVar 2) (cC (.int 0))) (cC (.int 0)) ρ = some (.pu (.int (ss.headD 0 : Nat)), ρ) := by
  have n := ne_nil (natsD ss) (depth_nats ss)
  have hl : cLst aNil ρ = some (.nw (.list []), ρ) := cLst_args args_nil (Nat.zero_le _)
  cases ss with
  | nil => exact cIf_f (tBl_eq (cOp2_pl h hl n))
  | cons s ss =>
    have i0 : opIx (.list (natsD (s :: ss))) (.int ((0 : Nat) : Int)) = some (.int (s : Nat)) := atI_nat (by simp [natsD])
    exact (cIf_t (tBl_eq (cOp2_pl h hl n))).trans (cOp2_pu h rfl i0)
def bdUn : FS := (sSeq (sAsg 7 (cOp2n opAdd (cVar 6) (cIf (tBl (cOp2 opLt (cOp2n opAdd (cVar 5) (cC (.int 1))) (cOpA fLen (aCons (cVar 2) aNil)))) (cOp2 opIx (cVar 2) (cOp2n opAdd (cVar 5) (cC (.int 1)))) (cC (.int 0)))))
  (sParA [3, 4] (aCons (cCall m_with_level (aCons (cVar 3) (aCons (cVar 5) (aCons (cSl mk opSl (cVar 4) oNo (oSo (cVar 7))) aNil)))) (aCons (cSl mk opSl (cVar 4) (oSo (cVar 7)) oNo) aNil))))
theorem many_ev (S : List Nat) (k s : Nat) (ss : List Nat) (hd : S.drop k = s :: ss) {ρ : Rho} (h2 : cVar 2 ρ = some (.pu (.list (natsD S)), ρ)) (h5 : cVar 5 ρ = some (.pu (.int (k : Nat)), ρ)) (h6 : cVar 6 ρ = some (.pu (.int (s : Nat)), ρ)) :
    cOp2n opAdd (cVar 6) (cIf (tBl (cOp2 opLt (cOp2n opAdd (cVar 5) (cC (.int 1))) (cOpA fLen (aCons (cVar 2) aNil)))) (cOp2 opIx (cVar 2) (cOp2n opAdd (cVar 5) (cC (.int 1)))) (cC (.int 0))) ρ = some (.pu (.int ((s + ss.headD 0 : Nat) : Int)), ρ) := by
  have hlen : fLen [.list (natsD S)] = some (.int (S.length : Nat)) := by simp [fLen, on1, natsD]
  have hd2 : S.drop (k + 1) = ss := by rw [← List.drop_drop, hd]; rfl
  have a1 : opAdd (.int (k : Nat)) (.int 1) = some (.int ((k + 1 : Nat) : Int)) := rfl
  have t : opLt (.int ((k + 1 : Nat) : Int)) (.int (S.length : Nat)) = some (.bool (decide (((k + 1 : Nat) : Int) < (S.length : Nat)))) := rfl
  have hl2 : ss.length = S.length - (k + 1) := by rw [← hd2, List.length_drop]
  have e1 : cOp2n opAdd (cVar 5) (cC (.int 1)) ρ = some (.pu (.int ((k + 1 : Nat) : Int)), ρ) := cOp2n_pu' h5 rfl a1
  have a2 : ∀ c : Nat, opAdd (.int (s : Nat)) (.int (c : Nat)) = some (.int ((s + c : Nat) : Int)) := fun c => by
    show some (PyData.int _) = _
    congr 2
  cases ss with
  | nil =>
    rw [decide_eq_false (by simp at hl2; omega)] at t
    exact cOp2n_pu' h6 (cIf_f (tBl_eq (cOp2_pu e1 (cOpA_args (args_pu h2 args_nil) hlen) t))) (a2 0)
  | cons c ss =>
    rw [decide_eq_true (by simp at hl2; omega)] at t
    have i1 : opIx (.list (natsD S)) (.int ((k + 1 : Nat) : Int)) = some (.int (c : Nat)) := by
      refine atI_nat ?_
      have := congrArg (fun z => z[0]?) hd2
      simp at this
      simp [natsD, this]
    exact cOp2n_pu' h6 ((cIf_t (tBl_eq (cOp2_pu e1 (cOpA_args (args_pu h2 args_nil) hlen) t))).trans (cOp2_pu h2 e1 i1)) (a2 c)
theorem un_go (p b : D) (S : List Nat) (hS : ∀ s ∈ S, s ≤ 100) : ∀ (ss : List Nat) (k : Nat) (R : List Int) (rest : List Bool) (s5 s6 s7 : Sl), plainS (some s5) = true → plainS (some s6) = true → plainS (some s7) = true → S.drop k = ss → UOk 100 (k : Nat) ss R rest → rest.length ≤ 400 →
    ∃ s5' s6' s7' r', forGo (gT ((gN 5) :: ((gN 6) :: []))) bdUn ((ss.zipIdx k).map fun q => .tuple [.int (q.2 : Nat), .int (q.1 : Nat)]) [.pu p, .pu b, .pu (.list (natsD S)), .pu (.list (R.map .int)), .pu (.str (pS rest)), s5, s6, s7, .non, .non] =
      some (.nx [.pu p, .pu b, .pu (.list (natsD S)), .pu (.list ((unsw (k : Nat) ss R rest).map .int)), r', s5', s6', s7', .non, .non])
  | [], k, R, rest, s5, s6, s7, _, _, _, _, _, _ => ⟨s5, s6, s7, _, rfl⟩
  | s :: ss, k, R, rest, s5, s6, s7, h5, h6, h7, hd, hu, hr => by
    obtain ⟨u1, u2, u3⟩ := hu
    have step : (gT ((gN 5) :: ((gN 6) :: []))) (.tuple [.int (k : Nat), .int (s : Nat)]) [.pu p, .pu b, .pu (.list (natsD S)), .pu (.list (R.map .int)), .pu (.str (pS rest)), s5, s6, s7, .non, .non] =
        some [.pu p, .pu b, .pu (.list (natsD S)), .pu (.list (R.map .int)), .pu (.str (pS rest)), .pu (.int (k : Nat)), .pu (.int (s : Nat)), s7, .non, .non] := by
      cases s5 <;> simp [plainS] at h5 <;> cases s6 <;> simp [plainS] at h6 <;> rfl
    have me := many_ev S k s ss hd (ρ := [.pu p, .pu b, .pu (.list (natsD S)), .pu (.list (R.map .int)), .pu (.str (pS rest)), .pu (.int (k : Nat)), .pu (.int (s : Nat)), s7, .non, .non]) rfl rfl rfl
    generalize hm : s + ss.headD 0 = many at u2 u3 me
    have t1 := sl_to rest many (by omega)
    have t2 := sl_from rest many (by omega)
    have wl := e_with_level R (k : Nat) (rest.take many) (by omega) (by simp; omega) u2
    have body : bdUn [.pu p, .pu b, .pu (.list (natsD S)), .pu (.list (R.map .int)), .pu (.str (pS rest)), .pu (.int (k : Nat)), .pu (.int (s : Nat)), s7, .non, .non] =
        some (.nx [.pu p, .pu b, .pu (.list (natsD S)), .pu (.list ((ins (k : Nat) R (bh (rest.take many)).2).map .int)), .pu (.str (pS (rest.drop many))), .pu (.int (k : Nat)), .pu (.int (s : Nat)), .pu (.int (many : Nat)), .non, .non]) := by
      unfold bdUn
      refine (sSeq_nx (ρ' := [.pu p, .pu b, .pu (.list (natsD S)), .pu (.list (R.map .int)), .pu (.str (pS rest)), .pu (.int (k : Nat)), .pu (.int (s : Nat)), .pu (.int (many : Nat)), .non, .non]) (sAsg_pu (i := 7) me (by cases s7 <;> simp [plainS] at h7 <;> rfl))).trans ?_
      exact sParA_args (args_nw (cCall_args (args_pu rfl (args_pu rfl (args_pu (cSl_pu' rfl rfl (oSo_pu rfl) t1) args_nil))) wl) (args_pu (cSl_pu' rfl (oSo_pu rfl) rfl t2) args_nil)) rfl
    have hd2 : S.drop (k + 1) = ss := by rw [← List.drop_drop, hd]; rfl
    have u3' : UOk 100 ((k + 1 : Nat) : Int) ss (ins (k : Nat) R (bh (rest.take many)).2) (rest.drop many) := by
      rw [show ((k + 1 : Nat) : Int) = (k : Int) + 1 by omega]
      exact u3
    obtain ⟨s5', s6', s7', r', ih⟩ := un_go p b S hS ss (k + 1) _ _ (.pu (.int (k : Nat))) (.pu (.int (s : Nat))) (.pu (.int (many : Nat))) rfl rfl rfl hd2 u3' (by simp; omega)
    refine ⟨s5', s6', s7', r', ?_⟩
    have e : unsw (k : Nat) (s :: ss) R rest = unsw ((k + 1 : Nat) : Int) ss (ins (k : Nat) R (bh (rest.take many)).2) (rest.drop many) := by
      show unsw ((k : Int) + 1) ss (ins (k : Nat) R (bh (rest.take (s + ss.headD 0))).2) (rest.drop (s + ss.headD 0)) = _
      rw [hm, show ((k + 1 : Nat) : Int) = (k : Int) + 1 by omega]
    rw [List.zipIdx_cons, List.map_cons, forGo_nx step body, ih, e]
theorem zip_nats (ns : List Nat) : enumD (natsD ns) = ns.zipIdx.map fun q => .tuple [.int (q.2 : Nat), .int (q.1 : Nat)] := by
  unfold enumD natsD
  rw [List.zipIdx_map, List.map_map]
  rfl
theorem sizes_lc (p : D) (bs : List Int) (hb : bs.length ≤ 1000) : cLc [8, 9] (iZip (cVar 1) (cSl mk opSl (cVar 1) (oSo (cC (.int 1))) oNo)) (gT ((gN 8) :: ((gN 9) :: []))) tYes (cOp2 opSub (cVar 9) (cVar 8))
    [.pu p, .pu (.list (bs.map .int)), .non, .non, .non, .non, .non, .non, .non, .non] = some (.nw (.list ((stepsI bs).map .int)), [.pu p, .pu (.list (bs.map .int)), .non, .non, .non, .non, .non, .non, .non, .non]) := by
  have hcut : cutD (bs.map .int) (some 1) none = bs.tail.map .int := by rw [cut_tail, ← List.map_drop, List.drop_one]
  have h := cLc_eq (vs := [8, 9]) (it := iZip (cVar 1) (cSl mk opSl (cVar 1) (oSo (cC (.int 1))) oNo)) (g := gT ((gN 8) :: ((gN 9) :: []))) (t := tYes) (f := cOp2 opSub (cVar 9) (cVar 8))
    (ρ := [.pu p, .pu (.list (bs.map .int)), .non, .non, .non, .non, .non, .non, .non, .non]) (ds := zipD (bs.map .int) (bs.tail.map .int))
    (fun x => match x with | .tuple [a, b] => [.pu p, .pu (.list (bs.map .int)), .non, .non, .non, .non, .non, .non, .pu a, .pu b] | _ => []) (fun _ => true) stepD
    (by simp [iZip, cSl, cVar, oSo, opSl, hcut]) rfl (fun x hx => by
      rw [zipD_ints] at hx
      obtain ⟨⟨a, b⟩, _, rfl⟩ := List.mem_map.mp hx
      exact ⟨rfl, rfl, rfl, fun _ => ⟨_, cOp2_pu rfl rfl rfl, rfl⟩⟩) (line_le (by simp [zipD]; omega))
  rw [filter_yes, zipD_ints, List.map_map] at h
  rw [h]
  unfold stepsI
  rw [List.map_map]
  rfl
theorem e_unswept_in (l : List Bool) (ss : List Nat) (hz : l.length ≤ 400) (hc : Climb (hgtB 0 l)) (hb : (bncAll l).length ≤ 1000) (hs : stepsI (bncAll l) = ss.map fun (c : Nat) => (c : Int)) (h1 : ∀ s ∈ ss, s ≤ 100)
    (hu : UOk 100 ((0 : Nat) : Int) ss (List.replicate (ss.headD 0) 0) (l.drop (ss.headD 0))) :
    m_unswept_in [.v (.str (pS l))] = some (.pu (.list ((unsw 0 ss (List.replicate (ss.headD 0) 0) (l.drop (ss.headD 0))).map .int)), []) := by
  have x1 := e_bounces_in l (by omega) hc
  have hh : ss.headD 0 ≤ 100 := by
    cases ss with
    | nil => exact Nat.zero_le _
    | cons s ss => exact h1 s List.mem_cons_self
  have x2 := sizes_lc (.str (pS l)) (bncAll l) hb
  have hn : (stepsI (bncAll l)).map PyData.int = natsD ss := by
    rw [hs, List.map_map]; rfl
  rw [hn] at x2
  have o1 : (1 : Nat) ≤ lineN := line_le (by omega)
  have fe := first_ev ss (ρ := [.pu (.str (pS l)), .pu (.list ((bncAll l).map .int)), .pu (.list (natsD ss)), .non, .non, .non, .non, .non, .non, .non]) rfl
  have r1 := rep_int 0 (ss.headD 0) (by omega)
  have t2 := sl_from l (ss.headD 0) (by omega)
  obtain ⟨s5, s6, s7, r', g⟩ := un_go (.str (pS l)) (.list ((bncAll l).map .int)) ss h1 ss 0 (List.replicate (ss.headD 0) 0) (l.drop (ss.headD 0)) .non .non .non rfl rfl rfl rfl hu (by simp; omega)
  have e0 : b_unswept_in [.pu (.str (pS l)), .non, .non, .non, .non, .non, .non, .non, .non, .non] =
      some (.rt (.pu (.list ((unsw 0 ss (List.replicate (ss.headD 0) 0) (l.drop (ss.headD 0))).map .int))) [.pu (.str (pS l)), .pu (.list ((bncAll l).map .int)), .pu (.list (natsD ss)), .pu (.list ((unsw 0 ss (List.replicate (ss.headD 0) 0) (l.drop (ss.headD 0))).map .int)), r', s5, s6, s7, .non, .non]) := by
    unfold b_unswept_in
    refine (sSeq_nx (sAsg_nw (i := 1) (cCall_args (args_pu rfl args_nil) x1) rfl)).trans ?_
    refine (sSeq_nx (sAsg_nw (i := 2) x2 rfl)).trans ?_
    refine (sSeq_nx (sParA_args (args_nw (cOp2n_lp' (cLst_args (args_pu rfl args_nil) o1) fe r1) (args_pu (cSl_pu' rfl (oSo_pu fe) rfl t2) args_nil)) rfl)).trans ?_
    refine (sSeq_nx ((sFor_eq ((iEnum_pu rfl rfl).trans (by rw [zip_nats]; rfl))).trans g)).trans ?_
    rfl
  exact run_rt rfl rfl e0 rfl
/-! what is wanted of a swept path led back -/
theorem uok_swept {row : List Int} (hr : Rv (-1) row) (hl : row.length ≤ 100) : ∀ (m k : Nat), k + m = topN row → UOk 100 (k : Nat) (cnts row k m) (row.filter fun x => decide (x ≤ (k : Nat))) (SW k m row)
  | 0, k, hk => by
    show (row.filter _).length ≤ 100
    exact Nat.le_trans (List.length_filter_le _ _) hl
  | m + 1, k, hk => by
    rw [cnts_succ, SW_succ]
    have hh : (cnts row (k + 1) m).headD 0 = row.count ((k : Int) + 1) := by
      cases m with
      | zero =>
        have hz := cnt_zero (top_lt (rv_nn row (-1) hr)) (k + 1) (by omega)
        rw [show ((k + 1 : Nat) : Int) = (k : Int) + 1 by omega] at hz
        rw [hz]; rfl
      | succ m =>
        rw [cnts_succ]
        show row.count ((k + 1 : Nat) : Int) = _
        rw [show ((k + 1 : Nat) : Int) = (k : Int) + 1 by omega]
    show (row.filter _).length ≤ 100 ∧ _ ≤ ((W (k : Nat) row ++ SW (k + 1) m row).take _).count false ∧ UOk 100 ((k : Int) + 1) (cnts row (k + 1) m) (ins (k : Nat) _ (bh ((W (k : Nat) row ++ SW (k + 1) m row).take _)).2) ((W (k : Nat) row ++ SW (k + 1) m row).drop _)
    rw [hh, ← W_len, List.take_left' rfl, List.drop_left' rfl, level_back0 hr k, W_f]
    have ih := uok_swept hr hl m (k + 1) (by omega)
    rw [show ((k + 1 : Nat) : Int) = (k : Int) + 1 by omega] at ih ⊢
    refine ⟨Nat.le_trans (List.length_filter_le _ _) hl, ?_, ih⟩
    rw [List.count_filter (by simp)]
    exact Nat.le_refl _
theorem e_unswept_path {l : List Bool} {n : Nat} (h : Dyck l n) (hn : n ≤ 30) : m_unswept_path [.v (.str (pS l))] = some (.pu (.str (pS (un l))), []) := by
  obtain ⟨hd, hs, hrow⟩ := un_spec h
  have hr := rv_of_dyck hd
  have hlen : (rowB 0 (un l)).length = n := by rw [row_cnt, hd.2.1]
  have hll := dyck_len h
  have hst := sw_steps hd
  rw [hs] at hst
  have hx := rv_nn _ _ hr
  have hh : (cnts (rowB 0 (un l)) 0 (topN (rowB 0 (un l)))).headD 0 = (rowB 0 (un l)).count 0 := by
    cases hm : topN (rowB 0 (un l)) with
    | zero =>
      have hz := cnt_zero (top_lt hx) 0 (by omega)
      exact hz.symm
    | succ m => rw [cnts_succ]; rfl
  have hdr : l.drop ((rowB 0 (un l)).count 0) = SW 0 (topN (rowB 0 (un l))) (rowB 0 (un l)) := by
    have hq : Sn (topN (rowB 0 (un l))) (rowB 0 (un l)) = l := hs
    have h2 : (Sn (topN (rowB 0 (un l))) (rowB 0 (un l))).drop ((rowB 0 (un l)).count 0) = SW 0 (topN (rowB 0 (un l))) (rowB 0 (un l)) := by
      unfold Sn
      exact List.drop_left' (by simp)
    rw [hq] at h2
    exact h2
  have hu := uok_swept hr (by omega) (topN (rowB 0 (un l))) 0 (Nat.zero_add _)
  rw [filter_zero hx, ← hdr, ← hh] at hu
  have e1 := e_unswept_in l (cnts (rowB 0 (un l)) 0 (topN (rowB 0 (un l)))) (by omega) (climb h) (by have := bncAll_len h; omega) hst (fun s hs' => by
    unfold cnts at hs'
    obtain ⟨j, _, rfl⟩ := List.mem_map.mp hs'
    have := List.count_le_length (a := (j : Int)) (l := rowB 0 (un l))
    omega) hu
  have e2 : unsw 0 (cnts (rowB 0 (un l)) 0 (topN (rowB 0 (un l)))) (List.replicate ((cnts (rowB 0 (un l)) 0 (topN (rowB 0 (un l)))).headD 0) 0) (l.drop ((cnts (rowB 0 (un l)) 0 (topN (rowB 0 (un l)))).headD 0)) = unswI l := by
    unfold unswI
    have : (stepsI (bncAll l)).map Int.toNat = cnts (rowB 0 (un l)) 0 (topN (rowB 0 (un l))) := by
      rw [hst, List.map_map]
      have : (Int.toNat ∘ fun (c : Nat) => (c : Int)) = id := by funext c; simp
      rw [this, List.map_id]
    simp only [this]
  rw [e2] at e1
  have hp := e_path_in (unswI l) true (fun x hx' => by
    rw [← hrow] at hx'
    have h1 := rv_nn _ _ hr x hx'
    have h2 := rv_lt _ _ hr x hx'
    omega) (by rw [← hrow]; omega)
  simp only [if_true] at hp
  have hnp := e_need_path (pS l) (by rw [pS_len]; omega) (fits_dyck h hn)
  have e0 : b_unswept_path [.pu (.str (pS l))] = some (.rt (.pu (.str (pS (un l)))) [.pu (.str (pS l))]) := by
    unfold b_unswept_path
    refine (sSeq_nx (sExp_eq (cCall_args (args_pu rfl args_nil) hnp))).trans ?_
    exact sRet_eq (cCall_args (args_pu (cCall_args (args_pu rfl args_nil) e1) args_nil) hp)
  exact run_rt rfl rfl e0 rfl
theorem e_swept_path {l : List Bool} {n : Nat} (h : Dyck l n) (hn : n ≤ 30) : m_swept_path [.v (.str (pS l))] = some (.pu (.str (pS (sw l))), []) := by
  have hr := rv_of_dyck h
  have hlen : (rowB 0 l).length = n := by rw [row_cnt, h.2.1]
  have hll := dyck_len h
  have e1 := e_row_in l (by omega)
  have e2 := e_swept_in hr (by omega)
  have hnp := e_need_path (pS l) (by rw [pS_len]; omega) (fits_dyck h hn)
  have e0 : b_swept_path [.pu (.str (pS l))] = some (.rt (.pu (.str (pS (sw l)))) [.pu (.str (pS l))]) := by
    unfold b_swept_path
    refine (sSeq_nx (sExp_eq (cCall_args (args_pu rfl args_nil) hnp))).trans ?_
    exact sRet_eq (cCall_args (args_nw (cCall_args (args_pu rfl args_nil) e1) args_nil) e2)
  exact run_rt rfl rfl e0 rfl
/-! ### _law_swept -/
def bdSi : FS := (sIf (tBl (cOp2 opEq (cVar 4) (cVar 3))) (sAsg 2 (cOp2n opAdd (cVar 2) (cC (.str (Str.ofString "r"))))) (sIf (tBl (cOp2 opEq (cVar 4) (cOp2n opAdd (cVar 3) (cC (.int 1))))) (sAsg 2 (cOp2n opAdd (cVar 2) (cC (.str (Str.ofString "u"))))) sPass))
theorem si_go (p r : D) (low : Int) : ∀ (l : List Int) (f : List Bool) (s : Sl), plainS (some s) = true → f.length + l.length ≤ 20000 →
    ∃ s', plainS (some s') = true ∧ forGo (gN 4) bdSi (l.map .int) [.pu p, .pu r, .pu (.str (pS f)), .pu (.int low), s] = some (.nx [.pu p, .pu r, .pu (.str (pS (f ++ W low l))), .pu (.int low), s'])
  | [], f, s, hs, _ => ⟨s, hs, by simp [W]; rfl⟩
  | x :: l, f, s, hs, hz => by
    simp only [List.length_cons] at hz
    have step : (gN 4) (.int x) [.pu p, .pu r, .pu (.str (pS f)), .pu (.int low), s] = some [.pu p, .pu r, .pu (.str (pS f)), .pu (.int low), .pu (.int x)] := by
      cases s <;> simp [plainS] at hs <;> rfl
    have t := opEq_int x low
    have t2 := opEq_int x (low + 1)
    unfold W
    by_cases h1 : x = low
    · subst h1
      obtain ⟨s', hs', ih⟩ := si_go p r x l (f ++ [false]) (.pu (.int x)) rfl (by simp; omega)
      refine ⟨s', hs', ?_⟩
      have t' : opEq (.int x) (.int x) = some (.bool true) := by rw [t]; simp
      have a := add_pS f [false] (by simp; omega)
      rw [pS_r, ← s_r] at a
      have body : bdSi [.pu p, .pu r, .pu (.str (pS f)), .pu (.int x), .pu (.int x)] = some (.nx [.pu p, .pu r, .pu (.str (pS (f ++ [false]))), .pu (.int x), .pu (.int x)]) := by
        unfold bdSi
        exact (sIf_t (tBl_eq (cOp2_pu rfl rfl t'))).trans (sAsg_pu (i := 2) (cOp2n_pu' rfl rfl a) rfl)
      rw [if_pos rfl, List.map_cons, forGo_nx step body, ih]
      simp
    · have t' : opEq (.int x) (.int low) = some (.bool false) := by rw [t]; simp [h1]
      rw [if_neg h1]
      by_cases h2 : x = low + 1
      · subst h2
        obtain ⟨s', hs', ih⟩ := si_go p r low l (f ++ [true]) (.pu (.int (low + 1))) rfl (by simp; omega)
        refine ⟨s', hs', ?_⟩
        have t2' : opEq (.int (low + 1)) (.int (low + 1)) = some (.bool true) := by rw [t2]; simp
        have a := add_pS f [true] (by simp; omega)
        rw [pS_u, ← s_u] at a
        have body : bdSi [.pu p, .pu r, .pu (.str (pS f)), .pu (.int low), .pu (.int (low + 1))] = some (.nx [.pu p, .pu r, .pu (.str (pS (f ++ [true]))), .pu (.int low), .pu (.int (low + 1))]) := by
          unfold bdSi
          refine (sIf_f (tBl_eq (cOp2_pu rfl rfl t'))).trans ?_
          exact (sIf_t (tBl_eq (cOp2_pu rfl (cOp2n_pu' rfl rfl rfl) t2'))).trans (sAsg_pu (i := 2) (cOp2n_pu' rfl rfl a) rfl)
        rw [if_pos rfl, List.map_cons, forGo_nx step body, ih]
        simp
      · obtain ⟨s', hs', ih⟩ := si_go p r low l f (.pu (.int x)) rfl (by omega)
        refine ⟨s', hs', ?_⟩
        have t2' : opEq (.int x) (.int (low + 1)) = some (.bool false) := by rw [t2]; simp [h2]
        have body : bdSi [.pu p, .pu r, .pu (.str (pS f)), .pu (.int low), .pu (.int x)] = some (.nx [.pu p, .pu r, .pu (.str (pS f)), .pu (.int low), .pu (.int x)]) := by
          unfold bdSi
          refine (sIf_f (tBl_eq (cOp2_pu rfl rfl t'))).trans ?_
          exact (sIf_f (tBl_eq (cOp2_pu rfl (cOp2n_pu' rfl rfl rfl) t2'))).trans rfl
        rw [if_neg h2, List.map_cons, forGo_nx step body, ih]
def bdSo : FS := (sFor (iE (cVar 1)) (gN 4) bdSi)
theorem so_go (p : D) (row : List Int) (hl : row.length ≤ 100) : ∀ (m k : Nat) (f : List Bool) (s3 s : Sl), plainS (some s3) = true → plainS (some s) = true → f.length + m * row.length ≤ 15000 →
    ∃ s3' s', forGo (gN 3) bdSo ((List.range' k m).map fun j => .int (j : Nat)) [.pu p, .pu (.list (row.map .int)), .pu (.str (pS f)), s3, s] = some (.nx [.pu p, .pu (.list (row.map .int)), .pu (.str (pS (f ++ SW k m row))), s3', s'])
  | 0, k, f, s3, s, _, _, _ => ⟨s3, s, by simp [SW_zero]; rfl⟩
  | m + 1, k, f, s3, s, h3, hs, hz => by
    rw [Nat.succ_mul] at hz
    have hw := W_le (k : Nat) row
    have step : (gN 3) (.int (k : Nat)) [.pu p, .pu (.list (row.map .int)), .pu (.str (pS f)), s3, s] = some [.pu p, .pu (.list (row.map .int)), .pu (.str (pS f)), .pu (.int (k : Nat)), s] := by
      cases s3 <;> simp [plainS] at h3 <;> rfl
    obtain ⟨s1, hs1, e⟩ := si_go p (.list (row.map .int)) (k : Nat) row f s hs (by omega)
    obtain ⟨s3', s', ih⟩ := so_go p row hl m (k + 1) (f ++ W (k : Nat) row) (.pu (.int (k : Nat))) s1 rfl hs1 (by rw [List.length_append]; omega)
    refine ⟨s3', s', ?_⟩
    have body : bdSo [.pu p, .pu (.list (row.map .int)), .pu (.str (pS f)), .pu (.int (k : Nat)), s] = some (.nx [.pu p, .pu (.list (row.map .int)), .pu (.str (pS (f ++ W (k : Nat) row))), .pu (.int (k : Nat)), s1]) := by
      unfold bdSo
      exact (sFor_eq (iE_pu rfl rfl)).trans e
    rw [List.range'_succ, List.map_cons, forGo_nx step body, ih, List.append_assoc, ← SW_succ]
def isZ : D → Bool
  | .int x => x == 0
  | _ => false
theorem zeros_lc (p : D) (row : List Int) (hl : row.length ≤ 1000) : cOpA fLen (aCons (cLc [4] (iE (cVar 1)) (gN 4) (tBl (cOp2 opEq (cVar 4) (cC (.int 0)))) (cVar 4)) aNil) [.pu p, .pu (.list (row.map .int)), .non, .non, .non] = some (.pu (.int (row.count 0 : Nat)), [.pu p, .pu (.list (row.map .int)), .non, .non, .non]) := by
  have h := cLc_eq (vs := [4]) (it := iE (cVar 1)) (g := gN 4) (t := tBl (cOp2 opEq (cVar 4) (cC (.int 0)))) (f := cVar 4)
    (ρ := [.pu p, .pu (.list (row.map .int)), .non, .non, .non]) (ds := row.map .int) (fun x => [.pu p, .pu (.list (row.map .int)), .non, .non, .pu x]) isZ (fun x => x)
    (iE_pu rfl rfl) rfl (fun x hx => by
      obtain ⟨n, _, rfl⟩ := List.mem_map.mp hx
      exact ⟨rfl, rfl, tBl_eq (cOp2_pu rfl rfl (opEq_int n 0)), fun _ => ⟨_, rfl, rfl⟩⟩) (line_le (by simp; omega))
  refine cOpA_nw h ?_
  have : (((row.map PyData.int).filter isZ).map fun x => x).length = row.count 0 := by
    rw [List.map_id', ← List.countP_eq_length_filter, List.countP_map, List.count]
    rfl
  simp only [fLen, on1, this]
theorem e_law_swept {l : List Bool} {n : Nat} (h : Dyck l n) (hn : n ≤ 30) : m__law_swept [.v (.str (pS l))] = some (.pu (.str (pS (sw l))), []) := by
  have hr := rv_of_dyck h
  have hlen : (rowB 0 l).length = n := by rw [row_cnt, h.2.1]
  have hll := dyck_len h
  have e1 := e_law_area_row l (by omega)
  have hsw : sw l = Sn n (rowB 0 l) := by
    have ht := top_le hr
    rw [hlen] at ht
    have := Sn_ext (top_lt (rv_nn _ _ hr)) (n - topN (rowB 0 l))
    rw [show topN (rowB 0 l) + (n - topN (rowB 0 l)) = n by omega] at this
    exact this.symm
  rw [hsw]
  revert e1 hlen hr
  generalize rowB 0 l = row
  intro hr hlen e1
  have hc := List.count_le_length (a := (0 : Int)) (l := row)
  have m1 := up_mul (row.count 0) (by omega)
  have hfl : fLen [.list (row.map .int)] = some (.int (row.length : Nat)) := by simp [fLen, on1]
  have hm : n * row.length ≤ 30 * 30 := Nat.mul_le_mul hn (by omega)
  obtain ⟨s3', s', g⟩ := so_go (.str (pS l)) row (by omega) n 0 (List.replicate (row.count 0) true) .non .non rfl rfl (by simp; omega)
  have it : iRg1 (cOpA fLen (aCons (cVar 1) aNil)) [.pu (.str (pS l)), .pu (.list (row.map .int)), .pu (.str (pS (List.replicate (row.count 0) true))), .non, .non] = some ((List.range' 0 n).map fun k => .int (k : Nat), [.pu (.str (pS l)), .pu (.list (row.map .int)), .pu (.str (pS (List.replicate (row.count 0) true))), .non, .non]) := by
    rw [iRg1_eq (j := (row.length : Nat)) (ρ' := [.pu (.str (pS l)), .pu (.list (row.map .int)), .pu (.str (pS (List.replicate (row.count 0) true))), .non, .non]) (cOpA_args (args_pu rfl args_nil) hfl) (small_nat (by omega)), Int.toNat_natCast, hlen]
    have := intsD_range' 0 n
    rw [← this]; rfl
  have e0 : b__law_swept [.pu (.str (pS l)), .non, .non, .non, .non] = some (.rt (.pu (.str (pS (Sn n row)))) [.pu (.str (pS l)), .pu (.list (row.map .int)), .pu (.str (pS (Sn n row))), s3', s']) := by
    unfold b__law_swept
    refine (sSeq_nx (sAsg_nw (i := 1) (cCall_args (args_pu rfl args_nil) e1) rfl)).trans ?_
    have au : cOp2n opMul (cC (.str (Str.ofString "u"))) (cOpA fLen (aCons (cLc [4] (iE (cVar 1)) (gN 4) (tBl (cOp2 opEq (cVar 4) (cC (.int 0)))) (cVar 4)) aNil)) [.pu (.str (pS l)), .pu (.list (row.map .int)), .non, .non, .non] = some (.pu (.str (pS (List.replicate (row.count 0) true))), [.pu (.str (pS l)), .pu (.list (row.map .int)), .non, .non, .non]) := by
      rw [s_u]
      exact cOp2n_pu' rfl (zeros_lc _ row (by omega)) m1
    refine (sSeq_nx (sAsg_pu (i := 2) au rfl)).trans ?_
    refine (sSeq_nx ((sFor_eq it).trans g)).trans ?_
    rfl
  exact run_rt rfl rfl e0 rfl
end PL

/-! k84, 6: all paths of small sizes. -/
namespace PL
open PySem PySem.Spec PyProof.Rows L2
def stepP (n : Nat) (l : List Bool) : List (List Bool) := (if l.count false < l.count true then [l ++ [false]] else []) ++ (if l.count true < n then [l ++ [true]] else [])
def pathsN (n : Nat) : Nat → List (List Bool)
  | 0 => [[]]
  | k + 1 => (pathsN n k).flatMap (stepP n)
def pathsA (n : Nat) : List (List Bool) := pathsN n (2 * n)
def strD (l : List Bool) : D := .str (pS l)
def bdAi : FS := (sSeq (sParA [5, 6] (aCons (cM "str" .pu mCount (cVar 4) (aCons (cC (.str (Str.ofString "u"))) aNil)) (aCons (cM "str" .pu mCount (cVar 4) (aCons (cC (.str (Str.ofString "r"))) aNil)) aNil)))
  (sAsg 3 (cOp2n opAdd (cOp2n opAdd (cVar 3) (cIf (tBl (cOp2 opLt (cVar 6) (cVar 5))) (cLst (aCons (cOp2n opAdd (cVar 4) (cC (.str (Str.ofString "r")))) aNil)) (cLst aNil))) (cIf (tBl (cOp2 opLt (cVar 5) (cVar 0))) (cLst (aCons (cOp2n opAdd (cVar 4) (cC (.str (Str.ofString "u")))) aNil)) (cLst aNil)))))
theorem ai_body (n : Nat) (fd tu : D) (l : List Bool) (hl : l.length ≤ 1000) (acc : List (List Bool)) (ha : acc.length ≤ 50000) (s5 s6 : Sl) (h5 : plainS (some s5) = true) (h6 : plainS (some s6) = true) :
    bdAi [.pu (.int (n : Nat)), .pu fd, .pu tu, .pu (.list (acc.map strD)), .pu (strD l), s5, s6] = some (.nx [.pu (.int (n : Nat)), .pu fd, .pu tu, .pu (.list ((acc ++ stepP n l).map strD)), .pu (strD l), .pu (.int (l.count true : Nat)), .pu (.int (l.count false : Nat))]) := by
  have c1 := cnt_u l
  have c2 := cnt_r l
  rw [← s_u] at c1
  rw [← s_r] at c2
  have a1 := add_pS l [false] (by simp; omega)
  have a2 := add_pS l [true] (by simp; omega)
  rw [pS_r, ← s_r] at a1
  rw [pS_u, ← s_u] at a2
  have o1 : (1 : Nat) ≤ lineN := line_le (by omega)
  have t1 : opLt (.int (l.count false : Nat)) (.int (l.count true : Nat)) = some (.bool (decide (((l.count false : Nat) : Int) < (l.count true : Nat)))) := rfl
  have t2 : opLt (.int (l.count true : Nat)) (.int (n : Nat)) = some (.bool (decide (((l.count true : Nat) : Int) < (n : Nat)))) := rfl
  let ρ : Rho := [.pu (.int (n : Nat)), .pu fd, .pu tu, .pu (.list (acc.map strD)), .pu (strD l), .pu (.int (l.count true : Nat)), .pu (.int (l.count false : Nat))]
  have b1 : cIf (tBl (cOp2 opLt (cVar 6) (cVar 5))) (cLst (aCons (cOp2n opAdd (cVar 4) (cC (.str (Str.ofString "r")))) aNil)) (cLst aNil) ρ = some (.nw (.list ((if l.count false < l.count true then [l ++ [false]] else []).map strD)), ρ) := by
    by_cases h : l.count false < l.count true
    · rw [decide_eq_true (by omega)] at t1
      rw [if_pos h]
      exact (cIf_t (tBl_eq (cOp2_pu rfl rfl t1))).trans (cLst_args (args_pu (cOp2n_pu' rfl rfl a1) args_nil) o1)
    · rw [decide_eq_false (by omega)] at t1
      rw [if_neg h]
      exact (cIf_f (tBl_eq (cOp2_pu rfl rfl t1))).trans (cLst_args args_nil (Nat.zero_le _))
  have b2 : cIf (tBl (cOp2 opLt (cVar 5) (cVar 0))) (cLst (aCons (cOp2n opAdd (cVar 4) (cC (.str (Str.ofString "u")))) aNil)) (cLst aNil) ρ = some (.nw (.list ((if l.count true < n then [l ++ [true]] else []).map strD)), ρ) := by
    by_cases h : l.count true < n
    · rw [decide_eq_true (by omega)] at t2
      rw [if_pos h]
      exact (cIf_t (tBl_eq (cOp2_pu rfl rfl t2))).trans (cLst_args (args_pu (cOp2n_pu' rfl rfl a2) args_nil) o1)
    · rw [decide_eq_false (by omega)] at t2
      rw [if_neg h]
      exact (cIf_f (tBl_eq (cOp2_pu rfl rfl t2))).trans (cLst_args args_nil (Nat.zero_le _))
  have z1 : ∀ c : Prop, ∀ [Decidable c], ∀ x : List Bool, (if c then [x] else []).length ≤ 1 := fun c _ x => by split <;> simp
  have d1 := add_lst (acc.map strD) ((if l.count false < l.count true then [l ++ [false]] else []).map strD) (by
    have := z1 (l.count false < l.count true) (l ++ [false])
    rw [List.length_map, List.length_map]; omega)
  have d2 := add_lst (acc.map strD ++ (if l.count false < l.count true then [l ++ [false]] else []).map strD) ((if l.count true < n then [l ++ [true]] else []).map strD) (by
    have h1 := z1 (l.count false < l.count true) (l ++ [false])
    have h2 := z1 (l.count true < n) (l ++ [true])
    rw [List.length_append, List.length_map, List.length_map, List.length_map]; omega)
  have e : acc.map strD ++ (if l.count false < l.count true then [l ++ [false]] else []).map strD ++ (if l.count true < n then [l ++ [true]] else []).map strD = (acc ++ stepP n l).map strD := by
    unfold stepP
    rw [List.map_append, List.map_append, List.append_assoc]
  rw [e] at d2
  unfold bdAi
  refine (sSeq_nx (ρ' := ρ) (sParA_args (args_pu (cM_args rfl rfl (args_pu rfl args_nil) c1) (args_pu (cM_args rfl rfl (args_pu rfl args_nil) c2) args_nil)) (by cases s5 <;> simp [plainS] at h5 <;> cases s6 <;> simp [plainS] at h6 <;> rfl))).trans ?_
  exact sAsg_nw (i := 3) (cOp2n_ll' (cOp2n_pl' rfl b1 d1) b2 d2) rfl
theorem stepP_len (n : Nat) (l : List Bool) : (stepP n l).length ≤ 2 := by
  unfold stepP
  split <;> split <;> simp
theorem ai_go (n : Nat) (fd tu : D) : ∀ (fs : List (List Bool)) (acc : List (List Bool)) (s4 s5 s6 : Sl), plainS (some s4) = true → plainS (some s5) = true → plainS (some s6) = true → (∀ l ∈ fs, l.length ≤ 1000) → acc.length + 2 * fs.length ≤ 50000 →
    ∃ s4' s5' s6', plainS (some s4') = true ∧ plainS (some s5') = true ∧ plainS (some s6') = true ∧ forGo (gN 4) bdAi (fs.map strD) [.pu (.int (n : Nat)), .pu fd, .pu tu, .pu (.list (acc.map strD)), s4, s5, s6] = some (.nx [.pu (.int (n : Nat)), .pu fd, .pu tu, .pu (.list ((acc ++ fs.flatMap (stepP n)).map strD)), s4', s5', s6'])
  | [], acc, s4, s5, s6, h4, h5, h6, _, _ => ⟨s4, s5, s6, h4, h5, h6, by simp; rfl⟩
  | l :: fs, acc, s4, s5, s6, h4, h5, h6, hl, hz => by
    simp only [List.length_cons] at hz
    have hs := stepP_len n l
    have step : (gN 4) (strD l) [.pu (.int (n : Nat)), .pu fd, .pu tu, .pu (.list (acc.map strD)), s4, s5, s6] = some [.pu (.int (n : Nat)), .pu fd, .pu tu, .pu (.list (acc.map strD)), .pu (strD l), s5, s6] := by
      cases s4 <;> simp [plainS] at h4 <;> rfl
    have body := ai_body n fd tu l (hl l List.mem_cons_self) acc (by omega) s5 s6 h5 h6
    obtain ⟨s4', s5', s6', q4, q5, q6, ih⟩ := ai_go n fd tu fs (acc ++ stepP n l) (.pu (strD l)) (.pu (.int (l.count true : Nat))) (.pu (.int (l.count false : Nat))) rfl rfl rfl (fun m hm => hl m (List.mem_cons_of_mem _ hm)) (by rw [List.length_append]; omega)
    refine ⟨s4', s5', s6', q4, q5, q6, ?_⟩
    rw [List.map_cons, forGo_nx step body, ih, List.flatMap_cons, List.append_assoc]
def bdAo : FS := (sSeq (sAsg 3 (cLst aNil)) (sSeq (sFor (iE (cVar 1)) (gN 4) bdAi) (sAsg 1 (cVar 3))))
theorem pathsN_len (n : Nat) : ∀ k, (pathsN n k).length ≤ 2 ^ k ∧ ∀ l ∈ pathsN n k, l.length ≤ k
  | 0 => ⟨Nat.le_refl _, fun l h => by simp [pathsN] at h; simp [h]⟩
  | k + 1 => by
    obtain ⟨h1, h2⟩ := pathsN_len n k
    have key : ∀ fs : List (List Bool), (fs.flatMap (stepP n)).length ≤ 2 * fs.length := by
      intro fs
      induction fs with
      | nil => simp
      | cons l fs ih =>
        have := stepP_len n l
        rw [List.flatMap_cons, List.length_append, List.length_cons]; omega
    refine ⟨?_, fun l hl => ?_⟩
    · have := key (pathsN n k)
      show ((pathsN n k).flatMap (stepP n)).length ≤ _
      rw [Nat.pow_succ]; omega
    · obtain ⟨m, hm, hlm⟩ := List.mem_flatMap.mp hl
      have := h2 m hm
      unfold stepP at hlm
      rcases List.mem_append.mp hlm with q | q
      · split at q
        · simp at q; rw [q]; simp; omega
        · cases q
      · split at q
        · simp at q; rw [q]; simp; omega
        · cases q
theorem ao_go (n : Nat) : ∀ (m k : Nat) (s2 s3 s4 s5 s6 : Sl), plainS (some s2) = true → plainS (some s3) = true → plainS (some s4) = true → plainS (some s5) = true → plainS (some s6) = true → k + m ≤ 12 →
    ∃ s2' s3' s4' s5' s6', forGo (gN 2) bdAo ((List.range' k m).map fun j => .int (j : Nat)) [.pu (.int (n : Nat)), .pu (.list ((pathsN n k).map strD)), s2, s3, s4, s5, s6] = some (.nx [.pu (.int (n : Nat)), .pu (.list ((pathsN n (k + m)).map strD)), s2', s3', s4', s5', s6'])
  | 0, k, s2, s3, s4, s5, s6, _, _, _, _, _, _ => ⟨s2, s3, s4, s5, s6, rfl⟩
  | m + 1, k, s2, s3, s4, s5, s6, h2, h3, h4, h5, h6, hk => by
    have step : (gN 2) (.int (k : Nat)) [.pu (.int (n : Nat)), .pu (.list ((pathsN n k).map strD)), s2, s3, s4, s5, s6] = some [.pu (.int (n : Nat)), .pu (.list ((pathsN n k).map strD)), .pu (.int (k : Nat)), s3, s4, s5, s6] := by
      cases s2 <;> simp [plainS] at h2 <;> rfl
    obtain ⟨l1, l2⟩ := pathsN_len n k
    have hp : 2 ^ k ≤ 2 ^ 12 := Nat.pow_le_pow_right (by omega) (by omega)
    obtain ⟨s4', s5', s6', q4, q5, q6, e⟩ := ai_go n (.list ((pathsN n k).map strD)) (.int (k : Nat)) (pathsN n k) [] s4 s5 s6 h4 h5 h6 (fun l hl => by have := l2 l hl; omega) (by simp; omega)
    rw [List.nil_append] at e
    have body : bdAo [.pu (.int (n : Nat)), .pu (.list ((pathsN n k).map strD)), .pu (.int (k : Nat)), s3, s4, s5, s6] = some (.nx [.pu (.int (n : Nat)), .pu (.list ((pathsN n (k + 1)).map strD)), .pu (.int (k : Nat)), .pu (.list ((pathsN n (k + 1)).map strD)), s4', s5', s6']) := by
      unfold bdAo
      refine (sSeq_nx (ρ' := [.pu (.int (n : Nat)), .pu (.list ((pathsN n k).map strD)), .pu (.int (k : Nat)), .pu (.list (([] : List (List Bool)).map strD)), s4, s5, s6]) (sAsg_nw (i := 3) (cLst_args args_nil (Nat.zero_le _)) (by cases s3 <;> simp [plainS] at h3 <;> rfl))).trans ?_
      refine (sSeq_nx ((sFor_eq (iE_pu rfl rfl)).trans e)).trans ?_
      exact sAsg_pu (i := 1) rfl rfl
    obtain ⟨r2, r3, r4, r5, r6, ih⟩ := ao_go n m (k + 1) (.pu (.int (k : Nat))) (.pu (.list ((pathsN n (k + 1)).map strD))) s4' s5' s6' rfl rfl q4 q5 q6 (by omega)
    refine ⟨r2, r3, r4, r5, r6, ?_⟩
    rw [List.range'_succ, List.map_cons, forGo_nx step body, ih, show k + 1 + m = k + (m + 1) by omega]
theorem e_all_paths (n : Nat) (hn : n ≤ 6) : m__law_all_paths [.v (.int (n : Nat))] = some (.pu (.list ((pathsA n).map strD)), []) := by
  have o1 : (1 : Nat) ≤ lineN := line_le (by omega)
  obtain ⟨s2, s3, s4, s5, s6, g⟩ := ao_go n (2 * n) 0 .non .non .non .non .non rfl rfl rfl rfl rfl (by omega)
  have m1 : opMul (.int 2) (.int (n : Nat)) = some (.int ((2 * n : Nat) : Int)) := by
    have : small64 (n : Nat) = true := small64_nat (by omega)
    simp only [opMul, this, Bool.or_true, if_true]
    congr 2
  have it : iRg1 (cOp2n opMul (cC (.int 2)) (cVar 0)) [.pu (.int (n : Nat)), .pu (.list ((pathsN n 0).map strD)), .non, .non, .non, .non, .non] = some ((List.range' 0 (2 * n)).map fun k => .int (k : Nat), [.pu (.int (n : Nat)), .pu (.list ((pathsN n 0).map strD)), .non, .non, .non, .non, .non]) := by
    rw [iRg1_eq (j := ((2 * n : Nat) : Int)) (ρ' := [.pu (.int (n : Nat)), .pu (.list ((pathsN n 0).map strD)), .non, .non, .non, .non, .non]) (cOp2n_pu' rfl rfl m1) (small_nat (by omega)), Int.toNat_natCast]
    have := intsD_range' 0 (2 * n)
    rw [← this]; rfl
  have e0 : b__law_all_paths [.pu (.int (n : Nat)), .non, .non, .non, .non, .non, .non] = some (.rt (.pu (.list ((pathsA n).map strD))) [.pu (.int (n : Nat)), .pu (.list ((pathsN n (0 + 2 * n)).map strD)), s2, s3, s4, s5, s6]) := by
    unfold b__law_all_paths
    rw [s_e]
    refine (sSeq_nx (sAsg_nw (i := 1) (cLst_args (args_pu rfl args_nil) o1) rfl)).trans ?_
    refine (sSeq_nx ((sFor_eq it).trans g)).trans ?_
    unfold pathsA
    rw [Nat.zero_add]; rfl
  exact run_rt rfl rfl e0 rfl
end PL

/-! k84, 7: _law_right, _law_all_right. -/
namespace PL
open PySem PySem.Spec PyProof.Rows L2
theorem e_written : m__law_written_right [] = some (.pu (.bool true), []) := by kernel_rfl
theorem tru_of {a : FE} {ρ ρ1 : Rho} (h : a ρ = some (.pu (.bool true), ρ1)) : tNot (tTru' a) ρ = some (false, ρ1) := not_f h
theorem lk2 (x y : D) (hx : narrow 1000 x = true) (hy : narrow 1000 y = true) (dx : x.depth < 7) (dy : y.depth < 7) : m__law_like [.v (.list [x, y]), .v (.list [x, y])] = some (.pu (.bool true), []) := by
  refine e_like (.list [x, y]) ?_ ?_
  · show (decide (2 ≤ 1000) && (narrow 1000 x && (narrow 1000 y && true))) = true
    rw [hx, hy]; rfl
  · simp only [PyData.depth, PyData.depthAll]
    omega
theorem nr_str (z : Str) : narrow 1000 (.str z) = true := rfl
theorem nr_int (z : Int) : narrow 1000 (.int z) = true := rfl
theorem dps7 (z : Str) : PyData.depth (.str z) < 7 := by simp [PyData.depth]
theorem dp_int' (z : Int) : PyData.depth (.int z) < 7 := by simp [PyData.depth]
theorem lk_ints (ns : List Int) (h : ns.length ≤ 1000) : m__law_like [.v (.list (ns.map .int)), .v (.list (ns.map .int))] = some (.pu (.bool true), []) :=
  e_like _ (by simp [narrow, narrowAll_ints, h]) (by simp [PyData.depth, depthAll_ints])
theorem lk_tup (ns : List Int) (h : ns.length ≤ 1000) : m__law_like [.v (.tuple (ns.map .int)), .v (.tuple (ns.map .int))] = some (.pu (.bool true), []) :=
  e_like _ (narrow_tup h) (by rw [depth_tup]; omega)
theorem ls_plain : ∀ ns : List Nat, PyData.plainAll (natsD ns) = true
  | [] => rfl
  | a :: ns => by
    have ih := ls_plain ns
    show (PyData.plain (.int (a : Nat)) && PyData.plainAll (natsD ns)) = true
    rw [ih]; rfl
theorem ne_nats (ns : List Nat) : opNe (.list (natsD ns)) (.list (natsD ns)) = some (.bool false) :=
  ne_self _ (ls_plain ns) (by simp only [PyData.depth, depth_nats]; omega)
theorem steps2_lc (p t d : D) (bs row : List Int) (hb : bs.length ≤ 1000) : cLc [7, 8] (iZip (cVar 2) (cSl mk opSl (cVar 2) (oSo (cC (.int 1))) oNo)) (gT ((gN 7) :: ((gN 8) :: []))) tYes (cOp2 opSub (cVar 8) (cVar 7))
    [.pu p, .pu t, .pu (.list (bs.map .int)), .non, .pu (.list (row.map .int)), .pu d, .non, .non, .non] = some (.nw (.list ((stepsI bs).map .int)), [.pu p, .pu t, .pu (.list (bs.map .int)), .non, .pu (.list (row.map .int)), .pu d, .non, .non, .non]) := by
  have hcut : cutD (bs.map .int) (some 1) none = bs.tail.map .int := by rw [cut_tail, ← List.map_drop, List.drop_one]
  have h := cLc_eq (vs := [7, 8]) (it := iZip (cVar 2) (cSl mk opSl (cVar 2) (oSo (cC (.int 1))) oNo)) (g := gT ((gN 7) :: ((gN 8) :: []))) (t := tYes) (f := cOp2 opSub (cVar 8) (cVar 7))
    (ρ := [.pu p, .pu t, .pu (.list (bs.map .int)), .non, .pu (.list (row.map .int)), .pu d, .non, .non, .non]) (ds := zipD (bs.map .int) (bs.tail.map .int))
    (fun x => match x with | .tuple [a, b] => [.pu p, .pu t, .pu (.list (bs.map .int)), .non, .pu (.list (row.map .int)), .pu d, .non, .pu a, .pu b] | _ => []) (fun _ => true) stepD
    (by simp [iZip, cSl, cVar, oSo, opSl, hcut]) rfl (fun x hx => by
      rw [zipD_ints] at hx
      obtain ⟨⟨a, b⟩, _, rfl⟩ := List.mem_map.mp hx
      exact ⟨rfl, rfl, rfl, fun _ => ⟨_, cOp2_pu rfl rfl rfl, rfl⟩⟩) (line_le (by simp [zipD]; omega))
  rw [filter_yes, zipD_ints, List.map_map] at h
  rw [h]
  unfold stepsI
  rw [List.map_map]
  rfl
def cntAt (row : List Int) : D → D
  | .int k => .int (row.count k : Nat)
  | _ => .none
theorem cnts_lc (p t b d : D) (row : List Int) (ht : topN row ≤ 1000) (hl : row.length ≤ 1000) : cLc [6] (iRg1 (cOp2n opAdd (cOpA fMax (aCons (cOp2n opAdd (cLst (aCons (cOp opNeg (cC (.int 1))) aNil)) (cVar 4)) aNil)) (cC (.int 1)))) (gN 6) tYes (cM "list" .pu mLCount (cVar 4) (aCons (cVar 6) aNil))
    [.pu p, .pu t, .pu b, .non, .pu (.list (row.map .int)), .pu d, .non, .non, .non] = some (.nw (.list (natsD (cnts row 0 (topN row)))), [.pu p, .pu t, .pu b, .non, .pu (.list (row.map .int)), .pu d, .non, .non, .non]) := by
  have h := cLc_eq (vs := [6]) (it := iRg1 (cOp2n opAdd (cOpA fMax (aCons (cOp2n opAdd (cLst (aCons (cOp opNeg (cC (.int 1))) aNil)) (cVar 4)) aNil)) (cC (.int 1)))) (g := gN 6) (t := tYes) (f := cM "list" .pu mLCount (cVar 4) (aCons (cVar 6) aNil))
    (ρ := [.pu p, .pu t, .pu b, .non, .pu (.list (row.map .int)), .pu d, .non, .non, .non]) (ds := (List.range' 0 (topN row)).map fun k => .int (k : Nat))
    (fun x => [.pu p, .pu t, .pu b, .non, .pu (.list (row.map .int)), .pu d, .pu x, .non, .non]) (fun _ => true) (cntAt row) (rng_top rfl ht hl) rfl (fun x hx => by
      obtain ⟨k, _, rfl⟩ := List.mem_map.mp hx
      exact ⟨rfl, rfl, rfl, fun _ => ⟨_, cM_args rfl rfl (args_pu rfl args_nil) (lcount row _), rfl⟩⟩) (line_le (by simp; omega))
  rw [filter_yes, List.map_map] at h
  rw [h]
  unfold natsD cnts
  rw [List.map_map]
  rfl
theorem e_law_right {l : List Bool} {n : Nat} (h : Dyck l n) (hn : n ≤ 30) : m__law_right [.v (.str (pS l))] = some (.pu (.bool true), []) := by
  have hl := dyck_len h
  have hf := fits_dyck h hn
  have hs := sw_dyck h
  have hsl := dyck_len hs
  have hsf := fits_dyck hs hn
  obtain ⟨hu, hus, hur⟩ := un_spec h
  have hul := dyck_len hu
  have huf := fits_dyck hu hn
  have hr := rv_of_dyck h
  have hrl : (rowB 0 l).length = n := by rw [row_cnt, h.2.1]
  have htl := top_le hr
  have x1 := e_law_area_row l (by omega)
  have x2 := e_law_swept h hn
  have y1 := e_law_is_path (pS (sw l)) (by rw [pS_len]; omega)
  rw [hsf] at y1
  have y2 := e_swept_path h hn
  have y3 := e_unswept_path hs hn
  rw [un_of_sw h] at y3
  have l1 := lk2 (.str (pS (sw l))) (.str (pS l)) (nr_str _) (nr_str _) (dps7 _) (dps7 _)
  have z1 := e_area_of_path (sw l) (by omega) hsf
  rw [sw_area h] at z1
  have z2 := e_bounce_weight (sw l) (by omega) hsf (climb hs) (by have := bncAll_len hs; omega)
  rw [sw_bounce h] at z2
  have z3 := e_area_of_path l (by omega) hf
  have z4 := e_pair_weight l (by omega) hf
  have z5 := e_law_pair_weight (rowB 0 l) (by omega)
  have fs : fSum [.list ((rowB 0 l).map .int)] = some (.int (rowB 0 l).sum) := by simp only [fSum, on1, seqOf, Option.bind_some, intsOf_map]
  have l2 : m__law_like [.v (.list [.int (pairI (rowB 0 l)), .int (rowB 0 l).sum, .int (rowB 0 l).sum, .int (pairI (rowB 0 l))]), .v (.list [.int (pairI (rowB 0 l)), .int (rowB 0 l).sum, .int (rowB 0 l).sum, .int (pairI (rowB 0 l))])] = some (.pu (.bool true), []) := by
    have := lk_ints [pairI (rowB 0 l), (rowB 0 l).sum, (rowB 0 l).sum, pairI (rowB 0 l)] (by simp)
    exact this
  have b1 := e_law_bounces (sw l) (by omega) (climb hs)
  have hst := sw_steps h
  have o2 : (2 : Nat) ≤ lineN := line_le (by omega)
  have o4 : (4 : Nat) ≤ lineN := line_le (by omega)
  have s1 := steps2_lc (.str (pS l)) (.list [.int (pairI (rowB 0 l)), .int (rowB 0 l).sum, .int (rowB 0 l).sum, .int (pairI (rowB 0 l))]) (.str (pS (sw l))) (bncAll (sw l)) (rowB 0 l) (by have := bncAll_len hs; omega)
  have hn1 : (stepsI (bncAll (sw l))).map PyData.int = natsD (cnts (rowB 0 l) 0 (topN (rowB 0 l))) := by
    rw [hst, List.map_map]; rfl
  rw [hn1] at s1
  have s2 := cnts_lc (.str (pS l)) (.list [.int (pairI (rowB 0 l)), .int (rowB 0 l).sum, .int (rowB 0 l).sum, .int (pairI (rowB 0 l))]) (.list ((bncAll (sw l)).map .int)) (.str (pS (sw l))) (rowB 0 l) (by omega) (by omega)
  have w1 := e_unswept_path h hn
  have w2 := e_law_is_path (pS (un l)) (by rw [pS_len]; omega)
  rw [huf] at w2
  have w3 := e_law_swept hu hn
  rw [hus] at w3
  have w4 := e_bounces_of l (by omega) hf (climb h)
  have w5 := e_law_bounces l (by omega) (climb h)
  have hbl := bncAll_len h
  have ft : fTuple [.list ((bncAll l).map .int)] = some (.tuple ((bncAll l).map .int)) := rfl
  have l3 := lk_tup (bncAll l) (by omega)
  have n3 := ne_self (.str (pS l)) rfl (by simp [PyData.depth])
  have v1 := e_area_of_path (un l) (by omega) huf
  have v2 := e_pair_weight (un l) (by omega) huf
  have v3 := e_bounce_weight l (by omega) hf (climb h) (by omega)
  have k1 := sw_bounce hu
  rw [hus] at k1
  rw [k1] at v3
  have k2 := sw_area hu
  rw [hus] at k2
  rw [← k2] at v2
  have l4 := lk2 (.int (rowB 0 (un l)).sum) (.int (rowB 0 l).sum) (nr_int _) (nr_int _) (dp_int' _) (dp_int' _)
  have e0 : b__law_right [.pu (.str (pS l)), .non, .non, .non, .non, .non, .non, .non, .non] = some (.rt (.pu (.bool true))
      [.pu (.str (pS l)), .pu (.list [.int (pairI (rowB 0 l)), .int (rowB 0 l).sum, .int (rowB 0 l).sum, .int (pairI (rowB 0 l))]), .pu (.list ((bncAll (sw l)).map .int)), .pu (.str (pS (un l))), .pu (.list ((rowB 0 l).map .int)), .pu (.str (pS (sw l))), .non, .non, .non]) := by
    unfold b__law_right
    refine (sSeq_nx (sTgt_pu (cTup_args (args_nw (cCall_args (args_pu rfl args_nil) x1) (args_pu (cCall_args (args_pu rfl args_nil) x2) args_nil)) o2) rfl)).trans ?_
    refine (sSeq_nx ((sIf_f (tOr_ff (not_f (cCall_args (args_pu rfl args_nil) y1)) (not_f (like_run (cLst_args (args_pu (cCall_args (args_pu rfl args_nil) y2) (args_pu (cCall_args (args_pu rfl args_nil) y3) args_nil)) o2) rfl (cLst_args (args_pu rfl (args_pu rfl args_nil)) o2) rfl l1)))).trans rfl)).trans ?_
    refine (sSeq_nx (sAsg_nw (i := 1) (cLst_args (args_pu (cCall_args (args_pu rfl args_nil) z1) (args_pu (cCall_args (args_pu rfl args_nil) z2) (args_pu (cCall_args (args_pu rfl args_nil) z3) (args_pu (cCall_args (args_pu rfl args_nil) z4) args_nil)))) o4) rfl)).trans ?_
    refine (guard (like_run rfl rfl (cLst_args (args_pu (cCall_args (args_pu rfl args_nil) z5) (args_pu (cOpA_args (args_pu rfl args_nil) fs) (args_pu (cOpA_args (args_pu rfl args_nil) fs) (args_pu (cCall_args (args_pu rfl args_nil) z5) args_nil)))) o4) rfl l2)).trans ?_
    refine (sSeq_nx (sAsg_nw (i := 2) (cCall_args (args_pu rfl args_nil) b1) rfl)).trans ?_
    refine (sSeq_nx ((sIf_f (tBl_eq (cOp2_ll s1 s2 (ne_nats _)))).trans rfl)).trans ?_
    refine (sSeq_nx (sAsg_pu (i := 3) (cCall_args (args_pu rfl args_nil) w1) rfl)).trans ?_
    refine (sSeq_nx ((sIf_f (tOr_ff (not_f (cCall_args (args_pu rfl args_nil) w2)) (tOr_ff (tBl_eq (cOp2_pu (cCall_args (args_pu rfl args_nil) w3) rfl n3)) (not_f (like_run (cCall_args (args_pu rfl args_nil) w4) rfl (cOpA_nw (cCall_args (args_pu rfl args_nil) w5) ft) rfl l3))))).trans rfl)).trans ?_
    exact sRet_eq (like_run (cLst_args (args_pu (cCall_args (args_pu rfl args_nil) v1) (args_pu (cCall_args (args_pu rfl args_nil) v2) args_nil)) o2) rfl (cLst_args (args_pu (cCall_args (args_pu rfl args_nil) v3) (args_pu (cCall_args (args_pu rfl args_nil) z3) args_nil)) o2) rfl l4)
  exact run_rt rfl rfl e0 rfl
/-! ### all paths of a small size -/
def dec : D → List Bool
  | .str z => z.cps.toList.map fun c => c == 117
  | _ => []
theorem dec_str (l : List Bool) : dec (strD l) = l := by
  show (pS l).cps.toList.map _ = l
  rw [pS_list, List.map_map]
  have : ((fun c => c == 117) ∘ bc) = id := by
    funext b
    cases b <;> rfl
  rw [this, List.map_id]
theorem lc4 (c : D) (s1 s2 s3 : Sl) (i : Nat) (f : FE) (xs : List (List Bool)) (F : List Bool → D) (hit : iE (cVar i) [.io c, s1, s2, s3, .non, .non, .non] = some (xs.map strD, [.io c, s1, s2, s3, .non, .non, .non]))
    (hf : ∀ l ∈ xs, ∃ r, f [.io c, s1, s2, s3, .pu (strD l), .non, .non] = some (r, [.io c, s1, s2, s3, .pu (strD l), .non, .non]) ∧ stl r = .pu (F l)) (hz : xs.length ≤ 10000) :
    cLc [4] (iE (cVar i)) (gN 4) tYes f [.io c, s1, s2, s3, .non, .non, .non] = some (.nw (.list (xs.map F)), [.io c, s1, s2, s3, .non, .non, .non]) := by
  have h := cLc_eq (vs := [4]) (it := iE (cVar i)) (g := gN 4) (t := tYes) (f := f) (ρ := [.io c, s1, s2, s3, .non, .non, .non]) (ds := xs.map strD)
    (fun x => [.io c, s1, s2, s3, .pu x, .non, .non]) (fun _ => true) (fun x => F (dec x)) hit rfl (fun x hx => by
      obtain ⟨l, hl, rfl⟩ := List.mem_map.mp hx
      obtain ⟨r, q1, q2⟩ := hf l hl
      refine ⟨rfl, rfl, rfl, fun _ => ⟨r, q1, ?_⟩⟩
      rw [dec_str]; exact q2) (line_le (by simp; omega))
  rw [filter_yes, List.map_map] at h
  have e : xs.map ((fun x => F (dec x)) ∘ strD) = xs.map F := List.map_congr_left fun l _ => by simp only [Function.comp, dec_str]
  rw [e] at h
  exact h
theorem pathsA_dyck : ∀ n : Nat, n < 7 → ∀ l ∈ pathsA n, isDyck n l = true := by decide +kernel
def swS (n : Nat) : List D := (pathsA n).map fun l => strD (sw l)
def prsA (n : Nat) : List D := (pathsA n).map fun l => .tuple [.int (pairI (rowB 0 l)), .int (rowB 0 l).sum]
def prsB (n : Nat) : List D := (pathsA n).map fun l => .tuple [.int (rowB 0 l).sum, .int (((bncAll l).tail.map fun o => lastI (bncAll l) - o).sum)]
def swp : D → D
  | .tuple [a, b] => .tuple [b, a]
  | d => d
def isPr : D → Bool
  | .tuple [.int _, .int _] => true
  | _ => false
theorem st0 : fSortG [.list (swS 0)] = some (.list ((pathsA 0).map strD)) := by kernel_rfl
theorem st1 : fSortG [.list (swS 1)] = some (.list ((pathsA 1).map strD)) := by kernel_rfl
theorem st2 : fSortG [.list (swS 2)] = some (.list ((pathsA 2).map strD)) := by kernel_rfl
theorem st3 : fSortG [.list (swS 3)] = some (.list ((pathsA 3).map strD)) := by kernel_rfl
theorem st4 : fSortG [.list (swS 4)] = some (.list ((pathsA 4).map strD)) := by kernel_rfl
theorem st5 : fSortG [.list (swS 5)] = some (.list ((pathsA 5).map strD)) := by kernel_rfl
theorem st6 : fSortG [.list (swS 6)] = some (.list ((pathsA 6).map strD)) := by kernel_rfl
theorem sort_sw (n : Nat) (h : n ≤ 6) : fSortG [.list (swS n)] = some (.list ((pathsA n).map strD)) := by
  match n, h with
  | 0, _ => exact st0
  | 1, _ => exact st1
  | 2, _ => exact st2
  | 3, _ => exact st3
  | 4, _ => exact st4
  | 5, _ => exact st5
  | 6, _ => exact st6
def PrsOk (n : Nat) : Prop := fSortG [.list (prsA n)] = some (.list (srtD (prsA n))) ∧ fSortG [.list (prsB n)] = some (.list (srtD (prsB n))) ∧ fSortG [.list ((srtD (prsA n)).map swp)] = some (.list (srtD ((srtD (prsA n)).map swp))) ∧
  (srtD (prsA n)).all isPr = true ∧ opNe (.list (srtD (prsA n))) (.list (srtD (prsB n))) = some (.bool false) ∧ opEq (.list (srtD (prsA n))) (.list (srtD ((srtD (prsA n)).map swp))) = some (.bool true) ∧ (srtD (prsA n)).length ≤ 1000
theorem pk0 : PrsOk 0 := ⟨by kernel_rfl, by kernel_rfl, by kernel_rfl, by kernel_rfl, by kernel_rfl, by kernel_rfl, by decide +kernel⟩
theorem pk1 : PrsOk 1 := ⟨by kernel_rfl, by kernel_rfl, by kernel_rfl, by kernel_rfl, by kernel_rfl, by kernel_rfl, by decide +kernel⟩
theorem pk2 : PrsOk 2 := ⟨by kernel_rfl, by kernel_rfl, by kernel_rfl, by kernel_rfl, by kernel_rfl, by kernel_rfl, by decide +kernel⟩
theorem pk3 : PrsOk 3 := ⟨by kernel_rfl, by kernel_rfl, by kernel_rfl, by kernel_rfl, by kernel_rfl, by kernel_rfl, by decide +kernel⟩
theorem pk4 : PrsOk 4 := ⟨by kernel_rfl, by kernel_rfl, by kernel_rfl, by kernel_rfl, by kernel_rfl, by kernel_rfl, by decide +kernel⟩
theorem pk5 : PrsOk 5 := ⟨by kernel_rfl, by kernel_rfl, by kernel_rfl, by kernel_rfl, by kernel_rfl, by kernel_rfl, by decide +kernel⟩
theorem pk6 : PrsOk 6 := ⟨by kernel_rfl, by kernel_rfl, by kernel_rfl, by kernel_rfl, by kernel_rfl, by kernel_rfl, by decide +kernel⟩
theorem prs_ok (n : Nat) (h : n ≤ 6) : PrsOk n := by
  match n, h with
  | 0, _ => exact pk0
  | 1, _ => exact pk1
  | 2, _ => exact pk2
  | 3, _ => exact pk3
  | 4, _ => exact pk4
  | 5, _ => exact pk5
  | 6, _ => exact pk6
theorem swap_lc (c ev sv : D) (P : List D) (hp : P.all isPr = true) (hz : P.length ≤ 1000) : cLc [5, 6] (iE (cVar 3)) (gT ((gN 5) :: ((gN 6) :: []))) tYes (cTup (aCons (cVar 6) (aCons (cVar 5) aNil))) [.io c, .pu ev, .pu sv, .pu (.list P), .non, .non, .non] =
    some (.nw (.list (P.map swp)), [.io c, .pu ev, .pu sv, .pu (.list P), .non, .non, .non]) := by
  have o2 : (2 : Nat) ≤ lineN := line_le (by omega)
  have h := cLc_eq (vs := [5, 6]) (it := iE (cVar 3)) (g := gT ((gN 5) :: ((gN 6) :: []))) (t := tYes) (f := cTup (aCons (cVar 6) (aCons (cVar 5) aNil)))
    (ρ := [.io c, .pu ev, .pu sv, .pu (.list P), .non, .non, .non]) (ds := P) (fun x => match x with | .tuple [a, b] => [.io c, .pu ev, .pu sv, .pu (.list P), .non, .pu a, .pu b] | _ => []) (fun _ => true) swp
    (iE_pu rfl rfl) rfl (fun x hx => by
      have hq := List.all_eq_true.mp hp x hx
      unfold isPr at hq
      split at hq
      · exact ⟨rfl, rfl, rfl, fun _ => ⟨_, cTup_args (args_pu rfl (args_pu rfl args_nil)) o2, rfl⟩⟩
      · cases hq) (line_le (by omega))
  rw [filter_yes] at h
  exact h
theorem e_law_all_right (a b : Int) (h : CupOk a b) : ∃ a' b', CupOk a' b' ∧ m__law_all_right [.m (cupD a b)] = some (.pu (.bool true), [cupD a' b']) := by
  obtain ⟨r, a', b', e, r0, r1, hc⟩ := e_roll a b 7 h (by decide) (by decide)
  obtain ⟨n, rfl⟩ : ∃ n : Nat, r = n := ⟨r.toNat, by omega⟩
  have hn : n ≤ 6 := by omega
  refine ⟨a', b', hc, ?_⟩
  have hd : ∀ l ∈ pathsA n, Dyck l n := fun l hl => isDyck_iff.mp (pathsA_dyck n (by omega) l hl)
  have hlen : (pathsA n).length ≤ 10000 := by
    have := (pathsN_len n (2 * n)).1
    have hp : 2 ^ (2 * n) ≤ 2 ^ 12 := Nat.pow_le_pow_right (by omega) (by omega)
    show (pathsN n (2 * n)).length ≤ _
    omega
  have hfp : ∀ l ∈ pathsA n, l.length ≤ 500 ∧ fitsS (pS l) = true ∧ Climb (hgtB 0 l) ∧ (bncAll l).length ≤ 1000 := fun l hl => by
    have := dyck_len (hd l hl)
    have := bncAll_len (hd l hl)
    exact ⟨by omega, fits_dyck (hd l hl) (by omega), climb (hd l hl), by omega⟩
  have o2 : (2 : Nat) ≤ lineN := line_le (by omega)
  have ap := e_all_paths n hn
  obtain ⟨p1, p2, p3, p4, p5, p6, p7⟩ := prs_ok n hn
  generalize hc' : cupD a' b' = c at e
  have c1 := lc4 c (.pu (.list ((pathsA n).map strD))) .non .non 1 (cCall m_swept_path (aCons (cVar 4) aNil)) (pathsA n) (fun l => strD (sw l)) (iE_pu rfl rfl) (fun l hl => ⟨_, cCall_args (args_pu rfl args_nil) (e_swept_path (hd l hl) (by omega)), rfl⟩) hlen
  have c2 := lc4 c (.pu (.list ((pathsA n).map strD))) (.pu (.list (swS n))) .non 2 (cCall m_unswept_path (aCons (cVar 4) aNil)) ((pathsA n).map sw) (fun l => strD (un l)) (iE_pu rfl (by unfold swS; rw [List.map_map]; rfl)) (fun l hl => by
    obtain ⟨m, hm, rfl⟩ := List.mem_map.mp hl
    exact ⟨_, cCall_args (args_pu rfl args_nil) (e_unswept_path (sw_dyck (hd m hm)) (by omega)), rfl⟩) (by simpa using hlen)
  have e2 : ((pathsA n).map sw).map (fun l => strD (un l)) = (pathsA n).map strD := by
    rw [List.map_map]
    refine List.map_congr_left fun l hl => ?_
    simp only [Function.comp, un_of_sw (hd l hl)]
  rw [e2] at c2
  have c3 := lc4 c (.pu (.list ((pathsA n).map strD))) (.pu (.list (swS n))) .non 1 (cTup (aCons (cCall m_pair_weight (aCons (cVar 4) aNil)) (aCons (cCall m_area_of_path (aCons (cVar 4) aNil)) aNil))) (pathsA n) (fun l => .tuple [.int (pairI (rowB 0 l)), .int (rowB 0 l).sum]) (iE_pu rfl rfl) (fun l hl => by
    obtain ⟨q1, q2, q3, q4⟩ := hfp l hl
    exact ⟨_, cTup_args (args_pu (cCall_args (args_pu rfl args_nil) (e_pair_weight l q1 q2)) (args_pu (cCall_args (args_pu rfl args_nil) (e_area_of_path l q1 q2)) args_nil)) o2, rfl⟩) hlen
  have c4 := lc4 c (.pu (.list ((pathsA n).map strD))) (.pu (.list (swS n))) (.pu (.list (srtD (prsA n)))) 1 (cTup (aCons (cCall m_area_of_path (aCons (cVar 4) aNil)) (aCons (cCall m_bounce_weight (aCons (cVar 4) aNil)) aNil))) (pathsA n) (fun l => .tuple [.int (rowB 0 l).sum, .int (((bncAll l).tail.map fun o => lastI (bncAll l) - o).sum)]) (iE_pu rfl rfl) (fun l hl => by
    obtain ⟨q1, q2, q3, q4⟩ := hfp l hl
    exact ⟨_, cTup_args (args_pu (cCall_args (args_pu rfl args_nil) (e_area_of_path l q1 q2)) (args_pu (cCall_args (args_pu rfl args_nil) (e_bounce_weight l q1 q2 q3 q4)) args_nil)) o2, rfl⟩) hlen
  have c5 := swap_lc c (.list ((pathsA n).map strD)) (.list (swS n)) (srtD (prsA n)) p4 p7
  have ss := sort_sw n hn
  have pstr : PyData.plainAll ((pathsA n).map strD) = true ∧ PyData.depthAll ((pathsA n).map strD) = 0 := by
    generalize pathsA n = xs
    induction xs with
    | nil => exact ⟨rfl, rfl⟩
    | cons l xs ih =>
      refine ⟨?_, ?_⟩
      · show (PyData.plain (strD l) && PyData.plainAll (xs.map strD)) = true
        rw [ih.1]; rfl
      · show max (PyData.depth (strD l)) (PyData.depthAll (xs.map strD)) = 0
        rw [ih.2]; rfl
  have nn := ne_self (.list ((pathsA n).map strD)) pstr.1 (by simp only [PyData.depth, pstr.2]; omega)
  have e0 : b__law_all_right [.io (cupD a b), .non, .non, .non, .non, .non, .non] = some (.rt (.pu (.bool true)) [.io c, .pu (.list ((pathsA n).map strD)), .pu (.list (swS n)), .pu (.list (srtD (prsA n))), .non, .non, .non]) := by
    unfold b__law_all_right
    refine (sSeq_nx (sAsg_pu (i := 1) (cCall_args (args_pu (cCall_io rfl (args_pu rfl args_nil) rfl e rfl) args_nil) ap) rfl)).trans ?_
    refine (sSeq_nx (sAsg_nw (i := 2) c1 rfl)).trans ?_
    refine (sSeq_nx ((sIf_f (tOr_ff (tBl_eq (cOp2_lp (cOpAn_args' (args_pu rfl args_nil) ss) rfl nn)) (tBl_eq (cOp2_lp c2 rfl nn)))).trans rfl)).trans ?_
    refine (sSeq_nx (sAsg_nw (i := 3) (cOpAn_args' (args_nw c3 args_nil) p1) rfl)).trans ?_
    refine (sSeq_nx ((sIf_f (tBl_eq (cOp2_pl rfl (cOpAn_args' (args_nw c4 args_nil) p2) p5))).trans rfl)).trans ?_
    exact sRet_eq (cOp2_pl rfl (cOpAn_args' (args_nw c5 args_nil) p3) p6)
  exact run_rt rfl rfl e0 rfl
end PL

/-! k84, 8: _law_high_path, the law. -/
namespace PL
open PySem PySem.Spec PyProof.Rows L2
def bdHi : FS := (sSeq (sAsg 5 (cAnd (cOp2 opLt (cVar 3) (cVar 1)) (cOr (cOp2 opEq (cVar 3) (cVar 4)) (cOp2 opGt (cCall m__law_roll (aCons (cVar 0) (aCons (cC (.int 4)) aNil))) (cC (.int 0))))))
  (sParA [2, 3, 4] (aCons (cOp2n opAdd (cVar 2) (cIf (tTru' (cVar 5)) (cC (.str (Str.ofString "u"))) (cC (.str (Str.ofString "r"))))) (aCons (cOp2n opAdd (cVar 3) (cIf (tTru' (cVar 5)) (cC (.int 1)) (cC (.int 0)))) (aCons (cOp2n opAdd (cVar 4) (cIf (tTru' (cVar 5)) (cC (.int 0)) (cC (.int 1)))) aNil)))))
theorem hi_body (a b : Int) (n u d : Nat) (f : List Bool) (s : Sl) (hs : plainS (some s) = true) (hc : CupOk a b) (hf : f.length ≤ 1000) (hdu : d ≤ u) (hun : u ≤ n) (hdn : d < n) : ∃ a' b' up, CupOk a' b' ∧ (up = true → u < n) ∧ (up = false → d < u) ∧
    bdHi [.io (cupD a b), .pu (.int (n : Nat)), .pu (.str (pS f)), .pu (.int (u : Nat)), .pu (.int (d : Nat)), s] =
      some (.nx [.io (cupD a' b'), .pu (.int (n : Nat)), .pu (.str (pS (f ++ [up]))), .pu (.int ((u + (if up = true then 1 else 0) : Nat) : Int)), .pu (.int ((d + (if up = true then 0 else 1) : Nat) : Int)), .pu (.bool up)]) := by
  have fin : ∀ (a' b' : Int) (up : Bool), sParA [2, 3, 4] (aCons (cOp2n opAdd (cVar 2) (cIf (tTru' (cVar 5)) (cC (.str (Str.ofString "u"))) (cC (.str (Str.ofString "r"))))) (aCons (cOp2n opAdd (cVar 3) (cIf (tTru' (cVar 5)) (cC (.int 1)) (cC (.int 0)))) (aCons (cOp2n opAdd (cVar 4) (cIf (tTru' (cVar 5)) (cC (.int 0)) (cC (.int 1)))) aNil)))
      [.io (cupD a' b'), .pu (.int (n : Nat)), .pu (.str (pS f)), .pu (.int (u : Nat)), .pu (.int (d : Nat)), .pu (.bool up)] =
      some (.nx [.io (cupD a' b'), .pu (.int (n : Nat)), .pu (.str (pS (f ++ [up]))), .pu (.int ((u + (if up = true then 1 else 0) : Nat) : Int)), .pu (.int ((d + (if up = true then 0 else 1) : Nat) : Int)), .pu (.bool up)]) := fun a' b' up => by
    have a1 := add_pS f [up] (by simp; omega)
    have u1 : opAdd (.int (u : Nat)) (.int 1) = some (.int ((u + 1 : Nat) : Int)) := rfl
    have u0 : opAdd (.int (u : Nat)) (.int 0) = some (.int ((u + 0 : Nat) : Int)) := rfl
    have d1 : opAdd (.int (d : Nat)) (.int 1) = some (.int ((d + 1 : Nat) : Int)) := rfl
    have d0 : opAdd (.int (d : Nat)) (.int 0) = some (.int ((d + 0 : Nat) : Int)) := rfl
    cases up with
    | true =>
      rw [pS_u, ← s_u] at a1
      exact sParA_args (args_pu (cOp2n_pu' rfl (cIf_t (tTru_b rfl)) a1) (args_pu (cOp2n_pu' rfl (cIf_t (tTru_b rfl)) u1) (args_pu (cOp2n_pu' rfl (cIf_t (tTru_b rfl)) d0) args_nil))) rfl
    | false =>
      rw [pS_r, ← s_r] at a1
      exact sParA_args (args_pu (cOp2n_pu' rfl (cIf_f (tTru_b rfl)) a1) (args_pu (cOp2n_pu' rfl (cIf_f (tTru_b rfl)) u0) (args_pu (cOp2n_pu' rfl (cIf_f (tTru_b rfl)) d1) args_nil))) rfl
  have l1 : opLt (.int (u : Nat)) (.int (n : Nat)) = some (.bool (decide (((u : Nat) : Int) < (n : Nat)))) := rfl
  have q1 := opEq_int (u : Nat) (d : Nat)
  by_cases hu : u < n
  · rw [decide_eq_true (by omega)] at l1
    by_cases he : u = d
    · have q1' : opEq (.int (u : Nat)) (.int (d : Nat)) = some (.bool true) := by rw [q1]; simp [he]
      refine ⟨a, b, true, hc, fun _ => hu, fun z => (by cases z), ?_⟩
      unfold bdHi
      refine (sSeq_nx (ρ' := [.io (cupD a b), .pu (.int (n : Nat)), .pu (.str (pS f)), .pu (.int (u : Nat)), .pu (.int (d : Nat)), .pu (.bool true)]) (sAsg_pu (i := 5) (cAnd_t (cOp2_pu rfl rfl l1) (cOr_t (cOp2_pu rfl rfl q1'))) (by cases s <;> simp [plainS] at hs <;> rfl))).trans ?_
      exact fin a b true
    · have q1' : opEq (.int (u : Nat)) (.int (d : Nat)) = some (.bool false) := by rw [q1]; simp; omega
      obtain ⟨r, a', b', e, _, _, hc'⟩ := e_roll a b 4 hc (by decide) (by decide)
      refine ⟨a', b', decide (0 < r), hc', fun _ => hu, fun _ => (by omega), ?_⟩
      have q2 : opGt (.int r) (.int 0) = some (.bool (decide (0 < r))) := rfl
      unfold bdHi
      refine (sSeq_nx (ρ' := [.io (cupD a' b'), .pu (.int (n : Nat)), .pu (.str (pS f)), .pu (.int (u : Nat)), .pu (.int (d : Nat)), .pu (.bool (decide (0 < r)))]) (sAsg_pu (i := 5) (ρ1 := [.io (cupD a' b'), .pu (.int (n : Nat)), .pu (.str (pS f)), .pu (.int (u : Nat)), .pu (.int (d : Nat)), s]) (cAnd_t (cOp2_pu rfl rfl l1) (cOr_f (cOp2_pu rfl rfl q1') (cOp2_pu (cCall_io rfl (args_pu rfl args_nil) rfl e rfl) rfl q2))) (by cases s <;> simp [plainS] at hs <;> rfl))).trans ?_
      exact fin a' b' (decide (0 < r))
  · rw [decide_eq_false (by omega)] at l1
    refine ⟨a, b, false, hc, fun z => (by cases z), fun _ => (by omega), ?_⟩
    unfold bdHi
    refine (sSeq_nx (ρ' := [.io (cupD a b), .pu (.int (n : Nat)), .pu (.str (pS f)), .pu (.int (u : Nat)), .pu (.int (d : Nat)), .pu (.bool false)]) (sAsg_pu (i := 5) (cAnd_f (cOp2_pu rfl rfl l1)) (by cases s <;> simp [plainS] at hs <;> rfl))).trans ?_
    exact fin a b false
theorem hi_go (n : Nat) (hn : n ≤ 100) : ∀ (m F : Nat) (a b : Int) (u d : Nat) (f : List Bool) (s : Sl), plainS (some s) = true → CupOk a b → d ≤ u → u ≤ n → okN 0 (f.map bc) = some ((u : Int) - d) → f.count true = u → f.count false = d → (n - u) + (n - d) ≤ m → m < F →
    ∃ a' b' l s' , CupOk a' b' ∧ Dyck l n ∧ whileGo tsPath bdHi F [.io (cupD a b), .pu (.int (n : Nat)), .pu (.str (pS f)), .pu (.int (u : Nat)), .pu (.int (d : Nat)), s] =
      some (.nx [.io (cupD a' b'), .pu (.int (n : Nat)), .pu (.str (pS l)), .pu (.int (n : Nat)), .pu (.int (n : Nat)), s'])
  | m, 0, _, _, _, _, _, _, _, _, _, _, _, _, _, _, hF => absurd hF (Nat.not_lt_zero _)
  | m, F + 1, a, b, u, d, f, s, hs, hc, hdu, hun, hok, hct, hcf, hm, hF => by
    have test : tsPath [.io (cupD a b), .pu (.int (n : Nat)), .pu (.str (pS f)), .pu (.int (u : Nat)), .pu (.int (d : Nat)), s] = some (decide (d < n), [.io (cupD a b), .pu (.int (n : Nat)), .pu (.str (pS f)), .pu (.int (u : Nat)), .pu (.int (d : Nat)), s]) := by
      simp [tsPath, tBl, cOp2, cVar, opLt, onInts]
    unfold whileGo
    rw [test]
    simp only [Option.bind_some]
    by_cases hd : d < n
    · rw [decide_eq_true hd, if_pos rfl]
      have hlen : f.length ≤ 1000 := by
        have := cnt_tf f
        omega
      obtain ⟨a', b', up, hc', h1, h2, e⟩ := hi_body a b n u d f s hs hc hlen hdu hun hd
      rw [e]
      show ∃ a' b' l s', _ ∧ _ ∧ whileGo tsPath bdHi F _ = _
      cases up with
      | true =>
        have hu := h1 rfl
        refine hi_go n hn (m - 1) F a' b' (u + 1) d (f ++ [true]) (.pu (.bool true)) rfl hc' (by omega) (by omega) ?_ (by simp [hct]) (by simp [hcf]) (by omega) (by omega)
        rw [List.map_append]
        have : ([true].map bc) = [117] := rfl
        rw [this, okN_snoc, hok]
        simp
        omega
      | false =>
        have hu := h2 rfl
        refine hi_go n hn (m - 1) F a' b' u (d + 1) (f ++ [false]) (.pu (.bool false)) rfl hc' (by omega) (by omega) ?_ (by simp [hct]) (by simp [hcf]) (by omega) (by omega)
        rw [List.map_append]
        have : ([false].map bc) = [114] := rfl
        rw [this, okN_snoc, hok]
        simp
        omega
    · rw [decide_eq_false hd]
      have ed : d = n := by omega
      have eu : u = n := by omega
      subst ed
      subst eu
      refine ⟨a, b, f, s, hc, ⟨by rw [hok]; simp, hct, hcf⟩, ?_⟩
      simp
theorem e_high (a b : Int) (n : Nat) (hc : CupOk a b) (hn : n ≤ 100) : ∃ a' b' l, CupOk a' b' ∧ Dyck l n ∧ m__law_high_path [.m (cupD a b), .v (.int (n : Nat))] = some (.pu (.str (pS l)), [cupD a' b']) := by
  obtain ⟨a', b', l, s', h1, h2, g⟩ := hi_go n hn (n + n) fuelN a b 0 0 [] .non rfl hc (Nat.le_refl _) (Nat.zero_le _) rfl rfl rfl (by omega) (by unfold fuelN; omega)
  refine ⟨a', b', l, h1, h2, ?_⟩
  have o3 : (3 : Nat) ≤ lineN := line_le (by omega)
  have e0 : b__law_high_path [.io (cupD a b), .pu (.int (n : Nat)), .non, .non, .non, .non] = some (.rt (.pu (.str (pS l))) [.io (cupD a' b'), .pu (.int (n : Nat)), .pu (.str (pS l)), .pu (.int (n : Nat)), .pu (.int (n : Nat)), s']) := by
    unfold b__law_high_path
    rw [s_e]
    refine (sSeq_nx (sTgt_pu (cTup_args (args_pu rfl (args_pu rfl (args_pu rfl args_nil))) o3) rfl)).trans ?_
    refine (sSeq_nx (ρ' := [.io (cupD a' b'), .pu (.int (n : Nat)), .pu (.str (pS l)), .pu (.int (n : Nat)), .pu (.int (n : Nat)), s']) ?_).trans ?_
    · exact g
    · rfl
  exact run_rt rfl rfl e0 rfl
/-! ### teeth -/
def teeth (m h : Nat) : List Bool := (List.replicate m (List.replicate h true ++ List.replicate h false)).flatten
def teethRow (m h : Nat) : List Int := (List.replicate m ((List.range h).map fun k => ((k : Nat) : Int))).flatten
def chkT (m h : Nat) : Bool := isDyck (m * h) (teeth m h) && decide (rowB 0 (teeth m h) = teethRow m h) && decide (bncAll (teeth m h) = (List.range (m + 1)).map fun k => (0 : Int) + ((k : Nat) : Int) * (h : Nat)) &&
  rgCB 0 (((h * m + 1 : Nat) : Int)) (h : Nat) && decide ((Builtin.Range.rangeSize 0 (((h * m + 1 : Nat) : Int)) (h : Nat)).toNat = m + 1)
theorem chkT_all : ∀ m : Nat, m < 6 → ∀ h : Nat, h < 7 → 0 < m → 0 < h → chkT m h = true := by decide +kernel
theorem cLstRg1_eq {a : FE} {ρ ρ1 : Rho} {j : Int} (h : a ρ = some (.pu (.int j), ρ1)) (hs : rgOkB 0 j = true) : cLstRg1 a ρ = some (.nw (.list (intsD 0 j.toNat)), ρ1) := by
  unfold cLstRg1
  rw [h, Option.bind_some]
  show (if rgOkB 0 j = true then _ else none) = _
  rw [if_pos hs]
theorem cTupRg3_eq {as : FA} {ρ ρ1 : Rho} {i j c : Int} (h : Args as ρ [.int i, .int j, .int c] ρ1) (hs : rgCB i j c = true) : cTupRg3 as ρ = some (.pu (.tuple (intsC i c (Builtin.Range.rangeSize i j c).toNat)), ρ1) := by
  have h' : as ρ = some (([.int i, .int j, .int c] : List D).map .pu, ρ1) := h
  unfold cTupRg3
  rw [h', Option.bind_some]
  show (conts ρ1 (([.int i, .int j, .int c] : List D).map .pu)).bind _ = _
  rw [conts_pus, Option.bind_some]
  show (if rgCB i j c = true then _ else none) = _
  rw [if_pos hs]
theorem law_loop (scr : D) (ds : List D) (ρ : Rho) (h : PRest scr ds ρ) : ∃ ρ', forGo (gN 2) (sIf (tNot (tTru' (cCall m__law_right (aCons (cCall m__law_path (aCons (cVar 1) (aCons (cVar 2) aNil))) aNil)))) (sRet (cC (.bool false))) sPass) ds ρ = some (.nx ρ') ∧ PRest scr [] ρ' := by
  refine forGo_P (PRest scr) (fun x ds ρ h => ?_) ds ρ h
  obtain ⟨hd, a, b, s, hc, hs, rfl⟩ := h
  obtain ⟨n, hn, rfl⟩ := hd x List.mem_cons_self
  obtain ⟨a1, b1, l, h1, hl, e1⟩ := e_draw a b n hc (by omega)
  have e2 := e_law_right hl hn
  refine ⟨[.pu scr, .own (cupD a b), .pu (.int (n : Nat)), .non, .non, .non, .non], [.pu scr, .own (cupD a1 b1), .pu (.int (n : Nat)), .non, .non, .non, .non], ?_, .inl ?_, fun d hd' => hd d (List.mem_cons_of_mem _ hd'), a1, b1, _, h1, rfl, rfl⟩
  · cases s <;> simp [plainS] at hs <;> rfl
  · refine (sIf_f (not_f (cCall_args (args_pu (cCall_io rfl (args_pu rfl args_nil) rfl e1 rfl) args_nil) e2))).trans ?_
    rfl
theorem law_true (ns : List Int) (hz : ns.length ≤ 63) : m_law [.v (.list (ns.map .int))] = some (.pu (.bool true), []) := by
  obtain ⟨a, b, ec, hc⟩ := e_cup ns (by omega)
  obtain ⟨r1, a1, b1, e1, p1, q1, h1⟩ := e_roll a b 4 hc (by decide) (by decide)
  obtain ⟨r2, a2, b2, e2, p2, q2, h2⟩ := e_roll a1 b1 9 h1 (by decide) (by decide)
  obtain ⟨r3, a3, b3, e3, p3, q3, h3⟩ := e_roll a2 b2 20 h2 (by decide) (by decide)
  obtain ⟨r4, a4, b4, e4, p4, q4, h4⟩ := e_roll a3 b3 31 h3 (by decide) (by decide)
  obtain ⟨r5, a5, b5, e5, p5, q5, h5⟩ := e_roll a4 b4 6 h4 (by decide) (by decide)
  have o5 : (5 : Nat) ≤ lineN := line_le (by omega)
  have o3 : (3 : Nat) ≤ lineN := line_le (by omega)
  have ad : opAdd (.int 25) (.int r5) = some (.int (25 + r5)) := rfl
  obtain ⟨ρ1, el, _, a6, b6, s6, h6, hs6, rfl⟩ := law_loop (.list (ns.map .int)) [.int r1, .int r2, .int r3, .int r4, .int (25 + r5)] [.pu (.list (ns.map .int)), .own (cupD a5 b5), .non, .non, .non, .non, .non]
    ⟨fun d hd => by
      simp only [List.mem_cons, List.not_mem_nil, or_false] at hd
      rcases hd with rfl | rfl | rfl | rfl | rfl
      · exact ⟨r1.toNat, by omega, by rw [Int.toNat_of_nonneg p1]⟩
      · exact ⟨r2.toNat, by omega, by rw [Int.toNat_of_nonneg p2]⟩
      · exact ⟨r3.toNat, by omega, by rw [Int.toNat_of_nonneg p3]⟩
      · exact ⟨r4.toNat, by omega, by rw [Int.toNat_of_nonneg p4]⟩
      · exact ⟨(25 + r5).toNat, by omega, by rw [Int.toNat_of_nonneg (by omega)]⟩, a5, b5, .non, h5, rfl, rfl⟩
  obtain ⟨a7, b7, h7, e7⟩ := e_law_all_right a6 b6 h6
  obtain ⟨r8, a8, b8, e8, p8, q8, h8⟩ := e_roll a7 b7 11 h7 (by decide) (by decide)
  have ad8 : opAdd (.int 20) (.int r8) = some (.int ((20 + r8.toNat : Nat) : Int)) := by
    show some (PyData.int _) = _
    congr 2
    omega
  obtain ⟨a9, b9, l9, h9, hl9, e9⟩ := e_high a8 b8 (20 + r8.toNat) h8 (by omega)
  have e9r := e_law_right hl9 (by omega)
  obtain ⟨r10, a10, b10, e10, p10, q10, h10⟩ := e_roll a9 b9 5 h9 (by decide) (by decide)
  obtain ⟨r11, a11, b11, e11, p11, q11, h11⟩ := e_roll a10 b10 6 h10 (by decide) (by decide)
  obtain ⟨m, hm, hm0⟩ : ∃ m : Nat, 1 + r10 = (m : Nat) ∧ (0 < m ∧ m < 6) := ⟨(1 + r10).toNat, by omega, by omega⟩
  obtain ⟨h, hh, hh0⟩ : ∃ h : Nat, 1 + r11 = (h : Nat) ∧ (0 < h ∧ h < 7) := ⟨(1 + r11).toNat, by omega, by omega⟩
  have ck := chkT_all m hm0.2 h hh0.2 hm0.1 hh0.1
  unfold chkT at ck
  simp only [Bool.and_eq_true, decide_eq_true_eq] at ck
  obtain ⟨⟨⟨⟨t1, t2⟩, t3⟩, t4⟩, t5⟩ := ck
  have dt : Dyck (teeth m h) (m * h) := isDyck_iff.mp t1
  have hmh : m * h ≤ 5 * 6 := Nat.mul_le_mul (by omega) (by omega)
  have lt := dyck_len dt
  have ft := fits_dyck dt (by omega)
  have et := e_law_right dt (by omega)
  have x1 := e_area_row (teeth m h) (by omega) ft
  have x3 := e_bounces_of (teeth m h) (by omega) ft (climb dt)
  have hrl : (rowB 0 (teeth m h)).length = m * h := by rw [row_cnt, dt.2.1]
  have hrb := row_bd (teeth m h) 0 0 (Int.le_refl _) dt.1
  rw [dt.2.1] at hrb
  have x2 := e_path_with_row (rowB 0 (teeth m h)) (by omega) (fun x hx => by have := hrb x hx; omega) (row_rise (teeth m h) 0 (-1) (by omega))
  rw [path_row0 dt.1] at x2
  have hbl := bncAll_len dt
  have m1 := up_mul h (by omega)
  have m2 := mul_r h (by omega) (by omega)
  rw [Int.toNat_natCast] at m2
  have a12 := add_pS (List.replicate h true) (List.replicate h false) (by simp; omega)
  have m3 := mul_pS (List.replicate h true ++ List.replicate h false) m (by omega) (by simp; omega)
  have m4 : opMul (.list (intsD 0 ((h : Nat) : Int).toNat)) (.int (m : Nat)) = some (.list ((rowB 0 (teeth m h)).map .int)) := by
    rw [t2, Int.toNat_natCast, intsD_zero]
    have hk : ((List.range h).map fun k => (PyData.int (k : Nat))).length * m ≤ 1000000 := by
      have : h * m ≤ 6 * 5 := Nat.mul_le_mul (by omega) (by omega)
      simp; omega
    simp only [opMul]
    rw [if_pos ⟨by omega, by omega, by rw [Int.toNat_natCast]; exact hk⟩, Int.toNat_natCast]
    congr 2
    unfold teethRow
    rw [List.map_flatten, List.map_replicate, List.map_map]
    rfl
  have m5 : opMul (.int (h : Nat)) (.int (m : Nat)) = some (.int ((h * m : Nat) : Int)) := by
    have : small64 (h : Nat) = true := small64_nat (by omega)
    simp only [opMul, this, Bool.true_or, if_true]
    congr 2
  have a13 : opAdd (.int ((h * m : Nat) : Int)) (.int 1) = some (.int ((h * m + 1 : Nat) : Int)) := rfl
  have an : opAdd (.int 1) (.int r10) = some (.int (m : Nat)) := by
    show some (PyData.int _) = _
    rw [hm]
  have an2 : opAdd (.int 1) (.int r11) = some (.int (h : Nat)) := by
    show some (PyData.int _) = _
    rw [hh]
  have rg : intsC 0 (h : Nat) (Builtin.Range.rangeSize 0 (((h * m + 1 : Nat) : Int)) (h : Nat)).toNat = (bncAll (teeth m h)).map .int := by
    rw [t5, t3, List.map_map]; rfl
  have ftu : fTuple [.list ((rowB 0 (teeth m h)).map .int)] = some (.tuple ((rowB 0 (teeth m h)).map .int)) := rfl
  have lk := e_like (.list [.tuple ((rowB 0 (teeth m h)).map .int), .str (pS (teeth m h)), .tuple ((bncAll (teeth m h)).map .int)]) (by
    simp [narrow, narrowAll, narrowAll_ints]; omega) (by simp [PyData.depth, PyData.depthAll, depthAll_ints])
  have ht : (List.replicate m (List.replicate h true ++ List.replicate h false)).flatten = teeth m h := rfl
  rw [ht] at m3
  have e0 : b_law [.pu (.list (ns.map .int)), .non, .non, .non, .non, .non, .non] = some (.rt (.pu (.bool true)) [.pu (.list (ns.map .int)), .own (cupD a11 b11), s6, .pu (.str (pS (teeth m h))), .pu (.tuple ((rowB 0 (teeth m h)).map .int)), .pu (.int (m : Nat)), .pu (.int (h : Nat))]) := by
    unfold b_law
    refine (guard (cCall_args args_nil e_written)).trans ?_
    refine (sSeq_nx (sNew_nw (i := 1) (cCall_args (args_pu rfl args_nil) ec) rfl)).trans ?_
    have it : iE (cTup (aCons (cCall m__law_roll (aCons (cVar 1) (aCons (cC (.int 4)) aNil))) (aCons (cCall m__law_roll (aCons (cVar 1) (aCons (cC (.int 9)) aNil))) (aCons (cCall m__law_roll (aCons (cVar 1) (aCons (cC (.int 20)) aNil))) (aCons (cCall m__law_roll (aCons (cVar 1) (aCons (cC (.int 31)) aNil))) (aCons (cOp2n opAdd (cC (.int 25)) (cCall m__law_roll (aCons (cVar 1) (aCons (cC (.int 6)) aNil)))) aNil))))))
        [.pu (.list (ns.map .int)), .own (cupD a b), .non, .non, .non, .non, .non] = some ([.int r1, .int r2, .int r3, .int r4, .int (25 + r5)], [.pu (.list (ns.map .int)), .own (cupD a5 b5), .non, .non, .non, .non, .non]) :=
      iE_pu (cTup_args (args_pu (cCall_io rfl (args_pu rfl args_nil) rfl e1 rfl) (args_pu (cCall_io rfl (args_pu rfl args_nil) rfl e2 rfl) (args_pu (cCall_io rfl (args_pu rfl args_nil) rfl e3 rfl) (args_pu (cCall_io rfl (args_pu rfl args_nil) rfl e4 rfl) (args_pu (cOp2n_pu' rfl (cCall_io rfl (args_pu rfl args_nil) rfl e5 rfl) ad) args_nil))))) o5) rfl
    refine (sSeq_nx ((sFor_eq it).trans el)).trans ?_
    refine (sSeq_nx ((sIf_f (tOr_ff (not_f (cCall_io rfl args_nil rfl e7 rfl)) (not_f (cCall_args (args_pu (cCall_io rfl (args_pu (cOp2n_pu' rfl (cCall_io rfl (args_pu rfl args_nil) rfl e8 rfl) ad8) args_nil) rfl e9 rfl) args_nil) e9r)))).trans rfl)).trans ?_
    refine (sSeq_nx (ρ' := [.pu (.list (ns.map .int)), .own (cupD a11 b11), s6, .non, .non, .pu (.int (m : Nat)), .pu (.int (h : Nat))]) (sParA_args (args_pu (cOp2n_pu' rfl (cCall_io rfl (args_pu rfl args_nil) rfl e10 rfl) an) (args_pu (cOp2n_pu' rfl (cCall_io rfl (args_pu rfl args_nil) rfl e11 rfl) an2) args_nil)) rfl)).trans ?_
    rw [s_u, s_r]
    refine (sSeq_nx (sAsg_pu (i := 3) (cOp2n_pu' (cOp2n_pu' (cOp2n_pu' rfl rfl m1) (cOp2n_pu' rfl rfl m2) a12) rfl m3) rfl)).trans ?_
    refine (guard (cCall_args (args_pu rfl args_nil) et)).trans ?_
    refine (sSeq_nx (sAsg_pu (i := 4) (cOpA_args (args_nw (cOp2n_lp' (cLstRg1_eq rfl (rgOkB_nat (by omega))) rfl m4) args_nil) ftu) rfl)).trans ?_
    have tr := cTupRg3_eq (as := aCons (cC (.int 0)) (aCons (cOp2n opAdd (cOp2n opMul (cVar 6) (cVar 5)) (cC (.int 1))) (aCons (cVar 6) aNil))) (ρ := [.pu (.list (ns.map .int)), .own (cupD a11 b11), s6, .pu (.str (pS (teeth m h))), .pu (.tuple ((rowB 0 (teeth m h)).map .int)), .pu (.int (m : Nat)), .pu (.int (h : Nat))])
      (ρ1 := [.pu (.list (ns.map .int)), .own (cupD a11 b11), s6, .pu (.str (pS (teeth m h))), .pu (.tuple ((rowB 0 (teeth m h)).map .int)), .pu (.int (m : Nat)), .pu (.int (h : Nat))]) (args_pu rfl (args_pu (cOp2n_pu' (cOp2n_pu' rfl rfl m5) rfl a13) (args_pu rfl args_nil))) t4
    rw [rg] at tr
    exact sRet_eq (like_run (cLst_args (args_pu (cCall_args (args_pu rfl args_nil) x1) (args_pu (cCall_args (args_pu rfl args_nil) x2) (args_pu (cCall_args (args_pu rfl args_nil) x3) args_nil))) o3) rfl (cLst_args (args_pu rfl (args_pu rfl (args_pu tr args_nil))) o3) rfl lk)
  exact run_rt rfl rfl e0 rfl
end PL

namespace PL
open PySem PySem.Spec PyProof.Rows L2
def top (i : Nat) : Stmt := PySem.Challenge.pw_stonepiles_k84_whole_swept_paths.main.body.getD i (.Pass ⟨0, 0, 0, 0⟩)
abbrev s_is_integer : Stmt := top 4
abbrev s_is_whole : Stmt := top 5
abbrev s_is_tuple_of : Stmt := top 6
abbrev s_is_word : Stmt := top 7
abbrev s_fits_path : Stmt := top 10
abbrev s_need_path : Stmt := top 11
abbrev s_row_in : Stmt := top 12
abbrev s_path_in : Stmt := top 13
abbrev s_fits_row : Stmt := top 14
abbrev s_pairs_in : Stmt := top 15
abbrev s_heights_in : Stmt := top 16
abbrev s_bounces_in : Stmt := top 17
abbrev s_bounce_weight_in : Stmt := top 18
abbrev s_swept_in : Stmt := top 19
abbrev s_with_level : Stmt := top 21
abbrev s_unswept_in : Stmt := top 20
abbrev s_area_row : Stmt := top 22
abbrev s_path_with_row : Stmt := top 23
abbrev s_area_of_path : Stmt := top 24
abbrev s_pair_weight : Stmt := top 25
abbrev s_bounces_of : Stmt := top 26
abbrev s_bounce_weight : Stmt := top 27
abbrev s_swept_path : Stmt := top 28
abbrev s_unswept_path : Stmt := top 29
abbrev s__law_cup : Stmt := top 31
abbrev s__law_roll : Stmt := top 32
abbrev s__law_sort : Stmt := top 33
abbrev s__law_like : Stmt := top 34
abbrev s__law_path : Stmt := top 35
abbrev s__law_is_path : Stmt := top 36
abbrev s__law_area_row : Stmt := top 37
abbrev s__law_pair_weight : Stmt := top 38
abbrev s__law_bounces : Stmt := top 39
abbrev s__law_all_paths : Stmt := top 40
abbrev s__law_swept : Stmt := top 41
abbrev s__law_right : Stmt := top 42
abbrev s__law_all_right : Stmt := top 43
abbrev s__law_high_path : Stmt := top 44
abbrev s__law_written_right : Stmt := top 45
abbrev s_law : Stmt := top 46
structure Tx (mg : Str → Option Value) : Prop where
  f_isinstance : mg "isinstance" = none
  f_int : mg "int" = none
  f_bool : mg "bool" = none
  f_tuple : mg "tuple" = none
  f_len : mg "len" = none
  f_str : mg "str" = none
  f_all : mg "all" = none
  f_zip : mg "zip" = none
  f_enumerate : mg "enumerate" = none
  f_sum : mg "sum" = none
  f_max : mg "max" = none
  f_range : mg "range" = none
  f_list : mg "list" = none
  f_abs : mg "abs" = none
  f_min : mg "min" = none
  f_sorted : mg "sorted" = none
  c_SIZE : ∃ t, mg "SIZE" = some (.int 30 t)
theorem bt_isinstance : bootBuiltins "isinstance" = some (.builtin "isinstance") := by decide +kernel
theorem bt_int : bootBuiltins "int" = some (.type "int") := by decide +kernel
theorem bt_bool : bootBuiltins "bool" = some (.type "bool") := by decide +kernel
theorem bt_tuple : bootBuiltins "tuple" = some (.type "tuple") := by decide +kernel
theorem bt_len : bootBuiltins "len" = some (.builtin "len") := by decide +kernel
theorem bt_str : bootBuiltins "str" = some (.type "str") := by decide +kernel
theorem bt_all : bootBuiltins "all" = some (.builtin "all") := by decide +kernel
theorem bt_sum : bootBuiltins "sum" = some (.builtin "sum") := by decide +kernel
theorem bt_max : bootBuiltins "max" = some (.builtin "max") := by decide +kernel
theorem bt_list : bootBuiltins "list" = some (.type "list") := by decide +kernel
theorem bt_abs : bootBuiltins "abs" = some (.builtin "abs") := by decide +kernel
theorem bt_min : bootBuiltins "min" = some (.builtin "min") := by decide +kernel
theorem bt_sorted : bootBuiltins "sorted" = some (.builtin "sorted") := by decide +kernel
section
variable {P : Program} {w : World} {K : PySem.W.Frag} {mg : Str → Option Value} {base : Heap}
theorem sc_is_integer : FnScope ["value"] ["value"] (defScope s_is_integer) := ⟨rfl, rfl, rfl, by decide +kernel, rfl, by decide +kernel, by decide +kernel⟩
theorem ok_is_integer (T : Tx mg) {f : Addr} {fd : FuncData} (F : FunD K "is_integer" "is_integer" (defArgs s_is_integer) (defBody s_is_integer) (defScope s_is_integer) [] [] f fd)  : FnOk P w K mg base CX0 1 f fd ["value"] (spM K 1 m_is_integer) := by
    have h := fn_ok (P := P) (w := w) (mg := mg) (base := base) (k := 0) (f := b_is_integer) F sc_is_integer (by decide) (fun cdv A outer s H E hr => by
      have nd := (sc_is_integer).nd
      have hu : (A.deeper (envOfC "is_integer" (defScope s_is_integer) s.heap.objs.size f cdv)).units + 65 < cLine := by have := hr.un; omega
      refine PSs.nox ?_
      exact (dss_one (ds_ret (pd_and (pd_isi isi_int rfl T.f_isinstance bt_isinstance (pe_bltn (v := .ty "int") rfl T.f_int bt_int rfl) (pd_var (pv 0))) (pd_one (pd_not (pd_isi isi_bool rfl T.f_isinstance bt_isinstance (pe_bltn (v := .ty "bool") rfl T.f_bool bt_bool rfl) (pd_var (pv 0)))))))))
    exact h
theorem sc_is_whole : FnScope ["value", "low", "high"] ["value", "low", "high"] (defScope s_is_whole) := ⟨rfl, rfl, rfl, by decide +kernel, rfl, by decide +kernel, by decide +kernel⟩
theorem ok_is_whole (T : Tx mg) {f : Addr} {fd : FuncData} (F : FunD K "is_whole" "is_whole" (defArgs s_is_whole) (defBody s_is_whole) (defScope s_is_whole) [] [] f fd) (C_is_integer : Cal P w K mg base "is_integer" 1 m_is_integer 1) : FnOk P w K mg base CX0 2 f fd ["value", "low", "high"] (spM K 3 m_is_whole) := by
    have h := fn_ok (P := P) (w := w) (mg := mg) (base := base) (k := 1) (f := b_is_whole) F sc_is_whole (by decide) (fun cdv A outer s H E hr => by
      have nd := (sc_is_whole).nd
      have hu : (A.deeper (envOfC "is_whole" (defScope s_is_whole) s.heap.objs.size f cdv)).units + 65 < cLine := by have := hr.un; omega
      refine PSs.nox ?_
      exact (dss_one (ds_ret (pd_and (pd_cal C_is_integer hr (by decide) rfl (len_cons len_nil) (pd_cons (pd_var (pv 0)) pd_nil)) (pd_one (pd_chain so_le so_le (pd_var (pv 1)) (pd_var (pv 0)) (pd_var (pv 2)) (by with_unfolding_all rfl)))))))
    exact h
theorem sc_is_tuple_of : FnScope ["value", "low", "high"] ["value", "low", "high"] (defScope s_is_tuple_of) := ⟨rfl, rfl, rfl, by decide +kernel, rfl, by decide +kernel, by decide +kernel⟩
theorem ok_is_tuple_of (T : Tx mg) {f : Addr} {fd : FuncData} (F : FunD K "is_tuple_of" "is_tuple_of" (defArgs s_is_tuple_of) (defBody s_is_tuple_of) (defScope s_is_tuple_of) [] [] f fd)  : FnOk P w K mg base CX0 1 f fd ["value", "low", "high"] (spM K 3 m_is_tuple_of) := by
    have h := fn_ok (P := P) (w := w) (mg := mg) (base := base) (k := 0) (f := b_is_tuple_of) F sc_is_tuple_of (by decide) (fun cdv A outer s H E hr => by
      have nd := (sc_is_tuple_of).nd
      have hu : (A.deeper (envOfC "is_tuple_of" (defScope s_is_tuple_of) s.heap.objs.size f cdv)).units + 65 < cLine := by have := hr.un; omega
      refine PSs.nox ?_
      exact (dss_one (ds_ret (pd_and (pd_isi isi_tuple rfl T.f_isinstance bt_isinstance (pe_bltn (v := .ty "tuple") rfl T.f_tuple bt_tuple rfl) (pd_var (pv 0))) (pd_one (pd_chain so_le so_le (pd_var (pv 1)) (pd_callB so_len rfl T.f_len bt_len (pd_cons (pd_var (pv 0)) pd_nil)) (pd_var (pv 2)) (by with_unfolding_all rfl)))))))
    exact h
theorem sc_is_word : FnScope ["value", "signs", "low", "high", "sign"] ["value", "signs", "low", "high"] (defScope s_is_word) := ⟨rfl, rfl, rfl, by decide +kernel, rfl, by decide +kernel, by decide +kernel⟩
theorem ok_is_word (T : Tx mg) {f : Addr} {fd : FuncData} (F : FunD K "is_word" "is_word" (defArgs s_is_word) (defBody s_is_word) (defScope s_is_word) [] [] f fd)  : FnOk P w K mg base CX0 1 f fd ["value", "signs", "low", "high"] (spM K 4 m_is_word) := by
    have h := fn_ok (P := P) (w := w) (mg := mg) (base := base) (k := 0) (f := b_is_word) F sc_is_word (by decide) (fun cdv A outer s H E hr => by
      have nd := (sc_is_word).nd
      have hu : (A.deeper (envOfC "is_word" (defScope s_is_word) s.heap.objs.size f cdv)).units + 65 < cLine := by have := hr.un; omega
      refine PSs.nox ?_
      exact (dss_one (ds_ret (pd_and (pd_isi isi_str rfl T.f_isinstance bt_isinstance (pe_bltn (v := .ty "str") rfl T.f_str bt_str rfl) (pd_var (pv 0))) (pd_and (pd_chain so_le so_le (pd_var (pv 2)) (pd_callB so_len rfl T.f_len bt_len (pd_cons (pd_var (pv 0)) pd_nil)) (pd_var (pv 3)) (by with_unfolding_all rfl)) (pd_one (pd_callB (so_all rfl) rfl T.f_all bt_all (pd_cons (pd_lcE (own := [("sign", 4)]) rfl nd (pd_iE (pd_var (pv 0))) (blkOk_by (by kernel_rfl)) (fun _ _ _ _ _ => (pd_gn (pg_name (i := 4) nd rfl (by first | exact Or.inl rfl | exact Or.inr rfl)))) (by decide) (fun _ _ _ _ _ => pd_tsnil) (fun _ _ _ _ _ => (pd_cmp (so_in hu) (pd_var (pv 4)) (pd_var (pv 1)) (by with_unfolding_all rfl)))) pd_nil))))))))
    exact h
theorem sc_fits_path : FnScope ["value", "ahead", "sign"] ["value"] (defScope s_fits_path) := ⟨rfl, rfl, rfl, by decide +kernel, rfl, by decide +kernel, by decide +kernel⟩
theorem ok_fits_path (T : Tx mg) {f : Addr} {fd : FuncData} (F : FunD K "fits_path" "fits_path" (defArgs s_fits_path) (defBody s_fits_path) (defScope s_fits_path) [] [] f fd) (C_is_word : Cal P w K mg base "is_word" 4 m_is_word 1) : FnOk P w K mg base CX0 2 f fd ["value"] (spM K 1 m_fits_path) := by
    have h := fn_ok (P := P) (w := w) (mg := mg) (base := base) (k := 1) (f := b_fits_path) F sc_fits_path (by decide) (fun cdv A outer s H E hr => by
      have nd := (sc_fits_path).nd
      have hu : (A.deeper (envOfC "fits_path" (defScope s_fits_path) s.heap.objs.size f cdv)).units + 65 < cLine := by have := hr.un; omega
      refine PSs.nox ?_
      exact (dss_cons (ds_if (pt_not' (pt_tru (pd_cal C_is_word hr (by decide) rfl (len_cons (len_cons (len_cons (len_cons len_nil)))) (pd_cons (pd_var (pv 0)) (pd_cons pd_str (pd_cons pd_int (pd_cons (pd_op2n so_mul pd_int (pd_gint rfl T.c_SIZE.choose_spec ⟨_, rfl⟩)) pd_nil))))) (fun _ => rfl))) (dss_one (ds_ret pd_bl)) dss_nil)
    (dss_cons (ds_asg (i := 1) pd_int nd rfl (by first | exact Or.inl rfl | exact Or.inr rfl))
    (dss_cons (ds_for PassesOwn.never rfl (pd_iE (pd_var (pv 0))) (pd_gn (pg_name (i := 2) nd rfl (by first | exact Or.inl rfl | exact Or.inr rfl))) (dss_cons (ds_asg (i := 1) (pd_op2n so_add (pd_var (pv 1)) (pd_if (pt_cmp' (so_eq hu) (pd_var (pv 2)) pd_str (nomark _)) pd_int (pd_neg pd_int))) nd rfl (by first | exact Or.inl rfl | exact Or.inr rfl))
    (dss_one (ds_if (pt_cmp' so_lt (pd_var (pv 1)) pd_int (nomark _)) (dss_one (ds_ret pd_bl)) dss_nil))))
    (dss_one (ds_ret (pd_cmp (so_eq hu) (pd_var (pv 1)) pd_int (nomark _))))))))
    exact h
theorem sc_need_path : FnScope ["path"] ["path"] (defScope s_need_path) := ⟨rfl, rfl, rfl, by decide +kernel, rfl, by decide +kernel, by decide +kernel⟩
theorem ok_need_path (T : Tx mg) {f : Addr} {fd : FuncData} (F : FunD K "need_path" "need_path" (defArgs s_need_path) (defBody s_need_path) (defScope s_need_path) [] [] f fd) (C_fits_path : Cal P w K mg base "fits_path" 1 m_fits_path 2) : FnOk P w K mg base CX0 3 f fd ["path"] (spM K 1 m_need_path) := by
    have h := fn_ok (P := P) (w := w) (mg := mg) (base := base) (k := 2) (f := b_need_path) F sc_need_path (by decide) (fun cdv A outer s H E hr => by
      have nd := (sc_need_path).nd
      have hu : (A.deeper (envOfC "need_path" (defScope s_need_path) s.heap.objs.size f cdv)).units + 65 < cLine := by have := hr.un; omega
      refine PSs.nox ?_
      exact (dss_one (ds_if (pt_not' (pt_tru (pd_cal C_fits_path hr (by decide) rfl (len_cons len_nil) (pd_cons (pd_var (pv 0)) pd_nil)) (fun _ => rfl))) (dss_one ds_never) dss_nil)))
    exact h
theorem sc_row_in : FnScope ["path", "sign", "found", "ahead"] ["path"] (defScope s_row_in) := ⟨rfl, rfl, rfl, by decide +kernel, rfl, by decide +kernel, by decide +kernel⟩
theorem ok_row_in (T : Tx mg) {f : Addr} {fd : FuncData} (F : FunD K "row_in" "row_in" (defArgs s_row_in) (defBody s_row_in) (defScope s_row_in) [] [] f fd)  : FnOk P w K mg base CX0 1 f fd ["path"] (spM K 1 m_row_in) := by
    have h := fn_ok (P := P) (w := w) (mg := mg) (base := base) (k := 0) (f := b_row_in) F sc_row_in (by decide) (fun cdv A outer s H E hr => by
      have nd := (sc_row_in).nd
      have hu : (A.deeper (envOfC "row_in" (defScope s_row_in) s.heap.objs.size f cdv)).units + 65 < cLine := by have := hr.un; omega
      refine PSs.nox ?_
      exact (dss_cons (ds_par2 (k := true) (l := false) (i := 2) (j := 3) (pd_lst pd_nil) pd_int rfl nd rfl rfl (by decide) rfl rfl (by with_unfolding_all rfl))
    (dss_cons (ds_for PassesOwn.never rfl (pd_iE (pd_var (pv 0))) (pd_gn (pg_name (i := 1) nd rfl (by first | exact Or.inl rfl | exact Or.inr rfl))) (dss_cons (ds_if (pt_cmp' (so_eq hu) (pd_var (pv 1)) pd_str (nomark _)) (dss_one (ds_app (i := 2) (pv 2) (pd_var (pv 3)))) dss_nil)
    (dss_one (ds_asg (i := 3) (pd_op2n so_add (pd_var (pv 3)) (pd_if (pt_cmp' (so_eq hu) (pd_var (pv 1)) pd_str (nomark _)) pd_int (pd_neg pd_int))) nd rfl (by first | exact Or.inl rfl | exact Or.inr rfl)))))
    (dss_one (ds_ret (pd_var (pv 2)))))))
    exact h
theorem sc_path_in : FnScope ["row", "own", "found", "ahead"] ["row"] (defScope s_path_in) := ⟨rfl, rfl, rfl, by decide +kernel, rfl, by decide +kernel, by decide +kernel⟩
theorem ok_path_in (T : Tx mg) {f : Addr} {fd : FuncData} (F : FunD K "path_in" "path_in" (defArgs s_path_in) (defBody s_path_in) (defScope s_path_in) [] [] f fd)  : FnOk P w K mg base CX0 1 f fd ["row"] (spM K 1 m_path_in) := by
    have h := fn_ok (P := P) (w := w) (mg := mg) (base := base) (k := 0) (f := b_path_in) F sc_path_in (by decide) (fun cdv A outer s H E hr => by
      have nd := (sc_path_in).nd
      have hu : (A.deeper (envOfC "path_in" (defScope s_path_in) s.heap.objs.size f cdv)).units + 65 < cLine := by have := hr.un; omega
      refine PSs.nox ?_
      exact (dss_cons (ds_tgt (pd_tup (pd_cons pd_str (pd_cons pd_int pd_nil))) (pd_gt rfl (pd_gcons (pd_gn (pg_name (i := 2) nd rfl (by first | exact Or.inl rfl | exact Or.inr rfl))) (pd_gcons (pd_gn (pg_name (i := 3) nd rfl (by first | exact Or.inl rfl | exact Or.inr rfl))) pd_gnil))))
    (dss_cons (ds_for PassesOwn.never rfl (pd_iE (pd_var (pv 0))) (pd_gn (pg_name (i := 1) nd rfl (by first | exact Or.inl rfl | exact Or.inr rfl))) (dss_cons (ds_asg (i := 2) (pd_op2n so_add (pd_op2n so_add (pd_var (pv 2)) (pd_op2n so_mul pd_str (pd_op2 so_sub (pd_var (pv 3)) (pd_var (pv 1))))) pd_str) nd rfl (by first | exact Or.inl rfl | exact Or.inr rfl))
    (dss_one (ds_asg (i := 3) (pd_op2n so_add (pd_var (pv 1)) pd_int) nd rfl (by first | exact Or.inl rfl | exact Or.inr rfl)))))
    (dss_one (ds_ret (pd_op2n so_add (pd_var (pv 2)) (pd_op2n so_mul pd_str (pd_var (pv 3)))))))))
    exact h
theorem sc_fits_row : FnScope ["value", "own", "later"] ["value"] (defScope s_fits_row) := ⟨rfl, rfl, rfl, by decide +kernel, rfl, by decide +kernel, by decide +kernel⟩
theorem ok_fits_row (T : Tx mg) {f : Addr} {fd : FuncData} (F : FunD K "fits_row" "fits_row" (defArgs s_fits_row) (defBody s_fits_row) (defScope s_fits_row) [] [] f fd) (C_is_tuple_of : Cal P w K mg base "is_tuple_of" 3 m_is_tuple_of 1) (C_is_whole : Cal P w K mg base "is_whole" 3 m_is_whole 2) : FnOk P w K mg base CX0 3 f fd ["value"] (spM K 1 m_fits_row) := by
    have h := fn_ok (P := P) (w := w) (mg := mg) (base := base) (k := 2) (f := b_fits_row) F sc_fits_row (by decide) (fun cdv A outer s H E hr => by
      have nd := (sc_fits_row).nd
      have hu : (A.deeper (envOfC "fits_row" (defScope s_fits_row) s.heap.objs.size f cdv)).units + 65 < cLine := by have := hr.un; omega
      refine PSs.nox ?_
      exact (dss_cons (ds_if (pw_pt (pw_or' (pt_not' (pt_tru (pd_cal C_is_tuple_of hr (by decide) rfl (len_cons (len_cons (len_cons len_nil))) (pd_cons (pd_var (pv 0)) (pd_cons pd_int (pd_cons (pd_gint rfl T.c_SIZE.choose_spec ⟨_, rfl⟩) pd_nil)))) (fun _ => rfl))) (pw_one (pt_not' (pt_tru (pd_callB (so_all rfl) rfl T.f_all bt_all (pd_cons (pd_lcE (own := [("own", 1)]) rfl nd (pd_iE (pd_var (pv 0))) (blkOk_by (by kernel_rfl)) (fun _ _ _ _ _ => (pd_gn (pg_name (i := 1) nd rfl (by first | exact Or.inl rfl | exact Or.inr rfl)))) (by decide) (fun _ _ _ _ _ => pd_tsnil) (fun _ _ _ _ _ => (pd_cal C_is_whole hr (by decide) rfl (len_cons (len_cons (len_cons len_nil))) (pd_cons (pd_var (pv 1)) (pd_cons pd_int (pd_cons (pd_op2 so_sub (pd_gint rfl T.c_SIZE.choose_spec ⟨_, rfl⟩) pd_int) pd_nil)))))) pd_nil)) (fun _ => rfl)))))) (dss_one (ds_ret pd_bl)) dss_nil)
    (dss_one (ds_ret (pd_callB (so_all rfl) rfl T.f_all bt_all (pd_cons (pd_lcE (own := [("own", 1), ("later", 2)]) rfl nd (pd_zip rfl T.f_zip (pd_op2n so_add (pd_tup (pd_cons (pd_neg pd_int) pd_nil)) (pd_var (pv 0))) (pd_var (pv 0))) (blkOk_by (by kernel_rfl)) (fun _ _ _ _ _ => (pd_gt rfl (pd_gcons (pd_gn (pg_name (i := 1) nd rfl (by first | exact Or.inl rfl | exact Or.inr rfl))) (pd_gcons (pd_gn (pg_name (i := 2) nd rfl (by first | exact Or.inl rfl | exact Or.inr rfl))) pd_gnil)))) (by decide) (fun _ _ _ _ _ => pd_tsnil) (fun _ _ _ _ _ => (pd_cmp so_le (pd_var (pv 2)) (pd_op2n so_add (pd_var (pv 1)) pd_int) (nomark _)))) pd_nil))))))
    exact h
theorem sc_pairs_in : FnScope ["row", "found", "at", "own", "other"] ["row"] (defScope s_pairs_in) := ⟨rfl, rfl, rfl, by decide +kernel, rfl, by decide +kernel, by decide +kernel⟩
theorem ok_pairs_in (T : Tx mg) {f : Addr} {fd : FuncData} (F : FunD K "pairs_in" "pairs_in" (defArgs s_pairs_in) (defBody s_pairs_in) (defScope s_pairs_in) [] [] f fd)  : FnOk P w K mg base CX0 1 f fd ["row"] (spM K 1 m_pairs_in) := by
    have h := fn_ok (P := P) (w := w) (mg := mg) (base := base) (k := 0) (f := b_pairs_in) F sc_pairs_in (by decide) (fun cdv A outer s H E hr => by
      have nd := (sc_pairs_in).nd
      have hu : (A.deeper (envOfC "pairs_in" (defScope s_pairs_in) s.heap.objs.size f cdv)).units + 65 < cLine := by have := hr.un; omega
      refine PSs.nox ?_
      exact (dss_cons (ds_asg (i := 1) pd_int nd rfl (by first | exact Or.inl rfl | exact Or.inr rfl))
    (dss_cons (ds_for PassesOwn.never rfl (pd_enum rfl T.f_enumerate (pd_var (pv 0))) (pd_gt rfl (pd_gcons (pd_gn (pg_name (i := 2) nd rfl (by first | exact Or.inl rfl | exact Or.inr rfl))) (pd_gcons (pd_gn (pg_name (i := 3) nd rfl (by first | exact Or.inl rfl | exact Or.inr rfl))) pd_gnil))) (dss_one (ds_asg (i := 1) (pd_op2n so_add (pd_var (pv 1)) (pd_callB so_len rfl T.f_len bt_len (pd_cons (pd_lcE (own := [("other", 4)]) rfl nd (pd_iE (pd_slice so_sl (pd_var (pv 0)) (pd_oso (pd_op2n so_add (pd_var (pv 2)) pd_int)) pd_ono)) (blkOk_by (by kernel_rfl)) (fun _ _ _ _ _ => (pd_gn (pg_name (i := 4) nd rfl (by first | exact Or.inl rfl | exact Or.inr rfl)))) (by decide) (fun _ _ _ _ _ => (pd_tsone (pw_pt (pw_or' (pt_cmp' (so_eq hu) (pd_var (pv 4)) (pd_var (pv 3)) (nomark _)) (pw_one (pt_cmp' (so_eq hu) (pd_var (pv 4)) (pd_op2 so_sub (pd_var (pv 3)) pd_int) (nomark _))))))) (fun _ _ _ _ _ => (pd_var (pv 4)))) pd_nil))) nd rfl (by first | exact Or.inl rfl | exact Or.inr rfl))))
    (dss_one (ds_ret (pd_var (pv 1)))))))
    exact h
theorem sc_heights_in : FnScope ["path", "sign", "found", "ups"] ["path"] (defScope s_heights_in) := ⟨rfl, rfl, rfl, by decide +kernel, rfl, by decide +kernel, by decide +kernel⟩
theorem ok_heights_in (T : Tx mg) {f : Addr} {fd : FuncData} (F : FunD K "heights_in" "heights_in" (defArgs s_heights_in) (defBody s_heights_in) (defScope s_heights_in) [] [] f fd)  : FnOk P w K mg base CX0 1 f fd ["path"] (spM K 1 m_heights_in) := by
    have h := fn_ok (P := P) (w := w) (mg := mg) (base := base) (k := 0) (f := b_heights_in) F sc_heights_in (by decide) (fun cdv A outer s H E hr => by
      have nd := (sc_heights_in).nd
      have hu : (A.deeper (envOfC "heights_in" (defScope s_heights_in) s.heap.objs.size f cdv)).units + 65 < cLine := by have := hr.un; omega
      refine PSs.nox ?_
      exact (dss_cons (ds_par2 (k := true) (l := false) (i := 2) (j := 3) (pd_lst pd_nil) pd_int rfl nd rfl rfl (by decide) rfl rfl (by with_unfolding_all rfl))
    (dss_cons (ds_for PassesOwn.never rfl (pd_iE (pd_var (pv 0))) (pd_gn (pg_name (i := 1) nd rfl (by first | exact Or.inl rfl | exact Or.inr rfl))) (dss_one (ds_if (pt_cmp' (so_eq hu) (pd_var (pv 1)) pd_str (nomark _)) (dss_one (ds_asg (i := 3) (pd_op2n so_add (pd_var (pv 3)) pd_int) nd rfl (by first | exact Or.inl rfl | exact Or.inr rfl))) (dss_one (ds_app (i := 2) (pv 2) (pd_var (pv 3)))))))
    (dss_one (ds_ret (pd_var (pv 2)))))))
    exact h
theorem sc_bounces_in : FnScope ["path", "heights", "found"] ["path"] (defScope s_bounces_in) := ⟨rfl, rfl, rfl, by decide +kernel, rfl, by decide +kernel, by decide +kernel⟩
theorem ok_bounces_in (T : Tx mg) {f : Addr} {fd : FuncData} (F : FunD K "bounces_in" "bounces_in" (defArgs s_bounces_in) (defBody s_bounces_in) (defScope s_bounces_in) [] [] f fd) (C_heights_in : Cal P w K mg base "heights_in" 1 m_heights_in 1) : FnOk P w K mg base CX0 2 f fd ["path"] (spM K 1 m_bounces_in) := by
    have h := fn_ok (P := P) (w := w) (mg := mg) (base := base) (k := 1) (f := b_bounces_in) F sc_bounces_in (by decide) (fun cdv A outer s H E hr => by
      have nd := (sc_bounces_in).nd
      have hu : (A.deeper (envOfC "bounces_in" (defScope s_bounces_in) s.heap.objs.size f cdv)).units + 65 < cLine := by have := hr.un; omega
      refine PSs.nox ?_
      exact (dss_cons (ds_par2 (k := false) (l := true) (i := 1) (j := 2) (pd_cal C_heights_in hr (by decide) rfl (len_cons len_nil) (pd_cons (pd_var (pv 0)) pd_nil)) (pd_lst (pd_cons pd_int pd_nil)) rfl nd rfl rfl (by decide) rfl rfl (by with_unfolding_all rfl))
    (dss_cons (ds_while PassesOwn.never (pt_cmp' so_lt (pd_ix so_ix (pd_var (pv 2)) (pd_neg pd_int) (fun _ _ => rfl)) (pd_callB so_len rfl T.f_len bt_len (pd_cons (pd_var (pv 1)) pd_nil)) (nomark _)) (dss_one (ds_app (i := 2) (pv 2) (pd_ix so_ix (pd_var (pv 1)) (pd_ix so_ix (pd_var (pv 2)) (pd_neg pd_int) (fun _ _ => rfl)) (fun _ _ => rfl)))))
    (dss_one (ds_ret (pd_var (pv 2)))))))
    exact h
theorem sc_bounce_weight_in : FnScope ["path", "found", "own"] ["path"] (defScope s_bounce_weight_in) := ⟨rfl, rfl, rfl, by decide +kernel, rfl, by decide +kernel, by decide +kernel⟩
theorem ok_bounce_weight_in (T : Tx mg) {f : Addr} {fd : FuncData} (F : FunD K "bounce_weight_in" "bounce_weight_in" (defArgs s_bounce_weight_in) (defBody s_bounce_weight_in) (defScope s_bounce_weight_in) [] [] f fd) (C_bounces_in : Cal P w K mg base "bounces_in" 1 m_bounces_in 2) : FnOk P w K mg base CX0 3 f fd ["path"] (spM K 1 m_bounce_weight_in) := by
    have h := fn_ok (P := P) (w := w) (mg := mg) (base := base) (k := 2) (f := b_bounce_weight_in) F sc_bounce_weight_in (by decide) (fun cdv A outer s H E hr => by
      have nd := (sc_bounce_weight_in).nd
      have hu : (A.deeper (envOfC "bounce_weight_in" (defScope s_bounce_weight_in) s.heap.objs.size f cdv)).units + 65 < cLine := by have := hr.un; omega
      refine PSs.nox ?_
      exact (dss_cons (ds_asg (i := 1) (pd_cal C_bounces_in hr (by decide) rfl (len_cons len_nil) (pd_cons (pd_var (pv 0)) pd_nil)) nd rfl (by first | exact Or.inl rfl | exact Or.inr rfl))
    (dss_one (ds_ret (pd_callB (so_sum rfl) rfl T.f_sum bt_sum (pd_cons (pd_lcE (own := [("own", 2)]) rfl nd (pd_iE (pd_slice so_sl (pd_var (pv 1)) (pd_oso pd_int) pd_ono)) (blkOk_by (by kernel_rfl)) (fun _ _ _ _ _ => (pd_gn (pg_name (i := 2) nd rfl (by first | exact Or.inl rfl | exact Or.inr rfl)))) (by decide) (fun _ _ _ _ _ => pd_tsnil) (fun _ _ _ _ _ => (pd_op2 so_sub (pd_ix so_ix (pd_var (pv 1)) (pd_neg pd_int) (fun _ _ => rfl)) (pd_var (pv 2))))) pd_nil))))))
    exact h
theorem sc_swept_in : FnScope ["row", "found", "low", "own"] ["row"] (defScope s_swept_in) := ⟨rfl, rfl, rfl, by decide +kernel, rfl, by decide +kernel, by decide +kernel⟩
theorem ok_swept_in (T : Tx mg) {f : Addr} {fd : FuncData} (F : FunD K "swept_in" "swept_in" (defArgs s_swept_in) (defBody s_swept_in) (defScope s_swept_in) [] [] f fd)  : FnOk P w K mg base CX0 1 f fd ["row"] (spM K 1 m_swept_in) := by
    have h := fn_ok (P := P) (w := w) (mg := mg) (base := base) (k := 0) (f := b_swept_in) F sc_swept_in (by decide) (fun cdv A outer s H E hr => by
      have nd := (sc_swept_in).nd
      have hu : (A.deeper (envOfC "swept_in" (defScope s_swept_in) s.heap.objs.size f cdv)).units + 65 < cLine := by have := hr.un; omega
      refine PSs.nox ?_
      exact (dss_cons (ds_asg (i := 1) (pd_op2n so_mul pd_str (pd_bm so_lcount PySem.F.plainAttrs_list PySem.F.slot_list_count PySem.F.type_list_count (pd_var (pv 0)) (pd_cons pd_int pd_nil))) nd rfl (by first | exact Or.inl rfl | exact Or.inr rfl))
    (dss_cons (ds_for PassesOwn.never rfl (pd_range1 rfl T.f_range (pd_op2n so_add (pd_callB (so_max rfl hu) rfl T.f_max bt_max (pd_cons (pd_op2n so_add (pd_lst (pd_cons (pd_neg pd_int) pd_nil)) (pd_var (pv 0))) pd_nil)) pd_int)) (pd_gn (pg_name (i := 2) nd rfl (by first | exact Or.inl rfl | exact Or.inr rfl))) (dss_one (ds_asg (i := 1) (pd_op2n so_add (pd_var (pv 1)) (pd_bm so_join PySem.F.plainAttrs_str PySem.F.slot_str_join PySem.F.type_str_join pd_str (pd_cons (pd_lcE (own := [("own", 3)]) rfl nd (pd_iE (pd_var (pv 0))) (blkOk_by (by kernel_rfl)) (fun _ _ _ _ _ => (pd_gn (pg_name (i := 3) nd rfl (by first | exact Or.inl rfl | exact Or.inr rfl)))) (by decide) (fun _ _ _ _ _ => (pd_tsone (pt_cmp' (so_in hu) (pd_var (pv 3)) (pd_tup (pd_cons (pd_var (pv 2)) (pd_cons (pd_op2n so_add (pd_var (pv 2)) pd_int) pd_nil))) (by with_unfolding_all rfl)))) (fun _ _ _ _ _ => (pd_if (pt_cmp' (so_eq hu) (pd_var (pv 3)) (pd_var (pv 2)) (nomark _)) pd_str pd_str))) pd_nil))) nd rfl (by first | exact Or.inl rfl | exact Or.inr rfl))))
    (dss_one (ds_ret (pd_var (pv 1)))))))
    exact h
theorem sc_with_level : FnScope ["row", "low", "signs", "sign", "own", "behind", "count", "found", "met"] ["row", "low", "signs"] (defScope s_with_level) := ⟨rfl, rfl, rfl, by decide +kernel, rfl, by decide +kernel, by decide +kernel⟩
theorem ok_with_level (T : Tx mg) {f : Addr} {fd : FuncData} (F : FunD K "with_level" "with_level" (defArgs s_with_level) (defBody s_with_level) (defScope s_with_level) [] [] f fd)  : FnOk P w K mg base CX0 1 f fd ["row", "low", "signs"] (spM K 3 m_with_level) := by
    have h := fn_ok (P := P) (w := w) (mg := mg) (base := base) (k := 0) (f := b_with_level) F sc_with_level (by decide) (fun cdv A outer s H E hr => by
      have nd := (sc_with_level).nd
      have hu : (A.deeper (envOfC "with_level" (defScope s_with_level) s.heap.objs.size f cdv)).units + 65 < cLine := by have := hr.un; omega
      refine PSs.nox ?_
      exact (dss_cons (ds_par2 (k := true) (l := false) (i := 5) (j := 6) (pd_lst (pd_cons pd_int pd_nil)) pd_int rfl nd rfl rfl (by decide) rfl rfl (by with_unfolding_all rfl))
    (dss_cons (ds_for PassesOwn.never rfl (pd_iE (pd_var (pv 2))) (pd_gn (pg_name (i := 3) nd rfl (by first | exact Or.inl rfl | exact Or.inr rfl))) (dss_one (ds_if (pt_cmp' (so_eq hu) (pd_var (pv 3)) pd_str (nomark _)) (dss_cons (ds_asg (i := 6) (pd_op2n so_add (pd_var (pv 6)) pd_int) nd rfl (by first | exact Or.inl rfl | exact Or.inr rfl))
    (dss_one (ds_app (i := 5) (pv 5) pd_int))) (dss_one (ds_setix (i := 5) (pv 5) (pd_op2n so_add (pd_ix so_ix (pd_var (pv 5)) (pd_var (pv 6)) (fun _ _ => rfl)) pd_int) (pd_var (pv 6)))))))
    (dss_frz 5 (dss_cons (ds_par2 (k := true) (l := false) (i := 7) (j := 8) (pd_lst pd_nil) pd_int rfl nd rfl rfl (by decide) rfl rfl (by with_unfolding_all rfl))
    (dss_cons (ds_for PassesOwn.never rfl (pd_iE (pd_var (pv 0))) (pd_gn (pg_name (i := 4) nd rfl (by first | exact Or.inl rfl | exact Or.inr rfl))) (dss_cons (ds_app (i := 7) (pv 7) (pd_var (pv 4)))
    (dss_one (ds_if (pt_cmp' (so_eq hu) (pd_var (pv 4)) (pd_var (pv 1)) (nomark _)) (dss_cons (ds_asg (i := 8) (pd_op2n so_add (pd_var (pv 8)) pd_int) nd rfl (by first | exact Or.inl rfl | exact Or.inr rfl))
    (dss_one (ds_new (i := 7) (pd_op2n so_add (pd_var (pv 7)) (pd_op2n so_mul (pd_lst (pd_cons (pd_op2n so_add (pd_var (pv 1)) pd_int) pd_nil)) (pd_ix so_ix (pd_var (pv 5)) (pd_var (pv 8)) (fun _ _ => rfl)))) nd rfl (by first | exact Or.inl rfl | exact Or.inr rfl)))) dss_nil))))
    (dss_one (ds_ret (pd_var (pv 7))))))))))
    exact h
theorem sc_unswept_in : FnScope ["path", "bounces", "sizes", "row", "rest", "low", "size", "many", "own", "later"] ["path"] (defScope s_unswept_in) := ⟨rfl, rfl, rfl, by decide +kernel, rfl, by decide +kernel, by decide +kernel⟩
theorem ok_unswept_in (T : Tx mg) {f : Addr} {fd : FuncData} (F : FunD K "unswept_in" "unswept_in" (defArgs s_unswept_in) (defBody s_unswept_in) (defScope s_unswept_in) [] [] f fd) (C_bounces_in : Cal P w K mg base "bounces_in" 1 m_bounces_in 2) (C_with_level : Cal P w K mg base "with_level" 3 m_with_level 1) : FnOk P w K mg base CX0 3 f fd ["path"] (spM K 1 m_unswept_in) := by
    have h := fn_ok (P := P) (w := w) (mg := mg) (base := base) (k := 2) (f := b_unswept_in) F sc_unswept_in (by decide) (fun cdv A outer s H E hr => by
      have nd := (sc_unswept_in).nd
      have hu : (A.deeper (envOfC "unswept_in" (defScope s_unswept_in) s.heap.objs.size f cdv)).units + 65 < cLine := by have := hr.un; omega
      refine PSs.nox ?_
      exact (dss_cons (ds_asg (i := 1) (pd_cal C_bounces_in hr (by decide) rfl (len_cons len_nil) (pd_cons (pd_var (pv 0)) pd_nil)) nd rfl (by first | exact Or.inl rfl | exact Or.inr rfl))
    (dss_cons (ds_asgLc (i := 2) rfl nd rfl rfl (sw_true rfl rfl rfl (by decide +kernel)) (own := [("own", 8), ("later", 9)]) (pd_zip rfl T.f_zip (pd_var (pv 1)) (pd_slice so_sl (pd_var (pv 1)) (pd_oso pd_int) pd_ono)) (blkOk_by (by kernel_rfl)) (fun _ _ _ _ _ => (pd_gt rfl (pd_gcons (pd_gn (pg_name (i := 8) nd rfl (by first | exact Or.inl rfl | exact Or.inr rfl))) (pd_gcons (pd_gn (pg_name (i := 9) nd rfl (by first | exact Or.inl rfl | exact Or.inr rfl))) pd_gnil)))) (by decide) (fun _ _ _ _ _ => pd_tsnil) (fun _ _ _ _ _ => (pd_op2 so_sub (pd_var (pv 9)) (pd_var (pv 8)))))
    (dss_cons (ds_parA2 (i := 3) (j := 4) (pd_cons (pd_op2n so_mul (pd_lst (pd_cons pd_int pd_nil)) (pd_if (pt_cmp' (so_ne hu) (pd_var (pv 2)) (pd_lst pd_nil) (nomark _)) (pd_ix so_ix (pd_var (pv 2)) pd_int (fun _ _ => rfl)) pd_int)) (pd_cons (pd_slice so_sl (pd_var (pv 0)) (pd_oso (pd_if (pt_cmp' (so_ne hu) (pd_var (pv 2)) (pd_lst pd_nil) (nomark _)) (pd_ix so_ix (pd_var (pv 2)) pd_int (fun _ _ => rfl)) pd_int)) pd_ono) pd_nil)) rfl nd rfl rfl (by decide) rfl rfl (by with_unfolding_all rfl))
    (dss_cons (ds_for PassesOwn.never rfl (pd_enum rfl T.f_enumerate (pd_var (pv 2))) (pd_gt rfl (pd_gcons (pd_gn (pg_name (i := 5) nd rfl (by first | exact Or.inl rfl | exact Or.inr rfl))) (pd_gcons (pd_gn (pg_name (i := 6) nd rfl (by first | exact Or.inl rfl | exact Or.inr rfl))) pd_gnil))) (dss_cons (ds_asg (i := 7) (pd_op2n so_add (pd_var (pv 6)) (pd_if (pt_cmp' so_lt (pd_op2n so_add (pd_var (pv 5)) pd_int) (pd_callB so_len rfl T.f_len bt_len (pd_cons (pd_var (pv 2)) pd_nil)) (nomark _)) (pd_ix so_ix (pd_var (pv 2)) (pd_op2n so_add (pd_var (pv 5)) pd_int) (fun _ _ => rfl)) pd_int)) nd rfl (by first | exact Or.inl rfl | exact Or.inr rfl))
    (dss_one (ds_parA2 (i := 3) (j := 4) (pd_cons (pd_cal C_with_level hr (by decide) rfl (len_cons (len_cons (len_cons len_nil))) (pd_cons (pd_var (pv 3)) (pd_cons (pd_var (pv 5)) (pd_cons (pd_slice so_sl (pd_var (pv 4)) pd_ono (pd_oso (pd_var (pv 7)))) pd_nil)))) (pd_cons (pd_slice so_sl (pd_var (pv 4)) (pd_oso (pd_var (pv 7))) pd_ono) pd_nil)) rfl nd rfl rfl (by decide) rfl rfl (by with_unfolding_all rfl)))))
    (dss_one (ds_ret (pd_var (pv 3)))))))))
    exact h
theorem sc_area_row : FnScope ["path"] ["path"] (defScope s_area_row) := ⟨rfl, rfl, rfl, by decide +kernel, rfl, by decide +kernel, by decide +kernel⟩
theorem ok_area_row (T : Tx mg) {f : Addr} {fd : FuncData} (F : FunD K "area_row" "area_row" (defArgs s_area_row) (defBody s_area_row) (defScope s_area_row) [] [] f fd) (C_need_path : Cal P w K mg base "need_path" 1 m_need_path 3) (C_row_in : Cal P w K mg base "row_in" 1 m_row_in 1) : FnOk P w K mg base CX0 4 f fd ["path"] (spM K 1 m_area_row) := by
    have h := fn_ok (P := P) (w := w) (mg := mg) (base := base) (k := 3) (f := b_area_row) F sc_area_row (by decide) (fun cdv A outer s H E hr => by
      have nd := (sc_area_row).nd
      have hu : (A.deeper (envOfC "area_row" (defScope s_area_row) s.heap.objs.size f cdv)).units + 65 < cLine := by have := hr.un; omega
      refine PSs.nox ?_
      exact (dss_cons (ds_exp (pd_cal C_need_path hr (by decide) rfl (len_cons len_nil) (pd_cons (pd_var (pv 0)) pd_nil)))
    (dss_one (ds_ret (pd_callTy so_tuple rfl T.f_tuple bt_tuple (pd_cons (pd_cal C_row_in hr (by decide) rfl (len_cons len_nil) (pd_cons (pd_var (pv 0)) pd_nil)) pd_nil))))))
    exact h
theorem sc_path_with_row : FnScope ["row"] ["row"] (defScope s_path_with_row) := ⟨rfl, rfl, rfl, by decide +kernel, rfl, by decide +kernel, by decide +kernel⟩
theorem ok_path_with_row (T : Tx mg) {f : Addr} {fd : FuncData} (F : FunD K "path_with_row" "path_with_row" (defArgs s_path_with_row) (defBody s_path_with_row) (defScope s_path_with_row) [] [] f fd) (C_fits_row : Cal P w K mg base "fits_row" 1 m_fits_row 3) (C_path_in : Cal P w K mg base "path_in" 1 m_path_in 1) : FnOk P w K mg base CX0 4 f fd ["row"] (spM K 1 m_path_with_row) := by
    have h := fn_ok (P := P) (w := w) (mg := mg) (base := base) (k := 3) (f := b_path_with_row) F sc_path_with_row (by decide) (fun cdv A outer s H E hr => by
      have nd := (sc_path_with_row).nd
      have hu : (A.deeper (envOfC "path_with_row" (defScope s_path_with_row) s.heap.objs.size f cdv)).units + 65 < cLine := by have := hr.un; omega
      refine PSs.nox ?_
      exact (dss_cons (ds_if (pt_not' (pt_tru (pd_cal C_fits_row hr (by decide) rfl (len_cons len_nil) (pd_cons (pd_var (pv 0)) pd_nil)) (fun _ => rfl))) (dss_one ds_never) dss_nil)
    (dss_one (ds_ret (pd_cal C_path_in hr (by decide) rfl (len_cons len_nil) (pd_cons (pd_var (pv 0)) pd_nil))))))
    exact h
theorem sc_area_of_path : FnScope ["path"] ["path"] (defScope s_area_of_path) := ⟨rfl, rfl, rfl, by decide +kernel, rfl, by decide +kernel, by decide +kernel⟩
theorem ok_area_of_path (T : Tx mg) {f : Addr} {fd : FuncData} (F : FunD K "area_of_path" "area_of_path" (defArgs s_area_of_path) (defBody s_area_of_path) (defScope s_area_of_path) [] [] f fd) (C_need_path : Cal P w K mg base "need_path" 1 m_need_path 3) (C_row_in : Cal P w K mg base "row_in" 1 m_row_in 1) : FnOk P w K mg base CX0 4 f fd ["path"] (spM K 1 m_area_of_path) := by
    have h := fn_ok (P := P) (w := w) (mg := mg) (base := base) (k := 3) (f := b_area_of_path) F sc_area_of_path (by decide) (fun cdv A outer s H E hr => by
      have nd := (sc_area_of_path).nd
      have hu : (A.deeper (envOfC "area_of_path" (defScope s_area_of_path) s.heap.objs.size f cdv)).units + 65 < cLine := by have := hr.un; omega
      refine PSs.nox ?_
      exact (dss_cons (ds_exp (pd_cal C_need_path hr (by decide) rfl (len_cons len_nil) (pd_cons (pd_var (pv 0)) pd_nil)))
    (dss_one (ds_ret (pd_callB (so_sum rfl) rfl T.f_sum bt_sum (pd_cons (pd_cal C_row_in hr (by decide) rfl (len_cons len_nil) (pd_cons (pd_var (pv 0)) pd_nil)) pd_nil))))))
    exact h
theorem sc_pair_weight : FnScope ["path"] ["path"] (defScope s_pair_weight) := ⟨rfl, rfl, rfl, by decide +kernel, rfl, by decide +kernel, by decide +kernel⟩
theorem ok_pair_weight (T : Tx mg) {f : Addr} {fd : FuncData} (F : FunD K "pair_weight" "pair_weight" (defArgs s_pair_weight) (defBody s_pair_weight) (defScope s_pair_weight) [] [] f fd) (C_need_path : Cal P w K mg base "need_path" 1 m_need_path 3) (C_pairs_in : Cal P w K mg base "pairs_in" 1 m_pairs_in 1) (C_row_in : Cal P w K mg base "row_in" 1 m_row_in 1) : FnOk P w K mg base CX0 4 f fd ["path"] (spM K 1 m_pair_weight) := by
    have h := fn_ok (P := P) (w := w) (mg := mg) (base := base) (k := 3) (f := b_pair_weight) F sc_pair_weight (by decide) (fun cdv A outer s H E hr => by
      have nd := (sc_pair_weight).nd
      have hu : (A.deeper (envOfC "pair_weight" (defScope s_pair_weight) s.heap.objs.size f cdv)).units + 65 < cLine := by have := hr.un; omega
      refine PSs.nox ?_
      exact (dss_cons (ds_exp (pd_cal C_need_path hr (by decide) rfl (len_cons len_nil) (pd_cons (pd_var (pv 0)) pd_nil)))
    (dss_one (ds_ret (pd_cal C_pairs_in hr (by decide) rfl (len_cons len_nil) (pd_cons (pd_cal C_row_in hr (by decide) rfl (len_cons len_nil) (pd_cons (pd_var (pv 0)) pd_nil)) pd_nil))))))
    exact h
theorem sc_bounces_of : FnScope ["path"] ["path"] (defScope s_bounces_of) := ⟨rfl, rfl, rfl, by decide +kernel, rfl, by decide +kernel, by decide +kernel⟩
theorem ok_bounces_of (T : Tx mg) {f : Addr} {fd : FuncData} (F : FunD K "bounces_of" "bounces_of" (defArgs s_bounces_of) (defBody s_bounces_of) (defScope s_bounces_of) [] [] f fd) (C_need_path : Cal P w K mg base "need_path" 1 m_need_path 3) (C_bounces_in : Cal P w K mg base "bounces_in" 1 m_bounces_in 2) : FnOk P w K mg base CX0 4 f fd ["path"] (spM K 1 m_bounces_of) := by
    have h := fn_ok (P := P) (w := w) (mg := mg) (base := base) (k := 3) (f := b_bounces_of) F sc_bounces_of (by decide) (fun cdv A outer s H E hr => by
      have nd := (sc_bounces_of).nd
      have hu : (A.deeper (envOfC "bounces_of" (defScope s_bounces_of) s.heap.objs.size f cdv)).units + 65 < cLine := by have := hr.un; omega
      refine PSs.nox ?_
      exact (dss_cons (ds_exp (pd_cal C_need_path hr (by decide) rfl (len_cons len_nil) (pd_cons (pd_var (pv 0)) pd_nil)))
    (dss_one (ds_ret (pd_callTy so_tuple rfl T.f_tuple bt_tuple (pd_cons (pd_cal C_bounces_in hr (by decide) rfl (len_cons len_nil) (pd_cons (pd_var (pv 0)) pd_nil)) pd_nil))))))
    exact h
theorem sc_bounce_weight : FnScope ["path"] ["path"] (defScope s_bounce_weight) := ⟨rfl, rfl, rfl, by decide +kernel, rfl, by decide +kernel, by decide +kernel⟩
theorem ok_bounce_weight (T : Tx mg) {f : Addr} {fd : FuncData} (F : FunD K "bounce_weight" "bounce_weight" (defArgs s_bounce_weight) (defBody s_bounce_weight) (defScope s_bounce_weight) [] [] f fd) (C_need_path : Cal P w K mg base "need_path" 1 m_need_path 3) (C_bounce_weight_in : Cal P w K mg base "bounce_weight_in" 1 m_bounce_weight_in 3) : FnOk P w K mg base CX0 4 f fd ["path"] (spM K 1 m_bounce_weight) := by
    have h := fn_ok (P := P) (w := w) (mg := mg) (base := base) (k := 3) (f := b_bounce_weight) F sc_bounce_weight (by decide) (fun cdv A outer s H E hr => by
      have nd := (sc_bounce_weight).nd
      have hu : (A.deeper (envOfC "bounce_weight" (defScope s_bounce_weight) s.heap.objs.size f cdv)).units + 65 < cLine := by have := hr.un; omega
      refine PSs.nox ?_
      exact (dss_cons (ds_exp (pd_cal C_need_path hr (by decide) rfl (len_cons len_nil) (pd_cons (pd_var (pv 0)) pd_nil)))
    (dss_one (ds_ret (pd_cal C_bounce_weight_in hr (by decide) rfl (len_cons len_nil) (pd_cons (pd_var (pv 0)) pd_nil))))))
    exact h
theorem sc_swept_path : FnScope ["path"] ["path"] (defScope s_swept_path) := ⟨rfl, rfl, rfl, by decide +kernel, rfl, by decide +kernel, by decide +kernel⟩
theorem ok_swept_path (T : Tx mg) {f : Addr} {fd : FuncData} (F : FunD K "swept_path" "swept_path" (defArgs s_swept_path) (defBody s_swept_path) (defScope s_swept_path) [] [] f fd) (C_need_path : Cal P w K mg base "need_path" 1 m_need_path 3) (C_swept_in : Cal P w K mg base "swept_in" 1 m_swept_in 1) (C_row_in : Cal P w K mg base "row_in" 1 m_row_in 1) : FnOk P w K mg base CX0 4 f fd ["path"] (spM K 1 m_swept_path) := by
    have h := fn_ok (P := P) (w := w) (mg := mg) (base := base) (k := 3) (f := b_swept_path) F sc_swept_path (by decide) (fun cdv A outer s H E hr => by
      have nd := (sc_swept_path).nd
      have hu : (A.deeper (envOfC "swept_path" (defScope s_swept_path) s.heap.objs.size f cdv)).units + 65 < cLine := by have := hr.un; omega
      refine PSs.nox ?_
      exact (dss_cons (ds_exp (pd_cal C_need_path hr (by decide) rfl (len_cons len_nil) (pd_cons (pd_var (pv 0)) pd_nil)))
    (dss_one (ds_ret (pd_cal C_swept_in hr (by decide) rfl (len_cons len_nil) (pd_cons (pd_cal C_row_in hr (by decide) rfl (len_cons len_nil) (pd_cons (pd_var (pv 0)) pd_nil)) pd_nil))))))
    exact h
theorem sc_unswept_path : FnScope ["path"] ["path"] (defScope s_unswept_path) := ⟨rfl, rfl, rfl, by decide +kernel, rfl, by decide +kernel, by decide +kernel⟩
theorem ok_unswept_path (T : Tx mg) {f : Addr} {fd : FuncData} (F : FunD K "unswept_path" "unswept_path" (defArgs s_unswept_path) (defBody s_unswept_path) (defScope s_unswept_path) [] [] f fd) (C_need_path : Cal P w K mg base "need_path" 1 m_need_path 3) (C_path_in : Cal P w K mg base "path_in" 1 m_path_in 1) (C_unswept_in : Cal P w K mg base "unswept_in" 1 m_unswept_in 3) : FnOk P w K mg base CX0 4 f fd ["path"] (spM K 1 m_unswept_path) := by
    have h := fn_ok (P := P) (w := w) (mg := mg) (base := base) (k := 3) (f := b_unswept_path) F sc_unswept_path (by decide) (fun cdv A outer s H E hr => by
      have nd := (sc_unswept_path).nd
      have hu : (A.deeper (envOfC "unswept_path" (defScope s_unswept_path) s.heap.objs.size f cdv)).units + 65 < cLine := by have := hr.un; omega
      refine PSs.nox ?_
      exact (dss_cons (ds_exp (pd_cal C_need_path hr (by decide) rfl (len_cons len_nil) (pd_cons (pd_var (pv 0)) pd_nil)))
    (dss_one (ds_ret (pd_cal C_path_in hr (by decide) rfl (len_cons len_nil) (pd_cons (pd_cal C_unswept_in hr (by decide) rfl (len_cons len_nil) (pd_cons (pd_var (pv 0)) pd_nil)) pd_nil))))))
    exact h
theorem sc__law_cup : FnScope ["script", "cell"] ["script"] (defScope s__law_cup) := ⟨rfl, rfl, rfl, by decide +kernel, rfl, by decide +kernel, by decide +kernel⟩
theorem ok__law_cup (T : Tx mg) {f : Addr} {fd : FuncData} (F : FunD K "_law_cup" "_law_cup" (defArgs s__law_cup) (defBody s__law_cup) (defScope s__law_cup) [] [] f fd)  : FnOk P w K mg base CX0 1 f fd ["script"] (spM K 1 m__law_cup) := by
    have h := fn_ok (P := P) (w := w) (mg := mg) (base := base) (k := 0) (f := b__law_cup) F sc__law_cup (by decide) (fun cdv A outer s H E hr => by
      have nd := (sc__law_cup).nd
      have hu : (A.deeper (envOfC "_law_cup" (defScope s__law_cup) s.heap.objs.size f cdv)).units + 65 < cLine := by have := hr.un; omega
      refine PSs.nox ?_
      exact (dss_cons (ds_asg (i := 1) (pd_callB so_abs rfl T.f_abs bt_abs (pd_cons (pd_ix so_ix (pd_op2n so_add (pd_callTyn (so_list rfl) rfl T.f_list bt_list (pd_cons (pd_var (pv 0)) pd_nil)) (pd_lst (pd_cons pd_int pd_nil))) pd_int (fun _ _ => rfl)) pd_nil)) nd rfl (by first | exact Or.inl rfl | exact Or.inr rfl))
    (dss_one (ds_ret (pd_lst (pd_cons (pd_if (pt_cmp' so_ge (pd_var (pv 1)) (pd_op2 so_pow pd_int pd_int) (nomark _)) (pd_op2 so_fdiv (pd_var (pv 1)) pd_int) pd_int) (pd_cons (pd_op2n so_add (pd_op2 so_mod (pd_callTy so_int rfl T.f_int bt_int (pd_cons (pd_op2n so_add (pd_op2n so_mul (pd_var (pv 1)) pd_int) pd_int) pd_nil)) pd_int) pd_int) pd_nil)))))))
    exact h
theorem sc__law_roll : FnScope ["cup", "many", "deep", "found"] ["cup", "many"] (defScope s__law_roll) := ⟨rfl, rfl, rfl, by decide +kernel, rfl, by decide +kernel, by decide +kernel⟩
theorem ok__law_roll (T : Tx mg) {f : Addr} {fd : FuncData} (F : FunD K "_law_roll" "_law_roll" (defArgs s__law_roll) (defBody s__law_roll) (defScope s__law_roll) [] [] f fd)  : FnOk P w K mg base CX0 1 f fd ["cup", "many"] (spM K 2 m__law_roll) := by
    have h := fn_ok (P := P) (w := w) (mg := mg) (base := base) (k := 0) (f := b__law_roll) F sc__law_roll (by decide) (fun cdv A outer s H E hr => by
      have nd := (sc__law_roll).nd
      have hu : (A.deeper (envOfC "_law_roll" (defScope s__law_roll) s.heap.objs.size f cdv)).units + 65 < cLine := by have := hr.un; omega
      refine PSs.nox ?_
      exact (dss_cons (ds_if (pt_cmp' so_gt (pd_ix so_ix (pd_var (pv 0)) pd_int (fun _ _ => rfl)) pd_int (nomark _)) (dss_cons (ds_asg (i := 3) (pd_op2 so_mod (pd_callTy so_int rfl T.f_int bt_int (pd_cons (pd_ix so_ix (pd_var (pv 0)) pd_int (fun _ _ => rfl)) pd_nil)) (pd_var (pv 1))) nd rfl (by first | exact Or.inl rfl | exact Or.inr rfl))
    (dss_cons (ds_setix (i := 0) (pv 0) (pd_op2 so_fdiv (pd_ix so_ix (pd_var (pv 0)) pd_int (fun _ _ => rfl)) (pd_var (pv 1))) pd_int)
    (dss_one (ds_ret (pd_var (pv 3)))))) dss_nil)
    (dss_cons (ds_setix (i := 0) (pv 0) (pd_op2 so_mod (pd_callTy so_int rfl T.f_int bt_int (pd_cons (pd_op2n so_add (pd_op2n so_mul (pd_ix so_ix (pd_var (pv 0)) pd_int (fun _ _ => rfl)) pd_int) pd_int) pd_nil)) pd_int) pd_int)
    (dss_cons (ds_asg (i := 2) (pd_op2 so_mod (pd_callTy so_int rfl T.f_int bt_int (pd_cons (pd_op2n so_mul (pd_ix so_ix (pd_var (pv 0)) pd_int (fun _ _ => rfl)) (pd_op2n so_add (pd_ix so_ix (pd_var (pv 0)) pd_int (fun _ _ => rfl)) pd_int)) pd_nil)) pd_int) nd rfl (by first | exact Or.inl rfl | exact Or.inr rfl))
    (dss_one (ds_ret (pd_op2 so_mod (pd_callTy so_int rfl T.f_int bt_int (pd_cons (pd_op2 so_fdiv (pd_var (pv 2)) pd_int) pd_nil)) (pd_var (pv 1)))))))))
    exact h
theorem sc__law_sort : FnScope ["value"] ["value"] (defScope s__law_sort) := ⟨rfl, rfl, rfl, by decide +kernel, rfl, by decide +kernel, by decide +kernel⟩
theorem ok__law_sort (T : Tx mg) {f : Addr} {fd : FuncData} (F : FunD K "_law_sort" "_law_sort" (defArgs s__law_sort) (defBody s__law_sort) (defScope s__law_sort) [] [] f fd)  : FnOk P w K mg base CX0 1 f fd ["value"] (spM K 1 m__law_sort) := by
    have h := fn_ok (P := P) (w := w) (mg := mg) (base := base) (k := 0) (f := b__law_sort) F sc__law_sort (by decide) (fun cdv A outer s H E hr => by
      have nd := (sc__law_sort).nd
      have hu : (A.deeper (envOfC "_law_sort" (defScope s__law_sort) s.heap.objs.size f cdv)).units + 65 < cLine := by have := hr.un; omega
      refine PSs.nox ?_
      exact (dss_cons (ds_if (pw_pt (pw_or' (pt_cmp' so_is (pd_var (pv 0)) pd_non (nomark _)) (pw_one (pt_tru (pd_isi isi_bool rfl T.f_isinstance bt_isinstance (pe_bltn (v := .ty "bool") rfl T.f_bool bt_bool rfl) (pd_var (pv 0))) (fun _ => rfl))))) (dss_one (ds_ret (pd_if (pt_cmp' so_is (pd_var (pv 0)) pd_non (nomark _)) pd_int pd_int))) dss_nil)
    (dss_cons (ds_if (pw_pt (pw_or' (pt_tru (pd_isi isi_int rfl T.f_isinstance bt_isinstance (pe_bltn (v := .ty "int") rfl T.f_int bt_int rfl) (pd_var (pv 0))) (fun _ => rfl)) (pw_one (pt_tru (pd_isi isi_str rfl T.f_isinstance bt_isinstance (pe_bltn (v := .ty "str") rfl T.f_str bt_str rfl) (pd_var (pv 0))) (fun _ => rfl))))) (dss_one (ds_ret (pd_if (pt_tru (pd_isi isi_int rfl T.f_isinstance bt_isinstance (pe_bltn (v := .ty "int") rfl T.f_int bt_int rfl) (pd_var (pv 0))) (fun _ => rfl)) pd_int pd_int))) dss_nil)
    (dss_one (ds_ret (pd_if (pt_tru (pd_isi isi_tuple rfl T.f_isinstance bt_isinstance (pe_bltn (v := .ty "tuple") rfl T.f_tuple bt_tuple rfl) (pd_var (pv 0))) (fun _ => rfl)) pd_int (pd_if (pt_tru (pd_isi isi_list rfl T.f_isinstance bt_isinstance (pe_bltn (v := .ty "list") rfl T.f_list bt_list rfl) (pd_var (pv 0))) (fun _ => rfl)) pd_int pd_int)))))))
    exact h
theorem sc__law_like : FnScope ["one", "other", "sort", "first", "second"] ["one", "other"] (defScope s__law_like) := ⟨rfl, rfl, rfl, by decide +kernel, rfl, by decide +kernel, by decide +kernel⟩
theorem rk__law_like (T : Tx mg) {f : Addr} {fd : FuncData} (F : FunD K "_law_like" "_law_like" (defArgs s__law_like) (defBody s__law_like) (defScope s__law_like) [] [] f fd) (hmg : mg "_law_like" = some (.ref f)) (hb : Binds K fd ["one", "other"] []) (C__law_sort : Cal P w K mg base "_law_sort" 1 m__law_sort 1) : ∀ d : Nat, FnOk P w K mg base CX0 (1 + d) f fd ["one", "other"] (spM K 2 (r__law_like d))
  | 0 => fn_none rfl
  | d + 1 => by
    have C__law_like : Cal P w K mg base "_law_like" 2 (r__law_like d) (1 + d) := ⟨_, _, _, rk__law_like T F hmg hb C__law_sort d, hmg, F.kp, hb⟩
    have h := fn_ok (P := P) (w := w) (mg := mg) (base := base) (k := 1 + d) (f := b__law_like (r__law_like d)) F sc__law_like (by decide) (fun cdv A outer s H E hr => by
      have nd := (sc__law_like).nd
      have hu : (A.deeper (envOfC "_law_like" (defScope s__law_like) s.heap.objs.size f cdv)).units + 65 < cLine := by have := hr.un; omega
      refine PSs.nox ?_
      exact (dss_cons (ds_asg (i := 2) (pd_cal C__law_sort hr (by omega) rfl (len_cons len_nil) (pd_cons (pd_var (pv 1)) pd_nil)) nd rfl (by first | exact Or.inl rfl | exact Or.inr rfl))
    (dss_cons (ds_if (pw_pt (pw_or' (pt_cmp' (so_ne hu) (pd_cal C__law_sort hr (by omega) rfl (len_cons len_nil) (pd_cons (pd_var (pv 0)) pd_nil)) (pd_var (pv 2)) (nomark _)) (pw_one (pt_cmp' (so_eq hu) (pd_var (pv 2)) pd_int (nomark _))))) (dss_one (ds_ret pd_bl)) dss_nil)
    (dss_cons (ds_if (pt_cmp' (so_in hu) (pd_var (pv 2)) (pd_tup (pd_cons pd_int (pd_cons pd_int pd_nil))) (by with_unfolding_all rfl)) (dss_one (ds_ret (pd_and (pd_cmp (so_eq hu) (pd_callB so_len rfl T.f_len bt_len (pd_cons (pd_var (pv 0)) pd_nil)) (pd_callB so_len rfl T.f_len bt_len (pd_cons (pd_var (pv 1)) pd_nil)) (nomark _)) (pd_one (pd_cmp (so_eq hu) (pd_lcE (own := [("first", 3), ("second", 4)]) rfl nd (pd_zip rfl T.f_zip (pd_var (pv 0)) (pd_var (pv 1))) (blkOk_by (by kernel_rfl)) (fun _ _ _ _ _ => (pd_gt rfl (pd_gcons (pd_gn (pg_name (i := 3) nd rfl (by first | exact Or.inl rfl | exact Or.inr rfl))) (pd_gcons (pd_gn (pg_name (i := 4) nd rfl (by first | exact Or.inl rfl | exact Or.inr rfl))) pd_gnil)))) (by decide) (fun _ _ _ _ _ => (pd_tsone (pt_not' (pt_tru (pd_cal C__law_like hr (by omega) rfl (len_cons (len_cons len_nil)) (pd_cons (pd_var (pv 3)) (pd_cons (pd_var (pv 4)) pd_nil))) (fun _ => rfl))))) (fun _ _ _ _ _ => pd_int)) (pd_lst pd_nil) (nomark _)))))) dss_nil)
    (dss_one (ds_ret (pd_cmp (so_eq hu) (pd_var (pv 0)) (pd_var (pv 1)) (nomark _))))))))
    exact h
theorem sc__law_path : FnScope ["cup", "size", "found", "ups", "downs", "up"] ["cup", "size"] (defScope s__law_path) := ⟨rfl, rfl, rfl, by decide +kernel, rfl, by decide +kernel, by decide +kernel⟩
theorem ok__law_path (T : Tx mg) {f : Addr} {fd : FuncData} (F : FunD K "_law_path" "_law_path" (defArgs s__law_path) (defBody s__law_path) (defScope s__law_path) [] [] f fd) (C__law_roll : Cal P w K mg base "_law_roll" 2 m__law_roll 1) : FnOk P w K mg base CX0 2 f fd ["cup", "size"] (spM K 2 m__law_path) := by
    have h := fn_ok (P := P) (w := w) (mg := mg) (base := base) (k := 1) (f := b__law_path) F sc__law_path (by decide) (fun cdv A outer s H E hr => by
      have nd := (sc__law_path).nd
      have hu : (A.deeper (envOfC "_law_path" (defScope s__law_path) s.heap.objs.size f cdv)).units + 65 < cLine := by have := hr.un; omega
      refine PSs.nox ?_
      exact (dss_cons (ds_tgt (pd_tup (pd_cons pd_str (pd_cons pd_int (pd_cons pd_int pd_nil)))) (pd_gt rfl (pd_gcons (pd_gn (pg_name (i := 2) nd rfl (by first | exact Or.inl rfl | exact Or.inr rfl))) (pd_gcons (pd_gn (pg_name (i := 3) nd rfl (by first | exact Or.inl rfl | exact Or.inr rfl))) (pd_gcons (pd_gn (pg_name (i := 4) nd rfl (by first | exact Or.inl rfl | exact Or.inr rfl))) pd_gnil)))))
    (dss_cons (ds_while PassesOwn.never (pt_cmp' so_lt (pd_var (pv 4)) (pd_var (pv 1)) (nomark _)) (dss_cons (ds_asg (i := 5) (pd_and (pd_cmp so_lt (pd_var (pv 3)) (pd_var (pv 1)) (nomark _)) (pd_one (pd_or (pd_cmp (so_eq hu) (pd_var (pv 3)) (pd_var (pv 4)) (nomark _)) (pd_one (pd_cmp (so_eq hu) (pd_cal C__law_roll hr (by decide) rfl (len_cons (len_cons len_nil)) (pd_cons (pd_var (pv 0)) (pd_cons pd_int pd_nil))) pd_int (nomark _)))))) nd rfl (by first | exact Or.inl rfl | exact Or.inr rfl))
    (dss_one (ds_parA3 (i := 2) (j := 3) (l := 4) (pd_cons (pd_op2n so_add (pd_var (pv 2)) (pd_if (pt_tru (pd_var (pv 5)) (fun _ => rfl)) pd_str pd_str)) (pd_cons (pd_op2n so_add (pd_var (pv 3)) (pd_if (pt_tru (pd_var (pv 5)) (fun _ => rfl)) pd_int pd_int)) (pd_cons (pd_op2n so_add (pd_var (pv 4)) (pd_if (pt_tru (pd_var (pv 5)) (fun _ => rfl)) pd_int pd_int)) pd_nil))) rfl nd rfl rfl rfl (by decide) (by decide) (by decide) rfl rfl rfl (by with_unfolding_all rfl)))))
    (dss_one (ds_ret (pd_var (pv 2)))))))
    exact h
theorem sc__law_is_path : FnScope ["value", "heights", "at", "sign"] ["value"] (defScope s__law_is_path) := ⟨rfl, rfl, rfl, by decide +kernel, rfl, by decide +kernel, by decide +kernel⟩
theorem ok__law_is_path (T : Tx mg) {f : Addr} {fd : FuncData} (F : FunD K "_law_is_path" "_law_is_path" (defArgs s__law_is_path) (defBody s__law_is_path) (defScope s__law_is_path) [] [] f fd) (C__law_sort : Cal P w K mg base "_law_sort" 1 m__law_sort 1) : FnOk P w K mg base CX0 2 f fd ["value"] (spM K 1 m__law_is_path) := by
    have h := fn_ok (P := P) (w := w) (mg := mg) (base := base) (k := 1) (f := b__law_is_path) F sc__law_is_path (by decide) (fun cdv A outer s H E hr => by
      have nd := (sc__law_is_path).nd
      have hu : (A.deeper (envOfC "_law_is_path" (defScope s__law_is_path) s.heap.objs.size f cdv)).units + 65 < cLine := by have := hr.un; omega
      refine PSs.nox ?_
      exact (dss_cons (ds_if (pw_pt (pw_or' (pt_cmp' (so_ne hu) (pd_cal C__law_sort hr (by decide) rfl (len_cons len_nil) (pd_cons (pd_var (pv 0)) pd_nil)) pd_int (nomark _)) (pw_or' (pt_cmp' so_gt (pd_callB so_len rfl T.f_len bt_len (pd_cons (pd_var (pv 0)) pd_nil)) pd_int (nomark _)) (pw_one (pt_cmp' (so_ne hu) (pd_lcE (own := [("sign", 3)]) rfl nd (pd_iE (pd_var (pv 0))) (blkOk_by (by kernel_rfl)) (fun _ _ _ _ _ => (pd_gn (pg_name (i := 3) nd rfl (by first | exact Or.inl rfl | exact Or.inr rfl)))) (by decide) (fun _ _ _ _ _ => (pd_tsone (pt_cmp' (so_notIn hu) (pd_var (pv 3)) pd_str (by with_unfolding_all rfl)))) (fun _ _ _ _ _ => (pd_var (pv 3)))) (pd_lst pd_nil) (nomark _)))))) (dss_one (ds_ret pd_bl)) dss_nil)
    (dss_cons (ds_asgLc (i := 1) rfl nd rfl rfl (sw_true rfl rfl rfl (by decide +kernel)) (own := [("at", 2)]) (pd_range1 rfl T.f_range (pd_op2n so_add (pd_callB so_len rfl T.f_len bt_len (pd_cons (pd_var (pv 0)) pd_nil)) pd_int)) (blkOk_by (by kernel_rfl)) (fun _ _ _ _ _ => (pd_gn (pg_name (i := 2) nd rfl (by first | exact Or.inl rfl | exact Or.inr rfl)))) (by decide) (fun _ _ _ _ _ => pd_tsnil) (fun _ _ _ _ _ => (pd_op2 so_sub (pd_bm so_count PySem.F.plainAttrs_str PySem.F.slot_str_count PySem.F.type_str_count (pd_slice so_sl (pd_var (pv 0)) pd_ono (pd_oso (pd_var (pv 2)))) (pd_cons pd_str pd_nil)) (pd_bm so_count PySem.F.plainAttrs_str PySem.F.slot_str_count PySem.F.type_str_count (pd_slice so_sl (pd_var (pv 0)) pd_ono (pd_oso (pd_var (pv 2)))) (pd_cons pd_str pd_nil)))))
    (dss_one (ds_ret (pd_and (pd_cmp so_ge (pd_callB (so_min rfl hu) rfl T.f_min bt_min (pd_cons (pd_var (pv 1)) pd_nil)) pd_int (nomark _)) (pd_one (pd_cmp (so_eq hu) (pd_ix so_ix (pd_var (pv 1)) (pd_neg pd_int) (fun _ _ => rfl)) pd_int (nomark _)))))))))
    exact h
theorem sc__law_area_row : FnScope ["path", "at", "sign"] ["path"] (defScope s__law_area_row) := ⟨rfl, rfl, rfl, by decide +kernel, rfl, by decide +kernel, by decide +kernel⟩
theorem ok__law_area_row (T : Tx mg) {f : Addr} {fd : FuncData} (F : FunD K "_law_area_row" "_law_area_row" (defArgs s__law_area_row) (defBody s__law_area_row) (defScope s__law_area_row) [] [] f fd)  : FnOk P w K mg base CX0 1 f fd ["path"] (spM K 1 m__law_area_row) := by
    have h := fn_ok (P := P) (w := w) (mg := mg) (base := base) (k := 0) (f := b__law_area_row) F sc__law_area_row (by decide) (fun cdv A outer s H E hr => by
      have nd := (sc__law_area_row).nd
      have hu : (A.deeper (envOfC "_law_area_row" (defScope s__law_area_row) s.heap.objs.size f cdv)).units + 65 < cLine := by have := hr.un; omega
      refine PSs.nox ?_
      exact (dss_one (ds_ret (pd_lcE (own := [("at", 1), ("sign", 2)]) rfl nd (pd_enum rfl T.f_enumerate (pd_var (pv 0))) (blkOk_by (by kernel_rfl)) (fun _ _ _ _ _ => (pd_gt rfl (pd_gcons (pd_gn (pg_name (i := 1) nd rfl (by first | exact Or.inl rfl | exact Or.inr rfl))) (pd_gcons (pd_gn (pg_name (i := 2) nd rfl (by first | exact Or.inl rfl | exact Or.inr rfl))) pd_gnil)))) (by decide) (fun _ _ _ _ _ => (pd_tsone (pt_cmp' (so_eq hu) (pd_var (pv 2)) pd_str (nomark _)))) (fun _ _ _ _ _ => (pd_op2 so_sub (pd_bm so_count PySem.F.plainAttrs_str PySem.F.slot_str_count PySem.F.type_str_count (pd_slice so_sl (pd_var (pv 0)) pd_ono (pd_oso (pd_var (pv 1)))) (pd_cons pd_str pd_nil)) (pd_bm so_count PySem.F.plainAttrs_str PySem.F.slot_str_count PySem.F.type_str_count (pd_slice so_sl (pd_var (pv 0)) pd_ono (pd_oso (pd_var (pv 1)))) (pd_cons pd_str pd_nil))))))))
    exact h
theorem sc__law_pair_weight : FnScope ["row", "found", "one", "other"] ["row"] (defScope s__law_pair_weight) := ⟨rfl, rfl, rfl, by decide +kernel, rfl, by decide +kernel, by decide +kernel⟩
theorem ok__law_pair_weight (T : Tx mg) {f : Addr} {fd : FuncData} (F : FunD K "_law_pair_weight" "_law_pair_weight" (defArgs s__law_pair_weight) (defBody s__law_pair_weight) (defScope s__law_pair_weight) [] [] f fd)  : FnOk P w K mg base CX0 1 f fd ["row"] (spM K 1 m__law_pair_weight) := by
    have h := fn_ok (P := P) (w := w) (mg := mg) (base := base) (k := 0) (f := b__law_pair_weight) F sc__law_pair_weight (by decide) (fun cdv A outer s H E hr => by
      have nd := (sc__law_pair_weight).nd
      have hu : (A.deeper (envOfC "_law_pair_weight" (defScope s__law_pair_weight) s.heap.objs.size f cdv)).units + 65 < cLine := by have := hr.un; omega
      refine PSs.nox ?_
      exact (dss_cons (ds_asg (i := 1) pd_int nd rfl (by first | exact Or.inl rfl | exact Or.inr rfl))
    (dss_cons (ds_for PassesOwn.never rfl (pd_range1 rfl T.f_range (pd_callB so_len rfl T.f_len bt_len (pd_cons (pd_var (pv 0)) pd_nil))) (pd_gn (pg_name (i := 2) nd rfl (by first | exact Or.inl rfl | exact Or.inr rfl))) (dss_one (ds_for PassesOwn.never rfl (pd_range2 rfl T.f_range (pd_op2n so_add (pd_var (pv 2)) pd_int) (pd_callB so_len rfl T.f_len bt_len (pd_cons (pd_var (pv 0)) pd_nil))) (pd_gn (pg_name (i := 3) nd rfl (by first | exact Or.inl rfl | exact Or.inr rfl))) (dss_one (ds_asg (i := 1) (pd_op2n so_add (pd_var (pv 1)) (pd_if (pt_cmp' (so_in hu) (pd_op2 so_sub (pd_ix so_ix (pd_var (pv 0)) (pd_var (pv 2)) (fun _ _ => rfl)) (pd_ix so_ix (pd_var (pv 0)) (pd_var (pv 3)) (fun _ _ => rfl))) (pd_tup (pd_cons pd_int (pd_cons pd_int pd_nil))) (by with_unfolding_all rfl)) pd_int pd_int)) nd rfl (by first | exact Or.inl rfl | exact Or.inr rfl))))))
    (dss_one (ds_ret (pd_var (pv 1)))))))
    exact h
theorem sc__law_bounces : FnScope ["path", "rights", "found", "at", "sign"] ["path"] (defScope s__law_bounces) := ⟨rfl, rfl, rfl, by decide +kernel, rfl, by decide +kernel, by decide +kernel⟩
theorem ok__law_bounces (T : Tx mg) {f : Addr} {fd : FuncData} (F : FunD K "_law_bounces" "_law_bounces" (defArgs s__law_bounces) (defBody s__law_bounces) (defScope s__law_bounces) [] [] f fd)  : FnOk P w K mg base CX0 1 f fd ["path"] (spM K 1 m__law_bounces) := by
    have h := fn_ok (P := P) (w := w) (mg := mg) (base := base) (k := 0) (f := b__law_bounces) F sc__law_bounces (by decide) (fun cdv A outer s H E hr => by
      have nd := (sc__law_bounces).nd
      have hu : (A.deeper (envOfC "_law_bounces" (defScope s__law_bounces) s.heap.objs.size f cdv)).units + 65 < cLine := by have := hr.un; omega
      refine PSs.nox ?_
      exact (dss_cons (ds_asgLc (i := 1) rfl nd rfl rfl (sw_true rfl rfl rfl (by decide +kernel)) (own := [("at", 3), ("sign", 4)]) (pd_enum rfl T.f_enumerate (pd_var (pv 0))) (blkOk_by (by kernel_rfl)) (fun _ _ _ _ _ => (pd_gt rfl (pd_gcons (pd_gn (pg_name (i := 3) nd rfl (by first | exact Or.inl rfl | exact Or.inr rfl))) (pd_gcons (pd_gn (pg_name (i := 4) nd rfl (by first | exact Or.inl rfl | exact Or.inr rfl))) pd_gnil)))) (by decide) (fun _ _ _ _ _ => (pd_tsone (pt_cmp' (so_eq hu) (pd_var (pv 4)) pd_str (nomark _)))) (fun _ _ _ _ _ => (pd_var (pv 3))))
    (dss_cons (ds_new (i := 2) (pd_lst (pd_cons pd_int pd_nil)) nd rfl (by first | exact Or.inl rfl | exact Or.inr rfl))
    (dss_cons (ds_while PassesOwn.never (pt_cmp' so_lt (pd_ix so_ix (pd_var (pv 2)) (pd_neg pd_int) (fun _ _ => rfl)) (pd_callB so_len rfl T.f_len bt_len (pd_cons (pd_var (pv 1)) pd_nil)) (nomark _)) (dss_one (ds_app (i := 2) (pv 2) (pd_bm so_count PySem.F.plainAttrs_str PySem.F.slot_str_count PySem.F.type_str_count (pd_slice so_sl (pd_var (pv 0)) pd_ono (pd_oso (pd_ix so_ix (pd_var (pv 1)) (pd_ix so_ix (pd_var (pv 2)) (pd_neg pd_int) (fun _ _ => rfl)) (fun _ _ => rfl)))) (pd_cons pd_str pd_nil)))))
    (dss_one (ds_ret (pd_var (pv 2))))))))
    exact h
theorem sc__law_all_paths : FnScope ["size", "found", "turn", "longer", "path", "ups", "downs"] ["size"] (defScope s__law_all_paths) := ⟨rfl, rfl, rfl, by decide +kernel, rfl, by decide +kernel, by decide +kernel⟩
theorem ok__law_all_paths (T : Tx mg) {f : Addr} {fd : FuncData} (F : FunD K "_law_all_paths" "_law_all_paths" (defArgs s__law_all_paths) (defBody s__law_all_paths) (defScope s__law_all_paths) [] [] f fd)  : FnOk P w K mg base CX0 1 f fd ["size"] (spM K 1 m__law_all_paths) := by
    have h := fn_ok (P := P) (w := w) (mg := mg) (base := base) (k := 0) (f := b__law_all_paths) F sc__law_all_paths (by decide) (fun cdv A outer s H E hr => by
      have nd := (sc__law_all_paths).nd
      have hu : (A.deeper (envOfC "_law_all_paths" (defScope s__law_all_paths) s.heap.objs.size f cdv)).units + 65 < cLine := by have := hr.un; omega
      refine PSs.nox ?_
      exact (dss_cons (ds_asg (i := 1) (pd_lst (pd_cons pd_str pd_nil)) nd rfl (by first | exact Or.inl rfl | exact Or.inr rfl))
    (dss_cons (ds_for PassesOwn.never rfl (pd_range1 rfl T.f_range (pd_op2n so_mul pd_int (pd_var (pv 0)))) (pd_gn (pg_name (i := 2) nd rfl (by first | exact Or.inl rfl | exact Or.inr rfl))) (dss_cons (ds_asg (i := 3) (pd_lst pd_nil) nd rfl (by first | exact Or.inl rfl | exact Or.inr rfl))
    (dss_cons (ds_for PassesOwn.never rfl (pd_iE (pd_var (pv 1))) (pd_gn (pg_name (i := 4) nd rfl (by first | exact Or.inl rfl | exact Or.inr rfl))) (dss_cons (ds_parA2 (i := 5) (j := 6) (pd_cons (pd_bm so_count PySem.F.plainAttrs_str PySem.F.slot_str_count PySem.F.type_str_count (pd_var (pv 4)) (pd_cons pd_str pd_nil)) (pd_cons (pd_bm so_count PySem.F.plainAttrs_str PySem.F.slot_str_count PySem.F.type_str_count (pd_var (pv 4)) (pd_cons pd_str pd_nil)) pd_nil)) rfl nd rfl rfl (by decide) rfl rfl (by with_unfolding_all rfl))
    (dss_one (ds_asg (i := 3) (pd_op2n so_add (pd_op2n so_add (pd_var (pv 3)) (pd_if (pt_cmp' so_lt (pd_var (pv 6)) (pd_var (pv 5)) (nomark _)) (pd_lst (pd_cons (pd_op2n so_add (pd_var (pv 4)) pd_str) pd_nil)) (pd_lst pd_nil))) (pd_if (pt_cmp' so_lt (pd_var (pv 5)) (pd_var (pv 0)) (nomark _)) (pd_lst (pd_cons (pd_op2n so_add (pd_var (pv 4)) pd_str) pd_nil)) (pd_lst pd_nil))) nd rfl (by first | exact Or.inl rfl | exact Or.inr rfl)))))
    (dss_one (ds_asg (i := 1) (pd_var (pv 3)) nd rfl (by first | exact Or.inl rfl | exact Or.inr rfl))))))
    (dss_one (ds_ret (pd_var (pv 1)))))))
    exact h
theorem sc__law_swept : FnScope ["path", "row", "found", "level", "own"] ["path"] (defScope s__law_swept) := ⟨rfl, rfl, rfl, by decide +kernel, rfl, by decide +kernel, by decide +kernel⟩
theorem ok__law_swept (T : Tx mg) {f : Addr} {fd : FuncData} (F : FunD K "_law_swept" "_law_swept" (defArgs s__law_swept) (defBody s__law_swept) (defScope s__law_swept) [] [] f fd) (C__law_area_row : Cal P w K mg base "_law_area_row" 1 m__law_area_row 1) : FnOk P w K mg base CX0 2 f fd ["path"] (spM K 1 m__law_swept) := by
    have h := fn_ok (P := P) (w := w) (mg := mg) (base := base) (k := 1) (f := b__law_swept) F sc__law_swept (by decide) (fun cdv A outer s H E hr => by
      have nd := (sc__law_swept).nd
      have hu : (A.deeper (envOfC "_law_swept" (defScope s__law_swept) s.heap.objs.size f cdv)).units + 65 < cLine := by have := hr.un; omega
      refine PSs.nox ?_
      exact (dss_cons (ds_asg (i := 1) (pd_cal C__law_area_row hr (by decide) rfl (len_cons len_nil) (pd_cons (pd_var (pv 0)) pd_nil)) nd rfl (by first | exact Or.inl rfl | exact Or.inr rfl))
    (dss_cons (ds_asg (i := 2) (pd_op2n so_mul pd_str (pd_callB so_len rfl T.f_len bt_len (pd_cons (pd_lcE (own := [("own", 4)]) rfl nd (pd_iE (pd_var (pv 1))) (blkOk_by (by kernel_rfl)) (fun _ _ _ _ _ => (pd_gn (pg_name (i := 4) nd rfl (by first | exact Or.inl rfl | exact Or.inr rfl)))) (by decide) (fun _ _ _ _ _ => (pd_tsone (pt_cmp' (so_eq hu) (pd_var (pv 4)) pd_int (nomark _)))) (fun _ _ _ _ _ => (pd_var (pv 4)))) pd_nil))) nd rfl (by first | exact Or.inl rfl | exact Or.inr rfl))
    (dss_cons (ds_for PassesOwn.never rfl (pd_range1 rfl T.f_range (pd_callB so_len rfl T.f_len bt_len (pd_cons (pd_var (pv 1)) pd_nil))) (pd_gn (pg_name (i := 3) nd rfl (by first | exact Or.inl rfl | exact Or.inr rfl))) (dss_one (ds_for PassesOwn.never rfl (pd_iE (pd_var (pv 1))) (pd_gn (pg_name (i := 4) nd rfl (by first | exact Or.inl rfl | exact Or.inr rfl))) (dss_one (ds_if (pt_cmp' (so_eq hu) (pd_var (pv 4)) (pd_var (pv 3)) (nomark _)) (dss_one (ds_asg (i := 2) (pd_op2n so_add (pd_var (pv 2)) pd_str) nd rfl (by first | exact Or.inl rfl | exact Or.inr rfl))) (dss_one (ds_if (pt_cmp' (so_eq hu) (pd_var (pv 4)) (pd_op2n so_add (pd_var (pv 3)) pd_int) (nomark _)) (dss_one (ds_asg (i := 2) (pd_op2n so_add (pd_var (pv 2)) pd_str) nd rfl (by first | exact Or.inl rfl | exact Or.inr rfl))) dss_nil)))))))
    (dss_one (ds_ret (pd_var (pv 2))))))))
    exact h
theorem sc__law_right : FnScope ["path", "told", "bounces", "back", "row", "due", "level", "own", "later"] ["path"] (defScope s__law_right) := ⟨rfl, rfl, rfl, by decide +kernel, rfl, by decide +kernel, by decide +kernel⟩
theorem ok__law_right (T : Tx mg) {f : Addr} {fd : FuncData} (F : FunD K "_law_right" "_law_right" (defArgs s__law_right) (defBody s__law_right) (defScope s__law_right) [] [] f fd) (C__law_swept : Cal P w K mg base "_law_swept" 1 m__law_swept 2) (C__law_area_row : Cal P w K mg base "_law_area_row" 1 m__law_area_row 1) (C__law_is_path : Cal P w K mg base "_law_is_path" 1 m__law_is_path 2) (C__law_like : Cal P w K mg base "_law_like" 2 m__law_like 9) (C_unswept_path : Cal P w K mg base "unswept_path" 1 m_unswept_path 4) (C_swept_path : Cal P w K mg base "swept_path" 1 m_swept_path 4) (C_pair_weight : Cal P w K mg base "pair_weight" 1 m_pair_weight 4) (C_area_of_path : Cal P w K mg base "area_of_path" 1 m_area_of_path 4) (C_bounce_weight : Cal P w K mg base "bounce_weight" 1 m_bounce_weight 4) (C__law_pair_weight : Cal P w K mg base "_law_pair_weight" 1 m__law_pair_weight 1) (C__law_bounces : Cal P w K mg base "_law_bounces" 1 m__law_bounces 1) (C_bounces_of : Cal P w K mg base "bounces_of" 1 m_bounces_of 4) : FnOk P w K mg base CX0 10 f fd ["path"] (spM K 1 m__law_right) := by
    have h := fn_ok (P := P) (w := w) (mg := mg) (base := base) (k := 9) (f := b__law_right) F sc__law_right (by decide) (fun cdv A outer s H E hr => by
      have nd := (sc__law_right).nd
      have hu : (A.deeper (envOfC "_law_right" (defScope s__law_right) s.heap.objs.size f cdv)).units + 65 < cLine := by have := hr.un; omega
      refine PSs.nox ?_
      exact (dss_cons (ds_tgt (pd_tup (pd_cons (pd_cal C__law_area_row hr (by decide) rfl (len_cons len_nil) (pd_cons (pd_var (pv 0)) pd_nil)) (pd_cons (pd_cal C__law_swept hr (by decide) rfl (len_cons len_nil) (pd_cons (pd_var (pv 0)) pd_nil)) pd_nil))) (pd_gt rfl (pd_gcons (pd_gn (pg_name (i := 4) nd rfl (by first | exact Or.inl rfl | exact Or.inr rfl))) (pd_gcons (pd_gn (pg_name (i := 5) nd rfl (by first | exact Or.inl rfl | exact Or.inr rfl))) pd_gnil))))
    (dss_cons (ds_if (pw_pt (pw_or' (pt_not' (pt_tru (pd_cal C__law_is_path hr (by decide) rfl (len_cons len_nil) (pd_cons (pd_var (pv 5)) pd_nil)) (fun _ => rfl))) (pw_one (pt_not' (pt_tru (pd_cal C__law_like hr (by decide) rfl (len_cons (len_cons len_nil)) (pd_cons (pd_lst (pd_cons (pd_cal C_swept_path hr (by decide) rfl (len_cons len_nil) (pd_cons (pd_var (pv 0)) pd_nil)) (pd_cons (pd_cal C_unswept_path hr (by decide) rfl (len_cons len_nil) (pd_cons (pd_var (pv 5)) pd_nil)) pd_nil))) (pd_cons (pd_lst (pd_cons (pd_var (pv 5)) (pd_cons (pd_var (pv 0)) pd_nil))) pd_nil))) (fun _ => rfl)))))) (dss_one (ds_ret pd_bl)) dss_nil)
    (dss_cons (ds_asg (i := 1) (pd_lst (pd_cons (pd_cal C_area_of_path hr (by decide) rfl (len_cons len_nil) (pd_cons (pd_var (pv 5)) pd_nil)) (pd_cons (pd_cal C_bounce_weight hr (by decide) rfl (len_cons len_nil) (pd_cons (pd_var (pv 5)) pd_nil)) (pd_cons (pd_cal C_area_of_path hr (by decide) rfl (len_cons len_nil) (pd_cons (pd_var (pv 0)) pd_nil)) (pd_cons (pd_cal C_pair_weight hr (by decide) rfl (len_cons len_nil) (pd_cons (pd_var (pv 0)) pd_nil)) pd_nil))))) nd rfl (by first | exact Or.inl rfl | exact Or.inr rfl))
    (dss_cons (ds_if (pt_not' (pt_tru (pd_cal C__law_like hr (by decide) rfl (len_cons (len_cons len_nil)) (pd_cons (pd_var (pv 1)) (pd_cons (pd_lst (pd_cons (pd_cal C__law_pair_weight hr (by decide) rfl (len_cons len_nil) (pd_cons (pd_var (pv 4)) pd_nil)) (pd_cons (pd_callB (so_sum rfl) rfl T.f_sum bt_sum (pd_cons (pd_var (pv 4)) pd_nil)) (pd_cons (pd_callB (so_sum rfl) rfl T.f_sum bt_sum (pd_cons (pd_var (pv 4)) pd_nil)) (pd_cons (pd_cal C__law_pair_weight hr (by decide) rfl (len_cons len_nil) (pd_cons (pd_var (pv 4)) pd_nil)) pd_nil))))) pd_nil))) (fun _ => rfl))) (dss_one (ds_ret pd_bl)) dss_nil)
    (dss_cons (ds_asg (i := 2) (pd_cal C__law_bounces hr (by decide) rfl (len_cons len_nil) (pd_cons (pd_var (pv 5)) pd_nil)) nd rfl (by first | exact Or.inl rfl | exact Or.inr rfl))
    (dss_cons (ds_if (pt_cmp' (so_ne hu) (pd_lcE (own := [("own", 7), ("later", 8)]) rfl nd (pd_zip rfl T.f_zip (pd_var (pv 2)) (pd_slice so_sl (pd_var (pv 2)) (pd_oso pd_int) pd_ono)) (blkOk_by (by kernel_rfl)) (fun _ _ _ _ _ => (pd_gt rfl (pd_gcons (pd_gn (pg_name (i := 7) nd rfl (by first | exact Or.inl rfl | exact Or.inr rfl))) (pd_gcons (pd_gn (pg_name (i := 8) nd rfl (by first | exact Or.inl rfl | exact Or.inr rfl))) pd_gnil)))) (by decide) (fun _ _ _ _ _ => pd_tsnil) (fun _ _ _ _ _ => (pd_op2 so_sub (pd_var (pv 8)) (pd_var (pv 7))))) (pd_lcE (own := [("level", 6)]) rfl nd (pd_range1 rfl T.f_range (pd_op2n so_add (pd_callB (so_max rfl hu) rfl T.f_max bt_max (pd_cons (pd_op2n so_add (pd_lst (pd_cons (pd_neg pd_int) pd_nil)) (pd_var (pv 4))) pd_nil)) pd_int)) (blkOk_by (by kernel_rfl)) (fun _ _ _ _ _ => (pd_gn (pg_name (i := 6) nd rfl (by first | exact Or.inl rfl | exact Or.inr rfl)))) (by decide) (fun _ _ _ _ _ => pd_tsnil) (fun _ _ _ _ _ => (pd_bm so_lcount PySem.F.plainAttrs_list PySem.F.slot_list_count PySem.F.type_list_count (pd_var (pv 4)) (pd_cons (pd_var (pv 6)) pd_nil)))) (nomark _)) (dss_one (ds_ret pd_bl)) dss_nil)
    (dss_cons (ds_asg (i := 3) (pd_cal C_unswept_path hr (by decide) rfl (len_cons len_nil) (pd_cons (pd_var (pv 0)) pd_nil)) nd rfl (by first | exact Or.inl rfl | exact Or.inr rfl))
    (dss_cons (ds_if (pw_pt (pw_or' (pt_not' (pt_tru (pd_cal C__law_is_path hr (by decide) rfl (len_cons len_nil) (pd_cons (pd_var (pv 3)) pd_nil)) (fun _ => rfl))) (pw_or' (pt_cmp' (so_ne hu) (pd_cal C__law_swept hr (by decide) rfl (len_cons len_nil) (pd_cons (pd_var (pv 3)) pd_nil)) (pd_var (pv 0)) (nomark _)) (pw_one (pt_not' (pt_tru (pd_cal C__law_like hr (by decide) rfl (len_cons (len_cons len_nil)) (pd_cons (pd_cal C_bounces_of hr (by decide) rfl (len_cons len_nil) (pd_cons (pd_var (pv 0)) pd_nil)) (pd_cons (pd_callTy so_tuple rfl T.f_tuple bt_tuple (pd_cons (pd_cal C__law_bounces hr (by decide) rfl (len_cons len_nil) (pd_cons (pd_var (pv 0)) pd_nil)) pd_nil)) pd_nil))) (fun _ => rfl))))))) (dss_one (ds_ret pd_bl)) dss_nil)
    (dss_one (ds_ret (pd_cal C__law_like hr (by decide) rfl (len_cons (len_cons len_nil)) (pd_cons (pd_lst (pd_cons (pd_cal C_area_of_path hr (by decide) rfl (len_cons len_nil) (pd_cons (pd_var (pv 3)) pd_nil)) (pd_cons (pd_cal C_pair_weight hr (by decide) rfl (len_cons len_nil) (pd_cons (pd_var (pv 3)) pd_nil)) pd_nil))) (pd_cons (pd_lst (pd_cons (pd_cal C_bounce_weight hr (by decide) rfl (len_cons len_nil) (pd_cons (pd_var (pv 0)) pd_nil)) (pd_cons (pd_cal C_area_of_path hr (by decide) rfl (len_cons len_nil) (pd_cons (pd_var (pv 0)) pd_nil)) pd_nil))) pd_nil))))))))))))))
    exact h
theorem sc__law_all_right : FnScope ["cup", "every", "swept", "pairs", "path", "weight", "area"] ["cup"] (defScope s__law_all_right) := ⟨rfl, rfl, rfl, by decide +kernel, rfl, by decide +kernel, by decide +kernel⟩
theorem ok__law_all_right (T : Tx mg) {f : Addr} {fd : FuncData} (F : FunD K "_law_all_right" "_law_all_right" (defArgs s__law_all_right) (defBody s__law_all_right) (defScope s__law_all_right) [] [] f fd) (C__law_all_paths : Cal P w K mg base "_law_all_paths" 1 m__law_all_paths 1) (C__law_roll : Cal P w K mg base "_law_roll" 2 m__law_roll 1) (C_swept_path : Cal P w K mg base "swept_path" 1 m_swept_path 4) (C_unswept_path : Cal P w K mg base "unswept_path" 1 m_unswept_path 4) (C_area_of_path : Cal P w K mg base "area_of_path" 1 m_area_of_path 4) (C_pair_weight : Cal P w K mg base "pair_weight" 1 m_pair_weight 4) (C_bounce_weight : Cal P w K mg base "bounce_weight" 1 m_bounce_weight 4) : FnOk P w K mg base CX0 5 f fd ["cup"] (spM K 1 m__law_all_right) := by
    have h := fn_ok (P := P) (w := w) (mg := mg) (base := base) (k := 4) (f := b__law_all_right) F sc__law_all_right (by decide) (fun cdv A outer s H E hr => by
      have nd := (sc__law_all_right).nd
      have hu : (A.deeper (envOfC "_law_all_right" (defScope s__law_all_right) s.heap.objs.size f cdv)).units + 65 < cLine := by have := hr.un; omega
      refine PSs.nox ?_
      exact (dss_cons (ds_asg (i := 1) (pd_cal C__law_all_paths hr (by decide) rfl (len_cons len_nil) (pd_cons (pd_cal C__law_roll hr (by decide) rfl (len_cons (len_cons len_nil)) (pd_cons (pd_var (pv 0)) (pd_cons pd_int pd_nil))) pd_nil)) nd rfl (by first | exact Or.inl rfl | exact Or.inr rfl))
    (dss_cons (ds_asgLc (i := 2) rfl nd rfl rfl (sw_true rfl rfl rfl (by decide +kernel)) (own := [("path", 4)]) (pd_iE (pd_var (pv 1))) (blkOk_by (by kernel_rfl)) (fun _ _ _ _ _ => (pd_gn (pg_name (i := 4) nd rfl (by first | exact Or.inl rfl | exact Or.inr rfl)))) (by decide) (fun _ _ _ _ _ => pd_tsnil) (fun _ _ _ _ _ => (pd_cal C_swept_path hr (by decide) rfl (len_cons len_nil) (pd_cons (pd_var (pv 4)) pd_nil))))
    (dss_cons (ds_if (pw_pt (pw_or' (pt_cmp' (so_ne hu) (pd_callBn (so_sortG hu) rfl T.f_sorted bt_sorted (pd_cons (pd_var (pv 2)) pd_nil)) (pd_var (pv 1)) (nomark _)) (pw_one (pt_cmp' (so_ne hu) (pd_lcE (own := [("path", 4)]) rfl nd (pd_iE (pd_var (pv 2))) (blkOk_by (by kernel_rfl)) (fun _ _ _ _ _ => (pd_gn (pg_name (i := 4) nd rfl (by first | exact Or.inl rfl | exact Or.inr rfl)))) (by decide) (fun _ _ _ _ _ => pd_tsnil) (fun _ _ _ _ _ => (pd_cal C_unswept_path hr (by decide) rfl (len_cons len_nil) (pd_cons (pd_var (pv 4)) pd_nil)))) (pd_var (pv 1)) (nomark _))))) (dss_one (ds_ret pd_bl)) dss_nil)
    (dss_cons (ds_asg (i := 3) (pd_callBn (so_sortG hu) rfl T.f_sorted bt_sorted (pd_cons (pd_lcE (own := [("path", 4)]) rfl nd (pd_iE (pd_var (pv 1))) (blkOk_by (by kernel_rfl)) (fun _ _ _ _ _ => (pd_gn (pg_name (i := 4) nd rfl (by first | exact Or.inl rfl | exact Or.inr rfl)))) (by decide) (fun _ _ _ _ _ => pd_tsnil) (fun _ _ _ _ _ => (pd_tup (pd_cons (pd_cal C_pair_weight hr (by decide) rfl (len_cons len_nil) (pd_cons (pd_var (pv 4)) pd_nil)) (pd_cons (pd_cal C_area_of_path hr (by decide) rfl (len_cons len_nil) (pd_cons (pd_var (pv 4)) pd_nil)) pd_nil))))) pd_nil)) nd rfl (by first | exact Or.inl rfl | exact Or.inr rfl))
    (dss_cons (ds_if (pt_cmp' (so_ne hu) (pd_var (pv 3)) (pd_callBn (so_sortG hu) rfl T.f_sorted bt_sorted (pd_cons (pd_lcE (own := [("path", 4)]) rfl nd (pd_iE (pd_var (pv 1))) (blkOk_by (by kernel_rfl)) (fun _ _ _ _ _ => (pd_gn (pg_name (i := 4) nd rfl (by first | exact Or.inl rfl | exact Or.inr rfl)))) (by decide) (fun _ _ _ _ _ => pd_tsnil) (fun _ _ _ _ _ => (pd_tup (pd_cons (pd_cal C_area_of_path hr (by decide) rfl (len_cons len_nil) (pd_cons (pd_var (pv 4)) pd_nil)) (pd_cons (pd_cal C_bounce_weight hr (by decide) rfl (len_cons len_nil) (pd_cons (pd_var (pv 4)) pd_nil)) pd_nil))))) pd_nil)) (nomark _)) (dss_one (ds_ret pd_bl)) dss_nil)
    (dss_one (ds_ret (pd_cmp (so_eq hu) (pd_var (pv 3)) (pd_callBn (so_sortG hu) rfl T.f_sorted bt_sorted (pd_cons (pd_lcE (own := [("weight", 5), ("area", 6)]) rfl nd (pd_iE (pd_var (pv 3))) (blkOk_by (by kernel_rfl)) (fun _ _ _ _ _ => (pd_gt rfl (pd_gcons (pd_gn (pg_name (i := 5) nd rfl (by first | exact Or.inl rfl | exact Or.inr rfl))) (pd_gcons (pd_gn (pg_name (i := 6) nd rfl (by first | exact Or.inl rfl | exact Or.inr rfl))) pd_gnil)))) (by decide) (fun _ _ _ _ _ => pd_tsnil) (fun _ _ _ _ _ => (pd_tup (pd_cons (pd_var (pv 6)) (pd_cons (pd_var (pv 5)) pd_nil))))) pd_nil)) (nomark _))))))))))
    exact h
theorem sc__law_high_path : FnScope ["cup", "size", "found", "ups", "downs", "up"] ["cup", "size"] (defScope s__law_high_path) := ⟨rfl, rfl, rfl, by decide +kernel, rfl, by decide +kernel, by decide +kernel⟩
theorem ok__law_high_path (T : Tx mg) {f : Addr} {fd : FuncData} (F : FunD K "_law_high_path" "_law_high_path" (defArgs s__law_high_path) (defBody s__law_high_path) (defScope s__law_high_path) [] [] f fd) (C__law_roll : Cal P w K mg base "_law_roll" 2 m__law_roll 1) : FnOk P w K mg base CX0 2 f fd ["cup", "size"] (spM K 2 m__law_high_path) := by
    have h := fn_ok (P := P) (w := w) (mg := mg) (base := base) (k := 1) (f := b__law_high_path) F sc__law_high_path (by decide) (fun cdv A outer s H E hr => by
      have nd := (sc__law_high_path).nd
      have hu : (A.deeper (envOfC "_law_high_path" (defScope s__law_high_path) s.heap.objs.size f cdv)).units + 65 < cLine := by have := hr.un; omega
      refine PSs.nox ?_
      exact (dss_cons (ds_tgt (pd_tup (pd_cons pd_str (pd_cons pd_int (pd_cons pd_int pd_nil)))) (pd_gt rfl (pd_gcons (pd_gn (pg_name (i := 2) nd rfl (by first | exact Or.inl rfl | exact Or.inr rfl))) (pd_gcons (pd_gn (pg_name (i := 3) nd rfl (by first | exact Or.inl rfl | exact Or.inr rfl))) (pd_gcons (pd_gn (pg_name (i := 4) nd rfl (by first | exact Or.inl rfl | exact Or.inr rfl))) pd_gnil)))))
    (dss_cons (ds_while PassesOwn.never (pt_cmp' so_lt (pd_var (pv 4)) (pd_var (pv 1)) (nomark _)) (dss_cons (ds_asg (i := 5) (pd_and (pd_cmp so_lt (pd_var (pv 3)) (pd_var (pv 1)) (nomark _)) (pd_one (pd_or (pd_cmp (so_eq hu) (pd_var (pv 3)) (pd_var (pv 4)) (nomark _)) (pd_one (pd_cmp so_gt (pd_cal C__law_roll hr (by decide) rfl (len_cons (len_cons len_nil)) (pd_cons (pd_var (pv 0)) (pd_cons pd_int pd_nil))) pd_int (nomark _)))))) nd rfl (by first | exact Or.inl rfl | exact Or.inr rfl))
    (dss_one (ds_parA3 (i := 2) (j := 3) (l := 4) (pd_cons (pd_op2n so_add (pd_var (pv 2)) (pd_if (pt_tru (pd_var (pv 5)) (fun _ => rfl)) pd_str pd_str)) (pd_cons (pd_op2n so_add (pd_var (pv 3)) (pd_if (pt_tru (pd_var (pv 5)) (fun _ => rfl)) pd_int pd_int)) (pd_cons (pd_op2n so_add (pd_var (pv 4)) (pd_if (pt_tru (pd_var (pv 5)) (fun _ => rfl)) pd_int pd_int)) pd_nil))) rfl nd rfl rfl rfl (by decide) (by decide) (by decide) rfl rfl rfl (by with_unfolding_all rfl)))))
    (dss_one (ds_ret (pd_var (pv 2)))))))
    exact h
theorem sc__law_written_right : FnScope ["told"] [] (defScope s__law_written_right) := ⟨rfl, rfl, rfl, by decide +kernel, rfl, by decide +kernel, by decide +kernel⟩
theorem ok__law_written_right (T : Tx mg) {f : Addr} {fd : FuncData} (F : FunD K "_law_written_right" "_law_written_right" (defArgs s__law_written_right) (defBody s__law_written_right) (defScope s__law_written_right) [] [] f fd) (C__law_like : Cal P w K mg base "_law_like" 2 m__law_like 9) (C_swept_path : Cal P w K mg base "swept_path" 1 m_swept_path 4) (C_unswept_path : Cal P w K mg base "unswept_path" 1 m_unswept_path 4) : FnOk P w K mg base CX0 10 f fd [] (spM K 0 m__law_written_right) := by
    have h := fn_ok (P := P) (w := w) (mg := mg) (base := base) (k := 9) (f := b__law_written_right) F sc__law_written_right (by decide) (fun cdv A outer s H E hr => by
      have nd := (sc__law_written_right).nd
      have hu : (A.deeper (envOfC "_law_written_right" (defScope s__law_written_right) s.heap.objs.size f cdv)).units + 65 < cLine := by have := hr.un; omega
      refine PSs.nox ?_
      exact (dss_cons (ds_if (pt_not' (pt_tru (pd_cal C__law_like hr (by decide) rfl (len_cons (len_cons len_nil)) (pd_cons (pd_lst (pd_cons (pd_cal C_unswept_path hr (by decide) rfl (len_cons len_nil) (pd_cons pd_str pd_nil)) (pd_cons (pd_cal C_swept_path hr (by decide) rfl (len_cons len_nil) (pd_cons pd_str pd_nil)) pd_nil))) (pd_cons (pd_lst (pd_cons pd_str (pd_cons pd_str pd_nil))) pd_nil))) (fun _ => rfl))) (dss_one (ds_ret pd_bl)) dss_nil)
    (dss_cons (ds_asg (i := 0) (pd_lst (pd_cons (pd_cal C_swept_path hr (by decide) rfl (len_cons len_nil) (pd_cons pd_str pd_nil)) (pd_cons (pd_cal C_unswept_path hr (by decide) rfl (len_cons len_nil) (pd_cons pd_str pd_nil)) (pd_cons (pd_cal C_swept_path hr (by decide) rfl (len_cons len_nil) (pd_cons pd_str pd_nil)) (pd_cons (pd_cal C_swept_path hr (by decide) rfl (len_cons len_nil) (pd_cons pd_str pd_nil)) (pd_cons (pd_cal C_unswept_path hr (by decide) rfl (len_cons len_nil) (pd_cons pd_str pd_nil)) (pd_cons (pd_cal C_swept_path hr (by decide) rfl (len_cons len_nil) (pd_cons pd_str pd_nil)) pd_nil))))))) nd rfl (by first | exact Or.inl rfl | exact Or.inr rfl))
    (dss_one (ds_ret (pd_cal C__law_like hr (by decide) rfl (len_cons (len_cons len_nil)) (pd_cons (pd_var (pv 0)) (pd_cons (pd_lst (pd_cons pd_str (pd_cons pd_str (pd_cons pd_str (pd_cons pd_str (pd_cons pd_str (pd_cons pd_str pd_nil))))))) pd_nil))))))))
    exact h
theorem sc_law : FnScope ["script", "cup", "size", "path", "row", "many", "high"] ["script"] (defScope s_law) := ⟨rfl, rfl, rfl, by decide +kernel, rfl, by decide +kernel, by decide +kernel⟩
theorem ok_law (T : Tx mg) {f : Addr} {fd : FuncData} (F : FunD K "law" "law" (defArgs s_law) (defBody s_law) (defScope s_law) [] [] f fd) (C__law_written_right : Cal P w K mg base "_law_written_right" 0 m__law_written_right 10) (C__law_cup : Cal P w K mg base "_law_cup" 1 m__law_cup 1) (C__law_roll : Cal P w K mg base "_law_roll" 2 m__law_roll 1) (C__law_right : Cal P w K mg base "_law_right" 1 m__law_right 10) (C__law_path : Cal P w K mg base "_law_path" 2 m__law_path 2) (C__law_all_right : Cal P w K mg base "_law_all_right" 1 m__law_all_right 5) (C__law_high_path : Cal P w K mg base "_law_high_path" 2 m__law_high_path 2) (C__law_like : Cal P w K mg base "_law_like" 2 m__law_like 9) (C_bounces_of : Cal P w K mg base "bounces_of" 1 m_bounces_of 4) (C_path_with_row : Cal P w K mg base "path_with_row" 1 m_path_with_row 4) (C_area_row : Cal P w K mg base "area_row" 1 m_area_row 4) : FnOk P w K mg base CX0 11 f fd ["script"] (spM K 1 m_law) := by
    have h := fn_ok (P := P) (w := w) (mg := mg) (base := base) (k := 10) (f := b_law) F sc_law (by decide) (fun cdv A outer s H E hr => by
      have nd := (sc_law).nd
      have hu : (A.deeper (envOfC "law" (defScope s_law) s.heap.objs.size f cdv)).units + 65 < cLine := by have := hr.un; omega
      refine PSs.nox ?_
      exact (dss_cons (ds_if (pt_not' (pt_tru (pd_cal0 C__law_written_right hr (by decide) rfl) (fun _ => rfl))) (dss_one (ds_ret pd_bl)) dss_nil)
    (dss_cons (ds_new (i := 1) (pd_cal C__law_cup hr (by decide) rfl (len_cons len_nil) (pd_cons (pd_var (pv 0)) pd_nil)) nd rfl (by first | exact Or.inl rfl | exact Or.inr rfl))
    (dss_cons (ds_for PassesOwn.never rfl (pd_iE (pd_tup (pd_cons (pd_cal C__law_roll hr (by decide) rfl (len_cons (len_cons len_nil)) (pd_cons (pd_var (pv 1)) (pd_cons pd_int pd_nil))) (pd_cons (pd_cal C__law_roll hr (by decide) rfl (len_cons (len_cons len_nil)) (pd_cons (pd_var (pv 1)) (pd_cons pd_int pd_nil))) (pd_cons (pd_cal C__law_roll hr (by decide) rfl (len_cons (len_cons len_nil)) (pd_cons (pd_var (pv 1)) (pd_cons pd_int pd_nil))) (pd_cons (pd_cal C__law_roll hr (by decide) rfl (len_cons (len_cons len_nil)) (pd_cons (pd_var (pv 1)) (pd_cons pd_int pd_nil))) (pd_cons (pd_op2n so_add pd_int (pd_cal C__law_roll hr (by decide) rfl (len_cons (len_cons len_nil)) (pd_cons (pd_var (pv 1)) (pd_cons pd_int pd_nil)))) pd_nil))))))) (pd_gn (pg_name (i := 2) nd rfl (by first | exact Or.inl rfl | exact Or.inr rfl))) (dss_one (ds_if (pt_not' (pt_tru (pd_cal C__law_right hr (by decide) rfl (len_cons len_nil) (pd_cons (pd_cal C__law_path hr (by decide) rfl (len_cons (len_cons len_nil)) (pd_cons (pd_var (pv 1)) (pd_cons (pd_var (pv 2)) pd_nil))) pd_nil)) (fun _ => rfl))) (dss_one (ds_ret pd_bl)) dss_nil)))
    (dss_cons (ds_if (pw_pt (pw_or' (pt_not' (pt_tru (pd_cal C__law_all_right hr (by decide) rfl (len_cons len_nil) (pd_cons (pd_var (pv 1)) pd_nil)) (fun _ => rfl))) (pw_one (pt_not' (pt_tru (pd_cal C__law_right hr (by decide) rfl (len_cons len_nil) (pd_cons (pd_cal C__law_high_path hr (by decide) rfl (len_cons (len_cons len_nil)) (pd_cons (pd_var (pv 1)) (pd_cons (pd_op2n so_add pd_int (pd_cal C__law_roll hr (by decide) rfl (len_cons (len_cons len_nil)) (pd_cons (pd_var (pv 1)) (pd_cons pd_int pd_nil)))) pd_nil))) pd_nil)) (fun _ => rfl)))))) (dss_one (ds_ret pd_bl)) dss_nil)
    (dss_cons (ds_parA2 (i := 5) (j := 6) (pd_cons (pd_op2n so_add pd_int (pd_cal C__law_roll hr (by decide) rfl (len_cons (len_cons len_nil)) (pd_cons (pd_var (pv 1)) (pd_cons pd_int pd_nil)))) (pd_cons (pd_op2n so_add pd_int (pd_cal C__law_roll hr (by decide) rfl (len_cons (len_cons len_nil)) (pd_cons (pd_var (pv 1)) (pd_cons pd_int pd_nil)))) pd_nil)) rfl nd rfl rfl (by decide) rfl rfl (by with_unfolding_all rfl))
    (dss_cons (ds_asg (i := 3) (pd_op2n so_mul (pd_op2n so_add (pd_op2n so_mul pd_str (pd_var (pv 6))) (pd_op2n so_mul pd_str (pd_var (pv 6)))) (pd_var (pv 5))) nd rfl (by first | exact Or.inl rfl | exact Or.inr rfl))
    (dss_cons (ds_if (pt_not' (pt_tru (pd_cal C__law_right hr (by decide) rfl (len_cons len_nil) (pd_cons (pd_var (pv 3)) pd_nil)) (fun _ => rfl))) (dss_one (ds_ret pd_bl)) dss_nil)
    (dss_cons (ds_asg (i := 4) (pd_callTy so_tuple rfl T.f_tuple bt_tuple (pd_cons (pd_op2n so_mul (pd_lstRg1 rfl rfl T.f_list rfl T.f_range (pd_var (pv 6))) (pd_var (pv 5))) pd_nil)) nd rfl (by first | exact Or.inl rfl | exact Or.inr rfl))
    (dss_one (ds_ret (pd_cal C__law_like hr (by decide) rfl (len_cons (len_cons len_nil)) (pd_cons (pd_lst (pd_cons (pd_cal C_area_row hr (by decide) rfl (len_cons len_nil) (pd_cons (pd_var (pv 3)) pd_nil)) (pd_cons (pd_cal C_path_with_row hr (by decide) rfl (len_cons len_nil) (pd_cons (pd_var (pv 4)) pd_nil)) (pd_cons (pd_cal C_bounces_of hr (by decide) rfl (len_cons len_nil) (pd_cons (pd_var (pv 3)) pd_nil)) pd_nil)))) (pd_cons (pd_lst (pd_cons (pd_var (pv 4)) (pd_cons (pd_var (pv 3)) (pd_cons (pd_tupRg3 rfl rfl T.f_tuple rfl T.f_range (pd_cons pd_int (pd_cons (pd_op2n so_add (pd_op2n so_mul (pd_var (pv 6)) (pd_var (pv 5))) pd_int) (pd_cons (pd_var (pv 6)) pd_nil)))) pd_nil)))) pd_nil))))))))))))))
    exact h
end
def d_is_integer : He.DefD := ⟨("is_integer", none), "is_integer", "is_integer", defArgs s_is_integer, defBody s_is_integer, defScope s_is_integer, [], []⟩
def d_is_whole : He.DefD := ⟨("is_whole", none), "is_whole", "is_whole", defArgs s_is_whole, defBody s_is_whole, defScope s_is_whole, [], []⟩
def d_is_tuple_of : He.DefD := ⟨("is_tuple_of", none), "is_tuple_of", "is_tuple_of", defArgs s_is_tuple_of, defBody s_is_tuple_of, defScope s_is_tuple_of, [], []⟩
def d_is_word : He.DefD := ⟨("is_word", none), "is_word", "is_word", defArgs s_is_word, defBody s_is_word, defScope s_is_word, [], []⟩
def d_fits_path : He.DefD := ⟨("fits_path", none), "fits_path", "fits_path", defArgs s_fits_path, defBody s_fits_path, defScope s_fits_path, [], []⟩
def d_need_path : He.DefD := ⟨("need_path", none), "need_path", "need_path", defArgs s_need_path, defBody s_need_path, defScope s_need_path, [], []⟩
def d_row_in : He.DefD := ⟨("row_in", none), "row_in", "row_in", defArgs s_row_in, defBody s_row_in, defScope s_row_in, [], []⟩
def d_path_in : He.DefD := ⟨("path_in", none), "path_in", "path_in", defArgs s_path_in, defBody s_path_in, defScope s_path_in, [], []⟩
def d_fits_row : He.DefD := ⟨("fits_row", none), "fits_row", "fits_row", defArgs s_fits_row, defBody s_fits_row, defScope s_fits_row, [], []⟩
def d_pairs_in : He.DefD := ⟨("pairs_in", none), "pairs_in", "pairs_in", defArgs s_pairs_in, defBody s_pairs_in, defScope s_pairs_in, [], []⟩
def d_heights_in : He.DefD := ⟨("heights_in", none), "heights_in", "heights_in", defArgs s_heights_in, defBody s_heights_in, defScope s_heights_in, [], []⟩
def d_bounces_in : He.DefD := ⟨("bounces_in", none), "bounces_in", "bounces_in", defArgs s_bounces_in, defBody s_bounces_in, defScope s_bounces_in, [], []⟩
def d_bounce_weight_in : He.DefD := ⟨("bounce_weight_in", none), "bounce_weight_in", "bounce_weight_in", defArgs s_bounce_weight_in, defBody s_bounce_weight_in, defScope s_bounce_weight_in, [], []⟩
def d_swept_in : He.DefD := ⟨("swept_in", none), "swept_in", "swept_in", defArgs s_swept_in, defBody s_swept_in, defScope s_swept_in, [], []⟩
def d_with_level : He.DefD := ⟨("with_level", none), "with_level", "with_level", defArgs s_with_level, defBody s_with_level, defScope s_with_level, [], []⟩
def d_unswept_in : He.DefD := ⟨("unswept_in", none), "unswept_in", "unswept_in", defArgs s_unswept_in, defBody s_unswept_in, defScope s_unswept_in, [], []⟩
def d_area_row : He.DefD := ⟨("area_row", none), "area_row", "area_row", defArgs s_area_row, defBody s_area_row, defScope s_area_row, [], []⟩
def d_path_with_row : He.DefD := ⟨("path_with_row", none), "path_with_row", "path_with_row", defArgs s_path_with_row, defBody s_path_with_row, defScope s_path_with_row, [], []⟩
def d_area_of_path : He.DefD := ⟨("area_of_path", none), "area_of_path", "area_of_path", defArgs s_area_of_path, defBody s_area_of_path, defScope s_area_of_path, [], []⟩
def d_pair_weight : He.DefD := ⟨("pair_weight", none), "pair_weight", "pair_weight", defArgs s_pair_weight, defBody s_pair_weight, defScope s_pair_weight, [], []⟩
def d_bounces_of : He.DefD := ⟨("bounces_of", none), "bounces_of", "bounces_of", defArgs s_bounces_of, defBody s_bounces_of, defScope s_bounces_of, [], []⟩
def d_bounce_weight : He.DefD := ⟨("bounce_weight", none), "bounce_weight", "bounce_weight", defArgs s_bounce_weight, defBody s_bounce_weight, defScope s_bounce_weight, [], []⟩
def d_swept_path : He.DefD := ⟨("swept_path", none), "swept_path", "swept_path", defArgs s_swept_path, defBody s_swept_path, defScope s_swept_path, [], []⟩
def d_unswept_path : He.DefD := ⟨("unswept_path", none), "unswept_path", "unswept_path", defArgs s_unswept_path, defBody s_unswept_path, defScope s_unswept_path, [], []⟩
def d__law_cup : He.DefD := ⟨("_law_cup", none), "_law_cup", "_law_cup", defArgs s__law_cup, defBody s__law_cup, defScope s__law_cup, [], []⟩
def d__law_roll : He.DefD := ⟨("_law_roll", none), "_law_roll", "_law_roll", defArgs s__law_roll, defBody s__law_roll, defScope s__law_roll, [], []⟩
def d__law_sort : He.DefD := ⟨("_law_sort", none), "_law_sort", "_law_sort", defArgs s__law_sort, defBody s__law_sort, defScope s__law_sort, [], []⟩
def d__law_like : He.DefD := ⟨("_law_like", none), "_law_like", "_law_like", defArgs s__law_like, defBody s__law_like, defScope s__law_like, [], []⟩
def d__law_path : He.DefD := ⟨("_law_path", none), "_law_path", "_law_path", defArgs s__law_path, defBody s__law_path, defScope s__law_path, [], []⟩
def d__law_is_path : He.DefD := ⟨("_law_is_path", none), "_law_is_path", "_law_is_path", defArgs s__law_is_path, defBody s__law_is_path, defScope s__law_is_path, [], []⟩
def d__law_area_row : He.DefD := ⟨("_law_area_row", none), "_law_area_row", "_law_area_row", defArgs s__law_area_row, defBody s__law_area_row, defScope s__law_area_row, [], []⟩
def d__law_pair_weight : He.DefD := ⟨("_law_pair_weight", none), "_law_pair_weight", "_law_pair_weight", defArgs s__law_pair_weight, defBody s__law_pair_weight, defScope s__law_pair_weight, [], []⟩
def d__law_bounces : He.DefD := ⟨("_law_bounces", none), "_law_bounces", "_law_bounces", defArgs s__law_bounces, defBody s__law_bounces, defScope s__law_bounces, [], []⟩
def d__law_all_paths : He.DefD := ⟨("_law_all_paths", none), "_law_all_paths", "_law_all_paths", defArgs s__law_all_paths, defBody s__law_all_paths, defScope s__law_all_paths, [], []⟩
def d__law_swept : He.DefD := ⟨("_law_swept", none), "_law_swept", "_law_swept", defArgs s__law_swept, defBody s__law_swept, defScope s__law_swept, [], []⟩
def d__law_right : He.DefD := ⟨("_law_right", none), "_law_right", "_law_right", defArgs s__law_right, defBody s__law_right, defScope s__law_right, [], []⟩
def d__law_all_right : He.DefD := ⟨("_law_all_right", none), "_law_all_right", "_law_all_right", defArgs s__law_all_right, defBody s__law_all_right, defScope s__law_all_right, [], []⟩
def d__law_high_path : He.DefD := ⟨("_law_high_path", none), "_law_high_path", "_law_high_path", defArgs s__law_high_path, defBody s__law_high_path, defScope s__law_high_path, [], []⟩
def d__law_written_right : He.DefD := ⟨("_law_written_right", none), "_law_written_right", "_law_written_right", defArgs s__law_written_right, defBody s__law_written_right, defScope s__law_written_right, [], []⟩
def d_law : He.DefD := ⟨("law", none), "law", "law", defArgs s_law, defBody s_law, defScope s_law, [], []⟩
def fnl : List He.DefD := [d_is_integer, d_is_whole, d_is_tuple_of, d_is_word, d_fits_path, d_need_path, d_row_in, d_path_in, d_fits_row, d_pairs_in, d_heights_in, d_bounces_in, d_bounce_weight_in, d_swept_in, d_with_level, d_unswept_in, d_area_row, d_path_with_row, d_area_of_path, d_pair_weight, d_bounces_of, d_bounce_weight, d_swept_path, d_unswept_path, d__law_cup, d__law_roll, d__law_sort, d__law_like, d__law_path, d__law_is_path, d__law_area_row, d__law_pair_weight, d__law_bounces, d__law_all_paths, d__law_swept, d__law_right, d__law_all_right, d__law_high_path, d__law_written_right, d_law]
def fal : List He.Fa := [.glo "is_integer", .glo "is_whole", .glo "is_tuple_of", .glo "is_word", .glo "fits_path", .glo "need_path", .glo "row_in", .glo "path_in", .glo "fits_row", .glo "pairs_in", .glo "heights_in", .glo "bounces_in", .glo "bounce_weight_in", .glo "swept_in", .glo "with_level", .glo "unswept_in", .glo "area_row", .glo "path_with_row", .glo "area_of_path", .glo "pair_weight", .glo "bounces_of", .glo "bounce_weight", .glo "swept_path", .glo "unswept_path", .glo "_law_cup", .glo "_law_roll", .glo "_law_sort", .glo "_law_like", .glo "_law_path", .glo "_law_is_path", .glo "_law_area_row", .glo "_law_pair_weight", .glo "_law_bounces", .glo "_law_all_paths", .glo "_law_swept", .glo "_law_right", .glo "_law_all_right", .glo "_law_high_path", .glo "_law_written_right", .glo "law", .free "isinstance", .free "int", .free "bool", .free "tuple", .free "len", .free "str", .free "all", .free "zip", .free "enumerate", .free "sum", .free "max", .free "range", .free "list", .free "abs", .free "min", .free "sorted", .int "SIZE" 30]
abbrev R : PySem.W.OpenRow := PySem.W.OpenLaw.row PySem.Challenge.rw_stonepiles_k84_whole_swept_paths
abbrev hk : PySem.W.Hook := He.hookD 4 fal fnl
def ob (s : PySem.W.SharedT) : He.AlD := He.obsDG 4 fal fnl (HandSHeadRun.getT s)
theorem ob_eq (s : PySem.W.SharedT) : ob s = hk.obs s.abs := He.obsDG_eq (HandSHeadRun.getT_eq s)
def nm0 : List PySem.Str := ["is_integer", "is_whole", "is_tuple_of", "is_word", "fits_path", "need_path", "row_in", "path_in", "fits_row", "pairs_in", "heights_in", "bounces_in", "bounce_weight_in", "swept_in", "unswept_in", "with_level", "area_row", "path_with_row", "area_of_path", "pair_weight", "bounces_of", "bounce_weight", "swept_path", "unswept_path", "_law_cup", "_law_roll", "_law_sort", "_law_like", "_law_path", "_law_is_path"]
def nm1 : List PySem.Str := ["_law_area_row", "_law_pair_weight", "_law_bounces", "_law_all_paths", "_law_swept", "_law_right", "_law_all_right", "_law_high_path", "_law_written_right", "PileError", "InvalidSteps", "SIZE"]
def nms : List PySem.Str := nm0 ++ nm1
theorem run (w : World) : HandSHeadRun.RunEq R (PySem.W.view R.prog [46]) hk ob 3000 nms w := by
  intro os
  kernel_rfl
theorem facts {P : Program} {w : World} {K : PySem.W.Frag} {h : Heap} {mg : Str → Option Value} {f : Addr} (X : K.In h) (G : h.Ns mainGlobals mg) (hfa : mg ("law" : Str) = some (.ref f)) (c : He.SaysD fal fnl K) :
    ∃ fd : FuncData, (∀ (s : Shared) (v : Value), BindsTo s fd ⟨[v], []⟩ [("script", v)]) ∧ ∀ base : Heap, K.In base → base.Ns mainGlobals mg → FnOk P w K mg base CX0 11 f fd ["script"] (spM K 1 m_law) := by
  have T : Tx mg := ⟨He.free_ok X G (c.fact 40 (f := .free "isinstance") rfl), He.free_ok X G (c.fact 41 (f := .free "int") rfl), He.free_ok X G (c.fact 42 (f := .free "bool") rfl), He.free_ok X G (c.fact 43 (f := .free "tuple") rfl), He.free_ok X G (c.fact 44 (f := .free "len") rfl), He.free_ok X G (c.fact 45 (f := .free "str") rfl), He.free_ok X G (c.fact 46 (f := .free "all") rfl), He.free_ok X G (c.fact 47 (f := .free "zip") rfl), He.free_ok X G (c.fact 48 (f := .free "enumerate") rfl), He.free_ok X G (c.fact 49 (f := .free "sum") rfl), He.free_ok X G (c.fact 50 (f := .free "max") rfl), He.free_ok X G (c.fact 51 (f := .free "range") rfl), He.free_ok X G (c.fact 52 (f := .free "list") rfl), He.free_ok X G (c.fact 53 (f := .free "abs") rfl), He.free_ok X G (c.fact 54 (f := .free "min") rfl), He.free_ok X G (c.fact 55 (f := .free "sorted") rfl), He.int_ok X G (c.fact 56 (f := .int "SIZE" 30) rfl)⟩
  obtain ⟨fd_is_integer, F_is_integer⟩ := c.def_ 0 (d := d_is_integer) rfl
  have g_is_integer := He.glo_ok X G (c.fact 0 (f := .glo "is_integer") rfl)
  obtain ⟨fd_is_whole, F_is_whole⟩ := c.def_ 1 (d := d_is_whole) rfl
  have g_is_whole := He.glo_ok X G (c.fact 1 (f := .glo "is_whole") rfl)
  obtain ⟨fd_is_tuple_of, F_is_tuple_of⟩ := c.def_ 2 (d := d_is_tuple_of) rfl
  have g_is_tuple_of := He.glo_ok X G (c.fact 2 (f := .glo "is_tuple_of") rfl)
  obtain ⟨fd_is_word, F_is_word⟩ := c.def_ 3 (d := d_is_word) rfl
  have g_is_word := He.glo_ok X G (c.fact 3 (f := .glo "is_word") rfl)
  obtain ⟨fd_fits_path, F_fits_path⟩ := c.def_ 4 (d := d_fits_path) rfl
  have g_fits_path := He.glo_ok X G (c.fact 4 (f := .glo "fits_path") rfl)
  obtain ⟨fd_need_path, F_need_path⟩ := c.def_ 5 (d := d_need_path) rfl
  have g_need_path := He.glo_ok X G (c.fact 5 (f := .glo "need_path") rfl)
  obtain ⟨fd_row_in, F_row_in⟩ := c.def_ 6 (d := d_row_in) rfl
  have g_row_in := He.glo_ok X G (c.fact 6 (f := .glo "row_in") rfl)
  obtain ⟨fd_path_in, F_path_in⟩ := c.def_ 7 (d := d_path_in) rfl
  have g_path_in := He.glo_ok X G (c.fact 7 (f := .glo "path_in") rfl)
  obtain ⟨fd_fits_row, F_fits_row⟩ := c.def_ 8 (d := d_fits_row) rfl
  have g_fits_row := He.glo_ok X G (c.fact 8 (f := .glo "fits_row") rfl)
  obtain ⟨fd_pairs_in, F_pairs_in⟩ := c.def_ 9 (d := d_pairs_in) rfl
  have g_pairs_in := He.glo_ok X G (c.fact 9 (f := .glo "pairs_in") rfl)
  obtain ⟨fd_heights_in, F_heights_in⟩ := c.def_ 10 (d := d_heights_in) rfl
  have g_heights_in := He.glo_ok X G (c.fact 10 (f := .glo "heights_in") rfl)
  obtain ⟨fd_bounces_in, F_bounces_in⟩ := c.def_ 11 (d := d_bounces_in) rfl
  have g_bounces_in := He.glo_ok X G (c.fact 11 (f := .glo "bounces_in") rfl)
  obtain ⟨fd_bounce_weight_in, F_bounce_weight_in⟩ := c.def_ 12 (d := d_bounce_weight_in) rfl
  have g_bounce_weight_in := He.glo_ok X G (c.fact 12 (f := .glo "bounce_weight_in") rfl)
  obtain ⟨fd_swept_in, F_swept_in⟩ := c.def_ 13 (d := d_swept_in) rfl
  have g_swept_in := He.glo_ok X G (c.fact 13 (f := .glo "swept_in") rfl)
  obtain ⟨fd_with_level, F_with_level⟩ := c.def_ 14 (d := d_with_level) rfl
  have g_with_level := He.glo_ok X G (c.fact 14 (f := .glo "with_level") rfl)
  obtain ⟨fd_unswept_in, F_unswept_in⟩ := c.def_ 15 (d := d_unswept_in) rfl
  have g_unswept_in := He.glo_ok X G (c.fact 15 (f := .glo "unswept_in") rfl)
  obtain ⟨fd_area_row, F_area_row⟩ := c.def_ 16 (d := d_area_row) rfl
  have g_area_row := He.glo_ok X G (c.fact 16 (f := .glo "area_row") rfl)
  obtain ⟨fd_path_with_row, F_path_with_row⟩ := c.def_ 17 (d := d_path_with_row) rfl
  have g_path_with_row := He.glo_ok X G (c.fact 17 (f := .glo "path_with_row") rfl)
  obtain ⟨fd_area_of_path, F_area_of_path⟩ := c.def_ 18 (d := d_area_of_path) rfl
  have g_area_of_path := He.glo_ok X G (c.fact 18 (f := .glo "area_of_path") rfl)
  obtain ⟨fd_pair_weight, F_pair_weight⟩ := c.def_ 19 (d := d_pair_weight) rfl
  have g_pair_weight := He.glo_ok X G (c.fact 19 (f := .glo "pair_weight") rfl)
  obtain ⟨fd_bounces_of, F_bounces_of⟩ := c.def_ 20 (d := d_bounces_of) rfl
  have g_bounces_of := He.glo_ok X G (c.fact 20 (f := .glo "bounces_of") rfl)
  obtain ⟨fd_bounce_weight, F_bounce_weight⟩ := c.def_ 21 (d := d_bounce_weight) rfl
  have g_bounce_weight := He.glo_ok X G (c.fact 21 (f := .glo "bounce_weight") rfl)
  obtain ⟨fd_swept_path, F_swept_path⟩ := c.def_ 22 (d := d_swept_path) rfl
  have g_swept_path := He.glo_ok X G (c.fact 22 (f := .glo "swept_path") rfl)
  obtain ⟨fd_unswept_path, F_unswept_path⟩ := c.def_ 23 (d := d_unswept_path) rfl
  have g_unswept_path := He.glo_ok X G (c.fact 23 (f := .glo "unswept_path") rfl)
  obtain ⟨fd__law_cup, F__law_cup⟩ := c.def_ 24 (d := d__law_cup) rfl
  have g__law_cup := He.glo_ok X G (c.fact 24 (f := .glo "_law_cup") rfl)
  obtain ⟨fd__law_roll, F__law_roll⟩ := c.def_ 25 (d := d__law_roll) rfl
  have g__law_roll := He.glo_ok X G (c.fact 25 (f := .glo "_law_roll") rfl)
  obtain ⟨fd__law_sort, F__law_sort⟩ := c.def_ 26 (d := d__law_sort) rfl
  have g__law_sort := He.glo_ok X G (c.fact 26 (f := .glo "_law_sort") rfl)
  obtain ⟨fd__law_like, F__law_like⟩ := c.def_ 27 (d := d__law_like) rfl
  have g__law_like := He.glo_ok X G (c.fact 27 (f := .glo "_law_like") rfl)
  obtain ⟨fd__law_path, F__law_path⟩ := c.def_ 28 (d := d__law_path) rfl
  have g__law_path := He.glo_ok X G (c.fact 28 (f := .glo "_law_path") rfl)
  obtain ⟨fd__law_is_path, F__law_is_path⟩ := c.def_ 29 (d := d__law_is_path) rfl
  have g__law_is_path := He.glo_ok X G (c.fact 29 (f := .glo "_law_is_path") rfl)
  obtain ⟨fd__law_area_row, F__law_area_row⟩ := c.def_ 30 (d := d__law_area_row) rfl
  have g__law_area_row := He.glo_ok X G (c.fact 30 (f := .glo "_law_area_row") rfl)
  obtain ⟨fd__law_pair_weight, F__law_pair_weight⟩ := c.def_ 31 (d := d__law_pair_weight) rfl
  have g__law_pair_weight := He.glo_ok X G (c.fact 31 (f := .glo "_law_pair_weight") rfl)
  obtain ⟨fd__law_bounces, F__law_bounces⟩ := c.def_ 32 (d := d__law_bounces) rfl
  have g__law_bounces := He.glo_ok X G (c.fact 32 (f := .glo "_law_bounces") rfl)
  obtain ⟨fd__law_all_paths, F__law_all_paths⟩ := c.def_ 33 (d := d__law_all_paths) rfl
  have g__law_all_paths := He.glo_ok X G (c.fact 33 (f := .glo "_law_all_paths") rfl)
  obtain ⟨fd__law_swept, F__law_swept⟩ := c.def_ 34 (d := d__law_swept) rfl
  have g__law_swept := He.glo_ok X G (c.fact 34 (f := .glo "_law_swept") rfl)
  obtain ⟨fd__law_right, F__law_right⟩ := c.def_ 35 (d := d__law_right) rfl
  have g__law_right := He.glo_ok X G (c.fact 35 (f := .glo "_law_right") rfl)
  obtain ⟨fd__law_all_right, F__law_all_right⟩ := c.def_ 36 (d := d__law_all_right) rfl
  have g__law_all_right := He.glo_ok X G (c.fact 36 (f := .glo "_law_all_right") rfl)
  obtain ⟨fd__law_high_path, F__law_high_path⟩ := c.def_ 37 (d := d__law_high_path) rfl
  have g__law_high_path := He.glo_ok X G (c.fact 37 (f := .glo "_law_high_path") rfl)
  obtain ⟨fd__law_written_right, F__law_written_right⟩ := c.def_ 38 (d := d__law_written_right) rfl
  have g__law_written_right := He.glo_ok X G (c.fact 38 (f := .glo "_law_written_right") rfl)
  obtain ⟨fd_law, F_law⟩ := c.def_ 39 (d := d_law) rfl
  have e := hfa.symm.trans (He.glo_ok X G (c.fact 39 (f := .glo "law") rfl))
  cases e
  have b := FunD.bindsA (ps := ["script"]) F_law fun _ _ _ _ _ _ us hl => match us, hl with | [_], _ => rfl
  refine ⟨fd_law, fun s v => b s [v] rfl, fun base _ _ => ?_⟩
  have C_is_integer : Cal P w K mg base "is_integer" 1 m_is_integer 1 := ⟨_, _, ["value"], ok_is_integer T F_is_integer , g_is_integer, F_is_integer.kp, (F_is_integer.bindsN (ps := ["value"]) fun _ _ _ _ _ _ us hl => match us, hl with | [_], _ => rfl)⟩
  have C_is_whole : Cal P w K mg base "is_whole" 3 m_is_whole 2 := ⟨_, _, ["value", "low", "high"], ok_is_whole T F_is_whole C_is_integer, g_is_whole, F_is_whole.kp, (F_is_whole.bindsN (ps := ["value", "low", "high"]) fun _ _ _ _ _ _ us hl => match us, hl with | [_, _, _], _ => rfl)⟩
  have C_is_tuple_of : Cal P w K mg base "is_tuple_of" 3 m_is_tuple_of 1 := ⟨_, _, ["value", "low", "high"], ok_is_tuple_of T F_is_tuple_of , g_is_tuple_of, F_is_tuple_of.kp, (F_is_tuple_of.bindsN (ps := ["value", "low", "high"]) fun _ _ _ _ _ _ us hl => match us, hl with | [_, _, _], _ => rfl)⟩
  have C_is_word : Cal P w K mg base "is_word" 4 m_is_word 1 := ⟨_, _, ["value", "signs", "low", "high"], ok_is_word T F_is_word , g_is_word, F_is_word.kp, (F_is_word.bindsN (ps := ["value", "signs", "low", "high"]) fun _ _ _ _ _ _ us hl => match us, hl with | [_, _, _, _], _ => rfl)⟩
  have C_fits_path : Cal P w K mg base "fits_path" 1 m_fits_path 2 := ⟨_, _, ["value"], ok_fits_path T F_fits_path C_is_word, g_fits_path, F_fits_path.kp, (F_fits_path.bindsN (ps := ["value"]) fun _ _ _ _ _ _ us hl => match us, hl with | [_], _ => rfl)⟩
  have C_need_path : Cal P w K mg base "need_path" 1 m_need_path 3 := ⟨_, _, ["path"], ok_need_path T F_need_path C_fits_path, g_need_path, F_need_path.kp, (F_need_path.bindsN (ps := ["path"]) fun _ _ _ _ _ _ us hl => match us, hl with | [_], _ => rfl)⟩
  have C_row_in : Cal P w K mg base "row_in" 1 m_row_in 1 := ⟨_, _, ["path"], ok_row_in T F_row_in , g_row_in, F_row_in.kp, (F_row_in.bindsN (ps := ["path"]) fun _ _ _ _ _ _ us hl => match us, hl with | [_], _ => rfl)⟩
  have C_path_in : Cal P w K mg base "path_in" 1 m_path_in 1 := ⟨_, _, ["row"], ok_path_in T F_path_in , g_path_in, F_path_in.kp, (F_path_in.bindsN (ps := ["row"]) fun _ _ _ _ _ _ us hl => match us, hl with | [_], _ => rfl)⟩
  have C_fits_row : Cal P w K mg base "fits_row" 1 m_fits_row 3 := ⟨_, _, ["value"], ok_fits_row T F_fits_row C_is_tuple_of C_is_whole, g_fits_row, F_fits_row.kp, (F_fits_row.bindsN (ps := ["value"]) fun _ _ _ _ _ _ us hl => match us, hl with | [_], _ => rfl)⟩
  have C_pairs_in : Cal P w K mg base "pairs_in" 1 m_pairs_in 1 := ⟨_, _, ["row"], ok_pairs_in T F_pairs_in , g_pairs_in, F_pairs_in.kp, (F_pairs_in.bindsN (ps := ["row"]) fun _ _ _ _ _ _ us hl => match us, hl with | [_], _ => rfl)⟩
  have C_heights_in : Cal P w K mg base "heights_in" 1 m_heights_in 1 := ⟨_, _, ["path"], ok_heights_in T F_heights_in , g_heights_in, F_heights_in.kp, (F_heights_in.bindsN (ps := ["path"]) fun _ _ _ _ _ _ us hl => match us, hl with | [_], _ => rfl)⟩
  have C_bounces_in : Cal P w K mg base "bounces_in" 1 m_bounces_in 2 := ⟨_, _, ["path"], ok_bounces_in T F_bounces_in C_heights_in, g_bounces_in, F_bounces_in.kp, (F_bounces_in.bindsN (ps := ["path"]) fun _ _ _ _ _ _ us hl => match us, hl with | [_], _ => rfl)⟩
  have C_bounce_weight_in : Cal P w K mg base "bounce_weight_in" 1 m_bounce_weight_in 3 := ⟨_, _, ["path"], ok_bounce_weight_in T F_bounce_weight_in C_bounces_in, g_bounce_weight_in, F_bounce_weight_in.kp, (F_bounce_weight_in.bindsN (ps := ["path"]) fun _ _ _ _ _ _ us hl => match us, hl with | [_], _ => rfl)⟩
  have C_swept_in : Cal P w K mg base "swept_in" 1 m_swept_in 1 := ⟨_, _, ["row"], ok_swept_in T F_swept_in , g_swept_in, F_swept_in.kp, (F_swept_in.bindsN (ps := ["row"]) fun _ _ _ _ _ _ us hl => match us, hl with | [_], _ => rfl)⟩
  have C_with_level : Cal P w K mg base "with_level" 3 m_with_level 1 := ⟨_, _, ["row", "low", "signs"], ok_with_level T F_with_level , g_with_level, F_with_level.kp, (F_with_level.bindsN (ps := ["row", "low", "signs"]) fun _ _ _ _ _ _ us hl => match us, hl with | [_, _, _], _ => rfl)⟩
  have C_unswept_in : Cal P w K mg base "unswept_in" 1 m_unswept_in 3 := ⟨_, _, ["path"], ok_unswept_in T F_unswept_in C_bounces_in C_with_level, g_unswept_in, F_unswept_in.kp, (F_unswept_in.bindsN (ps := ["path"]) fun _ _ _ _ _ _ us hl => match us, hl with | [_], _ => rfl)⟩
  have C_area_row : Cal P w K mg base "area_row" 1 m_area_row 4 := ⟨_, _, ["path"], ok_area_row T F_area_row C_need_path C_row_in, g_area_row, F_area_row.kp, (F_area_row.bindsN (ps := ["path"]) fun _ _ _ _ _ _ us hl => match us, hl with | [_], _ => rfl)⟩
  have C_path_with_row : Cal P w K mg base "path_with_row" 1 m_path_with_row 4 := ⟨_, _, ["row"], ok_path_with_row T F_path_with_row C_fits_row C_path_in, g_path_with_row, F_path_with_row.kp, (F_path_with_row.bindsN (ps := ["row"]) fun _ _ _ _ _ _ us hl => match us, hl with | [_], _ => rfl)⟩
  have C_area_of_path : Cal P w K mg base "area_of_path" 1 m_area_of_path 4 := ⟨_, _, ["path"], ok_area_of_path T F_area_of_path C_need_path C_row_in, g_area_of_path, F_area_of_path.kp, (F_area_of_path.bindsN (ps := ["path"]) fun _ _ _ _ _ _ us hl => match us, hl with | [_], _ => rfl)⟩
  have C_pair_weight : Cal P w K mg base "pair_weight" 1 m_pair_weight 4 := ⟨_, _, ["path"], ok_pair_weight T F_pair_weight C_need_path C_pairs_in C_row_in, g_pair_weight, F_pair_weight.kp, (F_pair_weight.bindsN (ps := ["path"]) fun _ _ _ _ _ _ us hl => match us, hl with | [_], _ => rfl)⟩
  have C_bounces_of : Cal P w K mg base "bounces_of" 1 m_bounces_of 4 := ⟨_, _, ["path"], ok_bounces_of T F_bounces_of C_need_path C_bounces_in, g_bounces_of, F_bounces_of.kp, (F_bounces_of.bindsN (ps := ["path"]) fun _ _ _ _ _ _ us hl => match us, hl with | [_], _ => rfl)⟩
  have C_bounce_weight : Cal P w K mg base "bounce_weight" 1 m_bounce_weight 4 := ⟨_, _, ["path"], ok_bounce_weight T F_bounce_weight C_need_path C_bounce_weight_in, g_bounce_weight, F_bounce_weight.kp, (F_bounce_weight.bindsN (ps := ["path"]) fun _ _ _ _ _ _ us hl => match us, hl with | [_], _ => rfl)⟩
  have C_swept_path : Cal P w K mg base "swept_path" 1 m_swept_path 4 := ⟨_, _, ["path"], ok_swept_path T F_swept_path C_need_path C_swept_in C_row_in, g_swept_path, F_swept_path.kp, (F_swept_path.bindsN (ps := ["path"]) fun _ _ _ _ _ _ us hl => match us, hl with | [_], _ => rfl)⟩
  have C_unswept_path : Cal P w K mg base "unswept_path" 1 m_unswept_path 4 := ⟨_, _, ["path"], ok_unswept_path T F_unswept_path C_need_path C_path_in C_unswept_in, g_unswept_path, F_unswept_path.kp, (F_unswept_path.bindsN (ps := ["path"]) fun _ _ _ _ _ _ us hl => match us, hl with | [_], _ => rfl)⟩
  have C__law_cup : Cal P w K mg base "_law_cup" 1 m__law_cup 1 := ⟨_, _, ["script"], ok__law_cup T F__law_cup , g__law_cup, F__law_cup.kp, (F__law_cup.bindsN (ps := ["script"]) fun _ _ _ _ _ _ us hl => match us, hl with | [_], _ => rfl)⟩
  have C__law_roll : Cal P w K mg base "_law_roll" 2 m__law_roll 1 := ⟨_, _, ["cup", "many"], ok__law_roll T F__law_roll , g__law_roll, F__law_roll.kp, (F__law_roll.bindsN (ps := ["cup", "many"]) fun _ _ _ _ _ _ us hl => match us, hl with | [_, _], _ => rfl)⟩
  have C__law_sort : Cal P w K mg base "_law_sort" 1 m__law_sort 1 := ⟨_, _, ["value"], ok__law_sort T F__law_sort , g__law_sort, F__law_sort.kp, (F__law_sort.bindsN (ps := ["value"]) fun _ _ _ _ _ _ us hl => match us, hl with | [_], _ => rfl)⟩
  have C__law_like : Cal P w K mg base "_law_like" 2 m__law_like 9 := ⟨_, _, ["one", "other"], rk__law_like T F__law_like g__law_like (F__law_like.bindsN (ps := ["one", "other"]) fun _ _ _ _ _ _ us hl => match us, hl with | [_, _], _ => rfl) C__law_sort 8, g__law_like, F__law_like.kp, (F__law_like.bindsN (ps := ["one", "other"]) fun _ _ _ _ _ _ us hl => match us, hl with | [_, _], _ => rfl)⟩
  have C__law_path : Cal P w K mg base "_law_path" 2 m__law_path 2 := ⟨_, _, ["cup", "size"], ok__law_path T F__law_path C__law_roll, g__law_path, F__law_path.kp, (F__law_path.bindsN (ps := ["cup", "size"]) fun _ _ _ _ _ _ us hl => match us, hl with | [_, _], _ => rfl)⟩
  have C__law_is_path : Cal P w K mg base "_law_is_path" 1 m__law_is_path 2 := ⟨_, _, ["value"], ok__law_is_path T F__law_is_path C__law_sort, g__law_is_path, F__law_is_path.kp, (F__law_is_path.bindsN (ps := ["value"]) fun _ _ _ _ _ _ us hl => match us, hl with | [_], _ => rfl)⟩
  have C__law_area_row : Cal P w K mg base "_law_area_row" 1 m__law_area_row 1 := ⟨_, _, ["path"], ok__law_area_row T F__law_area_row , g__law_area_row, F__law_area_row.kp, (F__law_area_row.bindsN (ps := ["path"]) fun _ _ _ _ _ _ us hl => match us, hl with | [_], _ => rfl)⟩
  have C__law_pair_weight : Cal P w K mg base "_law_pair_weight" 1 m__law_pair_weight 1 := ⟨_, _, ["row"], ok__law_pair_weight T F__law_pair_weight , g__law_pair_weight, F__law_pair_weight.kp, (F__law_pair_weight.bindsN (ps := ["row"]) fun _ _ _ _ _ _ us hl => match us, hl with | [_], _ => rfl)⟩
  have C__law_bounces : Cal P w K mg base "_law_bounces" 1 m__law_bounces 1 := ⟨_, _, ["path"], ok__law_bounces T F__law_bounces , g__law_bounces, F__law_bounces.kp, (F__law_bounces.bindsN (ps := ["path"]) fun _ _ _ _ _ _ us hl => match us, hl with | [_], _ => rfl)⟩
  have C__law_all_paths : Cal P w K mg base "_law_all_paths" 1 m__law_all_paths 1 := ⟨_, _, ["size"], ok__law_all_paths T F__law_all_paths , g__law_all_paths, F__law_all_paths.kp, (F__law_all_paths.bindsN (ps := ["size"]) fun _ _ _ _ _ _ us hl => match us, hl with | [_], _ => rfl)⟩
  have C__law_swept : Cal P w K mg base "_law_swept" 1 m__law_swept 2 := ⟨_, _, ["path"], ok__law_swept T F__law_swept C__law_area_row, g__law_swept, F__law_swept.kp, (F__law_swept.bindsN (ps := ["path"]) fun _ _ _ _ _ _ us hl => match us, hl with | [_], _ => rfl)⟩
  have C__law_right : Cal P w K mg base "_law_right" 1 m__law_right 10 := ⟨_, _, ["path"], ok__law_right T F__law_right C__law_swept C__law_area_row C__law_is_path C__law_like C_unswept_path C_swept_path C_pair_weight C_area_of_path C_bounce_weight C__law_pair_weight C__law_bounces C_bounces_of, g__law_right, F__law_right.kp, (F__law_right.bindsN (ps := ["path"]) fun _ _ _ _ _ _ us hl => match us, hl with | [_], _ => rfl)⟩
  have C__law_all_right : Cal P w K mg base "_law_all_right" 1 m__law_all_right 5 := ⟨_, _, ["cup"], ok__law_all_right T F__law_all_right C__law_all_paths C__law_roll C_swept_path C_unswept_path C_area_of_path C_pair_weight C_bounce_weight, g__law_all_right, F__law_all_right.kp, (F__law_all_right.bindsN (ps := ["cup"]) fun _ _ _ _ _ _ us hl => match us, hl with | [_], _ => rfl)⟩
  have C__law_high_path : Cal P w K mg base "_law_high_path" 2 m__law_high_path 2 := ⟨_, _, ["cup", "size"], ok__law_high_path T F__law_high_path C__law_roll, g__law_high_path, F__law_high_path.kp, (F__law_high_path.bindsN (ps := ["cup", "size"]) fun _ _ _ _ _ _ us hl => match us, hl with | [_, _], _ => rfl)⟩
  have C__law_written_right : Cal P w K mg base "_law_written_right" 0 m__law_written_right 10 := ⟨_, _, [], ok__law_written_right T F__law_written_right C__law_like C_swept_path C_unswept_path, g__law_written_right, F__law_written_right.kp, (F__law_written_right.bindsN (ps := []) fun _ _ _ _ _ _ us hl => match us, hl with | [], _ => rfl)⟩
  exact ok_law T F_law C__law_written_right C__law_cup C__law_roll C__law_right C__law_path C__law_all_right C__law_high_path C__law_like C_bounces_of C_path_with_row C_area_row
theorem law_end {K : PySem.W.Frag} {H : Hp} (a : Addr) (ns : List Int) (hl : ns.length ≤ 63) (hS : SqL K H a (ns.map V.int)) : spM K 1 m_law [.ref a] H (fun v _ => v = .bl true) fun _ _ _ => False := end_ok (law_true ns hl) hS
end PL
open PySem PySem.W PySem.Calls PyProof.Rows
theorem PySem.Challenge.cw_stonepiles_k84_whole_swept_paths_holds : PySem.Challenge.rw_stonepiles_k84_whole_swept_paths.Holds := by
  w_on; o_law
  refine HandSHeadRun.head_any (r := OpenLaw.row PySem.Challenge.rw_stonepiles_k84_whole_swept_paths) (q := view (OpenLaw.row PySem.Challenge.rw_stonepiles_k84_whole_swept_paths).prog [46]) (H := PL.hk) (ob := PL.ob) (M := 3000) (loose := PL.nms) (d := HandSHeadRun.topDef (OpenLaw.row PySem.Challenge.rw_stonepiles_k84_whole_swept_paths).prog 46) (kwd := []) PL.ob_eq
    (by kernel_rfl) (fun s => by kernel_rfl) PL.run (by kernel_rfl) (by kernel_rfl) (by kernel_rfl) (by rfl) (by first | assumption | decide +kernel) (by decide +kernel) ⟨rfl, rfl, rfl, rfl, rfl, by decide +kernel⟩ ?hw ?hc
  case hw => w_witness2
  case hc =>
    refine L2.walk_ofE (l := PySem.Challenge.rw_stonepiles_k84_whole_swept_paths) (n := 63) (k := 11) (x := "script") (CX := L2.CX0) rfl (by decide) (by kernel_rfl) ⟨rfl, by decide, by decide⟩ ?F (fun _ _ _ _ z => z)
    intro w mg fa h Y G hmg0
    obtain ⟨K, KX, c⟩ := Y
    have hmg : mg ("law" : PySem.Str) = some (.ref fa) := by
      have e : (HandSHeadRun.topDef (OpenLaw.row PySem.Challenge.rw_stonepiles_k84_whole_swept_paths).prog 46).name = ("law" : PySem.Str) := by kernel_rfl
      rw [← e]
      exact hmg0
    obtain ⟨fd, hb, hF⟩ := PL.facts (P := (PySem.Challenge.rw_stonepiles_k84_whole_swept_paths).prog) (w := w) KX G hmg c
    exact ⟨K, fd, PL.spM K 1 PL.m_law, KX, hb, fun H a ns hl _ hS => PL.law_end a ns hl hS, hF⟩

