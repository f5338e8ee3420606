/- An abstract interpreter of the model's code: values that carry their contents, memory of the call's own by numbered places, and an evaluator in continuation-passing style. Definitions only. -/
import GoSem.Step
import GoSem.ClaimData
import Derived.Calls
set_option linter.unusedVariables false
namespace Go.Ab

abbrev Bytes := List UInt8
inductive PV where
  | int (k : IntKind) (n : Int)
  | bool (b : Bool)
  | str (s : Bytes)
  | agg (cs : List PV)
  | tup (vs : List PV)
  | nilp
  | rp (cs : List PV)
  | rs (sz : Nat) (es : List PV)
  | rsO (sz : Nat) (es : List PV)
  | nilm
  | rm (kt : TypeId) (ks vs : List PV)
  | nilf
  | fn (f : FuncId) (caps : List PV)
  | ifc (b : Bool)
  | bad
  deriving Inhabited

def PV.cells : PV → List PV
  | .agg cs => cs
  | v => [v]
def cell (p : PV) (j : Nat) : PV := p.cells.getD j .bad
def cellsFrom (p : PV) : (j n : Nat) → List PV
  | _, 0 => []
  | j, n + 1 => cell p j :: cellsFrom p (j + 1) n
def elemCells (sz : Nat) (p : PV) : List PV := cellsFrom p 0 sz
inductive Jmp where
  | ret
  | exit (id : Nat)
inductive LSt where
  | ready
  | busy
  | done (j : Jmp)
inductive V where
  | pv (p : PV)
  | nils
  | op (id off : Nat)
  | oe (id i off : Nat)
  | os (id : Nat)
  | osub (id lo len : Nat)
  | om (id : Nat)
  | os2 (id i off : Nat)
  | oe2 (id i off s j off2 : Nat)
  | fn (f : FuncId) (caps : List V)
  | yl (id : Nat)
  | it (id : Nat)
  | agg (cs : List V)
  | tup (vs : List V)
  | top
  deriving Inhabited

inductive Blk where
  | box (cs : List V)
  | arr (sz : Nat) (et : TypeId) (es : List PV)
  | fro (sz : Nat) (et : TypeId) (es : List PV)
  | map (kt : TypeId) (es : List (PV × PV))
  | nest (sz : Nat) (et : TypeId) (es : List PV)
  | mapN (kt e : TypeId) (es : List (PV × PV))
  | loop (st : LSt)
  | iter (t : TypeId) (es : List (PV × PV)) (cur : Option (PV × PV))
  deriving Inhabited

abbrev Fr := Nat → V
abbrev Mem := Nat → Option Blk
def frSet (f : Fr) (d : Nat) (v : V) : Fr := fun t => bif Nat.beq t d then v else f t
def frPut (f : Fr) (d : Option Nat) (v : V) : Fr := match d with | some d => frSet f d v | none => f
def memSet (m : Mem) (d : Nat) (b : Blk) : Mem := fun t => bif Nat.beq t d then some b else m t
def memDel (m : Mem) (d : Nat) : Mem := fun t => bif Nat.beq t d then none else m t
def frOf : List (Nat × V) → Fr
  | [] => fun _ => .top
  | (d, v) :: r => frSet (frOf r) d v
def memOf : List (Nat × Option Blk) → Mem
  | [] => fun _ => none
  | (d, b) :: r => fun t => bif Nat.beq t d then b else memOf r t
abbrev Foot := List (Bool × Nat)

def asInt (q : IntKind) : PV → Option Int
  | .int q' n => if q' = q then some n else none
  | _ => none
def asBool : PV → Option Bool
  | .bool b => some b
  | _ => none
def asStr : PV → Option Bytes
  | .str s => some s
  | _ => none
def asIfc : PV → Option Bool
  | .ifc b => some b
  | _ => none
def asSl (sz : Nat) : PV → Option (List PV)
  | .rs sz' es => if sz' = sz then some es else match es with | [] => some [] | _ => none
  | _ => none
def asTup (n : Nat) : PV → Option (List PV)
  | .tup vs => if vs.length = n then some vs else none
  | _ => none
def asAgg (n : Nat) : PV → Option Unit
  | .agg cs => if cs.length = n then some () else none
  | _ => none
def asRow (sz : Nat) : PV → Option (List PV)
  | .rsO sz' es => if sz' = sz then some es else none
  | _ => none
def PV.isRow : PV → Bool
  | .rsO _ _ => true
  | _ => false
def PV.strip1 : PV → PV
  | .rsO sz es => .rs sz es
  | p => p
def PV.strip : PV → PV
  | .agg cs => .agg (cs.map PV.strip1)
  | p => p.strip1
def idxP (es : List PV) (i : Int) : Option PV := if 0 ≤ i then es[i.toNat]? else none
def idxB (s : Bytes) (i : Int) : Option UInt8 := if 0 ≤ i then s[i.toNat]? else none
inductive Kd where
  | int (q : IntKind)
  | bool
  | str
def kdIs : Kd → PV → Bool
  | .int q, .int q' _ => decide (q' = q)
  | .bool, .bool _ => true
  | .str, .str _ => true
  | _, _ => false
def chk : List Kd → List PV → Bool
  | [], [] => true
  | k :: ks, p :: ps => kdIs k p && chk ks ps
  | _, _ => false
def PV.isAgg : PV → Bool
  | .agg _ => true
  | _ => false
def PV.plain : PV → Bool
  | .tup _ => false
  | .bad => false
  | _ => true
def peq : PV → PV → Bool
  | .int _ a, .int _ b => a == b
  | .bool a, .bool b => a == b
  | .str a, .str b => a == b
  | _, _ => false
def peqL : List PV → List PV → Bool
  | [], [] => true
  | a :: as, b :: bs => peq a b && peqL as bs
  | _, _ => false
def mlook (k : PV) (z : PV) : List (PV × PV) → PV
  | [] => z
  | (a, v) :: r => if peqL k.cells a.cells then v else mlook k z r
def mhas (k : PV) : List (PV × PV) → Bool
  | [] => false
  | (a, _) :: r => peqL k.cells a.cells || mhas k r
def mput (k v : PV) : List (PV × PV) → List (PV × PV)
  | [] => [(k, v)]
  | (a, u) :: r => if peqL k.cells a.cells then (k, v) :: r else (a, u) :: mput k v r
def mtake (k : PV) : List (PV × PV) → List (PV × PV)
  | [] => []
  | (a, u) :: r => if peqL k.cells a.cells then (a, .bad) :: r else (a, u) :: mtake k r
def mrow (sz : Nat) (k : PV) : List (PV × PV) → Option (List PV)
  | [] => some []
  | (a, u) :: r => if peqL k.cells a.cells then asRow sz u else mrow sz k r
section
variable (P : Program)
def csz (t : TypeId) : Nat := ((P.info? t).map (·.size)).getD 0
def bsz (t : TypeId) : Nat := ((P.info? t).map (·.bytes)).getD 0
def isAggT (t : TypeId) : Bool := match P.underlying t with | some (.struct _) | some (.array _ _) => true | _ => false
def kdsField (kds : TypeId → Option (List Kd)) : List Field → Nat → Option (List Kd)
  | [], _ => some []
  | f :: r, off => if f.offset = off ∧ f.name ≠ "_" then (kds f.type).bind fun a => (kdsField kds r (off + a.length)).bind fun b => some (a ++ b) else none
def kdsRep (a : List Kd) : Nat → List Kd
  | 0 => []
  | n + 1 => a ++ kdsRep a n
def kds : Nat → TypeId → Option (List Kd)
  | 0, _ => none
  | d + 1, t => match P.underlying t with
    | some (.int q) => some [.int q]
    | some .bool => some [.bool]
    | some .string => some [.str]
    | some (.struct fs) => if P.stoodInHeld t then none else (kdsField (kds d) fs.toList 0).bind fun a => if a.length = csz P t then some a else none
    | some (.array n e) => (kds d e).bind fun a => if a.length = csz P e ∧ n * a.length = csz P t then some (kdsRep a n) else none
    | _ => none
def keyOk (kt : TypeId) (ks : List Kd) (k : PV) : Bool := chk ks k.cells && (isAggT P kt == k.isAgg)
def kdsOf (t : TypeId) : Option (List Kd) := if P.eqGuardType P.depth t then none else kds P 8 t
end
def ofVal1 : Value → V
  | .int k n => if (Lit.int k n).wf then .pv (.int k n) else .top
  | .bool b => .pv (.bool b)
  | .string s => if s.data.toList.length ≤ maxLen then .pv (.str s.data.toList) else .top
  | .pointer none => .pv .nilp
  | .slice none 0 0 => .nils
  | .map none => .pv .nilm
  | .nilFunc => .pv .nilf
  | .nilIface => .pv (.ifc false)
  | _ => .top
def ofVal : Value → V
  | .agg cs => if cs.toList.all (fun c => match c with | .agg _ => false | .tuple _ => false | _ => true) then .agg (cs.toList.map ofVal1) else .top
  | v => ofVal1 v
def zeroV (P : Program) (t : TypeId) : Option V := ((P.info? t).bind (·.zero)).map ofVal

def toCells (n : Nat) : V → Option (List V)
  | .pv (.agg cs) => if cs.length = n then some (cs.map .pv) else none
  | .agg cs => if cs.length = n then some cs else none
  | .top | .tup _ | .pv (.tup _) | .pv .bad => none
  | v => if n = 1 then some [v] else none
def frzs (f : V → Option PV) : List V → Option (List PV)
  | [] => some []
  | v :: r => (f v).bind fun p => (frzs f r).bind fun ps => some (p :: ps)
def frz (m : Mem) : Nat → V → Option PV
  | 0, _ => none
  | _ + 1, .pv p => some p
  | _ + 1, .nils => some (.rs 0 [])
  | d + 1, .agg cs => (frzs (frz m d) cs).bind fun ps => some (.agg ps)
  | d + 1, .tup cs => (frzs (frz m d) cs).bind fun ps => some (.tup ps)
  | d + 1, .fn g cs => (frzs (frz m d) cs).bind fun ps => some (.fn g ps)
  | _ + 1, .os id => match m id with
    | some (.arr s _ es) => some (.rs s es)
    | some (.fro s _ es) => some (.rs s es)
    | some (.nest s _ es) => some (.rs s (es.map PV.strip))
    | _ => none
  | _ + 1, .os2 id i off => match m id with
    | some (.nest _ _ es) => (es[i]?).bind fun e => match cell e off with
      | .rsO s rs => some (.rs s rs)
      | _ => none
    | _ => none
  | _ + 1, .osub id lo len => match m id with
    | some (.arr s _ es) => some (.rs s ((es.drop lo).take len))
    | some (.fro s _ es) => some (.rs s ((es.drop lo).take len))
    | _ => none
  | d + 1, .op id off => match m id with
    | some (.box cs) => (frzs (frz m d) (cs.drop off)).bind fun ps => some (.rp ps)
    | _ => none
  | _ + 1, .oe id i off => match m id with
    | some (.arr s _ es) => (es[i]?).bind fun e => some (.rp ((elemCells s e).drop off))
    | some (.fro s _ es) => (es[i]?).bind fun e => some (.rp ((elemCells s e).drop off))
    | _ => none
  | _ + 1, .om id => match m id with
    | some (.map kt es) => some (.rm kt (es.map (·.1)) (es.map (·.2)))
    | some (.mapN kt _ es) => some (.rm kt (es.map (·.1)) (es.map fun x => x.2.strip1))
    | _ => none
  | _ + 1, _ => none
def frzDepth : Nat := 6
def readsL (f : V → List Nat) : List V → List Nat
  | [] => []
  | v :: r => f v ++ readsL f r
def readsV (m : Mem) : Nat → V → List Nat
  | 0, _ => []
  | d + 1, .agg cs => readsL (readsV m d) cs
  | d + 1, .tup cs => readsL (readsV m d) cs
  | d + 1, .fn _ cs => readsL (readsV m d) cs
  | _ + 1, .os id => [id]
  | _ + 1, .osub id _ _ => [id]
  | _ + 1, .oe id _ _ => [id]
  | _ + 1, .om id => [id]
  | _ + 1, .os2 id _ _ => [id]
  | d + 1, .op id off => id :: (match m id with | some (.box cs) => readsL (readsV m d) (cs.drop off) | _ => [])
  | _ + 1, _ => []
def frzS (m : Mem) : V → Option (PV × Mem)
  | .pv p => some (p, m)
  | .nils => some (.rs 0 [], m)
  | .os id => match m id with
    | some (.arr s et es) => some (.rs s es, memSet m id (.fro s et es))
    | some (.fro s _ es) => some (.rs s es, m)
    | some (.nest s et es) => some (.rs s (es.map PV.strip), memSet m id (.fro s et (es.map PV.strip)))
    | _ => none
  | _ => none
def frzSL : Mem → List V → Option (List PV × Mem)
  | m, [] => some ([], m)
  | m, v :: r => match frzS m v with
    | some (p, m) => match frzSL m r with
      | some (ps, m) => some (p :: ps, m)
      | none => none
    | none => none
def frzVal (m : Mem) : V → Option (PV × Mem)
  | .agg cs => match frzSL m cs with
    | some (ps, m) => some (.agg ps, m)
    | none => none
  | v => frzS m v
def frzElem (m : Mem) (n : Nat) (agg : Bool) (v : V) : Option (PV × Mem) :=
  match toCells n v with
  | some cs => match frzSL m cs with
    | some (ps, m) => if agg then some (.agg ps, m) else match ps with | [p] => some (p, m) | _ => none
    | none => none
  | none => none
mutual
def V.has (id : Nat) : V → Bool
  | .agg cs => hasL id cs
  | .tup cs => hasL id cs
  | .fn _ cs => hasL id cs
  | .os j => Nat.beq j id
  | .osub j _ _ => Nat.beq j id
  | .oe j _ _ => Nat.beq j id
  | .om j => Nat.beq j id
  | .os2 j _ _ => Nat.beq j id
  | .oe2 j _ _ _ _ _ => Nat.beq j id
  | .op j _ => Nat.beq j id
  | .yl j => Nat.beq j id
  | .it j => Nat.beq j id
  | _ => false
def hasL (id : Nat) : List V → Bool
  | [] => false
  | v :: r => v.has id || hasL id r
end
mutual
def V.within (M : List Nat) : V → Bool
  | .agg cs => withinL M cs
  | .tup cs => withinL M cs
  | .fn _ cs => withinL M cs
  | .os j => M.elem j
  | .osub j _ _ => M.elem j
  | .oe j _ _ => M.elem j
  | .om j => M.elem j
  | .os2 j _ _ => M.elem j
  | .oe2 j _ _ _ _ _ => M.elem j
  | .op j _ => M.elem j
  | .yl j => M.elem j
  | .it j => M.elem j
  | _ => true
def withinL (M : List Nat) : List V → Bool
  | [] => true
  | v :: r => v.within M && withinL M r
end
mutual
def V.has2 (id : Nat) : V → Bool
  | .agg cs => hasL2 id cs
  | .tup cs => hasL2 id cs
  | .fn _ cs => hasL2 id cs
  | .os2 j _ _ => Nat.beq j id
  | .oe2 j _ _ _ _ _ => Nat.beq j id
  | _ => false
def hasL2 (id : Nat) : List V → Bool
  | [] => false
  | v :: r => v.has2 id || hasL2 id r
end
def killV (id : Nat) (v : V) : V := bif v.has id then .top else v
def killF (id : Nat) (f : Fr) : Fr := fun t => killV id (f t)
def killB (id : Nat) : Blk → Blk
  | .box cs => .box (cs.map (killV id))
  | b => b
def killM (id : Nat) (m : Mem) : Mem := fun j => match m j with | some b => some (killB id b) | none => none
def kill2V (id : Nat) (v : V) : V := bif v.has2 id then .top else v
def kill2F (id : Nat) (f : Fr) : Fr := fun t => kill2V id (f t)
def kill2B (id : Nat) : Blk → Blk
  | .box cs => .box (cs.map (kill2V id))
  | b => b
def kill2M (id : Nat) (m : Mem) : Mem := fun j => match m j with | some b => some (kill2B id b) | none => none
abbrev Kl := List (Bool × Nat)
def kf : Kl → Fr → Fr
  | [], f => f
  | (true, id) :: r, f => kf r (killF id f)
  | (false, id) :: r, f => kf r (kill2F id f)
def km : Kl → Mem → Mem
  | [], m => m
  | (true, id) :: r, m => km r (memDel (killM id m) id)
  | (false, id) :: r, m => km r (kill2M id m)
def wrM : List (Nat × Blk) → Mem → Mem
  | [], m => m
  | (id, b) :: r, m => wrM r (memSet m id b)
def Blk.names : Blk → Nat → Bool
  | .box cs, id => hasL id cs
  | _, _ => false
def Blk.within (M : List Nat) : Blk → Bool
  | .box cs => withinL M cs
  | _ => true

end Go.Ab
