/- The abstract interpreter: what each operation does, regions, code, functions. Definitions only. -/
import Derived.Test.YtacjfkmonjbcmaaAbDefs
import Derived.Deep.Quiet
set_option linter.unusedVariables false
namespace Go.Ab
inductive FS where
  | raw
  | fn (g : FuncId) (caps : List FS)
  | ptr (cells : List FS)
mutual
def rdL : FS → PV → Option (List PV)
  | .raw, p => some [p]
  | .fn g cs, .fn g' qs => if g' = g then rdLs cs qs else none
  | .ptr cs, .rp qs => rdLs cs qs
  | _, _ => none
def rdLs : List FS → List PV → Option (List PV)
  | [], [] => some []
  | s :: ss, p :: ps => (rdL s p).bind fun a => (rdLs ss ps).bind fun b => some (a ++ b)
  | _, _ => none
end
mutual
def bldF : FS → List PV → PV × List PV
  | .raw, [] => (.bad, [])
  | .raw, p :: r => (p, r)
  | .fn g cs, l => (.fn g (bldFs cs l).1, (bldFs cs l).2)
  | .ptr cs, l => (.rp (bldFs cs l).1, (bldFs cs l).2)
def bldFs : List FS → List PV → List PV × List PV
  | [], l => ([], l)
  | s :: ss, l => ((bldF s l).1 :: (bldFs ss (bldF s l).2).1, (bldFs ss (bldF s l).2).2)
end
mutual
def FS.n : FS → Nat
  | .raw => 1
  | .fn _ cs => nFs cs
  | .ptr cs => nFs cs
def nFs : List FS → Nat
  | [] => 0
  | s :: ss => s.n + nFs ss
end
inductive Sh where
  | raw
  | int (q : IntKind)
  | bool
  | str
  | rs (sz : Nat)
  | rp (n : Nat)
  | fs (s : FS)
  | own (v : V)
inductive BSh where
  | box (cs : List Sh)
  | arr (sz : Nat) (et : TypeId)
  | fro (sz : Nat) (et : TypeId)
  | map (kt : TypeId)
  | nest (sz : Nat) (et : TypeId)
  | mapN (kt e : TypeId)
  | loop
  | busy
  | iter (t : TypeId)
structure Tpl where
  slots : List (Nat × Sh)
  blks : List (Nat × BSh)
  fz : List (Nat × Nat) := []
  bz : List (Nat × Nat × Nat) := []
  bo : List (Nat × Nat × Nat × TypeId) := []
  nz : List Nat := []
  ct : List (Nat × Nat) := []
structure Lps where
  run : {S R : Type} → (S → (S → Option R) → Option R) → S → Option R
  room : Nat → Bool
  room_ok : ∀ n, room n = true → (n : Int) ≤ IntKind.i64.max
def loopS {S R : Type} (body : S → (S → Option R) → Option R) : Nat → S → Option R
  | 0, _ => none
  | n + 1, s => body s (loopS body n)
abbrev YL := (R : Type) → Nat → Nat → Nat → List V → Fr → Mem → (V → Fr → Mem → Option R) → Option R
def noYl : YL := fun _ _ _ _ _ _ _ _ => none
structure Env where
  P : Program
  ctx : FuncId → Option (List PV → Option PV)
  glob : Nat → Option (List PV)
  fid : FuncId
  fn : Func
  lp : Lps
  hint : Nat → Nat → List Tpl
  u : Nat
  own : FuncId → Option (List PV → Option PV)
  inl : (R : Type) → FuncId → Nat → List V → Fr → Mem → (V → Fr → Mem → Option R) → Option R
  rng : (R : Type) → FuncId → Nat → YL → List V → Fr → Mem → (V → Fr → Mem → Option R) → Option R
  yl : YL
  rdb : Bool := false
  fnr : FuncId → Option FS := fun _ => none
  nst : Nat → Bool := fun _ => false

section
variable {R : Type} (E : Env)
def mapCase (kt : TypeId) (p : PV) (a : Option R) (b : List PV → List PV → Option R) : Option R :=
  match p with
  | .nilm => a
  | .rm kt' ks vs => if kt' = kt then b ks vs else none
  | _ => none
def ldTy (t : TypeId) (p : PV) (k : PV → Option R) : Option R :=
  match E.P.underlying t with
  | some (.int q) => (asInt q p).bind fun n => k (.int q n)
  | some .bool => (asBool p).bind fun b => k (.bool b)
  | some .string => (asStr p).bind fun s => k (.str s)
  | some (.slice e) => (asSl (csz E.P e) p).bind fun es => k (.rs (csz E.P e) es)
  | some (.struct _) => (asAgg (csz E.P t) p).bind fun _ => k (.agg (elemCells (csz E.P t) p))
  | some (.array _ _) => (asAgg (csz E.P t) p).bind fun _ => k (.agg (elemCells (csz E.P t) p))
  | some (.pointer _) => match p with
    | .nilp => k p
    | .rp _ => k p
    | _ => none
  | some (.map kt _) => mapCase kt p (k .nilm) fun ks vs => k (.rm kt ks vs)
  | some (.func _ _ _) => match p with
    | .nilf => k .nilf
    | .fn g cs => k (.fn g cs)
    | _ => none
  | some (.interface _) => (asIfc p).bind fun b => k (.ifc b)
  | _ => none
def ldTyV (t : TypeId) (v : V) (k : V → Option R) : Option R :=
  match v with
  | .pv p => ldTy E t p fun p => k (.pv p)
  | .top => none
  | v => if (E.P.underlying t).isSome then k v else none
def ldTys : List TypeId → List PV → (List V → Option R) → Option R
  | [], [], k => k []
  | t :: ts, p :: ps, k => ldTy E t p fun q => ldTys ts ps fun vs => k (.pv q :: vs)
  | _, _, _ => none
def ldRes (ts : List TypeId) (r : PV) (k : V → Option R) : Option R :=
  match ts with
  | [] => (asTup 0 r).bind fun _ => k (.tup [])
  | [t] => ldTy E t r fun q => k (.pv q)
  | ts => (asTup ts.length r).bind fun vs => ldTys E ts ((List.range ts.length).map fun j => vs.getD j .bad) fun us => k (.tup us)
def ldResF (fid : FuncId) (ts : List TypeId) (r : PV) (k : V → Option R) : Option R :=
  match E.fnr fid with
  | some s => (rdL s r).bind fun ls => k (.pv (bldF s ((List.range s.n).map fun j => ls.getD j .bad)).1)
  | none => ldRes E ts r k
def opd (f : Fr) : Operand → V
  | .tmp t => bif Nat.blt t E.fn.ntmps then f t else .top
  | .const c => ofVal c
  | .global g => match E.glob g with | some cs => .pv (.rp cs) | none => .top
  | .func f => .fn f []
def fresh (draw : Bool) (site : Nat) (b : Blk) (f : Fr) (m : Mem) (k : Fr → Mem → Foot → Option R) : Option R :=
  match m site with
  | none => k f (memSet m site b) [(true, site)]
  | some _ => if draw || b.names site then none else k (killF site f) (memSet (killM site m) site b) [(true, site)]

def aggCells : V → Option (List V)
  | .pv (.agg cs) => some (cs.map .pv)
  | .agg cs => some cs
  | _ => none
def noMem : Mem := fun _ => none
def xbin (op : BinOp) (t : TypeId) (a b : V) (k : PV → Option R) : Option R :=
  match a, b with
  | .pv (.int q x), .pv (.int q' y) => match op with
    | .shl => if y < 0 then none else k (.int q (q.wrap (x * 2 ^ (min y.toNat q.bits))))
    | .shr => if y < 0 then none else k (.int q (x.fdiv (2 ^ (min y.toNat q.bits))))
    | op => if q = q' then match op with
      | .add => k (.int q (q.wrap (x + y)))
      | .sub => k (.int q (q.wrap (x - y)))
      | .mul => k (.int q (q.wrap (x * y)))
      | .quo => if y = 0 then none else k (.int q (q.wrap (x.tdiv y)))
      | .rem => if y = 0 then none else k (.int q (x.tmod y))
      | .and => k (.int q (q.wrap (BitVec.ofInt q.bits x &&& BitVec.ofInt q.bits y).toNat))
      | .or => k (.int q (q.wrap (BitVec.ofInt q.bits x ||| BitVec.ofInt q.bits y).toNat))
      | .xor => k (.int q (q.wrap (BitVec.ofInt q.bits x ^^^ BitVec.ofInt q.bits y).toNat))
      | .andNot => k (.int q (q.wrap (BitVec.ofInt q.bits x &&& ~~~(BitVec.ofInt q.bits y)).toNat))
      | .eql => k (.bool (x == y))
      | .neq => k (.bool (x != y))
      | .lss => k (.bool (decide (x < y)))
      | .leq => k (.bool (decide (x ≤ y)))
      | .gtr => k (.bool (decide (x > y)))
      | .geq => k (.bool (decide (x ≥ y)))
      | _ => none
      else none
  | .pv (.str x), .pv (.str y) => match op with
    | .add => if E.lp.room (x.length + y.length) = true then k (.str (x ++ y)) else none
    | .eql => k (.bool (x == y))
    | .neq => k (.bool (!(x == y)))
    | .lss => k (.bool (Op.bytesLess x y))
    | .leq => k (.bool (Op.bytesLess x y || x == y))
    | .gtr => k (.bool (!(Op.bytesLess x y || x == y)))
    | .geq => k (.bool (!(Op.bytesLess x y)))
    | _ => none
  | .pv (.bool x), .pv (.bool y) => match op, E.P.underlying t with
    | .eql, some .bool => k (.bool (x == y))
    | .neq, some .bool => k (.bool (!(x == y)))
    | _, _ => none
  | .pv .nilp, .pv .nilp => match op, E.P.underlying t with
    | .eql, some (.pointer _) => k (.bool true)
    | .neq, some (.pointer _) => k (.bool false)
    | _, _ => none
  | .fn _ _, .pv .nilf | .pv (.fn _ _), .pv .nilf => match op, E.P.underlying t with
    | .eql, some (.func _ _ _) => k (.bool false)
    | .neq, some (.func _ _ _) => k (.bool true)
    | _, _ => none
  | .pv (.rp _), .pv .nilp | .op _ _, .pv .nilp | .oe _ _ _, .pv .nilp => match op, E.P.underlying t with
    | .eql, some (.pointer _) => k (.bool false)
    | .neq, some (.pointer _) => k (.bool true)
    | _, _ => none
  | a, b => if isAggT E.P t then match kdsOf E.P t, aggCells a, aggCells b with
    | some ks, some as, some bs => match frzs (frz noMem 1) as, frzs (frz noMem 1) bs with
      | some as, some bs => if chk ks as = true ∧ chk ks bs = true then match op with
        | .eql => k (.bool (peqL as bs))
        | .neq => k (.bool (!(peqL as bs)))
        | _ => none
        else none
      | _, _ => none
    | _, _, _ => none
    else none
def isNilI : Operand → Bool
  | .const .nilIface => true
  | _ => false
def ifcCmp (op : BinOp) (t : TypeId) (a : V) (k : PV → Option R) : Option R :=
  match a with
  | .pv (.ifc b) => match op, E.P.underlying t with
    | .eql, some (.interface _) => k (.bool (!b))
    | .neq, some (.interface _) => k (.bool b)
    | _, _ => none
  | _ => none
def xbin2 (op : BinOp) (t : TypeId) (y : Operand) (a b : V) (k : PV → Option R) : Option R :=
  bif isNilI y then ifcCmp E op t a k else xbin E op t a b k
noncomputable def agree (a b : Option R) : Option R := @ite _ (a = b) (Classical.propDecidable _) a none
noncomputable def nilCmp (op : BinOp) (t : TypeId) (es : List PV) (k : Bool → Option R) : Option R :=
  match op, E.P.underlying t with
  | .eql, some (.slice _) => if es.isEmpty = true then agree (k true) (k false) else k false
  | .neq, some (.slice _) => if es.isEmpty = true then agree (k false) (k true) else k true
  | _, _ => none

def xun (op : UnOp) (a : V) (k : PV → Option R) : Option R :=
  match op, a with
  | .not, .pv (.bool b) => k (.bool !b)
  | .neg, .pv (.int q n) => k (.int q (q.wrap (0 - n)))
  | .xor, .pv (.int q n) => k (.int q (q.wrap (BitVec.ofInt q.bits (if q.signed then -1 else q.max) ^^^ BitVec.ofInt q.bits n).toNat))
  | _, _ => none

def xconv (s d : TypeId) (a : V) (k : PV → Option R) : Option R :=
  match E.P.underlying s, E.P.underlying d, a with
  | some (.int q), some (.int q'), .pv (.int q'' n) => if q'' = q then (if q' = q then k (.int q n) else k (.int q' (q'.wrap n))) else none
  | some .string, some .string, .pv (.str s) => k (.str s)
  | _, _, _ => none
def xloadE (s : Nat) (t : TypeId) (e : PV) (off : Nat) (k : V → Option R) : Option R :=
  if isAggT E.P t then (if off + csz E.P t ≤ s then k (.pv (.agg (((elemCells s e).drop off).take (csz E.P t)))) else none)
  else match (elemCells s e)[off]? with
    | some p => ldTy E t p fun p => k (.pv p)
    | none => none
def pvO : V → Option PV
  | .pv p => some p
  | _ => none
def xload (own : Bool) (t : TypeId) (a : V) (m : Mem) (k : V → Foot → Option R) : Option R :=
  match a with
  | .pv (.rp cs) =>
    if isAggT E.P t then (if csz E.P t ≤ cs.length then k (.pv (.agg (cs.take (csz E.P t)))) [] else none)
    else (cs.head?).bind fun p => ldTy E t p fun p => k (.pv p) []
  | .op id off => match m id with
    | some (.box cs) =>
      if isAggT E.P t then (if off + csz E.P t ≤ cs.length then k (.agg ((cs.drop off).take (csz E.P t))) [(false, id)] else none)
      else match frzs pvO cs with
        | some ps => (ps[off]?).bind fun p => ldTy E t p fun p => k (.pv p) [(false, id)]
        | none => match cs[off]? with
          | some v => ldTyV E t v fun v => k v [(false, id)]
          | none => none
    | _ => none
  | .oe id i off => match m id with
    | some (.arr s _ es) => (es[i]?).bind fun e => xloadE E s t e off fun v => k v [(false, id)]
    | some (.fro s _ es) => (es[i]?).bind fun e => xloadE E s t e off fun v => k v [(false, id)]
    | some (.nest _ _ es) => if isAggT E.P t then none else (es[i]?).bind fun e =>
      if own then (match E.P.underlying t with
        | some (.slice et) => (asRow (csz E.P et) (cell e off)).bind fun _ => k (.os2 id i off) [(false, id)]
        | _ => none)
      else ldTy E t (cell e off) fun p => k (.pv p) [(false, id)]
    | _ => none
  | .oe2 id i off s j off2 => match m id with
    | some (.nest _ _ es) => (es[i]?).bind fun e => (asRow s (cell e off)).bind fun rs => (rs[j]?).bind fun q => xloadE E s t q off2 fun v => k v [(false, id)]
    | _ => none
  | _ => none

def over {T : Type} : List T → List T → List T
  | [], cs => cs
  | x :: new, [] => x :: over new []
  | x :: new, _ :: cs => x :: over new cs
def splice {T : Type} : List T → Nat → List T → List T
  | cs, 0, new => over new cs
  | [], _ + 1, new => new
  | c :: cs, off + 1, new => c :: splice cs off new
theorem over_eq {T : Type} : ∀ (new cs : List T), over new cs = new ++ cs.drop new.length
  | [], cs => by simp [over]
  | x :: new, [] => by simp [over, over_eq new []]
  | x :: new, _ :: cs => by simp [over, over_eq new cs]
theorem splice_eq {T : Type} : ∀ (cs : List T) (off : Nat) (new : List T), splice cs off new = cs.take off ++ new ++ cs.drop (off + new.length)
  | cs, 0, new => by cases cs <;> simp [splice, over_eq]
  | [], _ + 1, new => by simp [splice]
  | c :: cs, off + 1, new => by
    rw [splice, splice_eq cs off new, show off + 1 + new.length = (off + new.length) + 1 by omega]
    simp

def frzElemD (draw : Bool) (m : Mem) (n : Nat) (agg : Bool) (v : V) : Option (PV × Mem) :=
  if draw then (match frzElem noMem n agg v with | some (p, _) => some (p, m) | none => none) else frzElem m n agg v
def setRow (s : Nat) (e : PV) (off : Nat) (p : PV) : PV := if s = 1 then p else .agg ((elemCells s e).set off p)
def setCells (s : Nat) (e : PV) (off n : Nat) (p : PV) : PV := if off = 0 ∧ n = s then p else .agg (splice (elemCells s e) off p.cells)
def xstore (draw : Bool) (t : TypeId) (a x : V) (m : Mem) (k : Mem → Foot → Option R) : Option R :=
  match a with
  | .op id off => match m id with
    | some (.box cs) => match toCells (csz E.P t) x with
      | some new => if off + csz E.P t ≤ cs.length ∧ 0 < csz E.P t then k (memSet m id (.box (splice cs off new))) [(true, id)] else none
      | none => none
    | _ => none
  | .oe id i off => match frzElemD draw m (csz E.P t) (isAggT E.P t) x with
    | some (p, m) => match m id with
      | some (.arr s et es) => (es[i]?).bind fun e =>
        if off = 0 ∧ csz E.P t = s ∧ 0 < s then k (memSet m id (.arr s et (es.set i p))) [(true, id)]
        else if off + csz E.P t ≤ s ∧ 0 < csz E.P t ∧ 1 < s then k (memSet m id (.arr s et (es.set i (.agg (splice (elemCells s e) off p.cells))))) [(true, id)]
        else none
      | some (.nest s et es) => (es[i]?).bind fun e =>
        if off + csz E.P t ≤ s ∧ 0 < csz E.P t ∧ 1 < s then k (memSet m id (.nest s et (es.set i (.agg (splice (elemCells s e) off p.cells))))) [(true, id)] else none
      | _ => none
    | none => none
  | .oe2 id i off s j off2 => match frzElem noMem (csz E.P t) (isAggT E.P t) x with
    | some (p, _) => match m id with
      | some (.nest s0 et es) => (es[i]?).bind fun e => (asRow s (cell e off)).bind fun rs => (rs[j]?).bind fun q =>
        if off2 + csz E.P t ≤ s ∧ 0 < csz E.P t ∧ off < s0 then
          k (memSet m id (.nest s0 et (es.set i (setRow s0 e off (.rsO s (rs.set j (setCells s q off2 (csz E.P t) p))))))) [(true, id)]
        else none
      | _ => none
    | none => none
  | _ => none

def lenV (m : Mem) (x : V) (k : Nat → Foot → Option R) : Option R :=
  match x with
  | .pv (.rs _ es) => k es.length []
  | .nils => k 0 []
  | .osub id _ len => match m id with
    | some (.arr _ _ _) => k len [(false, id)]
    | some (.fro _ _ _) => k len [(false, id)]
    | _ => none
  | .os id => match m id with
    | some (.arr _ _ es) => k es.length [(false, id)]
    | some (.fro _ _ es) => k es.length [(false, id)]
    | some (.nest _ _ es) => k es.length [(false, id)]
    | some (.box cs) => if cs.length ≤ maxLen then k cs.length [(false, id)] else none
    | _ => none
  | _ => none
def lenR (sz : Nat) (m : Mem) (x : V) (k : Nat → Foot → Option R) : Option R :=
  match x with
  | .os2 id i off => match m id with
    | some (.nest _ _ es) => (es[i]?).bind fun e => (asRow sz (cell e off)).bind fun rs => k rs.length [(false, id)]
    | _ => none
  | x => lenV m x k
def lenM (m : Mem) (x : V) (k : Nat → Foot → Option R) : Option R :=
  match x with
  | .om id => match m id with
    | some (.map _ es) => if es.length ≤ maxLen then k es.length [(false, id)] else none
    | _ => none
  | .pv .nilm => k 0 []
  | _ => none
def xlen (t : TypeId) (x : V) (m : Mem) (k : V → Foot → Option R) : Option R :=
  match E.P.underlying t with
  | some (.array n _) => if n ≤ maxLen then k (.pv (.int .i64 n)) [] else none
  | some .string => match x with
    | .pv (.str s) => k (.pv (.int .i64 s.length)) []
    | _ => none
  | some (.slice e) => lenR (csz E.P e) m x fun n ft => k (.pv (.int .i64 n)) ft
  | some (.map _ _) => lenM m x fun n ft => k (.pv (.int .i64 n)) ft
  | _ => none
def elemsV (m : Mem) (sz : Nat) : V → Option (List PV × Foot)
  | .pv (.rs s es) => if s = sz then some (es, []) else match es with | [] => some ([], []) | _ => none
  | .nils => some ([], [])
  | .os id => match m id with
    | some (.arr s' _ es) => if s' = sz then some (es, [(false, id)]) else none
    | some (.fro s' _ es) => if s' = sz then some (es, [(false, id)]) else none
    | _ => none
  | .osub id lo len => match m id with
    | some (.arr s' _ es) => if s' = sz then some ((es.drop lo).take len, [(false, id)]) else none
    | some (.fro s' _ es) => if s' = sz then some ((es.drop lo).take len, [(false, id)]) else none
    | _ => none
  | _ => none
def bytesP : List PV → Option Bytes
  | [] => some []
  | .int .u8 n :: r => (bytesP r).map fun b => UInt8.ofNat n.toNat :: b
  | _ => none
def xconvM (s d : TypeId) (a : V) (m : Mem) (k : PV → Foot → Option R) : Option R :=
  match E.P.underlying s, E.P.underlying d with
  | some (.slice e), some .string => match E.P.underlying e, elemsV m 1 a with
    | some (.int .u8), some (es, ft) => (bytesP es).bind fun b => k (.str b) ft
    | _, _ => none
  | _, _ => xconv E s d a fun p => k p []
def inRange (i : Int) (n : Nat) : Prop := 0 ≤ i ∧ i < (n : Int)
instance (i : Int) (n : Nat) : Decidable (inRange i n) := inferInstanceAs (Decidable (_ ∧ _))

def xindexAddr (t : TypeId) (x ix : V) (m : Mem) (k : V → Foot → Option R) : Option R :=
  match ix with
  | .pv (.int _ i) => match E.P.underlying t, x with
    | some (.slice e), .pv (.rs s es) => if s = csz E.P e ∧ 0 < s then (idxP es i).bind fun p => k (.pv (.rp (elemCells s p))) [] else none
    | some (.slice e), .os id => match m id with
      | some (.arr s _ es) => if s = csz E.P e ∧ 0 < s then (if inRange i es.length then k (.oe id i.toNat 0) [(false, id)] else none) else none
      | some (.fro s _ es) => if s = csz E.P e ∧ 0 < s then (if inRange i es.length then k (.oe id i.toNat 0) [(false, id)] else none) else none
      | some (.nest s _ es) => if s = csz E.P e ∧ 0 < s then (if inRange i es.length then k (.oe id i.toNat 0) [(false, id)] else none) else none
      | some (.box cs) => if csz E.P e = 1 ∧ inRange i cs.length then k (.op id i.toNat) [(false, id)] else none
      | _ => none
    | some (.slice e), .os2 id i0 off => match m id with
      | some (.nest _ _ es) => if 0 < csz E.P e then (es[i0]?).bind fun e0 => (asRow (csz E.P e) (cell e0 off)).bind fun rs => if inRange i rs.length then k (.oe2 id i0 off (csz E.P e) i.toNat 0) [(false, id)] else none else none
      | _ => none
    | some (.slice e), .osub id lo len => match m id with
      | some (.arr s _ _) => if s = csz E.P e ∧ 0 < s then (if inRange i len then k (.oe id (lo + i.toNat) 0) [(false, id)] else none) else none
      | some (.fro s _ _) => if s = csz E.P e ∧ 0 < s then (if inRange i len then k (.oe id (lo + i.toNat) 0) [(false, id)] else none) else none
      | _ => none
    | some (.array n e), .op id off => if inRange i n ∧ 0 < csz E.P e then k (.op id (off + i.toNat * csz E.P e)) [] else none
    | some (.array n e), .pv (.rp cs) => if inRange i n ∧ 0 < csz E.P e then k (.pv (.rp (cs.drop (i.toNat * csz E.P e)))) [] else none
    | some (.array n e), .oe id j off => if inRange i n ∧ 0 < csz E.P e then k (.oe id j (off + i.toNat * csz E.P e)) [] else none
    | _, _ => none
  | _ => none

def fieldOff (s : TypeId) (j : Nat) : Option (Nat × TypeId) :=
  match E.P.underlying s with
  | some (.struct fs) => match fs[j]? with
    | some f => if csz E.P f.type = 0 then none else some (f.offset, f.type)
    | none => none
  | _ => none
def xfieldAddr (s : TypeId) (x : V) (j : Nat) (k : V → Option R) : Option R :=
  match fieldOff E s j with
  | some (o, _) => match x with
    | .pv (.rp cs) => k (.pv (.rp (cs.drop o)))
    | .op id off => k (.op id (off + o))
    | .oe id i off => k (.oe id i (off + o))
    | .oe2 id i off s j off2 => k (.oe2 id i off s j (off2 + o))
    | _ => none
  | none => none
def partV (t : TypeId) (cs : List V) (off : Nat) (k : V → Option R) : Option R :=
  if isAggT E.P t then (if off + csz E.P t ≤ cs.length then k (.agg ((cs.drop off).take (csz E.P t))) else none)
  else match cs[off]? with
    | some v => ldTyV E t v k
    | none => none
def xfield (s : TypeId) (x : V) (j : Nat) (k : V → Option R) : Option R :=
  match fieldOff E s j, aggCells x with
  | some (o, t), some cs => partV E t cs o k
  | _, _ => none
def xindex (t : TypeId) (x ix : V) (k : V → Option R) : Option R :=
  match ix with
  | .pv (.int _ i) => match E.P.underlying t, x with
    | some .string, .pv (.str s) => (idxB s i).bind fun b => k (.pv (.int .u8 b.toNat))
    | some (.array n et), x => match aggCells x with
      | some cs => if inRange i n ∧ 0 < csz E.P et then partV E et cs (i.toNat * csz E.P et) k else none
      | none => none
    | _, _ => none
  | _ => none

def boundOf (d : Int) : Option V → Option Int
  | none => some d
  | some (.pv (.int _ i)) => some i
  | _ => none
def xslice (t : TypeId) (x : V) (lo hi mx : Option V) (m : Mem) (k : V → Foot → Option R) : Option R :=
  match mx with
  | some mx => match E.P.underlying t, x with
    | some (.slice e), .os id => match m id with
      | some (.arr s _ es) => match lo, hi, mx with
        | none, some (.pv (.int _ h)), .pv (.int _ c) => if 0 ≤ h ∧ h ≤ c ∧ c ≤ (es.length : Int) ∧ s = csz E.P e then k (.osub id 0 h.toNat) [(false, id)] else none
        | _, _, _ => none
      | _ => none
    | _, _ => none
  | none => match E.P.underlying t, x with
    | some .string, .pv (.str s) => match boundOf 0 lo, boundOf s.length hi with
      | some l, some h => if 0 ≤ l ∧ l ≤ h ∧ h ≤ (s.length : Int) then k (.pv (.str ((s.take h.toNat).drop l.toNat))) [] else none
      | _, _ => none
    | some (.slice e), .pv (.rs sz es) => match boundOf 0 lo, boundOf es.length hi with
      | some l, some h => if 0 ≤ l ∧ l ≤ h ∧ h ≤ (es.length : Int) ∧ sz = csz E.P e ∧ csz E.P e ≠ 0 then k (.pv (.rs sz ((es.take h.toNat).drop l.toNat))) [] else none
      | _, _ => none
    | some (.slice e), .os id => match m id with
      | some (.arr s _ es) => match boundOf 0 lo, boundOf es.length hi with
        | some l, some h => if 0 ≤ l ∧ l ≤ h ∧ h ≤ (es.length : Int) ∧ s = csz E.P e then k (.osub id l.toNat (h.toNat - l.toNat)) [(false, id)] else none
        | _, _ => none
      | some (.fro s _ es) => match boundOf 0 lo, boundOf es.length hi with
        | some l, some h => if 0 ≤ l ∧ l ≤ h ∧ h ≤ (es.length : Int) ∧ s = csz E.P e then k (.osub id l.toNat (h.toNat - l.toNat)) [(false, id)] else none
        | _, _ => none
      | _ => none
    | _, _ => none

def placesOf (fs : List Field) (j : Nat) : Option (Nat × Nat) := (fs[j]?).map fun f => (f.offset, csz E.P f.type)
def fillV (place : Nat → Option (Nat × Nat)) (cs : List V) : List (Nat × V) → Option (List V)
  | [] => some cs
  | (i, v) :: rest => match place i with
    | some (off, size) => match toCells size v with
      | some new => if off + size ≤ cs.length then fillV place (splice cs off new) rest else none
      | none => none
    | none => none
def zeroCellsV (t : TypeId) : Option (List V) := match zeroV E.P t with | some v => toCells (csz E.P t) v | none => none
def xbuild (t : TypeId) (parts : List (Nat × V)) (k : V → Option R) : Option R :=
  match zeroCellsV E t, E.P.underlying t with
  | some z, some (.struct fs) => if fs.toList.all (fun f => (E.P.info? f.type).isSome) then match fillV (placesOf E fs.toList) z parts with
      | some cs => k (.agg cs)
      | none => none
    else none
  | some z, some (.array _ e) => if 0 < csz E.P e then match fillV (fun i => some (i * csz E.P e, csz E.P e)) z parts with
      | some cs => k (.agg cs)
      | none => none
    else none
  | _, _ => none
def partsElems (m : Mem) (n : Nat) (agg : Bool) : Nat → List (Nat × V) → Option (List PV × Mem)
  | _, [] => some ([], m)
  | i, (j, v) :: r => if i = j then match frzElem m n agg v with
      | some (p, m) => match partsElems m n agg (i + 1) r with
        | some (ps, m) => some (p :: ps, m)
        | none => none
      | none => none
    else none
def partsV : Nat → List (Nat × V) → Option (List V)
  | _, [] => some []
  | i, (j, v) :: r => if i = j then match toCells 1 v with
      | some cs => match partsV (i + 1) r with
        | some us => some (cs ++ us)
        | none => none
      | none => none
    else none
def isFuncT (t : TypeId) : Bool := match E.P.underlying t with | some (.func _ _ _) => true | _ => false
def zeroPV (t : TypeId) : Option PV := match zeroV E.P t with
  | some v => match frz noMem 2 v with
    | some p => if isAggT E.P t = p.isAgg ∧ p.cells.length = csz E.P t ∧ p.plain = true then some p else none
    | none => none
  | none => none
def keyOf (kt : TypeId) (v : V) : Option PV :=
  match kdsOf E.P kt with
  | some ks =>
    if isAggT E.P kt then (match aggCells v with
      | some cs => match frzs (frz noMem 1) cs with
        | some ps => if chk ks ps then some (.agg ps) else none
        | none => none
      | none => none)
    else match v with
      | .pv p => if chk ks [p] then some p else none
      | _ => none
  | none => none
def xtake (site : Nat) (t : TypeId) (x ix : V) (m : Mem) (k : V → Mem → Foot → Option R) : Option R :=
  match E.P.underlying t with
  | some (.map kt et) => match E.P.underlying et with
    | some (.slice e) => match x, zeroV E.P et with
      | .om id, some .nils => match m id, m site with
        | some (.mapN kt' e' es), none => if kt' = kt ∧ e' = e ∧ 0 < csz E.P e then (keyOf E kt ix).bind fun key => (mrow (csz E.P e) key es).bind fun rs =>
            k (.os site) (memSet (memSet m id (.mapN kt e (mtake key es))) site (.arr (csz E.P e) e rs)) [(true, id), (true, site)] else none
        | _, _ => none
      | _, _ => none
    | _ => none
  | _ => none
def xlookup (t : TypeId) (x ix : V) (ok : Bool) (m : Mem) (k : V → Foot → Option R) : Option R :=
  match E.P.underlying t with
  | some (.map kt et) => match zeroPV E et with
    | some z => match x with
      | .om id => match m id with
        | some (.map kt' es) => if kt' = kt then (keyOf E kt ix).bind fun key => ldTy E et (mlook key z es) fun v => k (if ok then .tup [.pv v, .pv (.bool (mhas key es))] else .pv v) [(false, id)] else none
        | _ => none
      | .pv p => mapCase kt p ((keyOf E kt ix).bind fun _ => k (if ok then .tup [.pv z, .pv (.bool false)] else .pv z) []) fun ks vs => (keyOf E kt ix).bind fun key => ldTy E et (mlook key z (ks.zip vs)) fun v => k (if ok then .tup [.pv v, .pv (.bool (mhas key (ks.zip vs)))] else .pv v) []
      | _ => none
    | none => none
  | _ => none
def frzValD (draw : Bool) (m : Mem) (v : V) : Option (PV × Mem) :=
  if draw then (match frzVal noMem v with | some (p, _) => some (p, m) | none => none) else frzVal m v
def xmapUpdate (draw : Bool) (t : TypeId) (x key val : V) (m : Mem) (k : Mem → Foot → Option R) : Option R :=
  match E.P.underlying t with
  | some (.map kt _) => match x with
    | .om id => match frzValD draw m val with
      | some (v, m) => match m id with
        | some (.map kt' es) => if kt' = kt then (keyOf E kt key).bind fun key => k (memSet m id (.map kt (mput key v es))) [(true, id)] else none
        | _ => none
      | none => none
    | _ => none
  | _ => none

def roomBound : Nat := 140737488355328
def take1 (m : Mem) : Nat → List V → Option (List PV × Option (Nat × Nat))
  | _, [] => some ([], none)
  | j, .os id :: r => match m id with
    | some (.arr s _ es) => match take1 m (j + 1) r with
      | some (ps, none) => some (.rsO s es :: ps, some (j, id))
      | _ => none
    | _ => none
  | j, v :: r => match frz noMem 1 v with
    | some p => match take1 m (j + 1) r with
      | some (ps, t) => some (p :: ps, t)
      | none => none
    | none => none
def elemOf (agg : Bool) (ps : List PV) : Option PV := if agg then some (.agg ps) else match ps with | [p] => some p | _ => none
inductive Sp where
  | st (id i off s : Nat) (et : TypeId) (es ps : List PV) (id2 : Nat)
  | app (id s : Nat) (et : TypeId) (es new : List PV) (src : Option Nat) (rd : Foot)
  | lit (s : Nat) (et : TypeId) (p : PV) (id2 : Nat)
  | upd (id : Nat) (kt e : TypeId) (es : List (PV × PV)) (key : PV) (s : Nat) (rs : List PV) (id2 : Nat)
def spOf (site : Nat) (o : Oper) (f : Fr) (m : Mem) : Option Sp :=
  match o.op with
  | .store t a x => match opd E f a with
    | .oe id i off => match m id with
      | some (.nest s et es) => match toCells (csz E.P t) (opd E f x) with
        | some cs => match take1 m 0 cs with
          | some (ps, some (_, id2)) => if off + csz E.P t ≤ s && 0 < csz E.P t && !(Nat.beq id2 id) then some (.st id i off s et es ps id2) else none
          | _ => none
        | none => none
      | _ => none
    | _ => none
  | .buildSlice t len parts => match E.P.underlying t, parts.toList.map fun (i, x) => (i, opd E f x) with
    | some (.slice e), [(0, v)] => match toCells (csz E.P e) v with
      | some cs => match take1 m 0 cs, m site with
        | some (ps, some (_, id2)), none => match elemOf (isAggT E.P e) ps with
          | some p => if Nat.beq len 1 && 0 < csz E.P e && csz E.P e ≤ 16777216 && (zeroCellsV E e).isSome then some (.lit (csz E.P e) e p id2) else none
          | none => none
        | _, _ => none
      | none => none
    | _, _ => none
  | .call c => match c.callee, c.args.toList.map (opd E f), c.argTypes.toList with
    | .builtin .append, [.os id, x], [t, t'] => match E.P.underlying t, m id with
      | some (.slice e), some (.nest s et es) => if et = e && s = csz E.P e && decide (t' = t) && (zeroCellsV E e).isSome && 0 < csz E.P e && 0 < bsz E.P e then (match x with
          | .os id' => match m id' with
            | some (.nest s' et' new) => if Nat.beq s' s && decide (et' = et) && !(Nat.beq id' id) then some (.app id s et es new (some id') []) else none
            | _ => match elemsV m s x with
              | some (new, rd) => if x.has id then none else some (.app id s et es new none rd)
              | none => none
          | _ => match elemsV m s x with
            | some (new, rd) => if x.has id then none else some (.app id s et es new none rd)
            | none => none) else none
      | _, _ => none
    | _, _, _ => none
  | .mapUpdate t x key v => match E.P.underlying t, opd E f x, opd E f v with
    | some (.map kt _), .om id, .os id2 => match m id, m id2, keyOf E kt (opd E f key) with
      | some (.mapN kt' e es), some (.arr s e' rs), some key => if decide (kt' = kt) && decide (e' = e) && Nat.beq s (csz E.P e) then some (.upd id kt e es key s rs id2) else none
      | _, _, _ => none
    | _, _, _ => none
  | _ => none
def Sp.info (site : Nat) : Sp → Kl × Foot
  | .st id _ _ _ _ _ _ id2 => ([(true, id2), (false, id)], [(true, id), (true, id2)])
  | .app id _ _ _ _ (some id2) _ => ([(true, id2), (true, id)], [(true, id), (true, id2)])
  | .app id _ _ _ _ none rd => ([(true, id)], (true, id) :: rd)
  | .lit _ _ _ id2 => ([(true, id2)], [(true, site), (true, id2)])
  | .upd id _ _ _ _ _ _ id2 => ([(true, id2), (false, id)], [(true, id), (true, id2)])
def xsp (site : Nat) (sp : Sp) (f : Fr) (m : Mem) (k : V → Fr → Mem → Foot → Option R) : Option R :=
  match sp with
  | .st id i off s et es ps id2 => (es[i]?).bind fun e => k .top (kf [(true, id2), (false, id)] f) (wrM [(id, .nest s et (es.set i (if s = 1 then ps.headD .bad else .agg (splice (elemCells s e) off ps))))] (km [(true, id2), (false, id)] m)) [(true, id), (true, id2)]
  | .app id s et es new src rd => if (es ++ new).length * bsz E.P et ≤ roomBound then
      k (.os id) (kf (Sp.app id s et es new src rd |>.info site).1 f) (wrM [(id, .nest s et (es ++ new))] (km (Sp.app id s et es new src rd |>.info site).1 m)) (Sp.app id s et es new src rd |>.info site).2 else none
  | .lit s et p id2 => k (.os site) (kf [(true, id2)] f) (wrM [(site, .nest s et [p])] (km [(true, id2)] m)) [(true, site), (true, id2)]
  | .upd id kt e es key s rs id2 => k .top (kf [(true, id2), (false, id)] f) (wrM [(id, .mapN kt e (mput key (.rsO s rs) es))] (km [(true, id2), (false, id)] m)) [(true, id), (true, id2)]
def xappend (draw : Bool) (site : Nat) (t t' : TypeId) (s x : V) (f : Fr) (m : Mem) (k : V → Fr → Mem → Option R) : Option R :=
  if draw || !(decide (t' = t)) then none else
  match E.P.underlying t with
  | some (.slice e) => if (zeroCellsV E e).isNone then none else match elemsV m (csz E.P e) x with
    | some (new, _) => match s with
      | .nils => if new.length * bsz E.P e ≤ roomBound ∧ 0 < bsz E.P e ∧ 0 < csz E.P e then fresh draw site (.arr (csz E.P e) e new) f m (fun f m _ => k (.os site) f m) else none
      | .os id => match m id with
        | some (.arr sz et es) => if et = e ∧ sz = csz E.P e ∧ x.has id = false then
            (if (es ++ new).length * bsz E.P e ≤ roomBound ∧ 0 < bsz E.P e then
              fresh draw id (.arr sz e (es ++ new)) (killF id f) (memDel (killM id m) id) (fun f m _ => k (.os id) f m) else none)
          else none
        | _ => none
      | _ => none
    | none => none
  | _ => none
def xcopy (t : TypeId) (d x : V) (m : Mem) (k : V → Mem → Foot → Option R) : Option R :=
  match E.P.underlying t with
  | some (.slice e) => match d with
    | .os id => match m id with
      | some (.arr sz et es) => if sz = csz E.P e ∧ x.has id = false then match elemsV m sz x with
          | some (new, ft) => k (.pv (.int .i64 (min new.length es.length : Nat))) (memSet m id (.arr sz et (new.take es.length ++ es.drop new.length))) ((true, id) :: ft)
          | none => none
        else none
      | _ => none
    | _ => none
  | _ => none
def xmakeSlice (draw : Bool) (site : Nat) (t : TypeId) (len cap : V) (f : Fr) (m : Mem) (k : V → Fr → Mem → Foot → Option R) : Option R :=
  match E.P.underlying t, len, cap with
  | some (.slice e), .pv (.int _ n), .pv (.int _ c) => match zeroPV E e with
    | some z => if 0 ≤ n ∧ n ≤ c ∧ c.toNat * bsz E.P e ≤ roomBound ∧ 0 < bsz E.P e ∧ 0 < csz E.P e then
        fresh draw site (.arr (csz E.P e) e (List.replicate n.toNat z)) f m (fun f m ft => k (.os site) f m ft)
      else none
    | none => none
  | _, _, _ => none
def min2P (a b : V) (k : PV → Option R) : Option R := match a, b with
  | .pv (.int q x), .pv (.int q' y) => if q = q' then k (.int q (if y < x then y else x)) else none
  | _, _ => none
def max2P (a b : V) (k : PV → Option R) : Option R := match a, b with
  | .pv (.int q x), .pv (.int q' y) => if q = q' then k (.int q (if y > x then y else x)) else none
  | _, _ => none
def max4P (a b c d : V) (k : PV → Option R) : Option R := max2P a b fun p => max2P (.pv p) c fun p => max2P (.pv p) d k

def scalarT (t : TypeId) : Bool := match E.P.underlying t with | some (.int _) | some .bool | some .string => true | _ => false
def freezeArgs (m : Mem) : List V → Option (List PV × Mem)
  | [] => some ([], m)
  | v :: r => match frzVal m v with
    | some (p, m) => match freezeArgs m r with
      | some (ps, m) => some (p :: ps, m)
      | none => none
    | none => none
def scalP : PV → PV
  | .int q n => .int q n
  | .bool b => .bool b
  | .str s => .str s
  | _ => .bad
def xfunc (draw : Bool) (site : Nat) (fid : FuncId) (args : List V) (f : Fr) (m : Mem) (k : V → Fr → Mem → Foot → Option R) : Option R :=
  match E.ctx fid with
  | some M => match E.P.funcs[fid]? with
    | some fn =>
      if fn.resultTypes.toList.all (scalarT E) then
        (match frzs (frz m frzDepth) args with
          | some ps => (M ps).bind fun r => ldRes E fn.resultTypes.toList r fun v => k v f m ((readsL (readsV m frzDepth) args).map fun i => (false, i))
          | none => none)
      else
        (match freezeArgs (if draw then noMem else m) args with
          | some (ps, m') => (M ps).bind fun r => ldResF E fid fn.resultTypes.toList r fun v => k v f (if draw then m else m') (if draw then [] else [(true, 0)])
          | none => none)
    | none => none
  | none => match E.own fid with
    | some M => match E.P.funcs[fid]? with
      | some fn => match fn.resultTypes.toList with
        | [t] => match E.P.underlying t with
          | some (.slice e) => if scalarT E e = true ∧ csz E.P e = 1 then (match frzs (frz m frzDepth) args with
            | some ps => (M ps).bind fun r => (asSl (csz E.P e) r).bind fun es => fresh draw site (.arr (csz E.P e) e (es.map scalP)) f m fun f m1 ft => k (.os site) f m1 (ft ++ (readsL (readsV m frzDepth) args).map fun i => (false, i))
            | none => none)
            else match freezeArgs (if draw then noMem else m) args with
            | some (ps, m') => (M ps).bind fun r => (asSl (csz E.P e) r).bind fun es => fresh draw site (.arr (csz E.P e) e es) f (if draw then m else m') fun f m ft => k (.os site) f m ft
            | none => none
          | _ => none
        | _ => none
      | none => none
    | none => if draw then none else E.inl R fid (site * 4096 + fid) args f m fun v f m => k v f m [(true, 0)]
def leafsF (f : TypeId → Option (List TypeId)) : List Field → Option (List TypeId)
  | [] => some []
  | x :: r => (f x.type).bind fun a => (leafsF f r).bind fun b => some (a ++ b)
def leafsN (l : List TypeId) : Nat → List TypeId
  | 0 => []
  | n + 1 => l ++ leafsN l n
def leafs (P : Program) : Nat → TypeId → Option (List TypeId)
  | 0, _ => none
  | d + 1, t => match P.underlying t with
    | some (.struct fs) => leafsF (leafs P d) fs.toList
    | some (.array n e) => (leafs P d e).bind fun l => some (leafsN l n)
    | some _ => some [t]
    | none => none
def pushF (n : Nat) (args : List V) (f : Fr) : Fr := fun t => bif Nat.blt t n then args.getD t .top else f (t - n)
def popF (n : Nat) (f : Fr) : Fr := fun t => f (t + n)
def isNils : V → Bool
  | .nils => true
  | _ => false
def nilPlace (site j : Nat) : Nat := site + (j + 1) * 1606938044258990275541962092341162602522202993782792835301376
def nilStep (E : Env) {R : Type} (site : Nat) : List TypeId → Nat → Fr → Mem → (Fr → Mem → Option R) → Option R
  | [], _, F, m, k => k F m
  | t :: ts, j, F, m, k => match F j with
    | .nils => match E.P.underlying t with
      | some (.slice e) => if 0 < csz E.P e then fresh false (nilPlace site j) (.arr (csz E.P e) e []) F m fun F m _ => nilStep E site ts (j + 1) (frSet F j (.os (nilPlace site j))) m k else none
      | _ => none
    | _ => nilStep E site ts (j + 1) F m k
def isSlT (E : Env) (t : TypeId) : Bool := match E.P.underlying t with | some (.slice _) => true | _ => false
def hintOk (f : Fr) : Option Operand → Bool
  | none => true
  | some x => match opd E f x with | .pv (.int _ _) => true | _ => false
noncomputable def pickAll (n : Nat) (g : Nat → Option R) : Option R := @dite _ (∃ r, ∀ i, i < n → g i = some r) (Classical.propDecidable _) (fun h => some (Classical.choose h)) fun _ => none
def xrange (site : Nat) (t : TypeId) (x : V) (f : Fr) (m : Mem) (k : V → Fr → Mem → Option R) : Option R :=
  match E.P.underlying t with
  | some (.map kt _) => match x with
    | .om id => match m id with
      | some (.map kt' es) => if kt' = kt then fresh false site (.iter t es none) (killF id f) (memDel (killM id m) id) fun f m _ => k (.it site) f m else none
      | _ => none
    | _ => none
  | _ => none
noncomputable def xnext (x : V) (f : Fr) (m : Mem) (k : V → Fr → Mem → Option R) : Option R :=
  match x with
  | .it id => match m id with
    | some (.iter t es _) => match E.P.underlying t with
      | some (.map kt et) => if es.isEmpty = true then k (.tup [.pv (.bool false)]) f m
        else pickAll es.length fun i => (es[i]?).bind fun e => ldTy E kt e.1 fun a => ldTy E et e.2 fun b => k (.tup [.pv (.bool true), .pv a, .pv b]) f (memSet m id (.iter t (es.eraseIdx i) (some (a, b))))
      | _ => none
    | _ => none
  | _ => none
def xentry (x : V) (m : Mem) (k : V → Mem → Option R) : Option R :=
  match x with
  | .it id => match m id with
    | some (.iter t es (some (a, b))) => k (.tup [.pv a, .pv b]) (memSet m id (.iter t es none))
    | _ => none
  | _ => none
def isIter : Op → Bool
  | .range .. => true
  | .next .. => true
  | .entry .. => true
  | _ => false
noncomputable def xop1 (draw : Bool) (site : Nat) (o : Oper) (f : Fr) (m : Mem) (k : V → Fr → Mem → Foot → Option R) : Option R :=
  match o.op with
  | .move x => k (opd E f x) f m []
  | .assign x => match opd E f x with
    | .nils => match E.P.underlying o.type with
      | some (.slice e) => if 0 < csz E.P e then fresh draw site (.arr (csz E.P e) e []) f m fun f m ft => k (.os site) f m ft else none
      | _ => k .nils f m []
    | v => k v f m []
  | .pick c a b => match opd E f c with
    | .pv (.bool t) => if t then k (opd E f a) f m [] else k (opd E f b) f m []
    | _ => none
  | .alloc t => match zeroCellsV E t with
    | some cs => if !draw && isSlT E t then nilStep E site [t] 0 (pushF cs.length cs f) m fun F m => fresh false site (.box ((List.range cs.length).map F)) (popF cs.length F) m fun f m ft => k (.op site 0) f m ft
      else fresh draw site (.box cs) f m fun f m ft => k (.op site 0) f m ft
    | none => none
  | .box t x => match toCells (csz E.P t) (opd E f x) with
    | some cs => if !draw && cs.any isNils then (match leafs E.P 8 t with
      | some ts => if ts.length = cs.length then nilStep E site ts 0 (pushF cs.length cs f) m fun F m => fresh false site (.box ((List.range cs.length).map F)) (popF cs.length F) m fun f m ft => k (.op site 0) f m ft else none
      | none => none) else fresh draw site (.box cs) f m fun f m ft => k (.op site 0) f m ft
    | none => none
  | .build t parts => xbuild E t (parts.toList.map fun (i, x) => (i, opd E f x)) fun v => k v f m []
  | .buildSlice t len parts => match E.P.underlying t with
    | some (.slice e) => if isFuncT E e then (match partsV 0 (parts.toList.map fun (i, x) => (i, opd E f x)) with
      | some cs => if parts.size = len ∧ csz E.P e = 1 ∧ len ≤ 16777216 ∧ (zeroCellsV E e).isSome = true then fresh draw site (.box cs) f m fun f m ft => k (.os site) f m ft else none
      | none => none)
      else match partsElems (if draw then noMem else m) (csz E.P e) (isAggT E.P e) 0 (parts.toList.map fun (i, x) => (i, opd E f x)) with
      | some (es, m1) => if es.length = len ∧ 0 < csz E.P e ∧ len * csz E.P e ≤ 16777216 ∧ (zeroCellsV E e).isSome = true then fresh draw site (.arr (csz E.P e) e es) f (if draw then m else m1) fun f m ft => k (.os site) f m ft else none
      | none => none
    | _ => none
  | .load t a => xload E (E.nst site) t (opd E f a) m fun v ft => k v f m ft
  | .store t a x => xstore E draw t (opd E f a) (opd E f x) m fun m ft => k .top f m ft
  | .nilCheck x => match opd E f x with
    | .pv (.rp cs) => k (.pv (.rp cs)) f m []
    | .op id off => k (.op id off) f m []
    | .oe id i off => k (.oe id i off) f m []
    | .oe2 id i off s j off2 => k (.oe2 id i off s j off2) f m []
    | .fn g cs => k (.fn g cs) f m []
    | .pv (.fn g cs) => k (.pv (.fn g cs)) f m []
    | _ => none
  | .binOp op t x y _ => match opd E f x, opd E f y with
    | .pv (.rs _ es), .nils => if draw then none else nilCmp E op t es fun b => k (.pv (.bool b)) f m [(true, 0)]
    | a, b => xbin2 E op t y a b fun p => k (.pv p) f m []
  | .unOp op _ x => xun op (opd E f x) fun p => k (.pv p) f m []
  | .convert s d x => xconvM E s d (opd E f x) m fun p ft => k (.pv p) f m ft
  | .makeFunc (.func g) first caps => if first.isEmpty then k (.fn g (caps.toList.map (opd E f))) f m [] else none
  | .makeMap t hint => if hintOk E f hint = true then match E.P.underlying t with
    | some (.map kt et) => if (kdsOf E.P kt).isSome then (if E.nst site then (match E.P.underlying et with
        | some (.slice e) => fresh draw site (.mapN kt e []) f m fun f m ft => k (.om site) f m ft
        | _ => none)
      else fresh draw site (.map kt []) f m fun f m ft => k (.om site) f m ft) else none
    | _ => none
    else none
  | .makeSlice t l c => xmakeSlice E draw site t (opd E f l) (opd E f c) f m k
  | .slice t x lo hi mx => xslice E t (opd E f x) (lo.map (opd E f)) (hi.map (opd E f)) (mx.map (opd E f)) m fun v ft => k v f m ft
  | .fieldAddr s x j => xfieldAddr E s (opd E f x) j fun v => k v f m []
  | .field s x j => xfield E s (opd E f x) j fun v => k v f m []
  | .indexAddr t x ix => xindexAddr E t (opd E f x) (opd E f ix) m fun v ft => k v f m ft
  | .index t x ix => xindex E t (opd E f x) (opd E f ix) fun v => k v f m []
  | .lookup t x ix ok => if E.nst site && !ok then xtake E site t (opd E f x) (opd E f ix) m fun v m ft => k v f m ft else xlookup E t (opd E f x) (opd E f ix) ok m fun v ft => k v f m ft
  | .mapUpdate t x key v => xmapUpdate E draw t (opd E f x) (opd E f key) (opd E f v) m fun m ft => k .top f m ft
  | .insert t x key v => xmapUpdate E draw t (opd E f x) (opd E f key) (opd E f v) m fun m ft => k .top f m ft
  | .range t x => if draw then none else xrange E site t (opd E f x) f m fun v f m => k v f m [(true, 0)]
  | .next x s => if draw || s then none else xnext E (opd E f x) f m fun v f m => k v f m [(true, 0)]
  | .entry x => if draw then none else xentry (opd E f x) m fun v m => k v f m [(true, 0)]
  | .extract t i => match opd E f t with
    | .tup vs => match vs[i]? with
      | some v => k v f m []
      | none => none
    | _ => none
  | .call c => match c.callee, c.args.toList.map (opd E f) with
    | .builtin .len, [x] => match c.argTypes.toList with
      | [t] => xlen E t x m fun v ft => k v f m ft
      | _ => none
    | .builtin .append, [s, x] => match c.argTypes.toList with
      | [t, t'] => xappend E draw site t t' s x f m fun v f m => k v f m [(true, 0)]
      | _ => none
    | .builtin .copy, [d, x] => match c.argTypes.toList with
      | t :: _ => xcopy E t d x m fun v m ft => k v f m ft
      | _ => none
    | .builtin .min, [a, b] => min2P a b fun p => k (.pv p) f m []
    | .builtin .max, [a, b] => max2P a b fun p => k (.pv p) f m []
    | .builtin .max, [a, b, c, d] => max4P a b c d fun p => k (.pv p) f m []
    | .value (.func g), args => xfunc E draw site g args f m k
    | .value (.tmp t), args => match opd E f (.tmp t) with
      | .fn g caps => xfunc E draw site g (args ++ caps) f m k
      | .pv (.fn g caps) => xfunc E draw site g (args ++ caps.map .pv) f m k
      | .yl id => if draw then none else E.yl R E.fn.ntmps site id args f m fun v f m => k v f m [(true, 0)]
      | _ => none
    | _, _ => none
  | _ => none
noncomputable def xop (draw : Bool) (site : Nat) (o : Oper) (f : Fr) (m : Mem) (k : V → Fr → Mem → Foot → Option R) : Option R :=
  match (bif draw then none else bif E.nst site then spOf E site o f m else none) with
  | some sp => xsp E site sp f m k
  | none => xop1 E draw site o f m k
def readKind (o : Oper) : Bool :=
  match o.op with
  | .move _ | .assign _ | .pick .. | .load .. | .nilCheck _ | .binOp .. | .unOp .. | .convert .. | .slice .. | .fieldAddr .. | .field .. | .indexAddr .. | .index .. | .lookup .. | .extract .. | .build .. => true
  | .call { callee := .builtin .len, .. } | .call { callee := .builtin .min, .. } | .call { callee := .builtin .max, .. } => true
  | .call { callee := .value _, .. } => true
  | _ => false
def quietFt : Foot → Bool
  | [] => true
  | (w, _) :: r => !w && quietFt r
abbrev Log := List (Nat × Bool × Nat)
def edgeOn (o : Oper) (j : Nat) : Bool := o.after.toList.any fun e => Region.binds .any e && Nat.beq e.on j
mutual
def V.ids : V → List Nat
  | .agg cs => idsL cs
  | .tup cs => idsL cs
  | .fn _ cs => idsL cs
  | .os j => [j]
  | .osub j _ _ => [j]
  | .oe j _ _ => [j]
  | .om j => [j]
  | .os2 j _ _ => [j]
  | .oe2 j _ _ _ _ _ => [j]
  | .op j _ => [j]
  | .yl j => [j]
  | .it j => [j]
  | _ => []
def idsL : List V → List Nat
  | [] => []
  | v :: r => v.ids ++ idsL r
end
def blkIds : Option Blk → List Nat
  | some (.box cs) => idsL cs
  | _ => []
def nameTag (n : Nat) : Nat := n + 2037035976334486086268445688409378161051468393665936250636140449354381299763336706183397376
def namesB (m m' : Mem) : Foot → List Nat
  | [] => []
  | x :: r => blkIds (m x.2) ++ blkIds (m' x.2) ++ namesB m m' r
def namesOf (ops : Array Oper) (o : Oper) (f : Fr) (m m' : Mem) (v : V) (ft : Foot) : List Nat := idsL ((o.looksAt ops).map f) ++ v.ids ++ namesB m m' ft
def siteOf (E : Env) (d : Option Nat) : Nat := match d with | some d => E.fid * 4096 + d | none => E.fid * 4096 + 4095
def isApp (E : Env) (o : Oper) : Bool := E.nst (siteOf E o.dst) || match o.op with | .call { callee := .builtin .append, .. } => true | _ => false
def appInfo (E : Env) (f : Fr) (m : Mem) (o : Oper) : Option (Nat × Foot) :=
  match o.op with
  | .call c => match c.callee, c.args.toList.map (opd E f), c.argTypes.toList with
    | .builtin .append, [.os id, x], [t, _] => match E.P.underlying t with
      | some (.slice e) => match elemsV m (csz E.P e) x with
        | some (_, rd) => if x.has id then none else some (id, rd)
        | none => none
      | _ => none
    | _, _, _ => none
  | _ => none
def spInfo (E : Env) (f : Fr) (m : Mem) (o : Oper) : Option (Kl × Foot) :=
  match (bif E.nst (siteOf E o.dst) then spOf E (siteOf E o.dst) o f m else none) with
  | some sp => some (sp.info (siteOf E o.dst))
  | none => match appInfo E f m o with
    | some (id, rd) => some ([(true, id)], (true, id) :: rd)
    | none => none
def reach (ops : Array Oper) : Nat → Oper → Nat → Bool
  | 0, o, j => edgeOn o j
  | n + 1, o, j => edgeOn o j || o.after.toList.any fun e => Region.binds .any e && match ops[e.on]? with | some p => reach ops n p j | none => false
def okLog (ops : Array Oper) (o : Oper) (w : Bool) (id : Nat) : Log → Bool
  | [] => true
  | (j, w', id') :: r => (!(Nat.beq id id') || (!w && !w') || reach ops 4 o j) && okLog ops o w id r
def okFoot (ops : Array Oper) (o : Oper) (lg : Log) : Foot → Bool
  | [] => true
  | (w, id) :: r => okLog ops o w id lg && okFoot ops o lg r
def okNames (ops : Array Oper) (o : Oper) (id : Nat) : Log → Bool
  | [] => true
  | (j, _, n) :: r => (!(Nat.beq n (nameTag id)) || reach ops 4 o j) && okNames ops o id r
def apartFrom (ops : Array Oper) : List (Nat × Oper) → Oper → Bool
  | [], _ => true
  | (j, p) :: r, o => (p.apart ops o || reach ops 4 o j) && apartFrom ops r o
def indepOk (ops : Array Oper) : List (Nat × Oper) → List (Nat × Oper) → Bool
  | _, [] => true
  | done, (i, o) :: r => o.after.toList.all (fun e => !(Region.binds .any e) || Nat.blt e.on i) && apartFrom ops done o && indepOk ops ((i, o) :: done) r
def guardOf (o : Oper) (A : List (Nat × Bool)) : Option (Nat × Bool) :=
  match o.guard with
  | none => none
  | some g => if A.elem g then none else some g
def spanG (A : List (Nat × Bool)) : List (Nat × Oper) → List (Nat × Oper) × List (Nat × Oper)
  | [] => ([], [])
  | x :: r => match guardOf x.2 A with
    | some _ => let (a, b) := spanG A r; (x :: a, b)
    | none => ([], x :: r)
def topAll (f : Fr) : List (Nat × Oper) → Fr
  | [] => f
  | x :: r => topAll (frPut f x.2.dst .top) r
def guardsIn (g : Nat × Bool) : List Nat → List (Nat × Oper) → Bool
  | _, [] => true
  | done, x :: r => (match x.2.guard with
    | some h => (Nat.beq h.1 g.1 && (h.2 == g.2)) || done.elem h.1
    | none => false) && guardsIn g (x.1 :: done) r
def blind (ops : Array Oper) (body : List (Nat × Oper)) (o : Oper) : Bool :=
  body.all fun y => match y.2.dst with
    | some d => !((o.looksAt ops).elem d)
    | none => true
def sameB : Bool → Bool → Bool
  | true, b => b
  | false, b => !b
def skipAll (f : Fr) : List (Nat × Oper) → Fr
  | [] => f
  | x :: r => skipAll (frPut f x.2.dst (.tup [])) r
def boolV : V → Option Bool
  | .pv (.bool b) => some b
  | _ => none
end

def dstOk (E : Env) (o : Oper) : Bool := match o.dst with | some d => Nat.blt d E.fn.ntmps | none => true
def quietOp (E : Env) (f : Fr) (body : List (Nat × Oper)) (o : Oper) : Bool :=
  readKind o && match o.op with
  | .call { callee := .value (.func g), .. } => (E.ctx g).isSome
  | .call { callee := .value (.tmp t), .. } => match (match body.find? (fun x => x.2.dst == some t) with
      | some (_, p) => (match p.op with
        | .move y => opd E f y
        | .assign y => opd E f y
        | _ => .top)
      | none => opd E f (.tmp t)) with
    | .fn g _ => (E.ctx g).isSome
    | .pv (.fn g _) => (E.ctx g).isSome
    | .yl _ => false
    | _ => true
  | _ => true
noncomputable def evalOps (E : Env) (ops : Array Oper) (mode : Nat) : (fuel : Nat) → (R : Type) → List (Nat × Bool) → List (Nat × Oper) → Fr → Mem → Log → (Fr → Mem → Option R) → Option R
  | 0, _, _, _, _, _, _, _ => none
  | _ + 1, _, _, [], f, m, _, k => k f m
  | fuel + 1, R, A, (i, o) :: rest, f, m, lg, k =>
    match guardOf o A with
    | none =>
      if dstOk E o then
        match (bif Nat.beq mode 2 then spInfo E f m o else none) with
        | some (kl, ft) =>
          if okFoot ops o lg ft && kl.all (fun x => okNames ops o x.2 lg) && rest.all (fun x => reach ops 4 x.2 i) then
            xop E false (siteOf E o.dst) o f m fun v f1 m1 _ => evalOps E ops mode fuel R A rest (frPut f1 o.dst v) m1 (ft.map (fun x => (i, x)) ++ lg) k
          else none
        | none =>
          xop E (Nat.beq mode 1 || Nat.beq mode 2) (siteOf E o.dst) o f m fun v f1 m1 ft =>
            if Nat.beq mode 2 then (if okFoot ops o lg ft then evalOps E ops mode fuel R A rest (frPut f1 o.dst v) m1 ((bif ops.toList.any (isApp E) then (namesOf ops o f m m1 v ft).map (fun n => (i, false, nameTag n)) else []) ++ (ft.map (fun x => (i, x)) ++ lg)) k else none)
            else if Nat.beq mode 0 then evalOps E ops mode fuel R A rest (frPut f1 o.dst v) m1 lg k
            else if quietFt ft then evalOps E ops mode fuel R A rest (frPut f1 o.dst v) m1 lg k
            else none
      else none
    | some (j, pol) =>
      match ((ops[j]?).bind (·.dst)) with
      | some tj => match opd E f (.tmp tj) with
        | .pv (.bool b) =>
          match spanG A ((i, o) :: rest) with
          | (body, rest1) =>
          if Nat.beq mode 0 && !(body.all fun x => quietOp E f body x.2) then
            (if (body.all fun x => dstOk E x.2) && guardsIn (j, pol) [] body && ((i, o) :: rest).all (fun x => !(x.2.dst == some tj)) then
              bif sameB pol b then evalOps E ops mode fuel R ((j, pol) :: A) ((i, o) :: rest) (frSet f tj (.pv (.bool pol))) m lg k
              else evalOps E ops mode fuel R A rest1 (skipAll (frSet f tj (.pv (.bool !pol))) body) m lg k
            else none)
          else match rest1 with
          | (_, p) :: rest' =>
            match p.op with
            | .pick (.tmp c) x y =>
              if Nat.beq c tj && (guardOf p A).isNone && body.all (fun x => readKind x.2 && dstOk E x.2 && !(x.2.dst == some tj)) && guardsIn (j, pol) [] body && rest'.all (fun x => blind ops body x.2) && dstOk E p && !(Nat.beq mode 2) then
                (match pol with
                  | true => bif b then evalOps E ops (bif Nat.beq mode 0 then 3 else mode) fuel Bool ((j, pol) :: A) body f m lg (fun f _ => boolV (opd E f x)) else boolV (opd E (topAll f body) y)
                  | false => bif b then boolV (opd E (topAll f body) x) else evalOps E ops (bif Nat.beq mode 0 then 3 else mode) fuel Bool ((j, pol) :: A) body f m lg (fun f _ => boolV (opd E f y))).bind fun r =>
                evalOps E ops mode fuel R A rest' (frPut (topAll f body) p.dst (.pv (.bool r))) m lg k
              else none
            | _ => none
          | [] => none
        | _ => none
      | none => none

inductive Ex where
  | normal
  | exit (id : Nat)
  | ret
def loopU {R : Type} (body : Fr → Mem → (Fr → Mem → Option R) → Option R) : Nat → Fr → Mem → Option R
  | 0, _, _ => none
  | n + 1, f, m => body f m (loopU body n)

def loopKey : Code → Nat
  | .region id _ _ => id
  | .seq a _ => loopKey a
  | .cond _ a _ => loopKey a
  | .block _ b => loopKey b
  | .loop b => loopKey b
  | .scope b => loopKey b
  | _ => 0
def tyS : List Sh → Type → Type
  | [], T => T
  | .raw :: r, T => PV × tyS r T
  | .int _ :: r, T => Int × tyS r T
  | .bool :: r, T => Bool × tyS r T
  | .str :: r, T => Bytes × tyS r T
  | .rs _ :: r, T => List PV × tyS r T
  | .rp _ :: r, T => PV × tyS r T
  | .fs _ :: r, T => List PV × tyS r T
  | .own _ :: r, T => tyS r T
def tyB : List (Nat × BSh) → Type
  | [] => Unit
  | (_, .box cs) :: r => tyS cs (tyB r)
  | (_, .arr _ _) :: r => List PV × tyB r
  | (_, .fro _ _) :: r => List PV × tyB r
  | (_, .map _) :: r => List (PV × PV) × tyB r
  | (_, .nest _ _) :: r => List PV × tyB r
  | (_, .mapN _ _) :: r => List (PV × PV) × tyB r
  | (_, .loop) :: r => tyB r
  | (_, .busy) :: r => tyB r
  | (_, .iter _) :: r => List (PV × PV) × tyB r
def Tpl.shs (T : Tpl) : List Sh := T.slots.map Prod.snd
abbrev Tpl.ty (T : Tpl) : Type := tyS T.shs (tyB T.blks)
mutual
def V.same : V → V → Bool
  | .op i o, .op j p => Nat.beq i j && Nat.beq o p
  | .oe i a o, .oe j b p => Nat.beq i j && Nat.beq a b && Nat.beq o p
  | .os i, .os j => Nat.beq i j
  | .om i, .om j => Nat.beq i j
  | .yl i, .yl j => Nat.beq i j
  | .it i, .it j => Nat.beq i j
  | .nils, .nils => true
  | .pv .nilp, .pv .nilp => true
  | .pv .nilm, .pv .nilm => true
  | .pv (.int q x), .pv (.int q' y) => decide (q = q') && decide (x = y)
  | .fn f cs, .fn g ds => Nat.beq f g && sameL cs ds
  | _, _ => false
def sameL : List V → List V → Bool
  | [], [] => true
  | a :: as, b :: bs => a.same b && sameL as bs
  | _, _ => false
end
section
variable {R : Type}
def encS {T : Type} : (shs : List Sh) → List V → T → (tyS shs T → Option R) → Option R
  | [], [], t, k => k t
  | .int q :: shs, .pv (.int q' n) :: vs, t, k => if q' = q then encS shs vs t (fun r => k (n, r)) else none
  | .raw :: shs, .pv p :: vs, t, k => encS shs vs t (fun r => k (p, r))
  | .bool :: shs, .pv (.bool b) :: vs, t, k => encS shs vs t (fun r => k (b, r))
  | .str :: shs, .pv (.str s) :: vs, t, k => encS shs vs t (fun r => k (s, r))
  | .rs sz :: shs, .pv (.rs sz' es) :: vs, t, k => if sz' = sz then encS shs vs t (fun r => k (es, r)) else none
  | .rp n :: shs, .pv (.rp cs) :: vs, t, k => if cs.length = n then encS shs vs t (fun r => k (.agg cs, r)) else none
  | .fs s :: shs, .pv p :: vs, t, k => (rdL s p).bind fun ls => encS shs vs t (fun r => k (ls, r))
  | .own v :: shs, u :: vs, t, k => if v.same u then encS shs vs t k else none
  | _, _, _, _ => none
def encB (m : Mem) : (bs : List (Nat × BSh)) → (tyB bs → Option R) → Option R
  | [], k => k ()
  | (id, .box cs) :: r, k => match m id with
    | some (.box vs) => encB m r fun t => encS (T := tyB r) cs vs t k
    | _ => none
  | (id, .arr sz et) :: r, k => match m id with
    | some (.arr sz' et' es) => if sz' = sz ∧ et' = et then encB m r fun t => k (es, t) else none
    | _ => none
  | (id, .fro sz et) :: r, k => match m id with
    | some (.fro sz' et' es) => if sz' = sz ∧ et' = et then encB m r fun t => k (es, t) else none
    | _ => none
  | (id, .map kt) :: r, k => match m id with
    | some (.map kt' es) => if kt' = kt then encB m r fun t => k (es, t) else none
    | _ => none
  | (id, .nest sz et) :: r, k => match m id with
    | some (.nest sz' et' es) => if sz' = sz ∧ et' = et then encB m r fun t => k (es, t) else none
    | _ => none
  | (id, .mapN kt e) :: r, k => match m id with
    | some (.mapN kt' e' es) => if kt' = kt ∧ e' = e then encB m r fun t => k (es, t) else none
    | _ => none
  | (id, .loop) :: r, k => match m id with
    | some (.loop .ready) => encB m r k
    | _ => none
  | (id, .busy) :: r, k => match m id with
    | some (.loop .busy) => encB m r k
    | _ => none
  | (id, .iter t) :: r, k => match m id with
    | some (.iter t' es none) => if t' = t then encB m r fun u => k (es, u) else none
    | _ => none
def Sh.within (M : List Nat) : Sh → Bool
  | .own v => v.within M
  | _ => true
def BSh.within (M : List Nat) : BSh → Bool
  | .box cs => cs.all (·.within M)
  | _ => true
def Tpl.ok (T : Tpl) : Bool :=
  T.slots.all (fun x => x.2.within (T.blks.map (·.1))) && T.blks.all (fun x => x.2.within (T.blks.map (·.1)))
def fitS : List Sh → List V → Bool
  | [], [] => true
  | .raw :: shs, .pv _ :: vs => fitS shs vs
  | .int q :: shs, .pv (.int q' _) :: vs => decide (q' = q) && fitS shs vs
  | .bool :: shs, .pv (.bool _) :: vs => fitS shs vs
  | .str :: shs, .pv (.str _) :: vs => fitS shs vs
  | .rs sz :: shs, .pv (.rs sz' _) :: vs => Nat.beq sz' sz && fitS shs vs
  | .rp n :: shs, .pv (.rp cs) :: vs => Nat.beq cs.length n && fitS shs vs
  | .fs s :: shs, .pv p :: vs => (rdL s p).isSome && fitS shs vs
  | .own v :: shs, u :: vs => v.same u && fitS shs vs
  | _, _ => false
def fitB (m : Mem) : List (Nat × BSh) → Bool
  | [] => true
  | (id, .box cs) :: r => (match m id with | some (.box vs) => fitS cs vs | _ => false) && fitB m r
  | (id, .arr sz _) :: r => (match m id with | some (.arr sz' _ _) => Nat.beq sz' sz | _ => false) && fitB m r
  | (id, .fro sz _) :: r => (match m id with | some (.fro sz' _ _) => Nat.beq sz' sz | _ => false) && fitB m r
  | (id, .map _) :: r => (match m id with | some (.map _ _) => true | _ => false) && fitB m r
  | (id, .nest sz _) :: r => (match m id with | some (.nest sz' _ _) => Nat.beq sz' sz | _ => false) && fitB m r
  | (id, .mapN _ _) :: r => (match m id with | some (.mapN _ _ _) => true | _ => false) && fitB m r
  | (id, .loop) :: r => (match m id with | some (.loop .ready) => true | _ => false) && fitB m r
  | (id, .busy) :: r => (match m id with | some (.loop .busy) => true | _ => false) && fitB m r
  | (id, .iter _) :: r => (match m id with | some (.iter _ _ none) => true | _ => false) && fitB m r
def fits (f : Fr) (m : Mem) (T : Tpl) : Bool := fitB m T.blks && fitS T.shs (T.slots.map fun (x : Nat × Sh) => f x.1)
def enc (T : Tpl) (f : Fr) (m : Mem) (k : T.ty → Option R) : Option R :=
  if T.ok then encB m T.blks fun t => encS (T := tyB T.blks) T.shs (T.slots.map fun (x : Nat × Sh) => f x.1) t k else none
end
def decS {T : Type} : (shs : List Sh) → tyS shs T → List V × T
  | [], t => ([], t)
  | .int q :: shs, x => let r := decS shs x.2; (.pv (.int q x.1) :: r.1, r.2)
  | .raw :: shs, x => let r := decS shs x.2; (.pv x.1 :: r.1, r.2)
  | .bool :: shs, x => let r := decS shs x.2; (.pv (.bool x.1) :: r.1, r.2)
  | .str :: shs, x => let r := decS shs x.2; (.pv (.str x.1) :: r.1, r.2)
  | .rs sz :: shs, x => let r := decS shs x.2; (.pv (.rs sz x.1) :: r.1, r.2)
  | .rp n :: shs, x => let r := decS shs x.2; (.pv (.rp (elemCells n x.1)) :: r.1, r.2)
  | .fs s :: shs, x => let r := decS shs x.2; (.pv (bldF s ((List.range s.n).map fun j => x.1.getD j .bad)).1 :: r.1, r.2)
  | .own v :: shs, x => let r := decS (T := T) shs x; (v :: r.1, r.2)
def decB : (bs : List (Nat × BSh)) → tyB bs → List (Nat × Option Blk)
  | [], _ => []
  | (id, .box cs) :: r, x => let y := decS (T := tyB r) cs x; (id, some (.box y.1)) :: decB r y.2
  | (id, .arr sz et) :: r, x => (id, some (.arr sz et x.1)) :: decB r x.2
  | (id, .fro sz et) :: r, x => (id, some (.fro sz et x.1)) :: decB r x.2
  | (id, .map kt) :: r, x => (id, some (.map kt x.1)) :: decB r x.2
  | (id, .nest sz et) :: r, x => (id, some (.nest sz et x.1)) :: decB r x.2
  | (id, .mapN kt e) :: r, x => (id, some (.mapN kt e x.1)) :: decB r x.2
  | (id, .loop) :: r, x => (id, some (.loop .ready)) :: decB (r : List (Nat × BSh)) x
  | (id, .busy) :: r, x => (id, some (.loop .busy)) :: decB (r : List (Nat × BSh)) x
  | (id, .iter t) :: r, x => (id, some (.iter t x.1 none)) :: decB r x.2
def zipSlots : List (Nat × Sh) → List V → List (Nat × V)
  | (t, _) :: r, v :: vs => (t, v) :: zipSlots r vs
  | _, _ => []
def decF (T : Tpl) (x : T.ty) : Fr := frOf (zipSlots T.slots (decS (T := tyB T.blks) T.shs x).1)
def decM (T : Tpl) (x : T.ty) : Mem := memOf (decB T.blks (decS (T := tyB T.blks) T.shs x).2)
def prepK {A : Type} : List (Nat × Nat) → Fr → Mem → (Fr → Mem → A) → A
  | [], f, m, k => k f m
  | (t, sz) :: r, f, m, k => match f t with
    | .os id => match m id with
      | some (.arr s et es) => prepK r (frSet f t (.pv (.rs s es))) (memSet m id (.fro s et es)) k
      | some (.fro s _ es) => prepK r (frSet f t (.pv (.rs s es))) m k
      | _ => prepK r f m k
    | .nils => prepK r (frSet f t (.pv (.rs sz []))) m k
    | _ => prepK r f m k
def prepB {A : Type} : List (Nat × Nat × Nat) → Mem → (Mem → A) → A
  | [], m, k => k m
  | (id, j, sz) :: r, m, k => match m id with
    | some (.box cs) => match cs[j]? with
      | some .nils => prepB r (memSet m id (.box (cs.set j (.pv (.rs sz []))))) k
      | _ => prepB r m k
    | _ => prepB r m k
def prepO {A : Type} (P : Program) : List (Nat × Nat × Nat × TypeId) → Mem → (Mem → A) → A
  | [], m, k => k m
  | (id, j, nid, et) :: r, m, k => match m id with
    | some (.box cs) => match cs[j]? with
      | some .nils => match m nid with
        | none => if 0 < csz P et then prepO P r (memSet (memSet m nid (.arr (csz P et) et [])) id (.box (cs.set j (.os nid)))) k else prepO P r m k
        | some _ => prepO P r m k
      | _ => prepO P r m k
    | _ => prepO P r m k
def prepN {A : Type} : List Nat → Mem → (Mem → A) → A
  | [], m, k => k m
  | id :: r, m, k => match m id with
    | some (.arr s et es) => prepN r (memSet m id (.nest s et es)) k
    | _ => prepN r m k
def prepC {A : Type} : List (Nat × Nat) → Fr → Mem → (Fr → Mem → A) → A
  | [], f, m, k => k f m
  | (id, j) :: r, f, m, k => match m id with
    | some (.box cs) => match cs[j]? with
      | some (.osub a 0 len) => match m a with
        | some (.arr s et es) => if Nat.beq a id then prepC r f m k else
          prepC r (killF a f) (memSet (memSet (memDel (killM a m) a) a (.arr s et (es.take len))) id (.box ((cs.map (killV a)).set j (.os a)))) k
        | _ => prepC r f m k
      | _ => prepC r f m k
    | _ => prepC r f m k
def prepT {A : Type} (P : Program) (T : Tpl) (f : Fr) (m : Mem) (k : Fr → Mem → A) : A := prepC T.ct f m fun f m => prepO P T.bo m fun m => prepB T.bz m fun m => prepN T.nz m fun m => prepK T.fz f m k
def Ex.thenK {R : Type} (k1 : Fr → Mem → Option R) (k : Ex → Fr → Mem → Option R) : Ex → Fr → Mem → Option R
  | .normal, f, m => k1 f m
  | e, f, m => k e f m
def Ex.blockK {R : Type} (id : Nat) (k : Ex → Fr → Mem → Option R) : Ex → Fr → Mem → Option R
  | .exit j, f, m => if j = id then k .normal f m else k (.exit j) f m
  | e, f, m => k e f m

def Ex.jmp : Ex → Option Jmp
  | .normal => none
  | .exit id => some (.exit id)
  | .ret => some .ret
def Jmp.ex : Jmp → Ex
  | .ret => .ret
  | .exit id => .exit id
def pushG (n : Nat) (g f : Fr) : Fr := fun t => bif Nat.blt t n then g t else f (t - n)
def setPs : List Nat → List V → Fr → Fr
  | p :: ps, v :: vs, f => setPs ps vs (frSet f p v)
  | _, _, f => f
def roundOf {R : Type} (as b : Fr → Mem → (Ex → Fr → Mem → Option R) → Option R) (lid n : Nat) (ps : List Nat) (nt : Nat) (args : List V) (F : Fr) (m : Mem) (k : V → Fr → Mem → Option R) : Option R :=
  match m lid with
  | some (.loop .ready) => if args.length = ps.length then
      as (pushG n (setPs ps args (popF nt F)) F) m fun e f m => match e, m lid with
        | .normal, some (.loop .ready) => b f (memSet m lid (.loop .busy)) fun e f m => match m lid with
          | some (.loop .busy) => match e.jmp with
            | none => k (.pv (.bool true)) (popF n f) (memSet m lid (.loop .ready))
            | some j => k (.pv (.bool false)) (popF n f) (memSet m lid (.loop (.done j)))
          | _ => none
        | _, _ => none
      else none
  | _ => none
def fnOf : V → Option (FuncId × List V)
  | .fn g caps => some (g, caps)
  | .pv (.fn g caps) => some (g, caps.map .pv)
  | _ => none
noncomputable def evalC : (E : Env) → {R : Type} → Code → Fr → Mem → (Ex → Fr → Mem → Option R) → Option R
  | E, _, .skip, f, m, k => k .normal f m
  | E, R, .region _ ops draw, f, m, k =>
    if draw then
      (if indepOk ops [] ((List.range ops.size).zip ops.toList) then
        (if ops.toList.all readKind then evalOps E ops 1 (ops.size + 1) R [] ((List.range ops.size).zip ops.toList) f m [] fun f m => k .normal f m
        else evalOps E ops 2 (ops.size + 1) R [] ((List.range ops.size).zip ops.toList) f m [] fun f m => k .normal f m)
      else none)
    else evalOps E ops 0 (ops.size + ops.size + 1) R [] ((List.range ops.size).zip ops.toList) f m [] fun f m => k .normal f m
  | E, R, .seq a b, f, m, k => evalC E a f m (Ex.thenK (fun f m => evalC E b f m k) k)
  | E, R, .cond c a b, f, m, k => match c, opd E f c with
    | .tmp x, .pv (.bool t) => if t then evalC E a (frSet f x (.pv (.bool true))) m k else evalC E b (frSet f x (.pv (.bool false))) m k
    | _, _ => none
  | E, R, .block id b, f, m, k => evalC E b f m (Ex.blockK id k)
  | E, R, .loop b, f, m, k => match (E.hint E.fid (loopKey b)).find? (fun T => prepT E.P T f m fun f m => fits f m T) with
    | some T => prepT E.P T f m fun f m => enc T f m (E.lp.run fun s rec => evalC E b (decF T s) (decM T s) (Ex.thenK (fun f m => prepT E.P T f m fun f m => enc T f m rec) k))
    | none => loopU (fun f m rec => evalC E b f m (Ex.thenK rec k)) E.u f m
  | E, R, .exit id, f, m, k => k (.exit id) f m
  | E, R, .ret, f, m, k => k .ret f m
  | E, R, .label _, f, m, k => k .normal f m
  | E, R, .scope b, f, m, k => evalC E b f m k
  | E, R, .rangeFunc g ps as b, f, m, k => if E.rdb then none else match ps.toList with
    | p0 :: _ => fresh true (siteOf E (some p0)) (.loop .ready) f m fun f m _ => match fnOf (opd E f g) with
      | some (gid, caps) => E.rng R gid (siteOf E (some p0) * 4096 + gid)
          (fun _ nt site id args F m k => bif Nat.beq id (siteOf E (some p0)) then
            roundOf (evalC { E with fid := site * 4096 + E.fid % 4096, yl := noYl, rdb := true } as) (evalC { E with fid := site * 4096 + E.fid % 4096, yl := noYl, rdb := true } b) (siteOf E (some p0)) E.fn.ntmps ps.toList nt args F m k
            else none)
          (.yl (siteOf E (some p0)) :: caps) f m fun _ f m => match m (siteOf E (some p0)) with
            | some (.loop .ready) => k .normal (killF (siteOf E (some p0)) f) (memDel (killM (siteOf E (some p0)) m) (siteOf E (some p0)))
            | some (.loop (.done j)) => k j.ex (killF (siteOf E (some p0)) f) (memDel (killM (siteOf E (some p0)) m) (siteOf E (some p0)))
            | _ => none
      | _ => none
    | [] => none
  | _, _, _, _, _, _ => none
def resVs (E : Env) {R : Type} (f : Fr) (m : Mem) : List ResultVar → (List V → Option R) → Option R
  | [], k => k []
  | .tmp t :: rs, k => resVs E f m rs fun vs => k (opd E f (.tmp t) :: vs)
  | .cell a t :: rs, k => xload E false t (opd E f (.tmp a)) m fun v _ => resVs E f m rs fun vs => k (v :: vs)
def retP (E : Env) (rs : List ResultVar) (f : Fr) (m : Mem) : Option PV :=
  resVs E f m rs fun vs => match vs with
    | [v] => frz m frzDepth v
    | vs => (frzs (frz m frzDepth) vs).bind fun ps => some (.tup ps)
section
variable {R : Type} (E : Env)
def rdLeaf (t : TypeId) (p : PV) (k : PV → Option R) : Option R :=
  match E.P.underlying t with
  | some (.int _) => ldTy E t p k
  | some .bool => ldTy E t p k
  | some .string => ldTy E t p k
  | some (.slice _) => ldTy E t p k
  | some (.map _ _) => ldTy E t p k
  | _ => k p
def rdLeafs : List TypeId → List PV → (List PV → Option R) → Option R
  | t :: ts, p :: ps, k => rdLeaf E t p fun q => rdLeafs ts ps fun qs => k (q :: qs)
  | _, ps, k => k ps
def ptrCase (n : Nat) (p : PV) (a : Option R) (b : PV → Option R) : Option R :=
  match p with
  | .nilp => a
  | .rp cs => if n ≤ cs.length then b (.agg cs) else none
  | _ => none
def rdArg (t : TypeId) (p : PV) (k : PV → Option R) : Option R :=
  match E.P.underlying t with
  | some (.struct _) => (asAgg (csz E.P t) p).bind fun _ => match leafs E.P 8 t with
    | some ts => rdLeafs E ts (elemCells (csz E.P t) p) fun cs => k (.agg cs)
    | none => none
  | some (.array _ _) => (asAgg (csz E.P t) p).bind fun _ => match leafs E.P 8 t with
    | some ts => rdLeafs E ts (elemCells (csz E.P t) p) fun cs => k (.agg cs)
    | none => none
  | some (.pointer e) => ptrCase (csz E.P e) p (k .nilp) fun q => match leafs E.P 8 e with
    | some ts => rdLeafs E ts (elemCells (csz E.P e) q) fun cs => k (.rp cs)
    | none => none
  | _ => rdLeaf E t p k
def rdArgs : List TypeId → List PV → (List PV → Option R) → Option R
  | t :: ts, p :: ps, k => rdArg E t p fun q => rdArgs ts ps fun qs => k (q :: qs)
  | _, ps, k => k ps
end
def args0 (args : List V) : Fr := fun t => args.getD t .top
noncomputable def inlBody (E : Env) {R : Type} (args : List V) (f : Fr) (m : Mem) (k : V → Fr → Mem → Option R) : Option R :=
  match E.fn.body with
  | some c => if args.length ≤ E.fn.ntmps then evalC E c (pushF E.fn.ntmps args f) m (fun e f m => match e with
    | .exit _ => none
    | _ => resVs E f m E.fn.results.toList fun vs => match vs with
      | [v] => k v (popF E.fn.ntmps f) m
      | vs => k (.tup vs) (popF E.fn.ntmps f) m) else none
  | none => none
def retO (E : Env) (f : Fr) (m : Mem) : Option PV :=
  match E.fn.resultTypes.toList with
  | [t] => match E.P.underlying t with
    | some (.slice e) => resVs E f m E.fn.results.toList fun vs => match vs with
      | [.os id] => match m id with
        | some (.arr sz et es) => if sz = csz E.P e ∧ et = e then some (.rs sz es) else none
        | _ => none
      | [.osub id 0 len] => match m id with
        | some (.arr sz et es) => if sz = csz E.P e ∧ et = e then some (.rs sz (es.take len)) else none
        | _ => none
      | _ => none
    | _ => none
  | _ => none
noncomputable def evalFnO (E : Env) (args : List PV) : Option PV :=
  match E.fn.body with
  | some c => if args.length ≤ E.fn.ntmps then rdArgs E E.fn.params.toList args fun vs => evalC E c (args0 (vs.map .pv)) (fun _ => none) (fun e f m => match e with
    | .exit _ => none
    | _ => retO E f m) else none
  | none => none
noncomputable def evalFn (E : Env) (args : List PV) : Option PV :=
  match E.fn.body with
  | some c => if args.length ≤ E.fn.ntmps then rdArgs E E.fn.params.toList args fun vs => evalC E c (args0 (vs.map .pv)) (fun _ => none) (fun e f m => match e with
    | .normal => retP E E.fn.results.toList f m
    | .ret => retP E E.fn.results.toList f m
    | .exit _ => none) else none
  | none => none

end Go.Ab
