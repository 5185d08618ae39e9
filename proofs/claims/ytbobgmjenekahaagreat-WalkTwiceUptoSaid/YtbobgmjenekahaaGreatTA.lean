/- A deterministic interpreter of the model's code over trees ('T-land'): its definitions alone. -/
import GoSem.Dispatch
import GoSem.Machine.Frame
import GoSem.Core.Region
import Derived.Below
import Derived.Laws.CopyRow
import Derived.Orders
import Derived.Laws.Tables
import Derived.Great.FillDense
set_option linter.unusedVariables false
set_option linter.unusedSimpArgs false
namespace Go.TL

/-- A value without references into the store: a plain value, or a slice whose elements never change (each element: its cells). -/
inductive RV where
  | sc (v : Value)
  | lst (es : List (List RV)) (cap : Option Nat)
  deriving Inhabited

inductive TV where
  | r (x : RV)
  | agg (cs : List TV)
  | tup (vs : List TV)
  | sl (o off len ver : Nat) (cap : Option Nat)
  | ptr (o off : Nat)
  | mp (o : Nat)
  | fn (f : Nat) (cs : List TV)
  | lv (c : List TV)
  | fp (d off : Nat)
  | ep (cs : List RV) (off : Nat)
  | ap (o idx off ver : Nat)
  | und
  deriving Inhabited

inductive TO where
  | box (cs : List TV)
  | arr (sz : Nat) (es : List (List RV)) (ver frz : Nat)
  | map (ag : Bool) (es : List (Value × List RV × Nat)) (clock : Nat)
  deriving Inhabited

structure TS where
  objs : List TO
  leak : Bool                -- an object from before the call has been given a reference to one of the call's own
  touch : Option Nat         -- the least object that has been written since the call began


/- Equality, told by program. -/
def eqVal0 : Value → Value → Bool
  | .int k m, .int k' n => decide (k = k') && decide (m = n)
  | .bool a, .bool b => a == b
  | .slice none a b, .slice none c d => Nat.beq a c && Nat.beq b d
  | .map none, .map none => true
  | .pointer none, .pointer none => true
  | .nilFunc, .nilFunc => true
  | _, _ => false
def eqVals : List Value → List Value → Bool
  | [], [] => true
  | a :: as, b :: bs => eqVal0 a b && eqVals as bs
  | _, _ => false
def eqVal : Value → Value → Bool
  | .agg a, .agg b => eqVals a.toList b.toList
  | a, b => eqVal0 a b
def eqCap : Option Nat → Option Nat → Bool
  | none, none => true
  | some a, some b => Nat.beq a b
  | _, _ => false
mutual
def eqRV : RV → RV → Bool
  | .sc v, .sc u => eqVal v u
  | .lst es c, .lst es' c' => eqRows es es' && eqCap c c'
  | _, _ => false
def eqRow : List RV → List RV → Bool
  | [], [] => true
  | x :: xs, y :: ys => eqRV x y && eqRow xs ys
  | _, _ => false
def eqRows : List (List RV) → List (List RV) → Bool
  | [], [] => true
  | x :: xs, y :: ys => eqRow x y && eqRows xs ys
  | _, _ => false
end
mutual
def eqTV : TV → TV → Bool
  | .r x, .r y => eqRV x y
  | .agg xs, .agg ys => eqTVs xs ys
  | .sl o off len ver c, .sl o' off' len' ver' c' => Nat.beq o o' && Nat.beq off off' && Nat.beq len len' && Nat.beq ver ver' && eqCap c c'
  | .ptr o off, .ptr o' off' => Nat.beq o o' && Nat.beq off off'
  | .mp o, .mp o' => Nat.beq o o'
  | .fn f cs, .fn g ds => Nat.beq f g && eqTVs cs ds
  | _, _ => false
def eqTVs : List TV → List TV → Bool
  | [], [] => true
  | x :: xs, y :: ys => eqTV x y && eqTVs xs ys
  | _, _ => false
end
def eqEnts : List (Value × List RV × Nat) → List (Value × List RV × Nat) → Bool
  | [], [] => true
  | (k, v, b) :: xs, (k', v', b') :: ys => eqVal k k' && eqRow v v' && Nat.beq b b' && eqEnts xs ys
  | _, _ => false
def eqTO : TO → TO → Bool
  | .box cs, .box ds => eqTVs cs ds
  | .arr sz es v f, .arr sz' es' v' f' => Nat.beq sz sz' && eqRows es es' && Nat.beq v v' && Nat.beq f f'
  | .map a es c, .map a' es' c' => (a == a') && eqEnts es es' && Nat.beq c c'
  | _, _ => false
def eqOs : List TO → List TO → Bool
  | [], [] => true
  | x :: xs, y :: ys => eqTO x y && eqOs xs ys
  | _, _ => false
/-- Has nothing shared changed? -/
def sameS (S S' : TS) : Bool := !S.leak && !S'.leak && S.touch.isNone && S'.touch.isNone && eqOs S.objs S'.objs

/-- A table by number. -/
inductive Tb (α : Type) where
  | e
  | nd (v : α) (l r : Tb α)
def Tb.get {α : Type} : Tb α → Nat → Option α
  | .e, _ => none
  | .nd v _ _, 0 => some v
  | .nd _ l r, i + 1 => cond (Nat.beq (i % 2) 0) (l.get (i / 2)) (r.get (i / 2))

/-- The temporaries. -/
inductive Tr where
  | e
  | nd (v : TV) (l r : Tr)
def Tr.get : Tr → Nat → TV
  | .e, _ => .und
  | .nd v _ _, 0 => v
  | .nd _ l r, i + 1 => cond (Nat.beq (i % 2) 0) (l.get (i / 2)) (r.get (i / 2))
def Tr.set : Tr → Nat → TV → Tr
  | .e, _, _ => .e
  | .nd _ l r, 0, x => .nd x l r
  | .nd v l r, i + 1, x => cond (Nat.beq (i % 2) 0) (.nd v (l.set (i / 2) x) r) (.nd v l (r.set (i / 2) x))
def Tr.mk : Nat → Nat → Tr
  | 0, _ => .e
  | _ + 1, 0 => .e
  | d + 1, n + 1 => .nd .und (Tr.mk d ((n + 1) / 2)) (Tr.mk d (n / 2))
def Tr.sets : Tr → Nat → List TV → Tr
  | t, _, [] => t
  | t, i, x :: xs => (t.set i x).sets (i + 1) xs

inductive TD where
  | int (k : IntKind) | bool | str | slice (e : Nat) | arr (n e : Nat) | map (k e : Nat) | struct (fs : List (Nat × Nat × Bool)) | other
structure TyI where
  size : Nat
  bytes : Nat
  ag : Bool
  zero : List Value
  d : TD
/-- What is told of a function beside its text. -/
structure FnI where
  loc : List Nat            -- temporaries whose variable is the frame's own
  byref : Bool              -- slices are handed to it as they are
  keep : Bool               -- it hands back a slice that stays open
  risk : List (Nat × List (Nat × Nat))
structure Cfg where
  fn : Tb FnI
def Cfg.get (cfg : Cfg) (f : Nat) : FnI := match cfg.fn.get f with | some i => i | none => ⟨[], false, false, []⟩

def okV : Value → Bool
  | .agg _ | .tuple _ => false
  | _ => true

/-- Of a type: what the operations ask. -/
def aggD : TypeDesc → Bool
  | .struct _ | .array _ _ => true
  | _ => false
def fldInfo (P : Program) (f : Field) : Option (Nat × Nat × Bool) :=
  match P.info? f.type, P.underlying f.type with
  | some i, some u => some (f.offset, i.size, aggD u)
  | _, _ => none
def mapO {α β : Type} (f : α → Option β) : List α → Option (List β)
  | [] => some []
  | x :: xs => match f x, mapO f xs with | some y, some ys => some (y :: ys) | _, _ => none
def mkTD (P : Program) : TypeDesc → Option TD
  | .int k => some (.int k)
  | .bool => some .bool
  | .string => some .str
  | .slice e => some (.slice e)
  | .array n e => some (.arr n e)
  | .map k e => some (.map k e)
  | .struct fs => match mapO (fldInfo P) fs.toList with | some l => some (.struct l) | none => none
  | .pointer _ => some .other
  | .func _ _ _ => some .other
  | _ => none
def isAggV : Value → Bool
  | .agg _ => true
  | _ => false
def mkTy (P : Program) (t : TypeId) : Option TyI :=
  match P.info? t, P.underlying t with
  | some i, some u =>
    match i.zero, mkTD P u with
    | some z, some d =>
      cond (z.cells.toList.all okV && Nat.beq z.cells.toList.length i.size && (isAggV z == aggD u)) (some ⟨i.size, i.bytes, aggD u, z.cells.toList, d⟩) none
    | _, _ => none
  | _, _ => none

abbrev CallF := Nat → List TV → TS → Option (TV × TS × Option Nat)

def TV.cells : TV → List TV
  | .agg cs => cs
  | v => [v]

def inj : Value → TV
  | .agg cs => .agg (cs.toList.map fun c => .r (.sc c))
  | .tuple cs => .tup (cs.toList.map fun c => match c with | .agg ds => .agg (ds.toList.map fun c => .r (.sc c)) | c => .r (.sc c))
  | .func (.func f) a b => cond (a.isEmpty && b.isEmpty) (.fn f []) (.r (.sc (.func (.func f) a b)))
  | v => .r (.sc v)

def toV1 : TV → Option Value
  | .r (.sc v) => some v
  | _ => none
def toVs : List TV → Option (List Value)
  | [] => some []
  | c :: cs => match toV1 c, toVs cs with | some v, some vs => some (v :: vs) | _, _ => none
def toV : TV → Option Value
  | .r (.sc v) => some v
  | .agg cs => match toVs cs with | some l => some (.agg l.toArray) | none => none
  | _ => none

def pureRun {α : Type} (P : Program) : Sem α → Option α
  | .pure a => some a
  | .program k => pureRun P (k P)
  | .mark _ k => pureRun P k
  | _ => none

/-- Of cells: the value at place off, of n cells (ag: a struct or an array). -/
def partC (n : Nat) (ag : Bool) (cs : List TV) (off : Nat) : Option TV :=
  cond ag (cond (Nat.ble (off + n) cs.length) (some (.agg ((cs.drop off).take n))) none) cs[off]?

def operand (fr : Tr) : Operand → TV
  | .tmp t => match fr.get t with | .lv _ => .fp t 0 | v => v
  | .const v => inj v
  | .global _ => .und
  | .func f => .fn f []

def asIntT (v : TV) : Option Int := match v with | .r (.sc (.int _ n)) => some n | _ => none
def asBoolT (v : TV) : Option Bool := match v with | .r (.sc (.bool b)) => some b | _ => none

def okCell : TV → Bool
  | .r (.sc v) => okV v
  | .r _ | .sl .. | .ptr .. | .mp _ | .fn .. => true
  | _ => false
def okRef : TV → Bool
  | .r (.sc v) => okV v
  | .r _ | .sl .. | .ptr .. | .mp _ => true
  | _ => false

/-- The parts of a literal laid over its cells: (place, size, part). -/
def fillT (cells : List TV) : List (Nat × Nat × TV) → Option (List TV)
  | [] => some cells
  | (off, size, v) :: rest =>
    let vs := v.cells
    cond (Nat.beq vs.length size && Nat.ble (off + size) cells.length && vs.all okCell) (fillT (cells.take off ++ vs ++ cells.drop (off + size)) rest) none

def TS.put (S : TS) (o : Nat) (x : TO) : TS := { S with objs := S.objs.set o x }
def TS.push (S : TS) (x : TO) : TS := { S with objs := S.objs ++ [x] }

/-- A slice without elements, nil or not, is told alike. -/
def nilz : Value → RV
  | .slice none 0 0 => .lst [] none
  | v => .sc v
/-- A cell without references: a slice of the store's is told by its elements, which do not change from now on. -/
def freeze1 (S : TS) : TV → Option (RV × TS)
  | .r (.sc v) => some (nilz v, S)
  | .r (.lst es _) => some (.lst es none, S)
  | .sl o off len ver _ =>
    match S.objs[o]? with
    | some (.arr sz es v frz) =>
      cond (Nat.beq v ver && Nat.ble (off + len) es.length) (some (.lst ((es.drop off).take len) none, S.put o (.arr sz es v (max frz (off + len))))) none
    | _ => none
  | .fn f [] => some (.sc (.func (.func f) #[] #[]), S)
  | _ => none
def freezeL (S : TS) : List TV → Option (List RV × TS)
  | [] => some ([], S)
  | c :: cs =>
    match freeze1 S c with
    | some (x, S) => match freezeL S cs with | some (xs, S) => some (x :: xs, S) | none => none
    | none => none

/-- What a slice holds: its elements' cells. -/
def rdSlice (S : TS) : TV → Option (List (List RV))
  | .r (.sc (.slice none 0 0)) => some []
  | .r (.sc (.slice (some _) 0 _)) => some []
  | .r (.lst es _) => some es
  | .sl o off len ver _ =>
    match S.objs[o]? with
    | some (.arr _ es v _) => cond (Nat.beq v ver && Nat.ble (off + len) es.length) (some ((es.drop off).take len)) none
    | _ => none
  | _ => none
def lenT : TV → Option Nat
  | .r (.sc (.slice none 0 0)) => some 0
  | .r (.lst es _) => some es.length
  | .sl _ _ len _ _ => some len
  | _ => none

/-- Are two keys equal? Whole numbers, strings and Bools at once; others as the model has it. -/
def keyEq (P : Program) (t : Nat) (k k' : Value) : Option Bool :=
  match k, k' with
  | .int j a, .int j' b => if j = j' then some (a == b) else none
  | .string a, .string b => some (a == b)
  | .bool a, .bool b => some (a == b)
  | .agg a, .agg b => pureRun P (Op.equal t (.agg a) (.agg b))
  | _, _ => none
def findK (P : Program) (t : Nat) (k : Value) : List (Value × List RV × Nat) → Nat → Option (Option (Nat × List RV × Nat))
  | [], _ => some none
  | (k', v, b) :: es, i =>
    match keyEq P t k k' with
    | some true => some (some (i, v, b))
    | some false => findK P t k es (i + 1)
    | none => none
/-- Is this a key of such a map? -/
def keyOk (P : Program) (t : Nat) (e : Bool) (k : Value) : Bool :=
  match mkTy P t, k with
  | some { d := .int j, .. }, .int j' _ => decide (j = j')
  | some { d := .str, .. }, .string _ => true
  | some { d := .bool, .. }, .bool _ => true
  | some { d := .struct _, .. }, .agg _ => (pureRun P (Instr.checkKey e 10000 t k)).isSome
  | _, _ => false

def refGe1 (b : Nat) : TV → Bool
  | .sl o .. | .ptr o _ | .mp o => Nat.ble b o
  | _ => false
def TV.refGe (b : Nat) : TV → Bool
  | .fn _ cs => cs.any (refGe1 b)
  | v => refGe1 b v

/-- What an operation does to what is shared. -/
inductive Eff where
  | none
  | fread (d : Nat)
  | feff (d : Nat) (cs : List TV)
  | rd (os : List Nat)
  | wr (rd : List Nat) (ws : List Nat) (S : TS)
  | push (n : Nat) (rd : List Nat) (x : TO)
  | call (S0 S : TS) (low : Option Nat)

structure Out where
  val : TV
  eff : Eff

def oval (v : TV) : Option Out := some ⟨v, .none⟩
def ovalO : Option TV → Option Out
  | some v => oval v
  | .none => .none

def TV.objs : TV → List Nat
  | .sl o .. | .ptr o _ | .mp o | .ap o .. => [o]
  | _ => []
def sl1 : TV → List Nat
  | .sl o .. => [o]
  | _ => []
def TV.sls : TV → List Nat
  | .agg cs => cs.flatMap sl1
  | v => sl1 v
def tmin : Option Nat → Option Nat → Option Nat
  | .none, b => b
  | a, .none => a
  | some a, some b => some (min a b)
def lowL : List Nat → Option Nat
  | [] => .none
  | o :: os => tmin (some o) (lowL os)
def Eff.low : Eff → Option Nat
  | .wr _ ws _ => lowL ws
  | .call _ _ l => l
  | _ => .none
/-- Nothing from before base has been written. -/
def quietT (base : Nat) : Option Nat → Bool
  | .none => true
  | some t => Nat.ble base t

def loadT (fr : Tr) (S : TS) (n : Nat) (ag : Bool) : TV → Option Out
  | .fp d off => match fr.get d with | .lv cs => (partC n ag cs off).map (⟨·, .fread d⟩) | _ => .none
  | .ep cs off => (partC n ag (cs.map .r) off).map (⟨·, .none⟩)
  | .ptr o off => match S.objs[o]? with | some (.box cs) => (partC n ag cs off).map (⟨·, .rd [o]⟩) | _ => .none
  | .ap o idx off ver =>
    match S.objs[o]? with
    | some (.arr _ es v _) =>
      cond (Nat.beq v ver) (match es[idx]? with | some cs => (partC n ag (cs.map .r) off).map (⟨·, .rd [o]⟩) | .none => .none) .none
    | _ => .none
  | _ => .none

def storeT (fr : Tr) (S : TS) (base n : Nat) (a v : TV) : Option Out :=
  let vs := v.cells
  cond (Nat.beq vs.length n && vs.all okCell)
    (match a with
    | .fp d off =>
      match fr.get d with
      | .lv cs => cond (Nat.ble (off + n) cs.length) (some ⟨.und, .feff d (cs.take off ++ vs ++ cs.drop (off + n))⟩) .none
      | _ => .none
    | .ptr o off =>
      match S.objs[o]? with
      | some (.box cs) =>
        cond (Nat.ble (off + n) cs.length)
          (some ⟨.und, .wr [] [o] (S.put o (.box (cs.take off ++ vs ++ cs.drop (off + n))))⟩)
          .none
      | _ => .none
    | .ap o idx off ver =>
      match freezeL S vs with
      | some (xs, S) =>
        match S.objs[o]? with
        | some (.arr sz es w frz) =>
          cond (Nat.beq w ver && Nat.ble frz idx)
            (match es[idx]? with
            | some cs => cond (Nat.ble (off + n) cs.length) (some ⟨.und, .wr [] (o :: v.sls) (S.put o (.arr sz (es.set idx (cs.take off ++ xs ++ cs.drop (off + n))) w frz))⟩) .none
            | .none => .none) .none
        | _ => .none
      | .none => .none
    | _ => .none) .none

def addOff (k : Nat) : TV → Option TV
  | .fp d off => some (.fp d (off + k))
  | .ep cs off => some (.ep cs (off + k))
  | .ptr o off => some (.ptr o (off + k))
  | .ap o idx off ver => some (.ap o idx (off + k) ver)
  | _ => .none

def fieldAddrT (i : TyI) (a : TV) (f : Nat) : Option TV :=
  match i.d with
  | .struct fs => match fs[f]? with | some (off, n, _) => cond (Nat.beq n 0) .none (addOff off a) | .none => .none
  | _ => .none

def inRange (i : Int) (n : Nat) : Bool := match i with | .ofNat k => Nat.blt k n | _ => false

def indexAddrT (P : Program) (S : TS) (i : TyI) (x : TV) (k : Int) : Option Out :=
  match i.d with
  | .arr len e =>
    match mkTy P e with
    | some ei => cond (inRange k len) (match addOff (k.toNat * ei.size) x with | some a => oval a | .none => .none) .none
    | .none => .none
  | .slice e =>
    match mkTy P e with
    | some ei =>
      match x with
      | .r (.lst es _) => cond (inRange k es.length) (match es[k.toNat]? with | some cs => cond (Nat.beq cs.length ei.size) (oval (.ep cs 0)) .none | .none => .none) .none
      | .sl o off len ver _ =>
        match S.objs[o]? with
        | some (.arr sz es v _) => cond (Nat.beq v ver && Nat.beq sz ei.size && Nat.ble (off + len) es.length && inRange k len) (some ⟨.ap o (off + k.toNat) 0 ver, .rd [o]⟩) .none
        | _ => .none
      | _ => .none
    | .none => .none
  | _ => .none

def optInt (o : Option TV) (d : Nat) : Option Nat :=
  match o with
  | .none => some d
  | some v => match asIntT v with | some (.ofNat k) => some k | _ => .none

def headLen (sz : Nat) (es : List (List RV)) : Bool := match es with | e :: _ => Nat.beq e.length sz | [] => true
def capT (mx : Bool) (c : Option Nat) (m l : Nat) : Option Nat := cond mx (some (m - l)) (match c with | some c => some (c - l) | .none => .none)
def sliceT (S : TS) (sz : Nat) (x : TV) (lo hi mx : Option TV) : Option Out :=
  match lenT x with
  | .none => .none
  | some n =>
    match optInt hi n, optInt lo 0, optInt mx n with
    | some h, some l, some m =>
      cond (Nat.ble l h && Nat.ble h m && Nat.ble m n && (mx.isNone || hi.isSome))
        (match x with
        | .r (.lst es c) =>
          cond (headLen sz es) (oval (.r (.lst ((es.drop l).take (h - l)) (capT mx.isSome c m l)))) .none
        | .sl o off _ ver c =>
          match S.objs[o]? with
          | some (.arr sz' _ _ _) => cond (Nat.beq sz' sz) (some ⟨.sl o (off + l) (h - l) ver (capT mx.isSome c m l), .rd [o]⟩) .none
          | _ => .none
        | x => oval x) .none
    | _, _, _ => .none

def roomT : Nat := 1099511627776

def allLen (n : Nat) (es : List (List RV)) : Bool := es.all fun e => Nat.beq e.length n

def okR : RV → Bool
  | .sc v => okV v
  | .lst _ _ => true

def newArr (S : TS) (sz : Nat) (es : List (List RV)) (len : Nat) (cap : Option Nat) (rd : List Nat) : Option Out :=
  some ⟨.sl S.objs.length 0 len 0 cap, .push S.objs.length rd (.arr sz es 0 0)⟩

def appendT (P : Program) (S : TS) (e : Nat) (s x : TV) : Option Out :=
  match mkTy P e, rdSlice S x, lenT s with
  | some i, some xs, some n =>
    cond (Nat.ble ((n + xs.length) * i.bytes) roomT && Nat.ble (n + xs.length) roomT && allLen i.size xs && xs.all (·.all okR))
      (match xs with
      | [] => some ⟨s, .rd x.sls⟩
      | _ :: _ =>
        match s with
        | .r (.sc (.slice none 0 0)) => newArr S i.size xs xs.length .none x.sls
        | .r (.lst es (some c)) => cond (Nat.blt c (n + xs.length) && allLen i.size es) (newArr S i.size (es ++ xs) (n + xs.length) .none x.sls) .none
        | .sl o off len ver cap =>
          match S.objs[o]? with
          | some (.arr sz es v frz) =>
            cond (Nat.beq v ver && Nat.beq sz i.size && Nat.ble (off + len) es.length)
              (match cap with
              | some c => cond (Nat.blt c (len + xs.length)) (newArr S i.size ((es.drop off).take len ++ xs) (len + xs.length) .none (o :: x.sls)) .none
              | .none =>
                cond (Nat.beq (off + len) es.length)
                  (some ⟨.sl o 0 (len + xs.length) (v + 1) .none, .wr x.sls [o] (S.put o (.arr sz (es.drop off ++ xs) (v + 1) (frz - off)))⟩) .none) .none
          | _ => .none
        | _ => .none) .none
  | _, _, _ => .none

def entVal (ag : Bool) (v : List RV) : TV := cond ag (.agg (v.map .r)) (match v with | x :: _ => .r x | [] => .und)

def zeroVal (i : TyI) : TV := cond i.ag (.agg (i.zero.map fun v => .r (.sc v))) (match i.zero with | x :: _ => .r (.sc x) | [] => .und)

def lookRet (ok : Bool) (ei : TyI) (ag : Bool) (rd : Eff) (r : Option (Nat × List RV × Nat)) : Option Out :=
  match r with
  | some (_, v, _) => some ⟨cond ok (.tup [entVal ag v, .r (.sc (.bool true))]) (entVal ag v), rd⟩
  | none => some ⟨cond ok (.tup [zeroVal ei, .r (.sc (.bool false))]) (zeroVal ei), rd⟩

def lookupT (P : Program) (S : TS) (i : TyI) (m k : TV) (ok : Bool) : Option Out :=
  match i.d with
  | .map kt e =>
    match mkTy P e, toV k with
    | some ei, some k =>
      match m with
      | .r (.sc (.map none)) => cond (keyOk P kt true k) (lookRet ok ei ei.ag .none .none) .none
      | .mp o =>
        match S.objs[o]? with
        | some (.map a es _) =>
          cond (keyOk P kt es.isEmpty k && a == ei.ag) (match findK P kt k es 0 with | some r => lookRet ok ei a (.rd [o]) r | .none => .none) .none
        | _ => .none
      | _ => .none
    | _, _ => .none
  | _ => .none

def isAggT : TV → Bool
  | .agg _ => true
  | _ => false

/-- The same key, bit by bit. -/
def sameKey (k : Value) : Option (Value × List RV × Nat) → Bool
  | some (k', _) => Instr.sameBits 10000 k' k
  | .none => false
def mapUpdateT (P : Program) (S : TS) (i : TyI) (m k v : TV) : Option Out :=
  match i.d, toV k, freezeL S v.cells, m with
  | .map kt _, some k, some (xs, S), .mp o =>
    match S.objs[o]? with
    | some (.map a es c) =>
      cond (a == isAggT v && keyOk P kt false k && (a || Nat.beq xs.length 1))
        (match findK P kt k es 0 with
        | some (some (i, _, b)) => cond (sameKey k es[i]?) (some ⟨.und, .wr [] (o :: v.sls) (S.put o (.map a (es.set i (k, xs, b)) c))⟩) .none
        | some .none => some ⟨.und, .wr [] (o :: v.sls) (S.put o (.map a (es ++ [(k, xs, c)]) (c + 1)))⟩
        | .none => .none) .none
    | _ => .none
  | _, _, _, _ => .none

/-- An operation upon plain values alone, as the model has it. -/
def plainOps (ev : Operand → TV) : List Operand → Bool
  | [] => true
  | x :: xs => (toV (ev x)).isSome && plainOps ev xs
def closedT (P : Program) (ev : Operand → TV) (o : Oper) : Option Out :=
  cond (plainOps ev o.op.operands.toList)
    (match pureRun P (execOp (fun x => (toV (ev x)).getD undef) o) with
    | some (.value v) => oval (inj v)
    | _ => .none) .none

/-- Two whole numbers. -/
def intBin (op : BinOp) (k : IntKind) (a b : Int) : Option Value :=
  match op with
  | .add => some (.int k (k.wrap (a + b)))
  | .sub => some (.int k (k.wrap (a - b)))
  | .mul => some (.int k (k.wrap (a * b)))
  | .quo => if b = 0 then .none else some (.int k (k.wrap (a.tdiv b)))
  | .rem => if b = 0 then .none else some (.int k (a.tmod b))
  | .eql => some (.bool (a == b))
  | .neq => some (.bool (a != b))
  | .lss => some (.bool (decide (a < b)))
  | .leq => some (.bool (decide (a ≤ b)))
  | .gtr => some (.bool (decide (a > b)))
  | .geq => some (.bool (decide (a ≥ b)))
  | _ => .none

def nilCmp (P : Program) (t : Nat) (b : BinOp) : Option Out :=
  match mkTy P t with
  | some { d := .slice _, .. } =>
    match b with
    | .eql => oval (.r (.sc (.bool false)))
    | .neq => oval (.r (.sc (.bool true)))
    | _ => .none
  | _ => .none
def binT (P : Program) (ev : Operand → TV) (o : Oper) (t : Nat) (b : BinOp) (x y : TV) : Option Out :=
  match x, y with
  | .r (.sc (.int k a)), .r (.sc (.int k' c)) =>
    if k = k' then (match intBin b k a c with | some v => oval (.r (.sc v)) | .none => closedT P ev o) else .none
  | .r (.lst (_ :: _) _), .r (.sc (.slice none _ _)) | .sl .., .r (.sc (.slice none _ _)) =>
    nilCmp P t b
  | _, _ => closedT P ev o

def builtinT (P : Program) (S : TS) (ev : Operand → TV) (o : Oper) (b : Builtin) (t t1 : Nat) (args : List TV) : Option Out :=
  match b, args with
  | .append, [s, x] => match mkTy P t, mkTy P t1 with | some { d := .slice e, .. }, some { d := .slice _, .. } => appendT P S e s x | _, _ => .none
  | .len, [x] =>
    match mkTy P t with
    | some { d := .slice _, .. } => match lenT x with | some n => oval (.r (.sc (.int .i64 (n : Nat)))) | .none => .none
    | some { d := .map _ _, .. } =>
      match x with
      | .mp p => match S.objs[p]? with | some (.map _ es _) => some ⟨.r (.sc (.int .i64 (es.length : Nat))), .rd [p]⟩ | _ => .none
      | _ => closedT P ev o
    | _ => closedT P ev o
  | .min, _ | .max, _ => closedT P ev o
  | _, _ => .none

def evParts (ev : Operand → TV) (pl : Nat → Option (Nat × Nat)) : List (Nat × Operand) → Option (List (Nat × Nat × TV))
  | [] => some []
  | (i, x) :: ps =>
    match pl i, evParts ev pl ps with
    | some (off, n), some r => some ((off, n, ev x) :: r)
    | _, _ => .none

def fldOf (fs : List (Nat × Nat × Bool)) (i : Nat) : Option (Nat × Nat) := match fs[i]? with | some (off, n, _) => some (off, n) | .none => .none

def chunks (n : Nat) : Nat → List RV → List (List RV)
  | 0, _ => []
  | k + 1, xs => xs.take n :: chunks n k (xs.drop n)

def opT (P : Program) (loc : List Nat) (callF : CallF) (base : Nat) (fr : Tr) (S : TS) (o : Oper) : Option Out :=
  match o.op with
  | .move x | .assign x => oval (operand fr x)
  | .pick c a b => match asBoolT (operand fr c) with | some t => oval (cond t (operand fr a) (operand fr b)) | .none => .none
  | .alloc t =>
    match mkTy P t, o.dst with
    | some i, some d =>
      let cs := i.zero.map fun c => TV.r (.sc c)
      cond (loc.contains d) (oval (.lv cs)) (some ⟨.ptr S.objs.length 0, .push S.objs.length [] (.box cs)⟩)
    | _, _ => .none
  | .box _ x =>
    let cs := (operand fr x).cells
    match o.dst with
    | some d => cond (cs.all okCell) (cond (loc.contains d) (oval (.lv cs)) (some ⟨.ptr S.objs.length 0, .push S.objs.length [] (.box cs)⟩)) .none
    | .none => .none
  | .build t parts =>
    match mkTy P t with
    | some i =>
      let zs := i.zero.map fun c => TV.r (.sc c)
      match i.d with
      | .struct fs => match evParts (operand fr) (fldOf fs) parts.toList with | some ps => (fillT zs ps).bind fun cs => oval (.agg cs) | .none => .none
      | .arr _ e =>
        match mkTy P e with
        | some ei => match evParts (operand fr) (fun i => some (i * ei.size, ei.size)) parts.toList with | some ps => (fillT zs ps).bind fun cs => oval (.agg cs) | .none => .none
        | .none => .none
      | _ => .none
    | .none => .none
  | .buildSlice t len parts =>
    match mkTy P t with
    | some { d := .slice e, .. } =>
      match mkTy P e with
      | some ei =>
        cond (Nat.ble 1 ei.size && Nat.ble (len * ei.size) 16777216)
          (match evParts (operand fr) (fun i => some (i * ei.size, ei.size)) parts.toList with
          | some ps =>
            match fillT (List.replicate len (ei.zero.map fun c => TV.r (.sc c))).flatten ps with
            | some cs =>
              match freezeL S cs with
              | some (xs, S) => some ⟨.r (.lst (chunks ei.size len xs) (some len)), match cs.flatMap sl1 with | [] => .none | l => .wr [] l S⟩
              | .none => .none
            | .none => .none
          | .none => .none) .none
      | .none => .none
    | _ => .none
  | .load t a => match mkTy P t with | some i => loadT fr S i.size i.ag (operand fr a) | .none => .none
  | .store t a x => match mkTy P t with | some i => storeT fr S base i.size (operand fr a) (operand fr x) | .none => .none
  | .nilCheck x =>
    match operand fr x with
    | .fp d off => oval (.fp d off)
    | .ep cs off => oval (.ep cs off)
    | .ptr p off => oval (.ptr p off)
    | .ap p i off v => oval (.ap p i off v)
    | .fn g cs => oval (.fn g cs)
    | _ => .none
  | .binOp b t x y _ => binT P (operand fr) o t b (operand fr x) (operand fr y)
  | .unOp op _ x =>
    match op, operand fr x with
    | .not, .r (.sc (.bool b)) => oval (.r (.sc (.bool !b)))
    | _, _ => closedT P (operand fr) o
  | .convert .. => closedT P (operand fr) o
  | .makeFunc (.func g) first captured =>
    let cs := captured.toList.map (operand fr)
    cond (first.isEmpty && cs.all okRef) (oval (.fn g cs)) .none
  | .makeMap t r =>
    match r, mkTy P t with
    | .none, some { d := .map _ e, .. } => match mkTy P e with | some ei => some ⟨.mp S.objs.length, .push S.objs.length [] (.map ei.ag [] 0)⟩ | .none => .none
    | _, _ => .none
  | .makeSlice t l c =>
    match mkTy P t, asIntT (operand fr l), asIntT (operand fr c) with
    | some { d := .slice e, .. }, some (.ofNat l), some (.ofNat c) =>
      match mkTy P e with
      | some ei => cond (Nat.ble l c && Nat.ble (c * ei.bytes) roomT && Nat.ble c roomT) (newArr S ei.size (List.replicate c (ei.zero.map .sc)) l (some c) []) .none
      | .none => .none
    | _, _, _ => .none
  | .slice t x lo hi mx =>
    match mkTy P t with
    | some { d := .slice e, .. } =>
      match mkTy P e with
      | some ei => sliceT S ei.size (operand fr x) (lo.map (operand fr)) (hi.map (operand fr)) (mx.map (operand fr))
      | .none => .none
    | some { d := .str, .. } => closedT P (operand fr) o
    | _ => .none
  | .fieldAddr s x i => match mkTy P s with | some t => ovalO (fieldAddrT t (operand fr x) i) | .none => .none
  | .field t x i =>
    match mkTy P t, operand fr x with
    | some { d := .struct fs, .. }, .agg cs =>
      match fs[i]? with
      | some (off, n, ag) => ovalO (partC n ag cs off)
      | .none => .none
    | _, _ => .none
  | .indexAddr t x i =>
    match mkTy P t, asIntT (operand fr i) with
    | some ti, some k => indexAddrT P S ti (operand fr x) k
    | _, _ => .none
  | .index t x i =>
    match mkTy P t, operand fr x with
    | some { d := .arr len e, .. }, .agg cs =>
      match asIntT (operand fr i), mkTy P e with
      | some k, some ei => cond (inRange k len) (ovalO (partC ei.size ei.ag cs (k.toNat * ei.size))) .none
      | _, _ => .none
    | some { d := .str, .. }, _ => closedT P (operand fr) o
    | _, _ => .none
  | .lookup t x i ok => match mkTy P t with | some ti => lookupT P S ti (operand fr x) (operand fr i) ok | .none => .none
  | .mapUpdate t m k x | .insert t m k x => match mkTy P t with | some ti => mapUpdateT P S ti (operand fr m) (operand fr k) (operand fr x) | .none => .none
  | .extract t i => match operand fr t with | .tup vs => ovalO vs[i]? | _ => .none
  | .call c =>
    match c.callee with
    | .builtin b => match c.argTypes[0]? with | some t => builtinT P S (operand fr) o b t ((c.argTypes[1]?).getD 0) (c.args.toList.map (operand fr)) | .none => .none
    | .value g =>
      match operand fr g with
      | .fn g cs => match callF g (c.args.toList.map (operand fr) ++ cs) S with | some (v, S', w) => some ⟨v, .call S S' w⟩ | .none => .none
      | _ => .none
    | .invoke _ _ => .none
  | _ => .none

def wantT (o : Oper) (ops : Array Oper) (fr : Tr) : Bool :=
  match o.guard with
  | .none => true
  | some (j, b) =>
    match (ops[j]?).bind (·.dst) with
    | some d => match fr.get d with | .r (.sc (.bool c)) => c == b | _ => false
    | .none => false
/-- A guard is told by a Bool, or has not been asked. -/
def wantOk (o : Oper) (ops : Array Oper) (fr : Tr) : Bool :=
  match o.guard with
  | .none => true
  | some (j, _) =>
    match (ops[j]?).bind (·.dst) with
    | some d => match fr.get d with | .r (.sc (.bool _)) | .tup [] => true | _ => false
    | .none => false

def putT (fr : Tr) (dst : Option Tmp) (v : TV) : Tr := match dst with | some d => fr.set d v | .none => fr

def Eff.fr (fr : Tr) : Eff → Tr
  | .feff d cs => fr.set d (.lv cs)
  | _ => fr
def Eff.S (S : TS) : Eff → TS
  | .wr _ _ S' => S'
  | .push _ _ x => S.push x
  | .call _ S' _ => S'
  | _ => S

/-- 0: nothing shared is looked at or changed; 1: looked at; 2: changed. -/
def Eff.kind : Eff → Nat
  | .rd _ => 1
  | .wr .. | .push .. | .call .. => 2
  | _ => 0
def clash : Eff → Eff → Bool
  | .feff d _, .feff e _ | .feff d _, .fread e | .fread d, .feff e _ => Nat.beq d e
  | .rd _, .push .. => false
  | .push n _ _, .rd os => os.contains n
  | .rd _, .call S S' _ | .call S S' _, .rd _ => !sameS S S'
  | .call S S' _, .call T T' _ => !(sameS S S' && sameS T T')
  | a, b => match a.kind, b.kind with | 0, _ | _, 0 | 1, 1 => false | _, _ => true

section
variable (P : Program) (loc : List Nat) (callF : CallF) (base : Nat) (ops : Array Oper)

/-- May an address into the frame's own variables come of it? -/
def fpKind : Op → Bool
  | .fieldAddr .. | .indexAddr .. | .nilCheck _ | .move _ | .assign _ | .pick .. => true
  | _ => false
def isFp : TV → Bool
  | .fp _ _ => true
  | _ => false
/-- No temporary of this region holds an address into d's variable. -/
def noFp (fr : Tr) (d : Nat) : List Oper → Bool
  | [] => true
  | o :: os => (match o.dst with | some e => (match fr.get e with | .fp d' _ => !Nat.beq d d' | _ => true) | .none => true) && noFp fr d os
/-- The frame's own variables are written by stores alone. -/
def feffOk : Op → Eff → Bool
  | .store .., _ => true
  | _, .feff .. => false
  | _, _ => true
def isLv : TV → Bool
  | .lv _ => true
  | _ => false
def putOk (fr : Tr) (dst : Option Tmp) (v : TV) : Bool :=
  match dst with
  | some d => cond (loc.contains d) (!isFp v && noFp fr d ops.toList) (!isLv v)
  | .none => true

def stepC (fr : Tr) (S : TS) (o : Oper) : Option (Tr × TS × Eff) :=
  cond (wantOk o ops fr)
    (cond (wantT o ops fr)
      (match opT P loc callF base fr S o with
      | some r => cond ((fpKind o.op || !isFp r.val) && feffOk o.op r.eff && putOk loc ops fr o.dst r.val) (some (putT (r.eff.fr fr) o.dst r.val, r.eff.S S, r.eff)) .none
      | .none => .none)
      (cond (putOk loc ops fr o.dst (.tup [])) (some (putT fr o.dst (.tup []), S, .none)) .none)) .none

def runOps : List Oper → Tr → TS → Option (Tr × TS)
  | [], fr, S => some (fr, S)
  | o :: os, fr, S =>
    match stepC P loc callF base ops fr S o with
    | some (fr, S, _) => runOps os fr S
    | .none => .none

def runCls : List Oper → Tr → TS → Option (Tr × TS × List Eff)
  | [], fr, S => some (fr, S, [])
  | o :: os, fr, S =>
    match stepC P loc callF base ops fr S o with
    | some (fr, S, c) => match runCls os fr S with | some (fr, S, cs) => some (fr, S, c :: cs) | .none => .none
    | .none => .none

/-- Addresses into the frame's own variables end with their region. -/
def forget : List Oper → Tr → Tr
  | [], fr => fr
  | o :: os, fr =>
    cond (fpKind o.op)
      (match o.dst with
      | some d => cond (isFp (fr.get d)) (forget os (fr.set d .und)) (forget os fr)
      | .none => forget os fr) (forget os fr)

def riskOf (risk : List (Nat × List (Nat × Nat))) (id : Nat) : List (Nat × Nat) :=
  match risk with
  | [] => []
  | (i, l) :: r => cond (Nat.beq i id) l (riskOf r id)

def noClash (cs : List Eff) : List (Nat × Nat) → Bool
  | [] => true
  | (i, j) :: l => !clash (cs.getD i .none) (cs.getD j .none) && noClash cs l

def regionT (risk : List (Nat × Nat)) (fr : Tr) (S : TS) : Option (Tr × TS) :=
  match risk with
  | [] =>
    match runOps P loc callF base ops ops.toList fr S with
    | some (fr', S') => some (forget ops.toList fr', S')
    | .none => .none
  | _ :: _ =>
    match runCls P loc callF base ops ops.toList fr S with
    | some (fr', S', cs) => cond (noClash cs risk) (some (forget ops.toList fr', S')) .none
    | .none => .none
end

inductive TX where
  | normal | exit (id : Nat) | ret

/-- An argument, as a call is given it. -/
def argCell (by_ : Bool) (S : TS) : TV → Option (TV × TS)
  | .r (.sc v) => some (.r (cond by_ (.sc v) (nilz v)), S)
  | .r (.lst es c) => some (.r (.lst es (cond by_ c .none)), S)
  | .sl o off len ver c => cond by_ (some (.sl o off len ver c, S)) (match freeze1 S (.sl o off len ver c) with | some (x, S) => some (.r x, S) | .none => .none)
  | .ptr o off => some (.ptr o off, S)
  | .mp o => some (.mp o, S)
  | .fn g cs => some (.fn g cs, S)
  | _ => .none
def argCells (by_ : Bool) (S : TS) : List TV → Option (List TV × TS)
  | [] => some ([], S)
  | c :: cs =>
    match argCell by_ S c with
    | some (x, S) => match argCells by_ S cs with | some (xs, S) => some (x :: xs, S) | .none => .none
    | .none => .none
def argT (by_ : Bool) (S : TS) : TV → Option (TV × TS)
  | .agg cs => match argCells by_ S cs with | some (xs, S) => some (.agg xs, S) | .none => .none
  | v => argCell by_ S v
def argsT (by_ : Bool) (S : TS) : List TV → Option (List TV × TS)
  | [] => some ([], S)
  | v :: vs =>
    match argT by_ S v with
    | some (x, S) => match argsT by_ S vs with | some (xs, S) => some (x :: xs, S) | .none => .none
    | .none => .none

def result1 (P : Program) (fr : Tr) (S : TS) : ResultVar → Option TV
  | .tmp t => match fr.get t with | .lv _ => .none | v => some v
  | .cell a t => match mkTy P t with | some i => (match loadT fr S i.size i.ag (operand fr (.tmp a)) with | some r => cond (isFp r.val) .none (some r.val) | .none => .none) | .none => .none
def resultsT (P : Program) (fr : Tr) (S : TS) : List ResultVar → Option (List TV)
  | [] => some []
  | x :: xs => match result1 P fr S x, resultsT P fr S xs with | some v, some vs => some (v :: vs) | _, _ => .none

def freezeV (S : TS) : TV → Option (TV × TS)
  | .agg cs => match freezeL S cs with | some (xs, S) => some (.agg (xs.map .r), S) | .none => .none
  | .tup _ => .none
  | v => match freeze1 S v with | some (x, S) => some (.r x, S) | .none => .none
def freezeVs (S : TS) : List TV → Option (List TV × TS)
  | [] => some ([], S)
  | v :: vs =>
    match freezeV S v with
    | some (x, S) => match freezeVs S vs with | some (xs, S) => some (x :: xs, S) | .none => .none
    | .none => .none

def one (vs : List TV) : TV := match vs with | [v] => v | vs => .tup vs

/-- Does one of the older objects hold a reference to a younger one? -/
def leaks (base : Nat) : List TO → Nat → Bool
  | [], _ => false
  | .box cs :: os, i => (Nat.blt i base && cs.any (·.refGe base)) || leaks base os (i + 1)
  | _ :: os, i => leaks base os (i + 1)

def allT (S : TS) (vs : List TV) : Option (TV × List TO) := match argsT true S vs with | some (xs, S) => some (one xs, S.objs) | .none => .none
def keepT (base : Nat) (S : TS) (o off len ver : Nat) (c : Option Nat) : Option (TV × List TO) :=
  cond (Nat.blt o base) (some (.sl o off len ver c, S.objs.take base))
    (match S.objs[o]? with
    | some (.arr sz es v frz) =>
      cond (Nat.beq v ver && Nat.ble (off + len) es.length && Nat.ble (frz - off) len) (some (.sl base 0 len 0 .none, S.objs.take base ++ [.arr sz ((es.drop off).take len) 0 (frz - off)])) .none
    | _ => .none)
/-- What a call hands back: the objects of its own end with it, where nothing leads to them. -/
def retT (keep : Bool) (base : Nat) (S : TS) (vs : List TV) : Option (TV × List TO) :=
  match keep, vs with
  | true, [.sl o off len ver c] => cond (leaks base S.objs 0) (allT S vs) (keepT base S o off len ver c)
  | true, [.r (.sc u)] => cond (leaks base S.objs 0) (allT S vs) (some (.r (.sc u), S.objs.take base))
  | _, vs =>
    match freezeVs S vs with
    | some (xs, S2) => cond (leaks base S2.objs 0) (allT S vs) (some (one xs, S2.objs.take base))
    | .none => allT S vs

section
variable (P : Program) (cfg : Cfg)

def enterT (exec : Code → FnI → Nat → Tr → TS → Option (TX × Tr × TS)) : CallF := fun f args S =>
  match P.funcs[f]? with
  | .none => .none
  | some fn =>
    match fn.body, argsT (cfg.get f).byref S args with
    | some body, some (as, S1) =>
      cond (Nat.ble as.length fn.ntmps)
        (match exec body (cfg.get f) S1.objs.length ((Tr.mk 12 fn.ntmps).sets 0 as) ⟨S1.objs, false, .none⟩ with
        | some (.exit _, _, _) => .none
        | some (_, fr, S') =>
          match resultsT P fr S' fn.results.toList with
          | some vs =>
            match retT (cfg.get f).keep S1.objs.length S' vs with
            | some (v, os) =>
              some (v, ⟨os, false, .none⟩, .none)
            | .none => .none
          | .none => .none
        | .none => .none) .none
    | _, _ => .none

/-- First what is known of a call. -/
def orcT (orc next : CallF) : CallF := fun f args S => match orc f args S with | some r => some r | .none => next f args S

variable (orc : CallF)
def exec : Nat → Code → FnI → Nat → Tr → TS → Option (TX × Tr × TS)
  | 0, _, _, _, _, _ => .none
  | n + 1, c, fi, base, fr, S =>
    match c with
    | .skip => some (.normal, fr, S)
    | .region id ops draw =>
      match regionT P fi.loc (orcT orc (enterT P cfg (exec n))) base ops (cond draw (riskOf fi.risk id) []) fr S with
      | some (fr, S) => some (.normal, fr, S)
      | .none => .none
    | .seq a b =>
      match exec n a fi base fr S with
      | some (.normal, fr, S) => exec n b fi base fr S
      | r => r
    | .cond c a b =>
      match asBoolT (operand fr c) with
      | some true => exec n a fi base fr S
      | some false => exec n b fi base fr S
      | .none => .none
    | .block id c =>
      match exec n c fi base fr S with
      | some (.exit i, fr, S) => some (cond (Nat.beq i id) .normal (.exit i), fr, S)
      | r => r
    | .loop c =>
      match exec n c fi base fr S with
      | some (.normal, fr, S) => exec n (.loop c) fi base fr S
      | r => r
    | .exit id => some (.exit id, fr, S)
    | .ret => some (.ret, fr, S)
    | .label _ => some (.normal, fr, S)
    | _ => .none

def callT (n : Nat) : CallF := enterT P cfg (exec P cfg orc n)
end

end Go.TL
/- What it means that a value of the model stands for a tree, and that this stays so as the world grows. -/
namespace Go.TL

inductive F2 {α β : Type} (R : α → β → Prop) : List α → List β → Prop
  | nil : F2 R [] []
  | cons {a b l l'} (h : R a b) (t : F2 R l l') : F2 R (a :: l) (b :: l')

structure G where
  I : Nat → Nat → Prop          -- the cells that do not change from now on
  mu : Nat → Nat                -- an object's block
  sh : Nat → Nat                -- where in its block a row's first element lies
  room : Nat → Nat              -- how many cells a row's block has

def ca (w : World) (b i : Nat) : Option Value := w.cell? ⟨b, i, none⟩

inductive RRep (w : World) (I : Nat → Nat → Prop) : Value → RV → Prop
  | sc (v : Value) : RRep w I v (.sc v)
  | nil (c : Option Nat) (h : ∀ k, c = some k → k = 0) : RRep w I (.slice none 0 0) (.lst [] c)
  | emp (a : Addr) (cap : Nat) (c : Option Nat) (h : ∀ k, c = some k → cap = k) : RRep w I (.slice (some a) 0 cap) (.lst [] c)
  | lst (b off cap sz : Nat) (es : List (List RV)) (c : Option Nat) (cv : Nat → Nat → Value) (h2 : es.length ≤ cap) (h3 : ∀ k, c = some k → cap = k)
      (h4 : ∀ (i : Nat) (e : List RV), es[i]? = some e → e.length = sz)
      (h5 : ∀ (i : Nat) (e : List RV) (j : Nat) (x : RV), es[i]? = some e → e[j]? = some x → ca w b (off + (i * sz + j)) = some (cv i j) ∧ I b (off + (i * sz + j)))
      (h6 : ∀ (i : Nat) (e : List RV) (j : Nat) (x : RV), es[i]? = some e → e[j]? = some x → RRep w I (cv i j) x) :
      RRep w I (.slice (some ⟨b, off, none⟩) es.length cap) (.lst es c)

theorem RRep.mono {w w' : World} {I I' : Nat → Nat → Prop} (hI : ∀ b i, I b i → I' b i ∧ ca w' b i = ca w b i) {v : Value} {x : RV} (h : RRep w I v x) : RRep w' I' v x := by
  induction h with
  | sc v => exact .sc v
  | nil c h => exact .nil c h
  | emp a cap c h => exact .emp a cap c h
  | lst b off cap sz es c cv h2 h3 h4 h5 h6 ih =>
    refine .lst b off cap sz es c cv h2 h3 h4 ?_ ih
    intro i e j x he hx
    have h := h5 i e j x he hx
    exact ⟨by rw [(hI _ _ h.2).2]; exact h.1, (hI _ _ h.2).1⟩

/-- The cells from b, off on stand for these. -/
def CellsAt (w : World) (I : Nat → Nat → Prop) (b off : Nat) (cs : List RV) : Prop :=
  ∃ cv : Nat → Value, ∀ (j : Nat) (x : RV), cs[j]? = some x → ca w b (off + j) = some (cv j) ∧ I b (off + j) ∧ RRep w I (cv j) x

theorem CellsAt.mono {w w' : World} {I I' : Nat → Nat → Prop} (hI : ∀ b i, I b i → I' b i ∧ ca w' b i = ca w b i) {b off : Nat} {cs : List RV} (h : CellsAt w I b off cs) : CellsAt w' I' b off cs := by
  obtain ⟨cv, h⟩ := h
  refine ⟨cv, fun j x hx => ?_⟩
  obtain ⟨h1, h2, h3⟩ := h j x hx
  exact ⟨by rw [(hI _ _ h2).2]; exact h1, (hI _ _ h2).1, h3.mono hI⟩

def SlRep (g : G) (os : List TO) (v : Value) (o off len ver : Nat) (cap : Option Nat) : Prop :=
  ∃ a cap', v = .slice (some a) len cap' ∧ (len ≤ cap' ∧ a.spot = none) ∧ (∀ k, cap = some k → cap' = k) ∧
    ∃ sz es w fz, os[o]? = some (.arr sz es w fz) ∧ ver ≤ w ∧
      (w = ver → off + len ≤ es.length ∧ (cap' ≠ 0 → a = ⟨g.mu o, g.sh o + off * sz, none⟩ ∧ g.sh o + (off + cap') * sz ≤ g.room o))

/-- A cell. -/
def CRep0 (w : World) (g : G) (os : List TO) (v : Value) : TV → Prop
  | .r x => RRep w g.I v x
  | .sl o off len ver cap => SlRep g os v o off len ver cap
  | .ptr o off => v = .pointer (some ⟨g.mu o, off, none⟩) ∧ ∃ cs, os[o]? = some (.box cs)
  | .mp o => v = .map (some (g.mu o)) ∧ ∃ a es c, os[o]? = some (.map a es c)
  | _ => False
def CRep (w : World) (g : G) (os : List TO) (v : Value) : TV → Prop
  | .fn f cs => ∃ vs : List Value, v = .func (.func f) #[] vs.toArray ∧ F2 (CRep0 w g os) vs cs
  | t => CRep0 w g os v t
/-- A part of a tuple. -/
def PRep (w : World) (g : G) (os : List TO) (v : Value) : TV → Prop
  | .agg cs => ∃ vs : List Value, v = .agg vs.toArray ∧ F2 (CRep w g os) vs cs
  | t => CRep w g os v t
def ApRep (g : G) (os : List TO) (v : Value) (o idx off ver : Nat) : Prop :=
  ∃ p sz es w fz, v = .pointer (some p) ∧ os[o]? = some (.arr sz es w fz) ∧ ver ≤ w ∧ (w = ver → idx < es.length ∧ p = ⟨g.mu o, g.sh o + (idx * sz + off), none⟩)
def TRep (w : World) (g : G) (os : List TO) (v : Value) : TV → Prop
  | .tup ts => ∃ vs : List Value, v = .tuple vs.toArray ∧ F2 (PRep w g os) vs ts
  | .ep cs off => ∃ b p, v = .pointer (some ⟨b, p + off, none⟩) ∧ CellsAt w g.I b p cs
  | .ap o idx off ver => ApRep g os v o idx off ver
  | .und => True
  | t => PRep w g os v t

def EntRep (w : World) (I : Nat → Nat → Prop) (ag : Bool) (e : MapEntry) (t : Value × List RV × Nat) : Prop :=
  e.key = t.1 ∧ e.born = t.2.2 ∧
    (if ag then ∃ vs : List Value, e.val = .agg vs.toArray ∧ F2 (RRep w I) vs t.2.1 else ∃ x, t.2.1 = [x] ∧ RRep w I e.val x)

def ORep (w : World) (g : G) (os : List TO) (o : Nat) : TO → Prop
  | .box cs => ∃ C e, w.heap[g.mu o]? = some (.cells C e (0, 0)) ∧ F2 (CRep w g os) C.toList cs ∧ ∀ i, ¬ g.I (g.mu o) i
  | .arr sz es _ frz => ∃ C e, w.heap[g.mu o]? = some (.cells C e (0, 0)) ∧ C.size = g.room o ∧ g.sh o + es.length * sz ≤ C.size ∧
      (∀ (i : Nat) (e : List RV), es[i]? = some e → e.length = sz) ∧
      (∀ (i : Nat) (e : List RV) (j : Nat) (x : RV), es[i]? = some e → e[j]? = some x → ∃ v, C[g.sh o + (i * sz + j)]? = some v ∧ RRep w g.I v x) ∧
      (∀ k, g.I (g.mu o) k → k < g.sh o + frz * sz) ∧ frz ≤ es.length
  | .map a es c => ∃ E, w.heap[g.mu o]? = some (.map E c) ∧ F2 (EntRep w g.I a) E.toList es ∧ ∀ i, ¬ g.I (g.mu o) i

structure SRep (w : World) (g : G) (os : List TO) : Prop where
  obj : ∀ (o : Nat) (x : TO), os[o]? = some x → ORep w g os o x
  inj : ∀ o o' : Nat, o < os.length → o' < os.length → g.mu o = g.mu o' → o = o'
  imm : ∀ b i, g.I b i → (ca w b i).isSome = true

/-- What may become of an object. -/
def OExt (g g' : G) (o : Nat) : TO → TO → Prop
  | .box cs, .box cs' => cs'.length = cs.length ∧ g'.mu o = g.mu o
  | .map a _ _, .map a' _ _ => a' = a ∧ g'.mu o = g.mu o
  | .arr sz es v _, .arr sz' es' v' _ => sz' = sz ∧ v ≤ v' ∧ (v' = v → g'.mu o = g.mu o ∧ g'.sh o = g.sh o ∧ g'.room o = g.room o ∧ es'.length = es.length)
  | _, _ => False

/-- From one state to a later one. -/
structure Ext (os : List TO) (w : World) (g : G) (os' : List TO) (w' : World) (g' : G) : Prop where
  rest : w'.os = w.os ∧ w'.tape = w.tape ∧ w'.output = w.output
  size : w.heap.size ≤ w'.heap.size
  imm : ∀ b i, g.I b i → g'.I b i ∧ ca w' b i = ca w b i
  inew : ∀ b i, g'.I b i → g.I b i ∨ w.heap.size ≤ b ∨ ∃ o, o < os.length ∧ g.mu o = b
  len : os.length ≤ os'.length
  mu : ∀ o, o < os.length → g'.mu o = g.mu o ∨ w.heap.size ≤ g'.mu o
  new : ∀ o, os.length ≤ o → o < os'.length → w.heap.size ≤ g'.mu o
  obj : ∀ (o : Nat) (x : TO), os[o]? = some x → ∃ x', os'[o]? = some x' ∧ OExt g g' o x x'
  frame : ∀ b, b < w.heap.size → (∀ o, o < os.length → g.mu o ≠ b) → w'.heap[b]? = w.heap[b]?
  frz : ∀ a, w'.frozen? a = w.frozen? a

theorem CRep.eq0 {w : World} {g : G} {os : List TO} {v : Value} {t : TV} (h : ∀ f cs, t ≠ .fn f cs) : CRep w g os v t = CRep0 w g os v t := by
  cases t <;> first | rfl | exact absurd rfl (h _ _)
theorem PRep.eqC {w : World} {g : G} {os : List TO} {v : Value} {t : TV} (h : ∀ cs, t ≠ .agg cs) : PRep w g os v t = CRep w g os v t := by
  cases t <;> first | rfl | exact absurd rfl (h _)
theorem TRep.eqP {w : World} {g : G} {os : List TO} {v : Value} {t : TV} (h1 : ∀ cs, t ≠ .tup cs) (h2 : ∀ cs o, t ≠ .ep cs o) (h3 : ∀ a b c d, t ≠ .ap a b c d) (h4 : t ≠ .und) : TRep w g os v t = PRep w g os v t := by
  cases t <;> first | rfl | exact absurd rfl (h1 _) | exact absurd rfl (h2 _ _) | exact absurd rfl (h3 _ _ _ _) | exact absurd rfl h4

theorem OExt.refl (g : G) (o : Nat) (x : TO) : OExt g g o x x := by
  cases x <;> simp [OExt]

theorem OExt.trans {g g' g'' : G} {o : Nat} {x y z : TO} (h : OExt g g' o x y) (h' : OExt g' g'' o y z) : OExt g g'' o x z := by
  cases x <;> cases y <;> simp only [OExt] at h <;> cases z <;> simp only [OExt] at h' ⊢
  · exact ⟨h'.1.trans h.1, h'.2.trans h.2⟩
  · obtain ⟨a1, a2, a3⟩ := h
    obtain ⟨b1, b2, b3⟩ := h'
    refine ⟨b1.trans a1, by omega, fun e => ?_⟩
    have h1 := b3 (by omega)
    have h2 := a3 (by omega)
    exact ⟨h1.1.trans h2.1, h1.2.1.trans h2.2.1, h1.2.2.1.trans h2.2.2.1, h1.2.2.2.trans h2.2.2.2⟩
  · exact ⟨h'.1.trans h.1, h'.2.trans h.2⟩

theorem Ext.refl (os : List TO) (w : World) (g : G) : Ext os w g os w g :=
  ⟨⟨rfl, rfl, rfl⟩, Nat.le_refl _, fun _ _ h => ⟨h, rfl⟩, fun _ _ h => .inl h, Nat.le_refl _, fun _ _ => .inl rfl, fun _ h h' => absurd h' (by omega), fun o x h => ⟨x, h, .refl g o x⟩, fun _ _ _ => rfl, fun _ => rfl⟩

theorem Ext.trans {os os' os'' : List TO} {w w' w'' : World} {g g' g'' : G} (h : Ext os w g os' w' g') (h' : Ext os' w' g' os'' w'' g'') : Ext os w g os'' w'' g'' where
  rest := ⟨h'.rest.1.trans h.rest.1, h'.rest.2.1.trans h.rest.2.1, h'.rest.2.2.trans h.rest.2.2⟩
  size := Nat.le_trans h.size h'.size
  imm b i hi := ⟨(h'.imm b i (h.imm b i hi).1).1, (h'.imm b i (h.imm b i hi).1).2.trans (h.imm b i hi).2⟩
  inew b i hi := by
    rcases h'.inew b i hi with h1 | h1 | ⟨o, ho, h1⟩
    · exact h.inew b i h1
    · exact .inr (.inl (Nat.le_trans h.size h1))
    · by_cases hl : o < os.length
      · rcases h.mu o hl with h2 | h2
        · exact .inr (.inr ⟨o, hl, by rw [← h2]; exact h1⟩)
        · exact .inr (.inl (by rw [← h1]; exact h2))
      · exact .inr (.inl (by rw [← h1]; exact h.new o (by omega) ho))
  len := Nat.le_trans h.len h'.len
  mu o ho := by
    rcases h'.mu o (Nat.lt_of_lt_of_le ho h.len) with h1 | h1
    · rw [h1]; exact h.mu o ho
    · exact .inr (Nat.le_trans h.size h1)
  new o ho ho' := by
    by_cases hl : o < os'.length
    · rcases h'.mu o hl with h1 | h1
      · rw [h1]; exact h.new o ho hl
      · exact Nat.le_trans h.size h1
    · exact Nat.le_trans h.size (h'.new o (by omega) ho')
  obj o x hx := by
    obtain ⟨y, hy, h1⟩ := h.obj o x hx
    obtain ⟨z, hz, h2⟩ := h'.obj o y hy
    exact ⟨z, hz, h1.trans h2⟩
  frame b hb hne := by
    rw [h'.frame b (Nat.lt_of_lt_of_le hb h.size) ?_, h.frame b hb hne]
    intro o ho
    by_cases hl : o < os.length
    · rcases h.mu o hl with h1 | h1
      · rw [h1]; exact hne o hl
      · omega
    · have := h.new o (by omega) ho
      omega
  frz a := (h'.frz a).trans (h.frz a)

theorem get_lt {α : Type} {l : List α} {i : Nat} {x : α} (h : l[i]? = some x) : i < l.length := by
  rcases Nat.lt_or_ge i l.length with h' | h'
  · exact h'
  · simp [List.getElem?_eq_none h'] at h

theorem F2.imp {α β : Type} {R S : α → β → Prop} {l : List α} {l' : List β} (h : F2 R l l') (hi : ∀ a b, R a b → S a b) : F2 S l l' := by
  induction h with
  | nil => exact .nil
  | cons h _ ih => exact .cons (hi _ _ h) ih

section
variable {os os' : List TO} {w w' : World} {g g' : G} (hI : ∀ b i, g.I b i → g'.I b i ∧ ca w' b i = ca w b i)
  (hO : ∀ (o : Nat) (x : TO), os[o]? = some x → ∃ x', os'[o]? = some x' ∧ OExt g g' o x x')

include hO in
theorem SlRep.mono {v : Value} {o off len ver : Nat} {cap : Option Nat} (hs : SlRep g os v o off len ver cap) : SlRep g' os' v o off len ver cap := by
  obtain ⟨a, cap', hv, h1, h2, sz, es, wv, fz, ho, hl, h3⟩ := hs
  obtain ⟨x', hx', hxe⟩ := hO o _ ho
  cases x' <;> simp only [OExt] at hxe
  rename_i sz' es' v' fz'
  obtain ⟨rfl, hle, heq⟩ := hxe
  refine ⟨a, cap', hv, h1, h2, _, _, _, _, hx', by omega, fun e => ?_⟩
  have e2 : wv = ver := by omega
  obtain ⟨e3, e4⟩ := h3 e2
  obtain ⟨m1, m2, m3, m4⟩ := heq (by omega)
  rw [m1, m2, m3, m4]
  exact ⟨e3, e4⟩

include hO in
theorem ApRep.mono {v : Value} {o idx off ver : Nat} (hs : ApRep g os v o idx off ver) : ApRep g' os' v o idx off ver := by
  obtain ⟨p, sz, es, wv, fz, hv, ho, hl, h3⟩ := hs
  obtain ⟨x', hx', hxe⟩ := hO o _ ho
  cases x' <;> simp only [OExt] at hxe
  rename_i sz' es' v' fz'
  obtain ⟨rfl, hle, heq⟩ := hxe
  refine ⟨p, _, _, _, _, hv, hx', by omega, fun e => ?_⟩
  have e2 : wv = ver := by omega
  obtain ⟨e3, e4⟩ := h3 e2
  obtain ⟨m1, m2, m3, m4⟩ := heq (by omega)
  rw [m1, m2, m4]
  exact ⟨e3, e4⟩

include hI hO

theorem CRep0.mono {v : Value} {t : TV} (hr : CRep0 w g os v t) : CRep0 w' g' os' v t := by
  cases t <;> simp only [CRep0] at hr ⊢
  · exact hr.mono hI
  · exact SlRep.mono hO hr
  · obtain ⟨h1, cs, h2⟩ := hr
    obtain ⟨x', hx', hxe⟩ := hO _ _ h2
    cases x' <;> simp only [OExt] at hxe
    exact ⟨by rw [hxe.2]; exact h1, _, hx'⟩
  · obtain ⟨h1, a, es, c, h2⟩ := hr
    obtain ⟨x', hx', hxe⟩ := hO _ _ h2
    cases x' <;> simp only [OExt] at hxe
    exact ⟨by rw [hxe.2]; exact h1, _, _, _, hx'⟩

theorem CRep.mono {v : Value} {t : TV} (hr : CRep w g os v t) : CRep w' g' os' v t := by
  cases t with
  | fn f cs =>
    obtain ⟨vs, h1, h2⟩ := hr
    exact ⟨vs, h1, h2.imp fun _ _ => CRep0.mono hI hO⟩
  | _ => rw [CRep.eq0 (by simp)] at hr ⊢; exact CRep0.mono hI hO hr

theorem PRep.mono {v : Value} {t : TV} (hr : PRep w g os v t) : PRep w' g' os' v t := by
  cases t with
  | agg cs =>
    obtain ⟨vs, h1, h2⟩ := hr
    exact ⟨vs, h1, h2.imp fun _ _ => CRep.mono hI hO⟩
  | _ => rw [PRep.eqC (by simp)] at hr ⊢; exact CRep.mono hI hO hr

theorem TRep.mono {v : Value} {t : TV} (hr : TRep w g os v t) : TRep w' g' os' v t := by
  cases t with
  | tup ts =>
    obtain ⟨vs, h1, h2⟩ := hr
    exact ⟨vs, h1, h2.imp fun _ _ => PRep.mono hI hO⟩
  | ep cs off =>
    obtain ⟨b, p, h1, h2⟩ := hr
    exact ⟨b, p, h1, h2.mono hI⟩
  | ap o idx off ver => exact ApRep.mono hO hr
  | und => trivial
  | _ => rw [TRep.eqP (by simp) (by simp) (by simp) (by simp)] at hr ⊢; exact PRep.mono hI hO hr
end

theorem EntRep.mono {w w' : World} {I I' : Nat → Nat → Prop} (hI : ∀ b i, I b i → I' b i ∧ ca w' b i = ca w b i) {ag : Bool} {e : MapEntry} {t : Value × List RV × Nat} (hr : EntRep w I ag e t) : EntRep w' I' ag e t := by
  obtain ⟨h1, h2, h3⟩ := hr
  refine ⟨h1, h2, ?_⟩
  cases ag
  · obtain ⟨x, h4, h5⟩ := h3
    exact ⟨x, h4, h5.mono hI⟩
  · obtain ⟨x, h4, h5⟩ := h3
    exact ⟨x, h4, h5.imp fun _ _ => (·.mono hI)⟩

/-- An object's standing for its block, where the block has stayed. -/
theorem ORep.mono {os os' : List TO} {w w' : World} {g g' : G} (hI : ∀ b i, g.I b i → g'.I b i ∧ ca w' b i = ca w b i)
    (hO : ∀ (o : Nat) (x : TO), os[o]? = some x → ∃ x', os'[o]? = some x' ∧ OExt g g' o x x') {o : Nat} {x : TO}
    (hb : w'.heap[g.mu o]? = w.heap[g.mu o]?) (hm : g'.mu o = g.mu o) (hs : g'.sh o = g.sh o) (hr : g'.room o = g.room o) (hn : ∀ i, g'.I (g.mu o) i → g.I (g.mu o) i)
    (h : ORep w g os o x) : ORep w' g' os' o x := by
  cases x with
  | box cs =>
    obtain ⟨C, e, h1, h2, h3⟩ := h
    exact ⟨C, e, by rw [hm, hb]; exact h1, h2.imp fun _ _ => CRep.mono hI hO, fun i hi => h3 i (hn i (by rw [← hm]; exact hi))⟩
  | arr sz es ver frz =>
    obtain ⟨C, e, h1, h2, h3, h4, h5, h6, h7⟩ := h
    refine ⟨C, e, by rw [hm, hb]; exact h1, by rw [hr]; exact h2, by rw [hs]; exact h3, h4, fun i e j x he hx => ?_, fun k hk => ?_, h7⟩
    · obtain ⟨v, h8, h9⟩ := h5 i e j x he hx
      exact ⟨v, by rw [hs]; exact h8, h9.mono hI⟩
    · rw [hs]
      exact h6 k (hn k (by rw [← hm]; exact hk))
  | map a es c =>
    obtain ⟨E, h1, h2, h3⟩ := h
    exact ⟨E, by rw [hm, hb]; exact h1, h2.imp fun _ _ => EntRep.mono hI, fun i hi => h3 i (hn i (by rw [← hm]; exact hi))⟩

theorem frz_off {w w' : World} {B : Nat} (hb : ∀ b, b ≠ B → w'.heap[b]? = w.heap[b]?) (h1 : ∀ a : Addr, a.block = B → w.frozen? a = false) (h2 : ∀ a : Addr, a.block = B → w'.frozen? a = false) (a : Addr) : w'.frozen? a = w.frozen? a := by
  by_cases h : a.block = B
  · rw [h1 a h, h2 a h]
  · simp only [World.frozen?, hb _ h]

theorem ORep.nofrz {w : World} {g : G} {os : List TO} {o : Nat} {x : TO} (h : ORep w g os o x) (a : Addr) (ha : a.block = g.mu o) : w.frozen? a = false := by
  cases x
  · obtain ⟨C, e, h1, _⟩ := h; simp [World.frozen?, ha, h1]
  · obtain ⟨C, e, h1, _⟩ := h; simp [World.frozen?, ha, h1]
  · obtain ⟨E, h1, _⟩ := h; simp [World.frozen?, ha, h1]

theorem ORep.lt {w : World} {g : G} {os : List TO} {o : Nat} {x : TO} (h : ORep w g os o x) : g.mu o < w.heap.size := by
  have : ∃ y, w.heap[g.mu o]? = some y := by
    cases x
    · obtain ⟨C, e, h1, _⟩ := h; exact ⟨_, h1⟩
    · obtain ⟨C, e, h1, _⟩ := h; exact ⟨_, h1⟩
    · obtain ⟨E, h1, _⟩ := h; exact ⟨_, h1⟩
  obtain ⟨y, hy⟩ := this
  rcases Nat.lt_or_ge (g.mu o) w.heap.size with h' | h'
  · exact h'
  · simp [Array.getElem?_eq_none h'] at hy

theorem SRep.mu_lt {w : World} {g : G} {os : List TO} (h : SRep w g os) {o : Nat} (ho : o < os.length) : g.mu o < w.heap.size :=
  (h.obj o _ (List.getElem?_eq_getElem ho)).lt

theorem ca_lt {w : World} {b i : Nat} {v : Value} (h : ca w b i = some v) : b < w.heap.size := by
  rcases Nat.lt_or_ge b w.heap.size with h' | h'
  · exact h'
  · simp [ca, World.cell?, Array.getElem?_eq_none h'] at h

theorem SRep.imm_lt {w : World} {g : G} {os : List TO} (h : SRep w g os) {b i : Nat} (hi : g.I b i) : b < w.heap.size := by
  have := h.imm b i hi
  cases hc : ca w b i with
  | none => rw [hc] at this; cases this
  | some v => exact ca_lt hc

theorem ca_of_heap {w w' : World} {b : Nat} (h : w'.heap[b]? = w.heap[b]?) (i : Nat) : ca w' b i = ca w b i := by
  simp only [ca, World.cell?, h]

/-- The world has changed beside all that is told of. -/
theorem SRep.world {w w' : World} {g : G} {os : List TO} (h : SRep w g os) (hI : ∀ b i, g.I b i → ca w' b i = ca w b i) (hm : ∀ o, o < os.length → w'.heap[g.mu o]? = w.heap[g.mu o]?) : SRep w' g os where
  obj o x hx := (h.obj o x hx).mono (fun b i hi => ⟨hi, hI b i hi⟩) (fun o x hx => ⟨x, hx, .refl g o x⟩) (hm o (get_lt hx)) rfl rfl rfl (fun _ h => h)
  inj := h.inj
  imm b i hi := by rw [hI b i hi]; exact h.imm b i hi

end Go.TL
/- The temporaries of a frame stand for the interpreter's. -/
namespace Go.TL

def Tr.has : Tr → Nat → Bool
  | .e, _ => false
  | .nd _ _ _, 0 => true
  | .nd _ l r, i + 1 => cond (Nat.beq (i % 2) 0) (l.has (i / 2)) (r.has (i / 2))

theorem Tr.get_set_eq (v : TV) : ∀ (t : Tr) (d : Nat), t.has d = true → (t.set d v).get d = v
  | .e, _, h => by simp [Tr.has] at h
  | .nd _ _ _, 0, _ => rfl
  | .nd x l r, i + 1, h => by
    simp only [Tr.has, Tr.set] at h ⊢
    cases hb : Nat.beq (i % 2) 0
    · simp only [hb, cond_false] at h ⊢
      simp only [Tr.get, hb, cond_false]
      exact Tr.get_set_eq v r _ h
    · simp only [hb, cond_true] at h ⊢
      simp only [Tr.get, hb, cond_true]
      exact Tr.get_set_eq v l _ h

theorem half_inj {i j : Nat} (h : i % 2 = j % 2) (h' : i / 2 = j / 2) : i = j := by omega

theorem Tr.get_set_ne (v : TV) : ∀ (t : Tr) (d e : Nat), d ≠ e → (t.set d v).get e = t.get e
  | .e, _, _, _ => rfl
  | .nd _ _ _, 0, 0, h => absurd rfl h
  | .nd _ _ _, 0, _ + 1, _ => rfl
  | .nd x l r, i + 1, 0, _ => by
    simp only [Tr.set]
    cases Nat.beq (i % 2) 0 <;> rfl
  | .nd x l r, i + 1, j + 1, h => by
    simp only [Tr.set]
    cases hb : Nat.beq (i % 2) 0 <;> simp only [cond_false, cond_true, Tr.get] <;> cases hc : Nat.beq (j % 2) 0 <;> simp only [cond_false, cond_true]
    · refine Tr.get_set_ne v r _ _ fun he => h ?_
      have h1 : i % 2 ≠ 0 := fun h => by rw [h] at hb; simp at hb
      have h2 : j % 2 ≠ 0 := fun h => by rw [h] at hc; simp at hc
      exact congrArg (· + 1) (half_inj (by omega) he)
    · refine Tr.get_set_ne v l _ _ fun he => h ?_
      have h1 : i % 2 = 0 := Nat.eq_of_beq_eq_true hb
      have h2 : j % 2 = 0 := Nat.eq_of_beq_eq_true hc
      exact congrArg (· + 1) (half_inj (by omega) he)

theorem Tr.has_set (v : TV) : ∀ (t : Tr) (d e : Nat), (t.set d v).has e = t.has e
  | .e, _, _ => rfl
  | .nd _ _ _, 0, 0 => rfl
  | .nd _ _ _, 0, _ + 1 => rfl
  | .nd x l r, i + 1, 0 => by
    simp only [Tr.set]
    cases Nat.beq (i % 2) 0 <;> rfl
  | .nd x l r, i + 1, j + 1 => by
    simp only [Tr.set]
    cases Nat.beq (i % 2) 0 <;> simp only [cond_false, cond_true, Tr.has] <;> cases Nat.beq (j % 2) 0 <;> simp only [cond_false, cond_true] <;> exact Tr.has_set v _ _ _

theorem Tr.get_none : ∀ (t : Tr) (d : Nat), t.has d = false → t.get d = .und
  | .e, _, _ => rfl
  | .nd _ _ _, 0, h => by simp [Tr.has] at h
  | .nd x l r, i + 1, h => by
    simp only [Tr.has, Tr.get] at h ⊢
    cases hb : Nat.beq (i % 2) 0
    · simp only [hb, cond_false] at h ⊢; exact Tr.get_none r _ h
    · simp only [hb, cond_true] at h ⊢; exact Tr.get_none l _ h

theorem Tr.get_set (v : TV) (t : Tr) (d e : Nat) : (t.set d v).get e = if d = e then (if t.has d then v else .und) else t.get e := by
  by_cases h : d = e
  · subst h
    rw [if_pos rfl]
    cases hd : t.has d
    · rw [if_neg (by simp)]
      exact Tr.get_none _ _ (by rw [Tr.has_set]; exact hd)
    · rw [if_pos rfl]; exact Tr.get_set_eq v t d hd
  · rw [if_neg h]; exact Tr.get_set_ne v t d e h

theorem Tr.mk_has : ∀ (k n d : Nat), (Tr.mk k n).has d = true → d < n
  | 0, _, _, h => by simp [Tr.mk, Tr.has] at h
  | _ + 1, 0, _, h => by simp [Tr.mk, Tr.has] at h
  | k + 1, n + 1, 0, _ => by omega
  | k + 1, n + 1, d + 1, h => by
    simp only [Tr.mk, Tr.has] at h
    cases hb : Nat.beq (d % 2) 0
    · simp only [hb, cond_false] at h
      have h1 : d % 2 ≠ 0 := fun h => by rw [h] at hb; simp at hb
      have := Tr.mk_has k _ _ h
      omega
    · simp only [hb, cond_true] at h
      have h1 : d % 2 = 0 := Nat.eq_of_beq_eq_true hb
      have := Tr.mk_has k _ _ h
      omega

def LvRep (w : World) (g : G) (os : List TO) (B : Nat) (cs : List TV) : Prop :=
  ∃ C e, w.heap[B]? = some (.cells C e (0, 0)) ∧ F2 (CRep w g os) C.toList cs ∧ ∀ i, ¬ g.I B i

def SlotRep (w : World) (g : G) (os : List TO) (b0 : Nat) (fr : Tr) (lv : Nat → Nat) (d : Nat) (v : Value) : TV → Prop
  | .lv cs => v = .pointer (some ⟨lv d, 0, none⟩) ∧ LvRep w g os (lv d) cs ∧ b0 ≤ lv d
  | .fp e off => v = .pointer (some ⟨lv e, off, none⟩) ∧ ∃ cs, fr.get e = .lv cs
  | t => TRep w g os v t

structure FRep (w : World) (g : G) (os : List TO) (b0 : Nat) (loc : List Nat) (ops : List Oper) (fr : Tr) (tmps : Array Value) (lv : Nat → Nat) : Prop where
  val : ∀ d, SlotRep w g os b0 fr lv d (tmps.getD d undef) (fr.get d)
  inj : ∀ d d' cs cs', fr.get d = .lv cs → fr.get d' = .lv cs' → lv d = lv d' → d = d'
  out : ∀ d cs, fr.get d = .lv cs → ∀ o, o < os.length → g.mu o ≠ lv d
  has : ∀ d, fr.has d = true → d < tmps.size
  loc : ∀ d cs, fr.get d = .lv cs → loc.contains d = true
  fps : ∀ e d off, fr.get e = .fp d off → ∃ o, o ∈ ops ∧ o.dst = some e ∧ fpKind o.op = true

/-- What an operand stands for. -/
def OpRep (w : World) (g : G) (os : List TO) (fr : Tr) (lv : Nat → Nat) (v : Value) : TV → Prop
  | .fp d off => v = .pointer (some ⟨lv d, off, none⟩) ∧ ∃ cs, fr.get d = .lv cs
  | .lv _ => False
  | t => TRep w g os v t

theorem SlotRep.eqT {w : World} {g : G} {os : List TO} {b0 : Nat} {fr : Tr} {lv : Nat → Nat} {d : Nat} {v : Value} {t : TV} (h1 : ∀ cs, t ≠ .lv cs) (h2 : ∀ e off, t ≠ .fp e off) : SlotRep w g os b0 fr lv d v t = TRep w g os v t := by
  cases t <;> first | rfl | exact absurd rfl (h1 _) | exact absurd rfl (h2 _ _)
theorem OpRep.eqT {w : World} {g : G} {os : List TO} {fr : Tr} {lv : Nat → Nat} {v : Value} {t : TV} (h1 : ∀ cs, t ≠ .lv cs) (h2 : ∀ e off, t ≠ .fp e off) : OpRep w g os fr lv v t = TRep w g os v t := by
  cases t <;> first | rfl | exact absurd rfl (h1 _) | exact absurd rfl (h2 _ _)

theorem F2.map_sc {w : World} {g : G} {os : List TO} : ∀ vs : List Value, F2 (CRep w g os) vs (vs.map fun c => TV.r (.sc c))
  | [] => .nil
  | v :: vs => .cons (RRep.sc v) (F2.map_sc vs)

theorem inj_rep (w : World) (g : G) (os : List TO) (v : Value) : TRep w g os v (inj v) := by
  cases v with
  | agg cs => exact ⟨cs.toList, by simp, F2.map_sc _⟩
  | tuple cs =>
    refine ⟨cs.toList, by simp, ?_⟩
    generalize cs.toList = l
    induction l with
    | nil => exact .nil
    | cons c l ih =>
      refine .cons ?_ ih
      cases c <;> first
        | exact RRep.sc _
        | (rename_i ds; exact ⟨ds.toList, by simp, F2.map_sc _⟩)
  | func fn a b =>
    cases fn <;> first
      | exact RRep.sc _
      | (simp only [inj]
         cases h : (a.isEmpty && b.isEmpty)
         · exact RRep.sc _
         · simp only [cond_true, Bool.and_eq_true, Array.isEmpty_iff] at h ⊢
           exact ⟨[], by rw [h.1, h.2], .nil⟩)
  | _ => exact RRep.sc _

theorem inj_notfp (v : Value) : (∀ d off, inj v ≠ .fp d off) ∧ ∀ cs, inj v ≠ .lv cs := by
  cases v <;> simp [inj]
  rename_i fn a b
  cases fn <;> simp
  cases h : (a.isEmpty && b.isEmpty) <;> simp

theorem OpRep.of {w : World} {g : G} {os : List TO} {fr : Tr} {lv : Nat → Nat} {v : Value} {t : TV} (h1 : ∀ d off, t ≠ .fp d off) (h2 : ∀ cs, t ≠ .lv cs) (h : TRep w g os v t) : OpRep w g os fr lv v t := by
  cases t <;> first | exact h | exact absurd rfl (h1 _ _) | exact absurd rfl (h2 _)

theorem OpRep.to {w : World} {g : G} {os : List TO} {fr : Tr} {lv : Nat → Nat} {v : Value} {t : TV} (h1 : ∀ d off, t ≠ .fp d off) (h : OpRep w g os fr lv v t) : TRep w g os v t := by
  cases t <;> first | exact h | exact absurd rfl (h1 _ _) | exact h.elim

section
variable {w : World} {g : G} {os : List TO} {b0 : Nat} {loc : List Nat} {ops : List Oper} {fr : Tr} {a : Act} {lv : Nat → Nat}

theorem FRep.operand (h : FRep w g os b0 loc ops fr a.tmps lv) (x : Operand) : OpRep w g os fr lv (a.eval x) (operand fr x) := by
  cases x with
  | tmp t =>
    have hv := h.val t
    show OpRep w g os fr lv (a.tmps.getD t undef) (match fr.get t with | .lv _ => .fp t 0 | v => v)
    cases hg : fr.get t <;> rw [hg] at hv <;> first
      | exact hv
      | (exact ⟨hv.1, _, hg⟩)
  | const v => exact .of (inj_notfp v).1 (inj_notfp v).2 (inj_rep w g os v)
  | global n => exact trivial
  | func f => exact ⟨[], rfl, .nil⟩

theorem SlotRep.of_op {d : Nat} {v : Value} {t : TV} (h : OpRep w g os fr lv v t) : SlotRep w g os b0 fr lv d v t := by
  cases t <;> first | exact h | exact h.elim

/-- What a slot stands for is looked at through the frame only where it is an address into a variable of the frame's own. -/
theorem SlotRep.frame {fr' : Tr} {lv' : Nat → Nat} {d : Nat} {v : Value} {t : TV} (h1 : ∀ cs, t = .lv cs → lv' d = lv d)
    (h2 : ∀ e off, t = .fp e off → lv' e = lv e ∧ ∃ cs, fr'.get e = .lv cs) (h : SlotRep w g os b0 fr lv d v t) : SlotRep w g os b0 fr' lv' d v t := by
  cases t <;> first
    | exact h
    | (obtain ⟨h3, h4⟩ := h2 _ _ rfl; exact ⟨by rw [h3]; exact h.1, h4⟩)
    | (have h3 := h1 _ rfl; simp only [SlotRep] at h ⊢; rw [h3]; exact h)

theorem noFp_spec {d : Nat} : ∀ {l : List Oper}, noFp fr d l = true → ∀ o, o ∈ l → ∀ e, o.dst = some e → ∀ d' off, fr.get e = .fp d' off → d ≠ d'
  | [], _, _, hm, _, _, _, _, _ => by cases hm
  | o :: os, h, o', hm, e, he, d', off, hf => by
    simp only [noFp, Bool.and_eq_true] at h
    cases hm with
    | head =>
      have h1 := h.1
      rw [he] at h1
      simp only [hf] at h1
      intro heq
      rw [heq] at h1
      simp at h1
    | tail _ hm => exact noFp_spec h.2 o' hm e he d' off hf

theorem getD_set (tmps : Array Value) (d e : Nat) (v : Value) : (tmps.setIfInBounds d v).getD e undef = if d = e ∧ d < tmps.size then v else tmps.getD e undef := by
  simp only [Array.getD_eq_getD_getElem?, Array.getElem?_setIfInBounds]
  by_cases h : d = e
  · subst h
    by_cases h' : d < tmps.size
    · simp [h']
    · simp [h']
  · simp [h]

/-- A temporary is written (not with a variable of the frame's own). -/
theorem FRep.put (h : FRep w g os b0 loc ops fr a.tmps lv) {dst : Option Tmp} {v : Value} {t : TV} (ht : OpRep w g os fr lv v t) (hok : putOk loc ops.toArray fr dst t = true)
    (hfp : ∀ d, dst = some d → isFp t = true → ∃ o, o ∈ ops ∧ o.dst = some d ∧ fpKind o.op = true) : FRep w g os b0 loc ops (putT fr dst t) (a.put dst v).tmps lv := by
  cases dst with
  | none => exact h
  | some d =>
    have hnlv : ∀ cs, t ≠ .lv cs := fun cs he => by subst he; exact ht
    have hno : ∀ cs, fr.get d = .lv cs → (∀ e d' off, fr.get e = .fp d' off → d ≠ d') ∧ ∀ d' off, t ≠ .fp d' off := by
      intro cs hd
      have h1 := h.loc d cs hd
      simp only [putOk, h1, cond_true, Bool.and_eq_true] at hok
      refine ⟨fun e d' off he => ?_, fun d' off he => by subst he; simp [isFp] at hok⟩
      obtain ⟨o, ho, hoe, _⟩ := h.fps e d' off he
      exact noFp_spec hok.2 o (by simpa using ho) e hoe d' off he
    have hg : ∀ e, (fr.set d t).get e = if d = e then (if fr.has d then t else .und) else fr.get e := Tr.get_set t fr d
    have hlv : ∀ e cs, (fr.set d t).get e = .lv cs → d ≠ e ∧ fr.get e = .lv cs := by
      intro e cs he
      rw [hg] at he
      by_cases hde : d = e
      · rw [if_pos hde] at he
        split at he
        · exact absurd he (hnlv cs)
        · cases he
      · rw [if_neg hde] at he; exact ⟨hde, he⟩
    -- an address that stands leads to a variable that stands
    have hkeep : ∀ e cs, fr.get e = .lv cs → d ≠ e → (fr.set d t).get e = .lv cs := fun e cs he hne => by rw [hg, if_neg hne]; exact he
    have hfd : ∀ e d' off, fr.get e = .fp d' off → d ≠ e → ∃ cs, (fr.set d t).get d' = .lv cs := by
      intro e d' off he hne
      have hv := h.val e
      rw [he] at hv
      obtain ⟨_, cs, hcs⟩ := hv
      refine ⟨cs, hkeep d' cs hcs fun hdd => ?_⟩
      subst hdd
      exact (hno cs hcs).1 e _ off he rfl
    refine ⟨fun e => ?_, fun e e' cs cs' h1 h2 => h.inj e e' cs cs' (hlv e cs h1).2 (hlv e' cs' h2).2, fun e cs h1 => h.out e cs (hlv e cs h1).2, fun e he => ?_, fun e cs h1 => h.loc e cs (hlv e cs h1).2, fun e d' off he => ?_⟩
    · show SlotRep w g os b0 (fr.set d t) lv e ((a.tmps.setIfInBounds d v).getD e undef) ((fr.set d t).get e)
      rw [getD_set, hg]
      by_cases hde : d = e
      · subst hde
        cases hh : fr.has d
        · simp only [if_true, Bool.false_eq_true, if_false]
          exact trivial
        · have hlt := h.has d hh
          rw [if_pos ⟨rfl, hlt⟩, if_pos rfl, if_pos rfl]
          refine SlotRep.frame (fun cs he => absurd he (hnlv cs)) (fun d' off he => ⟨rfl, ?_⟩) (SlotRep.of_op (b0 := b0) (d := d) ht)
          subst he
          obtain ⟨_, cs, hcs⟩ := ht
          refine ⟨cs, hkeep d' cs hcs fun hdd => ?_⟩
          subst hdd
          exact (hno cs hcs).2 _ _ rfl
      · rw [if_neg (fun hh => hde hh.1), if_neg hde]
        exact SlotRep.frame (fun _ _ => rfl) (fun d' off he => ⟨rfl, hfd e d' off he hde⟩) (h.val e)
    · show e < (a.tmps.setIfInBounds d v).size
      rw [Array.size_setIfInBounds]
      exact h.has e (by rw [← Tr.has_set t fr d e]; exact he)
    · have he' : (fr.set d t).get e = .fp d' off := he
      rw [hg] at he'
      by_cases hde : d = e
      · rw [if_pos hde] at he'
        split at he'
        · obtain ⟨o, ho, hd⟩ := hfp d rfl (by rw [he']; rfl)
          exact ⟨o, ho, by rw [← hde]; exact hd⟩
        · cases he'
      · rw [if_neg hde] at he'
        exact h.fps e d' off he'

theorem LvRep.ext {w' : World} {g' : G} {os' : List TO} (hI : ∀ b i, g.I b i → g'.I b i ∧ ca w' b i = ca w b i)
    (hO : ∀ (o : Nat) (x : TO), os[o]? = some x → ∃ x', os'[o]? = some x' ∧ OExt g g' o x x') {B : Nat} {cs : List TV}
    (hb : w'.heap[B]? = w.heap[B]?) (hn : ∀ i, g'.I B i → g.I B i) (h : LvRep w g os B cs) : LvRep w' g' os' B cs := by
  obtain ⟨C, e, h1, h2, h3⟩ := h
  exact ⟨C, e, by rw [hb]; exact h1, h2.imp fun _ _ => CRep.mono hI hO, fun i hi => h3 i (hn i hi)⟩

theorem SlotRep.ext {w' : World} {g' : G} {os' : List TO} (hI : ∀ b i, g.I b i → g'.I b i ∧ ca w' b i = ca w b i)
    (hO : ∀ (o : Nat) (x : TO), os[o]? = some x → ∃ x', os'[o]? = some x' ∧ OExt g g' o x x') {d : Nat} {v : Value} {t : TV}
    (hb : ∀ cs, t = .lv cs → w'.heap[lv d]? = w.heap[lv d]? ∧ ∀ i, g'.I (lv d) i → g.I (lv d) i) (h : SlotRep w g os b0 fr lv d v t) : SlotRep w' g' os' b0 fr lv d v t := by
  cases t with
  | lv cs => exact ⟨h.1, h.2.1.ext hI hO (hb cs rfl).1 (hb cs rfl).2, h.2.2⟩
  | fp e off => exact h
  | _ => rw [SlotRep.eqT (by simp) (by simp)] at h ⊢; exact TRep.mono hI hO h

/-- The world, and what is told of it, has moved on beside the frame's own variables. -/
theorem FRep.ext {w' : World} {g' : G} {os' : List TO} {tmps : Array Value} (h : FRep w g os b0 loc ops fr tmps lv) (hI : ∀ b i, g.I b i → g'.I b i ∧ ca w' b i = ca w b i)
    (hO : ∀ (o : Nat) (x : TO), os[o]? = some x → ∃ x', os'[o]? = some x' ∧ OExt g g' o x x')
    (hb : ∀ d cs, fr.get d = .lv cs → w'.heap[lv d]? = w.heap[lv d]? ∧ ∀ i, g'.I (lv d) i → g.I (lv d) i)
    (ho : ∀ d cs, fr.get d = .lv cs → ∀ o, o < os'.length → g'.mu o ≠ lv d) : FRep w' g' os' b0 loc ops fr tmps lv where
  val d := (h.val d).ext hI hO (fun cs hc => hb d cs hc)
  inj := h.inj
  out := ho
  has := h.has
  loc := h.loc
  fps := h.fps

theorem OpRep.ext {w' : World} {g' : G} {os' : List TO} (hI : ∀ b i, g.I b i → g'.I b i ∧ ca w' b i = ca w b i)
    (hO : ∀ (o : Nat) (x : TO), os[o]? = some x → ∃ x', os'[o]? = some x' ∧ OExt g g' o x x') {v : Value} {t : TV} (h : OpRep w g os fr lv v t) : OpRep w' g' os' fr lv v t := by
  cases t with
  | fp d off => exact h
  | lv cs => exact h.elim
  | _ => rw [OpRep.eqT (by simp) (by simp)] at h ⊢; exact TRep.mono hI hO h

theorem FRep.lv_lt {tmps : Array Value} (h : FRep w g os b0 loc ops fr tmps lv) {d : Nat} {cs : List TV} (hd : fr.get d = .lv cs) : lv d < w.heap.size := by
  have hv := h.val d
  rw [hd] at hv
  obtain ⟨_, ⟨C, e, h1, _⟩, _⟩ := hv
  rcases Nat.lt_or_ge (lv d) w.heap.size with h' | h'
  · exact h'
  · simp [Array.getElem?_eq_none h'] at h1

/-- A variable of the frame's own is made. -/
theorem FRep.putLv (h : FRep w g os b0 loc ops fr a.tmps lv) {d B : Nat} {cs : List TV} (hB : w.heap.size ≤ B ∨ ∀ e cs, fr.get e = .lv cs → lv e ≠ B) (hb0 : b0 ≤ B)
    (hmu : ∀ o, o < os.length → g.mu o ≠ B) (hl : LvRep w g os B cs) (hok : putOk loc ops.toArray fr (some d) (.lv cs) = true) :
    FRep w g os b0 loc ops (fr.set d (.lv cs)) (a.put (some d) (.pointer (some ⟨B, 0, none⟩))).tmps (fun e => if e = d then B else lv e) := by
  have hlc : loc.contains d = true := by
    cases hc : loc.contains d
    · simp only [putOk, hc, cond_false] at hok; simp [isLv] at hok
    · rfl
  have hnf : noFp fr d ops = true := by
    simp only [putOk, hlc, cond_true, Bool.and_eq_true] at hok
    simpa using hok.2
  have hno : ∀ e d' off, fr.get e = .fp d' off → d ≠ d' := by
    intro e d' off he
    obtain ⟨o, ho, hoe, _⟩ := h.fps e d' off he
    exact noFp_spec hnf o ho e hoe d' off he
  have hne : ∀ e cs, fr.get e = .lv cs → lv e ≠ B := by
    rcases hB with hB | hB
    · intro e cs he
      have := h.lv_lt he
      omega
    · exact hB
  have hg : ∀ e, (fr.set d (.lv cs)).get e = if d = e then (if fr.has d then .lv cs else .und) else fr.get e := Tr.get_set _ fr d
  have hlv : ∀ e cs', (fr.set d (.lv cs)).get e = .lv cs' → (e = d ∧ fr.has d = true ∧ cs' = cs) ∨ (e ≠ d ∧ fr.get e = .lv cs') := by
    intro e cs' he
    rw [hg] at he
    by_cases hde : d = e
    · rw [if_pos hde] at he
      cases hh : fr.has d <;> rw [hh] at he <;> simp at he
      exact .inl ⟨hde.symm, rfl, he.symm⟩
    · rw [if_neg hde] at he; exact .inr ⟨fun h => hde h.symm, he⟩
  refine ⟨fun e => ?_, fun e e' c1 c2 h1 h2 heq => ?_, fun e c1 h1 o ho => ?_, fun e he => ?_, fun e c1 h1 => ?_, fun e d' off he => ?_⟩
  · show SlotRep w g os b0 (fr.set d (.lv cs)) _ e ((a.tmps.setIfInBounds d _).getD e undef) ((fr.set d (.lv cs)).get e)
    rw [getD_set, hg]
    by_cases hde : d = e
    · subst hde
      cases hh : fr.has d
      · simp only [if_true, Bool.false_eq_true, if_false]
        exact trivial
      · have hlt := h.has d hh
        rw [if_pos ⟨rfl, hlt⟩, if_pos rfl, if_pos rfl]
        exact ⟨by simp, by simpa using hl, by simpa using hb0⟩
    · rw [if_neg (fun hh => hde hh.1), if_neg hde]
      refine SlotRep.frame (fun _ _ => by simp [Ne.symm hde]) (fun d' off he => ?_) (h.val e)
      have hdd := hno e d' off he
      refine ⟨by simp [Ne.symm hdd], ?_⟩
      have hv := h.val e
      rw [he] at hv
      obtain ⟨_, c1, hc1⟩ := hv
      exact ⟨c1, by rw [hg, if_neg hdd]; exact hc1⟩
  · rcases hlv e c1 h1 with ⟨rfl, _, _⟩ | ⟨n1, h1'⟩ <;> rcases hlv e' c2 h2 with ⟨rfl, _, _⟩ | ⟨n2, h2'⟩
    · rfl
    · simp only [if_true, if_neg n2] at heq
      exact absurd heq.symm (hne e' _ h2')
    · simp only [if_true, if_neg n1] at heq
      exact absurd heq (hne e _ h1')
    · simp only [if_neg n1, if_neg n2] at heq
      exact h.inj e e' _ _ h1' h2' heq
  · rcases hlv e c1 h1 with ⟨rfl, _, _⟩ | ⟨n1, h1'⟩
    · simpa using hmu o ho
    · simp only [if_neg n1]
      exact h.out e _ h1' o ho
  · show e < (a.tmps.setIfInBounds d _).size
    rw [Array.size_setIfInBounds]
    exact h.has e (by rw [← Tr.has_set (.lv cs) fr d e]; exact he)
  · rcases hlv e c1 h1 with ⟨rfl, _, _⟩ | ⟨n1, h1'⟩
    · exact hlc
    · exact h.loc e _ h1'
  · rw [hg] at he
    by_cases hde : d = e
    · rw [if_pos hde] at he
      split at he <;> cases he
    · rw [if_neg hde] at he
      exact h.fps e d' off he

/-- A variable of the frame's own is written: the world has moved on at its block alone. -/
theorem FRep.setLv {w' : World} {tmps : Array Value} (h : FRep w g os b0 loc ops fr tmps lv) {d : Nat} {cs cs' : List TV} (hd : fr.get d = .lv cs)
    (hI : ∀ b i, g.I b i → ca w' b i = ca w b i) (hb : ∀ b, b ≠ lv d → w'.heap[b]? = w.heap[b]?) (hl : LvRep w' g os (lv d) cs') :
    FRep w' g os b0 loc ops (fr.set d (.lv cs')) tmps lv := by
  have hI' : ∀ b i, g.I b i → g.I b i ∧ ca w' b i = ca w b i := fun b i hi => ⟨hi, hI b i hi⟩
  have hO : ∀ (o : Nat) (x : TO), os[o]? = some x → ∃ x', os[o]? = some x' ∧ OExt g g o x x' := fun o x hx => ⟨x, hx, .refl g o x⟩
  have hhas : fr.has d = true := by
    cases hh : fr.has d
    · rw [Tr.get_none fr d hh] at hd; cases hd
    · rfl
  have hg : ∀ e, (fr.set d (.lv cs')).get e = if d = e then .lv cs' else fr.get e := by
    intro e; rw [Tr.get_set, hhas]; simp
  have hlv : ∀ e c1, (fr.set d (.lv cs')).get e = .lv c1 → ∃ c2, fr.get e = .lv c2 := by
    intro e c1 he
    rw [hg] at he
    by_cases hde : d = e
    · subst hde; exact ⟨cs, hd⟩
    · rw [if_neg hde] at he; exact ⟨_, he⟩
  refine ⟨fun e => ?_, fun e e' c1 c2 h1 h2 heq => ?_, fun e c1 h1 o ho => ?_, fun e he => ?_, fun e c1 h1 => ?_, fun e d' off he => ?_⟩
  · rw [hg]
    by_cases hde : d = e
    · subst hde
      rw [if_pos rfl]
      have hv := h.val d
      rw [hd] at hv
      exact ⟨hv.1, hl, hv.2.2⟩
    · rw [if_neg hde]
      have hv : SlotRep w' g os b0 fr lv e (tmps.getD e undef) (fr.get e) := by
        refine (h.val e).ext hI' hO (fun c1 hc1 => ⟨hb _ fun heq => hde (h.inj d e _ _ hd hc1 heq.symm), fun _ h => h⟩)
      refine SlotRep.frame (fun _ _ => rfl) (fun d' off he => ⟨rfl, ?_⟩) hv
      have hv := h.val e
      rw [he] at hv
      obtain ⟨_, c1, hc1⟩ := hv
      by_cases hdd : d = d'
      · exact ⟨cs', by rw [hg, if_pos hdd]⟩
      · exact ⟨c1, by rw [hg, if_neg hdd]; exact hc1⟩
  · obtain ⟨x1, y1⟩ := hlv e c1 h1
    obtain ⟨x2, y2⟩ := hlv e' c2 h2
    exact h.inj e e' _ _ y1 y2 heq
  · obtain ⟨x1, y1⟩ := hlv e c1 h1
    exact h.out e _ y1 o ho
  · exact h.has e (by rw [← Tr.has_set (.lv cs') fr d e]; exact he)
  · obtain ⟨x1, y1⟩ := hlv e c1 h1
    exact h.loc e _ y1
  · rw [hg] at he
    by_cases hde : d = e
    · rw [if_pos hde] at he; cases he
    · rw [if_neg hde] at he; exact h.fps e d' off he

end
end Go.TL
/- Each operation of the model gives what the interpreter's stands for: those that touch nothing shared. -/
namespace Go.TL

section
variable {P : Program}

theorem pureRun_run {α : Type} {s : Sem α} {x : α} (h : pureRun P s = some x) (w : World) : s.run P w = .ok x w := by
  induction s with
  | pure a => simp only [pureRun, Option.some.injEq] at h; subst h; rfl
  | program k ih => simp only [pureRun] at h; simp only [Sem.run]; exact ih P h
  | mark m k ih => simp only [pureRun] at h; simp only [Sem.run]; exact ih h
  | _ => simp [pureRun] at h

structure TyGood (P : Program) (t : Nat) (i : TyI) (inf : TypeInfo) (u : TypeDesc) (z : Value) : Prop where
  info : P.info? t = some inf
  und : P.underlying t = some u
  izero : inf.zero = some z
  desc : mkTD P u = some i.d
  zero : z.cells.toList = i.zero
  okz : i.zero.all okV = true
  zlen : i.zero.length = i.size
  size : inf.size = i.size
  bytes : inf.bytes = i.bytes
  ag : i.ag = aggD u
  zag : isAggV z = aggD u

theorem mkTy_spec {t : Nat} {i : TyI} (h : mkTy P t = some i) : ∃ inf u z, TyGood P t i inf u z := by
  unfold mkTy at h
  split at h
  · rename_i inf u h1 h2
    split at h
    · rename_i z d h3 h4
      cases hb : (z.cells.toList.all okV && Nat.beq z.cells.toList.length inf.size && (isAggV z == aggD u))
      · rw [hb] at h; simp at h
      · rw [hb] at h
        simp only [cond_true, Option.some.injEq] at h
        simp only [Bool.and_eq_true, beq_iff_eq] at hb
        subst h
        exact ⟨inf, u, z, h1, h2, h3, h4, rfl, hb.1.1, Nat.eq_of_beq_eq_true hb.1.2, rfl, rfl, rfl, hb.2⟩
    · cases h
  · cases h

theorem run_typeInfo {t : Nat} {inf : TypeInfo} (h : P.info? t = some inf) (w : World) : (typeInfo t).run P w = .ok inf w := by
  simp [typeInfo, Sem.run_bind, run_program, h]
theorem run_underlyingT {t : Nat} {u : TypeDesc} (h : P.underlying t = some u) (w : World) : (underlying t).run P w = .ok u w := by
  simp [underlying, Sem.run_bind, run_program, h]
theorem TyGood.run_size {t : Nat} {i : TyI} {inf : TypeInfo} {u : TypeDesc} {z : Value} (h : TyGood P t i inf u z) (w : World) : (sizeOf t).run P w = .ok i.size w := by
  simp [sizeOf, run_typeInfo h.info, h.size]
theorem TyGood.run_zero {t : Nat} {i : TyI} {inf : TypeInfo} {u : TypeDesc} {z : Value} (h : TyGood P t i inf u z) (w : World) : (zeroValue t).run P w = .ok z w := by
  simp [zeroValue, run_typeInfo h.info, h.izero]
theorem TyGood.run_agg {t : Nat} {i : TyI} {inf : TypeInfo} {u : TypeDesc} {z : Value} (h : TyGood P t i inf u z) (w : World) : (Go.isAgg t).run P w = .ok i.ag w := by
  rw [h.ag]
  simp only [Go.isAgg, Sem.run_bind, run_underlyingT h.und, Result.andThen_ok]
  cases u <;> rfl

theorem mkTD_slice {u : TypeDesc} {e : Nat} (h : mkTD P u = some (.slice e)) : u = .slice e := by
  cases u <;> simp [mkTD] at h
  · rw [h]
  · split at h <;> simp at h
theorem mkTD_arr {u : TypeDesc} {n e : Nat} (h : mkTD P u = some (.arr n e)) : u = .array n e := by
  cases u <;> simp [mkTD] at h
  · rw [h.1, h.2]
  · split at h <;> simp at h
theorem mkTD_map {u : TypeDesc} {k e : Nat} (h : mkTD P u = some (.map k e)) : u = .map k e := by
  cases u <;> simp [mkTD] at h
  · rw [h.1, h.2]
  · split at h <;> simp at h
theorem mkTD_str {u : TypeDesc} (h : mkTD P u = some .str) : u = .string := by
  cases u <;> simp [mkTD] at h
  · rfl
  · split at h <;> simp at h
theorem mkTD_bool {u : TypeDesc} (h : mkTD P u = some .bool) : u = .bool := by
  cases u <;> simp [mkTD] at h
  · rfl
  · split at h <;> simp at h
theorem mkTD_int {u : TypeDesc} {k : IntKind} (h : mkTD P u = some (.int k)) : u = .int k := by
  cases u <;> simp [mkTD] at h
  · rw [h]
  · split at h <;> simp at h
theorem mkTD_struct {u : TypeDesc} {fs : List (Nat × Nat × Bool)} (h : mkTD P u = some (.struct fs)) : ∃ F, u = .struct F ∧ mapO (fldInfo P) F.toList = some fs := by
  cases u <;> simp [mkTD] at h
  rename_i F
  split at h
  · simp at h; subst h; exact ⟨F, rfl, by assumption⟩
  · simp at h

theorem mapO_get {α β : Type} {f : α → Option β} : ∀ {l : List α} {l' : List β}, mapO f l = some l' → ∀ (j : Nat) (y : β), l'[j]? = some y → ∃ x, l[j]? = some x ∧ f x = some y
  | [], l', h, j, y, hy => by simp [mapO] at h; subst h; simp at hy
  | x :: xs, l', h, j, y, hy => by
    simp only [mapO] at h
    split at h
    · rename_i y0 ys h1 h2
      simp at h
      subst h
      cases j with
      | zero => simp at hy; subst hy; exact ⟨x, rfl, h1⟩
      | succ j => simp at hy; obtain ⟨x', h3, h4⟩ := mapO_get h2 j y hy; exact ⟨x', by simpa using h3, h4⟩
    · cases h

theorem mapO_len {α β : Type} {f : α → Option β} : ∀ {l : List α} {l' : List β}, mapO f l = some l' → l'.length = l.length
  | [], l', h => by simp [mapO] at h; subst h; rfl
  | x :: xs, l', h => by
    simp only [mapO] at h
    split at h
    · rename_i y0 ys h1 h2
      simp at h; subst h
      simp [mapO_len h2]
    · cases h

/-! ### Standing for, taken apart -/

section
variable {w : World} {g : G} {os : List TO} {fr : Tr} {lv : Nat → Nat} {v : Value}

theorem RRep.sc_eq {I : Nat → Nat → Prop} {x : Value} (h : RRep w I v (.sc x)) : v = x := by cases h; rfl
theorem OpRep.sc {x : Value} (h : OpRep w g os fr lv v (.r (.sc x))) : v = x := RRep.sc_eq h
theorem OpRep.agg {cs : List TV} (h : OpRep w g os fr lv v (.agg cs)) : ∃ vs : List Value, v = .agg vs.toArray ∧ F2 (CRep w g os) vs cs := h
theorem OpRep.tup {ts : List TV} (h : OpRep w g os fr lv v (.tup ts)) : ∃ vs : List Value, v = .tuple vs.toArray ∧ F2 (PRep w g os) vs ts := h

theorem F2.length {α β : Type} {R : α → β → Prop} {l : List α} {l' : List β} (h : F2 R l l') : l.length = l'.length := by
  induction h with
  | nil => rfl
  | cons _ _ ih => simp [ih]
theorem F2.get {α β : Type} {R : α → β → Prop} {l : List α} {l' : List β} (h : F2 R l l') : ∀ (j : Nat) (y : β), l'[j]? = some y → ∃ x, l[j]? = some x ∧ R x y := by
  induction h with
  | nil => intro j y hy; simp at hy
  | cons h _ ih =>
    intro j y hy
    cases j with
    | zero => simp at hy; subst hy; exact ⟨_, rfl, h⟩
    | succ j => simpa using ih j y (by simpa using hy)
theorem F2.drop {α β : Type} {R : α → β → Prop} {l : List α} {l' : List β} (h : F2 R l l') : ∀ n, F2 R (l.drop n) (l'.drop n) := by
  induction h with
  | nil => intro n; simpa using .nil
  | cons h t ih =>
    intro n
    cases n with
    | zero => exact .cons h t
    | succ n => simpa using ih n
theorem F2.take {α β : Type} {R : α → β → Prop} {l : List α} {l' : List β} (h : F2 R l l') : ∀ n, F2 R (l.take n) (l'.take n) := by
  induction h with
  | nil => intro n; simpa using .nil
  | cons h t ih =>
    intro n
    cases n with
    | zero => exact .nil
    | succ n => exact .cons h (ih n)
theorem F2.append {α β : Type} {R : α → β → Prop} {l m : List α} {l' m' : List β} (h : F2 R l l') (h' : F2 R m m') : F2 R (l ++ m) (l' ++ m') := by
  induction h with
  | nil => exact h'
  | cons h _ ih => exact .cons h ih
theorem F2.map_left {α β γ : Type} {R : γ → β → Prop} {f : α → γ} {l : List α} {l' : List β} (h : F2 (fun a b => R (f a) b) l l') : F2 R (l.map f) l' := by
  induction h with
  | nil => exact .nil
  | cons h _ ih => exact .cons h ih
theorem F2.map_right {α β γ : Type} {R : α → γ → Prop} {f : β → γ} {l : List α} {l' : List β} (h : F2 (fun a b => R a (f b)) l l') : F2 R l (l'.map f) := by
  induction h with
  | nil => exact .nil
  | cons h _ ih => exact .cons h ih

theorem toVs_eq : ∀ {cs : List TV} {l : List Value}, toVs cs = some l → cs = l.map fun c => .r (.sc c)
  | [], l, h => by simp [toVs] at h; subst h; rfl
  | c :: cs, l, h => by
    simp only [toVs] at h
    split at h
    · rename_i x xs h1 h2
      simp at h; subst h
      cases c <;> simp [toV1] at h1
      rename_i y
      cases y <;> simp at h1
      subst h1
      simp [toVs_eq h2]
    · cases h

theorem F2.sc_eq : ∀ {vs l : List Value}, F2 (CRep w g os) vs (l.map fun c => .r (.sc c)) → vs = l
  | vs, [], h => by cases h; rfl
  | vs, x :: l, h => by
    cases h with
    | cons h t => rw [F2.sc_eq t, RRep.sc_eq h]

/-- A plain value stands for itself. -/
theorem toV_eq {t : TV} {x : Value} (h : OpRep w g os fr lv v t) (ht : toV t = some x) : v = x := by
  cases t <;> simp [toV] at ht
  · rename_i y
    cases y <;> simp at ht
    subst ht
    exact RRep.sc_eq h
  · split at ht
    · rename_i l hl
      simp at ht
      subst ht
      obtain ⟨vs, h1, h2⟩ := h
      rw [toVs_eq hl] at h2
      rw [h1, F2.sc_eq h2]
    · cases ht

theorem asIntT_eq {t : TV} {n : Int} (h : OpRep w g os fr lv v t) (ht : asIntT t = some n) : ∃ k, v = .int k n := by
  unfold asIntT at ht
  split at ht
  · simp only [Option.some.injEq] at ht
    subst ht
    exact ⟨_, RRep.sc_eq h⟩
  · cases ht
theorem asBoolT_eq {t : TV} {b : Bool} (h : OpRep w g os fr lv v t) (ht : asBoolT t = some b) : v = .bool b := by
  unfold asBoolT at ht
  split at ht
  · simp only [Option.some.injEq] at ht
    subst ht
    exact RRep.sc_eq h
  · cases ht

end

/-! ### What an operation owes -/

def OpPost (P : Program) (a : Act) (o : Oper) (w : World) (g : G) (S : TS) (fr : Tr) (lv : Nat → Nat) (r : Out) : Prop :=
  ∃ v w' g', ((execOp a.eval o).run P w = .ok (.value v) w' ∨ ((execOp a.eval o).run P w = .ok .skip w' ∧ v = undef)) ∧
    Ext S.objs w g (r.eff.S S).objs w' g' ∧ SRep w' g' (r.eff.S S).objs ∧ OpRep w' g' (r.eff.S S).objs fr lv v r.val

section
variable {a : Act} {o : Oper} {w : World} {g : G} {S : TS} {fr : Tr} {lv : Nat → Nat}

/-- The world stays. -/
theorem post_same {t : TV} {e : Eff} {v : Value} (hs : SRep w g S.objs) (he : (e.S S).objs = S.objs) (hrun : (execOp a.eval o).run P w = .ok (.value v) w) (hr : OpRep w g S.objs fr lv v t) :
    OpPost P a o w g S fr lv ⟨t, e⟩ :=
  ⟨v, w, g, .inl hrun, by simp only [he]; exact .refl _ _ _, by simp only [he]; exact hs, by simp only [he]; exact hr⟩

variable (hs : SRep w g S.objs) (hf : ∀ x, OpRep w g S.objs fr lv (a.eval x) (operand fr x))
include hs hf

theorem op_move {x : Operand} (ho : o.op = .move x ∨ o.op = .assign x) : OpPost P a o w g S fr lv ⟨operand fr x, .none⟩ :=
  post_same hs rfl (by rcases ho with ho | ho <;> simp [execOp, ho]) (hf x)

theorem op_pick {c x y : Operand} {t : Bool} (ho : o.op = .pick c x y) (hc : asBoolT (operand fr c) = some t) : OpPost P a o w g S fr lv ⟨cond t (operand fr x) (operand fr y), .none⟩ := by
  have h1 := asBoolT_eq (hf c) hc
  cases t
  · exact post_same hs rfl (by simp [execOp, ho, h1, asBool]) (hf y)
  · exact post_same hs rfl (by simp [execOp, ho, h1, asBool]) (hf x)

omit hs in
theorem plainOps_spec : ∀ {l : List Operand}, plainOps (operand fr) l = true → ∀ x, x ∈ l → a.eval x = (toV (operand fr x)).getD undef
  | [], _, _, hm => by cases hm
  | y :: ys, h, x, hm => by
    simp only [plainOps, Bool.and_eq_true, Option.isSome_iff_exists] at h
    cases hm with
    | head => obtain ⟨v, hv⟩ := h.1; rw [hv]; exact toV_eq (hf _) hv
    | tail _ hm => exact plainOps_spec h.2 x hm

theorem op_closed {r : Out} (hsel : ∀ cs b, o.op ≠ .select cs b) (h : closedT P (operand fr) o = some r) : OpPost P a o w g S fr lv r := by
  unfold closedT at h
  cases hp : plainOps (operand fr) o.op.operands.toList <;> rw [hp] at h
  · cases h
  · simp only [cond_true] at h
    split at h
    · rename_i v hv
      simp only [oval, Option.some.injEq] at h
      subst h
      have he : execOp a.eval o = execOp (fun x => (toV (operand fr x)).getD undef) o :=
        execOp_congr o hsel fun x hx => plainOps_spec hf hp x (by simpa using hx)
      exact post_same hs rfl (by rw [he]; exact pureRun_run hv w) (.of (inj_notfp v).1 (inj_notfp v).2 (inj_rep w g S.objs v))
    · cases h

end
end
end Go.TL
/- More operations that touch nothing shared: addresses, parts, comparisons, slices. -/
namespace Go.TL

section
variable {P : Program} {w : World} {g : G} {os : List TO} {fr : Tr} {lv : Nat → Nat} {v : Value}

theorem addr_add (b x k : Nat) : (⟨b, x, none⟩ : Addr).add k = ⟨b, x + k, none⟩ := by
  unfold Addr.add
  split
  · rename_i h; subst h; rfl
  · rfl

/-- An address, moved on. -/
theorem addOff_rep {t t' : TV} {k : Nat} (h : OpRep w g os fr lv v t) (ht : addOff k t = some t') : ∃ p, v = .pointer (some p) ∧ OpRep w g os fr lv (.pointer (some (p.add k))) t' := by
  cases t <;> simp only [addOff, Option.some.injEq, reduceCtorEq] at ht <;> subst ht
  · exact ⟨_, h.1, by rw [addr_add]; exact ⟨rfl, h.2⟩⟩
  · exact ⟨_, h.1, by rw [addr_add]; exact ⟨rfl, h.2⟩⟩
  · obtain ⟨b, p, h1, h2⟩ := h
    exact ⟨_, h1, b, p, by rw [addr_add, Nat.add_assoc], h2⟩
  · obtain ⟨p, sz, es, wv, fz, h1, h2, h3, h4⟩ := h
    refine ⟨_, h1, _, sz, es, wv, fz, rfl, h2, h3, fun e => ?_⟩
    obtain ⟨h5, h6⟩ := h4 e
    exact ⟨h5, by rw [h6, addr_add, Nat.add_assoc, Nat.add_assoc]⟩

/-- A cell is no struct. -/
theorem okCell_cells {t : TV} (h : CRep w g os v t) (hk : okCell t = true) : v.cells = #[v] ∧ okV v = true := by
  cases t <;> simp [okCell] at hk
  · rename_i x
    cases x with
    | sc x =>
      have := RRep.sc_eq h
      subst this
      cases v <;> simp [okV] at hk <;> exact ⟨rfl, rfl⟩
    | lst es c => cases (show RRep w g.I v (.lst es c) from h) <;> exact ⟨rfl, rfl⟩
  · obtain ⟨a, cap', h1, _⟩ := h; subst h1; exact ⟨rfl, rfl⟩
  · obtain ⟨h1, _⟩ := h; subst h1; exact ⟨rfl, rfl⟩
  · obtain ⟨h1, _⟩ := h; subst h1; exact ⟨rfl, rfl⟩
  · obtain ⟨vs, h1, _⟩ := h; subst h1; exact ⟨rfl, rfl⟩

theorem okCell_C {t : TV} (hk : okCell t = true) (h : OpRep w g os fr lv v t) : CRep w g os v t := by
  cases t <;> simp [okCell] at hk <;> exact h
theorem C_okOp {t : TV} (hk : okCell t = true) (h : CRep w g os v t) : OpRep w g os fr lv v t := by
  cases t <;> simp [okCell] at hk <;> exact h

theorem C_Op {t : TV} (h : CRep w g os v t) : OpRep w g os fr lv v t := by
  cases t <;> first | exact h | exact h.elim

/-- A value's cells. -/
theorem cells_rep {t : TV} (h : OpRep w g os fr lv v t) (hk : t.cells.all okCell = true) : F2 (CRep w g os) v.cells.toList t.cells ∧ ∀ x ∈ v.cells.toList, okV x = true := by
  cases t with
  | agg cs =>
    obtain ⟨vs, h1, h2⟩ := h
    subst h1
    simp only [Value.cells, TV.cells] at hk ⊢
    refine ⟨h2, ?_⟩
    induction h2 with
    | nil => intro x hx; cases hx
    | cons h t ih =>
      simp only [List.all_cons, Bool.and_eq_true] at hk
      intro x hx
      cases hx with
      | head => exact (okCell_cells h hk.1).2
      | tail _ hx => exact ih hk.2 x hx
  | _ =>
    simp only [TV.cells, List.all_cons, List.all_nil, Bool.and_true] at hk ⊢
    have hc := okCell_C hk h
    obtain ⟨h1, h2⟩ := okCell_cells hc hk
    rw [h1]
    refine ⟨.cons hc .nil, fun x hx => ?_⟩
    simp at hx
    subst hx
    exact h2

theorem okV_one {x : Value} (h : okV x = true) : x.oneCell' = true := by cases x <;> simp_all [okV, Value.oneCell']

/-- A part of some cells. -/
theorem partC_rep {n off : Nat} {ag : Bool} {vs : List Value} {cs : List TV} {t : TV} (h : F2 (CRep w g os) vs cs) (ht : partC n ag cs off = some t) :
    (ag = true ∧ off + n ≤ vs.length ∧ OpRep w g os fr lv (.agg ((vs.drop off).take n).toArray) t) ∨ (ag = false ∧ ∃ x, vs[off]? = some x ∧ cs[off]? = some t ∧ CRep w g os x t) := by
  cases ag
  · right
    simp only [partC, cond_false] at ht
    obtain ⟨x, h1, h2⟩ := h.get off t ht
    exact ⟨rfl, x, h1, ht, h2⟩
  · left
    simp only [partC, cond_true] at ht
    cases hb : Nat.ble (off + n) cs.length <;> rw [hb] at ht
    · cases ht
    · simp only [cond_true, Option.some.injEq] at ht
      subst ht
      refine ⟨rfl, ?_, _, rfl, (h.drop off).take n⟩
      rw [h.length]
      exact Nat.le_of_ble_eq_true hb

end

section
variable {P : Program} {a : Act} {o : Oper} {w : World} {g : G} {S : TS} {fr : Tr} {lv : Nat → Nat}
  (hs : SRep w g S.objs) (hf : ∀ x, OpRep w g S.objs fr lv (a.eval x) (operand fr x))
include hs hf

theorem op_fieldAddr {s : Nat} {x : Operand} {i : Nat} {ti : TyI} {t : TV} (ho : o.op = .fieldAddr s x i) (hty : mkTy P s = some ti) (ht : fieldAddrT ti (operand fr x) i = some t) :
    OpPost P a o w g S fr lv ⟨t, .none⟩ := by
  obtain ⟨inf, u, z, G⟩ := mkTy_spec hty
  unfold fieldAddrT at ht
  split at ht
  · rename_i fs hd
    have hdesc := G.desc
    rw [hd] at hdesc
    obtain ⟨F, hu0, hF⟩ := mkTD_struct hdesc
    subst hu0
    split at ht
    · rename_i off n ag hfs
      obtain ⟨f, hf1, hf2⟩ := mapO_get hF i _ hfs
      unfold fldInfo at hf2
      split at hf2
      · rename_i fi fu hi hu
        simp only [Option.some.injEq, Prod.mk.injEq] at hf2
        obtain ⟨e1, e2, e3⟩ := hf2
        cases hn : Nat.beq n 0 <;> rw [hn] at ht
        · simp only [cond_false] at ht
          obtain ⟨p, hp, hr⟩ := addOff_rep (hf x) ht
          refine post_same hs rfl ?_ hr
          have hn0 : fi.size ≠ 0 := fun h => by rw [← e2, h] at hn; simp at hn
          have hFi : F[i]? = some f := by simpa using hf1
          simp [execOp, ho, Instr.fieldAt, run_underlyingT G.und, hFi, hp, Instr.sureAddr, fieldPlace, sizeOf, run_typeInfo hi, hn0, e1]
        · cases ht
      · cases hf2
    · cases ht
  · cases ht

theorem op_nilCheck {x : Operand} (ho : o.op = .nilCheck x) (hx : (∃ d off, operand fr x = .fp d off) ∨ (∃ cs off, operand fr x = .ep cs off) ∨ (∃ p off, operand fr x = .ptr p off) ∨ (∃ p i off v, operand fr x = .ap p i off v) ∨ (∃ f cs, operand fr x = .fn f cs)) :
    OpPost P a o w g S fr lv ⟨operand fr x, .none⟩ := by
  have h := hf x
  refine post_same hs rfl ?_ h
  rcases hx with ⟨d, off, hx⟩ | ⟨cs, off, hx⟩ | ⟨p, off, hx⟩ | ⟨p, i, off, v, hx⟩ | ⟨f, cs, hx⟩ <;> rw [hx] at h
  · simp [execOp, ho, h.1]
  · obtain ⟨b, p, h1, _⟩ := h; simp [execOp, ho, h1]
  · simp [execOp, ho, h.1]
  · obtain ⟨p, _, _, _, _, h1, _⟩ := h; simp [execOp, ho, h1]
  · obtain ⟨vs, h1, _⟩ := h; simp [execOp, ho, h1]

omit hs hf in
/-- A part of a struct or an array by value. -/
theorem run_part {t n off : Nat} {ag : Bool} {vs : List Value} {cs : List TV} {x : TV} {ti : TyI} {inf : TypeInfo} {u : TypeDesc} {z : Value} (G : TyGood P t ti inf u z) (hn : n = ti.size) (hag : ag = ti.ag)
    (h : F2 (CRep w g S.objs) vs cs) (hx : partC n ag cs off = some x) : ∃ y, (part t vs.toArray off).run P w = .ok y w ∧ OpRep w g S.objs fr lv y x := by
  subst hn hag
  rcases partC_rep (fr := fr) (lv := lv) h hx with ⟨h1, h2, h3⟩ | ⟨h1, y, h2, h3, h4⟩
  · refine ⟨_, ?_, h3⟩
    simp [part, G.run_agg, h1, G.run_size]
  · exact ⟨y, by simp [part, G.run_agg, h1, h2], C_Op h4⟩

omit hs hf in
/-- The type of a field. -/
theorem fld_good {u : TypeDesc} {fs : List (Nat × Nat × Bool)} {i off n : Nat} {ag : Bool} (hd : mkTD P u = some (.struct fs)) (hi : fs[i]? = some (off, n, ag)) :
    ∃ F f fi fu, u = .struct F ∧ F[i]? = some f ∧ f.offset = off ∧ P.info? f.type = some fi ∧ P.underlying f.type = some fu ∧ fi.size = n ∧ aggD fu = ag := by
  obtain ⟨F, hu, hF⟩ := mkTD_struct hd
  obtain ⟨f, hf1, hf2⟩ := mapO_get hF i _ hi
  unfold fldInfo at hf2
  split at hf2
  · rename_i fi fu h1 h2
    simp only [Option.some.injEq, Prod.mk.injEq] at hf2
    exact ⟨F, f, fi, fu, hu, by simpa using hf1, hf2.1, h1, h2, hf2.2.1, hf2.2.2⟩
  · cases hf2

omit hs hf in
theorem run_aggD {t : Nat} {u : TypeDesc} (h : P.underlying t = some u) (w : World) : (Go.isAgg t).run P w = .ok (aggD u) w := by
  simp only [Go.isAgg, Sem.run_bind, run_underlyingT h, Result.andThen_ok]
  cases u <;> rfl

theorem op_field {s : Nat} {x : Operand} {i : Nat} {ti : TyI} {fs : List (Nat × Nat × Bool)} {cs : List TV} {off n : Nat} {ag : Bool} {t : TV} (ho : o.op = .field s x i) (hty : mkTy P s = some ti) (hd : ti.d = .struct fs)
    (hx : operand fr x = .agg cs) (hi : fs[i]? = some (off, n, ag)) (ht : partC n ag cs off = some t) : OpPost P a o w g S fr lv ⟨t, .none⟩ := by
  obtain ⟨inf, u, z, G⟩ := mkTy_spec hty
  have hdesc := G.desc
  rw [hd] at hdesc
  obtain ⟨F, f, fi, fu, hu, hF, h1, h2, h3, h4, h5⟩ := fld_good hdesc hi
  have hu' := G.und
  rw [hu] at hu'
  have hv := hf x
  rw [hx] at hv
  obtain ⟨vs, hv1, hv2⟩ := hv
  rcases partC_rep (fr := fr) (lv := lv) hv2 ht with ⟨e1, e2, e3⟩ | ⟨e1, y, e2, e3, e4⟩
  · refine post_same hs rfl ?_ e3
    simp [execOp, ho, hv1, Instr.field, run_underlyingT hu', hF, asAgg, part, run_aggD h3, h5, e1, sizeOf, run_typeInfo h2, h4, h1]
  · refine post_same hs rfl ?_ (C_Op e4)
    simp [execOp, ho, hv1, Instr.field, run_underlyingT hu', hF, asAgg, part, run_aggD h3, h5, e1, h1, e2]

omit hs hf in
theorem inRange_spec {k : Int} {n : Nat} (h : inRange k n = true) : 0 ≤ k ∧ k < n ∧ k.toNat < n := by
  unfold inRange at h
  split at h
  · rename_i m
    have : m < n := by
      have := Nat.le_of_ble_eq_true h
      omega
    exact ⟨by simp, by simpa using this, by simpa using this⟩
  · cases h

theorem op_index {s : Nat} {x i : Operand} {ti ei : TyI} {len e : Nat} {cs : List TV} {k : Int} {t : TV} (ho : o.op = .index s x i) (hty : mkTy P s = some ti) (hd : ti.d = .arr len e) (hte : mkTy P e = some ei)
    (hx : operand fr x = .agg cs) (hi : asIntT (operand fr i) = some k) (hk : inRange k len = true) (ht : partC ei.size ei.ag cs (k.toNat * ei.size) = some t) : OpPost P a o w g S fr lv ⟨t, .none⟩ := by
  obtain ⟨inf, u, z, G⟩ := mkTy_spec hty
  obtain ⟨inf', u', z', G'⟩ := mkTy_spec hte
  have hu := mkTD_arr (hd ▸ G.desc)
  have hu' := G.und
  rw [hu] at hu'
  have hv := hf x
  rw [hx] at hv
  obtain ⟨vs, hv1, hv2⟩ := hv
  obtain ⟨kk, hkk⟩ := asIntT_eq (hf i) hi
  obtain ⟨h1, h2, h3⟩ := inRange_spec hk
  obtain ⟨y, hy1, hy2⟩ := run_part (fr := fr) (lv := lv) (w := w) (S := S) G' rfl rfl hv2 ht
  refine post_same hs rfl ?_ hy2
  simp [execOp, ho, hv1, hkk, Instr.index, asIntOf, run_underlyingT hu', h1, h2, G'.run_size, hy1]

theorem op_extract {x : Operand} {i : Nat} {ts : List TV} {t : TV} (ho : o.op = .extract x i) (hx : operand fr x = .tup ts) (ht : ts[i]? = some t) : OpPost P a o w g S fr lv ⟨t, .none⟩ := by
  have hv := hf x
  rw [hx] at hv
  obtain ⟨vs, hv1, hv2⟩ := hv
  obtain ⟨y, hy1, hy2⟩ := hv2.get i t ht
  refine post_same hs rfl ?_ (?_ : OpRep w g S.objs fr lv y t)
  · simp [execOp, ho, hv1, Instr.extract, hy1]
  · cases t <;> first | exact hy2 | exact hy2.elim

omit hs hf in
theorem okRef_0 {t : TV} {v : Value} (hk : okRef t = true) (h : OpRep w g S.objs fr lv v t) : CRep0 w g S.objs v t := by
  cases t <;> simp [okRef] at hk <;> exact h

theorem op_makeFunc {gf : Nat} {first captured : Array Operand} (ho : o.op = .makeFunc (.func gf) first captured) (h1 : first.isEmpty = true) (h2 : (captured.toList.map (operand fr)).all okRef = true) :
    OpPost P a o w g S fr lv ⟨.fn gf (captured.toList.map (operand fr)), .none⟩ := by
  have h1' : first = #[] := by simpa using h1
  refine post_same hs rfl (v := .func (.func gf) #[] (captured.map a.eval)) ?_ ⟨captured.toList.map a.eval, by congr 1; apply Array.ext'; simp, ?_⟩
  · simp only [execOp, ho, h1', Instr.makeFunc]
    simp [-List.map_toArray, -Array.toList_map]
  · generalize captured.toList = l at h2
    induction l with
    | nil => exact .nil
    | cons x l ih =>
      simp only [List.map_cons, List.all_cons, Bool.and_eq_true] at h2
      exact .cons (okRef_0 h2.1 (hf x)) (ih h2.2)

theorem op_indexAddr {s : Nat} {x i : Operand} {ti : TyI} {k : Int} {r : Out} (ho : o.op = .indexAddr s x i) (hty : mkTy P s = some ti) (hi : asIntT (operand fr i) = some k)
    (h : indexAddrT P S ti (operand fr x) k = some r) : OpPost P a o w g S fr lv r := by
  obtain ⟨inf, u, z, G⟩ := mkTy_spec hty
  obtain ⟨kk, hkk⟩ := asIntT_eq (hf i) hi
  have hv := hf x
  have hu' := G.und
  unfold indexAddrT at h
  split at h
  · rename_i len e hd
    have hu := mkTD_arr (hd ▸ G.desc)
    rw [hu] at hu'
    split at h
    · rename_i ei hte
      obtain ⟨inf', u', z', G'⟩ := mkTy_spec hte
      cases hk : inRange k len <;> rw [hk] at h
      · cases h
      · simp only [cond_true] at h
        split at h
        · rename_i t ht
          simp only [oval, Option.some.injEq] at h
          subst h
          obtain ⟨h1, h2, h3⟩ := inRange_spec hk
          obtain ⟨p, hp, hr⟩ := addOff_rep hv ht
          refine post_same hs rfl ?_ hr
          simp [execOp, ho, hp, hkk, Instr.indexAt, asIntOf, run_underlyingT hu', Instr.sureAddr, h1, h2, G'.run_size]
        · cases h
    · cases h
  · rename_i e hd
    have hu := mkTD_slice (hd ▸ G.desc)
    rw [hu] at hu'
    split at h
    · rename_i ei hte
      obtain ⟨inf', u', z', G'⟩ := mkTy_spec hte
      split at h
      · rename_i es c hx
        rw [hx] at hv
        cases hk : inRange k es.length <;> rw [hk] at h
        · cases h
        · simp only [cond_true] at h
          split at h
          · rename_i cs hcs
            cases hl : Nat.beq cs.length ei.size <;> rw [hl] at h
            · cases h
            · simp only [cond_true, oval, Option.some.injEq] at h
              subst h
              obtain ⟨h1, h2, h3⟩ := inRange_spec hk
              have hl' : cs.length = ei.size := Nat.eq_of_beq_eq_true hl
              have hv' : RRep w g.I (a.eval x) (.lst es c) := hv
              generalize hvx : a.eval x = vx at hv'
              cases hv' with
              | nil c hc => simp at h3
              | emp a' cap' c hc => simp at h3
              | lst b off cap sz es c cv q2 q3 q4 q5 q6 =>
                have hsz : sz = ei.size := by rw [← q4 _ _ hcs]; exact hl'
                subst hsz
                have hcell : ∀ (j : Nat) (x : RV), cs[j]? = some x → ca w b (off + (k.toNat * ei.size + j)) = some (cv k.toNat j) ∧ g.I b (off + (k.toNat * ei.size + j)) := fun j x hx => q5 _ _ j x hcs hx
                refine post_same hs rfl (v := .pointer (some ⟨b, off + k.toNat * ei.size, none⟩)) ?_ ⟨b, off + k.toNat * ei.size, rfl, fun j => cv k.toNat j, fun j x hx => ?_⟩
                · simp [execOp, ho, hkk, hvx, Instr.indexAt, asIntOf, run_underlyingT hu', Instr.sureAddr, h1, h2, G'.run_size, addr_add]
                · have := hcell j x hx
                  rw [Nat.add_assoc]
                  exact ⟨this.1, this.2, q6 _ _ j x hcs hx⟩
          · cases h
      · rename_i p off len ver c hx
        rw [hx] at hv
        split at h
        · rename_i sz es v' fz' ho'
          cases hb : (Nat.beq v' ver && Nat.beq sz ei.size && Nat.ble (off + len) es.length && inRange k len) <;> rw [hb] at h
          · cases h
          · simp only [cond_true, Option.some.injEq] at h
            subst h
            simp only [Bool.and_eq_true] at hb
            obtain ⟨⟨⟨b1, b2⟩, b3⟩, b4⟩ := hb
            have b1 := Nat.eq_of_beq_eq_true b1
            have b2 := Nat.eq_of_beq_eq_true b2
            subst b1 b2
            obtain ⟨h1, h2, h3⟩ := inRange_spec b4
            obtain ⟨aa, cap', e1, ⟨e2, _⟩, e3, sz2, es2, w2, fz2, e4, e5, e6⟩ := hv
            rw [ho'] at e4
            simp only [Option.some.injEq, TO.arr.injEq] at e4
            obtain ⟨rfl, rfl, rfl, rfl⟩ := e4
            obtain ⟨f1, f2⟩ := e6 rfl
            obtain ⟨f3, f4⟩ := f2 (by omega)
            subst f3
            refine post_same hs rfl (v := .pointer (some ⟨g.mu p, g.sh p + off * ei.size + k.toNat * ei.size, none⟩)) ?_ ⟨_, ei.size, es, _, _, rfl, ho', Nat.le_refl _, fun _ => ⟨by omega, ?_⟩⟩
            · simp [execOp, ho, hkk, e1, Instr.indexAt, asIntOf, run_underlyingT hu', Instr.sureAddr, h1, h2, G'.run_size, addr_add]
            · rw [Nat.add_mul]; congr 1; omega
        · cases h
      · cases h
    · cases h
  · cases h

end
end Go.TL
/- More operations that change nothing: slices, lengths, two operands, literals. -/
namespace Go.TL
def mcap (mx : Option Operand) (m cap : Nat) : Nat := match mx with | some _ => m | none => cap

section
variable {P : Program} {a : Act} {o : Oper} {w : World} {g : G} {S : TS} {fr : Tr} {lv : Nat → Nat}
  (hs : SRep w g S.objs) (hf : ∀ x, OpRep w g S.objs fr lv (a.eval x) (operand fr x))
include hs hf

omit hs in
theorem optInt_spec {x : Option Operand} {d r : Nat} (h : optInt (x.map (operand fr)) d = some r) : (x = none ∧ r = d) ∨ ∃ y kk, x = some y ∧ a.eval y = .int kk (r : Nat) := by
  cases x with
  | none => simp [optInt] at h; exact .inl ⟨rfl, h.symm⟩
  | some y =>
    right
    simp only [optInt, Option.map_some] at h
    split at h
    · rename_i k hk
      simp at h; subst h
      obtain ⟨kk, hkk⟩ := asIntT_eq (hf y) hk
      exact ⟨y, kk, rfl, hkk⟩
    · cases h

omit hs hf in
theorem run_sliceBound {kk : IntKind} {k y : Nat} {c : BoundsCode} (h : k ≤ y) (w : World) : (Instr.sliceBound (.int kk k) y c).run P w = .ok k w := by
  have : (k : Int) ≤ y := by omega
  simp [Instr.sliceBound, asIntOf, this]

omit hs in
theorem run_sliceBounds {lo hi mx : Option Operand} {len cap h l m : Nat} (b : Bool) (hh : optInt (hi.map (operand fr)) len = some h) (hl : optInt (lo.map (operand fr)) 0 = some l)
    (hm : optInt (mx.map (operand fr)) len = some m) (h1 : l ≤ h) (h2 : h ≤ m) (h3 : m ≤ len) (h4 : len ≤ cap) (h5 : mx = none ∨ hi ≠ none) (w : World) :
    (Instr.sliceBounds b len cap (lo.map a.eval) (hi.map a.eval) (mx.map a.eval)).run P w = .ok (l, h, mcap mx m cap) w := by
  unfold Instr.sliceBounds
  rcases optInt_spec hf hm with ⟨rfl, rfl⟩ | ⟨y, kk, rfl, hy⟩ <;> rcases optInt_spec hf hh with ⟨rfl, rfl⟩ | ⟨y', kk', rfl, hy'⟩ <;> rcases optInt_spec hf hl with ⟨rfl, rfl⟩ | ⟨y'', kk'', rfl, hy''⟩
  · simp [mcap]
  · simp [mcap, hy'', run_sliceBound h1]
  · simp [mcap, hy', run_sliceBound (show h ≤ cap by omega)]
  · simp [mcap, hy', hy'', run_sliceBound (show h ≤ cap by omega), run_sliceBound h1]
  · simp at h5
  · simp at h5
  · simp [mcap, hy, hy', run_sliceBound (show m ≤ cap by omega), run_sliceBound h2]
  · simp [mcap, hy, hy', hy'', run_sliceBound (show m ≤ cap by omega), run_sliceBound h2, run_sliceBound h1]

omit hs hf in
theorem lenT_spec {fr : Tr} {v : Value} {t : TV} {n : Nat} (h : OpRep w g S.objs fr lv v t) (ht : lenT t = some n) : ∃ b cap, v = .slice b n cap ∧ n ≤ cap := by
  unfold lenT at ht
  split at ht
  · simp at ht; subst ht; exact ⟨_, _, RRep.sc_eq h, by omega⟩
  · rename_i es c
    simp at ht; subst ht
    have h' : RRep w g.I v (.lst es c) := h
    cases h' with
    | nil => exact ⟨_, _, rfl, by simp⟩
    | emp a cap c h => exact ⟨_, _, rfl, by simp⟩
    | lst b off cap sz es c cv q2 => exact ⟨_, _, rfl, q2⟩
  · simp at ht; subst ht
    obtain ⟨aa, cap', e1, ⟨e2, _⟩, _⟩ := h
    exact ⟨_, _, e1, e2⟩
  · cases ht

theorem op_slice {t e : Nat} {ti ei : TyI} {x : Operand} {lo hi mx : Option Operand} {r : Out} (ho : o.op = .slice t x lo hi mx) (hty : mkTy P t = some ti) (hd : ti.d = .slice e) (hte : mkTy P e = some ei)
    (h : sliceT S ei.size (operand fr x) (lo.map (operand fr)) (hi.map (operand fr)) (mx.map (operand fr)) = some r) : OpPost P a o w g S fr lv r := by
  obtain ⟨inf, u, z, G⟩ := mkTy_spec hty
  obtain ⟨inf', u', z', G'⟩ := mkTy_spec hte
  have hu := mkTD_slice (hd ▸ G.desc)
  have hu' := G.und
  rw [hu] at hu'
  have hv := hf x
  unfold sliceT at h
  split at h
  · cases h
  · rename_i n hn
    obtain ⟨b, cap, hvx, hcap⟩ := lenT_spec hv hn
    split at h
    · rename_i hh l m hh1 hl1 hm1
      cases hb : (Nat.ble l hh && Nat.ble hh m && Nat.ble m n && ((mx.map (operand fr)).isNone || (hi.map (operand fr)).isSome)) <;> rw [hb] at h
      · cases h
      · simp only [cond_true] at h
        simp only [Bool.and_eq_true, Bool.or_eq_true] at hb
        obtain ⟨⟨⟨b1, b2⟩, b3⟩, b4⟩ := hb
        have b1 := Nat.le_of_ble_eq_true b1
        have b2 := Nat.le_of_ble_eq_true b2
        have b3 := Nat.le_of_ble_eq_true b3
        have b4 : mx = none ∨ hi ≠ none := by
          rcases b4 with b4 | b4
          · left; simpa using b4
          · right; intro e; rw [e] at b4; simp at b4
        have hsb := fun w => run_sliceBounds (P := P) hf true hh1 hl1 hm1 b1 b2 b3 hcap b4 w
        have hrun : (execOp a.eval o).run P w = .ok (.value (.slice (if (mcap mx m cap) = l then b else b.map (·.add (l * ei.size))) (hh - l) ((mcap mx m cap) - l))) w := by
          simp [execOp, ho, Instr.sliceAt, Instr.slice, run_underlyingT hu', hvx, hsb, G'.run_size]
        have hm' : mx = none → m = n := by
          intro e; subst e; simp [optInt] at hm1; exact hm1.symm
        have hc : hh - l ≤ (mcap mx m cap) - l := by cases mx <;> simp [mcap] <;> omega
        split at h
        · rename_i es c hx
          rw [hx] at hv hn
          cases hz : (headLen ei.size es) <;> rw [hz] at h
          · cases h
          · simp only [cond_true, oval, Option.some.injEq] at h
            subst h
            simp only [lenT, Option.some.injEq] at hn
            subst hn
            have hcc : ∀ k, (capT (mx.map (operand fr)).isSome c m l) = some k → (∀ k, c = some k → cap = k) → (mcap mx m cap) - l = k := by
              intro k hk hck
              cases mx with
              | none =>
                cases c with
                | none => simp [capT] at hk
                | some c => simp [capT, mcap] at hk ⊢; rw [hck c rfl]; exact hk
              | some y => simpa [capT, mcap] using hk
            refine post_same hs rfl hrun ?_
            show RRep w g.I _ (.lst _ _)
            generalize (capT (mx.map (operand fr)).isSome c m l) = cc at hcc
            have hv' : RRep w g.I (a.eval x) (.lst es c) := hv
            generalize a.eval x = vx at hv' hvx
            cases hv' with
            | nil c hc0 =>
              simp only [Value.slice.injEq] at hvx
              obtain ⟨rfl, _, rfl⟩ := hvx
              have e1 : hh = 0 := by simp at b3; omega
              have e2 : l = 0 := by omega
              subst e1 e2
              have e3 : (mcap mx m 0) = 0 := by
                cases mx <;> simp [mcap]
                simp at b3; exact b3
              simp only [e3]
              refine .nil cc fun k hk => ?_
              have := hcc k hk (fun k h => (hc0 k h).symm)
              rw [e3] at this; omega
            | emp a' cap' c hc0 =>
              simp only [Value.slice.injEq] at hvx
              obtain ⟨rfl, _, rfl⟩ := hvx
              have e1 : hh = 0 := by simp at b3; omega
              have e2 : l = 0 := by omega
              subst e1 e2
              simp only [Nat.zero_mul, List.drop_zero, Nat.sub_zero, List.take_nil]
              split
              · exact .emp _ _ cc fun k hk => by have := hcc k hk hc0; simpa using this
              · exact .emp _ _ cc fun k hk => by have := hcc k hk hc0; simpa using this
            | lst b' off cap' sz es c cv q2 q3 q4 q5 q6 =>
              simp only [Value.slice.injEq] at hvx
              obtain ⟨rfl, _, rfl⟩ := hvx
              have hlen : ((es.drop l).take (hh - l)).length = hh - l := by simp; omega
              have hget : ∀ (i : Nat) (e : List RV), ((es.drop l).take (hh - l))[i]? = some e → es[l + i]? = some e := by
                intro i e he
                rw [List.getElem?_take] at he
                split at he
                · rw [List.getElem?_drop] at he; exact he
                · cases he
              have hes0 : hh - l = 0 → (es.drop l).take (hh - l) = [] := fun h => by rw [h]; simp
              have hsz0 : (es.drop l).take (hh - l) ≠ [] → sz = ei.size := by
                intro hne
                cases es with
                | nil => simp at hne
                | cons e es =>
                  have := q4 0 e rfl
                  have := Nat.eq_of_beq_eq_true hz
                  omega
              generalize (es.drop l).take (hh - l) = L at hlen hget hes0 hsz0
              rw [← hlen]
              split
              · rename_i hml
                have hes : L = [] := hes0 (by cases mx <;> simp [mcap] at hml <;> omega)
                subst hes
                refine .lst b' off _ sz [] cc (fun _ _ => undef) (by simp) (fun k hk => hcc k hk q3) (by simp) (by simp) (by simp)
              · simp only [Option.map_some, addr_add]
                by_cases hne : L = []
                · subst hne
                  refine .lst b' _ _ sz [] cc (fun _ _ => undef) (by simp) (fun k hk => hcc k hk q3) (by simp) (by simp) (by simp)
                · have := hsz0 hne
                  rw [← this]
                  refine .lst b' _ _ sz _ cc (fun i j => cv (l + i) j) (by rw [hlen]; exact hc) (fun k hk => hcc k hk q3) (fun i e he => q4 _ e (hget i e he)) (fun i e j x he hx => ?_) (fun i e j x he hx => q6 _ e j x (hget i e he) hx)
                  have := q5 _ e j x (hget i e he) hx
                  rw [show off + l * sz + (i * sz + j) = off + ((l + i) * sz + j) by rw [Nat.add_mul]; omega]
                  exact this
        · rename_i p off len ver c hx
          rw [hx] at hv hn
          simp only [lenT, Option.some.injEq] at hn
          subst hn
          split at h
          · rename_i sz es w2 fz ho'
            cases hz : Nat.beq sz ei.size <;> rw [hz] at h
            · cases h
            · simp only [cond_true, Option.some.injEq] at h
              subst h
              have hz := Nat.eq_of_beq_eq_true hz
              subst hz
              obtain ⟨aa, cap', e1, ⟨e2, e2'⟩, e3, sz2, es2, w3, fz2, e4, e5, e6⟩ := hv
              rw [ho'] at e4
              simp only [Option.some.injEq, TO.arr.injEq] at e4
              obtain ⟨rfl, rfl, rfl, rfl⟩ := e4
              rw [hvx] at e1
              simp only [Value.slice.injEq] at e1
              obtain ⟨rfl, _, rfl⟩ := e1
              refine post_same hs rfl hrun ?_
              show SlRep g S.objs _ p (off + l) (hh - l) ver _
              have hcc : ∀ k, (capT (mx.map (operand fr)).isSome c m l) = some k → (mcap mx m cap) - l = k := by
                intro k hk
                cases mx with
                | none =>
                  cases c with
                  | none => simp [capT] at hk
                  | some c => simp [capT, mcap] at hk ⊢; rw [e3 c rfl]; exact hk
                | some y => simpa [capT, mcap] using hk
              have hle : (mcap mx m cap) ≤ cap := by cases mx <;> simp [mcap]; omega
              generalize (mcap mx m cap) = mm at hcc hc hrun hle
              by_cases hml : mm = l
              · refine ⟨aa, mm - l, by rw [if_pos hml], ⟨hc, e2'⟩, hcc, _, es, _, _, ho', e5, fun e => ⟨?_, fun hne => by omega⟩⟩
                have := (e6 e).1
                omega
              · refine ⟨aa.add (l * ei.size), mm - l, by rw [if_neg hml]; rfl, ⟨hc, by unfold Addr.add; split <;> simp_all⟩, hcc, _, es, _, _, ho', e5, fun e => ⟨?_, fun hne => ?_⟩⟩
                · have := (e6 e).1
                  omega
                · obtain ⟨f1, f2⟩ := e6 e
                  obtain ⟨f3, f4⟩ := f2 (by omega)
                  subst f3
                  refine ⟨by rw [addr_add, Nat.add_mul]; simp [Nat.add_assoc], Nat.le_trans ?_ f4⟩
                  refine Nat.add_le_add_left (Nat.mul_le_mul_right _ ?_) _
                  omega
          · cases h
        · rename_i xx hx1 hx2
          simp only [oval, Option.some.injEq] at h
          subst h
          have hx0 : operand fr x = .r (.sc (.slice none 0 0)) ∧ n = 0 := by
            unfold lenT at hn
            split at hn
            · simp at hn; exact ⟨by assumption, hn.symm⟩
            · rename_i heq; exact absurd heq (hx1 _ _)
            · rename_i heq; exact absurd heq (hx2 _ _ _ _ _)
            · cases hn
          obtain ⟨hx0, rfl⟩ := hx0
          have hvx' := OpRep.sc (hx0 ▸ hv)
          rw [hvx'] at hvx
          simp only [Value.slice.injEq] at hvx
          obtain ⟨rfl, _, rfl⟩ := hvx
          have : m = 0 := by omega
          subst this
          have : hh = 0 := by omega
          subst this
          have : l = 0 := by omega
          subst this
          refine post_same hs rfl hrun ?_
          rw [hx0]
          have hmm : (mcap mx 0 0) = 0 := by cases mx <;> rfl
          simp only [hmm, if_true]
          exact RRep.sc _
    · cases h

end
end Go.TL
/- More operations that change nothing: lengths, two operands, literals. -/
namespace Go.TL

section
variable {P : Program} {a : Act} {o : Oper} {w : World} {g : G} {S : TS} {fr : Tr} {lv : Nat → Nat}

theorem exec_builtin {c : Call} {b : Builtin} (ho : o.op = .call c) (hc : c.callee = .builtin b) (P : Program) (w : World) :
    (execOp a.eval o).run P w = (builtin b c.argTypes o.type (c.args.map fun | .const _ => true | _ => false) (c.args.map a.eval)).run P w := by
  simp only [execOp, ho, resolve, hc, Sem.run_bind, Sem.run_pure, Result.andThen_ok]
  rfl

variable (hs : SRep w g S.objs) (hf : ∀ x, OpRep w g S.objs fr lv (a.eval x) (operand fr x))
include hs hf

theorem op_lenSlice {c : Call} {t e : Nat} {ti : TyI} {x : Operand} {n : Nat} (ho : o.op = .call c) (hc : c.callee = .builtin .len) (hx : c.args.toList = [x]) (ht : c.argTypes[0]? = some t)
    (hty : mkTy P t = some ti) (hd : ti.d = .slice e) (hn : lenT (operand fr x) = some n) : OpPost P a o w g S fr lv ⟨.r (.sc (.int .i64 (n : Nat))), .none⟩ := by
  obtain ⟨inf, u, z, G⟩ := mkTy_spec hty
  have hu := mkTD_slice (hd ▸ G.desc)
  have hu' := G.und
  rw [hu] at hu'
  obtain ⟨b, cap, hv, _⟩ := lenT_spec (hf x) hn
  have hx' : c.args = #[x] := Array.toList_inj.1 hx
  refine post_same hs rfl (v := .int .i64 (n : Nat)) ?_ (RRep.sc _)
  rw [exec_builtin ho hc]
  simp [builtin, Builtin.len_, ht, hx', hv, run_underlyingT hu', goInt]

theorem op_not {t : Nat} {x : Operand} {b : Bool} (ho : o.op = .unOp .not t x) (hx : operand fr x = .r (.sc (.bool b))) : OpPost P a o w g S fr lv ⟨.r (.sc (.bool !b)), .none⟩ := by
  have hv := OpRep.sc (hx ▸ hf x)
  refine post_same hs rfl (v := .bool !b) ?_ (RRep.sc _)
  simp [execOp, ho, hv, Op.unary]

omit hs hf in
theorem run_eqGuard_int {b : BinOp} {t : TypeId} {x y : Operand} {k k' : IntKind} {m n : Int} (w : World) : (eqGuard b t x y (.int k m) (.int k' n)).run P w = .ok () w := by
  unfold eqGuard
  cases b <;> rfl

omit hs hf in
theorem run_intBin {b : BinOp} {t : TypeId} {k : IntKind} {m n : Int} {v : Value} (h : intBin b k m n = some v) (w : World) : (binOp b t (.int k m) (.int k n)).run P w = .ok v w := by
  cases b <;> simp only [intBin] at h <;> try (simp only [Option.some.injEq] at h; subst h; simp [binOp, Op.intArith, Op.intCmp]; done)
  · split at h
    · cases h
    · rename_i h0
      simp only [Option.some.injEq] at h; subst h
      simp [binOp, Op.intDiv, h0]
  · split at h
    · cases h
    · rename_i h0
      simp only [Option.some.injEq] at h; subst h
      simp [binOp, Op.intDiv, h0]
  all_goals cases h

omit hs hf in
theorem run_eqSlice {t e n c m m' : Nat} {aa : Addr} (h : P.underlying t = some (.slice e)) (w : World) : (Op.equal t (.slice (some aa) n c) (.slice none m m')).run P w = .ok false w := by
  show (Op.equalIn (9999 + 1) _ _ _).run P w = _
  rw [Op.equalIn]
  simp only [Sem.run_bind, run_underlyingT h, Result.andThen_ok]
  rfl

omit hs hf in
theorem run_binSlice {b : BinOp} {t e n c m m' : Nat} {aa : Addr} {bb : Bool} (h : P.underlying t = some (.slice e)) (hb : (b = .eql ∧ bb = false) ∨ (b = .neq ∧ bb = true)) (x y : Operand) (w : World) :
    (do eqGuard b t x y (.slice (some aa) n c) (.slice none m m'); binOp b t (.slice (some aa) n c) (.slice none m m') : Sem Value).run P w = .ok (.bool bb) w := by
  rcases hb with ⟨rfl, rfl⟩ | ⟨rfl, rfl⟩
  · have h1 : ∀ w, (eqGuard .eql t x y (.slice (some aa) n c) (.slice none m m')).run P w = .ok () w := fun _ => rfl
    have h2 : binOp .eql t (.slice (some aa) n c) (.slice none m m') = (do pure (.bool (← Op.equal t (.slice (some aa) n c) (.slice none m m')))) := rfl
    rw [h2]
    simp only [Sem.run_bind, h1, Result.andThen_ok, run_eqSlice h, Sem.run_pure]
  · have h1 : ∀ w, (eqGuard .neq t x y (.slice (some aa) n c) (.slice none m m')).run P w = .ok () w := fun _ => rfl
    have h2 : binOp .neq t (.slice (some aa) n c) (.slice none m m') = (do pure (.bool (!(← Op.equal t (.slice (some aa) n c) (.slice none m m'))))) := rfl
    rw [h2]
    simp only [Sem.run_bind, h1, Result.andThen_ok, run_eqSlice h, Sem.run_pure]
    rfl

omit hs hf in
theorem nilCmp_spec {t : Nat} {b : BinOp} {rr : Out} (h : nilCmp P t b = some rr) :
    ∃ ti e, mkTy P t = some ti ∧ ti.d = .slice e ∧ ((b = .eql ∧ rr = ⟨.r (.sc (.bool false)), .none⟩) ∨ (b = .neq ∧ rr = ⟨.r (.sc (.bool true)), .none⟩)) := by
  unfold nilCmp at h
  split at h
  · rename_i hty
    refine ⟨_, _, hty, rfl, ?_⟩
    cases b <;> simp [oval] at h ⊢ <;> exact h.symm
  · cases h

theorem op_bin {b : BinOp} {t : Nat} {q : TypeId} {x y : Operand} {r : Out} (ho : o.op = .binOp b t x y q) (h : binT P (operand fr) o t b (operand fr x) (operand fr y) = some r) : OpPost P a o w g S fr lv r := by
  have hcl : closedT P (operand fr) o = some r → OpPost P a o w g S fr lv r := op_closed hs hf (by rw [ho]; simp)
  have hx := hf x
  have hy := hf y
  have hslice : ∀ (bb : Option Addr) (n c : Nat) (m m' : Nat) (rr : Out), bb ≠ none → a.eval x = .slice bb n c → a.eval y = .slice none m m' →
nilCmp P t b = some rr → OpPost P a o w g S fr lv rr := by
    intro bb n c m m' rr hbb hxx hyy hm
    have hm : ∃ ti e, mkTy P t = some ti ∧ ti.d = .slice e ∧ ((b = .eql ∧ rr = ⟨.r (.sc (.bool false)), .none⟩) ∨ (b = .neq ∧ rr = ⟨.r (.sc (.bool true)), .none⟩)) := nilCmp_spec hm
    · obtain ⟨ti, e, hty, hd, hb⟩ := hm
      obtain ⟨inf, u, z, G⟩ := mkTy_spec hty
      have hu := mkTD_slice (hd ▸ G.desc)
      have hu' := G.und
      rw [hu] at hu'
      cases bb with
      | none => exact absurd rfl hbb
      | some aa =>
        have key : ∀ bv, ((b = .eql ∧ bv = false) ∨ (b = .neq ∧ bv = true)) → (execOp a.eval o).run P w = .ok (.value (.bool bv)) w := by
          intro bv hbv
          have e : execOp a.eval o = (do pure (.value (← (do eqGuard b t x y (a.eval x) (a.eval y); binOp b t (a.eval x) (a.eval y) : Sem Value)))) := by
            simp only [execOp, ho]
          rw [e, hxx, hyy, Sem.run_bind, run_binSlice hu' hbv]
          rfl
        rcases hb with ⟨h1, rfl⟩ | ⟨h1, rfl⟩
        · exact post_same hs rfl (v := .bool false) (key false (.inl ⟨h1, rfl⟩)) (RRep.sc _)
        · exact post_same hs rfl (v := .bool true) (key true (.inr ⟨h1, rfl⟩)) (RRep.sc _)
  unfold binT at h
  split at h
  · rename_i k m k' n e1 e2
    rw [e1] at hx; rw [e2] at hy
    have hx := OpRep.sc hx
    have hy := OpRep.sc hy
    split at h
    · rename_i hk
      subst hk
      split at h
      · rename_i v hv
        simp only [oval, Option.some.injEq] at h; subst h
        refine post_same hs rfl (v := v) ?_ (RRep.sc _)
        simp [execOp, ho, hx, hy, run_eqGuard_int, run_intBin hv]
      · exact hcl h
    · cases h
  · rename_i e es c m m' e1 e2
    rw [e1] at hx; rw [e2] at hy
    have hy := OpRep.sc hy
    have hx' : RRep w g.I (a.eval x) (.lst (e :: es) c) := hx
    generalize hvx : a.eval x = vx at hx'
    cases hx' with
    | lst b off cap sz es c cv q2 q3 q4 q5 q6 => exact hslice _ _ _ _ _ r (by simp) hvx hy h
  · rename_i p off len ver c m m' e1 e2
    rw [e1] at hx; rw [e2] at hy
    have hy := OpRep.sc hy
    obtain ⟨aa, cap', f1, _⟩ := hx
    exact hslice _ _ _ _ _ r (by simp) f1 hy h
  · exact hcl h

end
end Go.TL
/- Literals: the parts are laid over the cells. -/
namespace Go.TL

theorem fold_toList (off : Nat) (vs cells : Array Value) (h : off + vs.size ≤ cells.size) :
    (vs.zipIdx.foldl (fun cs (x : Value × Nat) => cs.setIfInBounds (off + x.2) x.1) cells) = (cells.toList.take off ++ vs.toList ++ cells.toList.drop (off + vs.size)).toArray := by
  rw [← Array.foldl_toList, Array.toList_zipIdx]
  obtain ⟨h1, h2⟩ := Go.Great.foldl_set off vs.toList 0 cells
  apply Array.ext'
  apply List.ext_getElem?
  intro k
  rw [Array.getElem?_toList, h2 k]
  simp only [Nat.add_zero, Array.length_toList, List.getElem?_append, List.getElem?_take, List.getElem?_drop, List.length_append, List.length_take]
  have hm : min off cells.size = off := by omega
  rw [hm]
  by_cases h3 : k < off
  · rw [if_neg (by omega), if_pos (by omega), if_pos h3, if_pos h3]
    simp
  · by_cases h4 : k < off + vs.size
    · rw [if_pos (by omega), if_pos (by omega), if_neg h3]
    · rw [if_neg (by omega), if_neg (by omega)]
      simp only [Array.getElem?_toList]
      congr 1
      omega

section
variable {P : Program} {a : Act} {o : Oper} {w : World} {g : G} {S : TS} {fr : Tr} {lv : Nat → Nat}

theorem fill_rep (hf : ∀ x, OpRep w g S.objs fr lv (a.eval x) (operand fr x)) {pl : Nat → Option (Nat × Nat)} :
    ∀ (parts : List (Nat × Operand)) (ps : List (Nat × Nat × TV)) (cells : Array Value) (ts ts' : List TV), evParts (operand fr) pl parts = some ps → F2 (CRep w g S.objs) cells.toList ts → fillT ts ps = some ts' →
      ∃ cells', Instr.fill pl cells (parts.map fun p => (p.1, a.eval p.2)) = some cells' ∧ F2 (CRep w g S.objs) cells'.toList ts' ∧ ((∀ x ∈ cells.toList, okV x = true) → ∀ x ∈ cells'.toList, okV x = true)
  | [], ps, cells, ts, ts', h1, h2, h3 => by
    simp [evParts] at h1; subst h1
    simp [fillT] at h3; subst h3
    exact ⟨cells, rfl, h2, fun h => h⟩
  | (i, x) :: parts, ps, cells, ts, ts', h1, h2, h3 => by
    simp only [evParts] at h1
    split at h1
    · rename_i off n r hp hr
      simp only [Option.some.injEq] at h1; subst h1
      simp only [fillT] at h3
      cases hb : (Nat.beq (operand fr x).cells.length n && Nat.ble (off + n) ts.length && (operand fr x).cells.all okCell) <;> rw [hb] at h3
      · cases h3
      · simp only [cond_true] at h3
        simp only [Bool.and_eq_true] at hb
        obtain ⟨⟨b1, b2⟩, b3⟩ := hb
        have b1 := Nat.eq_of_beq_eq_true b1
        have b2 := Nat.le_of_ble_eq_true b2
        obtain ⟨hc, hok⟩ := cells_rep (hf x) b3
        have hlen := hc.length
        have hlen2 := h2.length
        simp only [Array.length_toList] at hlen hlen2
        have hfit : off + (a.eval x).cells.size ≤ cells.size := by omega
        have hf2 : F2 (CRep w g S.objs) (cells.toList.take off ++ (a.eval x).cells.toList ++ cells.toList.drop (off + (a.eval x).cells.size)) (ts.take off ++ (operand fr x).cells ++ ts.drop (off + n)) := by
          have : (a.eval x).cells.size = n := by omega
          rw [this]
          exact ((h2.take off).append hc).append (h2.drop (off + n))
        obtain ⟨cells', e1, e2, e3⟩ := fill_rep hf parts r (cells.toList.take off ++ (a.eval x).cells.toList ++ cells.toList.drop (off + (a.eval x).cells.size)).toArray _ ts' hr (by simpa using hf2) h3
        refine ⟨cells', ?_, e2, fun hk => e3 fun y hy => ?_⟩
        · simp only [List.map_cons, Instr.fill, hp]
          have c1 : ((a.eval x).cells.size ≠ n || off + (a.eval x).cells.size > cells.size) = false := by simp; omega
          rw [c1, if_neg (by simp), fold_toList off _ _ hfit]
          exact e1
        · simp only [List.mem_append] at hy
          rcases hy with (hy | hy) | hy
          · exact hk y (List.mem_of_mem_take hy)
          · exact hok y hy
          · exact hk y (List.mem_of_mem_drop hy)
    · cases h1

theorem zero_rep {z : Value} {zs : List Value} (h : z.cells.toList = zs) : F2 (CRep w g S.objs) z.cells.toList (zs.map fun c => TV.r (.sc c)) := by
  rw [h]; exact F2.map_sc zs

theorem okV_all {zs : List Value} (h : zs.all okV = true) : ∀ x ∈ zs, okV x = true := by simpa using h

theorem places_spec {F : Array Field} {fs : List (Nat × Nat × Bool)} (h : mapO (fldInfo P) F.toList = some fs) : F.toList.mapM (fun f => (P.info? f.type).map fun i => (f.offset, i.size)) = some (fs.map fun p => (p.1, p.2.1)) := by
  generalize F.toList = l at h
  induction l generalizing fs with
  | nil => simp [mapO] at h; subst h; rfl
  | cons f l ih =>
    simp only [mapO] at h
    split at h
    · rename_i y ys h1 h2
      simp only [Option.some.injEq] at h; subst h
      unfold fldInfo at h1
      split at h1
      · rename_i fi fu h3 h4
        simp only [Option.some.injEq] at h1; subst h1
        simp [List.mapM_cons, h3, ih h2]
      · cases h1
    · cases h

variable (hs : SRep w g S.objs) (hf : ∀ x, OpRep w g S.objs fr lv (a.eval x) (operand fr x))
include hs hf

theorem op_build {t : Nat} {ti : TyI} {parts : Array (Nat × Operand)} {pl : Nat → Option (Nat × Nat)} {ps : List (Nat × Nat × TV)} {cs : List TV} (ho : o.op = .build t parts) (hty : mkTy P t = some ti)
    (hpl : (∃ fs, ti.d = .struct fs ∧ pl = fldOf fs) ∨ (∃ n e ei, ti.d = .arr n e ∧ mkTy P e = some ei ∧ pl = fun i => some (i * ei.size, ei.size)))
    (hps : evParts (operand fr) pl parts.toList = some ps) (hfill : fillT (ti.zero.map fun c => TV.r (.sc c)) ps = some cs) : OpPost P a o w g S fr lv ⟨.agg cs, .none⟩ := by
  obtain ⟨inf, u, z, G⟩ := mkTy_spec hty
  obtain ⟨cells', e1, e2, _⟩ := fill_rep hf parts.toList ps z.cells _ cs hps (zero_rep G.zero) hfill
  have hu' := G.und
  refine post_same hs rfl (v := .agg cells') ?_ ⟨cells'.toList, by simp, e2⟩
  rcases hpl with ⟨fs, hd, rfl⟩ | ⟨n, e, ei, hd, hte, rfl⟩
  · have hdesc := G.desc
    rw [hd] at hdesc
    obtain ⟨F, hu, hF⟩ := mkTD_struct hdesc
    subst hu
    have hpl := run_places (P := P) w F.toList _ (places_spec hF)
    have hplf : ((fs.map fun p => (p.1, p.2.1)).toArray[·]? : Nat → Option (Nat × Nat)) = fldOf fs := by
      funext i
      simp only [fldOf, List.getElem?_toArray, List.getElem?_map]
      cases fs[i]? <;> rfl
    have e1' : Instr.fill (fun x => Option.map (fun p => (p.1, p.2.1)) fs[x]?) z.cells (List.map (fun p => (p.1, a.eval p.2)) parts.toList) = some cells' := by
      rw [← e1]; congr 1
      rw [← hplf]; funext i; simp
    simp [execOp, ho, Instr.build, G.run_zero, run_underlyingT hu', Array.mapM_eq_mapM_toList, hpl, e1']
  · obtain ⟨inf', u', z', G'⟩ := mkTy_spec hte
    have hu := mkTD_arr (hd ▸ G.desc)
    rw [hu] at hu'
    simp [execOp, ho, Instr.build, G.run_zero, run_underlyingT hu', G'.run_size, e1]

end
end Go.TL
/- How the told state moves on: a new object, an object written, cells that no longer change. -/
namespace Go.TL

section
variable {P : Program} {w : World} {g : G} {os : List TO}

theorem heap_push_lt {h : Array Obj} {ob : Obj} {b : Nat} (hb : b < h.size) : (h.push ob)[b]? = h[b]? := by
  simp [Array.getElem?_push, Nat.ne_of_lt hb]

/-- A new block beside all that is told of. -/
def G.push (g : G) (o B room : Nat) : G := { g with mu := fun x => if x = o then B else g.mu x, sh := fun x => if x = o then 0 else g.sh x, room := fun x => if x = o then room else g.room x }

theorem OExt.push {o : Nat} {x : TO} {n B r : Nat} (h : o ≠ n) : OExt g (g.push n B r) o x x := by
  cases x <;> simp [OExt, G.push, h]

theorem SRep.push {x : TO} {ob : Obj} {r : Nat} (hs : SRep w g os)
    (hx : ORep { w with heap := w.heap.push ob } (g.push os.length w.heap.size r) (os ++ [x]) os.length x) :
    Ext os w g (os ++ [x]) { w with heap := w.heap.push ob } (g.push os.length w.heap.size r) ∧ SRep { w with heap := w.heap.push ob } (g.push os.length w.heap.size r) (os ++ [x]) := by
  have hb : ∀ b, b < w.heap.size → (w.heap.push ob)[b]? = w.heap[b]? := fun b hb => heap_push_lt hb
  have hca : ∀ b i, g.I b i → ca { w with heap := w.heap.push ob } b i = ca w b i := fun b i hi => ca_of_heap (hb b (hs.imm_lt hi)) i
  have hI : ∀ b i, g.I b i → (g.push os.length w.heap.size r).I b i ∧ ca { w with heap := w.heap.push ob } b i = ca w b i := fun b i hi => ⟨hi, hca b i hi⟩
  have hO : ∀ (o : Nat) (y : TO), os[o]? = some y → ∃ y', (os ++ [x])[o]? = some y' ∧ OExt g (g.push os.length w.heap.size r) o y y' := by
    intro o y hy
    have hl := get_lt hy
    exact ⟨y, by rw [List.getElem?_append_left hl]; exact hy, .push (Nat.ne_of_lt hl)⟩
  have hmu : ∀ o, o < os.length → (g.push os.length w.heap.size r).mu o = g.mu o := fun o ho => by simp [G.push, Nat.ne_of_lt ho]
  have hmun : (g.push os.length w.heap.size r).mu os.length = w.heap.size := by simp [G.push]
  refine ⟨⟨⟨rfl, rfl, rfl⟩, by simp, hI, fun b i hi => .inl hi, by simp, fun o ho => .inl (hmu o ho), fun o h1 h2 => ?_, hO, fun b hb' _ => hb b hb', frz_off (B := w.heap.size) (fun b hb' => by simp [Array.getElem?_push, hb']) (fun a ha => by simp [World.frozen?, ha]) (fun a ha => hx.nofrz a (by rw [ha, hmun]))⟩, ⟨fun o y hy => ?_, fun o o' h1 h2 he => ?_, fun b i hi => ?_⟩⟩
  · have : o = os.length := by simp at h2; omega
    subst this; rw [hmun]; exact Nat.le_refl _
  · by_cases hl : o < os.length
    · rw [List.getElem?_append_left hl] at hy
      have h0 := hs.obj o y hy
      refine h0.mono hI hO (hb _ h0.lt) (hmu o hl) ?_ ?_ fun _ h => h
      · simp [G.push, Nat.ne_of_lt hl]
      · simp [G.push, Nat.ne_of_lt hl]
    · have := get_lt hy
      have : o = os.length := by simp at this; omega
      subst this
      simp at hy; subst hy
      exact hx
  · simp at h1 h2
    by_cases hl : o < os.length <;> by_cases hl' : o' < os.length
    · rw [hmu o hl, hmu o' hl'] at he; exact hs.inj o o' hl hl' he
    · have : o' = os.length := by omega
      subst this
      rw [hmun, hmu o hl] at he
      have := hs.mu_lt hl; omega
    · have : o = os.length := by omega
      subst this
      rw [hmun, hmu o' hl'] at he
      have := hs.mu_lt hl'; omega
    · omega
  · rw [hca b i hi]; exact hs.imm b i hi

/-- An object is written in its own block. -/
theorem SRep.set {w' : World} {o : Nat} {x x' : TO} (hs : SRep w g os) (hx : os[o]? = some x) (hox : OExt g g o x x') (hrest : w'.os = w.os ∧ w'.tape = w.tape ∧ w'.output = w.output) (hsize : w.heap.size ≤ w'.heap.size)
    (hb : ∀ b, b ≠ g.mu o → w'.heap[b]? = w.heap[b]?) (hI : ∀ i, g.I (g.mu o) i → ca w' (g.mu o) i = ca w (g.mu o) i)
    (hn : (∀ b i, g.I b i → ca w' b i = ca w b i) → (∀ (p : Nat) (y : TO), os[p]? = some y → ∃ y', (os.set o x')[p]? = some y' ∧ OExt g g p y y') → ORep w' g (os.set o x') o x') :
    Ext os w g (os.set o x') w' g ∧ SRep w' g (os.set o x') := by
  have hca : ∀ b i, g.I b i → ca w' b i = ca w b i := by
    intro b i hi
    by_cases he : b = g.mu o
    · subst he; exact hI i hi
    · exact ca_of_heap (hb b he) i
  have hI' : ∀ b i, g.I b i → g.I b i ∧ ca w' b i = ca w b i := fun b i hi => ⟨hi, hca b i hi⟩
  have hol := get_lt hx
  have hO : ∀ (p : Nat) (y : TO), os[p]? = some y → ∃ y', (os.set o x')[p]? = some y' ∧ OExt g g p y y' := by
    intro p y hy
    by_cases hp : o = p
    · subst hp
      rw [hx] at hy; simp at hy; subst hy
      exact ⟨x', by simp [hol], hox⟩
    · exact ⟨y, by rw [List.getElem?_set_ne hp]; exact hy, .refl g p y⟩
  refine ⟨⟨hrest, hsize, hI', fun b i hi => .inl hi, by simp, fun _ _ => .inl rfl, fun o h1 h2 => by simp at h2; omega, hO, fun b _ hne => hb b fun he => hne o hol he.symm, frz_off (B := g.mu o) hb (fun a ha => (hs.obj o _ hx).nofrz a ha) (fun a ha => (hn hca hO).nofrz a ha)⟩, ⟨fun p y hy => ?_, fun p p' h1 h2 he => ?_, fun b i hi => ?_⟩⟩
  · by_cases hp : o = p
    · subst hp
      simp [hol] at hy; subst hy
      exact hn hca hO
    · rw [List.getElem?_set_ne hp] at hy
      refine (hs.obj p y hy).mono hI' hO (hb _ fun he => hp (hs.inj o p hol (get_lt hy) he.symm)) rfl rfl rfl fun _ h => h
  · simp at h1 h2; exact hs.inj p p' h1 h2 he
  · rw [hca b i hi]; exact hs.imm b i hi

/-- Cells that do not change from now on. -/
def G.more (g : G) (J : Nat → Nat → Prop) : G := { g with I := fun b i => g.I b i ∨ J b i }

theorem OExt.more {o : Nat} {x : TO} {J : Nat → Nat → Prop} : OExt g (g.more J) o x x := by
  cases x <;> simp [OExt, G.more]

theorem nilz_rep {I : Nat → Nat → Prop} (v : Value) : RRep w I v (nilz v) := by
  unfold nilz
  split
  · exact .nil none (by simp)
  · exact .sc v
theorem nilz_of {I : Nat → Nat → Prop} {v u : Value} (h : RRep w I v (.sc u)) : RRep w I v (nilz u) := by
  cases h; exact nilz_rep _

theorem freeze1_rep {S S' : TS} {t : TV} {x : RV} {v : Value} (hs : SRep w g S.objs) (hv : CRep w g S.objs v t) (h : freeze1 S t = some (x, S')) :
    ∃ g', Ext S.objs w g S'.objs w g' ∧ SRep w g' S'.objs ∧ RRep w g'.I v x ∧ g'.mu = g.mu ∧ g'.sh = g.sh ∧ g'.room = g.room := by
  unfold freeze1 at h
  split at h
  · simp at h; obtain ⟨rfl, rfl⟩ := h
    exact ⟨g, .refl _ _ _, hs, nilz_of hv, rfl, rfl, rfl⟩
  · simp at h; obtain ⟨rfl, rfl⟩ := h
    refine ⟨g, .refl _ _ _, hs, ?_, rfl, rfl, rfl⟩
    rename_i es c
    have hv' : RRep w g.I v (.lst es c) := hv
    cases hv' with
    | nil c h => exact .nil none (by simp)
    | emp a cap c h => exact .emp a cap none (by simp)
    | lst b off cap sz es c cv q2 q3 q4 q5 q6 => exact .lst b off cap sz es none cv q2 (by simp) q4 q5 q6
  · rename_i o off len ver c
    split at h
    · rename_i sz es v' frz ho
      cases hb : (Nat.beq v' ver && Nat.ble (off + len) es.length) <;> rw [hb] at h
      · cases h
      · simp only [cond_true, Option.some.injEq, Prod.mk.injEq] at h
        obtain ⟨rfl, rfl⟩ := h
        simp only [Bool.and_eq_true] at hb
        have b1 := Nat.eq_of_beq_eq_true hb.1
        have b2 := Nat.le_of_ble_eq_true hb.2
        subst b1
        obtain ⟨aa, cap', e1, ⟨e2, e2'⟩, e3, sz2, es2, w2, fz2, e4, e5, e6⟩ := hv
        rw [ho] at e4
        simp only [Option.some.injEq, TO.arr.injEq] at e4
        obtain ⟨rfl, rfl, rfl, rfl⟩ := e4
        obtain ⟨f1, f2⟩ := e6 rfl
        obtain ⟨C, el, k1, k2, k3, k4, k5, k6, k7⟩ := hs.obj o _ ho
        -- the cells of its elements
        let J : Nat → Nat → Prop := fun b i => b = g.mu o ∧ ∃ j e k y, off ≤ j ∧ j < off + len ∧ es[j]? = some e ∧ e[k]? = some y ∧ i = g.sh o + (j * sz + k)
        have hcell : ∀ (j : Nat) (e : List RV) (k : Nat) (y : RV), es[j]? = some e → e[k]? = some y → ∃ u, ca w (g.mu o) (g.sh o + (j * sz + k)) = some u ∧ RRep w g.I u y := by
          intro j e k y he hy
          obtain ⟨u, hu, hr⟩ := k5 j e k y he hy
          exact ⟨u, by simp [ca, World.cell?, k1, hu], hr⟩
        have hI : ∀ b i, g.I b i → (g.more J).I b i ∧ ca w b i = ca w b i := fun b i hi => ⟨.inl hi, rfl⟩
        have hol := get_lt ho
        have hox : OExt g (g.more J) o (.arr sz es v' frz) (.arr sz es v' (max frz (off + len))) := by simp [OExt, G.more]
        have hO : ∀ (p : Nat) (y : TO), S.objs[p]? = some y → ∃ y', (S.objs.set o (.arr sz es v' (max frz (off + len))))[p]? = some y' ∧ OExt g (g.more J) p y y' := by
          intro p y hy
          by_cases hp : o = p
          · subst hp
            rw [ho] at hy; simp at hy; subst hy
            exact ⟨_, by simp [hol], hox⟩
          · exact ⟨y, by rw [List.getElem?_set_ne hp]; exact hy, .more⟩
        refine ⟨g.more J, ⟨⟨rfl, rfl, rfl⟩, Nat.le_refl _, hI, fun b i hi => ?_, by simp [TS.put], fun _ _ => .inl rfl, fun o h1 h2 => by simp [TS.put] at h2; omega, hO, fun _ _ _ => rfl, fun _ => rfl⟩, ⟨fun p y hy => ?_, fun p p' h1 h2 he => ?_, fun b i hi => ?_⟩, ?_, rfl, rfl, rfl⟩
        · rcases hi with hi | ⟨rfl, _⟩
          · exact .inl hi
          · exact .inr (.inr ⟨o, hol, rfl⟩)
        · by_cases hp : o = p
          · subst hp
            simp [TS.put, hol] at hy; subst hy
            refine ⟨C, el, k1, k2, k3, k4, fun i e j y he hy => ?_, fun k hk => ?_, by omega⟩
            · obtain ⟨u, h1, h2⟩ := k5 i e j y he hy
              exact ⟨u, h1, h2.mono hI⟩
            · have hle : ∀ n, n ≤ max frz (off + len) → g.sh o + n * sz ≤ g.sh o + (max frz (off + len)) * sz := fun n hn => Nat.add_le_add_left (Nat.mul_le_mul_right _ hn) _
              rcases hk with hk | ⟨_, j, e, i, y, q1, q2, q3, q4, q5⟩
              · exact Nat.lt_of_lt_of_le (k6 k hk) (hle _ (by omega))
              · have hi : i < sz := by rw [← k4 j e q3]; exact get_lt q4
                have := hle (j + 1) (by omega)
                rw [Nat.add_mul] at this
                show k < g.sh o + _
                omega
          · simp only [TS.put, List.getElem?_set_ne hp] at hy
            refine (hs.obj p y hy).mono hI hO rfl rfl rfl rfl fun i hi => ?_
            rcases hi with hi | ⟨hi, _⟩
            · exact hi
            · exact absurd (hs.inj p o (get_lt hy) hol hi).symm hp
        · simp [TS.put] at h1 h2; exact hs.inj p p' h1 h2 he
        · rcases hi with hi | ⟨rfl, j, e, k, y, q1, q2, q3, q4, rfl⟩
          · exact hs.imm b i hi
          · obtain ⟨u, h1, _⟩ := hcell j e k y q3 q4
            rw [h1]; rfl
        · have hget : ∀ (i : Nat) (e : List RV), ((es.drop off).take len)[i]? = some e → es[off + i]? = some e ∧ i < len := by
            intro i e he
            rw [List.getElem?_take] at he
            split at he
            · rw [List.getElem?_drop] at he; exact ⟨he, by assumption⟩
            · cases he
          have hlen : ((es.drop off).take len).length = len := by simp; omega
          generalize (es.drop off).take len = L at hget hlen
          rw [e1, ← hlen]
          by_cases hc : cap' = 0
          · have hL : L = [] := by
              cases L with
              | nil => rfl
              | cons x xs => simp at hlen; omega
            subst hL
            cases aa with
            | mk blk ao sp =>
              simp only at e2'
              subst e2'
              exact .lst blk ao cap' sz [] none (fun _ _ => undef) (by simp) (by simp) (by simp) (by simp) (by simp)
          · obtain ⟨f3, f4⟩ := f2 hc
            subst f3
            have hch : ∃ cv : Nat → Nat → Value, ∀ (i : Nat) (e : List RV) (j : Nat) (y : RV), L[i]? = some e → e[j]? = some y → ca w (g.mu o) (g.sh o + ((off + i) * sz + j)) = some (cv i j) ∧ RRep w g.I (cv i j) y := by
              refine ⟨fun i j => (ca w (g.mu o) (g.sh o + ((off + i) * sz + j))).getD undef, fun i e j y he hy => ?_⟩
              obtain ⟨u, h1, h2⟩ := hcell (off + i) e j y (hget i e he).1 hy
              simp only [h1, Option.getD_some]
              exact ⟨trivial, h2⟩
            obtain ⟨cv, hcv⟩ := hch
            refine .lst (g.mu o) (g.sh o + off * sz) cap' sz L none cv (by omega) (by simp) (fun i e he => k4 _ e (hget i e he).1) (fun i e j y he hy => ?_) (fun i e j y he hy => (hcv i e j y he hy).2.mono hI)
            rw [show g.sh o + off * sz + (i * sz + j) = g.sh o + ((off + i) * sz + j) by rw [Nat.add_mul]; omega]
            refine ⟨(hcv i e j y he hy).1, .inr ⟨rfl, off + i, e, j, y, by omega, ?_, (hget i e he).1, hy, rfl⟩⟩
            have := (hget i e he).2
            omega
    · cases h
  · simp at h; obtain ⟨rfl, rfl⟩ := h
    refine ⟨g, .refl _ _ _, hs, ?_, rfl, rfl, rfl⟩
    obtain ⟨vs, h1, h2⟩ := hv
    cases h2
    rw [h1]; exact .sc _
  · cases h

theorem freezeL_rep {t : List TV} {vs : List Value} {x : List RV} : ∀ {g : G} {S S' : TS}, SRep w g S.objs → F2 (CRep w g S.objs) vs t → freezeL S t = some (x, S') →
    ∃ g', Ext S.objs w g S'.objs w g' ∧ SRep w g' S'.objs ∧ F2 (RRep w g'.I) vs x ∧ g'.mu = g.mu ∧ g'.sh = g.sh ∧ g'.room = g.room := by
  induction t generalizing vs x with
  | nil =>
    intro g S S' hs hv h
    simp [freezeL] at h; obtain ⟨rfl, rfl⟩ := h
    cases hv
    exact ⟨g, .refl _ _ _, hs, .nil, rfl, rfl, rfl⟩
  | cons t ts ih =>
    intro g S S' hs hv h
    cases hv with
    | cons hv hvs =>
    simp only [freezeL] at h
    split at h
    · rename_i y S1 h1
      split at h
      · rename_i ys S2 h2
        simp at h; obtain ⟨rfl, rfl⟩ := h
        obtain ⟨g1, x1, s1, r1, m1, n1, p1⟩ := freeze1_rep hs hv h1
        obtain ⟨g2, x2, s2, r2, m2, n2, p2⟩ := ih s1 (hvs.imp fun _ _ => CRep.mono x1.imm x1.obj) h2
        exact ⟨g2, x1.trans x2, s2, .cons (r1.mono x2.imm) r2, m2.trans m1, n2.trans n1, p2.trans p1⟩
      · cases h
    · cases h

end
end Go.TL
