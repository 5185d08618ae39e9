/- The program's code, made ready for proofs: definitions alone. -/
import Derived.Test.YtbobgmjenekahaaGreatTE
set_option linter.unusedVariables false
set_option linter.unusedSimpArgs false
namespace Go.TL

/-- The temporaries, as a function. -/
abbrev Fr := Nat → TV
def upd (f : Fr) (d : Nat) (v : TV) : Fr := fun i => cond (Nat.beq i d) v (f i)
def putF (f : Fr) (dst : Option Nat) (v : TV) : Fr := match dst with | some d => upd f d v | none => f

inductive XO where
  | val (x : Operand)
  | pick (c a b : Operand)
  | alloc (loc : Bool) (zs : List TV)
  | box (loc : Bool) (x : Operand)
  | build (zs : List TV) (ps : List (Nat × Nat × Operand))
  | buildSl (len sz : Nat) (zs : List TV) (ps : List (Nat × Nat × Operand))
  | load (n : Nat) (ag : Bool) (a : Operand)
  | store (n : Nat) (a x : Operand)
  | nilCheck (x : Operand)
  | bin (b : BinOp) (t : TypeId) (x y : Operand) (yt : TypeId)
  | not (x : Operand) (t : TypeId)
  | cl (op : Op)
  | mkFn (g : Nat) (cs : List Operand)
  | mkMap (ag : Bool)
  | mkSl (sz bytes : Nat) (zero : List RV) (l c : Operand)
  | slice (sz : Nat) (x : Operand) (lo hi mx : Option Operand)
  | faddr (off : Nat) (x : Operand)
  | fld (off n : Nat) (ag : Bool) (x : Operand)
  | iarr (len sz : Nat) (x i : Operand)
  | isl (sz : Nat) (x i : Operand)
  | idx (len sz : Nat) (ag : Bool) (x i : Operand)
  | look (ti : TyI) (x i : Operand) (ok : Bool)
  | mapUp (ti : TyI) (m k x : Operand)
  | ext (x : Operand) (i : Nat)
  | app (sz bytes : Nat) (s x : Operand)
  | len (x : Operand)
  | lenM (x : Operand)
  | bltin (ty : TypeId) (c : Call)
  | call (g : Operand) (args : List Operand)

structure XOp where
  dst : Option Nat
  g : Option (Nat × Bool)
  k : Bool                 -- may an address into the frame's own variables come of it?
  il : Bool                -- is its temporary a variable of the frame's own?
  fps : List Nat           -- where such addresses may lie
  o : XO

inductive CC where
  | skip
  | region (W : List Nat) (risk : List (Nat × Nat)) (ops : List XOp)
  | seq (a b : CC)
  | cond (c : Operand) (a b : CC)
  | block (id : Nat) (c : CC)
  | loop (c : CC)
  | exit (id : Nat)
  | ret

inductive XR where
  | tmp (t : Nat)
  | cell (a n : Nat) (ag : Bool)

structure XF where
  nt : Nat
  byref : Bool
  keep : Bool
  loc : List Nat
  res : List XR
  body : CC

def lvp (t : Nat) : TV → TV
  | .lv _ => .fp t 0
  | v => v
def opF (f : Fr) : Operand → TV
  | .tmp t => lvp t (f t)
  | .const v => inj v
  | .global _ => .und
  | .func g => .fn g []

/-- An effect's kind. -/
inductive EK where
  | none | fread (d : Nat) | feff (d : Nat) | rd (os : List Nat) | wr | push (n : Nat) | call (same : Bool)
def Eff.ek : Eff → EK
  | .none => .none
  | .fread d => .fread d
  | .feff d _ => .feff d
  | .rd os => .rd os
  | .wr .. => .wr
  | .push n _ _ => .push n
  | .call S S' _ => .call (sameS S S')
def EK.kind : EK → Nat
  | .rd _ => 1
  | .wr | .push _ | .call _ => 2
  | _ => 0
def clashK : EK → EK → Bool
  | .feff d, .feff e | .feff d, .fread e | .fread d, .feff e => Nat.beq d e
  | .rd _, .push _ => false
  | .push n, .rd os => os.contains n
  | .rd _, .call s | .call s, .rd _ => !s
  | .call s, .call t => !(s && t)
  | a, b => match a.kind, b.kind with | 0, _ | _, 0 | 1, 1 => false | _, _ => true
def noClashK (cs : List EK) : List (Nat × Nat) → Bool
  | [] => true
  | (i, j) :: l => !clashK (cs.getD i .none) (cs.getD j .none) && noClashK cs l

def loadF (loc : List Nat) (f : Fr) (S : TS) (n : Nat) (ag : Bool) : TV → Option Out
  | .fp d off => cond (loc.contains d) (match f d with | .lv cs => (partC n ag cs off).map (⟨·, .fread d⟩) | _ => .none) .none
  | .ep cs off => (partC n ag (cs.map .r) off).map (⟨·, .none⟩)
  | .ptr o off => match S.objs[o]? with | some (.box cs) => (partC n ag cs off).map (⟨·, .rd [o]⟩) | _ => .none
  | .ap o idx off ver =>
    match S.objs[o]? with
    | some (.arr _ es v _) =>
      cond (Nat.beq v ver) (match es[idx]? with | some cs => (partC n ag (cs.map .r) off).map (⟨·, .rd [o]⟩) | .none => .none) .none
    | _ => .none
  | _ => .none

def storeF (loc : List Nat) (f : Fr) (S : TS) (n : Nat) (a v : TV) : Option Out :=
  let vs := v.cells
  cond (Nat.beq vs.length n && vs.all okCell)
    (match a with
    | .fp d off =>
      cond (loc.contains d)
        (match f d with
        | .lv cs => cond (Nat.ble (off + n) cs.length) (some ⟨.und, .feff d (cs.take off ++ vs ++ cs.drop (off + n))⟩) .none
        | _ => .none) .none
    | .ptr o off =>
      match S.objs[o]? with
      | some (.box cs) =>
        cond (Nat.ble (off + n) cs.length)
          (some ⟨.und, .wr [] [o] (S.put o (.box (cs.take off ++ vs ++ cs.drop (off + n))))⟩)
          .none
      | _ => .none
    | .ap o idx off ver =>
      match freezeL S vs with
      | some (xs, S) =>
        match S.objs[o]? with
        | some (.arr sz es w frz) =>
          cond (Nat.beq w ver && Nat.ble frz idx)
            (match es[idx]? with
            | some cs => cond (Nat.ble (off + n) cs.length) (some ⟨.und, .wr [] (o :: v.sls) (S.put o (.arr sz (es.set idx (cs.take off ++ xs ++ cs.drop (off + n))) w frz))⟩) .none
            | .none => .none) .none
        | _ => .none
      | .none => .none
    | _ => .none) .none

def indexSl (S : TS) (sz : Nat) (x : TV) (k : Int) : Option Out :=
  match x with
  | .r (.lst es _) => cond (inRange k es.length) (match es[k.toNat]? with | some cs => cond (Nat.beq cs.length sz) (oval (.ep cs 0)) .none | .none => .none) .none
  | .sl o off len ver _ =>
    match S.objs[o]? with
    | some (.arr sz' es v _) => cond (Nat.beq v ver && Nat.beq sz' sz && Nat.ble (off + len) es.length && inRange k len) (some ⟨.ap o (off + k.toNat) 0 ver, .rd [o]⟩) .none
    | _ => .none
  | _ => .none

def appendX (S : TS) (sz bytes : Nat) (s x : TV) : Option Out :=
  match rdSlice S x, lenT s with
  | some xs, some n =>
    cond (Nat.ble ((n + xs.length) * bytes) roomT && Nat.ble (n + xs.length) roomT && allLen sz xs && xs.all (·.all okR))
      (match xs with
      | [] => some ⟨s, .rd x.sls⟩
      | _ :: _ =>
        match s with
        | .r (.sc (.slice none 0 0)) => newArr S sz xs xs.length .none x.sls
        | .r (.lst es (some c)) => cond (Nat.blt c (n + xs.length) && allLen sz es) (newArr S sz (es ++ xs) (n + xs.length) .none x.sls) .none
        | .sl o off len ver cap =>
          match S.objs[o]? with
          | some (.arr sz' es v frz) =>
            cond (Nat.beq v ver && Nat.beq sz' sz && Nat.ble (off + len) es.length)
              (match cap with
              | some c => cond (Nat.blt c (len + xs.length)) (newArr S sz ((es.drop off).take len ++ xs) (len + xs.length) .none (o :: x.sls)) .none
              | .none =>
                cond (Nat.beq (off + len) es.length)
                  (some ⟨.sl o 0 (len + xs.length) (v + 1) .none, .wr x.sls [o] (S.put o (.arr sz' (es.drop off ++ xs) (v + 1) (frz - off)))⟩) .none) .none
          | _ => .none
        | _ => .none) .none
  | _, _ => .none

def bare (op : Op) (ty : TypeId) : Oper := ⟨none, op, ty, "", #[], none⟩

def binX (P : Program) (f : Fr) (b : BinOp) (t : TypeId) (x y : Operand) (yt : TypeId) (vx vy : TV) : Option Out :=
  match vx, vy with
  | .r (.sc (.int k a)), .r (.sc (.int k' c)) =>
    if k = k' then (match intBin b k a c with | some v => oval (.r (.sc v)) | .none => closedT P (opF f) (bare (.binOp b t x y yt) 0)) else .none
  | .r (.lst (_ :: _) _), .r (.sc (.slice none _ _)) | .sl .., .r (.sc (.slice none _ _)) =>
    nilCmp P t b
  | _, _ => closedT P (opF f) (bare (.binOp b t x y yt) 0)

def evP (f : Fr) (ps : List (Nat × Nat × Operand)) : List (Nat × Nat × TV) := ps.map fun p => (p.1, p.2.1, opF f p.2.2)

def xoT (P : Program) (loc : List Nat) (callF : CallF) (f : Fr) (S : TS) : XO → Option Out
  | .val x => oval (opF f x)
  | .pick c a b => match asBoolT (opF f c) with | some t => oval (cond t (opF f a) (opF f b)) | .none => .none
  | .alloc l zs => cond l (oval (.lv zs)) (some ⟨.ptr S.objs.length 0, .push S.objs.length [] (.box zs)⟩)
  | .box l x =>
    let cs := (opF f x).cells
    cond (cs.all okCell) (cond l (oval (.lv cs)) (some ⟨.ptr S.objs.length 0, .push S.objs.length [] (.box cs)⟩)) .none
  | .build zs ps => match fillT zs (evP f ps) with | some cs => oval (.agg cs) | .none => .none
  | .buildSl len sz zs ps =>
    match fillT zs (evP f ps) with
    | some cs =>
      match freezeL S cs with
      | some (xs, S) => some ⟨.r (.lst (chunks sz len xs) (some len)), match cs.flatMap sl1 with | [] => .none | l => .wr [] l S⟩
      | .none => .none
    | .none => .none
  | .load n ag a => loadF loc f S n ag (opF f a)
  | .store n a x => storeF loc f S n (opF f a) (opF f x)
  | .nilCheck x =>
    match opF f x with
    | .fp d off => oval (.fp d off)
    | .ep cs off => oval (.ep cs off)
    | .ptr p off => oval (.ptr p off)
    | .ap p i off v => oval (.ap p i off v)
    | .fn g cs => oval (.fn g cs)
    | _ => .none
  | .bin b t x y yt => binX P f b t x y yt (opF f x) (opF f y)
  | .not x t => match opF f x with | .r (.sc (.bool b)) => oval (.r (.sc (.bool !b))) | _ => closedT P (opF f) (bare (.unOp .not t x) 0)
  | .cl op => closedT P (opF f) (bare op 0)
  | .mkFn g cs => cond ((cs.map (opF f)).all okRef) (oval (.fn g (cs.map (opF f)))) .none
  | .mkMap ag => some ⟨.mp S.objs.length, .push S.objs.length [] (.map ag [] 0)⟩
  | .mkSl sz bytes zero l c =>
    match asIntT (opF f l), asIntT (opF f c) with
    | some (.ofNat l), some (.ofNat c) =>
      cond (Nat.ble l c && Nat.ble (c * bytes) roomT && Nat.ble c roomT) (newArr S sz (List.replicate c zero) l (some c) []) .none
    | _, _ => .none
  | .slice sz x lo hi mx => sliceT S sz (opF f x) (lo.map (opF f)) (hi.map (opF f)) (mx.map (opF f))
  | .faddr off x => ovalO (addOff off (opF f x))
  | .fld off n ag x => match opF f x with | .agg cs => ovalO (partC n ag cs off) | _ => .none
  | .iarr len sz x i =>
    match asIntT (opF f i) with
    | some k => cond (inRange k len) (match addOff (k.toNat * sz) (opF f x) with | some a => oval a | .none => .none) .none
    | .none => .none
  | .isl sz x i => match asIntT (opF f i) with | some k => indexSl S sz (opF f x) k | .none => .none
  | .idx len sz ag x i =>
    match opF f x with
    | .agg cs => match asIntT (opF f i) with | some k => cond (inRange k len) (ovalO (partC sz ag cs (k.toNat * sz))) .none | .none => .none
    | _ => .none
  | .look ti x i ok => lookupT P S ti (opF f x) (opF f i) ok
  | .mapUp ti m k x => mapUpdateT P S ti (opF f m) (opF f k) (opF f x)
  | .ext x i => match opF f x with | .tup vs => ovalO vs[i]? | _ => .none
  | .app sz bytes s x => appendX S sz bytes (opF f s) (opF f x)
  | .len x => match lenT (opF f x) with | some n => oval (.r (.sc (.int .i64 (n : Nat)))) | .none => .none
  | .lenM x =>
    match opF f x with
    | .mp p => match S.objs[p]? with | some (.map _ es _) => some ⟨.r (.sc (.int .i64 (es.length : Nat))), .rd [p]⟩ | _ => .none
    | _ => .none
  | .bltin ty c => closedT P (opF f) (bare (.call c) ty)
  | .call g args =>
    match opF f g with
    | .fn g cs => match callF g (args.map (opF f) ++ cs) S with | some (v, S', w) => some ⟨v, .call S S' w⟩ | .none => .none
    | _ => .none

def Eff.frF (f : Fr) : Eff → Fr
  | .feff d cs => upd f d (.lv cs)
  | _ => f

def noFpL (f : Fr) (d : Nat) : List Nat → Bool
  | [] => true
  | e :: es => (match f e with | .fp d' _ => !Nat.beq d d' | _ => true) && noFpL f d es
def putOkX (f : Fr) (o : XOp) (v : TV) : Bool :=
  match o.dst with
  | some d => cond o.il (!isFp v && noFpL f d o.fps) (!isLv v)
  | none => true

/-- Go on with what has come of an operation. -/
def bindO (x : Option Out) (k : Out → Prop) : Prop := match x with | some r => k r | none => False
@[congr] theorem bindO_congr {x y : Option Out} {k : Out → Prop} (h : x = y) : bindO x k = bindO y k := by rw [h]
theorem bindO_some (v : TV) (e : Eff) (k : Out → Prop) : bindO (some ⟨v, e⟩) k = k ⟨v, e⟩ := rfl
theorem bindO_none (k : Out → Prop) : bindO none k = False := rfl
/-- Part by what is asked. -/
def askB (c : Bool) (a b : Prop) : Prop := (c = true → a) ∧ (c = false → b)
@[congr] theorem askB_congr {c d : Bool} {a b : Prop} (h : c = d) : askB c a b = askB d a b := by rw [h]
theorem askB_true (a b : Prop) : askB true a b = a := by simp [askB]
theorem askB_false (a b : Prop) : askB false a b = b := by simp [askB]

section
variable (P : Program) (loc : List Nat) (callF : CallF)
def wpX : List XOp → (Fr → TS → List EK → Prop) → Fr → TS → List EK → Prop
  | [], K, f, S, es => K f S es
  | o :: os, K, f, S, es =>
    let go (f : Fr) : Prop := bindO (xoT P loc callF f S o.o) fun r => ((o.k || !isFp r.val) && putOkX f o r.val) = true ∧ wpX os K (putF (r.eff.frF f) o.dst r.val) (r.eff.S S) (r.eff.ek :: es)
    let no (f : Fr) : Prop := putOkX f o (.tup []) = true ∧ wpX os K (putF f o.dst (.tup [])) S (.none :: es)
    match o.g with
    | none => go f
    | some (d, b) =>
      match f d with
      | .r (.sc (.bool c)) => askB c (cond b (go (upd f d (.r (.sc (.bool true))))) (no (upd f d (.r (.sc (.bool true)))))) (cond b (no (upd f d (.r (.sc (.bool false))))) (go (upd f d (.r (.sc (.bool false))))))
      | .tup [] => no f
      | _ => False

def unfp : TV → TV
  | .fp _ _ => .und
  | v => v
def updW (f f' : Fr) : List Nat → Fr
  | [] => f
  | d :: ds => updW (upd f d (unfp (f' d))) f' ds

def loopN (body : (TX → Fr → TS → Prop) → Fr → TS → Prop) (Q : TX → Fr → TS → Prop) : Nat → Fr → TS → Prop
  | 0, _, _ => False
  | n + 1, f, S => body (fun tx f S => match tx with | .normal => loopN body Q n f S | tx => Q tx f S) f S

def wp : CC → (TX → Fr → TS → Prop) → Fr → TS → Prop
  | .skip, Q, f, S => Q .normal f S
  | .region W risk ops, Q, f, S => wpX P loc callF ops (fun f' S' es => noClashK es.reverse risk = true ∧ Q .normal (updW f f' W) S') f S []
  | .seq a b, Q, f, S => wp a (fun tx f S => match tx with | .normal => wp b Q f S | tx => Q tx f S) f S
  | .cond x a b, Q, f, S =>
    match opF f x with
    | .r (.sc (.bool c)) => askB c (wp a Q f S) (wp b Q f S)
    | _ => False
  | .block id c, Q, f, S => wp c (fun tx f S => match tx with | .exit i => Q (_root_.cond (Nat.beq i id) .normal (.exit i)) f S | tx => Q tx f S) f S
  | .loop c, Q, f, S => ∃ n, loopN (wp c) Q n f S
  | .exit id, Q, f, S => Q (.exit id) f S
  | .ret, Q, f, S => Q .ret f S

def resF1 (f : Fr) (S : TS) : XR → Option TV
  | .tmp t => match f t with | .lv _ => .none | v => some v
  | .cell a n ag => match loadF loc f S n ag (opF f (.tmp a)) with | some r => cond (isFp r.val) .none (some r.val) | .none => .none
def resF (f : Fr) (S : TS) : List XR → Option (List TV)
  | [] => some []
  | x :: xs => match resF1 loc f S x, resF f S xs with | some v, some vs => some (v :: vs) | _, _ => .none
end

def initF : Nat → List TV → Fr
  | _, [] => fun _ => .und
  | i, v :: vs => upd (initF (i + 1) vs) i v

/- Making ready. -/
def plParts (pl : Nat → Option (Nat × Nat)) : List (Nat × Operand) → Option (List (Nat × Nat × Operand))
  | [] => some []
  | (i, x) :: ps =>
    match pl i, plParts pl ps with
    | some (off, n), some r => some ((off, n, x) :: r)
    | _, _ => .none

def compOp (P : Program) (loc : List Nat) (o : Oper) : Option XO :=
  match o.op with
  | .move x | .assign x => some (.val x)
  | .pick c a b => some (.pick c a b)
  | .alloc t => match mkTy P t, o.dst with | some i, some d => some (.alloc (loc.contains d) (i.zero.map fun c => TV.r (.sc c))) | _, _ => .none
  | .box _ x => match o.dst with | some d => some (.box (loc.contains d) x) | .none => .none
  | .build t parts =>
    match mkTy P t with
    | some i =>
      match i.d with
      | .struct fs => match plParts (fldOf fs) parts.toList with | some ps => some (.build (i.zero.map fun c => TV.r (.sc c)) ps) | .none => .none
      | .arr _ e =>
        match mkTy P e with
        | some ei => match plParts (fun i => some (i * ei.size, ei.size)) parts.toList with | some ps => some (.build (i.zero.map fun c => TV.r (.sc c)) ps) | .none => .none
        | .none => .none
      | _ => .none
    | .none => .none
  | .buildSlice t len parts =>
    match mkTy P t with
    | some { d := .slice e, .. } =>
      match mkTy P e with
      | some ei =>
        cond (Nat.ble 1 ei.size && Nat.ble (len * ei.size) 16777216)
          (match plParts (fun i => some (i * ei.size, ei.size)) parts.toList with
          | some ps => some (.buildSl len ei.size (List.replicate len (ei.zero.map fun c => TV.r (.sc c))).flatten ps)
          | .none => .none) .none
      | .none => .none
    | _ => .none
  | .load t a => match mkTy P t with | some i => some (.load i.size i.ag a) | .none => .none
  | .store t a x => match mkTy P t with | some i => some (.store i.size a x) | .none => .none
  | .nilCheck x => some (.nilCheck x)
  | .binOp b t x y yt => some (.bin b t x y yt)
  | .unOp op t x => match op with | .not => some (.not x t) | op => some (.cl (.unOp op t x))
  | .convert s d x => some (.cl (.convert s d x))
  | .makeFunc (.func g) first captured => cond first.isEmpty (some (.mkFn g captured.toList)) .none
  | .makeMap t r =>
    match r, mkTy P t with
    | .none, some { d := .map _ e, .. } => match mkTy P e with | some ei => some (.mkMap ei.ag) | .none => .none
    | _, _ => .none
  | .makeSlice t l c =>
    match mkTy P t with
    | some { d := .slice e, .. } => match mkTy P e with | some ei => some (.mkSl ei.size ei.bytes (ei.zero.map .sc) l c) | .none => .none
    | _ => .none
  | .slice t x lo hi mx =>
    match mkTy P t with
    | some { d := .slice e, .. } => match mkTy P e with | some ei => some (.slice ei.size x lo hi mx) | .none => .none
    | _ => .none
  | .fieldAddr s x i =>
    match mkTy P s with
    | some { d := .struct fs, .. } => match fs[i]? with | some (off, n, _) => cond (Nat.beq n 0) .none (some (.faddr off x)) | .none => .none
    | _ => .none
  | .field t x i =>
    match mkTy P t with
    | some { d := .struct fs, .. } => match fs[i]? with | some (off, n, ag) => some (.fld off n ag x) | .none => .none
    | _ => .none
  | .indexAddr t x i =>
    match mkTy P t with
    | some { d := .arr len e, .. } => match mkTy P e with | some ei => some (.iarr len ei.size x i) | .none => .none
    | some { d := .slice e, .. } => match mkTy P e with | some ei => some (.isl ei.size x i) | .none => .none
    | _ => .none
  | .index t x i =>
    match mkTy P t with
    | some { d := .arr len e, .. } => match mkTy P e with | some ei => some (.idx len ei.size ei.ag x i) | .none => .none
    | _ => .none
  | .lookup t x i ok => match mkTy P t with | some ti => some (.look ti x i ok) | .none => .none
  | .mapUpdate t m k x | .insert t m k x => match mkTy P t with | some ti => some (.mapUp ti m k x) | .none => .none
  | .extract t i => some (.ext t i)
  | .call c =>
    match c.callee with
    | .builtin b =>
      match b, c.args.toList, c.argTypes[0]? with
      | .append, [s, x], some t =>
        match mkTy P t, mkTy P ((c.argTypes[1]?).getD 0) with
        | some { d := .slice e, .. }, some { d := .slice _, .. } => match mkTy P e with | some ei => some (.app ei.size ei.bytes s x) | .none => .none
        | _, _ => .none
      | .len, [x], some t =>
        match mkTy P t with
        | some { d := .slice _, .. } => some (.len x)
        | some { d := .map _ _, .. } => some (.lenM x)
        | _ => .none
      | .min, _, some _ | .max, _, some _ => some (.bltin o.type c)
      | _, _, _ => .none
    | .value g => some (.call g c.args.toList)
    | .invoke _ _ => .none
  | _ => .none

def inL (L : List Nat) : Operand → Bool
  | .tmp t => L.contains t
  | _ => true
/-- What an operation looks at. -/
def opnds : Op → List Operand
  | .call c => (match c.callee with | .value g => [g] | _ => []) ++ c.args.toList
  | .build _ ps | .buildSlice _ _ ps => ps.toList.map (·.2)
  | .makeFunc _ _ captured => captured.toList
  | .slice _ x l h m => x :: (l.toList ++ h.toList ++ m.toList)
  | op => op.operands.toList
def gT (ops : List Oper) (o : Oper) : Option (Option (Nat × Bool)) :=
  match o.guard with
  | .none => some .none
  | some (j, b) => match (ops[j]?).bind (·.dst) with | some d => some (some (d, b)) | .none => .none

def isStore : Op → Bool
  | .store .. => true
  | _ => false
def isStX : XO → Bool
  | .store .. => true
  | _ => false
def addD (L : List Nat) : Option Nat → List Nat
  | some d => d :: L
  | .none => L

/-- N: which temporaries there are. -/
def compOps (P : Program) (loc : List Nat) (N : Tr) (all : List Oper) : List Oper → List Nat → List Nat → Option (List XOp)
  | [], _, _ => some []
  | o :: os, L, F =>
    match compOp P loc o, gT all o, compOps P loc N all os (addD L o.dst) (cond (fpKind o.op) (addD F o.dst) F) with
    | some x, some g, some r =>
      cond ((opnds o.op).all (inL L) && (match g with | some (d, _) => L.contains d | .none => true) && (match o.dst with | some d => N.has d | .none => true) && (!isStX x || isStore o.op))
        (some (⟨o.dst, g, fpKind o.op, match o.dst with | some d => loc.contains d | .none => false, match o.dst with | some d => cond (loc.contains d) F [] | .none => [], x⟩ :: r)) .none
    | _, _, _ => .none

def dstsL : List Oper → List Nat
  | [] => []
  | o :: os => addD (dstsL os) o.dst
def wL (loc G : List Nat) (ops : List Oper) : List Nat :=
  (dstsL ops).filter G.contains ++ cond (ops.any fun o => isStore o.op) loc []

def compC (P : Program) (fi : FnI) (N : Tr) (G : List Nat) : Code → Option CC
  | .skip => some .skip
  | .region id ops draw =>
    match compOps P fi.loc N ops.toList ops.toList G [] with
    | some l => some (.region (wL fi.loc G ops.toList).eraseDups (cond draw (riskOf fi.risk id) []) l)
    | .none => .none
  | .seq a b => match compC P fi N G a, compC P fi N G b with | some a, some b => some (.seq a b) | _, _ => .none
  | .cond x a b => cond (inL G x) (match compC P fi N G a, compC P fi N G b with | some a, some b => some (.cond x a b) | _, _ => .none) .none
  | .block id c => match compC P fi N G c with | some c => some (.block id c) | .none => .none
  | .loop c => match compC P fi N G c with | some c => some (.loop c) | .none => .none
  | .exit id => some (.exit id)
  | .ret => some .ret
  | .label _ => some .skip
  | _ => .none

/-- The temporaries that last. -/
def freeOps (all : List Oper) : List Oper → List Nat → List Nat
  | [], _ => []
  | o :: os, D =>
    let u := (opnds o.op).filterMap fun x => match x with | .tmp t => some t | _ => .none
    let u := match gT all o with | some (some (d, _)) => d :: u | _ => u
    u.filter (fun t => !D.contains t) ++ freeOps all os (addD D o.dst)
def freeC : Code → List Nat
  | .region _ ops _ => freeOps ops.toList ops.toList []
  | .seq a b => freeC a ++ freeC b
  | .cond x a b => (match x with | .tmp t => [t] | _ => []) ++ freeC a ++ freeC b
  | .block _ c | .loop c => freeC c
  | _ => []
def resT : ResultVar → Nat
  | .tmp t => t
  | .cell a _ => a
def glob (fi : FnI) (fn : Func) (body : Code) : List Nat := (fi.loc ++ fn.results.toList.map resT ++ freeC body).eraseDups

def compR (P : Program) : List ResultVar → Option (List XR)
  | [] => some []
  | .tmp t :: r => match compR P r with | some r => some (.tmp t :: r) | .none => .none
  | .cell a t :: r => match mkTy P t, compR P r with | some i, some r => some (.cell a i.size i.ag :: r) | _, _ => .none

def compF (P : Program) (cfg : Cfg) (f : Nat) : Option XF :=
  match P.funcs[f]? with
  | .none => .none
  | some fn =>
    match fn.body with
    | .none => .none
    | some body =>
      let fi := cfg.get f
      let G := glob fi fn body
      match compC P fi (Tr.mk 12 fn.ntmps) G body, compR P fn.results.toList with
      | some c, some r => cond (fi.loc.all G.contains && G.all (Tr.mk 12 fn.ntmps).has && (fn.results.toList.all fun x => G.contains (resT x))) (some ⟨fn.ntmps, fi.byref, fi.keep, fi.loc, r, c⟩) .none
      | _, _ => .none
end Go.TL
/- One operation, made ready. -/
namespace Go.TL

section
variable {P : Program} {loc : List Nat} {callF : CallF} {base : Nat} {fr : Tr} {f : Fr} {S : TS}

theorem opF_eq {x : Operand} {L : List Nat} (hx : inL L x = true) (h : ∀ i, L.contains i = true → fr.get i = f i) : operand fr x = opF f x := by
  cases x with
  | tmp t =>
    simp only [operand, opF, h t hx]
    cases f t <;> rfl
  | _ => rfl

theorem loadT_of (hl : ∀ d, loc.contains d = true → fr.get d = f d) {n : Nat} {ag : Bool} {a : TV} {r : Out} (h : loadF loc f S n ag a = some r) : loadT fr S n ag a = some r := by
  cases a with
  | fp d off =>
    simp only [loadF] at h
    obtain ⟨h1, h⟩ := condT h
    simp only [loadT, hl d h1]
    cases hf : f d <;> rw [hf] at h <;> exact h
  | ptr o off => simp only [loadF] at h; simp only [loadT]; cases hf : S.objs[o]? with
    | none => rw [hf] at h; exact h
    | some y => rw [hf] at h; cases y <;> exact h
  | ap o idx off ver => simp only [loadF] at h; simp only [loadT]; cases hf : S.objs[o]? with
    | none => rw [hf] at h; exact h
    | some y =>
      rw [hf] at h
      cases y with
      | arr sz es v frz => simp only at h ⊢; cases he : es[idx]? <;> rw [he] at h <;> exact h
      | _ => exact h
  | _ => exact h

theorem storeT_of (hl : ∀ d, loc.contains d = true → fr.get d = f d) {n : Nat} {a v : TV} {r : Out} (h : storeF loc f S n a v = some r) : storeT fr S base n a v = some r := by
  unfold storeF at h
  unfold storeT
  obtain ⟨h1, h⟩ := condT h
  simp only [h1, cond_true]
  cases a with
  | fp d off =>
    simp only at h ⊢
    obtain ⟨h2, h⟩ := condT h
    simp only [hl d h2]
    cases hf : f d <;> rw [hf] at h <;> exact h
  | ptr o off => simp only at h ⊢; cases hf : S.objs[o]? with
    | none => rw [hf] at h; exact h
    | some y => rw [hf] at h; cases y <;> exact h
  | ap o idx off ver =>
    simp only at h ⊢
    cases hz : freezeL S v.cells with
    | none => rw [hz] at h; exact h
    | some z =>
      rw [hz] at h
      simp only at h ⊢
      cases hf : z.2.objs[o]? with
      | none => rw [hf] at h; exact h
      | some y =>
        rw [hf] at h
        cases y with
        | arr sz es v frz => simp only at h ⊢; cases he : es[idx]? <;> rw [he] at h <;> exact h
        | _ => exact h
  | _ => exact h

theorem plain_congr {ev ev' : Operand → TV} : ∀ {l : List Operand}, (∀ y, y ∈ l → ev y = ev' y) → plainOps ev l = plainOps ev' l
  | [], _ => rfl
  | x :: l, h => by
    simp only [plainOps, h x (List.mem_cons_self ..), plain_congr fun y hy => h y (List.mem_cons_of_mem _ hy)]

theorem evParts_pl {ev : Operand → TV} {pl : Nat → Option (Nat × Nat)} : ∀ {ps : List (Nat × Operand)} {qs : List (Nat × Nat × Operand)}, plParts pl ps = some qs → (∀ y, y ∈ ps.map (·.2) → ev y = opF f y) → evParts ev pl ps = some (evP f qs)
  | [], qs, h, _ => by simp [plParts] at h; subst h; rfl
  | (i, x) :: ps, qs, h, hv => by
    simp only [plParts] at h
    split at h
    · rename_i off n r h1 h2
      simp only [Option.some.injEq] at h
      subst h
      have ih := evParts_pl h2 fun y hy => hv y (by simp only [List.map_cons, List.mem_cons]; exact .inr hy)
      simp only [evParts, h1, ih, evP, List.map_cons, hv x (by simp)]
    · cases h

theorem closed_bin {o : Oper} {b : BinOp} {t : TypeId} {x y : Operand} {yt : TypeId} (ho : o.op = .binOp b t x y yt) (hx : operand fr x = opF f x) (hy : operand fr y = opF f y) :
    closedT P (operand fr) o = closedT P (opF f) (bare (.binOp b t x y yt) 0) := by
  unfold closedT execOp
  simp only [ho, bare, Op.operands, plainOps, hx, hy]

theorem closed_un {o : Oper} {u : UnOp} {t : TypeId} {x : Operand} (ho : o.op = .unOp u t x) (hx : operand fr x = opF f x) :
    closedT P (operand fr) o = closedT P (opF f) (bare (.unOp u t x) 0) := by
  unfold closedT execOp
  simp only [ho, bare, Op.operands, plainOps, hx]

theorem closed_conv {o : Oper} {s d : TypeId} {x : Operand} (ho : o.op = .convert s d x) (hx : operand fr x = opF f x) :
    closedT P (operand fr) o = closedT P (opF f) (bare (.convert s d x) 0) := by
  unfold closedT execOp
  simp only [ho, bare, Op.operands, plainOps, hx]

theorem closed_bltin {o : Oper} {c : Call} {b : Builtin} (ho : o.op = .call c) (hb : c.callee = .builtin b) (hx : ∀ y, y ∈ c.args.toList → operand fr y = opF f y) :
    closedT P (operand fr) o = closedT P (opF f) (bare (.call c) o.type) := by
  unfold closedT execOp
  have h1 : c.operands.toList = c.args.toList := by simp [Call.operands, hb]
  have h2 : plainOps (operand fr) c.args.toList = plainOps (opF f) c.args.toList := plain_congr hx
  have h3 : (c.args.map fun x => (toV (operand fr x)).getD undef) = c.args.map fun x => (toV (opF f x)).getD undef := by
    apply Array.map_congr_left
    intro y hy
    rw [hx y (by simpa using hy)]
  simp only [ho, bare, Op.operands, h1, h2, resolve, hb, h3]

theorem binT_of {o : Oper} {b : BinOp} {t : TypeId} {x y : Operand} {yt : TypeId} (ho : o.op = .binOp b t x y yt) (hx : operand fr x = opF f x) (hy : operand fr y = opF f y) (vx vy : TV) :
    binT P (operand fr) o t b vx vy = binX P f b t x y yt vx vy := by
  unfold binT binX
  rw [closed_bin ho hx hy]
  split
  · rename_i k a k' c
    by_cases hk : k = k'
    · simp only [hk, if_true]; cases intBin b k' a c <;> rfl
    · simp only [hk, if_false]
  · rfl
  · rfl
  · rename_i h1 h2 h3
    split
    · exact (h1 _ _ _ _ rfl rfl).elim
    · exact (h2 _ _ _ _ _ rfl rfl).elim
    · exact (h3 _ _ _ _ _ _ _ rfl rfl).elim
    · rfl

theorem indexSl_of {i : TyI} {e : TypeId} {ei : TyI} {x : TV} {k : Int} (hi : i.d = .slice e) (he : mkTy P e = some ei) : indexAddrT P S i x k = indexSl S ei.size x k := by
  unfold indexAddrT indexSl
  simp only [hi, he]
  cases x with
  | r y => cases y with
    | sc v => rfl
    | lst es c => simp only; cases es[k.toNat]? <;> rfl
  | sl o off len ver c => simp only; cases S.objs[o]? with
    | none => rfl
    | some y => cases y <;> rfl
  | _ => rfl

theorem appendX_of {e : TypeId} {ei : TyI} {s x : TV} (he : mkTy P e = some ei) : appendT P S e s x = appendX S ei.size ei.bytes s x := by
  unfold appendT appendX
  simp only [he]
  cases rdSlice S x with
  | none => rfl
  | some xs => cases lenT s with
    | none => rfl
    | some n =>
      simp only
      congr 1

theorem opT_of_xo {o : Oper} {x : XO} {r : Out} (hc : compOp P loc o = some x) (hv : ∀ y, y ∈ opnds o.op → operand fr y = opF f y) (hl : ∀ d, loc.contains d = true → fr.get d = f d)
    (h : xoT P loc callF f S x = some r) : opT P loc callF base fr S o = some r := by
  cases hop : o.op with
  | move y =>
    simp only [compOp, hop, Option.some.injEq] at hc; subst hc
    rw [hop] at hv
    simp only [opT, hop, hv y (by simp [opnds, Op.operands])]; exact h
  | assign y =>
    simp only [compOp, hop, Option.some.injEq] at hc; subst hc
    rw [hop] at hv
    simp only [opT, hop, hv y (by simp [opnds, Op.operands])]; exact h
  | pick c a b =>
    simp only [compOp, hop, Option.some.injEq] at hc; subst hc
    rw [hop] at hv
    simp only [opT, hop, hv c (by simp [opnds, Op.operands]), hv a (by simp [opnds, Op.operands]), hv b (by simp [opnds, Op.operands])]; exact h
  | alloc t =>
    simp only [compOp, hop] at hc
    split at hc
    · rename_i i d h1 h2
      simp only [Option.some.injEq] at hc; subst hc
      simp only [opT, hop, h1, h2]; exact h
    · cases hc
  | box t y =>
    simp only [compOp, hop] at hc
    split at hc
    · rename_i d h2
      simp only [Option.some.injEq] at hc; subst hc
      rw [hop] at hv
      simp only [opT, hop, h2, hv y (by simp [opnds, Op.operands])]; exact h
    · cases hc
  | build t parts =>
    rw [hop] at hv
    simp only [compOp, hop] at hc
    split at hc
    · rename_i i h1
      split at hc
      · rename_i fs h2
        split at hc
        · rename_i ps h3
          simp only [Option.some.injEq] at hc; subst hc
          simp only [opT, hop, h1, h2, evParts_pl h3 fun y hy => hv y hy]
          simp only [xoT] at h
          cases hf : fillT (i.zero.map fun c => TV.r (.sc c)) (evP f ps) <;> rw [hf] at h <;> exact h
        · cases hc
      · rename_i n e h2
        split at hc
        · rename_i ei h4
          split at hc
          · rename_i ps h3
            simp only [Option.some.injEq] at hc; subst hc
            simp only [opT, hop, h1, h2, h4, evParts_pl h3 fun y hy => hv y hy]
            simp only [xoT] at h
            cases hf : fillT (i.zero.map fun c => TV.r (.sc c)) (evP f ps) <;> rw [hf] at h <;> exact h
          · cases hc
        · cases hc
      · cases hc
    · cases hc
  | buildSlice t len parts =>
    rw [hop] at hv
    simp only [compOp, hop] at hc
    split at hc
    · rename_i a1 a2 a3 a4 e h1
      split at hc
      · rename_i ei h4
        obtain ⟨h5, hc⟩ := condT hc
        split at hc
        · rename_i ps h3
          simp only [Option.some.injEq] at hc; subst hc
          simp only [opT, hop, h1, h4, h5, cond_true, evParts_pl h3 fun y hy => hv y hy]
          simp only [xoT] at h
          cases hf : fillT (List.replicate len (ei.zero.map fun c => TV.r (.sc c))).flatten (evP f ps) with
          | none => rw [hf] at h; exact h
          | some cs =>
            rw [hf] at h
            simp only at h ⊢
            cases hz : freezeL S cs with
            | none => rw [hz] at h; exact h
            | some z =>
              rw [hz] at h
              simp only at h ⊢
              cases hs : cs.flatMap sl1 <;> rw [hs] at h <;> exact h
        · cases hc
      · cases hc
    · cases hc
  | load t a =>
    rw [hop] at hv
    simp only [compOp, hop] at hc
    split at hc
    · rename_i i h1
      simp only [Option.some.injEq] at hc; subst hc
      simp only [opT, hop, h1, hv a (by simp [opnds, Op.operands])]
      exact loadT_of hl h
    · cases hc
  | store t a y =>
    rw [hop] at hv
    simp only [compOp, hop] at hc
    split at hc
    · rename_i i h1
      simp only [Option.some.injEq] at hc; subst hc
      simp only [opT, hop, h1, hv a (by simp [opnds, Op.operands]), hv y (by simp [opnds, Op.operands])]
      exact storeT_of hl h
    · cases hc
  | nilCheck y =>
    rw [hop] at hv
    simp only [compOp, hop, Option.some.injEq] at hc; subst hc
    simp only [opT, hop, hv y (by simp [opnds, Op.operands])]
    simp only [xoT] at h
    cases hf : opF f y <;> rw [hf] at h <;> exact h
  | binOp b t y z yt =>
    rw [hop] at hv
    simp only [compOp, hop, Option.some.injEq] at hc; subst hc
    have h1 := hv y (by simp [opnds, Op.operands])
    have h2 := hv z (by simp [opnds, Op.operands])
    simp only [opT, hop]
    rw [binT_of hop h1 h2, h1, h2]
    exact h
  | unOp u t y =>
    rw [hop] at hv
    have h1 := hv y (by simp [opnds, Op.operands])
    have hcl := closed_un (P := P) hop h1
    simp only [compOp, hop] at hc
    split at hc
    · simp only [Option.some.injEq] at hc; subst hc
      simp only [opT, hop, hcl, h1]
      simp only [xoT] at h
      split at h
      · rename_i b hb
        simp only [hb]; exact h
      · rename_i hn
        split
        · rename_i b _ hb
          exact (hn _ hb).elim
        · exact h
    · rename_i hn
      simp only [Option.some.injEq] at hc; subst hc
      simp only [opT, hop, hcl, h1]
      split
      · rename_i b _ hb
        exact (hn rfl).elim
      · exact h
  | convert s d y =>
    rw [hop] at hv
    have h1 := hv y (by simp [opnds, Op.operands])
    simp only [compOp, hop, Option.some.injEq] at hc; subst hc
    simp only [opT, hop]
    rw [closed_conv hop h1]
    exact h
  | makeFunc fn first captured =>
    rw [hop] at hv
    simp only [compOp, hop] at hc
    cases fn with
    | func g =>
      simp only at hc
      obtain ⟨h1, hc⟩ := condT hc
      simp only [Option.some.injEq] at hc; subst hc
      have : captured.toList.map (operand fr) = captured.toList.map (opF f) := List.map_congr_left fun y hy => hv y hy
      simp only [opT, hop, h1, this, Bool.true_and]
      exact h
    | _ => cases hc
  | makeMap t r =>
    simp only [compOp, hop] at hc
    split at hc
    · rename_i a1 a2 a3 a4 k e h1
      split at hc
      · rename_i ei h2
        simp only [Option.some.injEq] at hc; subst hc
        simp only [opT, hop, h1, h2]
        exact h
      · cases hc
    · cases hc
  | makeSlice t l c =>
    rw [hop] at hv
    simp only [compOp, hop] at hc
    split at hc
    · rename_i a1 a2 a3 a4 e h1
      split at hc
      · rename_i ei h2
        simp only [Option.some.injEq] at hc; subst hc
        simp only [opT, hop, h1, hv l (by simp [opnds, Op.operands]), hv c (by simp [opnds, Op.operands])]
        simp only [xoT] at h
        split at h
        · rename_i hl hc
          simp only [hl, hc, h2]
          exact h
        · cases h
      · cases hc
    · cases hc
  | slice t y lo hi mx =>
    rw [hop] at hv
    simp only [compOp, hop] at hc
    split at hc
    · rename_i a1 a2 a3 a4 e h1
      split at hc
      · rename_i ei h2
        simp only [Option.some.injEq] at hc; subst hc
        have hlo : lo.map (operand fr) = lo.map (opF f) := by cases lo <;> simp; exact hv _ (by simp [opnds])
        have hhi : hi.map (operand fr) = hi.map (opF f) := by cases hi <;> simp; exact hv _ (by simp [opnds])
        have hmx : mx.map (operand fr) = mx.map (opF f) := by cases mx <;> simp; exact hv _ (by simp [opnds])
        simp only [opT, hop, h1, h2, hv y (by simp [opnds]), hlo, hhi, hmx]
        exact h
      · cases hc
    · cases hc
  | fieldAddr t y i =>
    rw [hop] at hv
    simp only [compOp, hop] at hc
    split at hc
    · rename_i a1 a2 a3 a4 fs h1
      split at hc
      · rename_i off n ag h2
        cases h3 : Nat.beq n 0 <;> rw [h3] at hc
        · simp only [cond_false, Option.some.injEq] at hc; subst hc
          simp only [opT, hop, h1, fieldAddrT, h2, h3, cond_false, hv y (by simp [opnds, Op.operands])]
          exact h
        · cases hc
      · cases hc
    · cases hc
  | field t y i =>
    rw [hop] at hv
    simp only [compOp, hop] at hc
    split at hc
    · rename_i a1 a2 a3 a4 fs h1
      split at hc
      · rename_i off n ag h2
        simp only [Option.some.injEq] at hc; subst hc
        simp only [opT, hop, h1, hv y (by simp [opnds, Op.operands])]
        simp only [xoT] at h
        split at h
        · rename_i cs hcs
          simp only [hcs, h2]; exact h
        · cases h
      · cases hc
    · cases hc
  | indexAddr t y i =>
    rw [hop] at hv
    have hy := hv y (by simp [opnds, Op.operands])
    have hi := hv i (by simp [opnds, Op.operands])
    simp only [compOp, hop] at hc
    split at hc
    · rename_i a1 a2 a3 a4 len e h1
      split at hc
      · rename_i ei h2
        simp only [Option.some.injEq] at hc; subst hc
        simp only [opT, hop, h1, hy, hi]
        simp only [xoT] at h
        split at h
        · rename_i k hk
          simp only [hk, indexAddrT, h2]
          cases hb : inRange k len <;> rw [hb] at h
          · cases h
          · simp only [cond_true] at h ⊢
            cases ha : addOff (k.toNat * ei.size) (opF f y) <;> rw [ha] at h <;> exact h
        · cases h
      · cases hc
    · rename_i a1 a2 a3 a4 e h1
      split at hc
      · rename_i ei h2
        simp only [Option.some.injEq] at hc; subst hc
        simp only [opT, hop, h1, hy, hi]
        simp only [xoT] at h
        split at h
        · rename_i k hk
          simp only [hk]
          rw [indexSl_of (e := e) rfl h2]
          exact h
        · cases h
      · cases hc
    · cases hc
  | index t y i =>
    rw [hop] at hv
    have hy := hv y (by simp [opnds, Op.operands])
    have hi := hv i (by simp [opnds, Op.operands])
    simp only [compOp, hop] at hc
    split at hc
    · rename_i a1 a2 a3 a4 len e h1
      split at hc
      · rename_i ei h2
        simp only [Option.some.injEq] at hc; subst hc
        simp only [opT, hop, h1, hy, hi]
        simp only [xoT] at h
        split at h
        · rename_i cs hcs
          split at h
          · rename_i k hk
            simp only [hcs, hk, h2]
            exact h
          · cases h
        · cases h
      · cases hc
    · cases hc
  | lookup t y i ok =>
    rw [hop] at hv
    simp only [compOp, hop] at hc
    split at hc
    · rename_i ti h1
      simp only [Option.some.injEq] at hc; subst hc
      simp only [opT, hop, h1, hv y (by simp [opnds, Op.operands]), hv i (by simp [opnds, Op.operands])]
      exact h
    · cases hc
  | mapUpdate t m k y =>
    rw [hop] at hv
    simp only [compOp, hop] at hc
    split at hc
    · rename_i ti h1
      simp only [Option.some.injEq] at hc; subst hc
      simp only [opT, hop, h1, hv y (by simp [opnds, Op.operands]), hv m (by simp [opnds, Op.operands]), hv k (by simp [opnds, Op.operands])]
      exact h
    · cases hc
  | insert t m k y =>
    rw [hop] at hv
    simp only [compOp, hop] at hc
    split at hc
    · rename_i ti h1
      simp only [Option.some.injEq] at hc; subst hc
      simp only [opT, hop, h1, hv y (by simp [opnds, Op.operands]), hv m (by simp [opnds, Op.operands]), hv k (by simp [opnds, Op.operands])]
      exact h
    · cases hc
  | extract y i =>
    rw [hop] at hv
    simp only [compOp, hop, Option.some.injEq] at hc; subst hc
    simp only [opT, hop, hv y (by simp [opnds, Op.operands])]
    simp only [xoT] at h
    cases hf : opF f y <;> rw [hf] at h <;> exact h
  | call c =>
    rw [hop] at hv
    simp only [compOp, hop] at hc
    split at hc
    · rename_i b hb
      have hargs : ∀ y, y ∈ c.args.toList → operand fr y = opF f y := fun y hy => hv y (by simp only [opnds, hb]; simpa using hy)
      have hcl := closed_bltin (P := P) hop hb hargs
      split at hc
      · rename_i s y t h1 h2
        split at hc
        · rename_i _ _ a1 a2 a3 a4 e b1 b2 b3 b4 e2 h3 h4
          split at hc
          · rename_i ei h5
            simp only [Option.some.injEq] at hc; subst hc
            simp only [opT, hop, hb, h2, h1, List.map_cons, List.map_nil, builtinT, h3, h4, hargs s (by rw [h1]; simp), hargs y (by rw [h1]; simp)]
            rw [appendX_of h5]
            exact h
          · cases hc
        · cases hc
      · rename_i y t h1 h2
        split at hc
        · rename_i a1 a2 a3 a4 e h3
          simp only [Option.some.injEq] at hc; subst hc
          simp only [opT, hop, hb, h2, h1, List.map_cons, List.map_nil, builtinT, h3, hargs y (by rw [h1]; simp)]
          simp only [xoT] at h
          cases hf : lenT (opF f y) <;> rw [hf] at h <;> exact h
        · rename_i a1 a2 a3 a4 k e h3
          simp only [Option.some.injEq] at hc; subst hc
          simp only [opT, hop, hb, h2, h1, List.map_cons, List.map_nil, builtinT, h3, hargs y (by rw [h1]; simp)]
          simp only [xoT] at h
          split at h
          · rename_i p hp
            simp only [hp]
            cases hf : S.objs[p]? with
            | none => rw [hf] at h; exact h
            | some z => rw [hf] at h; cases z <;> exact h
          · cases h
        · cases hc
      · rename_i t h2
        simp only [Option.some.injEq] at hc; subst hc
        simp only [opT, hop, hb, h2, builtinT, hcl]
        exact h
      · rename_i t h2
        simp only [Option.some.injEq] at hc; subst hc
        simp only [opT, hop, hb, h2, builtinT, hcl]
        exact h
      · cases hc
    · rename_i g hg
      simp only [Option.some.injEq] at hc; subst hc
      have h1 := hv g (by simp [opnds, hg])
      have hmap : c.args.toList.map (operand fr) = c.args.toList.map (opF f) := List.map_congr_left fun y hy => hv y (by simp only [opnds, hg]; simp only [List.mem_append]; exact .inr hy)
      simp only [opT, hop, hg, h1, hmap]
      simp only [xoT] at h
      split at h
      · rename_i g cs hg
        simp only [hg]
        split at h
        · rename_i v S' w hw
          simp only [hw]; exact h
        · cases h
      · cases h
    · cases hc
  | _ => simp only [compOp, hop] at hc; cases hc
end
end Go.TL
/- The code, made ready, is right. -/
namespace Go.TL

theorem upd_same {f : Fr} {d : Nat} {v : TV} (h : f d = v) : upd f d v = f := by
  funext i
  unfold upd
  cases hb : Nat.beq i d
  · rfl
  · rw [Nat.eq_of_beq_eq_true hb, cond_true, h]

theorem upd_get {f : Fr} {d i : Nat} {v : TV} : upd f d v i = if d = i then v else f i := by
  unfold upd
  cases hb : Nat.beq i d
  · have : d ≠ i := fun h => by rw [h, Nat.beq_refl] at hb; cases hb
    simp [this]
  · simp [Nat.eq_of_beq_eq_true hb]

def fpD : List Oper → List Nat
  | [] => []
  | o :: os => cond (fpKind o.op) (addD (fpD os) o.dst) (fpD os)

theorem mem_addD {L : List Nat} {d : Option Nat} {i : Nat} : i ∈ addD L d ↔ d = some i ∨ i ∈ L := by
  cases d with
  | none => simp [addD]
  | some d => simp [addD]; constructor <;> rintro (h | h) <;> first | exact .inl h.symm | exact .inr h

theorem unfp_of {v : TV} (h : isFp v = false) : unfp v = v := by cases v <;> first | rfl | cases h
theorem unfp_nofp (v : TV) : isFp (unfp v) = false := by cases v <;> rfl

theorem set_get (fr : Tr) (d t : Nat) (v : TV) (h : fr.has d = true) : (fr.set d v).get t = if d = t then v else fr.get t := by
  rw [Tr.get_set]; simp [h]

theorem und_get (fr : Tr) (d t : Nat) : (fr.set d .und).get t = if d = t then .und else fr.get t := by
  rw [Tr.get_set]; split <;> simp

theorem forget_get (t : Nat) : ∀ (ops : List Oper) (fr : Tr), (∀ t, isFp (fr.get t) = true → t ∈ fpD ops) → (forget ops fr).get t = unfp (fr.get t)
  | [], fr, h => by
    rw [forget, unfp_of]
    cases hf : isFp (fr.get t)
    · rfl
    · have := h t hf; simp [fpD] at this
  | o :: os, fr, h => by
    rw [forget]
    cases hk : fpKind o.op
    · simp only [cond_false]
      exact forget_get t os fr fun t ht => by have := h t ht; simpa [fpD, hk] using this
    · simp only [cond_true]
      cases hd : o.dst with
      | none =>
        simp only
        exact forget_get t os fr fun t ht => by have := h t ht; simpa [fpD, hk, hd, addD] using this
      | some d =>
        simp only
        have h' : ∀ t, isFp (fr.get t) = true → t = d ∨ t ∈ fpD os := fun t ht => by have := h t ht; simpa [fpD, hk, hd, addD] using this
        cases hf : isFp (fr.get d)
        · simp only [cond_false]
          refine forget_get t os fr fun t ht => ?_
          rcases h' t ht with rfl | h1
          · rw [hf] at ht; cases ht
          · exact h1
        · simp only [cond_true]
          rw [forget_get t os (fr.set d .und) fun t ht => ?_, und_get]
          · split
            · rename_i h1; subst h1
              cases hg : fr.get d <;> rw [hg] at hf <;> first | rfl | cases hf
            · rfl
          · rw [und_get] at ht
            split at ht
            · cases ht
            · rename_i hne
              rcases h' t ht with rfl | h1
              · exact (hne rfl).elim
              · exact h1

theorem clashK_eq (a b : Eff) : clashK a.ek b.ek = clash a b := by cases a <;> cases b <;> rfl
theorem noClashK_eq (cs : List Eff) : ∀ l, noClashK (cs.map Eff.ek) l = noClash cs l
  | [] => rfl
  | (i, j) :: l => by
    have h : ∀ k, (cs.map Eff.ek).getD k .none = (cs.getD k .none).ek := fun k => by
      simp only [List.getD_eq_getElem?_getD, List.getElem?_map]
      cases cs[k]? <;> rfl
    simp only [noClashK, noClash, h, clashK_eq, noClashK_eq cs l]

section
variable {P : Program} {loc : List Nat} {callF : CallF} {base : Nat}

theorem loadF_eff {f : Fr} {S : TS} {n : Nat} {ag : Bool} {a : TV} {r : Out} (h : loadF loc f S n ag a = some r) (d : Nat) (cs : List TV) : r.eff ≠ .feff d cs := by
  unfold loadF at h
  split at h
  · obtain ⟨_, h⟩ := condT h
    split at h
    · simp only [Option.map_eq_some_iff] at h; obtain ⟨_, _, rfl⟩ := h; simp
    · cases h
  · simp only [Option.map_eq_some_iff] at h; obtain ⟨_, _, rfl⟩ := h; simp
  · split at h
    · simp only [Option.map_eq_some_iff] at h; obtain ⟨_, _, rfl⟩ := h; simp
    · cases h
  · split at h
    · obtain ⟨_, h⟩ := condT h
      split at h
      · simp only [Option.map_eq_some_iff] at h; obtain ⟨_, _, rfl⟩ := h; simp
      · cases h
    · cases h
  · cases h

theorem oval_eff {v : TV} {r : Out} (h : oval v = some r) (d : Nat) (cs : List TV) : r.eff ≠ .feff d cs := by
  simp only [oval, Option.some.injEq] at h; subst h; simp
theorem ovalO_eff {v : Option TV} {r : Out} (h : ovalO v = some r) (d : Nat) (cs : List TV) : r.eff ≠ .feff d cs := by
  cases v with
  | none => cases h
  | some v => exact oval_eff h d cs
theorem closed_eff {ev : Operand → TV} {o : Oper} {r : Out} (h : closedT P ev o = some r) (d : Nat) (cs : List TV) : r.eff ≠ .feff d cs := by
  unfold closedT at h
  obtain ⟨_, h⟩ := condT h
  split at h
  · exact oval_eff h d cs
  · cases h
theorem newArr_eff {S : TS} {sz : Nat} {es : List (List RV)} {len : Nat} {cap : Option Nat} {rd : List Nat} {r : Out} (h : newArr S sz es len cap rd = some r) (d : Nat) (cs : List TV) : r.eff ≠ .feff d cs := by
  simp only [newArr, Option.some.injEq] at h; subst h; simp

/-- No variable of the frame's own is written. -/
def NoF (x : Option Out) : Prop := ∀ r, x = some r → ∀ d cs, r.eff ≠ .feff d cs
theorem NoF.none : NoF .none := fun _ h => by cases h
theorem NoF.oval {v : TV} : NoF (oval v) := fun _ h => oval_eff h
theorem NoF.ovalO {v : Option TV} : NoF (ovalO v) := fun _ h => ovalO_eff h
theorem NoF.closed {ev : Operand → TV} {o : Oper} : NoF (closedT P ev o) := fun _ h => closed_eff h
theorem NoF.load {f : Fr} {S : TS} {n : Nat} {ag : Bool} {a : TV} : NoF (loadF loc f S n ag a) := fun _ h => loadF_eff h
theorem NoF.newArr {S : TS} {sz : Nat} {es : List (List RV)} {len : Nat} {cap : Option Nat} {rd : List Nat} : NoF (newArr S sz es len cap rd) := fun _ h => newArr_eff h
theorem NoF.cond {b : Bool} {x y : Option Out} (h1 : NoF x) (h2 : NoF y) : NoF (_root_.cond b x y) := by cases b <;> assumption
theorem NoF.one {v : TV} {e : Eff} (h : ∀ d cs, e ≠ .feff d cs) : NoF (some ⟨v, e⟩) := fun r hr => by simp only [Option.some.injEq] at hr; subst hr; exact h

theorem xo_nf {f : Fr} {S : TS} {x : XO} (hx : ∀ n a y, x ≠ .store n a y) : NoF (xoT P loc callF f S x) := by
  cases x with
  | store n a y => exact (hx _ _ _ rfl).elim
  | buildSl len sz zs ps =>
    simp only [xoT]
    split
    · split
      · refine NoF.one ?_
        split <;> simp
      · exact NoF.none
    · exact NoF.none
  | _ =>
    simp only [xoT, binX, sliceT, indexSl, appendX, lookupT, lookRet, mapUpdateT, nilCmp]
    repeat' first
      | exact NoF.none
      | exact NoF.oval
      | exact NoF.ovalO
      | exact NoF.closed
      | exact NoF.load
      | exact NoF.newArr
      | apply NoF.cond
      | exact NoF.one (by simp)
      | split

theorem xo_feff {f : Fr} {S : TS} {x : XO} {r : Out} (h : xoT P loc callF f S x = some r) {d : Nat} {cs : List TV} (he : r.eff = .feff d cs) : loc.contains d = true ∧ ∃ n a y, x = .store n a y := by
  cases x with
  | store n a y =>
    refine ⟨?_, n, a, y, rfl⟩
    simp only [xoT, storeF] at h
    obtain ⟨_, h⟩ := condT h
    split at h
    · obtain ⟨h1, h⟩ := condT h
      split at h
      · obtain ⟨_, h⟩ := condT h
        simp only [Option.some.injEq] at h; subst h
        simp only [Eff.feff.injEq] at he
        rw [← he.1]; exact h1
      · cases h
    · split at h
      · obtain ⟨_, h⟩ := condT h
        simp only [Option.some.injEq] at h; subst h; cases he
      · cases h
    · split at h
      · split at h
        · obtain ⟨_, h⟩ := condT h
          split at h
          · obtain ⟨_, h⟩ := condT h
            simp only [Option.some.injEq] at h; subst h; cases he
          · cases h
        · cases h
      · cases h
    · cases h
  | _ => exact absurd he (xo_nf (by intros; simp) r h d cs)


theorem wantOk_none {o : Oper} {ops : Array Oper} {fr : Tr} (h : o.guard = none) : wantOk o ops fr = true := by simp [wantOk, h]
theorem wantT_none {o : Oper} {ops : Array Oper} {fr : Tr} (h : o.guard = none) : wantT o ops fr = true := by simp [wantT, h]

theorem gT_some {ops : Array Oper} {o : Oper} {d : Nat} {b : Bool} (h : gT ops.toList o = some (some (d, b))) : ∃ j, o.guard = some (j, b) ∧ (ops[j]?).bind (·.dst) = some d := by
  unfold gT at h
  split at h
  · cases h
  · rename_i j b' hj
    split at h
    · rename_i d' hd
      simp only [Option.some.injEq, Prod.mk.injEq] at h
      obtain ⟨rfl, rfl⟩ := h
      exact ⟨j, hj, by rw [← hd, Array.getElem?_toList]⟩
    · cases h
theorem gT_none {l : List Oper} {o : Oper} (h : gT l o = some none) : o.guard = none := by
  unfold gT at h
  split at h
  · assumption
  · split at h <;> cases h

/-- What the interpreter's frame and the function of temporaries have to do with each other within a region. -/
structure Sim (N : Tr) (fr : Tr) (f : Fr) (L F : List Nat) : Prop where
  agree : ∀ i, L.contains i = true → fr.get i = f i
  fps : ∀ t, isFp (fr.get t) = true → F.contains t = true
  has : ∀ i, fr.has i = N.has i
  sub : ∀ i, F.contains i = true → L.contains i = true

theorem contains_addD {L : List Nat} {d : Option Nat} {i : Nat} : (addD L d).contains i = true ↔ d = some i ∨ L.contains i = true := by
  rw [List.contains_iff_mem, List.contains_iff_mem, mem_addD]

theorem noFpL_of {fr : Tr} {f : Fr} {d : Nat} : ∀ {F : List Nat}, noFpL f d F = true → (∀ e, F.contains e = true → fr.get e = f e) → ∀ e, F.contains e = true → ∀ off, fr.get e ≠ .fp d off
  | [], _, _, e, he, _ => by simp at he
  | x :: F, h, ha, e, he, off => by
    simp only [noFpL, Bool.and_eq_true] at h
    rw [List.contains_cons, Bool.or_eq_true] at he
    rcases he with he | he
    · have : e = x := by simpa using he
      subst this
      rw [ha e (by simp)]
      intro hf
      rw [hf] at h
      simp at h
    · exact noFpL_of h.2 (fun e he => ha e (by simp only [List.contains_cons, he, Bool.or_true])) e he off

theorem noFp_mk {fr : Tr} {d : Nat} : ∀ {l : List Oper}, (∀ e off, fr.get e ≠ .fp d off) → noFp fr d l = true
  | [], _ => rfl
  | o :: l, h => by
    simp only [noFp, noFp_mk h, Bool.and_true]
    cases o.dst with
    | none => rfl
    | some e =>
      simp only
      cases hg : fr.get e with
      | fp d' off =>
        simp only [Bool.not_eq_true']
        cases hb : Nat.beq d d'
        · rfl
        · rw [← Nat.eq_of_beq_eq_true hb] at hg; exact (h e off hg).elim
      | _ => rfl

theorem putOk_of {N : Tr} {fr : Tr} {f : Fr} {L F : List Nat} {ops : Array Oper} {o : Oper} {xo : XOp} {v : TV} (hs : Sim N fr f L F) (hd : xo.dst = o.dst)
    (hil : xo.il = match o.dst with | some d => loc.contains d | none => false) (hf : xo.fps = match o.dst with | some d => cond (loc.contains d) F [] | none => []) (h : putOkX f xo v = true) : putOk loc ops fr o.dst v = true := by
  unfold putOkX at h
  unfold putOk
  rw [hd] at h
  cases hdst : o.dst with
  | none => rfl
  | some d =>
    rw [hdst] at h hil hf
    simp only at h hil hf ⊢
    cases hl : loc.contains d
    · rw [hl] at hil
      rw [hil] at h
      simpa using h
    · rw [hl] at hil hf
      simp only [cond_true] at hf ⊢
      rw [hil, hf] at h
      simp only [cond_true, Bool.and_eq_true] at h ⊢
      refine ⟨h.1, noFp_mk fun e off he => ?_⟩
      have h1 := hs.fps e (by rw [he]; rfl)
      exact noFpL_of h.2 (fun e he => hs.agree e (hs.sub e he)) e h1 off he

theorem Sim.put {N : Tr} {fr : Tr} {f : Fr} {L F : List Nat} {o : Oper} {v : TV} (hs : Sim N fr f L F) (hN : ∀ d, o.dst = some d → N.has d = true) (hk : fpKind o.op = true ∨ isFp v = false) :
    Sim N (putT fr o.dst v) (putF f o.dst v) (addD L o.dst) (cond (fpKind o.op) (addD F o.dst) F) := by
  cases hd : o.dst with
  | none =>
    simp only [putT, putF, addD]
    cases fpKind o.op <;> exact hs
  | some d =>
    have hN := hN d hd
    simp only [putT, putF]
    have hg : ∀ t, (fr.set d v).get t = if d = t then v else fr.get t := fun t => set_get _ _ _ _ (by rw [hs.has]; exact hN)
    have hF : ∀ i, F.contains i = true → (cond (fpKind o.op) (addD F (some d)) F).contains i = true := fun i hi => by
      cases fpKind o.op
      · exact hi
      · simp only [cond_true]; exact contains_addD.2 (.inr hi)
    refine ⟨fun i hi => ?_, fun t ht => ?_, fun i => by rw [Tr.has_set]; exact hs.has i, fun i hi => ?_⟩
    · rw [hg, upd_get]
      rcases contains_addD.1 hi with h | h
      · simp only [Option.some.injEq] at h; subst h; simp
      · split
        · rfl
        · exact hs.agree i h
    · rw [hg] at ht
      split at ht
      · rename_i h; subst h
        rcases hk with hk | hk
        · rw [hk]; exact contains_addD.2 (.inl rfl)
        · rw [hk] at ht; cases ht
      · exact hF t (hs.fps t ht)
    · cases hk : fpKind o.op <;> rw [hk] at hi
      · exact contains_addD.2 (.inr (hs.sub i hi))
      · simp only [cond_true] at hi
        rcases contains_addD.1 hi with h | h
        · exact contains_addD.2 (.inl h)
        · exact contains_addD.2 (.inr (hs.sub i h))

theorem Sim.eff {N : Tr} {fr : Tr} {f : Fr} {L F : List Nat} {e : Eff} (hs : Sim N fr f L F) (hN : ∀ d cs, e = .feff d cs → N.has d = true) (hL : ∀ d cs, e = .feff d cs → L.contains d = true) : Sim N (e.fr fr) (e.frF f) L F := by
  cases e with
  | feff d cs =>
    have hN := hN d cs rfl
    simp only [Eff.fr, Eff.frF]
    have hg : ∀ t, (fr.set d (.lv cs)).get t = if d = t then .lv cs else fr.get t := fun t => set_get _ _ _ _ (by rw [hs.has]; exact hN)
    refine ⟨fun i hi => ?_, fun t ht => ?_, fun i => by rw [Tr.has_set]; exact hs.has i, hs.sub⟩
    · rw [hg, upd_get]
      split
      · rfl
      · exact hs.agree i hi
    · rw [hg] at ht
      split at ht
      · cases ht
      · exact hs.fps t ht
  | _ => exact hs

/-- The operations of a region, one after the other. -/
theorem ops_sim {N : Tr} {ops : Array Oper} (hNl : ∀ d, loc.contains d = true → N.has d = true) {K : Fr → TS → List EK → Prop} : ∀ {os : List Oper} {xs : List XOp} {L F : List Nat} {fr : Tr} {f : Fr} {S : TS} {es : List EK},
    compOps P loc N ops.toList os L F = some xs → (∀ d, loc.contains d = true → L.contains d = true) → Sim N fr f L F → wpX P loc callF xs K f S es →
    ∃ fr' S' cs f' L' F', runCls P loc callF base ops os fr S = some (fr', S', cs) ∧ K f' S' ((cs.map Eff.ek).reverse ++ es) ∧ Sim N fr' f' L' F' ∧ (∀ i, L.contains i = true ∨ i ∈ dstsL os → L'.contains i = true) ∧ (∀ i, F'.contains i = true → F.contains i = true ∨ i ∈ fpD os) ∧
      ∀ i, i ∉ dstsL os → ((os.any fun o => isStore o.op) = true → loc.contains i = false) → fr'.get i = fr.get i
  | [], xs, L, F, fr, f, S, es, hc, _, hs, h => by
    simp only [compOps, Option.some.injEq] at hc; subst hc
    exact ⟨fr, S, [], f, L, F, rfl, h, hs, fun i hi => by simpa [dstsL] using hi, fun i hi => .inl hi, fun i _ _ => rfl⟩
  | o :: os, xs, L, F, fr, f, S, es, hc, hlL, hs, h => by
    simp only [compOps] at hc
    split at hc
    · rename_i x g r hx hg hr
      obtain ⟨hchk, hc⟩ := condT hc
      simp only [Option.some.injEq] at hc; subst hc
      simp only [Bool.and_eq_true, List.all_eq_true] at hchk
      obtain ⟨⟨⟨hop, hgL⟩, hdN⟩, hst⟩ := hchk
      have hdN' : ∀ d, o.dst = some d → N.has d = true := fun d hd => by rw [hd] at hdN; exact hdN
      have hlL' : ∀ d, loc.contains d = true → (addD L o.dst).contains d = true := fun d hd => contains_addD.2 (.inr (hlL d hd))
      have hl : ∀ d, loc.contains d = true → fr.get d = f d := fun d hd => hs.agree d (hlL d hd)
      -- one step, carried out
      have hgo : bindO (xoT P loc callF f S x) (fun r' => ((fpKind o.op || !isFp r'.val) && putOkX f ⟨o.dst, g, fpKind o.op, match o.dst with | some d => loc.contains d | none => false, match o.dst with | some d => cond (loc.contains d) F [] | none => [], x⟩ r'.val) = true ∧
              wpX P loc callF r K (putF (r'.eff.frF f) o.dst r'.val) (r'.eff.S S) (r'.eff.ek :: es)) → wantOk o ops fr = true → wantT o ops fr = true → ∃ fr' S' cs f' L' F', runCls P loc callF base ops (o :: os) fr S = some (fr', S', cs) ∧ K f' S' ((cs.map Eff.ek).reverse ++ es) ∧ Sim N fr' f' L' F' ∧ (∀ i, L.contains i = true ∨ i ∈ dstsL (o :: os) → L'.contains i = true) ∧ (∀ i, F'.contains i = true → F.contains i = true ∨ i ∈ fpD (o :: os)) ∧
      ∀ i, i ∉ dstsL (o :: os) → (((o :: os).any fun o => isStore o.op) = true → loc.contains i = false) → fr'.get i = fr.get i := by
        intro hgo hw1 hw2
        unfold bindO at hgo
        split at hgo
        · rename_i r' hr'
          simp only [Bool.and_eq_true, Bool.or_eq_true, Bool.not_eq_true'] at hgo
          obtain ⟨⟨hk, hput⟩, hrest⟩ := hgo
          have hop' := opT_of_xo (base := base) hx (fun y hy => opF_eq (hop y hy) hs.agree) hl hr'
          have hfe : feffOk o.op r'.eff = true := by
            cases he : r'.eff with
            | feff d cs =>
              obtain ⟨_, n, a, y, rfl⟩ := xo_feff hr' he
              have : isStore o.op = true := by simpa [isStX] using hst
              cases hop2 : o.op <;> rw [hop2] at this <;> first | rfl | cases this
            | _ => cases o.op <;> rfl
          have hputT : putOk loc ops fr o.dst r'.val = true := putOk_of (F := F) hs (by rfl) (by rfl) (by rfl) hput
          have hstep : stepC P loc callF base ops fr S o = some (putT (r'.eff.fr fr) o.dst r'.val, r'.eff.S S, r'.eff) := by
            unfold stepC
            have : (fpKind o.op || !isFp r'.val) = true := by rcases hk with h | h <;> simp [h]
            simp only [hw1, hw2, cond_true, hop', this, hfe, hputT, Bool.and_self]
          have hs1 : Sim N (r'.eff.fr fr) (r'.eff.frF f) L F := hs.eff (fun d cs he => hNl d (xo_feff hr' he).1) (fun d cs he => hlL d (xo_feff hr' he).1)
          have hs2 := hs1.put (o := o) (v := r'.val) hdN' hk
          obtain ⟨fr', S', cs, f', L', F', h1, h2, h3, h4, h5, h6⟩ := ops_sim hNl hr hlL' hs2 hrest
          refine ⟨fr', S', r'.eff :: cs, f', L', F', ?_, ?_, h3, fun i hi => h4 i ?_, fun i hi => ?_, fun i hi1 hi2 => ?_⟩
          · simp only [runCls, hstep, h1]
          · simpa using h2
          · rcases hi with hi | hi
            · exact .inl (contains_addD.2 (.inr hi))
            · rcases mem_addD.1 hi with hi | hi
              · exact .inl (contains_addD.2 (.inl hi))
              · exact .inr hi
          · rcases h5 i hi with hi | hi
            · cases hk : fpKind o.op <;> rw [hk] at hi
              · exact .inl hi
              · rcases contains_addD.1 hi with hi | hi
                · refine .inr ?_
                  simp only [fpD, hk, cond_true]; exact mem_addD.2 (.inl hi)
                · exact .inl hi
            · refine .inr ?_
              simp only [fpD]
              cases fpKind o.op
              · exact hi
              · exact mem_addD.2 (.inr hi)
          · have hi3 : i ∉ dstsL os := fun h => hi1 (mem_addD.2 (.inr h))
            have hi4 : o.dst ≠ some i := fun h => hi1 (mem_addD.2 (.inl h))
            rw [h6 i hi3 fun h => hi2 (by simp only [List.any_cons, h, Bool.or_true])]
            have e1 : (putT (r'.eff.fr fr) o.dst r'.val).get i = (r'.eff.fr fr).get i := by
              cases hd : o.dst with
              | none => rfl
              | some d =>
                have : d ≠ i := fun h => hi4 (by rw [hd, h])
                simp only [putT]; rw [Tr.get_set_ne _ _ _ _ this]
            rw [e1]
            cases he : r'.eff with
            | feff d cs =>
              obtain ⟨hd, n, a, y, rfl⟩ := xo_feff hr' he
              have h7 : isStore o.op = true := by simpa [isStX] using hst
              have h8 := hi2 (by simp only [List.any_cons, h7, Bool.true_or])
              have : d ≠ i := fun h => by rw [h] at hd; rw [hd] at h8; cases h8
              simp only [Eff.fr]; rw [Tr.get_set_ne _ _ _ _ this]
            | _ => rfl
        · exact hgo.elim
      -- one step, left out
      have hno : (putOkX f ⟨o.dst, g, fpKind o.op, match o.dst with | some d => loc.contains d | none => false, match o.dst with | some d => cond (loc.contains d) F [] | none => [], x⟩ (.tup []) = true ∧
              wpX P loc callF r K (putF f o.dst (.tup [])) S (.none :: es)) → wantOk o ops fr = true → wantT o ops fr = false → ∃ fr' S' cs f' L' F', runCls P loc callF base ops (o :: os) fr S = some (fr', S', cs) ∧ K f' S' ((cs.map Eff.ek).reverse ++ es) ∧ Sim N fr' f' L' F' ∧ (∀ i, L.contains i = true ∨ i ∈ dstsL (o :: os) → L'.contains i = true) ∧ (∀ i, F'.contains i = true → F.contains i = true ∨ i ∈ fpD (o :: os)) ∧
      ∀ i, i ∉ dstsL (o :: os) → (((o :: os).any fun o => isStore o.op) = true → loc.contains i = false) → fr'.get i = fr.get i := by
        intro ⟨hput, hrest⟩ hw1 hw2
        have hputT : putOk loc ops fr o.dst (.tup []) = true := putOk_of (F := F) hs (by rfl) (by rfl) (by rfl) hput
        have hstep : stepC P loc callF base ops fr S o = some (putT fr o.dst (.tup []), S, .none) := by
          unfold stepC
          simp only [hw1, hw2, cond_true, cond_false, hputT]
        have hs2 := hs.put (o := o) (v := .tup []) hdN' (.inr rfl)
        obtain ⟨fr', S', cs, f', L', F', h1, h2, h3, h4, h5, h6⟩ := ops_sim hNl hr hlL' hs2 hrest
        refine ⟨fr', S', .none :: cs, f', L', F', ?_, ?_, h3, fun i hi => h4 i ?_, fun i hi => ?_, fun i hi1 hi2 => ?_⟩
        · simp only [runCls, hstep, h1]
        · simpa [Eff.ek] using h2
        · rcases hi with hi | hi
          · exact .inl (contains_addD.2 (.inr hi))
          · rcases mem_addD.1 hi with hi | hi
            · exact .inl (contains_addD.2 (.inl hi))
            · exact .inr hi
        · rcases h5 i hi with hi | hi
          · cases hk : fpKind o.op <;> rw [hk] at hi
            · exact .inl hi
            · rcases contains_addD.1 hi with hi | hi
              · refine .inr ?_
                simp only [fpD, hk, cond_true]; exact mem_addD.2 (.inl hi)
              · exact .inl hi
          · refine .inr ?_
            simp only [fpD]
            cases fpKind o.op
            · exact hi
            · exact mem_addD.2 (.inr hi)
        · have hi3 : i ∉ dstsL os := fun h => hi1 (mem_addD.2 (.inr h))
          have hi4 : o.dst ≠ some i := fun h => hi1 (mem_addD.2 (.inl h))
          rw [h6 i hi3 fun h => hi2 (by simp only [List.any_cons, h, Bool.or_true])]
          cases hd : o.dst with
          | none => rfl
          | some d =>
            have : d ≠ i := fun h => hi4 (by rw [hd, h])
            simp only [putT]; rw [Tr.get_set_ne _ _ _ _ this]
      rw [wpX] at h
      cases g with
      | none =>
        have hn := gT_none hg
        exact hgo h (wantOk_none hn) (wantT_none hn)
      | some db =>
        obtain ⟨d, b⟩ := db
        obtain ⟨j, hj, hjd⟩ := gT_some hg
        have had : fr.get d = f d := hs.agree d (by simpa using hgL)
        simp only at h
        split at h
        · rename_i c hfc
          have hw1 : wantOk o ops fr = true := by simp only [wantOk, hj, hjd, had, hfc]
          have hw2 : wantT o ops fr = (c == b) := by simp only [wantT, hj, hjd, had, hfc]
          cases b <;> cases c
          · have h1 := h.2 rfl
            rw [upd_same hfc] at h1
            exact hgo h1 hw1 hw2
          · have h1 := h.1 rfl
            rw [upd_same hfc] at h1
            exact hno h1 hw1 hw2
          · have h1 := h.2 rfl
            rw [upd_same hfc] at h1
            exact hno h1 hw1 hw2
          · have h1 := h.1 rfl
            rw [upd_same hfc] at h1
            exact hgo h1 hw1 hw2
        · rename_i hfc
          exact hno h (by simp only [wantOk, hj, hjd, had, hfc]) (by simp only [wantT, hj, hjd, had, hfc])
        · exact h.elim
    · cases hc

theorem runOps_of_cls {ops : Array Oper} : ∀ {os : List Oper} {fr fr' : Tr} {S S' : TS} {cs : List Eff}, runCls P loc callF base ops os fr S = some (fr', S', cs) → runOps P loc callF base ops os fr S = some (fr', S')
  | [], _, _, _, _, _, h => by simp only [runCls, Option.some.injEq, Prod.mk.injEq] at h; obtain ⟨rfl, rfl, _⟩ := h; rfl
  | o :: os, fr, fr', S, S', cs, h => by
    simp only [runCls] at h
    split at h
    · rename_i fr1 S1 e h1
      split at h
      · rename_i fr2 S2 cs2 h2
        simp only [Option.some.injEq, Prod.mk.injEq] at h
        obtain ⟨rfl, rfl, _⟩ := h
        simp only [runOps, h1]
        exact runOps_of_cls h2
      · cases h
    · cases h

theorem updW_get {f f' : Fr} : ∀ {W : List Nat} {g : Fr} (i : Nat), (i ∈ W ∧ updW g f' W i = unfp (f' i)) ∨ (i ∉ W ∧ updW g f' W i = g i)
  | [], g, i => .inr ⟨by simp, rfl⟩
  | d :: W, g, i => by
    rcases updW_get (f := f) (W := W) (g := upd g d (unfp (f' d))) i with ⟨h1, h2⟩ | ⟨h1, h2⟩
    · exact .inl ⟨List.mem_cons_of_mem _ h1, h2⟩
    · simp only [updW]
      by_cases h : d = i
      · subst h
        refine .inl ⟨List.mem_cons_self .., ?_⟩
        rw [h2, upd_get, if_pos rfl]
      · refine .inr ⟨?_, ?_⟩
        · simp only [List.mem_cons, not_or]; exact ⟨fun e => h e.symm, h1⟩
        · rw [h2, upd_get, if_neg h]

theorem has_forget (i : Nat) : ∀ (ops : List Oper) (fr : Tr), (forget ops fr).has i = fr.has i
  | [], _ => rfl
  | o :: os, fr => by
    rw [forget]
    cases fpKind o.op
    · exact has_forget i os fr
    · simp only [cond_true]
      cases o.dst with
      | none => exact has_forget i os fr
      | some d =>
        simp only
        cases isFp (fr.get d)
        · exact has_forget i os fr
        · simp only [cond_true]
          rw [has_forget i os, Tr.has_set]

/-- Between regions: the two frames agree upon what lasts. -/
structure Agr (N : Tr) (G : List Nat) (fr : Tr) (f : Fr) : Prop where
  agree : ∀ i, G.contains i = true → fr.get i = f i
  nofp : ∀ t, isFp (fr.get t) = false
  has : ∀ i, fr.has i = N.has i

theorem region_sim {N : Tr} {G : List Nat} {ops : Array Oper} {l : List XOp} {risk : List (Nat × Nat)} {fr : Tr} {f : Fr} {S : TS} {Q : TX → Fr → TS → Prop} (hNl : ∀ d, loc.contains d = true → N.has d = true) (hlG : ∀ d, loc.contains d = true → G.contains d = true)
    (hc : compOps P loc N ops.toList ops.toList G [] = some l) (ha : Agr N G fr f) (h : wp P loc callF (.region (wL loc G ops.toList).eraseDups risk l) Q f S) :
    ∃ fr' S' f', regionT P loc callF base ops risk fr S = some (fr', S') ∧ Agr N G fr' f' ∧ Q .normal f' S' := by
  simp only [wp] at h
  have hs : Sim N fr f G [] := ⟨ha.agree, (fun t ht => by rw [ha.nofp t] at ht; cases ht), ha.has, (fun i hi => by simp at hi)⟩
  obtain ⟨fr', S', cs, f', L', F', h1, ⟨h2, h2'⟩, h3, h4, h5, h6⟩ := ops_sim (base := base) hNl hc hlG hs h
  have hfp : ∀ t, isFp (fr'.get t) = true → t ∈ fpD ops.toList := fun t ht => by
    rcases h5 t (h3.fps t ht) with hi | hi
    · simp at hi
    · exact hi
  have hg : ∀ t, (forget ops.toList fr').get t = unfp (fr'.get t) := fun t => forget_get t _ _ hfp
  refine ⟨forget ops.toList fr', S', updW f f' (wL loc G ops.toList).eraseDups, ?_, ⟨fun i hi => ?_, fun t => ?_, fun i => ?_⟩, h2'⟩
  · unfold regionT
    simp only [List.append_nil, List.reverse_reverse, noClashK_eq] at h2
    cases risk with
    | nil => simp only [runOps_of_cls h1]
    | cons p r => simp only [h1, h2, cond_true]
  · rw [hg]
    rcases updW_get (f := f) (f' := f') (W := (wL loc G ops.toList).eraseDups) (g := f) i with ⟨hw, he⟩ | ⟨hw, he⟩
    · rw [he, h3.agree i (h4 i (.inl hi))]
    · rw [he]
      rw [List.mem_eraseDups] at hw
      have hd : i ∉ dstsL ops.toList := fun hd => hw (by unfold wL; rw [List.mem_append]; exact .inl (List.mem_filter.2 ⟨hd, hi⟩))
      have hst : (ops.toList.any fun o => isStore o.op) = true → loc.contains i = false := fun hst => by
        cases hl : loc.contains i
        · rfl
        · refine absurd ?_ hw
          unfold wL
          rw [List.mem_append, hst]
          exact .inr (List.contains_iff_mem.1 hl)
      rw [h6 i hd hst, unfp_of (ha.nofp i)]
      exact ha.agree i hi
  · rw [hg]; exact unfp_nofp _
  · rw [has_forget]; exact h3.has i
end

section
variable {P : Program} {cfg : Cfg} {orc : CallF} {base : Nat}

theorem wp_sound {fi : FnI} {N : Tr} {G : List Nat} (hNl : ∀ d, fi.loc.contains d = true → N.has d = true) (hlG : ∀ d, fi.loc.contains d = true → G.contains d = true) :
    ∀ {c : Code} {cc : CC} {fr : Tr} {f : Fr} {S : TS} {Q : TX → Fr → TS → Prop}, compC P fi N G c = some cc → Agr N G fr f → wp P fi.loc (callX P cfg orc) cc Q f S →
      Ev P cfg orc c fi base fr S fun tx fr' S' => ∃ f', Agr N G fr' f' ∧ Q tx f' S' := by
  intro c
  induction c with
  | skip =>
    intro cc fr f S Q hc ha h
    simp only [compC, Option.some.injEq] at hc; subst hc
    exact ⟨1, .normal, fr, S, rfl, f, ha, h⟩
  | label l =>
    intro cc fr f S Q hc ha h
    simp only [compC, Option.some.injEq] at hc; subst hc
    exact ⟨1, .normal, fr, S, rfl, f, ha, h⟩
  | exit id =>
    intro cc fr f S Q hc ha h
    simp only [compC, Option.some.injEq] at hc; subst hc
    exact ⟨1, .exit id, fr, S, rfl, f, ha, h⟩
  | ret =>
    intro cc fr f S Q hc ha h
    simp only [compC, Option.some.injEq] at hc; subst hc
    exact ⟨1, .ret, fr, S, rfl, f, ha, h⟩
  | region id ops draw =>
    intro cc fr f S Q hc ha h
    simp only [compC] at hc
    split at hc
    · rename_i l hl
      simp only [Option.some.injEq] at hc; subst hc
      obtain ⟨fr', S', f', h1, h2, h3⟩ := region_sim (base := base) hNl hlG hl ha h
      exact Ev.region h1 ⟨f', h2, h3⟩
    · cases hc
  | seq a b iha ihb =>
    intro cc fr f S Q hc ha h
    simp only [compC] at hc
    split at hc
    · rename_i ca cb h1 h2
      simp only [Option.some.injEq] at hc; subst hc
      refine Ev.seq ((iha h1 ha h).mono fun tx fr' S' hq => ?_)
      obtain ⟨f', ha', hq⟩ := hq
      cases tx with
      | normal => exact ihb h2 ha' hq
      | exit i => exact ⟨f', ha', hq⟩
      | ret => exact ⟨f', ha', hq⟩
    · cases hc
  | cond x a b iha ihb =>
    intro cc fr f S Q hc ha h
    simp only [compC] at hc
    obtain ⟨hx, hc⟩ := condT hc
    split at hc
    · rename_i ca cb h1 h2
      simp only [Option.some.injEq] at hc; subst hc
      simp only [wp] at h
      split at h
      · rename_i t ht
        refine Ev.cond (t := t) ?_ (fun e => iha h1 ha (h.1 e)) (fun e => ihb h2 ha (h.2 e))
        rw [opF_eq hx ha.agree, ht]; rfl
      · exact h.elim
    · cases hc
  | block id c ih =>
    intro cc fr f S Q hc ha h
    simp only [compC] at hc
    split at hc
    · rename_i ca h1
      simp only [Option.some.injEq] at hc; subst hc
      refine Ev.block ((ih h1 ha h).mono fun tx fr' S' hq => ?_)
      obtain ⟨f', ha', hq⟩ := hq
      cases tx <;> exact ⟨f', ha', hq⟩
    · cases hc
  | loop c ih =>
    intro cc fr f S Q hc ha h
    simp only [compC] at hc
    split at hc
    · rename_i ca h1
      simp only [Option.some.injEq] at hc; subst hc
      simp only [wp] at h
      obtain ⟨n, h⟩ := h
      induction n generalizing fr f S with
      | zero => exact h.elim
      | succ n ihn =>
        simp only [loopN] at h
        refine Ev.loop1 ((ih h1 ha h).mono fun tx fr' S' hq => ?_)
        obtain ⟨f', ha', hq⟩ := hq
        cases tx with
        | normal => exact ihn ha' hq
        | exit i => exact ⟨f', ha', hq⟩
        | ret => exact ⟨f', ha', hq⟩
    · cases hc
  | _ => intro cc fr f S Q hc; cases hc

theorem resF_sound {loc : List Nat} {N : Tr} {G : List Nat} {fr : Tr} {f : Fr} {S : TS} (hlG : ∀ d, loc.contains d = true → G.contains d = true) (ha : Agr N G fr f) : ∀ {l : List ResultVar} {xs : List XR} {vs : List TV}, compR P l = some xs → (∀ x, x ∈ l → G.contains (resT x) = true) → resF loc f S xs = some vs → resultsT P fr S l = some vs
  | [], xs, vs, hc, _, h => by
    simp only [compR, Option.some.injEq] at hc; subst hc; exact h
  | x :: l, xs, vs, hc, hG, h => by
    have hx := hG x (List.mem_cons_self ..)
    have hl : ∀ y, y ∈ l → G.contains (resT y) = true := fun y hy => hG y (List.mem_cons_of_mem _ hy)
    have hh : ∃ y ys, xs = y :: ys ∧ compR P l = some ys ∧ ∀ v, resF1 loc f S y = some v → result1 P fr S x = some v := by
      cases x with
      | tmp t =>
        simp only [compR] at hc
        split at hc
        · rename_i r hr
          simp only [Option.some.injEq] at hc; subst hc
          refine ⟨_, _, rfl, hr, fun v hv => ?_⟩
          simp only [resF1] at hv
          simp only [result1, ha.agree t hx]
          cases hf : f t <;> rw [hf] at hv <;> exact hv
        · cases hc
      | cell a t =>
        simp only [compR] at hc
        split at hc
        · rename_i i r hi hr
          simp only [Option.some.injEq] at hc; subst hc
          refine ⟨_, _, rfl, hr, fun v hv => ?_⟩
          simp only [resF1] at hv
          have e : operand fr (.tmp a) = opF f (.tmp a) := opF_eq (L := G) hx ha.agree
          simp only [result1, hi, e]
          split at hv
          · rename_i r' hr'
            rw [loadT_of (fun d hd => ha.agree d (hlG d hd)) hr']
            exact hv
          · cases hv
        · cases hc
    obtain ⟨y, ys, rfl, h1, h2⟩ := hh
    simp only [resF] at h
    split at h
    · rename_i v vs' h3 h4
      simp only [resultsT, h2 v h3, resF_sound hlG ha h1 hl h4]
      exact h
    · cases h

theorem set_get' (t : Tr) (i j : Nat) (v : TV) (h : t.has j = true) : (t.set i v).get j = if i = j then v else t.get j := by
  rw [Tr.get_set]
  split
  · rename_i he; subst he; simp [h]
  · rfl

theorem sets_get : ∀ (vs : List TV) (t : Tr) (i j : Nat), t.has j = true → (t.sets i vs).get j = if i ≤ j ∧ j < i + vs.length then (vs.getD (j - i) .und) else t.get j
  | [], t, i, j, _ => by simp [Tr.sets]; intro h1 h2; omega
  | v :: vs, t, i, j, h => by
    rw [Tr.sets, sets_get vs (t.set i v) (i + 1) j (by rw [Tr.has_set]; exact h), set_get' t i j v h]
    simp only [List.length_cons]
    by_cases h1 : i = j
    · subst h1
      rw [if_neg (by omega), if_pos rfl, if_pos (by omega)]; simp
    · by_cases h2 : i + 1 ≤ j ∧ j < i + 1 + vs.length
      · rw [if_pos h2, if_pos (by omega)]
        have : j - i = (j - (i + 1)) + 1 := by omega
        rw [this]; simp
      · rw [if_neg h2, if_neg h1, if_neg (by omega)]

theorem initF_get : ∀ (vs : List TV) (i j : Nat), initF i vs j = if i ≤ j ∧ j < i + vs.length then vs.getD (j - i) .und else .und
  | [], i, j => by simp [initF]
  | v :: vs, i, j => by
    rw [initF, upd_get, initF_get vs (i + 1) j]
    simp only [List.length_cons]
    by_cases h1 : i = j
    · subst h1; rw [if_pos rfl, if_pos (by omega)]; simp
    · rw [if_neg h1]
      by_cases h2 : i + 1 ≤ j ∧ j < i + 1 + vs.length
      · rw [if_pos h2, if_pos (by omega)]
        have : j - i = (j - (i + 1)) + 1 := by omega
        rw [this]; simp
      · rw [if_neg h2, if_neg (by omega)]

theorem mk_get : ∀ (k n j : Nat), (Tr.mk k n).get j = .und
  | 0, _, _ => rfl
  | _ + 1, 0, _ => rfl
  | k + 1, n + 1, 0 => rfl
  | k + 1, n + 1, j + 1 => by
    simp only [Tr.mk, Tr.get]
    cases Nat.beq (j % 2) 0
    · exact mk_get k _ _
    · exact mk_get k _ _

theorem args_nofp {b : Bool} : ∀ {ts xs : List TV} {S S1 : TS}, argsT b S ts = some (xs, S1) → ∀ i, isFp (xs.getD i .und) = false
  | [], xs, S, S1, h, i => by simp [argsT] at h; obtain ⟨rfl, rfl⟩ := h; rfl
  | t :: ts, xs, S, S1, h, i => by
    simp only [argsT] at h
    split at h
    · rename_i x S2 h1
      split at h
      · rename_i ys S3 h2
        simp only [Option.some.injEq, Prod.mk.injEq] at h
        obtain ⟨rfl, rfl⟩ := h
        cases i with
        | zero =>
          simp only [List.getD_cons_zero]
          unfold argT at h1
          split at h1
          · split at h1
            · simp only [Option.some.injEq, Prod.mk.injEq] at h1; rw [← h1.1]; rfl
            · cases h1
          · unfold argCell at h1
            split at h1
            all_goals first
              | (cases h1; done)
              | (simp only [Option.some.injEq, Prod.mk.injEq] at h1; rw [← h1.1]; rfl)
              | skip
            rename_i o off len ver c _
            cases b <;> simp only [cond_true, cond_false] at h1
            · split at h1
              · simp only [Option.some.injEq, Prod.mk.injEq] at h1; rw [← h1.1]; rfl
              · cases h1
            · simp only [Option.some.injEq, Prod.mk.injEq] at h1; rw [← h1.1]; rfl
        | succ i => simpa using args_nofp h2 i
      · cases h
    · cases h

/-- What a call answers, by the code made ready. -/
theorem callL_wp {f : Nat} {xf : XF} {args ax : List TV} {S S1 : TS} {v : TV} {os : List TO} (hc : compF P cfg f = some xf) (hle : Nat.ble ax.length xf.nt = true) (ha : argsT xf.byref S args = some (ax, S1))
    (h : wp P xf.loc (callX P cfg orc) xf.body (fun tx f S' => (∀ i, tx ≠ .exit i) ∧ ∃ vs, resF xf.loc f S' xf.res = some vs ∧ retT xf.keep S1.objs.length S' vs = some (v, os)) (initF 0 ax) ⟨S1.objs, false, none⟩) :
    callL P cfg orc f args S = some (v, ⟨os, false, none⟩, none) := by
  unfold compF at hc
  split at hc
  · cases hc
  · rename_i fn hfn
    split at hc
    · cases hc
    · rename_i body hb
      simp only at hc
      split at hc
      · rename_i c r h1 h2
        obtain ⟨hchk, hc⟩ := condT hc
        simp only [Option.some.injEq] at hc; subst hc
        simp only [Bool.and_eq_true, List.all_eq_true] at hchk
        obtain ⟨⟨hlG, hGN⟩, hres⟩ := hchk
        have hlG' : ∀ d, (cfg.get f).loc.contains d = true → (glob (cfg.get f) fn body).contains d = true := fun d hd => hlG d (List.contains_iff_mem.1 hd)
        have hlN' : ∀ d, (cfg.get f).loc.contains d = true → (Tr.mk 12 fn.ntmps).has d = true := fun d hd => hGN d (List.contains_iff_mem.1 (hlG' d hd))
        have hhas : ∀ i, ((Tr.mk 12 fn.ntmps).sets 0 ax).has i = (Tr.mk 12 fn.ntmps).has i := fun i => Tr.sets_has _ _ _ _
        have hag : Agr (Tr.mk 12 fn.ntmps) (glob (cfg.get f) fn body) ((Tr.mk 12 fn.ntmps).sets 0 ax) (initF 0 ax) := by
          refine ⟨fun i hi => ?_, fun t => ?_, hhas⟩
          · rw [sets_get _ _ _ _ (hGN i (List.contains_iff_mem.1 hi)), initF_get]
            split
            · rfl
            · exact mk_get _ _ _
          · cases hh : ((Tr.mk 12 fn.ntmps).sets 0 ax).has t
            · rw [Tr.get_none _ _ hh]; rfl
            · rw [sets_get _ _ _ _ (by rw [← hhas]; exact hh)]
              split
              · exact args_nofp ha _
              · rw [mk_get]; rfl
        refine callL_enter hfn hb ha hle ((wp_sound hlN' hlG' h1 hag h).mono fun tx fr S' hq => ?_)
        obtain ⟨f', ha', hne, vs, h3, h4⟩ := hq
        exact ⟨hne, vs, resF_sound hlG' ha' h2 (fun x hx => hres x hx) h3, h4⟩
      · cases hc
end
end Go.TL
/- Families of known calls. -/
namespace Go.TL

theorem upd_eq (f : Fr) (d : Nat) (v : TV) : upd f d v d = v := by rw [upd_get, if_pos rfl]
theorem beq_dec (a b : Nat) : Nat.beq a b = (a == b) := by
  cases h : Nat.beq a b
  · have : a ≠ b := fun e => by rw [e, Nat.beq_refl] at h; cases h
    simp [this]
  · simp [Nat.eq_of_beq_eq_true h]
theorem ble_dec (a b : Nat) : Nat.ble a b = decide (a ≤ b) := by
  cases h : Nat.ble a b
  · have : ¬ a ≤ b := fun hle => by rw [Nat.ble_eq_true_of_le hle] at h; cases h
    simp [this]
  · simp [Nat.le_of_ble_eq_true h]
theorem blt_dec (a b : Nat) : Nat.blt a b = decide (a < b) := by
  unfold Nat.blt
  rw [ble_dec]; rfl
theorem upd_ne (f : Fr) (d i : Nat) (v : TV) (h : (i == d) = false) : upd f d v i = f i := by unfold upd; rw [beq_dec, h]; rfl
theorem askB_dec {p : Prop} [Decidable p] (a b : Prop) : askB (decide p) a b = ((p → a) ∧ (¬ p → b)) := by simp [askB]
theorem askB_beq {x y : Int} (a b : Prop) : askB (x == y) a b = ((x = y → a) ∧ (x ≠ y → b)) := by simp [askB]
theorem askB_bne {x y : Int} (a b : Prop) : askB (x != y) a b = ((x ≠ y → a) ∧ (x = y → b)) := by simp [askB]
theorem lvp_r (t : Nat) (x : RV) : lvp t (.r x) = .r x := (rfl)
theorem lvp_agg (t : Nat) (x : List TV) : lvp t (.agg x) = .agg x := (rfl)
theorem lvp_tup (t : Nat) (x : List TV) : lvp t (.tup x) = .tup x := (rfl)
theorem lvp_ptr (t : Nat) (o off : Nat) : lvp t (.ptr o off) = .ptr o off := (rfl)
theorem lvp_fp (t : Nat) (o off : Nat) : lvp t (.fp o off) = .fp o off := (rfl)
theorem lvp_lv (t : Nat) (c : List TV) : lvp t (.lv c) = .fp t 0 := (rfl)
theorem opF_tmp (f : Fr) (t : Nat) : opF f (.tmp t) = lvp t (f t) := (rfl)
theorem opF_func (f : Fr) (g : Nat) : opF f (.func g) = .fn g [] := (rfl)
theorem opF_int (f : Fr) (k : IntKind) (n : Int) : opF f (.const (.int k n)) = .r (.sc (.int k n)) := (rfl)
theorem opF_bool (f : Fr) (b : Bool) : opF f (.const (.bool b)) = .r (.sc (.bool b)) := (rfl)
theorem opF_nil (f : Fr) (a : Option Addr) (l c : Nat) : opF f (.const (.slice a l c)) = .r (.sc (.slice a l c)) := (rfl)

/-- What a known call hands back: a value without references, or a slice of its own. -/
inductive KRes where
  | flat (v : TV)
  | own (sz : Nat) (rows : List (List RV)) (frz : Nat)
structure Fam where
  f : Nat
  val : List TV → Option KRes

def famLook (f : Nat) (as : List TV) : List Fam → Option KRes
  | [] => none
  | x :: xs => cond (Nat.beq x.f f) (match x.val as with | some v => some v | none => famLook f as xs) (famLook f as xs)
def famT (fams : List Fam) : CallF := fun f args S =>
  match argsT false S args with
  | some (as, S1) => match famLook f as fams with | some (.flat v) => some (v, ⟨S1.objs, false, none⟩, none) | some (.own sz rows frz) => some (.sl S1.objs.length 0 rows.length 0 none, ⟨S1.objs ++ [.arr sz rows 0 frz], false, none⟩, none) | none => none
  | none => none

def KRes.Good (P : Program) (f : Nat) (as : List TV) : KRes → Prop
  | .flat v => Known.Good P ⟨f, as, v⟩
  | .own sz rows frz => (∃ fn, P.funcs[f]? = some fn ∧ fn.body.isSome = true) ∧ ∀ (S : TS) w g vals, SRep w g S.objs → F2 (ARep w g S.objs) vals as →
      Calls P f vals.toArray w (RetPost S w g (.sl S.objs.length 0 rows.length 0 none) ⟨S.objs ++ [.arr sz rows 0 frz], false, none⟩)
def Fam.Good (P : Program) (F : Fam) : Prop := ∀ as v, F.val as = some v → v.Good P F.f as

theorem PRep.aRep {w : World} {g : G} {os : List TO} {v : Value} {t : TV} (h : PRep w g os v t) : ARep w g os v t := by
  intro _
  cases t <;> first | exact h | exact h.elim

theorem famLook_some {f : Nat} {as : List TV} {v : KRes} : ∀ {fams : List Fam}, famLook f as fams = some v → ∃ x, x ∈ fams ∧ x.f = f ∧ x.val as = some v
  | [], h => by cases h
  | x :: xs, h => by
    simp only [famLook] at h
    cases hb : Nat.beq x.f f
    · rw [hb] at h
      obtain ⟨y, h1, h2⟩ := famLook_some (fams := xs) h
      exact ⟨y, List.mem_cons_of_mem _ h1, h2⟩
    · rw [hb] at h
      simp only [cond_true] at h
      split at h
      · rename_i u hu
        exact ⟨x, List.mem_cons_self .., Nat.eq_of_beq_eq_true hb, by rw [hu]; exact h⟩
      · obtain ⟨y, h1, h2⟩ := famLook_some (fams := xs) h
        exact ⟨y, List.mem_cons_of_mem _ h1, h2⟩

section
variable {P : Program} {cfg : Cfg}

theorem famT_sound {fams : List Fam} (h : ∀ x, x ∈ fams → x.Good P) : CallSound P (famT fams) := by
  intro f args S v S' low hc
  unfold famT at hc
  split at hc
  · rename_i as S1 ha
    split at hc
    · rename_i u hu
      simp only [Option.some.injEq, Prod.mk.injEq] at hc
      obtain ⟨rfl, rfl, _⟩ := hc
      obtain ⟨x, hx, rfl, hv⟩ := famLook_some hu
      have hg : Known.Good P ⟨x.f, as, u⟩ := h x hx as _ hv
      refine ⟨hg.1, fun w g vals hs har => ?_⟩
      obtain ⟨g1, e1, e2, e3⟩ := argsT_rep hs har ha
      refine (hg.2 ⟨S1.objs, false, none⟩ w g1 vals e2 (e3.imp fun _ _ => PRep.aRep)).mono fun e w' hq => ?_
      obtain ⟨v', g', h1, h2, h3, h4⟩ := hq
      exact ⟨v', g', h1, e1.trans h2, h3, h4⟩
    · rename_i sz rows frz hu
      simp only [Option.some.injEq, Prod.mk.injEq] at hc
      obtain ⟨rfl, rfl, _⟩ := hc
      obtain ⟨x, hx, rfl, hv⟩ := famLook_some hu
      have hg := h x hx as _ hv
      refine ⟨hg.1, fun w g vals hs har => ?_⟩
      obtain ⟨g1, e1, e2, e3⟩ := argsT_rep hs har ha
      refine (hg.2 ⟨S1.objs, false, none⟩ w g1 vals e2 (e3.imp fun _ _ => PRep.aRep)).mono fun e w' hq => ?_
      obtain ⟨v', g', h1, h2, h3, h4⟩ := hq
      exact ⟨v', g', h1, e1.trans h2, h3, h4⟩
    · cases hc
  · cases hc

open Classical in
noncomputable def mkFam {α : Type} (f : Nat) (enc : α → List TV) (val : α → TV) : Fam :=
  ⟨f, fun as => if h : ∃ a, enc a = as then some (.flat (val (Classical.choose h))) else none⟩

theorem mkFam_val {α : Type} {f : Nat} {enc : α → List TV} {val : α → TV} (hinj : ∀ a b, enc a = enc b → val a = val b) (a : α) : (mkFam f enc val).val (enc a) = some (.flat (val a)) := by
  have h : ∃ b, enc b = enc a := ⟨a, rfl⟩
  simp only [mkFam, dif_pos h]
  rw [hinj _ _ (Classical.choose_spec h)]

theorem mkFam_good {α : Type} {f : Nat} {enc : α → List TV} {val : α → TV} (h : ∀ a, Known.Good P ⟨f, enc a, val a⟩) : (mkFam f enc val).Good P := by
  intro as v hv
  simp only [mkFam] at hv
  split at hv
  · rename_i hex
    simp only [Option.some.injEq] at hv
    subst hv
    have := h (Classical.choose hex)
    rw [Classical.choose_spec hex] at this
    exact this
  · cases hv

theorem good_of {fams : List Fam} (hs : ∀ {orc : CallF}, CallSound P orc → ∀ n, CallSound P (callT P cfg orc n)) (hf : ∀ x, x ∈ fams → x.Good P) {f : Nat} {args : List TV} {v : TV} {low : Option Nat}
    (h : callL P cfg (famT fams) f args ⟨[], false, none⟩ = some (v, ⟨[], false, none⟩, low)) (h1 : args.all flatT = true) (h2 : flatT v = true) : Known.Good P ⟨f, args, v⟩ :=
  known_of (k := ⟨f, args, v⟩) (callL_sound fun n => hs (famT_sound hf) n) h h1 h2

/-- A known call, within a proof. -/
theorem callX_fam {fams : List Fam} {f : Nat} {args as : List TV} {os os1 : List TO} {v : TV} (ha : argsT false ⟨os, false, none⟩ args = some (as, ⟨os1, false, none⟩)) (hv : famLook f as fams = some (.flat v)) :
    callX P cfg (famT fams) f args ⟨os, false, none⟩ = some (v, ⟨os1, false, none⟩, none) := by
  simp only [callX, orcT, famT, ha, hv]

/-- Another one. -/
theorem callX_go {fams : List Fam} {f : Nat} {args : List TV} {S : TS} {r : TV × TS × Option Nat} (hv : ∀ as, famLook f as fams = none) (h : callL P cfg (famT fams) f args S = some r) :
    callX P cfg (famT fams) f args S = some r := by
  have : famT fams f args S = none := by
    unfold famT
    split
    · simp only [hv]
    · rfl
  simp only [callX, orcT, this, h]
end
end Go.TL
