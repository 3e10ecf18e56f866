/-
  The static side of the compiler: shapes of registers, kinds of objects, and what each operation becomes.
-/
import Derived.Test.YtaihcmbfhgmjgaaCxB
import Derived.Laws.StructEq
import Derived.ChangeKeysEq
namespace Cx
open Go

inductive Sh where
  | none
  | dat (t : Ty)
  | obj (j ver : Nat)
  | ptr (j ver off : Nat)
  | eptr (j ver size off : Nat)
  | opt (gs : List (Nat × Bool)) (s : Sh)
  /-- the function that takes what is yielded -/
  | yv
  /-- a closure of a function that has captured boxes which are still one's own -/
  | fclo (f : Nat) (caps : List (Nat × Nat))
  deriving Inhabited

inductive Ob where
  | dead
  | fz (t : Ty)
  | fbox (t : Ty)
  | box (ag : Bool) (shs : List Sh)
  | row (T : TypeId) (e : Ty)
  | mp (kt et : Ty)
  /-- what has been yielded so far -/
  | tr
  deriving Inhabited

structure St where
  r : Nat → Sh
  o : Nat → Ob
  ver : Nat → Nat

def St.setR (S : St) (t : Nat) (s : Sh) : St := { S with r := upd S.r t s }
def St.setO (S : St) (j : Nat) (ob : Ob) : St := { S with o := upd S.o j ob }
/-- a new kind, and every elder way to the object is void -/
def St.newO (S : St) (j : Nat) (ob : Ob) : St := { S with o := upd S.o j ob, ver := upd S.ver j (S.ver j + 1) }

/-- How a function is called: its parameters' types, its result's. 'row': the result is a slice of the caller's own. -/
inductive Mode where
  | dat
  | row (T : TypeId) (e : Ty)
  /-- an iterator: what it has yielded lies in this place -/
  | it (J : Nat)
  /-- a function that is handed the caller's own objects: the shapes of its parameters, the objects -/
  | ob (shs : List Sh) (obs : List (Nat × Ob))
  deriving Inhabited

structure Sig where
  args : List Ty
  res : Ty
  mode : Mode
  deriving Inhabited

structure Ctx where
  P : Program
  cap : Nat → Option CSig
  sig : Nat → Option Sig
  msig : Nat → Option (TypeId × Ty × List Ty)
  glob : Nat → Option (Ty × D)
  /-- registers to which no slice or map is assigned but as a datum -/
  fr : List Nat := []
  /-- fields of boxes that stay nil until something is appended -/
  nh : List Nat := []
  /-- an iterator: the place of what has been yielded, and the types of what it yields; to whom it yields -/
  yl : Option (Nat × List Ty) := none
  yv : Value := undef

def Ty.flat : Ty → List Ty
  | .agg ts => ts
  | .trm => [.int .i64, .int .i64, .slice .trm]
  | t => [t]

/-- a struct of two ints and a slice of itself? -/
def isTm (P : Program) (e : TypeId) : Bool :=
  match P.underlying e with
  | some (.struct fs) =>
    match fs.toList with
    | [f0, f1, f2] =>
      (match P.underlying f0.type with | some (.int .i64) => true | _ => false) && (match P.underlying f1.type with | some (.int .i64) => true | _ => false) &&
      (match P.underlying f2.type with | some (.slice e') => Nat.beq e' e | _ => false) &&
      Nat.beq f0.offset 0 && Nat.beq f1.offset 1 && Nat.beq f2.offset 2 && Nat.beq (P.cellsOf f0.type) 1 && Nat.beq (P.cellsOf f1.type) 1 && Nat.beq (P.cellsOf f2.type) 1 && Nat.beq (P.cellsOf e) 3
    | _ => false
  | _ => false
def tyOf (P : Program) : Nat → TypeId → Option Ty
  | 0, _ => Option.none
  | n + 1, t =>
    match P.underlying t with
    | some .bool => some .bool
    | some (.int k) => some (.int k)
    | some .string => some .str
    | some (.slice e) => bif isTm P e then some (.slice .trm) else (tyOf P n e).map .slice
    | some (.map k e) => (tyOf P n k).bind fun k => (tyOf P n e).map (.map k)
    | some (.pointer e) => (tyOf P n e).map .ref
    | some (.func ps rs false) =>
      (ps.toList.mapM (tyOf P n)).bind fun ps =>
        match rs.toList with
        | [] => some (.fn ps (.tup []))
        | [r] => (tyOf P n r).map (.fn ps)
        | rs => (rs.mapM (tyOf P n)).map fun rs => .fn ps (.tup rs)
    | some (.struct fs) => (fs.toList.mapM fun f => tyOf P n f.type).map fun ts => .agg (ts.flatMap Ty.flat)
    | some (.array len e) => (tyOf P n e).map fun t => .agg ((List.replicate len t.flat).flatten)
    | some (.tuple es) => (es.toList.mapM (tyOf P n)).map .tup
    | _ => Option.none
def tyD (P : Program) (t : TypeId) : Option Ty := tyOf P 12 t

mutual
def Ty.sub : Ty → Ty → Bool
  | .nils _, .slice _ => true
  | .agg a, .agg b => Ty.subs a b
  | .tup a, .tup b => Ty.subs a b
  | a, b => Ty.beq a b
def Ty.subs : List Ty → List Ty → Bool
  | [], [] => true
  | a :: as, b :: bs => Ty.sub a b && Ty.subs as bs
  | _, _ => false
end

/-- a constant's type and datum -/
def constTy : Value → Option (Ty × D)
  | .int k n => if k.min ≤ n ∧ n ≤ k.max then some (.int k, .v (.int k n)) else Option.none
  | .bool b => some (.bool, .v (.bool b))
  | .string s => if s.size ≤ maxLen then some (.str, .v (.string s)) else Option.none
  | .slice .none 0 0 => some (.nils .bool, .list [])
  | _ => Option.none

/-- the zero of a type: the type is finer (a slice is known to be nil) -/
def zeroTy1 : Ty → Option (Ty × D)
  | .int k => some (.int k, .v (.int k 0))
  | .bool => some (.bool, .v (.bool false))
  | .str => some (.str, .v (.string ByteArray.empty))
  | .slice e => some (.nils e, .list [])
  | .map k e => some (.map k e, .map [])
  | .fn as r => some (.fn as r, .v .nilFunc)
  | _ => Option.none
def zeroTy : Ty → Option (Ty × D)
  | .agg ts => (ts.mapM zeroTy1).map fun zs => (.agg (zs.map (·.1)), .agg (zs.map (·.2)))
  | t => zeroTy1 t
/-- is the value the zero of the type? -/
def zeroOk1 : Ty → Value → Bool
  | .int k, .int k' n => k == k' && n == 0
  | .bool, .bool b => !b
  | .str, .string s => s.size == 0
  | .slice _, .slice .none 0 0 => true
  | .map .., .map .none => true
  | .fn .., .nilFunc => true
  | _, _ => false
def zeroOks : List Ty → List Value → Bool
  | [], [] => true
  | t :: ts, v :: vs => zeroOk1 t v && zeroOks ts vs
  | _, _ => false
def zeroOk : Ty → Value → Bool
  | .agg ts, .agg vs => zeroOks ts vs.toList
  | .agg _, _ => false
  | t, v => zeroOk1 t v

def subGs (a b : List (Nat × Bool)) : Bool := a.all fun g => b.any fun h => Nat.beq g.1 h.1 && (g.2 == h.2)

/-- the shape of a register under a guard -/
def shR (S : St) (gs : List (Nat × Bool)) (t : Nat) : Sh :=
  match S.r t with
  | .opt gs' s => bif subGs gs' gs then s else .none
  | s => s

/-- an operand as a datum -/
def use (C : Ctx) (S : St) (gs : List (Nat × Bool)) : Operand → Option (Ty × PE)
  | .tmp t =>
    match shR S gs t with
    | .dat ty => some (ty, .r t)
    | .obj j ver =>
      bif Nat.beq ver (S.ver j) then
        match S.o j with
        | .fz ty => some (ty, .o j)
        | _ => Option.none
      else Option.none
    | .ptr j ver off =>
      bif Nat.beq ver (S.ver j) && Nat.beq off 0 then
        match S.o j with
        | .fbox ty => some (.ref ty, .ref (.o j))
        | _ => Option.none
      else Option.none
    | _ => Option.none
  | .const v => (constTy v).map fun x => (x.1, .con x.2)
  | .func f => match C.cap f with
    | some ⟨[], as, r⟩ => some (.fn as r, .con (.clo f []))
    | _ => Option.none
  | .global g => (C.glob g).map fun x => (.ref x.1, .con (.ref x.2))

/-- an operand whose value is looked at, now: a slice or a map of one's own too -/
def view (C : Ctx) (S : St) (gs : List (Nat × Bool)) (x : Operand) : Option (Ty × PE) :=
  match use C S gs x with
  | some r => some r
  | Option.none =>
    match x with
    | .tmp t =>
      match shR S gs t with
      | .obj j ver =>
        bif Nat.beq ver (S.ver j) then
          match S.o j with
          | .row _ e => some (.slice e.rol, .o j)
          | .mp k e => some (.map k e, .o j)
          | _ => Option.none
        else Option.none
      | _ => Option.none
    | _ => Option.none

/-- the object behind an operand -/
def objOf (S : St) : Operand → Option Nat
  | .tmp t =>
    match S.r t with
    | .obj j ver => bif Nat.beq ver (S.ver j) then some j else Option.none
    | _ => Option.none
  | _ => Option.none

/-- what a quiet operation becomes: the shape of its register, and instructions -/
abbrev Res := Option (Sh × List PI)

def isSl : Ty → Option Ty
  | .slice e => some e
  | .nils e => some e
  | _ => Option.none

def arOp : BinOp → Bool
  | .add | .sub | .mul | .quo | .rem | .and | .or | .xor | .andNot => true
  | _ => false
def cmOp : BinOp → Bool
  | .eql | .neq | .lss | .leq | .gtr | .geq => true
  | _ => false

def chkG (gs : List (Nat × Bool)) (e : PE) : PI := .chk (match gs with | [] => e | _ => .imp gs e)

/-- bounds on lengths of what is made -/
def limN : Int := 4294967296
def limB : Nat := 32768
def limL (n : PE) : PE := .an (.ci .geq n (.con (.int 0))) (.ci .leq n (.con (.int limN)))

def zeroIs (inf : TypeInfo) (t : Ty) : Bool :=
  match inf.zero with
  | some v => zeroOk t v
  | Option.none => false

def elemFact (P : Program) (T : TypeId) (e : Ty) : Bool :=
  match P.info? T with
  | some i => Nat.beq i.size e.size && Nat.ble i.bytes limB && Nat.ble 1 e.size && zeroIs i e
  | Option.none => false

def sizeFact (P : Program) (T : TypeId) (e : Ty) : Bool :=
  match P.info? T with
  | some i => Nat.beq i.size e.size
  | Option.none => false

def isAggD (P : Program) (T : TypeId) : Option Bool :=
  match P.underlying T with
  | some (.struct _) => some true
  | some (.array ..) => some true
  | some _ => some false
  | Option.none => Option.none

/-- does a type with its size fit a datum's type: rows are rows, cells are cells -/
def fitsTy (P : Program) (T : TypeId) (t : Ty) : Bool :=
  sizeFact P T t && (match isAggD P T with | some ag => ag == t.rowT | Option.none => false)

def isBoolT (P : Program) (T : TypeId) : Bool :=
  match P.underlying T with
  | some .bool => true
  | _ => false

def shX (S : St) (gs : List (Nat × Bool)) : Operand → Sh
  | .tmp t => shR S gs t
  | _ => .none
def regE : Operand → PE
  | .tmp t => .r t
  | _ => .con .none

def useLo (C : Ctx) (S : St) (gs : List (Nat × Bool)) : Option Operand → Option (Ty × PE)
  | Option.none => some (Ty.int .i64, PE.con (.int 0))
  | some l => use C S gs l
def useHi (C : Ctx) (S : St) (gs : List (Nat × Bool)) (e : PE) : Option Operand → Option (Ty × PE)
  | Option.none => some (Ty.int .i64, PE.llen e)
  | some l => use C S gs l

def opMove (C : Ctx) (S : St) (gs : List (Nat × Bool)) (dst : Nat) (x : Operand) : Res :=
  match use C S gs x with
  | some a => some (.dat a.1, [.setR dst a.2])
  | Option.none =>
    match x with
    | .tmp t =>
      match shR S gs t with
      | .none => Option.none
      | .opt .. => Option.none
      | s => some (s, [.setR dst (.r t)])
    | _ => Option.none

def opPick (C : Ctx) (S : St) (gs : List (Nat × Bool)) (dst : Nat) (c x y : Operand) : Res :=
  match c with
  | .tmp t =>
    match shR S gs t with
    | .dat .bool =>
      (use C S ((t, true) :: gs) x).bind fun a => (use C S ((t, false) :: gs) y).bind fun b =>
        bif Ty.beq a.1 b.1 then some (.dat a.1, [.setR dst (.pick (.r t) a.2 b.2)]) else Option.none
    | _ => Option.none
  | _ => Option.none

/-- keys that may be compared at once -/
def keyTy (P : Program) (K : TypeId) : Ty → Bool
  | .int _ => match P.underlying K with | some (.int _) => true | _ => false
  | .str => match P.underlying K with | some .string => true | _ => false
  | .bool => match P.underlying K with | some .bool => true | _ => false
  | _ => false

/-- keys of two numbers -/
def keyTyA (P : Program) (K : TypeId) : Ty → Bool
  | .agg [.int _, .int _] =>
    match P.underlying K with
    | some (.array n e) => Nat.beq n 2 && (match P.underlying e with | some (.int _) => true | _ => false) && P.plainKey e && (match P.info? e with | some _ => Nat.beq (P.cellsOf e) 1 | none => false)
    | _ => false
  | _ => false
def keyOK (P : Program) (K : TypeId) (t : Ty) : Bool := keyTy P K t || keyTyA P K t

/-- cells held against cells -/
def eqT : Ty → PE → PE → Option PE
  | .int _, x, y => some (.ci .eql x y)
  | .bool, x, y => some (.cb .eql x y)
  | .str, x, y => some (.cs .eql x y)
  | _, _, _ => Option.none
def eqFs (P : Program) (x y : PE) : List Field → Nat → List Ty → Option PE
  | [], _, [] => some (.con (.v (.bool true)))
  | f :: fs, i, t :: ts =>
    bif (f.name != "_") && Nat.beq f.offset i && keyTy P f.type t && P.plainKey f.type then
      (eqT t (.cell x i) (.cell y i)).bind fun e => (eqFs P x y fs (i + 1) ts).map fun r => .an e r
    else Option.none
  | _, _, _ => Option.none
def eqStruct (P : Program) (T : TypeId) : Bool := (match P.underlying T with | some (.struct _) => true | _ => false) && !P.stoodInHeld T && !P.eqGuardType P.depth T

def opBin (C : Ctx) (S : St) (gs : List (Nat × Bool)) (dst : Nat) (op : BinOp) (T : TypeId) (x y : Operand) : Res :=
  (use C S gs x).bind fun a => (use C S gs y).bind fun b =>
    match a.1, b.1 with
    | .int k, .int k' =>
      bif op == .shl || op == .shr then some (.dat (.int k), [chkG gs (.ci .geq b.2 (.con (.int 0))), .setR dst (.ai op k a.2 b.2)])
      else bif k == k' then
        bif op == .quo || op == .rem then some (.dat (.int k), [chkG gs (.ci .neq b.2 (.con (.int 0))), .setR dst (.ai op k a.2 b.2)])
        else bif arOp op then some (.dat (.int k), [.setR dst (.ai op k a.2 b.2)])
        else bif cmOp op then some (.dat .bool, [.setR dst (.ci op a.2 b.2)])
        else Option.none
      else Option.none
    | .bool, .bool => bif (op == .eql || op == .neq) && isBoolT C.P T then some (.dat .bool, [.setR dst (.cb op a.2 b.2)]) else Option.none
    | .str, .str => bif cmOp op then some (.dat .bool, [.setR dst (.cs op a.2 b.2)]) else Option.none
    | .agg ts, .agg us => bif (op == .eql || op == .neq) && Ty.beqs ts us && eqStruct C.P T then (eqFs C.P a.2 b.2 (C.P.fieldsOf T).toList 0 ts).map fun e => (.dat .bool, [.setR dst (bif op == .eql then e else .nt e)]) else Option.none
    | _, _ => Option.none

def opUn (C : Ctx) (S : St) (gs : List (Nat × Bool)) (dst : Nat) (op : UnOp) (x : Operand) : Res :=
  (use C S gs x).bind fun a =>
    match op, a.1 with
    | .neg, .int k => some (.dat (.int k), [.setR dst (.ai .sub k (.con (.v (.int k 0))) a.2)])
    | .not, .bool => some (.dat .bool, [.setR dst (.nt a.2)])
    | _, _ => Option.none

def opConv (C : Ctx) (S : St) (gs : List (Nat × Bool)) (dst : Nat) (s d : TypeId) (x : Operand) : Res :=
  (use C S gs x).bind fun a =>
    match C.P.underlying s, C.P.underlying d, a.1 with
    | some (.int _), some (.int k), .int _ => some (.dat (.int k), [.setR dst (.conv k a.2)])
    | some .string, some .string, .str => some (.dat .str, [.setR dst a.2])
    | _, _, _ => Option.none

def opLen (C : Ctx) (S : St) (gs : List (Nat × Bool)) (dst : Nat) (T : TypeId) (x : Operand) : Res :=
  (view C S gs x).bind fun a =>
    match a.1, C.P.underlying T with
    | .slice _, some (.slice _) => some (.dat (.int .i64), [.setR dst (.llen a.2)])
    | .nils _, some (.slice _) => some (.dat (.int .i64), [.setR dst (.llen a.2)])
    | .str, some .string => some (.dat (.int .i64), [.setR dst (.slen a.2)])
    | .map .., some (.map ..) => some (.dat (.int .i64), [.setR dst (.mlen a.2)])
    | _, _ => Option.none

def opMin (C : Ctx) (S : St) (gs : List (Nat × Bool)) (dst : Nat) (mx : Bool) (x y : Operand) : Res :=
  (use C S gs x).bind fun a => (use C S gs y).bind fun b =>
    match a.1, b.1 with
    | .int k, .int k' => bif k == k' then some (.dat (.int k), [.setR dst (bif mx then .mx a.2 b.2 else .mn a.2 b.2)]) else Option.none
    | _, _ => Option.none

/-- the type and the cells of a part of a row -/
def partTy (ag : Bool) (n : Nat) (ts : List Ty) (off : Nat) : Option Ty :=
  bif Nat.ble (off + n) ts.length then
    bif ag then some (.agg ((ts.drop off).take n))
    else bif Nat.beq n 1 then ts[off]? else Option.none
  else Option.none
def partPE (ag : Bool) (n : Nat) (e : PE) (off : Nat) : PE := bif ag then .sub e off n else .cell e off

/-- the cells of a box as data -/
def datsOf : List Sh → Option (List Ty)
  | [] => some []
  | .dat t :: r => (datsOf r).map (t :: ·)
  | _ => Option.none

/-- the cells of a box, read as data; objects in them as they lie, if they are frozen -/
def cellPEs (S : St) (j : Nat) : List Sh → Nat → Option (List Ty × List PE)
  | [], _ => some ([], [])
  | s :: r, i =>
    (cellPEs S j r (i + 1)).bind fun x =>
      match s with
      | .dat t => bif t.one then some (t :: x.1, .cell (.o j) i :: x.2) else Option.none
      | .obj j' ver =>
        bif Nat.beq ver (S.ver j') then
          match S.o j' with
          | .fz t => some (t :: x.1, .o j' :: x.2)
          | _ => Option.none
        else Option.none
      | _ => Option.none

def opLoad (C : Ctx) (S : St) (gs : List (Nat × Bool)) (dst : Nat) (T : TypeId) (x : Operand) : Res :=
  match C.P.info? T, isAggD C.P T with
  | some inf, some ag =>
    match shX S gs x with
    | .ptr j ver off =>
      bif Nat.beq ver (S.ver j) then
        match S.o j with
        | .box _ shs =>
          bif ag then
            bif Nat.ble (off + inf.size) shs.length then
              (cellPEs S j ((shs.drop off).take inf.size) off).map fun x => (.dat (.agg x.1), [.setR dst (.mk x.2)])
            else Option.none
          else
            match shs[off]? with
            | some (.dat ty) => bif ty.one then some (.dat ty, [.setR dst (.cell (.o j) off)]) else Option.none
            | some (.obj j' ver') => some (.obj j' ver', [.setR dst (.con .none)])
            | _ => Option.none
        | .fbox (.agg ts) => (partTy ag inf.size ts off).map fun ty => (.dat ty, [.setR dst (partPE ag inf.size (.o j) off)])
        | .fbox ty => bif !ag && ty.one && Nat.beq off 0 then some (.dat ty, [.setR dst (.o j)]) else Option.none
        | _ => Option.none
      else Option.none
    | .eptr j ver size off =>
      bif Nat.beq ver (S.ver j) then
        match S.o j with
        | .row _ (.agg ts) =>
          bif Nat.beq size ts.length then (partTy ag inf.size ts off).map fun ty => (.dat ty, [.setR dst (partPE ag inf.size (.nth (.o j) (regE x)) off)])
          else Option.none
        | .row _ e => bif !ag && e.one && Nat.beq off 0 && Nat.beq size 1 then some (.dat e, [.setR dst (.nth (.o j) (regE x))]) else Option.none
        | _ => Option.none
      else Option.none
    | _ =>
      (use C S gs x).bind fun a =>
        match a.1 with
        | .ref ty => bif Nat.beq inf.size ty.size && (ag == ty.rowT) then some (.dat ty, [.setR dst (.deref a.2)]) else Option.none
        | _ => Option.none
  | _, _ => Option.none

def fieldOf (P : Program) (T : TypeId) (i : Nat) : Option Field :=
  match P.underlying T with
  | some (.struct fs) => fs[i]?
  | _ => Option.none

def opFieldAddr (C : Ctx) (S : St) (gs : List (Nat × Bool)) (dst : Nat) (T : TypeId) (x : Operand) (i : Nat) : Res :=
  (fieldOf C.P T i).bind fun f =>
    match C.P.info? f.type, isAggD C.P f.type with
    | some inf, some ag =>
      bif Nat.beq inf.size 0 then Option.none else
      match shX S gs x with
      | .eptr j ver size off => bif Nat.beq ver (S.ver j) then some (.eptr j ver size (off + f.offset), [.setR dst (regE x)]) else Option.none
      | s =>
        match use C S gs x with
        | some (.ref (.agg ts), e) => (partTy ag inf.size ts f.offset).map fun ty => (.dat (.ref ty), [.setR dst (.ref (partPE ag inf.size (.deref e) f.offset))])
        | _ =>
          match s with
          | .ptr j ver off => bif Nat.beq ver (S.ver j) then some (.ptr j ver (off + f.offset), [.setR dst (.con .none)]) else Option.none
          | _ => Option.none
    | _, _ => Option.none

def opField (C : Ctx) (S : St) (gs : List (Nat × Bool)) (dst : Nat) (T : TypeId) (x : Operand) (i : Nat) : Res :=
  (fieldOf C.P T i).bind fun f =>
    match C.P.info? f.type, isAggD C.P f.type with
    | some inf, some ag =>
      match use C S gs x with
      | some (.agg ts, e) => (partTy ag inf.size ts f.offset).map fun ty => (.dat ty, [.setR dst (partPE ag inf.size e f.offset)])
      | _ => Option.none
    | _, _ => Option.none

def opIndexAddr (C : Ctx) (S : St) (gs : List (Nat × Bool)) (dst : Nat) (T : TypeId) (x i : Operand) : Res :=
  match C.P.underlying T with
  | some (.slice e) =>
    (use C S gs i).bind fun n =>
      match n.1 with
      | .int _ =>
        match use C S gs x with
        | some (.slice t, pe) => bif sizeFact C.P e t then some (.dat (.ref t.unf), [chkG gs (.idx pe n.2), .setR dst (.ref (.nth pe n.2))]) else Option.none
        | some _ => Option.none
        | Option.none =>
          match shX S gs x with
          | .obj j ver =>
            bif Nat.beq ver (S.ver j) then
              match S.o j with
              | .row _ t => bif sizeFact C.P e t then some (.eptr j ver t.size 0, [chkG gs (.idx (.o j) n.2), .setR dst n.2]) else Option.none
              | _ => Option.none
            else Option.none
          | _ => Option.none
      | _ => Option.none
  | _ => Option.none

def opIndex (C : Ctx) (S : St) (gs : List (Nat × Bool)) (dst : Nat) (T : TypeId) (x i : Operand) : Res :=
  match C.P.underlying T with
  | some .string =>
    (use C S gs i).bind fun n => (use C S gs x).bind fun a =>
      match n.1, a.1 with
      | .int _, .str => some (.dat (.int .u8), [chkG gs (.sok a.2 n.2), .setR dst (.sidx a.2 n.2)])
      | _, _ => Option.none
  | _ => Option.none

def opExtract (C : Ctx) (S : St) (gs : List (Nat × Bool)) (dst : Nat) (x : Operand) (i : Nat) : Res :=
  (use C S gs x).bind fun a =>
    match a.1 with
    | .tup ts => (ts[i]?).map fun t => (.dat t, [.setR dst (.tget a.2 i)])
    | _ => Option.none

def opLookup (C : Ctx) (S : St) (gs : List (Nat × Bool)) (dst : Nat) (T : TypeId) (m k : Operand) (ok : Bool) : Res :=
  match C.P.underlying T with
  | some (.map K E) =>
    (view C S gs m).bind fun a => (use C S gs k).bind fun b =>
      match a.1 with
      | .map kt et =>
        match zeroTy et, C.P.info? E with
        | some z, some inf =>
          bif Ty.beq b.1 kt && keyOK C.P K kt && Ty.sub z.1 et && zeroIs inf et then
            bif ok then some (.dat (.tup [et, .bool]), [.setR dst (.tup [.look a.2 b.2 (.con z.2), .has a.2 b.2])])
            else some (.dat et, [.setR dst (.look a.2 b.2 (.con z.2))])
          else Option.none
        | _, _ => Option.none
      | _ => Option.none
  | _ => Option.none

def opSlice (C : Ctx) (S : St) (gs : List (Nat × Bool)) (dst : Nat) (T : TypeId) (x : Operand) (lo hi mx : Option Operand) : Res :=
  match C.P.underlying T, mx with
  | some (.slice e), Option.none =>
    (use C S gs x).bind fun a =>
      match a.1 with
      | .slice t =>
        (useLo C S gs lo).bind fun l =>
        (useHi C S gs a.2 hi).bind fun h =>
          match l.1, h.1 with
          | .int _, .int _ => bif sizeFact C.P e t then some (.dat (.slice t), [chkG gs (.slok a.2 l.2 h.2), .setR dst (.slc a.2 l.2 h.2)]) else Option.none
          | _, _ => Option.none
      | _ => Option.none
  | some (.array n e), Option.none =>
    match lo, hi with
    | Option.none, Option.none =>
      (use C S gs x).bind fun a =>
        match a.1 with
        | .ref (.agg (t :: ts)) => bif Nat.beq n (ts.length + 1) && ts.all (Ty.beq t) && t.one && sizeFact C.P e t && Nat.ble n maxLen then some (.dat (.slice t), [.setR dst (.lst ((List.range n).map fun i => .cell (.deref a.2) i))]) else Option.none
        | _ => Option.none
    | _, _ => Option.none
  | _, _ => Option.none

/-- several operands as data -/
def uses (C : Ctx) (S : St) (gs : List (Nat × Bool)) : List Operand → Option (List Ty × List PE)
  | [] => some ([], [])
  | x :: xs => (use C S gs x).bind fun a => (uses C S gs xs).map fun r => (a.1 :: r.1, a.2 :: r.2)

def opFunc (C : Ctx) (S : St) (gs : List (Nat × Bool)) (dst : Nat) (fn : Fn) (first caps : Array Operand) : Res :=
  match fn, first.toList with
  | .func f, [] =>
    (C.cap f).bind fun cs => (uses C S gs caps.toList).bind fun a => bif Ty.subs a.1 cs.caps then some (.dat (.fn cs.args cs.res), [.setR dst (.clo f a.2)]) else Option.none
  | _, _ => Option.none

/-- a value that is a row: the row of its cells -/
def rowOf (ag : Bool) (cs : List Value) : Value := if ag then .agg cs.toArray else cs.getD 0 undef

/-- the parts of a struct in the order of its fields; zs: the cells of its zero value -/
def buildPEs (C : Ctx) (S : St) (gs : List (Nat × Bool)) (zs : List Value) (parts : List (Nat × Operand)) : List Field → Nat → Nat → Option (List Ty × List PE)
  | [], _, off => bif Nat.beq off zs.length then some ([], []) else Option.none
  | f :: fs, i, off =>
    match C.P.info? f.type, tyD C.P f.type with
    | some inf, some ft =>
      bif Nat.beq f.offset off && Nat.beq inf.size ft.size then
        (buildPEs C S gs zs parts fs (i + 1) (off + inf.size)).bind fun r =>
          match parts.find? fun p => Nat.beq p.1 i with
          | some p => (use C S gs p.2).bind fun a => bif Ty.sub a.1 ft && (a.1.rowT || a.1.one) then some (a.1.flat ++ r.1, a.2 :: r.2) else Option.none
          | Option.none => bif zeroOk ft (rowOf ft.rowT ((zs.drop off).take inf.size)) then (zeroTy ft).map fun z => (z.1.flat ++ r.1, .con z.2 :: r.2) else Option.none
      else Option.none
    | _, _ => Option.none

def nodupB : List Nat → Bool
  | [] => true
  | a :: r => !(r.any (Nat.beq a)) && nodupB r

def opBuild (C : Ctx) (S : St) (gs : List (Nat × Bool)) (dst : Nat) (T : TypeId) (parts : List (Nat × Operand)) : Res :=
  match C.P.underlying T, C.P.info? T with
  | some (.struct fs), some inf =>
    match inf.zero with
    | some (.agg zs) =>
      bif nodupB (parts.map (·.1)) && parts.all (fun p => Nat.blt p.1 fs.size) then
        (buildPEs C S gs zs.toList parts fs.toList 0 0).map fun r => (.dat (.agg r.1), [.setR dst (.mk r.2)])
      else Option.none
    | _ => Option.none
  | some (.array n e), some inf =>
    match inf.zero, C.P.info? e with
    | some (.agg zs), some ie =>
      match parts with
      | [(0, x), (1, y)] =>
        (use C S gs x).bind fun a => (use C S gs y).bind fun b =>
          match a.1, b.1 with
          | .int _, .int _ => bif Nat.beq n 2 && Nat.beq zs.size 2 && Nat.beq ie.size 1 then some (.dat (.agg [a.1, b.1]), [.setR dst (.mk [a.2, b.2])]) else Option.none
          | _, _ => Option.none
      | _ => Option.none
    | _, _ => Option.none
  | _, _ => Option.none

def opNil (C : Ctx) (S : St) (gs : List (Nat × Bool)) (dst : Nat) (x : Operand) : Res :=
  match use C S gs x with
  | some (.ref t, e) => some (.dat (.ref t), [.setR dst e])
  | _ =>
    match x with
    | .tmp t =>
      match shR S gs t with
      | .ptr j ver off => bif Nat.beq ver (S.ver j) then some (.ptr j ver off, [.setR dst (.con .none)]) else Option.none
      | .eptr j ver sz off => bif Nat.beq ver (S.ver j) then some (.eptr j ver sz off, [.setR dst (.r t)]) else Option.none
      | _ => Option.none
    | _ => Option.none

/-- the quiet operations -/
def opQ (C : Ctx) (S : St) (gs : List (Nat × Bool)) (dst : Nat) : Op → Res
  | .move x => opMove C S gs dst x
  | .pick c x y => opPick C S gs dst c x y
  | .binOp op T x y _ => opBin C S gs dst op T x y
  | .unOp op _ x => opUn C S gs dst op x
  | .convert s d x => opConv C S gs dst s d x
  | .load T x => opLoad C S gs dst T x
  | .fieldAddr T x i => opFieldAddr C S gs dst T x i
  | .field T x i => opField C S gs dst T x i
  | .indexAddr T x i => opIndexAddr C S gs dst T x i
  | .index T x i => opIndex C S gs dst T x i
  | .extract x i => opExtract C S gs dst x i
  | .lookup T m k ok => opLookup C S gs dst T m k ok
  | .slice T x lo hi mx => opSlice C S gs dst T x lo hi mx
  | .makeFunc f a b => opFunc C S gs dst f a b
  | .build T ps => opBuild C S gs dst T ps.toList
  | .nilCheck x => opNil C S gs dst x
  | .makeInterface _ _ => some (.dat .bool, [chkG gs (.nt (.con (.bool true))), .setR dst (.con .none)])
  | .call c =>
    match c.callee, c.args.toList, c.argTypes.toList with
    | .builtin .len, [x], [T] => opLen C S gs dst T x
    | .builtin .min, [x, y], _ => opMin C S gs dst false x y
    | .builtin .max, [x, y], _ => opMin C S gs dst true x y
    | _, _, _ => Option.none
  | _ => Option.none

def capBeq : List (Nat × Nat) → List (Nat × Nat) → Bool
  | [], [] => true
  | x :: a, y :: b => Nat.beq x.1 y.1 && Nat.beq x.2 y.2 && capBeq a b
  | _, _ => false
theorem capBeq_eq : ∀ a b, capBeq a b = true → a = b
  | [], [], _ => rfl
  | [], _ :: _, h => by simp [capBeq] at h
  | _ :: _, [], h => by simp [capBeq] at h
  | (x, u) :: a, (y, v) :: b, h => by
    simp only [capBeq, Bool.and_eq_true] at h
    rw [Nat.eq_of_beq_eq_true h.1.1, Nat.eq_of_beq_eq_true h.1.2, capBeq_eq a b h.2]

def gsBeq : List (Nat × Bool) → List (Nat × Bool) → Bool
  | [], [] => true
  | (a, x) :: as, (b, y) :: bs => Nat.beq a b && (x == y) && gsBeq as bs
  | _, _ => false
def Sh.beq : Sh → Sh → Bool
  | .none, .none => true
  | .dat a, .dat b => Ty.beq a b
  | .obj j v, .obj k u => Nat.beq j k && Nat.beq v u
  | .ptr j v o, .ptr k u p => Nat.beq j k && Nat.beq v u && Nat.beq o p
  | .eptr j v s o, .eptr k u t p => Nat.beq j k && Nat.beq v u && Nat.beq s t && Nat.beq o p
  | .opt gs s, .opt hs t => gsBeq gs hs && Sh.beq s t
  | .yv, .yv => true
  | .fclo f a, .fclo g b => Nat.beq f g && capBeq a b
  | _, _ => false
def shsBeq : List Sh → List Sh → Bool
  | [], [] => true
  | a :: as, b :: bs => Sh.beq a b && shsBeq as bs
  | _, _ => false
def Ob.beq : Ob → Ob → Bool
  | .dead, .dead => true
  | .fz a, .fz b => Ty.beq a b
  | .fbox a, .fbox b => Ty.beq a b
  | .box x a, .box y b => (x == y) && shsBeq a b
  | .row T a, .row U b => Nat.beq T U && Ty.beq a b
  | .mp a b, .mp c d => Ty.beq a c && Ty.beq b d
  | .tr, .tr => true
  | _, _ => false
def obsBeq : List Ob → List Ob → Bool
  | [], [] => true
  | a :: as, b :: bs => Ob.beq a b && obsBeq as bs
  | _, _ => false

theorem gsBeq_eq : ∀ a b, gsBeq a b = true → a = b
  | [], [], _ => rfl
  | (a, x) :: as, (b, y) :: bs, h => by
    simp only [gsBeq, Bool.and_eq_true, beq_iff_eq] at h
    rw [Nat.eq_of_beq_eq_true h.1.1, h.1.2, gsBeq_eq as bs h.2]
  | [], _ :: _, h => by simp [gsBeq] at h
  | (_, _) :: _, [], h => by simp [gsBeq] at h
theorem Sh.beq_eq : ∀ a b : Sh, Sh.beq a b = true → a = b := by
  intro a
  induction a with
  | opt gs s ih =>
    intro b h
    cases b <;> simp only [Sh.beq, Bool.and_eq_true] at h <;> try (cases h; done)
    rw [gsBeq_eq _ _ h.1, ih _ h.2]
  | none => intro b h; cases b <;> simp [Sh.beq] at h; rfl
  | yv => intro b h; cases b <;> simp [Sh.beq] at h; rfl
  | fclo f a =>
    intro b h
    cases b <;> simp only [Sh.beq, Bool.and_eq_true] at h <;> try (cases h; done)
    rw [Nat.eq_of_beq_eq_true h.1, capBeq_eq _ _ h.2]
  | dat t => intro b h; cases b <;> simp only [Sh.beq] at h <;> try (cases h; done)
             rw [Ty.beq_eq _ _ h]
  | obj j v =>
    intro b h
    cases b <;> simp only [Sh.beq, Bool.and_eq_true] at h <;> try (cases h; done)
    rw [Nat.eq_of_beq_eq_true h.1, Nat.eq_of_beq_eq_true h.2]
  | ptr j v o =>
    intro b h
    cases b <;> simp only [Sh.beq, Bool.and_eq_true] at h <;> try (cases h; done)
    rw [Nat.eq_of_beq_eq_true h.1.1, Nat.eq_of_beq_eq_true h.1.2, Nat.eq_of_beq_eq_true h.2]
  | eptr j v o =>
    intro b h
    cases b <;> simp only [Sh.beq, Bool.and_eq_true] at h <;> try (cases h; done)
    rw [Nat.eq_of_beq_eq_true h.1.1.1, Nat.eq_of_beq_eq_true h.1.1.2, Nat.eq_of_beq_eq_true h.1.2, Nat.eq_of_beq_eq_true h.2]
theorem shsBeq_eq : ∀ a b : List Sh, shsBeq a b = true → a = b
  | [], [], _ => rfl
  | a :: as, b :: bs, h => by
    simp only [shsBeq, Bool.and_eq_true] at h
    rw [Sh.beq_eq _ _ h.1, shsBeq_eq as bs h.2]
  | [], _ :: _, h => by simp [shsBeq] at h
  | _ :: _, [], h => by simp [shsBeq] at h
theorem Ob.beq_eq : ∀ a b : Ob, Ob.beq a b = true → a = b := by
  intro a b h
  cases a <;> cases b <;> simp only [Ob.beq, Bool.and_eq_true, beq_iff_eq] at h <;> try (cases h; done)
  · rfl
  · rw [Ty.beq_eq _ _ h]
  · rw [Ty.beq_eq _ _ h]
  · rw [h.1, shsBeq_eq _ _ h.2]
  · rw [Nat.eq_of_beq_eq_true h.1, Ty.beq_eq _ _ h.2]
  · rw [Ty.beq_eq _ _ h.1, Ty.beq_eq _ _ h.2]
  · rfl
theorem obsBeq_eq : ∀ a b : List Ob, obsBeq a b = true → a = b
  | [], [], _ => rfl
  | a :: as, b :: bs, h => by
    simp only [obsBeq, Bool.and_eq_true] at h
    rw [Ob.beq_eq _ _ h.1, obsBeq_eq as bs h.2]
  | [], _ :: _, h => by simp [obsBeq] at h
  | _ :: _, [], h => by simp [obsBeq] at h


def isNone : Sh → Bool
  | .none => true
  | _ => false
def isDead : Ob → Bool
  | .dead => true
  | _ => false


end Cx
