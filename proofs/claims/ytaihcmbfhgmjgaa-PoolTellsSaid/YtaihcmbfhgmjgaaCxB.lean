/-
  The pure language: expressions over an environment of data, instructions, code, and what it computes.
-/
import Derived.Test.YtaihcmbfhgmjgaaCxA
namespace Cx
open Go

theorem D.b_bool (x : Bool) : (D.v (.bool x)).b = x := rfl
theorem D.i_int (k : IntKind) (n : Int) : (D.v (.int k n)).i = n := rfl
theorem D.s_str (x : ByteArray) : (D.v (.string x)).s = x := rfl
theorem D.l_list (x : List D) : (D.list x).l = x := rfl
theorem D.cells_agg (x : List D) : (D.agg x).cells = x := rfl

structure Env where
  r : Nat → D
  o : Nat → D

def upd {α : Type} (f : Nat → α) (i : Nat) (x : α) : Nat → α := fun j => bif Nat.beq j i then x else f j
theorem beq_ne {i j : Nat} (h : j ≠ i) : Nat.beq j i = false := by
  cases h' : Nat.beq j i
  · rfl
  · exact absurd (Nat.eq_of_beq_eq_true h') h
theorem upd_same {α : Type} (f : Nat → α) (i : Nat) (x : α) : upd f i x i = x := by simp [upd]
theorem upd_ne {α : Type} (f : Nat → α) {i j : Nat} (x : α) (h : j ≠ i) : upd f i x j = f j := by simp [upd, beq_ne h]
theorem upd_apply {α : Type} (f : Nat → α) (i j : Nat) (x : α) : upd f i x j = if j = i then x else f j := by
  by_cases h : j = i
  · subst h; simp [upd]
  · simp [upd, beq_ne h, h]

def Env.setR (ρ : Env) (t : Nat) (d : D) : Env := { ρ with r := upd ρ.r t d }
def Env.setO (ρ : Env) (j : Nat) (d : D) : Env := { ρ with o := upd ρ.o j d }

inductive PE where
  | r (t : Nat) | o (j : Nat) | con (d : D)
  | cell (e : PE) (i : Nat)
  | sub (e : PE) (off n : Nat)
  | setc (e : PE) (off : Nat) (x : PE)
  | mk (es : List PE)
  | ai (op : BinOp) (k : IntKind) (x y : PE)
  | ci (op : BinOp) (x y : PE)
  | cb (op : BinOp) (x y : PE)
  | cs (op : BinOp) (x y : PE)
  | sadd (x y : PE)
  | nt (x : PE)
  | conv (k : IntKind) (x : PE)
  | pick (c a b : PE)
  | llen (x : PE) | slen (x : PE) | mlen (x : PE)
  | nth (x i : PE) | idx (x i : PE) | sidx (x i : PE) | sok (x i : PE)
  | setn (x i : PE) (off : Nat) (y : PE)
  | app (x y : PE) | lst (es : List PE) | rep (n z : PE)
  | slc (x lo hi : PE) | slok (x lo hi : PE)
  | ref (x : PE) | deref (x : PE)
  | look (m k z : PE) | has (m k : PE) | put (m k v : PE)
  | mn (x y : PE) | mx (x y : PE)
  | tup (es : List PE) | tget (e : PE) (i : Nat)
  | clo (f : Nat) (es : List PE)
  | an (x y : PE) | imp (c : List (Nat × Bool)) (x : PE)
  deriving Inhabited

def arI (op : BinOp) (k : IntKind) (a b : Int) : Int :=
  match op with
  | .add => k.wrap (a + b)
  | .sub => k.wrap (a - b)
  | .mul => k.wrap (a * b)
  | .quo => k.wrap (a.tdiv b)
  | .rem => a.tmod b
  | .and => k.wrap (BitVec.ofInt k.bits a &&& BitVec.ofInt k.bits b).toNat
  | .or => k.wrap (BitVec.ofInt k.bits a ||| BitVec.ofInt k.bits b).toNat
  | .xor => k.wrap (BitVec.ofInt k.bits a ^^^ BitVec.ofInt k.bits b).toNat
  | .andNot => k.wrap (BitVec.ofInt k.bits a &&& ~~~BitVec.ofInt k.bits b).toNat
  | .shl => k.wrap (a * 2 ^ (min b.toNat k.bits))
  | .shr => a.fdiv (2 ^ (min b.toNat k.bits))
  | _ => 0

def cmI (op : BinOp) (a b : Int) : Bool :=
  match op with
  | .eql => a == b | .neq => a != b | .lss => decide (a < b) | .leq => decide (a ≤ b) | .gtr => decide (a > b) | .geq => decide (a ≥ b)
  | _ => false

def cmS (op : BinOp) (x y : ByteArray) : Bool :=
  let eq := x.toList == y.toList
  let lt := Op.bytesLess x.toList y.toList
  match op with
  | .eql => eq | .neq => !eq | .lss => lt | .leq => lt || eq | .gtr => !(lt || eq) | .geq => !lt
  | _ => false

def cmB (op : BinOp) (x y : Bool) : Bool :=
  match op with
  | .eql => x == y | .neq => !(x == y)
  | _ => false

/-- Are two keys (a scalar, or a row of scalars) the same? -/
def keyEq1 : D → D → Bool
  | .v (.int _ a), .v (.int _ b) => a == b
  | .v (.string a), .v (.string b) => a == b
  | .v (.bool a), .v (.bool b) => a == b
  | _, _ => false
def keyEqs : List D → List D → Bool
  | [], [] => true
  | a :: as, b :: bs => keyEq1 a b && keyEqs as bs
  | _, _ => false
def keyEq (a b : D) : Bool := keyEqs a.cells b.cells

def lookM (k : D) : List (D × D) → Option D
  | [] => Option.none
  | e :: es => if keyEq k e.1 then some e.2 else lookM k es
def putM (k v : D) : List (D × D) → List (D × D)
  | [] => [(k, v)]
  | e :: es => if keyEq k e.1 then (k, v) :: es else e :: putM k v es

/-- cells of 'xs' replaced from 'off' on by those of 'ys' -/
def splice (xs : List D) (off : Nat) (ys : List D) : List D := xs.take off ++ ys ++ xs.drop (off + ys.length)

/-- an element with some of its cells replaced: a whole element is replaced by the datum itself -/
def spliceD (x : D) (off : Nat) (y : D) : D :=
  match x with
  | .agg cs => .agg (splice cs off y.cells)
  | _ => y

def holds (gs : List (Nat × Bool)) (ρ : Env) : Bool := gs.all fun g => (ρ.r g.1).b == g.2

mutual
def PE.ev (ρ : Env) : PE → D
  | .r t => ρ.r t
  | .o j => ρ.o j
  | .con d => d
  | .cell e i => (PE.ev ρ e).c i
  | .sub e off n => .agg (((PE.ev ρ e).cells.drop off).take n)
  | .setc e off x => .agg (splice (PE.ev ρ e).cells off (PE.ev ρ x).cells)
  | .mk es => .agg (PE.evc ρ es)
  | .ai op k x y => .v (.int k (arI op k (PE.ev ρ x).i (PE.ev ρ y).i))
  | .ci op x y => .v (.bool (cmI op (PE.ev ρ x).i (PE.ev ρ y).i))
  | .cb op x y => .v (.bool (cmB op (PE.ev ρ x).b (PE.ev ρ y).b))
  | .cs op x y => .v (.bool (cmS op (PE.ev ρ x).s (PE.ev ρ y).s))
  | .sadd x y => .v (.string ((PE.ev ρ x).s ++ (PE.ev ρ y).s))
  | .nt x => .v (.bool (!(PE.ev ρ x).b))
  | .conv k x => .v (.int k (k.wrap (PE.ev ρ x).i))
  | .pick c a b => bif (PE.ev ρ c).b then PE.ev ρ a else PE.ev ρ b
  | .llen x => .v (.int .i64 (PE.ev ρ x).l.length)
  | .slen x => .v (.int .i64 (PE.ev ρ x).s.size)
  | .mlen x => .v (.int .i64 (PE.ev ρ x).m.length)
  | .nth x i => (PE.ev ρ x).l.getD (PE.ev ρ i).i.toNat .none
  | .idx x i => .v (.bool (decide (0 ≤ (PE.ev ρ i).i ∧ (PE.ev ρ i).i < (PE.ev ρ x).l.length)))
  | .sidx x i => .v (.int .u8 ((PE.ev ρ x).s.data.getD (PE.ev ρ i).i.toNat 0).toNat)
  | .sok x i => .v (.bool (decide (0 ≤ (PE.ev ρ i).i ∧ (PE.ev ρ i).i < (PE.ev ρ x).s.size)))
  | .setn x i off y => .list ((PE.ev ρ x).l.set (PE.ev ρ i).i.toNat (spliceD ((PE.ev ρ x).l.getD (PE.ev ρ i).i.toNat .none) off (PE.ev ρ y)))
  | .app x y => .list ((PE.ev ρ x).l ++ (PE.ev ρ y).l)
  | .lst es => .list (PE.evs ρ es)
  | .rep n z => .list (List.replicate (PE.ev ρ n).i.toNat (PE.ev ρ z))
  | .slc x lo hi => .list (((PE.ev ρ x).l.take (PE.ev ρ hi).i.toNat).drop (PE.ev ρ lo).i.toNat)
  | .slok x lo hi => .v (.bool (decide (0 ≤ (PE.ev ρ lo).i ∧ (PE.ev ρ lo).i ≤ (PE.ev ρ hi).i ∧ (PE.ev ρ hi).i ≤ (PE.ev ρ x).l.length)))
  | .ref x => .ref (PE.ev ρ x)
  | .deref x => (PE.ev ρ x).deref
  | .look m k z => (lookM (PE.ev ρ k) (PE.ev ρ m).m).getD (PE.ev ρ z)
  | .has m k => .v (.bool (lookM (PE.ev ρ k) (PE.ev ρ m).m).isSome)
  | .put m k v => .map (putM (PE.ev ρ k) (PE.ev ρ v) (PE.ev ρ m).m)
  | .mn x y => bif decide ((PE.ev ρ y).i < (PE.ev ρ x).i) then PE.ev ρ y else PE.ev ρ x
  | .mx x y => bif decide ((PE.ev ρ y).i > (PE.ev ρ x).i) then PE.ev ρ y else PE.ev ρ x
  | .tup es => .tup (PE.evs ρ es)
  | .tget e i => (PE.ev ρ e).tget i
  | .clo f es => .clo f (PE.evs ρ es)
  | .an x y => .v (.bool ((PE.ev ρ x).b && (PE.ev ρ y).b))
  | .imp c x => .v (.bool (!holds c ρ || (PE.ev ρ x).b))
def PE.evs (ρ : Env) : List PE → List D
  | [] => []
  | e :: es => PE.ev ρ e :: PE.evs ρ es
def PE.evc (ρ : Env) : List PE → List D
  | [] => []
  | e :: es => (PE.ev ρ e).cells ++ PE.evc ρ es
end

theorem PE.evs_eq (ρ : Env) (es : List PE) : PE.evs ρ es = es.map (PE.ev ρ) := by
  induction es with
  | nil => rfl
  | cons e es ih => simp [PE.evs, ih]
theorem PE.evc_eq (ρ : Env) (es : List PE) : PE.evc ρ es = es.flatMap fun e => (PE.ev ρ e).cells := by
  induction es with
  | nil => rfl
  | cons e es ih => simp [PE.evc, ih]

inductive PI where
  | setR (t : Nat) (e : PE)
  | setO (j : Nat) (e : PE)
  | chk (e : PE)
  | call (gs : List (Nat × Bool)) (dst : Nat) (f : Nat) (args : List PE)
  | callc (gs : List (Nat × Bool)) (dst : Nat) (e : PE) (args : List PE)
  | mcall (j : Nat) (f : Nat) (args : List PE)
  deriving Inhabited

abbrev Funs := Nat → List D → Option D

def PI.run (Φ : Funs) (ρ : Env) : PI → Option Env
  | .setR t e => some (ρ.setR t (e.ev ρ))
  | .setO j e => some (ρ.setO j (e.ev ρ))
  | .chk e => bif (e.ev ρ).b then some ρ else none
  | .call gs dst f args => bif holds gs ρ then (Φ f (PE.evs ρ args)).map (ρ.setR dst) else some ρ
  | .callc gs dst e args => bif holds gs ρ then (match e.ev ρ with | .clo f caps => (Φ f (PE.evs ρ args ++ caps)).map (ρ.setR dst) | _ => none) else some ρ
  | .mcall j f args => (Φ f (PE.evs ρ args)).map (ρ.setO j)

def PI.runs (Φ : Funs) : List PI → Env → Option Env
  | [], ρ => some ρ
  | x :: xs, ρ => (x.run Φ ρ).bind (PI.runs Φ xs)

inductive PC where
  | skip
  | is (l : List PI)
  | seq (a b : PC)
  | ite (c : PE) (lr lo : List Nat) (a b : PC)
  | block (id : Nat) (lr lo : List Nat) (a : PC)
  | loop (lr lo : List Nat) (a : PC)
  | exit (id : Nat)
  | ret (e : PE)
  /-- for each element of a list: the registers 'ps' are its parts; rt: what a return in the body gives back -/
  | each (e : PE) (ps lo : List Nat) (rt : Option PE) (a : PC)
  deriving Inhabited

/-- a return, in the body of a range over a function -/
def retId : Nat := 1000000007

inductive Out where
  | next (ρ : Env)
  | exit (id : Nat) (ρ : Env)
  | ret (d : D)

def putL (f : Nat → D) : List Nat → List D → Nat → D
  | i :: is, x :: xs => upd (putL f is xs) i x
  | _, _ => f
def Env.put (ρ : Env) (lr : List Nat) (vr : List D) (lo : List Nat) (vo : List D) : Env := ⟨putL ρ.r lr vr, putL ρ.o lo vo⟩
/-- Of 'ρ'' the named places, of 'ρ' all others. -/
def Env.join (ρ : Env) (lr lo : List Nat) (ρ' : Env) : Env := ρ.put lr (lr.map ρ'.r) lo (lo.map ρ'.o)

theorem putL_map (f g : Nat → D) (l : List Nat) (t : Nat) : putL f l (l.map g) t = if t ∈ l then g t else f t := by
  induction l with
  | nil => rfl
  | cons i is ih =>
    simp only [List.map_cons, putL, upd_apply, ih, List.mem_cons]
    by_cases h : t = i
    · subst h; simp
    · simp [h]

def loopI (body : Env → Option Out) (ρ : Env) (lr lo : List Nat) : Nat → List D → List D → Option Out
  | 0, _, _ => none
  | n + 1, vr, vo =>
    match body (ρ.put lr vr lo vo) with
    | some (.next ρ') => loopI body ρ lr lo n (lr.map ρ'.r) (lo.map ρ'.o)
    | x => x

def partsOf (ps : List Nat) (x : D) : List D := (List.range ps.length).map x.tget
def eachI (body : Env → Option Out) (ρ : Env) (ps lo : List Nat) (rt : Option PE) : List D → List D → Option Out
  | [], vo => some (.next (ρ.put [] [] lo vo))
  | x :: xs, vo =>
    match body (ρ.put ps (partsOf ps x) lo vo) with
    | some (.next ρ') => eachI body ρ ps lo rt xs (lo.map ρ'.o)
    | some (.exit id ρ') => bif Nat.beq id retId then rt.map (fun e => .ret (e.ev (ρ.put [] [] lo (lo.map ρ'.o)))) else some (.exit id (ρ.put [] [] lo (lo.map ρ'.o)))
    | _ => none

def PC.ev (Φ : Funs) (n : Nat) : PC → Env → Option Out
  | .skip, ρ => some (.next ρ)
  | .is l, ρ => (PI.runs Φ l ρ).map .next
  | .seq a b, ρ =>
    match PC.ev Φ n a ρ with
    | some (.next ρ') => PC.ev Φ n b ρ'
    | x => x
  | .ite c lr lo a b, ρ =>
    match (bif (c.ev ρ).b then PC.ev Φ n a ρ else PC.ev Φ n b ρ) with
    | some (.next ρ') => some (.next (ρ.join lr lo ρ'))
    | x => x
  | .block id lr lo a, ρ =>
    match PC.ev Φ n a ρ with
    | some (.next ρ') => some (.next (ρ.join lr lo ρ'))
    | some (.exit id' ρ') => bif Nat.beq id' id then some (.next (ρ.join lr lo ρ')) else some (.exit id' ρ')
    | x => x
  | .loop lr lo a, ρ => loopI (PC.ev Φ n a) ρ lr lo n (lr.map ρ.r) (lo.map ρ.o)
  | .exit id, ρ => some (.exit id ρ)
  | .ret e, ρ => some (.ret (e.ev ρ))
  | .each e ps lo rt a, ρ => eachI (PC.ev Φ n a) ρ ps lo rt (e.ev ρ).l (lo.map ρ.o)

/-- the registers, the objects that a piece may set -/
def PI.modR : PI → List Nat
  | .setR t _ => [t] | .call _ t _ _ => [t] | .callc _ t _ _ => [t] | _ => []
def PI.modO : PI → List Nat
  | .setO j _ => [j] | .mcall j _ _ => [j] | _ => []
def PC.modR : PC → List Nat
  | .skip => [] | .is l => l.flatMap PI.modR | .seq a b => a.modR ++ b.modR | .ite _ lr _ a b => lr ++ a.modR ++ b.modR
  | .block _ lr _ a => lr ++ a.modR | .loop lr _ a => lr ++ a.modR | .exit _ => [] | .ret _ => [] | .each .. => []
def PC.modO : PC → List Nat
  | .skip => [] | .is l => l.flatMap PI.modO | .seq a b => a.modO ++ b.modO | .ite _ _ lo a b => lo ++ a.modO ++ b.modO
  | .block _ _ lo a => lo ++ a.modO | .loop _ lo a => lo ++ a.modO | .exit _ => [] | .ret _ => [] | .each _ _ lo _ _ => lo

/-- 'ρ'' is 'ρ' outside the named places -/
structure Env.but (ρ ρ' : Env) (mr mo : List Nat) : Prop where
  r : ∀ t, t ∉ mr → ρ'.r t = ρ.r t
  o : ∀ t, t ∉ mo → ρ'.o t = ρ.o t

theorem Env.but.refl (ρ : Env) (mr mo : List Nat) : ρ.but ρ mr mo := ⟨fun _ _ => rfl, fun _ _ => rfl⟩
theorem Env.but.trans {a b c : Env} {mr mo : List Nat} (h : a.but b mr mo) (k : b.but c mr mo) : a.but c mr mo :=
  ⟨fun t ht => (k.r t ht).trans (h.r t ht), fun t ht => (k.o t ht).trans (h.o t ht)⟩
theorem Env.but.mono {a b : Env} {mr mo mr' mo' : List Nat} (h : a.but b mr mo) (h1 : ∀ t, t ∈ mr → t ∈ mr') (h2 : ∀ t, t ∈ mo → t ∈ mo') : a.but b mr' mo' :=
  ⟨fun t ht => h.r t fun hm => ht (h1 t hm), fun t ht => h.o t fun hm => ht (h2 t hm)⟩
theorem Env.but.join (ρ ρ' : Env) (lr lo : List Nat) : ρ.but (ρ.join lr lo ρ') lr lo :=
  ⟨fun t ht => by simp [Env.join, Env.put, putL_map, ht], fun t ht => by simp [Env.join, Env.put, putL_map, ht]⟩

theorem PI.run_but {Φ : Funs} {x : PI} {ρ ρ' : Env} (h : x.run Φ ρ = some ρ') : ρ.but ρ' x.modR x.modO := by
  cases x with
  | setR t e => simp only [PI.run, Option.some.injEq] at h; subst h; exact ⟨fun u hu => by simp [PI.modR] at hu; simp [Env.setR, upd_ne _ _ hu], fun _ _ => rfl⟩
  | setO t e => simp only [PI.run, Option.some.injEq] at h; subst h; exact ⟨fun _ _ => rfl, fun u hu => by simp [PI.modO] at hu; simp [Env.setO, upd_ne _ _ hu]⟩
  | chk e =>
    cases hb : (e.ev ρ).b <;> simp [PI.run, hb] at h
    subst h; exact .refl _ _ _
  | call gs dst f args =>
    cases hb : holds gs ρ <;> simp [PI.run, hb] at h
    · subst h; exact .refl _ _ _
    · obtain ⟨d, _, rfl⟩ := h
      exact ⟨fun u hu => by simp [PI.modR] at hu; simp [Env.setR, upd_ne _ _ hu], fun _ _ => rfl⟩
  | callc gs dst f args =>
    cases hb : holds gs ρ <;> simp only [PI.run, hb, cond_true, cond_false] at h
    · cases h; exact .refl _ _ _
    · split at h
      case h_2 => cases h
      simp only [Option.map_eq_some_iff] at h
      obtain ⟨d, _, rfl⟩ := h
      exact ⟨fun u hu => by simp [PI.modR] at hu; simp [Env.setR, upd_ne _ _ hu], fun _ _ => rfl⟩
  | mcall j f args =>
    simp [PI.run] at h
    obtain ⟨d, _, rfl⟩ := h
    exact ⟨fun _ _ => rfl, fun u hu => by simp [PI.modO] at hu; simp [Env.setO, upd_ne _ _ hu]⟩

theorem PI.runs_but {Φ : Funs} : ∀ {l : List PI} {ρ ρ' : Env}, PI.runs Φ l ρ = some ρ' → ρ.but ρ' (l.flatMap PI.modR) (l.flatMap PI.modO)
  | [], ρ, ρ', h => by simp [PI.runs] at h; subst h; exact .refl _ _ _
  | x :: xs, ρ, ρ', h => by
    simp only [PI.runs, Option.bind_eq_some_iff] at h
    obtain ⟨ρ1, h1, h2⟩ := h
    exact ((PI.run_but h1).mono (by simp_all) (by simp_all)).trans ((PI.runs_but h2).mono (by simp_all) (by simp_all))

def Out.env? : Out → Option Env
  | .next ρ => some ρ
  | .exit _ ρ => some ρ
  | .ret _ => none

theorem loopI_but {body : Env → Option Out} {mr mo : List Nat} {ρ : Env} {lr lo : List Nat}
    (hb : ∀ ρ x ρ', body ρ = some x → x.env? = some ρ' → ρ.but ρ' mr mo) (h1 : ∀ t, t ∈ lr → t ∈ mr) (h2 : ∀ t, t ∈ lo → t ∈ mo) :
    ∀ (n : Nat) (ρ1 : Env) (x : Out) (ρ' : Env), loopI body ρ lr lo n (lr.map ρ1.r) (lo.map ρ1.o) = some x → x.env? = some ρ' → ρ.but ρ' mr mo := by
  intro n
  induction n with
  | zero => intro ρ1 x ρ' h; simp [loopI] at h
  | succ n ih =>
    intro ρ1 x ρ' h he
    have hj : ρ.but (ρ.put lr (lr.map ρ1.r) lo (lo.map ρ1.o)) mr mo := (Env.but.join ρ ρ1 lr lo).mono h1 h2
    simp only [loopI] at h
    split at h
    · rename_i ρ2 h3
      exact ih ρ2 x ρ' h he
    · rename_i h3
      exact hj.trans (hb _ x ρ' h he)

theorem eachI_but {body : Env → Option Out} {ρ : Env} {ps lo : List Nat} {rt : Option PE} : ∀ {xs : List D} {ρ1 x ρ'}, eachI body ρ ps lo rt xs (lo.map (Env.o ρ1)) = some x → x.env? = some ρ' → ρ.but ρ' [] lo
  | [], ρ1, x, ρ', h, he => by
    simp only [eachI, Option.some.injEq] at h
    subst h
    simp only [Out.env?, Option.some.injEq] at he
    subst he
    exact Env.but.join ρ ρ1 [] lo
  | y :: xs, ρ1, x, ρ', h, he => by
    simp only [eachI] at h
    split at h
    · exact eachI_but h he
    · rename_i id ρ2 _
      cases hb : Nat.beq id retId <;> simp only [hb, cond_true, cond_false] at h
      · cases h
        simp only [Out.env?, Option.some.injEq] at he
        subst he
        exact Env.but.join ρ ρ2 [] lo
      · simp only [Option.map_eq_some_iff] at h
        obtain ⟨e, _, rfl⟩ := h
        simp [Out.env?] at he
    · cases h

theorem PC.ev_but {Φ : Funs} {n : Nat} : ∀ (c : PC) (ρ : Env) (x : Out) (ρ' : Env), c.ev Φ n ρ = some x → x.env? = some ρ' → ρ.but ρ' c.modR c.modO := by
  intro c
  induction c with
  | skip => intro ρ x ρ' h he; simp [PC.ev] at h; subst h; simp [Out.env?] at he; subst he; exact .refl _ _ _
  | is l =>
    intro ρ x ρ' h he
    simp only [PC.ev, Option.map_eq_some_iff] at h
    obtain ⟨ρ1, h1, rfl⟩ := h
    simp [Out.env?] at he
    subst he
    exact PI.runs_but h1
  | seq a b iha ihb =>
    intro ρ x ρ' h he
    simp only [PC.ev] at h
    split at h
    · rename_i ρ1 h1
      exact ((iha ρ _ ρ1 h1 rfl).mono (by simp_all [PC.modR]) (by simp_all [PC.modO])).trans ((ihb ρ1 x ρ' h he).mono (by simp_all [PC.modR]) (by simp_all [PC.modO]))
    · exact (iha ρ x ρ' h he).mono (by simp_all [PC.modR]) (by simp_all [PC.modO])
  | ite c lr lo a b iha ihb =>
    intro ρ x ρ' h he
    simp only [PC.ev] at h
    split at h
    · rename_i ρ1 h1
      simp at h
      subst h
      simp [Out.env?] at he
      subst he
      exact (Env.but.join ρ ρ1 lr lo).mono (by simp_all [PC.modR]) (by simp_all [PC.modO])
    · cases hb : (c.ev ρ).b <;> simp only [hb, cond_true, cond_false] at h
      · exact (ihb ρ x ρ' h he).mono (by simp_all [PC.modR]) (by simp_all [PC.modO])
      · exact (iha ρ x ρ' h he).mono (by simp_all [PC.modR]) (by simp_all [PC.modO])
  | block id lr lo a iha =>
    intro ρ x ρ' h he
    simp only [PC.ev] at h
    split at h
    · rename_i ρ1 h1
      simp at h
      subst h
      simp [Out.env?] at he
      subst he
      exact (Env.but.join ρ ρ1 lr lo).mono (by simp_all [PC.modR]) (by simp_all [PC.modO])
    · rename_i id' ρ1 h1
      cases hb : Nat.beq id' id <;> simp only [hb, cond_true, cond_false] at h <;> simp at h <;> subst h <;> simp [Out.env?] at he <;> subst he
      · exact (iha ρ _ ρ1 h1 rfl).mono (by simp_all [PC.modR]) (by simp_all [PC.modO])
      · exact (Env.but.join ρ ρ1 lr lo).mono (by simp_all [PC.modR]) (by simp_all [PC.modO])
    · exact (iha ρ x ρ' h he).mono (by simp_all [PC.modR]) (by simp_all [PC.modO])
  | loop lr lo a iha =>
    intro ρ x ρ' h he
    simp only [PC.ev] at h
    exact loopI_but (fun ρ x ρ' h he => (iha ρ x ρ' h he).mono (by simp_all [PC.modR]) (by simp_all [PC.modO])) (by simp_all [PC.modR]) (by simp_all [PC.modO]) n ρ x ρ' h he
  | exit id => intro ρ x ρ' h he; simp [PC.ev] at h; subst h; simp [Out.env?] at he; subst he; exact .refl _ _ _
  | ret e => intro ρ x ρ' h he; simp [PC.ev] at h; subst h; simp [Out.env?] at he
  | each e ps lo rt a iha => intro ρ x ρ' h he; simp only [PC.ev] at h; exact eachI_but h he

end Cx
