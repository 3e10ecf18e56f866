/-
  Data, types, the immutable part of memory, and how a value represents a datum.
-/
import Derived.Laws.AppendOwn
import Derived.Below
namespace Cx
open Go

/-- A datum: what a Go value means, with no memory. -/
inductive D where
  | v (x : Value)
  | agg (cs : List D)
  | list (xs : List D)
  | map (es : List (D × D))
  | ref (d : D)
  | clo (f : Nat) (caps : List D)
  | tup (ds : List D)
  | none
  deriving Inhabited

namespace D
def int (n : Int) : D := .v (.int .i64 n)
def bool (b : Bool) : D := .v (.bool b)
def i : D → Int | .v (.int _ n) => n | _ => 0
def b : D → Bool | .v (.bool x) => x | _ => false
def s : D → ByteArray | .v (.string x) => x | _ => ByteArray.empty
def cells : D → List D | .agg cs => cs | d => [d]
def c (d : D) (k : Nat) : D := d.cells.getD k .none
def l : D → List D | .list xs => xs | _ => []
def m : D → List (D × D) | .map es => es | _ => []
def tget : D → Nat → D | .tup ds, k => ds.getD k .none | _, _ => .none
def deref : D → D | .ref d => d | _ => .none
def fn : D → Nat | .clo f _ => f | _ => 0
def caps : D → List D | .clo _ cs => cs | _ => []
end D

/-- Types, as far as the compiler knows them. -/
inductive Ty where
  | int (k : IntKind)
  | bool
  | str
  | agg (ts : List Ty)
  | slice (e : Ty)
  | nils (e : Ty)
  | map (k e : Ty)
  | ref (t : Ty)
  | fn (args : List Ty) (res : Ty)
  | tup (ts : List Ty)
  | trm
  deriving Inhabited, Repr

def Ty.size : Ty → Nat
  | .agg ts => ts.length
  | .trm => 3
  | _ => 1

def Ty.one : Ty → Bool
  | .agg _ | .tup _ | .trm => false
  | _ => true

def Ty.rowT : Ty → Bool
  | .agg _ => true
  | _ => false

mutual
def Ty.beq : Ty → Ty → Bool
  | .int a, .int b => a == b
  | .bool, .bool | .str, .str | .trm, .trm => true
  | .fn a r, .fn b s => Ty.beqs a b && Ty.beq r s
  | .agg a, .agg b => Ty.beqs a b
  | .tup a, .tup b => Ty.beqs a b
  | .slice a, .slice b => Ty.beq a b
  | .nils a, .nils b => Ty.beq a b
  | .ref a, .ref b => Ty.beq a b
  | .map a b, .map c d => Ty.beq a c && Ty.beq b d
  | _, _ => false
def Ty.beqs : List Ty → List Ty → Bool
  | [], [] => true
  | a :: as, b :: bs => Ty.beq a b && Ty.beqs as bs
  | _, _ => false
end

mutual
theorem Ty.beq_eq : ∀ a b : Ty, Ty.beq a b = true → a = b
  | .int a, b, h => by cases b <;> simp_all [Ty.beq]
  | .bool, b, h => by cases b <;> simp_all [Ty.beq]
  | .str, b, h => by cases b <;> simp_all [Ty.beq]
  | .trm, b, h => by cases b <;> simp_all [Ty.beq]
  | .fn a r, b, h => by
    cases b with
    | fn b s => simp only [Ty.beq, Bool.and_eq_true] at h; rw [Ty.beqs_eq a b h.1, Ty.beq_eq r s h.2]
    | _ => simp [Ty.beq] at h
  | .agg a, b, h => by
    cases b with
    | agg b => simp only [Ty.beq] at h; rw [Ty.beqs_eq a b h]
    | _ => simp [Ty.beq] at h
  | .tup a, b, h => by
    cases b with
    | tup b => simp only [Ty.beq] at h; rw [Ty.beqs_eq a b h]
    | _ => simp [Ty.beq] at h
  | .slice a, b, h => by
    cases b with
    | slice b => simp only [Ty.beq] at h; rw [Ty.beq_eq a b h]
    | _ => simp [Ty.beq] at h
  | .nils a, b, h => by
    cases b with
    | nils b => simp only [Ty.beq] at h; rw [Ty.beq_eq a b h]
    | _ => simp [Ty.beq] at h
  | .ref a, b, h => by
    cases b with
    | ref b => simp only [Ty.beq] at h; rw [Ty.beq_eq a b h]
    | _ => simp [Ty.beq] at h
  | .map a c, b, h => by
    cases b with
    | map b d => simp only [Ty.beq, Bool.and_eq_true] at h; rw [Ty.beq_eq a b h.1, Ty.beq_eq c d h.2]
    | _ => simp [Ty.beq] at h
theorem Ty.beqs_eq : ∀ a b : List Ty, Ty.beqs a b = true → a = b
  | [], b, h => by cases b <;> simp_all [Ty.beqs]
  | x :: a, b, h => by
    cases b with
    | nil => simp [Ty.beqs] at h
    | cons y b => simp only [Ty.beqs, Bool.and_eq_true] at h; rw [Ty.beq_eq x y h.1, Ty.beqs_eq a b h.2]
end

mutual
theorem Ty.beq_refl : ∀ a : Ty, Ty.beq a a = true
  | .int a => by simp [Ty.beq]
  | .bool => rfl
  | .str => rfl
  | .trm => rfl
  | .fn a r => by simp only [Ty.beq, Bool.and_eq_true]; exact ⟨Ty.beqs_refl a, Ty.beq_refl r⟩
  | .agg a => by simp only [Ty.beq]; exact Ty.beqs_refl a
  | .tup a => by simp only [Ty.beq]; exact Ty.beqs_refl a
  | .slice a => by simp only [Ty.beq]; exact Ty.beq_refl a
  | .nils a => by simp only [Ty.beq]; exact Ty.beq_refl a
  | .ref a => by simp only [Ty.beq]; exact Ty.beq_refl a
  | .map a b => by simp only [Ty.beq, Bool.and_eq_true]; exact ⟨Ty.beq_refl a, Ty.beq_refl b⟩
theorem Ty.beqs_refl : ∀ a : List Ty, Ty.beqs a a = true
  | [] => rfl
  | x :: a => by simp only [Ty.beqs, Bool.and_eq_true]; exact ⟨Ty.beq_refl x, Ty.beqs_refl a⟩
end

/-- the one type that is made of itself: two numbers and a list of the same; it stands under a slice alone -/
def Ty.trmA : Ty := .agg [.int .i64, .int .i64, .slice .trm]
/-- an element's type, unrolled -/
def Ty.unf : Ty → Ty
  | .trm => .trmA
  | t => t
/-- an element's type, rolled up -/
def Ty.rol (t : Ty) : Ty := bif Ty.beq t .trmA then .trm else t
theorem Ty.unf_size (t : Ty) : t.unf.size = t.size := by cases t <;> rfl
theorem Ty.rol_size (t : Ty) : t.rol.size = t.size := by
  unfold Ty.rol
  cases h : Ty.beq t .trmA with
  | true => rw [Ty.beq_eq t .trmA h]; rfl
  | false => rfl
theorem Ty.unf_rol (t : Ty) : t.rol.unf = t.unf := by
  unfold Ty.rol
  cases h : Ty.beq t .trmA with
  | true => rw [Ty.beq_eq t .trmA h]; rfl
  | false => rfl

theorem Ty.unf_ro {t : Ty} (h : t.rowT = true ∨ t.one = true) : t.unf = t := by
  cases t with
  | trm => simp [Ty.rowT, Ty.one] at h
  | _ => rfl

/-- How a closure of a function is called: what it has captured, its parameters, its result. -/
structure CSig where
  caps : List Ty
  args : List Ty
  res : Ty
  deriving Inhabited

/-- The immutable part of memory: cells and maps that nobody writes any more. -/
structure Im where
  c : Nat → Nat → Option Value
  m : Nat → Option (List (Value × Value))

structure Im.le (σ τ : Im) : Prop where
  c : ∀ k o v, σ.c k o = some v → τ.c k o = some v
  m : ∀ k es, σ.m k = some es → τ.m k = some es

theorem Im.le.refl (σ : Im) : σ.le σ := ⟨fun _ _ _ h => h, fun _ _ h => h⟩
theorem Im.le.trans {a b c : Im} (h : a.le b) (k : b.le c) : a.le c := ⟨fun x y z e => k.c _ _ _ (h.c x y z e), fun x y e => k.m _ _ (h.m x y e)⟩

def entriesOf (es : Array MapEntry) : List (Value × Value) := es.toList.map fun e => (e.key, e.val)

/-- the mark of a block for the deferred calls of a range over a function: empty, for ever -/
def dfrM : List (Value × Value) := [(.nilIface, .nilIface)]
def isMp (w : World) (k : Nat) (es : List (Value × Value)) : Prop := (es ≠ dfrM ∧ ∃ arr clock, w.heap[k]? = some (.map arr clock) ∧ entriesOf arr = es) ∨ (es = dfrM ∧ w.heap[k]? = some (.deferred (some [])))
theorem isMp.lt {w : World} {k : Nat} {es : List (Value × Value)} (h : isMp w k es) : k < w.heap.size := by
  rcases h with ⟨_, _, _, h, _⟩ | ⟨_, h⟩ <;> exact (Array.getElem?_eq_some_iff.1 h).1
theorem isMp.keep {w w' : World} {k : Nat} {es : List (Value × Value)} (h : isMp w k es) (e : w'.heap[k]? = w.heap[k]?) : isMp w' k es := by
  unfold isMp; rw [e]; exact h

structure Im.ok (σ : Im) (w : World) : Prop where
  c : ∀ k o v, σ.c k o = some v → w.cell? ⟨k, o, none⟩ = some v
  m : ∀ k es, σ.m k = some es → isMp w k es

/-- 'v' represents the datum 'd' of a type, in the immutable part of memory. cap: of each function the types of what a closure of it has captured. -/
inductive Rep (cap : Nat → Option CSig) (σ : Im) : Ty → Value → D → Prop where
  | int (k : IntKind) (n : Int) (h1 : k.min ≤ n) (h2 : n ≤ k.max) : Rep cap σ (.int k) (.int k n) (.v (.int k n))
  | bool (b : Bool) : Rep cap σ .bool (.bool b) (.v (.bool b))
  | str (s : ByteArray) (h : s.size ≤ maxLen) : Rep cap σ .str (.string s) (.v (.string s))
  | agg (ts : List Ty) (vs : List Value) (ds : List D) (h1 : vs.length = ts.length) (h2 : ds.length = ts.length)
      (h : ∀ (i : Nat) (t : Ty), ts[i]? = some t → Rep cap σ t (vs.getD i undef) (ds.getD i .none)) (ho : ∀ (i : Nat) (t : Ty), ts[i]? = some t → t.one = true) : Rep cap σ (.agg ts) (.agg vs.toArray) (.agg ds)
  | tup (ts : List Ty) (vs : List Value) (ds : List D) (h1 : vs.length = ts.length) (h2 : ds.length = ts.length)
      (h : ∀ (i : Nat) (t : Ty), ts[i]? = some t → Rep cap σ t (vs.getD i undef) (ds.getD i .none)) : Rep cap σ (.tup ts) (.tuple vs.toArray) (.tup ds)
  | nil (e : Ty) : Rep cap σ (.slice e) (.slice none 0 0) (.list [])
  | emp (e : Ty) (a : Addr) : Rep cap σ (.slice e) (.slice (some a) 0 0) (.list [])
  | nils (e : Ty) : Rep cap σ (.nils e) (.slice none 0 0) (.list [])
  | slice (e : Ty) (k o n c : Nat) (xs : List D) (vs : Nat → Value) (hn : xs.length = n) (hc : n ≤ c) (hm : c ≤ maxLen)
      (h : ∀ (i : Nat) (x : D), xs[i]? = some x → Rep cap σ e.unf (vs i) x)
      (hv : ∀ (i j : Nat) (u : Value), i < n → (vs i).cells[j]? = some u → σ.c k (o + i * e.size + j) = some u) : Rep cap σ (.slice e) (.slice (some ⟨k, o, none⟩) n c) (.list xs)
  | mapnil (kt et : Ty) : Rep cap σ (.map kt et) (.map none) (.map [])
  | map (kt et : Ty) (r : Nat) (ves : List (Value × Value)) (es : List (D × D)) (hm : σ.m r = some ves) (hl : es.length = ves.length) (hx : es.length ≤ maxLen)
      (hk : ∀ (i : Nat) (p : Value × Value) (q : D × D), ves[i]? = some p → es[i]? = some q → Rep cap σ kt p.1 q.1)
      (he : ∀ (i : Nat) (p : Value × Value) (q : D × D), ves[i]? = some p → es[i]? = some q → Rep cap σ et p.2 q.2) : Rep cap σ (.map kt et) (.map (some r)) (.map es)
  | ref (t : Ty) (k o : Nat) (v : Value) (d : D) (h : Rep cap σ t v d) (hv : ∀ (j : Nat) (u : Value), v.cells[j]? = some u → σ.c k (o + j) = some u) :
      Rep cap σ (.ref t) (.pointer (some ⟨k, o, none⟩)) (.ref d)
  | fn (f : Nat) (cs : CSig) (vs : List Value) (ds : List D) (hc : cap f = some cs) (h1 : vs.length = cs.caps.length) (h2 : ds.length = cs.caps.length)
      (h : ∀ (i : Nat) (t : Ty), cs.caps[i]? = some t → Rep cap σ t (vs.getD i undef) (ds.getD i .none)) : Rep cap σ (.fn cs.args cs.res) (.func (.func f) #[] vs.toArray) (.clo f ds)
  | fnnil (as : List Ty) (r : Ty) : Rep cap σ (.fn as r) .nilFunc (.v .nilFunc)

theorem Rep.mono {cap : Nat → Option CSig} {σ τ : Im} (hle : σ.le τ) {t : Ty} {v : Value} {d : D} (h : Rep cap σ t v d) : Rep cap τ t v d := by
  induction h with
  | int k n h1 h2 => exact .int k n h1 h2
  | bool b => exact .bool b
  | str s h => exact .str s h
  | agg ts vs ds h1 h2 _ ho ih => exact .agg ts vs ds h1 h2 ih ho
  | tup ts vs ds h1 h2 _ ih => exact .tup ts vs ds h1 h2 ih
  | nil e => exact .nil e
  | emp e a => exact .emp e a
  | nils e => exact .nils e
  | slice e k o n c xs vs hn hc hm _ hv ih => exact .slice e k o n c xs vs hn hc hm ih fun i j u hi hu => hle.c _ _ _ (hv i j u hi hu)
  | mapnil kt et => exact .mapnil kt et
  | map kt et r ves es hm hl hx _ _ ihk ihe => exact .map kt et r ves es (hle.m _ _ hm) hl hx ihk ihe
  | ref t k o v d _ hv ih => exact .ref t k o v d ih fun j u hu => hle.c _ _ _ (hv j u hu)
  | fn f cs vs ds hc h1 h2 _ ih => exact .fn f cs vs ds hc h1 h2 ih
  | fnnil as r => exact .fnnil as r

/-- a map (or a mark) forgotten -/
def Im.drop (σ : Im) (D : Nat) : Im := ⟨σ.c, fun k => if k = D then none else σ.m k⟩
/-- what keeps what is represented -/
structure Im.leR (cap : Nat → Option CSig) (σ τ : Im) : Prop where
  rep : ∀ {t : Ty} {v : Value} {d : D}, Rep cap σ t v d → Rep cap τ t v d
  c : ∀ k o v, σ.c k o = some v → τ.c k o = some v
theorem Im.le.leR {cap : Nat → Option CSig} {σ τ : Im} (h : σ.le τ) : Im.leR cap σ τ := ⟨fun r => r.mono h, h.c⟩

theorem not_dfr {cap : Nat → Option CSig} {σ : Im} {kt : Ty} {ves : List (Value × Value)} {es : List (D × D)} (hl : es.length = ves.length)
    (hk : ∀ (i : Nat) (p : Value × Value) (q : D × D), ves[i]? = some p → es[i]? = some q → Rep cap σ kt p.1 q.1) : ves ≠ dfrM := by
  rintro rfl
  match es, hl with
  | [q], _ => have := hk 0 _ q rfl rfl; cases this

/-- No datum lies in a mark. -/
theorem Rep.drop {cap : Nat → Option CSig} {σ : Im} {Dd : Nat} (hD : σ.m Dd = some dfrM) {t : Ty} {v : Value} {d : D} (h : Rep cap σ t v d) : Rep cap (σ.drop Dd) t v d := by
  induction h with
  | int k n h1 h2 => exact .int k n h1 h2
  | bool b => exact .bool b
  | str s h => exact .str s h
  | agg ts vs ds h1 h2 _ ho ih => exact .agg ts vs ds h1 h2 ih ho
  | tup ts vs ds h1 h2 _ ih => exact .tup ts vs ds h1 h2 ih
  | nil e => exact .nil e
  | emp e a => exact .emp e a
  | nils e => exact .nils e
  | slice e k o n c xs vs hn hc hm _ hv ih => exact .slice e k o n c xs vs hn hc hm ih hv
  | mapnil kt et => exact .mapnil kt et
  | map kt et r ves es hm hl hx hk _ ihk ihe =>
    refine .map kt et r ves es ?_ hl hx ihk ihe
    have hne : r ≠ Dd := fun e => by subst e; rw [hm] at hD; cases hD; exact not_dfr hl hk rfl
    simp [Im.drop, hne, hm]
  | ref t k o v d _ hv ih => exact .ref t k o v d ih hv
  | fn f cs vs ds hc h1 h2 _ ih => exact .fn f cs vs ds hc h1 h2 ih
  | fnnil as r => exact .fnnil as r

theorem Rep.unf {cap : Nat → Option CSig} {σ : Im} {t : Ty} {v : Value} {d : D} (h : Rep cap σ t v d) : Rep cap σ t.unf v d := by
  cases t with
  | trm => cases h
  | _ => exact h
theorem Rep.unf_rol {cap : Nat → Option CSig} {σ : Im} {t : Ty} {v : Value} {d : D} (h : Rep cap σ t v d) : Rep cap σ t.rol.unf v d := by
  rw [Ty.unf_rol]; exact h.unf

/-- How many cells a value of a type has. -/
theorem Rep.size {cap : Nat → Option CSig} {σ : Im} {t : Ty} {v : Value} {d : D} (h : Rep cap σ t v d) : v.cells.size = t.size := by
  cases h <;> simp_all [Value.cells, Ty.size]

theorem Rep.oneCell {cap : Nat → Option CSig} {σ : Im} {t : Ty} {v : Value} {d : D} (h : Rep cap σ t v d) (ht : t.one = true) : v.cells = #[v] ∧ v.oneCell' = true := by
  cases h <;> simp_all [Value.cells, Ty.one, Value.oneCell']

end Cx
