/-
  Files as Lean's own data; what is struck out; the day of the dishonour.
-/
import Derived.Test.YtjjfmpdhjbojfaaTiB
import Derived.Test.YtjjfmpdhjbojfaaCyH
set_option linter.unusedSimpArgs false
set_option linter.unusedVariables false
namespace Title
open Go Go.Proofs Cx

structure S where
  (kind part who fr to sum day city flags : Int)
structure Al where
  (at_ sum : Int)
structure A where
  (kind who to part at_ sum day city form : Int)
structure Fa where
  (kind at_ n : Int)
structure File where
  (b0 b1 payee b3 b4 b5 b6 b7 b8 b9 b10 b11 b12 b13 parts : Int)
  signs : List S
  alters : List Al
  acts : List A
  facts : List Fa
def encS (s : S) : D := .agg [.int s.kind, .int s.part, .int s.who, .int s.fr, .int s.to, .int s.sum, .int s.day, .int s.city, .int s.flags]
def encAl (a : Al) : D := .agg [.int a.at_, .int a.sum]
def encA (a : A) : D := .agg [.int a.kind, .int a.who, .int a.to, .int a.part, .int a.at_, .int a.sum, .int a.day, .int a.city, .int a.form]
def encFa (a : Fa) : D := .agg [.int a.kind, .int a.at_, .int a.n]
def encF (f : File) : D := .agg [.int f.b0, .int f.b1, .int f.payee, .int f.b3, .int f.b4, .int f.b5, .int f.b6, .int f.b7, .int f.b8, .int f.b9, .int f.b10, .int f.b11, .int f.b12, .int f.b13, .int f.parts,
  .list (f.signs.map encS), .list (f.alters.map encAl), .list (f.acts.map encA), .list (f.facts.map encFa)]
@[simp] theorem encF_cells (f : File) : (encF f).cells = [.int f.b0, .int f.b1, .int f.payee, .int f.b3, .int f.b4, .int f.b5, .int f.b6, .int f.b7, .int f.b8, .int f.b9, .int f.b10, .int f.b11, .int f.b12, .int f.b13, .int f.parts,
  .list (f.signs.map encS), .list (f.alters.map encAl), .list (f.acts.map encA), .list (f.facts.map encFa)] := _root_.id rfl
@[simp] theorem mk_F (f : File) : D.agg [.int f.b0, .int f.b1, .int f.payee, .int f.b3, .int f.b4, .int f.b5, .int f.b6, .int f.b7, .int f.b8, .int f.b9, .int f.b10, .int f.b11, .int f.b12, .int f.b13, .int f.parts,
  .list (f.signs.map encS), .list (f.alters.map encAl), .list (f.acts.map encA), .list (f.facts.map encFa)] = encF f := _root_.id rfl
@[simp] theorem allc_F (f : File) : allc 19 (encF f) = encF f := _root_.id rfl
@[simp] theorem F_c2 (f : File) : (encF f).c 2 = .int f.payee := _root_.id rfl
@[simp] theorem F_c14 (f : File) : (encF f).c 14 = .int f.parts := _root_.id rfl
@[simp] theorem F_c15 (f : File) : (encF f).c 15 = .list (f.signs.map encS) := _root_.id rfl
@[simp] theorem F_c16 (f : File) : (encF f).c 16 = .list (f.alters.map encAl) := _root_.id rfl
@[simp] theorem F_c17 (f : File) : (encF f).c 17 = .list (f.acts.map encA) := _root_.id rfl
@[simp] theorem F_c18 (f : File) : (encF f).c 18 = .list (f.facts.map encFa) := _root_.id rfl
@[simp] theorem S_cells (s : S) : (encS s).cells = [.int s.kind, .int s.part, .int s.who, .int s.fr, .int s.to, .int s.sum, .int s.day, .int s.city, .int s.flags] := _root_.id rfl
@[simp] theorem A_cells (s : A) : (encA s).cells = [.int s.kind, .int s.who, .int s.to, .int s.part, .int s.at_, .int s.sum, .int s.day, .int s.city, .int s.form] := _root_.id rfl
/-- a row of nine put over nine cells -/
@[simp] theorem over_S (z : D) (h : z.cells.length = 9) (s : S) : D.agg (splice z.cells 0 (encS s).cells) = encS s := by
  simp only [S_cells, splice, List.take_zero, List.nil_append]
  rw [List.drop_eq_nil_iff.2 (by simp [h])]; rfl
theorem over_S' (s : S) : D.agg (splice [.int 0, .int 0, .int 0, .int 0, .int 0, .int 0, .int 0, .int 0, .int 0] 0 [.int s.kind, .int s.part, .int s.who, .int s.fr, .int s.to, .int s.sum, .int s.day, .int s.city, .int s.flags]) = encS s := _root_.id rfl
theorem over_A' (s : A) : D.agg (splice [.int 0, .int 0, .int 0, .int 0, .int 0, .int 0, .int 0, .int 0, .int 0] 0 [.int s.kind, .int s.who, .int s.to, .int s.part, .int s.at_, .int s.sum, .int s.day, .int s.city, .int s.form]) = encA s := _root_.id rfl
attribute [simp] over_S' over_A'
@[simp] theorem S_c0 (s : S) : (encS s).c 0 = .int s.kind := _root_.id rfl
@[simp] theorem S_c1 (s : S) : (encS s).c 1 = .int s.part := _root_.id rfl
@[simp] theorem S_c2 (s : S) : (encS s).c 2 = .int s.who := _root_.id rfl
@[simp] theorem S_c4 (s : S) : (encS s).c 4 = .int s.to := _root_.id rfl
@[simp] theorem S_c6 (s : S) : (encS s).c 6 = .int s.day := _root_.id rfl
@[simp] theorem S_c8 (s : S) : (encS s).c 8 = .int s.flags := _root_.id rfl
@[simp] theorem S_all (s : S) : allc 9 (encS s) = encS s := _root_.id rfl
@[simp] theorem A_c0 (s : A) : (encA s).c 0 = .int s.kind := _root_.id rfl
@[simp] theorem A_c4 (s : A) : (encA s).c 4 = .int s.at_ := _root_.id rfl
@[simp] theorem A_c6 (s : A) : (encA s).c 6 = .int s.day := _root_.id rfl
@[simp] theorem A_all (s : A) : allc 9 (encA s) = encA s := _root_.id rfl

structure Few (f : File) : Prop where
  signs : f.signs.length ≤ 100
  acts : f.acts.length ≤ 100
  alters : f.alters.length ≤ maxLen
  facts : f.facts.length ≤ maxLen

/-! maps with numbers as keys -/
def mI (m : List (Int × D)) : List (D × D) := m.map fun e => (.int e.1, e.2)
def putI (a : Int) (v : D) : List (Int × D) → List (Int × D)
  | [] => [(a, v)]
  | e :: m => if a = e.1 then (a, v) :: m else e :: putI a v m
def lookI (a : Int) : List (Int × D) → Option D
  | [] => none
  | e :: m => if a = e.1 then some e.2 else lookI a m
theorem keyEq_int (a b : Int) : keyEq (.int a) (.int b) = decide (a = b) := by
  show ((a == b) && true) = _
  rw [Bool.and_true]; rfl
theorem putM_int (a : Int) (v : D) : ∀ m, putM (.int a) v (mI m) = mI (putI a v m)
  | [] => rfl
  | e :: m => by
    have ih := putM_int a v m
    simp only [mI, List.map_cons, putM, keyEq_int, decide_eq_true_eq] at ih ⊢
    unfold putI
    split
    · rfl
    · rw [List.map_cons, ← ih]
theorem lookM_int (a : Int) : ∀ m, lookM (.int a) (mI m) = lookI a m
  | [] => rfl
  | e :: m => by
    have ih := lookM_int a m
    simp only [mI, List.map_cons, lookM, keyEq_int, decide_eq_true_eq] at ih ⊢
    unfold lookI
    rw [ih]
theorem lookI_put (a b : Int) (v : D) : ∀ m, lookI a (putI b v m) = if a = b then some v else lookI a m
  | [] => rfl
  | e :: m => by
    have ih := lookI_put a b v m
    unfold putI
    by_cases h : b = e.1
    · rw [if_pos h]
      unfold lookI
      by_cases h2 : a = b
      · simp [h2]
      · have : ¬ a = e.1 := fun e' => h2 (e'.trans h.symm)
        simp [h2, this]
    · rw [if_neg h]
      unfold lookI
      by_cases h2 : a = e.1
      · have : ¬ a = b := fun e' => h (e'.symm.trans h2)
        subst h2
        simp [this]
      · simp [h2, ih]
theorem putI_len (a : Int) (v : D) : ∀ m, (putI a v m).length ≤ m.length + 1
  | [] => by simp [putI]
  | e :: m => by
    unfold putI
    split
    · simp
    · have := putI_len a v m; simp; omega
@[simp] theorem mI_len (m : List (Int × D)) : (mI m).length = m.length := by simp [mI]

/-! what is struck out -/
def strikes (i day : Int) (a : A) : Bool := a.kind == 7 && a.at_ == i && decide (a.day ≤ day)
def struckB (acts : List A) (i day : Int) : Bool := acts.any (strikes i day)
def struckM (day : Int) : List A → List (Int × D)
  | [] => []
  | a :: l => struckM day l
def stepM (day : Int) (m : List (Int × D)) (a : A) : List (Int × D) := if a.kind = 7 ∧ a.day ≤ day then putI a.at_ (.bool true) m else m
def mapOf (day : Int) (acts : List A) : List (Int × D) := acts.foldl (stepM day) []
theorem mapOf_len (day : Int) (acts : List A) : (mapOf day acts).length ≤ acts.length := by
  have key : ∀ (l : List A) (m : List (Int × D)), (l.foldl (stepM day) m).length ≤ l.length + m.length := by
    intro l
    induction l with
    | nil => intro m; simp
    | cons a l ih =>
      intro m
      have := ih (stepM day m a)
      have h2 : (stepM day m a).length ≤ m.length + 1 := by
        unfold stepM; split
        · exact putI_len _ _ _
        · omega
      simp only [List.foldl_cons, List.length_cons]; omega
  simpa [mapOf] using key acts []
theorem mapOf_look (i day : Int) (acts : List A) : (lookI i (mapOf day acts)).getD (.bool false) = .bool (struckB acts i day) := by
  have key : ∀ (l : List A) (m : List (Int × D)) (b : Bool), (lookI i m).getD (.bool false) = .bool b → (lookI i (l.foldl (stepM day) m)).getD (.bool false) = .bool (b || l.any (strikes i day)) := by
    intro l
    induction l with
    | nil => intro m b h; simpa using h
    | cons a l ih =>
      intro m b h
      rw [List.foldl_cons, ih (stepM day m a) (b || strikes i day a) ?_]
      · simp [Bool.or_assoc]
      · unfold stepM strikes
        by_cases h1 : a.kind = 7 ∧ a.day ≤ day
        · rw [if_pos h1, lookI_put]
          by_cases h2 : i = a.at_
          · simp [h2, h1.1, h1.2]
          · have : ¬ a.at_ = i := fun e => h2 e.symm
            simp [h2, this, h]
        · rw [if_neg h1, h]
          have : ¬ (a.kind = 7 ∧ a.at_ = i ∧ a.day ≤ day) := fun e => h1 ⟨e.1, e.2.2⟩
          by_cases h3 : a.kind = 7
          · have h4 : ¬ a.day ≤ day := fun e => h1 ⟨h3, e⟩
            simp [h4]
          · simp [h3]
  simpa [struckB, mapOf] using key acts [] false rfl
end Title
