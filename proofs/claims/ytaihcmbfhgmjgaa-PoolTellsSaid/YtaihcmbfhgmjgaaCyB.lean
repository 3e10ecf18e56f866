/-
  Instructions compared, what they look at, and when two of them may change places.
-/
import Derived.Test.YtaihcmbfhgmjgaaCyA
set_option linter.unusedSimpArgs false
set_option linter.unusedVariables false
namespace Cx
open Go Go.RowKit

def valBeq : Value → Value → Bool
  | .int k n, .int k' m => k == k' && n == m
  | .bool a, .bool b => a == b
  | .string a, .string b => decide (a = b)
  | .nilFunc, .nilFunc => true
  | _, _ => false
theorem valBeq_eq : ∀ a b, valBeq a b = true → a = b := by
  intro a b h
  unfold valBeq at h
  split at h
  · simp only [Bool.and_eq_true, beq_iff_eq] at h; rw [h.1, h.2]
  · simp only [beq_iff_eq] at h; rw [h]
  · simp only [decide_eq_true_eq] at h; rw [h]
  · rfl
  · cases h

mutual
def D.beq : D → D → Bool
  | .v a, e => match e with | .v b => valBeq a b | _ => false
  | .agg a, e => match e with | .agg b => D.beqs a b | _ => false
  | .list a, e => match e with | .list b => D.beqs a b | _ => false
  | .tup a, e => match e with | .tup b => D.beqs a b | _ => false
  | .map a, e => match e with | .map b => a.isEmpty && b.isEmpty | _ => false
  | .ref a, e => match e with | .ref b => D.beq a b | _ => false
  | .clo f a, e => match e with | .clo g b => Nat.beq f g && D.beqs a b | _ => false
  | .none, e => match e with | .none => true | _ => false
def D.beqs : List D → List D → Bool
  | [], e => match e with | [] => true | _ => false
  | a :: as, e => match e with | b :: bs => D.beq a b && D.beqs as bs | _ => false
end
mutual
theorem D.beq_eq : ∀ a b : D, D.beq a b = true → a = b
  | .v a, e, h => by cases e <;> first | (simp only [D.beq] at h; rw [valBeq_eq _ _ h]) | cases h
  | .agg a, e, h => by cases e <;> first | (simp only [D.beq] at h; rw [D.beqs_eq _ _ h]) | cases h
  | .list a, e, h => by cases e <;> first | (simp only [D.beq] at h; rw [D.beqs_eq _ _ h]) | cases h
  | .tup a, e, h => by cases e <;> first | (simp only [D.beq] at h; rw [D.beqs_eq _ _ h]) | cases h
  | .map a, e, h => by
    cases e <;> first | (simp only [D.beq, Bool.and_eq_true, List.isEmpty_iff] at h; rw [h.1, h.2]) | cases h
  | .ref a, e, h => by cases e <;> first | (simp only [D.beq] at h; rw [D.beq_eq _ _ h]) | cases h
  | .clo f a, e, h => by cases e <;> first | (simp only [D.beq, Bool.and_eq_true] at h; rw [Nat.eq_of_beq_eq_true h.1, D.beqs_eq _ _ h.2]) | cases h
  | .none, e, h => by cases e <;> first | rfl | cases h
theorem D.beqs_eq : ∀ a b : List D, D.beqs a b = true → a = b
  | [], e, h => by cases e <;> first | rfl | cases h
  | a :: as, e, h => by
    cases e with
    | nil => cases h
    | cons b bs => simp only [D.beqs, Bool.and_eq_true] at h; rw [D.beq_eq _ _ h.1, D.beqs_eq _ _ h.2]
end

mutual
def PE.beq : PE → PE → Bool
  | .r a, e => match e with | .r b => Nat.beq a b | _ => false
  | .o a, e => match e with | .o b => Nat.beq a b | _ => false
  | .con a, e => match e with | .con b => D.beq a b | _ => false
  | .cell x i, e => match e with | .cell y j => PE.beq x y && Nat.beq i j | _ => false
  | .sub x i n, e => match e with | .sub y j m => PE.beq x y && (Nat.beq i j && Nat.beq n m) | _ => false
  | .setc x i z, e => match e with | .setc y j u => PE.beq x y && (Nat.beq i j && PE.beq z u) | _ => false
  | .mk x, e => match e with | .mk y => PE.beqs x y | _ => false
  | .ai op k x y, e => match e with | .ai op' k' x' y' => op == op' && (k == k' && (PE.beq x x' && PE.beq y y')) | _ => false
  | .ci op x y, e => match e with | .ci op' x' y' => op == op' && (PE.beq x x' && PE.beq y y') | _ => false
  | .cb op x y, e => match e with | .cb op' x' y' => op == op' && (PE.beq x x' && PE.beq y y') | _ => false
  | .cs op x y, e => match e with | .cs op' x' y' => op == op' && (PE.beq x x' && PE.beq y y') | _ => false
  | .sadd x y, e => match e with | .sadd x' y' => PE.beq x x' && PE.beq y y' | _ => false
  | .nt x, e => match e with | .nt y => PE.beq x y | _ => false
  | .conv k x, e => match e with | .conv k' y => k == k' && PE.beq x y | _ => false
  | .pick c x y, e => match e with | .pick c' x' y' => PE.beq c c' && (PE.beq x x' && PE.beq y y') | _ => false
  | .llen x, e => match e with | .llen y => PE.beq x y | _ => false
  | .slen x, e => match e with | .slen y => PE.beq x y | _ => false
  | .mlen x, e => match e with | .mlen y => PE.beq x y | _ => false
  | .nth x y, e => match e with | .nth x' y' => PE.beq x x' && PE.beq y y' | _ => false
  | .idx x y, e => match e with | .idx x' y' => PE.beq x x' && PE.beq y y' | _ => false
  | .sidx x y, e => match e with | .sidx x' y' => PE.beq x x' && PE.beq y y' | _ => false
  | .sok x y, e => match e with | .sok x' y' => PE.beq x x' && PE.beq y y' | _ => false
  | .setn x i n y, e => match e with | .setn x' i' n' y' => PE.beq x x' && (PE.beq i i' && (Nat.beq n n' && PE.beq y y')) | _ => false
  | .app x y, e => match e with | .app x' y' => PE.beq x x' && PE.beq y y' | _ => false
  | .lst x, e => match e with | .lst y => PE.beqs x y | _ => false
  | .rep x y, e => match e with | .rep x' y' => PE.beq x x' && PE.beq y y' | _ => false
  | .slc c x y, e => match e with | .slc c' x' y' => PE.beq c c' && (PE.beq x x' && PE.beq y y') | _ => false
  | .slok c x y, e => match e with | .slok c' x' y' => PE.beq c c' && (PE.beq x x' && PE.beq y y') | _ => false
  | .ref x, e => match e with | .ref y => PE.beq x y | _ => false
  | .deref x, e => match e with | .deref y => PE.beq x y | _ => false
  | .look c x y, e => match e with | .look c' x' y' => PE.beq c c' && (PE.beq x x' && PE.beq y y') | _ => false
  | .has x y, e => match e with | .has x' y' => PE.beq x x' && PE.beq y y' | _ => false
  | .put c x y, e => match e with | .put c' x' y' => PE.beq c c' && (PE.beq x x' && PE.beq y y') | _ => false
  | .mn x y, e => match e with | .mn x' y' => PE.beq x x' && PE.beq y y' | _ => false
  | .mx x y, e => match e with | .mx x' y' => PE.beq x x' && PE.beq y y' | _ => false
  | .tup x, e => match e with | .tup y => PE.beqs x y | _ => false
  | .tget x i, e => match e with | .tget y j => PE.beq x y && Nat.beq i j | _ => false
  | .clo f x, e => match e with | .clo g y => Nat.beq f g && PE.beqs x y | _ => false
  | .an x y, e => match e with | .an x' y' => PE.beq x x' && PE.beq y y' | _ => false
  | .imp c x, e => match e with | .imp c' y => gsBeq c c' && PE.beq x y | _ => false
def PE.beqs : List PE → List PE → Bool
  | [], e => match e with | [] => true | _ => false
  | a :: as, e => match e with | b :: bs => PE.beq a b && PE.beqs as bs | _ => false
end

theorem nbeq {a b : Nat} (h : Nat.beq a b = true) : a = b := Nat.eq_of_beq_eq_true h

mutual
theorem PE.beq_eq : ∀ a b : PE, PE.beq a b = true → a = b
  | .r a, e, h => by cases e <;> first | (rw [nbeq h]) | cases h
  | .o a, e, h => by cases e <;> first | (rw [nbeq h]) | cases h
  | .con a, e, h => by cases e <;> first | (rw [D.beq_eq _ _ h]) | cases h
  | .cell x i, e, h => by cases e <;> first | (simp only [PE.beq, Bool.and_eq_true] at h; rw [PE.beq_eq _ _ h.1, nbeq h.2]) | cases h
  | .sub x i n, e, h => by cases e <;> first | (simp only [PE.beq, Bool.and_eq_true] at h; rw [PE.beq_eq _ _ h.1, nbeq h.2.1, nbeq h.2.2]) | cases h
  | .setc x i z, e, h => by cases e <;> first | (simp only [PE.beq, Bool.and_eq_true] at h; rw [PE.beq_eq _ _ h.1, nbeq h.2.1, PE.beq_eq _ _ h.2.2]) | cases h
  | .mk x, e, h => by cases e <;> first | (simp only [PE.beq] at h; rw [PE.beqs_eq _ _ h]) | cases h
  | .ai op k x y, e, h => by cases e <;> first | (simp only [PE.beq, Bool.and_eq_true, beq_iff_eq] at h; rw [h.1, h.2.1, PE.beq_eq _ _ h.2.2.1, PE.beq_eq _ _ h.2.2.2]) | cases h
  | .ci op x y, e, h => by cases e <;> first | (simp only [PE.beq, Bool.and_eq_true, beq_iff_eq] at h; rw [h.1, PE.beq_eq _ _ h.2.1, PE.beq_eq _ _ h.2.2]) | cases h
  | .cb op x y, e, h => by cases e <;> first | (simp only [PE.beq, Bool.and_eq_true, beq_iff_eq] at h; rw [h.1, PE.beq_eq _ _ h.2.1, PE.beq_eq _ _ h.2.2]) | cases h
  | .cs op x y, e, h => by cases e <;> first | (simp only [PE.beq, Bool.and_eq_true, beq_iff_eq] at h; rw [h.1, PE.beq_eq _ _ h.2.1, PE.beq_eq _ _ h.2.2]) | cases h
  | .sadd x y, e, h => by cases e <;> first | (simp only [PE.beq, Bool.and_eq_true] at h; rw [PE.beq_eq _ _ h.1, PE.beq_eq _ _ h.2]) | cases h
  | .nt x, e, h => by cases e <;> first | (simp only [PE.beq] at h; rw [PE.beq_eq _ _ h]) | cases h
  | .conv k x, e, h => by cases e <;> first | (simp only [PE.beq, Bool.and_eq_true, beq_iff_eq] at h; rw [h.1, PE.beq_eq _ _ h.2]) | cases h
  | .pick c x y, e, h => by cases e <;> first | (simp only [PE.beq, Bool.and_eq_true] at h; rw [PE.beq_eq _ _ h.1, PE.beq_eq _ _ h.2.1, PE.beq_eq _ _ h.2.2]) | cases h
  | .llen x, e, h => by cases e <;> first | (simp only [PE.beq] at h; rw [PE.beq_eq _ _ h]) | cases h
  | .slen x, e, h => by cases e <;> first | (simp only [PE.beq] at h; rw [PE.beq_eq _ _ h]) | cases h
  | .mlen x, e, h => by cases e <;> first | (simp only [PE.beq] at h; rw [PE.beq_eq _ _ h]) | cases h
  | .nth x y, e, h => by cases e <;> first | (simp only [PE.beq, Bool.and_eq_true] at h; rw [PE.beq_eq _ _ h.1, PE.beq_eq _ _ h.2]) | cases h
  | .idx x y, e, h => by cases e <;> first | (simp only [PE.beq, Bool.and_eq_true] at h; rw [PE.beq_eq _ _ h.1, PE.beq_eq _ _ h.2]) | cases h
  | .sidx x y, e, h => by cases e <;> first | (simp only [PE.beq, Bool.and_eq_true] at h; rw [PE.beq_eq _ _ h.1, PE.beq_eq _ _ h.2]) | cases h
  | .sok x y, e, h => by cases e <;> first | (simp only [PE.beq, Bool.and_eq_true] at h; rw [PE.beq_eq _ _ h.1, PE.beq_eq _ _ h.2]) | cases h
  | .setn x i n y, e, h => by cases e <;> first | (simp only [PE.beq, Bool.and_eq_true] at h; rw [PE.beq_eq _ _ h.1, PE.beq_eq _ _ h.2.1, nbeq h.2.2.1, PE.beq_eq _ _ h.2.2.2]) | cases h
  | .app x y, e, h => by cases e <;> first | (simp only [PE.beq, Bool.and_eq_true] at h; rw [PE.beq_eq _ _ h.1, PE.beq_eq _ _ h.2]) | cases h
  | .lst x, e, h => by cases e <;> first | (simp only [PE.beq] at h; rw [PE.beqs_eq _ _ h]) | cases h
  | .rep x y, e, h => by cases e <;> first | (simp only [PE.beq, Bool.and_eq_true] at h; rw [PE.beq_eq _ _ h.1, PE.beq_eq _ _ h.2]) | cases h
  | .slc c x y, e, h => by cases e <;> first | (simp only [PE.beq, Bool.and_eq_true] at h; rw [PE.beq_eq _ _ h.1, PE.beq_eq _ _ h.2.1, PE.beq_eq _ _ h.2.2]) | cases h
  | .slok c x y, e, h => by cases e <;> first | (simp only [PE.beq, Bool.and_eq_true] at h; rw [PE.beq_eq _ _ h.1, PE.beq_eq _ _ h.2.1, PE.beq_eq _ _ h.2.2]) | cases h
  | .ref x, e, h => by cases e <;> first | (simp only [PE.beq] at h; rw [PE.beq_eq _ _ h]) | cases h
  | .deref x, e, h => by cases e <;> first | (simp only [PE.beq] at h; rw [PE.beq_eq _ _ h]) | cases h
  | .look c x y, e, h => by cases e <;> first | (simp only [PE.beq, Bool.and_eq_true] at h; rw [PE.beq_eq _ _ h.1, PE.beq_eq _ _ h.2.1, PE.beq_eq _ _ h.2.2]) | cases h
  | .has x y, e, h => by cases e <;> first | (simp only [PE.beq, Bool.and_eq_true] at h; rw [PE.beq_eq _ _ h.1, PE.beq_eq _ _ h.2]) | cases h
  | .put c x y, e, h => by cases e <;> first | (simp only [PE.beq, Bool.and_eq_true] at h; rw [PE.beq_eq _ _ h.1, PE.beq_eq _ _ h.2.1, PE.beq_eq _ _ h.2.2]) | cases h
  | .mn x y, e, h => by cases e <;> first | (simp only [PE.beq, Bool.and_eq_true] at h; rw [PE.beq_eq _ _ h.1, PE.beq_eq _ _ h.2]) | cases h
  | .mx x y, e, h => by cases e <;> first | (simp only [PE.beq, Bool.and_eq_true] at h; rw [PE.beq_eq _ _ h.1, PE.beq_eq _ _ h.2]) | cases h
  | .tup x, e, h => by cases e <;> first | (simp only [PE.beq] at h; rw [PE.beqs_eq _ _ h]) | cases h
  | .tget x i, e, h => by cases e <;> first | (simp only [PE.beq, Bool.and_eq_true] at h; rw [PE.beq_eq _ _ h.1, nbeq h.2]) | cases h
  | .clo f x, e, h => by cases e <;> first | (simp only [PE.beq, Bool.and_eq_true] at h; rw [nbeq h.1, PE.beqs_eq _ _ h.2]) | cases h
  | .an x y, e, h => by cases e <;> first | (simp only [PE.beq, Bool.and_eq_true] at h; rw [PE.beq_eq _ _ h.1, PE.beq_eq _ _ h.2]) | cases h
  | .imp c x, e, h => by cases e <;> first | (simp only [PE.beq, Bool.and_eq_true] at h; rw [gsBeq_eq _ _ h.1, PE.beq_eq _ _ h.2]) | cases h
theorem PE.beqs_eq : ∀ a b : List PE, PE.beqs a b = true → a = b
  | [], e, h => by cases e <;> first | rfl | cases h
  | a :: as, e, h => by
    cases e with
    | nil => cases h
    | cons b bs => simp only [PE.beqs, Bool.and_eq_true] at h; rw [PE.beq_eq _ _ h.1, PE.beqs_eq _ _ h.2]
end

def PI.beq : PI → PI → Bool
  | .setR t x, e => match e with | .setR u y => Nat.beq t u && PE.beq x y | _ => false
  | .setO t x, e => match e with | .setO u y => Nat.beq t u && PE.beq x y | _ => false
  | .chk x, e => match e with | .chk y => PE.beq x y | _ => false
  | .call gs d f as, e => match e with | .call gs' d' f' as' => gsBeq gs gs' && (Nat.beq d d' && (Nat.beq f f' && PE.beqs as as')) | _ => false
  | .callc gs d f as, e => match e with | .callc gs' d' f' as' => gsBeq gs gs' && (Nat.beq d d' && (PE.beq f f' && PE.beqs as as')) | _ => false
  | .mcall d f as, e => match e with | .mcall d' f' as' => Nat.beq d d' && (Nat.beq f f' && PE.beqs as as') | _ => false
theorem PI.beq_eq : ∀ a b : PI, PI.beq a b = true → a = b := by
  intro a b h
  cases a <;> cases b <;> first
    | (cases h; done)
    | (simp only [PI.beq, Bool.and_eq_true] at h; first
        | rw [nbeq h.1, PE.beq_eq _ _ h.2]
        | rw [PE.beq_eq _ _ h]
        | rw [gsBeq_eq _ _ h.1, nbeq h.2.1, nbeq h.2.2.1, PE.beqs_eq _ _ h.2.2.2]
        | rw [gsBeq_eq _ _ h.1, nbeq h.2.1, PE.beq_eq _ _ h.2.2.1, PE.beqs_eq _ _ h.2.2.2]
        | rw [nbeq h.1, nbeq h.2.1, PE.beqs_eq _ _ h.2.2])
def PI.beqs : List PI → List PI → Bool
  | [], e => match e with | [] => true | _ => false
  | a :: as, e => match e with | b :: bs => PI.beq a b && PI.beqs as bs | _ => false
theorem PI.beqs_eq : ∀ a b : List PI, PI.beqs a b = true → a = b
  | [], e, h => by cases e <;> first | rfl | cases h
  | a :: as, e, h => by
    cases e with
    | nil => cases h
    | cons b bs => simp only [PI.beqs, Bool.and_eq_true] at h; rw [PI.beq_eq _ _ h.1, PI.beqs_eq _ _ h.2]
end Cx
