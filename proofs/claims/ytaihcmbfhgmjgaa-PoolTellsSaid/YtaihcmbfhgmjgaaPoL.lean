/-
  The stable sort, 1: rows of numbers, two of which change places; swapRange and rotate.
-/
import Derived.Test.YtaihcmbfhgmjgaaPoC
set_option linter.unusedSimpArgs false
set_option linter.unusedVariables false
namespace Pool
open Go Go.Proofs Cx

def swp (l : List Int) (i j : Nat) : List Int := (l.set i (l.getD j 0)).set j (l.getD i 0)
theorem swp_len (l : List Int) (i j : Nat) : (swp l i j).length = l.length := by simp [swp]
theorem getD_mid (A C : List Int) (y : Int) {i : Nat} (h : i = A.length) : (A ++ y :: C).getD i 0 = y := by
  subst h; simp [List.getD_eq_getElem?_getD]
theorem set_mid (A C : List Int) (y z : Int) {i : Nat} (h : i = A.length) : (A ++ y :: C).set i z = A ++ z :: C := by
  subst h; simp [List.set_append_right]
theorem swp_split (A B C : List Int) (x y : Int) {i j : Nat} (hi : i = A.length) (hj : j = A.length + 1 + B.length) : swp (A ++ x :: (B ++ y :: C)) i j = A ++ y :: (B ++ x :: C) := by
  have e : A ++ x :: (B ++ y :: C) = (A ++ x :: B) ++ y :: C := by simp
  have e2 : A ++ y :: (B ++ y :: C) = (A ++ y :: B) ++ y :: C := by simp
  unfold swp
  rw [getD_mid A _ x hi]
  have : (A ++ x :: (B ++ y :: C)).getD j 0 = y := by rw [e]; exact getD_mid _ _ _ (by simp; omega)
  rw [this, set_mid A _ x y hi, e2, set_mid _ _ _ _ (by simp; omega)]
  simp
theorem spliceI (a c : Int) : spliceD (.int a) 0 (.int c) = .int c := _root_.id rfl
theorem getI (l : List Int) (i : Nat) (h : i < l.length) : (Option.map D.int l[i]?).getD .none = .int (l.getD i 0) := by
  rw [List.getD_eq_getElem?_getD, List.getElem?_eq_getElem h]; rfl
theorem swp_d (l : List Int) (i j : Nat) (hi : i < l.length) (hj : j < l.length) :
    ((l.map D.int).set i (.int (l.getD j 0))).set j (.int (l.getD i 0)) = (swp l i j).map D.int := by
  simp only [swp, List.map_set]
/-- two elements change places, as the program does it -/
theorem swpD (l : List Int) (i j : Nat) (hi : i < l.length) (hj : j < l.length) (h3 : j < ((l.map D.int).set i (spliceD (.int l[i]) 0 (.int l[j]))).length) :
    D.list (((l.map D.int).set i (spliceD (.int l[i]) 0 (.int l[j]))).set j (spliceD ((l.map D.int).set i (spliceD (.int l[i]) 0 (.int l[j])))[j] 0 (.int l[i]))) = ints (swp l i j) := by
  have e1 : l.getD i 0 = l[i] := by rw [List.getD_eq_getElem?_getD, List.getElem?_eq_getElem hi]; rfl
  have e2 : l.getD j 0 = l[j] := by rw [List.getD_eq_getElem?_getD, List.getElem?_eq_getElem hj]; rfl
  have e3 : ((l.map D.int).set i (spliceD (.int l[i]) 0 (.int l[j])))[j] = .int ((l.set i l[j])[j]'(by simpa using hj)) := by
    simp only [spliceI, ← List.map_set, List.getElem_map]
  rw [e3, spliceI, spliceI, ← e1, ← e2, swp_d _ _ _ hi hj]; rfl

theorem swapRange_runs (c : D) (P X Q Y S : List Int) (a b n : Int) (hl : X.length = Y.length) (ha : a = P.length) (hb : b = P.length + X.length + Q.length) (hn : n = X.length)
    (hN : (P ++ (X ++ (Q ++ (Y ++ S)))).length ≤ 1000000) :
    Runs T 65 [.none, .int a, .int b, .int n, c, ints (P ++ (X ++ (Q ++ (Y ++ S))))] (.tup [.tup [], ints (P ++ (Y ++ (Q ++ (X ++ S))))]) := by
  refine .of_tree rfl rfl tr65_eq ?_
  subst ha hb hn
  simp only [List.length_append] at hN
  let L : Nat → List Int := fun k => P ++ ((Y.take k ++ X.drop k) ++ (Q ++ ((X.take k ++ Y.drop k) ++ S)))
  have h0 : L 0 = P ++ (X ++ (Q ++ (Y ++ S))) := by simp [L]
  have hE : L X.length = P ++ (Y ++ (Q ++ (X ++ S))) := by
    simp only [L, List.take_length, List.drop_length]
    rw [hl, List.take_length, List.drop_length]; simp
  have hlen : ∀ k, (L k).length = P.length + X.length + Q.length + Y.length + S.length := fun k => by
    simp only [L, List.length_append, List.length_take, List.length_drop]; omega
  have hstep : ∀ k, k < X.length → swp (L k) (P.length + k) (P.length + X.length + Q.length + k) = L (k + 1) := fun k hk => by
    have hy : k < Y.length := by omega
    have e : L k = (P ++ Y.take k) ++ X[k] :: ((X.drop (k + 1) ++ Q ++ X.take k) ++ Y[k] :: (Y.drop (k + 1) ++ S)) := by
      simp only [L]
      rw [List.drop_eq_getElem_cons hk, List.drop_eq_getElem_cons hy]; simp only [List.append_assoc, List.cons_append]
    rw [e, swp_split _ _ _ _ _ (by simp; omega) (by simp; omega)]
    simp only [L]
    rw [List.take_succ_eq_append_getElem hk, List.take_succ_eq_append_getElem hy]; simp only [List.append_assoc, List.cons_append, List.nil_append]
  simp [tr65]
  refine EvP.forRounds X.length (fun k => [.int k]) (fun k => [ints (L k)]) ?_ (fun k hk => ?_) ?_
  · simp [h0]
  · have hw : IntKind.i64.wrap ((k : Int) + 1) = (k : Int) + 1 := wrap64_id (by omega)
    have hs := hstep k hk
    have hl1 := hlen k
    obtain ⟨p, hp⟩ : ∃ p : Nat, p = P.length + k := ⟨_, rfl⟩
    obtain ⟨q, hq⟩ : ∃ q : Nat, q = P.length + X.length + Q.length + k := ⟨_, rfl⟩
    rw [← hp, ← hq] at hs
    have hw1 : IntKind.i64.wrap ((P.length : Int) + k) = (p : Int) := by rw [wrap64_id (by omega)]; omega
    have hw2 : IntKind.i64.wrap ((P.length : Int) + X.length + Q.length + k) = (q : Int) := by rw [wrap64_id (by omega)]; omega
    have i1 : p < (L k).length := by omega
    have i2 : q < (L k).length := by omega
    simp only [rd65_0_eq, rd65_0]
    simp [hk, hw, hw1, hw2, i1, i2]
    rw [swpD _ _ _ i1 i2, hs]
  · simp [rd65_0_eq, rd65_0, hE]
end Pool

/-!
  The stable sort, 2: the order by a key and then by number; lists in this order; rotate; sorting by insertion.
-/
namespace Pool
open Go Go.Proofs Cx

/-! ### the order -/
def ltV (v : Int → Int) (x y : Int) : Prop := v x < v y ∨ (v x = v y ∧ x < y)
instance (v : Int → Int) (x y : Int) : Decidable (ltV v x y) := by unfold ltV; infer_instance
theorem ltV_trans {v : Int → Int} {x y z : Int} (h : ltV v x y) (k : ltV v y z) : ltV v x z := by unfold ltV at *; omega
theorem ltV_irrefl {v : Int → Int} {x : Int} : ¬ ltV v x x := by unfold ltV; omega
theorem ltV_asymm {v : Int → Int} {x y : Int} (h : ltV v x y) : ¬ ltV v y x := by unfold ltV at *; omega
theorem ltV_total {v : Int → Int} {x y : Int} (hne : x ≠ y) (h : ¬ ltV v x y) : ltV v y x := by unfold ltV at *; omega
theorem ltV_later {v : Int → Int} {x y : Int} (h : y < x) : ltV v x y ↔ v x < v y := by unfold ltV; omega

def insL (v : Int → Int) (x : Int) : List Int → List Int
  | [] => [x]
  | y :: l => if ltV v x y then x :: y :: l else y :: insL v x l
def srt (v : Int → Int) (l : List Int) : List Int := l.foldl (fun a x => insL v x a) []
theorem srt_snoc (v : Int → Int) (l : List Int) (x : Int) : srt v (l ++ [x]) = insL v x (srt v l) := by simp [srt]
theorem insL_perm (v : Int → Int) (x : Int) : ∀ l, (insL v x l).Perm (x :: l)
  | [] => .refl _
  | y :: l => by
    unfold insL
    split
    · exact .refl _
    · exact ((insL_perm v x l).cons y).trans (.swap x y l)
theorem insL_sorted (v : Int → Int) (x : Int) : ∀ {l : List Int}, l.Pairwise (ltV v) → x ∉ l → (insL v x l).Pairwise (ltV v)
  | [], _, _ => by simp [insL]
  | y :: l, h, hx => by
    have h' := List.pairwise_cons.1 h
    unfold insL
    split
    · rename_i hxy
      refine List.pairwise_cons.2 ⟨fun z hz => ?_, h⟩
      rcases List.mem_cons.1 hz with rfl | hz
      · exact hxy
      · exact ltV_trans hxy (h'.1 z hz)
    · rename_i hxy
      refine List.pairwise_cons.2 ⟨fun z hz => ?_, insL_sorted v x h'.2 fun hm => hx (List.mem_cons_of_mem _ hm)⟩
      rcases List.mem_cons.1 ((insL_perm v x l).mem_iff.1 hz) with rfl | hz
      · exact ltV_total (fun e => hx (by rw [e]; exact List.mem_cons_self)) hxy
      · exact h'.1 z hz
theorem foldl_ins_perm (v : Int → Int) : ∀ (l a : List Int), (l.foldl (fun a x => insL v x a) a).Perm (a ++ l)
  | [], a => by simp
  | x :: l, a => by
    refine (foldl_ins_perm v l (insL v x a)).trans (((insL_perm v x a).append_right l).trans ?_)
    exact (List.perm_middle (l₁ := a) (l₂ := l) (a := x)).symm
theorem srt_perm (v : Int → Int) (l : List Int) : (srt v l).Perm l := (foldl_ins_perm v l []).trans (by simp)
theorem foldl_ins_sorted (v : Int → Int) : ∀ (l a : List Int), (a ++ l).Nodup → a.Pairwise (ltV v) → (l.foldl (fun a x => insL v x a) a).Pairwise (ltV v)
  | [], a, _, h => h
  | x :: l, a, hn, h => by
    have hp : (insL v x a ++ l).Perm (a ++ x :: l) := ((insL_perm v x a).append_right l).trans (List.perm_middle (l₁ := a) (l₂ := l) (a := x)).symm
    refine foldl_ins_sorted v l (insL v x a) (hp.nodup_iff.2 hn) (insL_sorted v x h fun hx => ?_)
    have := (List.nodup_append.1 hn).2.2 x hx x List.mem_cons_self
    exact this rfl
theorem srt_sorted (v : Int → Int) (l : List Int) (h : l.Nodup) : (srt v l).Pairwise (ltV v) := foldl_ins_sorted v l [] (by simpa using h) .nil
theorem insL_split (v : Int → Int) (x : Int) (F G : List Int) (h1 : ∀ y, y ∈ F → ¬ ltV v x y) (h2 : ∀ y, y ∈ G → ltV v x y) : insL v x (F ++ G) = F ++ x :: G := by
  induction F with
  | nil =>
    cases G with
    | nil => rfl
    | cons y G => simp [insL, h2 y List.mem_cons_self]
  | cons z F ih =>
    simp [insL, h1 z List.mem_cons_self, ih fun y hy => h1 y (List.mem_cons_of_mem _ hy)]
theorem pw_getD {v : Int → Int} {A : List Int} (h : A.Pairwise (ltV v)) {i j : Nat} (hij : i < j) (hj : j < A.length) : ltV v (A.getD i 0) (A.getD j 0) := by
  have := List.pairwise_iff_getElem.1 h i j (by omega) hj hij
  simpa [List.getD_eq_getElem?_getD, List.getElem?_eq_getElem hj, List.getElem?_eq_getElem (show i < A.length by omega)] using this
theorem mem_take_getD {A : List Int} {s : Nat} {x : Int} (h : x ∈ A.take s) : ∃ c, c < s ∧ c < A.length ∧ A.getD c 0 = x := by
  obtain ⟨c, hc, rfl⟩ := List.getElem_of_mem h
  rw [List.length_take] at hc
  exact ⟨c, by omega, by omega, by simp [List.getD_eq_getElem?_getD, List.getElem?_eq_getElem (show c < A.length by omega)]⟩
theorem mem_drop_getD {A : List Int} {s : Nat} {x : Int} (h : x ∈ A.drop s) : ∃ c, s ≤ c ∧ c < A.length ∧ A.getD c 0 = x := by
  obtain ⟨c, hc, rfl⟩ := List.getElem_of_mem h
  rw [List.length_drop] at hc
  exact ⟨s + c, by omega, by omega, by simp [List.getD_eq_getElem?_getD, List.getElem?_eq_getElem (show s + c < A.length by omega)]⟩
theorem getD_mem {A : List Int} {c : Nat} (h : c < A.length) : A.getD c 0 ∈ A := by
  simp [List.getD_eq_getElem?_getD, List.getElem?_eq_getElem h]

/-- how the elements are compared -/
structure CmpOK (c : D) (n : Nat) (v : Int → Int) : Prop where
  ex : ∃ f caps, c = .clo f caps ∧ ∀ x y : Int, 0 ≤ x → x < n → 0 ≤ y → y < n → ∃ k, Runs T f (.int x :: .int y :: caps) (.int k) ∧ (k < 0 ↔ v x < v y)

/-! ### rotate -/
theorem rotate_runs (c : D) (P U V S : List Int) (a m b : Int) (ha : a = P.length) (hm : m = P.length + U.length) (hb : b = P.length + U.length + V.length) (hU : 0 < U.length) (hV : 0 < V.length)
    (hN : (P ++ (U ++ (V ++ S))).length ≤ 1000000) :
    Runs T 58 [.none, .int a, .int m, .int b, c, ints (P ++ (U ++ (V ++ S)))] (.tup [.tup [], ints (P ++ (V ++ (U ++ S)))]) := by
  refine .of_tree rfl rfl tr58_eq ?_
  simp only [List.length_append] at hN
  have w1 : IntKind.i64.wrap (m - a) = U.length := by rw [wrap64_id (by omega)]; omega
  have w2 : IntKind.i64.wrap (b - m) = V.length := by rw [wrap64_id (by omega)]; omega
  simp [tr58, w1, w2]
  refine EvP.forLoop (α := List Int × List Int × List Int × List Int)
    (fun q vr vo => vr = [.int q.2.1.length, .int q.2.2.1.length] ∧ vo = [ints (q.1 ++ (q.2.1 ++ (q.2.2.1 ++ q.2.2.2)))] ∧ 0 < q.2.1.length ∧ 0 < q.2.2.1.length ∧ m = q.1.length + q.2.1.length
      ∧ q.1 ++ (q.2.2.1 ++ (q.2.1 ++ q.2.2.2)) = P ++ (V ++ (U ++ S)))
    (fun q => q.2.1.length + q.2.2.1.length) (P, U, V, S) ⟨by simp [w1, w2], by simp, hU, hV, hm, rfl⟩ ?_
  rintro ⟨P, X, Y, S⟩ vr vo ⟨rfl, rfl, hX, hY, hm, hT⟩
  simp only at hX hY hm hT
  have hlen : P.length + X.length + Y.length + S.length ≤ 1000000 := by
    have := congrArg List.length hT
    simp only [List.length_append] at this; omega
  rcases Nat.lt_trichotomy X.length Y.length with hlt | heq | hgt
  · have hne : ¬ ((X.length : Int) = Y.length) := by omega
    have hng : ¬ ((Y.length : Int) < X.length) := by omega
    have w3 : IntKind.i64.wrap (m - X.length) = P.length := by rw [wrap64_id (by omega)]; omega
    have w4 : IntKind.i64.wrap (m + Y.length) = m + Y.length := wrap64_id (by omega)
    have w5 : IntKind.i64.wrap (m + Y.length - X.length) = m + Y.length - X.length := wrap64_id (by omega)
    have w6 : IntKind.i64.wrap ((Y.length : Int) - X.length) = (Y.length : Int) - X.length := wrap64_id (by omega)
    have hr := swapRange_runs c P X (Y.take (Y.length - X.length)) (Y.drop (Y.length - X.length)) S P.length (m + Y.length - X.length) X.length (by simp; omega) rfl (by simp; omega) rfl (by simp; omega)
    rw [show Y.take (Y.length - X.length) ++ (Y.drop (Y.length - X.length) ++ S) = Y ++ S by rw [← List.append_assoc, List.take_append_drop]] at hr
    simp [rd58_0_eq, rd58_0, hne, hng, w3, w4, w5]
    refine ⟨_, hr, ?_⟩
    simp [w6]
    refine ⟨P, Y.drop (Y.length - X.length), Y.take (Y.length - X.length), ?_, ⟨?_, ?_⟩, X ++ S, rfl, ?_, ?_, ?_, ?_⟩
    · simp; omega
    · simp; omega
    · simp; omega
    · simp; omega
    · simp; omega
    · simp; omega
    · rw [← hT]
      rw [← List.append_assoc (Y.take _), List.take_append_drop]
  · have w3 : IntKind.i64.wrap (m - X.length) = P.length := by rw [wrap64_id (by omega)]; omega
    have hr := swapRange_runs c P X [] Y S P.length m X.length heq rfl (by simp; omega) rfl (by simp; omega)
    simp only [List.nil_append] at hr
    have heq' : (X.length : Int) = Y.length := by omega
    simp [rd58_0_eq, rd58_0, heq']
    rw [← heq']
    simp [w3]
    refine ⟨_, hr, ?_⟩
    simp [hT]
  · have hne : ¬ ((X.length : Int) = Y.length) := by omega
    have hg : ((Y.length : Int) < X.length) := by omega
    have w3 : IntKind.i64.wrap (m - X.length) = P.length := by rw [wrap64_id (by omega)]; omega
    have w6 : IntKind.i64.wrap ((X.length : Int) - Y.length) = (X.length : Int) - Y.length := wrap64_id (by omega)
    have hr := swapRange_runs c P (X.take Y.length) (X.drop Y.length) Y S P.length m Y.length (by simp; omega) rfl (by simp; omega) (by simp; omega) (by simp; omega)
    rw [show X.take Y.length ++ (X.drop Y.length ++ (Y ++ S)) = X ++ (Y ++ S) by rw [← List.append_assoc, List.take_append_drop]] at hr
    simp [rd58_0_eq, rd58_0, hne, hg, w3]
    refine ⟨_, hr, ?_⟩
    simp [w6]
    refine ⟨P ++ Y, X.drop Y.length, X.take Y.length, ?_, ⟨?_, ?_⟩, S, ?_, ?_, ?_, ?_, ?_⟩
    · simp; omega
    · simp; omega
    · simp; omega
    · simp
    · simp; omega
    · simp; omega
    · simp; omega
    · rw [← hT]
      rw [← List.append_assoc (X.take _), List.take_append_drop]; simp
end Pool

/-!
  The stable sort, 3: sorting by insertion.
-/
namespace Pool
open Go Go.Proofs Cx

theorem swp_comm (l : List Int) {i j : Nat} (h : i ≠ j) : swp l i j = swp l j i := by
  unfold swp; rw [List.set_comm _ _ h]

theorem insert_runs {c : D} {n : Nat} {v : Int → Int} (hc : CmpOK c n v) (P A S : List Int) (a b : Int) (ha : a = P.length) (hb : b = P.length + A.length) (hA : A.Pairwise (· < ·)) (hr : ∀ x, x ∈ A → 0 ≤ x ∧ x < n)
    (hN : (P ++ (A ++ S)).length ≤ 1000000) :
    Runs T 45 [.none, .int a, .int b, c, ints (P ++ (A ++ S))] (.tup [.tup [], ints (P ++ (srt v A ++ S))]) := by
  refine .of_tree rfl rfl tr45_eq ?_
  simp only [List.length_append] at hN
  have hnd : A.Nodup := hA.imp fun h => by omega
  have w0 : IntKind.i64.wrap (a + 1) = a + 1 := wrap64_id (by omega)
  have hlen : ∀ k, k ≤ A.length → (srt v (A.take k)).length = k := fun k hk => by rw [(srt_perm v _).length_eq, List.length_take]; omega
  simp [tr45, w0]
  refine EvP.forRounds (A.length - 1) (fun k => [.int (a + 1 + k)]) (fun k => [ints (P ++ (srt v (A.take (k + 1)) ++ (A.drop (k + 1) ++ S)))]) ?_ (fun k hk => ?_) ?_
  · have : srt v (A.take 1) = A.take 1 := by
      cases A with
      | nil => rfl
      | cons x A => rfl
    have e : P ++ (A.take 1 ++ (A.drop 1 ++ S)) = P ++ (A ++ S) := by rw [← List.append_assoc (A.take 1), List.take_append_drop]
    refine ⟨by simp [w0], ?_⟩
    simp only [Nat.zero_add, this, e]
    simp
  · have hk1 : k + 1 < A.length := by omega
    have hlt : a + 1 + (k : Int) < b := by omega
    have w1 : IntKind.i64.wrap (a + 1 + (k : Int) + 1) = a + 1 + (k : Int) + 1 := wrap64_id (by omega)
    simp [rd45_1_eq, rd45_1, hlt]
    -- the element, and what is sorted
    have hL : (srt v (A.take (k + 1))).length = k + 1 := hlen _ (by omega)
    have hLs : (srt v (A.take (k + 1))).Pairwise (ltV v) := srt_sorted v _ (hnd.sublist (List.take_sublist _ _))
    have hLm : ∀ y, y ∈ srt v (A.take (k + 1)) → y < A[k + 1] ∧ 0 ≤ y ∧ y < n := fun y hy => by
      have hy := (srt_perm v _).mem_iff.1 hy
      obtain ⟨j, hj, rfl⟩ := List.getElem_of_mem hy
      rw [List.length_take] at hj
      refine ⟨?_, hr _ (List.mem_of_mem_take hy)⟩
      rw [List.getElem_take]
      exact List.pairwise_iff_getElem.1 hA j (k + 1) (by omega) hk1 (by omega)
    have hx := hr _ (List.getElem_mem hk1)
    have hsn : srt v (A.take (k + 1 + 1)) = insL v A[k + 1] (srt v (A.take (k + 1))) := by
      rw [List.take_succ_eq_append_getElem hk1, srt_snoc]
    rw [List.drop_eq_getElem_cons hk1]
    generalize A[k + 1] = x at *
    generalize hLe : srt v (A.take (k + 1)) = L at *
    generalize hR : A.drop (k + 1 + 1) ++ S = R at *
    have hRl : R.length = A.length - (k + 2) + S.length := by rw [← hR]; simp
    refine EvP.forLoop (α := Nat)
      (fun f vr vo => f ≤ L.length ∧ vr = [.int (a + f)] ∧ vo = [ints (P ++ (L.take f ++ x :: (L.drop f ++ R)))] ∧ ∀ y, y ∈ L.drop f → ltV v x y)
      (fun f => f) (k + 1) ⟨by omega, by simp; omega, by simp only [List.take_of_length_le (by omega : L.length ≤ k + 1), List.drop_of_length_le (by omega : L.length ≤ k + 1), ← hR]; simp, by rw [List.drop_of_length_le (by omega : L.length ≤ k + 1)]; simp⟩ ?_
    rintro f vr vo ⟨hf, rfl, rfl, hG⟩
    by_cases hf0 : f = 0
    · subst hf0
      have e : insL v x L = x :: L := by
        have := insL_split v x [] L (by simp) (by simpa using hG)
        simpa using this
      simp [rd45_0_eq, rd45_0, w1]
      rw [hsn, e]; simp [hR]; omega
    · obtain ⟨f, rfl⟩ : ∃ g, f = g + 1 := ⟨f - 1, by omega⟩
      have hfl : f < L.length := by omega
      obtain ⟨j, hj⟩ : ∃ j : Nat, j = P.length + (f + 1) := ⟨_, rfl⟩
      obtain ⟨i, hi⟩ : ∃ i : Nat, i = P.length + f := ⟨_, rfl⟩
      have e1 : a + ((f + 1 : Nat) : Int) = (j : Int) := by omega
      have w2 : IntKind.i64.wrap ((j : Int) - 1) = (i : Int) := by rw [wrap64_id (by omega)]; omega
      have hgt : a < (j : Int) := by omega
      have eW : P ++ (L.take (f + 1) ++ x :: (L.drop (f + 1) ++ R)) = (P ++ L.take f) ++ L[f] :: ([] ++ x :: (L.drop (f + 1) ++ R)) := by
        rw [List.take_succ_eq_append_getElem hfl]; simp only [List.append_assoc, List.cons_append, List.nil_append]
      have eW' : P ++ (L.take f ++ x :: (L.drop f ++ R)) = (P ++ L.take f) ++ x :: ([] ++ L[f] :: (L.drop (f + 1) ++ R)) := by
        rw [List.drop_eq_getElem_cons hfl]; simp only [List.append_assoc, List.cons_append, List.nil_append]
      have gx : (P ++ (L.take (f + 1) ++ x :: (L.drop (f + 1) ++ R))).getD j 0 = x := by
        rw [← List.append_assoc]
        exact getD_mid _ _ _ (by simp; omega)
      have gy : (P ++ (L.take (f + 1) ++ x :: (L.drop (f + 1) ++ R))).getD i 0 = L[f] := by
        rw [eW]; exact getD_mid _ _ _ (by simp; omega)
      have hsw : swp (P ++ (L.take (f + 1) ++ x :: (L.drop (f + 1) ++ R))) j i = P ++ (L.take f ++ x :: (L.drop f ++ R)) := by
        rw [swp_comm _ (by omega), eW, eW', swp_split _ _ _ _ _ (by simp; omega) (by simp; omega)]
      have hWl : (P ++ (L.take (f + 1) ++ x :: (L.drop (f + 1) ++ R))).length = P.length + L.length + 1 + R.length := by simp only [List.length_append, List.length_cons, List.length_take, List.length_drop]; omega
      generalize hW : P ++ (L.take (f + 1) ++ x :: (L.drop (f + 1) ++ R)) = W at *
      have i1 : j < W.length := by omega
      have i2 : i < W.length := by omega
      have gx' : W[j] = x := by rw [← gx, List.getD_eq_getElem?_getD, List.getElem?_eq_getElem i1]; rfl
      have gy' : W[i] = L[f] := by rw [← gy, List.getD_eq_getElem?_getD, List.getElem?_eq_getElem i2]; rfl
      have hy := hLm L[f] (List.getElem_mem _)
      obtain ⟨cf, caps, hce, hcmp⟩ := hc.ex
      obtain ⟨q, hq, hqi⟩ := hcmp x L[f] hx.1 hx.2 hy.2.1 hy.2.2
      have hlv : q < 0 ↔ ltV v x L[f] := by rw [hqi, ltV_later hy.1]
      rw [e1]
      simp only [rd45_0_eq, rd45_0]
      simp [w2, hgt, i1, i2]
      refine ⟨cf, caps, hce, _, by rw [gx', gy']; exact hq, ?_⟩
      by_cases hb : q < 0
      · simp [hb, i1, i2]
        rw [swpD _ _ _ i1 i2, hsw]
        refine ⟨f, by omega, by omega, by omega, rfl, fun y hy => ?_⟩
        rw [List.drop_eq_getElem_cons hfl] at hy
        rcases List.mem_cons.1 hy with rfl | hy
        · exact hlv.1 hb
        · exact hG y hy
      · have hF : ∀ y, y ∈ L.take (f + 1) → ¬ ltV v x y := fun y hy hxy => by
          obtain ⟨c, h1, h2, rfl⟩ := mem_take_getD hy
          have e : L.getD f 0 = L[f] := by rw [List.getD_eq_getElem?_getD, List.getElem?_eq_getElem hfl]; rfl
          rcases Nat.lt_or_ge c f with h | h
          · exact hb (hlv.2 (e ▸ ltV_trans hxy (pw_getD hLs h hfl)))
          · obtain rfl : c = f := by omega
            exact hb (hlv.2 (e ▸ hxy))
        have e := insL_split v x _ _ hF hG
        rw [List.take_append_drop] at e
        simp [hb, w1]
        rw [hsn, e, ← hW]
        refine ⟨by omega, ?_⟩
        simp only [List.append_assoc, List.cons_append]
  · have hge : ¬ (a + 1 + ((A.length - 1 : Nat) : Int) < b) := by omega
    simp [rd45_1_eq, rd45_1, hge]
    by_cases h0 : A.length = 0
    · obtain rfl := List.length_eq_zero_iff.1 h0
      simp
    · have e : A.length - 1 + 1 = A.length := by omega
      simp [e]
end Pool

/-!
  The stable sort, 4: two lists that stand side by side become one (symMerge).
-/
namespace Pool
open Go Go.Proofs Cx

theorem wrapU_id {n : Int} (h : 0 ≤ n ∧ n ≤ 9223372036854775807) : IntKind.u64.wrap n = n := by
  show n % 18446744073709551616 = n
  omega
theorem half_eq {s : Nat} (h : s ≤ 100000000) {q : Int} (hq : q = s) : IntKind.i64.wrap (arI .shr .u64 (IntKind.u64.wrap q) 1) = ((s / 2 : Nat) : Int) := by
  subst hq
  have e : IntKind.u64.wrap (s : Int) = s := wrapU_id (by omega)
  rw [e]
  have : arI .shr .u64 (s : Int) 1 = ((s / 2 : Nat) : Int) := by
    show (s : Int).fdiv (2 ^ (min (1 : Int).toNat IntKind.u64.bits)) = _
    have : (2 : Int) ^ (min (1 : Int).toNat IntKind.u64.bits) = 2 := by decide
    rw [this, Int.fdiv_eq_ediv_of_nonneg _ (by omega)]; omega
  rw [this, wrap64_id (by omega)]

/-- the plain law: where two lists in order are cut -/
theorem split_ok {v : Int → Int} {A B : List Int} {s d : Nat} (hA : A.Pairwise (ltV v)) (hB : B.Pairwise (ltV v))
    (h1 : s = 0 ∨ B.length ≤ d ∨ (s ≤ A.length ∧ ltV v (A.getD (s - 1) 0) (B.getD d 0)))
    (h2 : d = 0 ∨ A.length ≤ s ∨ (d ≤ B.length ∧ ltV v (B.getD (d - 1) 0) (A.getD s 0))) :
    ∀ x, x ∈ A.take s ++ B.take d → ∀ y, y ∈ A.drop s ++ B.drop d → ltV v x y := by
  have le : ∀ {L : List Int}, L.Pairwise (ltV v) → ∀ {i j : Nat}, i ≤ j → j < L.length → i = j ∨ ltV v (L.getD i 0) (L.getD j 0) := fun hL i j hij hj => by
    rcases Nat.lt_or_ge i j with h | h
    · exact .inr (pw_getD hL h hj)
    · exact .inl (by omega)
  intro x hx y hy
  rcases List.mem_append.1 hx with hx | hx <;> rcases List.mem_append.1 hy with hy | hy
  · obtain ⟨i, hi, hil, rfl⟩ := mem_take_getD hx
    obtain ⟨j, hj, hjl, rfl⟩ := mem_drop_getD hy
    exact pw_getD hA (by omega) hjl
  · obtain ⟨i, hi, hil, rfl⟩ := mem_take_getD hx
    obtain ⟨j, hj, hjl, rfl⟩ := mem_drop_getD hy
    rcases h1 with h | h | ⟨h0, h⟩
    · omega
    · omega
    · have k1 := le hA (show i ≤ s - 1 by omega) (by omega)
      have k2 := le hB hj hjl
      have k3 : ltV v (A.getD i 0) (B.getD d 0) := by
        rcases k1 with rfl | k1
        · exact h
        · exact ltV_trans k1 h
      rcases k2 with rfl | k2
      · exact k3
      · exact ltV_trans k3 k2
  · obtain ⟨i, hi, hil, rfl⟩ := mem_take_getD hx
    obtain ⟨j, hj, hjl, rfl⟩ := mem_drop_getD hy
    rcases h2 with h | h | ⟨h0, h⟩
    · omega
    · omega
    · have k1 := le hB (show i ≤ d - 1 by omega) (by omega)
      have k2 := le hA hj hjl
      have k3 : ltV v (B.getD i 0) (A.getD s 0) := by
        rcases k1 with rfl | k1
        · exact h
        · exact ltV_trans k1 h
      rcases k2 with rfl | k2
      · exact k3
      · exact ltV_trans k3 k2
  · obtain ⟨i, hi, hil, rfl⟩ := mem_take_getD hx
    obtain ⟨j, hj, hjl, rfl⟩ := mem_drop_getD hy
    exact pw_getD hB (by omega) hjl

theorem pw_join {v : Int → Int} {A B M N : List Int} (h1 : M.Pairwise (ltV v)) (h2 : N.Pairwise (ltV v)) (p1 : M.Perm A) (p2 : N.Perm B) (h : ∀ x, x ∈ A → ∀ y, y ∈ B → ltV v x y) : (M ++ N).Pairwise (ltV v) :=
  List.pairwise_append.2 ⟨h1, h2, fun x hx y hy => h x (p1.mem_iff.1 hx) y (p2.mem_iff.1 hy)⟩

/-- what symMerge is to give -/
def Mrg (c : D) (n : Nat) (v : Int → Int) (P A B S : List Int) : Prop :=
  ∃ M, M.Perm (A ++ B) ∧ M.Pairwise (ltV v) ∧ ∀ a m b : Int, a = P.length → m = P.length + A.length → b = P.length + A.length + B.length →
    Runs T 46 [.none, .int a, .int m, .int b, c, ints (P ++ (A ++ (B ++ S)))] (.tup [.tup [], ints (P ++ (M ++ S))])

theorem cut_ex (p : Nat → Prop) (s : Nat) : ∀ (r : Nat), s ≤ r → (∀ j k, s ≤ j → j < k → k < r → p k → p j) → ∃ i, s ≤ i ∧ i ≤ r ∧ (∀ j, s ≤ j → j < i → p j) ∧ (∀ j, i ≤ j → j < r → ¬ p j) := by
  intro r
  induction r with
  | zero => intro h _; exact ⟨0, by omega, by omega, fun j _ _ => by omega, fun j _ _ => by omega⟩
  | succ r ih =>
    intro h mono
    by_cases hs : s = r + 1
    · exact ⟨s, by omega, by omega, fun j _ _ => by omega, fun j _ _ => by omega⟩
    · by_cases hp : p r
      · exact ⟨r + 1, by omega, by omega, fun j h1 h2 => by
          by_cases e : j = r
          · subst e; exact hp
          · exact mono j r h1 (by omega) (by omega) hp, fun j _ _ => by omega⟩
      · obtain ⟨i, h1, h2, h3, h4⟩ := ih (by omega) (fun j k a b c d => mono j k a b (by omega) d)
        refine ⟨i, h1, by omega, h3, fun j a b => ?_⟩
        by_cases e : j = r
        · subst e; exact hp
        · exact h4 j a (by omega)

theorem getE {W : List Int} {p : Nat} {x : Int} (h : W.getD p 0 = x) (hp : p < W.length) : W[p] = x := by
  rw [← h, List.getD_eq_getElem?_getD, List.getElem?_eq_getElem hp]; rfl

/-- looking for the place of the one element of the first list -/
theorem loop0 {c : D} {n : Nat} {v : Int → Int} (hc : CmpOK c n v) {W B : List Int} {p m : Nat} {x : Int} (hgx : W.getD p 0 = x) (hgB : ∀ j, j < B.length → W.getD (m + j) 0 = B.getD j 0)
    (hl : m + B.length ≤ W.length) (hp : p < W.length) (hW : W.length ≤ 1000000) {i : Nat} (hi : i ≤ B.length) (h1 : ∀ j, j < i → ltV v (B.getD j 0) x) (h2 : ∀ j, i ≤ j → j < B.length → ¬ ltV v (B.getD j 0) x)
    (hlt : ∀ y, y ∈ B → x < y) (hx : 0 ≤ x ∧ x < n) (hr : ∀ y, y ∈ B → 0 ≤ y ∧ y < n) {ρ : Env} {Q : Out → Prop} (e1 : ρ.r 1 = .int p) (e4 : ρ.r 4 = c) (e0 : ρ.o 0 = ints W) (e10 : ρ.r 10 = .int m) (e11 : ρ.r 11 = .int (m + B.length : Nat))
    (k : Q (.next (ρ.put [10, 11, 31, 32, 33] [.int (m + i : Nat), .int (m + i : Nat), .int (m + i : Nat), .int (m + i : Nat), .bool false] [] []))) : EvP T lp46_0 ρ Q := by
  refine EvP.forLoop (α := Nat × Nat) (fun q vr vo => vr = [.int (m + q.1 : Nat), .int (m + q.2 : Nat)] ∧ vo = [] ∧ q.1 ≤ i ∧ i ≤ q.2 ∧ q.2 ≤ B.length) (fun q => q.2 - q.1) (0, B.length) ⟨by simp [e10, e11], rfl, by omega, hi, by omega⟩ ?_
  rintro ⟨lo, up⟩ vr vo ⟨rfl, rfl, q1, q2, q3⟩
  simp only at q1 q2 q3
  by_cases hlo : lo < up
  · have i1 : m + (lo + up) / 2 < W.length := by omega
    have hg := hgB ((lo + up) / 2) (by omega)
    have hmem : B.getD ((lo + up) / 2) 0 ∈ B := getD_mem (by omega)
    obtain ⟨cf, caps, hce, hcmp⟩ := hc.ex
    obtain ⟨q, hq, hqi⟩ := hcmp (B.getD ((lo + up) / 2) 0) x (hr _ hmem).1 (hr _ hmem).2 hx.1 hx.2
    have hlv : q < 0 ↔ ltV v (B.getD ((lo + up) / 2) 0) x := by rw [hqi, ltV_later (hlt _ hmem)]
    obtain ⟨s, hs⟩ : ∃ s, s = m + lo := ⟨_, rfl⟩
    obtain ⟨t, ht⟩ : ∃ t, t = m + up := ⟨_, rfl⟩
    obtain ⟨h, hh⟩ : ∃ h, h = m + (lo + up) / 2 := ⟨_, rfl⟩
    rw [← hs, ← ht]
    rw [← hh] at hg i1
    have hst : s < t := by omega
    have w1 : IntKind.i64.wrap ((s : Int) + t) = ((s + t : Nat) : Int) := by rw [wrap64_id (by omega)]; omega
    have w2 : IntKind.i64.wrap (arI .shr .u64 (IntKind.u64.wrap ((s : Int) + t)) 1) = (h : Int) := by
      rw [half_eq (s := s + t) (by omega) (by omega)]; omega
    have w3 : IntKind.i64.wrap ((h : Int) + 1) = (h : Int) + 1 := wrap64_id (by omega)
    simp only [rd46_0_eq, rd46_0]
    simp [hst, w1, w2, i1, hp, e1, e4, e0]
    refine ⟨cf, caps, hce, _, by rw [getE hg i1, getE hgx hp]; exact hq, ?_⟩
    simp
    by_cases hb : q < 0
    · have hj : (lo + up) / 2 < i := by
        rcases Nat.lt_or_ge ((lo + up) / 2) i with hj | hj
        · exact hj
        · exact absurd (hlv.1 hb) (h2 _ hj (by omega))
      refine ⟨(lo + up) / 2 + 1, up, by omega, ?_, by omega, by omega, by omega⟩
      simp [hb, w3]; omega
    · have hj : i ≤ (lo + up) / 2 := by
        rcases Nat.lt_or_ge ((lo + up) / 2) i with hj | hj
        · exact absurd (hlv.2 (h1 _ hj)) hb
        · exact hj
      refine ⟨lo, (lo + up) / 2, by omega, ?_, by omega, by omega, by omega⟩
      simp [hb]; omega
  · obtain rfl : lo = up := by omega
    obtain rfl : lo = i := by omega
    simp only [rd46_0_eq, rd46_0]
    simp
    simpa using k

/-- the one element of the first list goes to its place -/
theorem loop1 (P B S : List Int) (x : Int) {i : Nat} (hi : i ≤ B.length) (hN : P.length + 1 + B.length + S.length ≤ 1000000) {ρ : Env} {Q : Out → Prop} (e10 : ρ.r 10 = .int (P.length + 1 + i : Nat)) (e13 : ρ.r 13 = .int (P.length : Nat))
    (e0 : ρ.o 0 = ints (P ++ x :: (B ++ S)))
    (k : ∀ u, Q (.next (ρ.put [13, 55, 56, 57, 58] u [0] [ints (P ++ (B.take i ++ x :: (B.drop i ++ S)))]))) : EvP T lp46_1 ρ Q := by
  refine EvP.forRounds i (fun k => [.int (P.length + k : Nat)]) (fun k => [ints (P ++ (B.take k ++ x :: (B.drop k ++ S)))]) ?_ (fun j hj => ?_) ?_
  · simp [e13, e0]
  · have hjB : j < B.length := by omega
    have eW : P ++ (B.take j ++ x :: (B.drop j ++ S)) = (P ++ B.take j) ++ x :: ([] ++ B[j] :: (B.drop (j + 1) ++ S)) := by
      rw [List.drop_eq_getElem_cons hjB]; simp only [List.append_assoc, List.cons_append, List.nil_append]
    have eW' : P ++ (B.take (j + 1) ++ x :: (B.drop (j + 1) ++ S)) = (P ++ B.take j) ++ B[j] :: ([] ++ x :: (B.drop (j + 1) ++ S)) := by
      rw [List.take_succ_eq_append_getElem hjB]; simp only [List.append_assoc, List.cons_append, List.nil_append]
    have hsw : swp (P ++ (B.take j ++ x :: (B.drop j ++ S))) (P.length + j) (P.length + j + 1) = P ++ (B.take (j + 1) ++ x :: (B.drop (j + 1) ++ S)) := by
      rw [eW, eW', swp_split _ _ _ _ _ (by simp; omega) (by simp; omega)]
    have hl : (P ++ (B.take j ++ x :: (B.drop j ++ S))).length = P.length + 1 + B.length + S.length := by
      simp only [List.length_append, List.length_cons, List.length_take, List.length_drop]; omega
    generalize P ++ (B.take j ++ x :: (B.drop j ++ S)) = W at *
    obtain ⟨p, hp⟩ : ∃ p, p = P.length + j := ⟨_, rfl⟩
    obtain ⟨q, hq⟩ : ∃ q, q = P.length + j + 1 := ⟨_, rfl⟩
    obtain ⟨m, hm⟩ : ∃ m, m = P.length + 1 + i := ⟨_, rfl⟩
    rw [← hq, ← hp] at hsw
    rw [show P.length + (j + 1) = q by omega, ← hp]
    have w1 : IntKind.i64.wrap ((m : Int) - 1) = (m : Int) - 1 := wrap64_id (by omega)
    have w2 : IntKind.i64.wrap ((p : Int) + 1) = (q : Int) := by rw [wrap64_id (by omega)]; omega
    have hc : (p : Int) < (m : Int) - 1 := by omega
    have i1 : p < W.length := by omega
    have i2 : q < W.length := by omega
    rw [← hm] at e10
    simp only [rd46_1_eq, rd46_1]
    simp [e10, w1, w2, hc, i1, i2]
    rw [swpD _ _ _ i1 i2, hsw]
  · obtain ⟨p, hp⟩ : ∃ p, p = P.length + i := ⟨_, rfl⟩
    obtain ⟨m, hm⟩ : ∃ m, m = P.length + 1 + i := ⟨_, rfl⟩
    have w1 : IntKind.i64.wrap ((m : Int) - 1) = (m : Int) - 1 := wrap64_id (by omega)
    have hc : ¬ ((p : Int) < (m : Int) - 1) := by omega
    rw [← hm] at e10
    rw [← hp]
    simp only [rd46_1_eq, rd46_1]
    simp [e10, w1, hc]
    simpa using k _

/-- looking for the place of the one element of the second list -/
theorem loop2 {c : D} {n : Nat} {v : Int → Int} (hc : CmpOK c n v) {W A : List Int} {p m : Nat} {x : Int} (hgx : W.getD m 0 = x) (hgA : ∀ j, j < A.length → W.getD (p + j) 0 = A.getD j 0)
    (hl : p + A.length ≤ W.length) (hp : m < W.length) (hW : W.length ≤ 1000000) {i : Nat} (hi : i ≤ A.length) (h1 : ∀ j, j < i → ¬ ltV v x (A.getD j 0)) (h2 : ∀ j, i ≤ j → j < A.length → ltV v x (A.getD j 0))
    (hlt : ∀ y, y ∈ A → y < x) (hx : 0 ≤ x ∧ x < n) (hr : ∀ y, y ∈ A → 0 ≤ y ∧ y < n) {ρ : Env} {Q : Out → Prop} (e1 : ρ.r 2 = .int m) (e4 : ρ.r 4 = c) (e0 : ρ.o 0 = ints W) (e10 : ρ.r 14 = .int p) (e11 : ρ.r 15 = .int (p + A.length : Nat))
    (k : Q (.next (ρ.put [14, 15, 83, 84, 85] [.int (p + i : Nat), .int (p + i : Nat), .int (p + i : Nat), .int (p + i : Nat), .bool false] [] []))) : EvP T lp46_2 ρ Q := by
  refine EvP.forLoop (α := Nat × Nat) (fun q vr vo => vr = [.int (p + q.1 : Nat), .int (p + q.2 : Nat)] ∧ vo = [] ∧ q.1 ≤ i ∧ i ≤ q.2 ∧ q.2 ≤ A.length) (fun q => q.2 - q.1) (0, A.length) ⟨by simp [e10, e11], rfl, by omega, hi, by omega⟩ ?_
  rintro ⟨lo, up⟩ vr vo ⟨rfl, rfl, q1, q2, q3⟩
  simp only at q1 q2 q3
  by_cases hlo : lo < up
  · have i1 : p + (lo + up) / 2 < W.length := by omega
    have hg := hgA ((lo + up) / 2) (by omega)
    have hmem : A.getD ((lo + up) / 2) 0 ∈ A := getD_mem (by omega)
    obtain ⟨cf, caps, hce, hcmp⟩ := hc.ex
    obtain ⟨q, hq, hqi⟩ := hcmp x (A.getD ((lo + up) / 2) 0) hx.1 hx.2 (hr _ hmem).1 (hr _ hmem).2
    have hlv : q < 0 ↔ ltV v x (A.getD ((lo + up) / 2) 0) := by rw [hqi, ltV_later (hlt _ hmem)]
    obtain ⟨s, hs⟩ : ∃ s, s = p + lo := ⟨_, rfl⟩
    obtain ⟨t, ht⟩ : ∃ t, t = p + up := ⟨_, rfl⟩
    obtain ⟨h, hh⟩ : ∃ h, h = p + (lo + up) / 2 := ⟨_, rfl⟩
    rw [← hs, ← ht]
    rw [← hh] at hg i1
    have hst : s < t := by omega
    have w1 : IntKind.i64.wrap ((s : Int) + t) = ((s + t : Nat) : Int) := by rw [wrap64_id (by omega)]; omega
    have w2 : IntKind.i64.wrap (arI .shr .u64 (IntKind.u64.wrap ((s : Int) + t)) 1) = (h : Int) := by
      rw [half_eq (s := s + t) (by omega) (by omega)]; omega
    have w3 : IntKind.i64.wrap ((h : Int) + 1) = (h : Int) + 1 := wrap64_id (by omega)
    simp only [rd46_2_eq, rd46_2]
    simp [hst, w1, w2, i1, hp, e1, e4, e0]
    refine ⟨cf, caps, hce, _, by rw [getE hg i1, getE hgx hp]; exact hq, ?_⟩
    simp
    by_cases hb : q < 0
    · have hj : i ≤ (lo + up) / 2 := by
        rcases Nat.lt_or_ge ((lo + up) / 2) i with hj | hj
        · exact absurd (hlv.1 hb) (h1 _ hj)
        · exact hj
      refine ⟨lo, (lo + up) / 2, by omega, ?_, by omega, by omega, by omega⟩
      have hb' : ¬ (0 ≤ q) := by omega
      simp [hb']; omega
    · have hj : (lo + up) / 2 < i := by
        rcases Nat.lt_or_ge ((lo + up) / 2) i with hj | hj
        · exact hj
        · exact absurd (hlv.2 (h2 _ hj (by omega))) hb
      refine ⟨(lo + up) / 2 + 1, up, by omega, ?_, by omega, by omega, by omega⟩
      have hb' : 0 ≤ q := by omega
      simp [hb', w3]; omega
  · obtain rfl : lo = up := by omega
    obtain rfl : lo = i := by omega
    simp only [rd46_2_eq, rd46_2]
    simp
    simpa using k

/-- the one element of the second list goes to its place -/
theorem loop3 (P A S : List Int) (x : Int) {i : Nat} (hi : i ≤ A.length) (hN : P.length + 1 + A.length + S.length ≤ 1000000) {ρ : Env} {Q : Out → Prop} (e10 : ρ.r 14 = .int (P.length + i : Nat)) (e13 : ρ.r 17 = .int (P.length + A.length : Nat))
    (e0 : ρ.o 0 = ints (P ++ (A ++ x :: S)))
    (k : ∀ u, Q (.next (ρ.put [17, 108, 109, 110] u [0] [ints (P ++ (A.take i ++ x :: (A.drop i ++ S)))]))) : EvP T lp46_3 ρ Q := by
  refine EvP.forRounds (A.length - i) (fun k => [.int (P.length + (A.length - k) : Nat)]) (fun k => [ints (P ++ (A.take (A.length - k) ++ x :: (A.drop (A.length - k) ++ S)))]) ?_ (fun j hj => ?_) ?_
  · simp [e13, e0]
  · obtain ⟨f, hf⟩ : ∃ f, f = A.length - (j + 1) := ⟨_, rfl⟩
    have hf1 : A.length - j = f + 1 := by omega
    have hfA : f < A.length := by omega
    rw [hf1, ← hf]
    have eW : P ++ (A.take (f + 1) ++ x :: (A.drop (f + 1) ++ S)) = (P ++ A.take f) ++ A[f] :: ([] ++ x :: (A.drop (f + 1) ++ S)) := by
      rw [List.take_succ_eq_append_getElem hfA]; simp only [List.append_assoc, List.cons_append, List.nil_append]
    have eW' : P ++ (A.take f ++ x :: (A.drop f ++ S)) = (P ++ A.take f) ++ x :: ([] ++ A[f] :: (A.drop (f + 1) ++ S)) := by
      rw [List.drop_eq_getElem_cons hfA]; simp only [List.append_assoc, List.cons_append, List.nil_append]
    have hsw : swp (P ++ (A.take (f + 1) ++ x :: (A.drop (f + 1) ++ S))) (P.length + f + 1) (P.length + f) = P ++ (A.take f ++ x :: (A.drop f ++ S)) := by
      rw [swp_comm _ (by omega), eW, eW', swp_split _ _ _ _ _ (by simp; omega) (by simp; omega)]
    have hl : (P ++ (A.take (f + 1) ++ x :: (A.drop (f + 1) ++ S))).length = P.length + 1 + A.length + S.length := by
      simp only [List.length_append, List.length_cons, List.length_take, List.length_drop]; omega
    generalize P ++ (A.take (f + 1) ++ x :: (A.drop (f + 1) ++ S)) = W at *
    obtain ⟨p, hp⟩ : ∃ p, p = P.length + f + 1 := ⟨_, rfl⟩
    obtain ⟨q, hq⟩ : ∃ q, q = P.length + f := ⟨_, rfl⟩
    obtain ⟨m, hm⟩ : ∃ m, m = P.length + i := ⟨_, rfl⟩
    rw [← hp, ← hq] at hsw
    rw [show P.length + (f + 1) = p by omega, ← hq]
    have w2 : IntKind.i64.wrap ((p : Int) - 1) = (q : Int) := by rw [wrap64_id (by omega)]; omega
    have hc : m < p := by omega
    have i1 : p < W.length := by omega
    have i2 : q < W.length := by omega
    rw [← hm] at e10
    simp only [rd46_3_eq, rd46_3]
    simp [e10, w2, hc, i1, i2]
    rw [swpD _ _ _ i1 i2, hsw]
  · rw [show A.length - (A.length - i) = i by omega]
    simp only [rd46_3_eq, rd46_3]
    simp [e10]
    simpa using k _

/-- looking for where the two lists are cut -/
theorem loop4 {c : D} {n : Nat} {v : Int → Int} (hc : CmpOK c n v) {W A B : List Int} {a q0 : Nat} {d s0 r0 : Nat} (hgA : ∀ j, j < A.length → W.getD (a + j) 0 = A.getD j 0)
    (hgB : ∀ j, s0 ≤ j → j < r0 → W.getD (q0 - (a + j)) 0 = B.getD (d - 1 - j) 0 ∧ a + j ≤ q0 ∧ q0 - (a + j) < W.length) (hr0 : r0 ≤ A.length) (hl : a + A.length ≤ W.length) (hd : ∀ j, s0 ≤ j → j < r0 → d - 1 - j < B.length)
    (hW : W.length ≤ 1000000) (hq0 : q0 ≤ 10000000) {i : Nat} (hi : s0 ≤ i ∧ i ≤ r0) (h1 : ∀ j, s0 ≤ j → j < i → ¬ ltV v (B.getD (d - 1 - j) 0) (A.getD j 0)) (h2 : ∀ j, i ≤ j → j < r0 → ltV v (B.getD (d - 1 - j) 0) (A.getD j 0))
    (hlt : ∀ x, x ∈ A → ∀ y, y ∈ B → x < y) (hrA : ∀ y, y ∈ A → 0 ≤ y ∧ y < n) (hrB : ∀ y, y ∈ B → 0 ≤ y ∧ y < n) {ρ : Env} {Q : Out → Prop} (e4 : ρ.r 4 = c) (e0 : ρ.o 0 = ints W) (e22 : ρ.r 22 = .int q0)
    (e10 : ρ.r 20 = .int (a + s0 : Nat)) (e11 : ρ.r 21 = .int (a + r0 : Nat))
    (k : Q (.next (ρ.put [20, 21, 149, 150, 151] [.int (a + i : Nat), .int (a + i : Nat), .int (a + i : Nat), .int (a + i : Nat), .bool false] [] []))) : EvP T lp46_4 ρ Q := by
  refine EvP.forLoop (α := Nat × Nat) (fun q vr vo => vr = [.int (a + q.1 : Nat), .int (a + q.2 : Nat)] ∧ vo = [] ∧ s0 ≤ q.1 ∧ q.1 ≤ i ∧ i ≤ q.2 ∧ q.2 ≤ r0) (fun q => q.2 - q.1) (s0, r0) ⟨by simp [e10, e11], rfl, by omega, hi.1, hi.2, by omega⟩ ?_
  rintro ⟨lo, up⟩ vr vo ⟨rfl, rfl, q0', q1, q2, q3⟩
  simp only at q0' q1 q2 q3
  by_cases hlo : lo < up
  · obtain ⟨j, hj⟩ : ∃ j, j = (lo + up) / 2 := ⟨_, rfl⟩
    have i1 : a + j < W.length := by omega
    have hg := hgA j (by omega)
    obtain ⟨hb1, hb2, hb3⟩ := hgB j (by omega) (by omega)
    have hmA : A.getD j 0 ∈ A := getD_mem (by omega)
    have hmB : B.getD (d - 1 - j) 0 ∈ B := getD_mem (hd j (by omega) (by omega))
    obtain ⟨cf, caps, hce, hcmp⟩ := hc.ex
    obtain ⟨q, hq, hqi⟩ := hcmp (B.getD (d - 1 - j) 0) (A.getD j 0) (hrB _ hmB).1 (hrB _ hmB).2 (hrA _ hmA).1 (hrA _ hmA).2
    have hlv : q < 0 ↔ ltV v (B.getD (d - 1 - j) 0) (A.getD j 0) := by rw [hqi, ltV_later (hlt _ hmA _ hmB)]
    obtain ⟨s, hs⟩ : ∃ s, s = a + lo := ⟨_, rfl⟩
    obtain ⟨t, ht⟩ : ∃ t, t = a + up := ⟨_, rfl⟩
    obtain ⟨h, hh⟩ : ∃ h, h = a + j := ⟨_, rfl⟩
    obtain ⟨g, hgg⟩ : ∃ g, g = q0 - (a + j) := ⟨_, rfl⟩
    rw [← hs, ← ht]
    rw [← hh] at hg i1
    rw [← hgg] at hb1 hb3
    have hst : s < t := by omega
    have w1 : IntKind.i64.wrap ((s : Int) + t) = ((s + t : Nat) : Int) := by rw [wrap64_id (by omega)]; omega
    have w2 : IntKind.i64.wrap (arI .shr .u64 (IntKind.u64.wrap ((s : Int) + t)) 1) = (h : Int) := by
      rw [half_eq (s := s + t) (by omega) (by omega)]; omega
    have w3 : IntKind.i64.wrap ((h : Int) + 1) = (h : Int) + 1 := wrap64_id (by omega)
    have w4 : IntKind.i64.wrap ((q0 : Int) - h) = (g : Int) := by rw [wrap64_id (by omega)]; omega
    simp only [rd46_4_eq, rd46_4]
    simp [hst, w1, w2, w4, i1, hb3, e4, e0, e22]
    refine ⟨cf, caps, hce, _, by rw [getE hb1 hb3, getE hg i1]; exact hq, ?_⟩
    simp
    by_cases hb : q < 0
    · have hj' : i ≤ j := by
        rcases Nat.lt_or_ge j i with hj' | hj'
        · exact absurd (hlv.1 hb) (h1 _ (by omega) hj')
        · exact hj'
      refine ⟨lo, j, by omega, ?_, by omega, by omega, by omega, by omega⟩
      have hb' : ¬ (0 ≤ q) := by omega
      simp [hb']; omega
    · have hj' : j < i := by
        rcases Nat.lt_or_ge j i with hj' | hj'
        · exact hj'
        · exact absurd (hlv.2 (h2 _ hj' (by omega))) hb
      refine ⟨j + 1, up, by omega, ?_, by omega, by omega, by omega, by omega⟩
      have hb' : 0 ≤ q := by omega
      simp [hb', w3]; omega
  · obtain rfl : lo = up := by omega
    obtain rfl : lo = i := by omega
    simp only [rd46_4_eq, rd46_4]
    simp
    simpa using k
end Pool

/-!
  The stable sort, 5: symMerge, whole.
-/
namespace Pool
open Go Go.Proofs Cx

def K3 : PT := (.iteS ⟨[(213, (.pick (.ci .lss (.r 18) (.r 24)) (.ci .lss (.r 24) (.r 3)) (.con (.bool false)))), (212, (.ci .lss (.r 24) (.r 3))), (211, (.r 3)), (210, (.r 24)), (209, (.ci .lss (.r 18) (.r 24))), (208, (.ci .lss (.r 18) (.r 24))), (207, (.r 24)), (206, (.r 18))], []⟩ (.r 213) [] [0]
  (.mcall ⟨[(218, (.r 4)), (217, (.r 3)), (216, (.r 24)), (215, (.r 18)), (214, (.r 0))], []⟩ 1000000013 46 [(.con .none), (.r 215), (.r 216), (.r 217), (.r 218), (.o 0)]
  (.next ⟨[(219, (.tget (.o 1000000013) 0))], [(0, (.tget (.o 1000000013) 1))]⟩))
  (.next ⟨[], []⟩)
 (.ret (.tup [(.tup []), (.o 0)])))
def K2 : PT := (.iteS ⟨[(199, (.pick (.ci .lss (.r 1) (.r 20)) (.ci .lss (.r 20) (.r 18)) (.con (.bool false)))), (198, (.ci .lss (.r 20) (.r 18))), (197, (.r 18)), (196, (.r 20)), (195, (.ci .lss (.r 1) (.r 20))), (194, (.ci .lss (.r 1) (.r 20))), (193, (.r 20)), (192, (.r 1))], []⟩ (.r 199) [] [0]
  (.mcall ⟨[(204, (.r 4)), (203, (.r 18)), (202, (.r 20)), (201, (.r 1)), (200, (.r 0))], []⟩ 1000000013 46 [(.con .none), (.r 201), (.r 202), (.r 203), (.r 204), (.o 0)]
  (.next ⟨[(205, (.tget (.o 1000000013) 0))], [(0, (.tget (.o 1000000013) 1))]⟩))
  (.next ⟨[], []⟩)
 K3)
def K1 : PT := (.iteS ⟨[(185, (.pick (.ci .lss (.r 20) (.r 2)) (.ci .lss (.r 2) (.ai .sub .i64 (.r 19) (.r 20))) (.con (.bool false)))), (184, (.ci .lss (.r 2) (.ai .sub .i64 (.r 19) (.r 20)))), (183, (.ai .sub .i64 (.r 19) (.r 20))), (182, (.r 2)), (181, (.ci .lss (.r 20) (.r 2))), (180, (.ci .lss (.r 20) (.r 2))), (179, (.r 2)), (178, (.r 20)), (24, (.ai .sub .i64 (.r 19) (.r 20))), (177, (.ai .sub .i64 (.r 19) (.r 20))), (176, (.r 20)), (175, (.r 19))], []⟩ (.r 185) [] [0]
  (.mcall ⟨[(190, (.r 4)), (189, (.r 24)), (188, (.r 2)), (187, (.r 20)), (186, (.r 0))], []⟩ 1000000013 58 [(.con .none), (.r 187), (.r 188), (.r 189), (.r 190), (.o 0)]
  (.next ⟨[(191, (.tget (.o 1000000013) 0))], [(0, (.tget (.o 1000000013) 1))]⟩))
  (.next ⟨[], []⟩)
 K2)
def tr46' : PT :=
 (.iteS ⟨[(28, (.ci .eql (.ai .sub .i64 (.r 2) (.r 1)) (.con (.int 1)))), (27, (.ai .sub .i64 (.r 2) (.r 1))), (26, (.r 1)), (25, (.r 2))], [(0, (.r 5))]⟩ (.r 28) [] [0]
  (.brk ⟨[(11, (.r 3)), (30, (.r 3)), (10, (.r 2)), (29, (.r 2))], []⟩
   lp46_0
  (.brk ⟨[(13, (.r 1)), (54, (.r 1))], []⟩
   lp46_1
  (.ret (.tup [(.tup []), (.o 0)]))))
  (.next ⟨[], []⟩)
 (.iteS ⟨[(80, (.ci .eql (.ai .sub .i64 (.r 3) (.r 2)) (.con (.int 1)))), (79, (.ai .sub .i64 (.r 3) (.r 2))), (78, (.r 2)), (77, (.r 3))], []⟩ (.r 80) [] [0]
  (.brk ⟨[(15, (.r 2)), (82, (.r 2)), (14, (.r 1)), (81, (.r 1))], []⟩
   lp46_2
  (.brk ⟨[(17, (.r 2)), (107, (.r 2))], []⟩
   lp46_3
  (.ret (.tup [(.tup []), (.o 0)]))))
  (.next ⟨[], []⟩)
 (.chk (.ci .geq (.con (.v (.int .u64 1))) (.con (.int 0)))
 (.brk ⟨[(22, (.ai .sub .i64 (.ai .add .i64 (.conv .i64 (.ai .shr .u64 (.conv .u64 (.ai .add .i64 (.r 1) (.r 3))) (.con (.v (.int .u64 1))))) (.r 2)) (.con (.int 1)))), (148, (.ai .sub .i64 (.ai .add .i64 (.conv .i64 (.ai .shr .u64 (.conv .u64 (.ai .add .i64 (.r 1) (.r 3))) (.con (.v (.int .u64 1))))) (.r 2)) (.con (.int 1)))), (147, (.ai .add .i64 (.conv .i64 (.ai .shr .u64 (.conv .u64 (.ai .add .i64 (.r 1) (.r 3))) (.con (.v (.int .u64 1))))) (.r 2))), (20, (.pick (.ci .gtr (.r 2) (.conv .i64 (.ai .shr .u64 (.conv .u64 (.ai .add .i64 (.r 1) (.r 3))) (.con (.v (.int .u64 1)))))) (.ai .sub .i64 (.ai .add .i64 (.conv .i64 (.ai .shr .u64 (.conv .u64 (.ai .add .i64 (.r 1) (.r 3))) (.con (.v (.int .u64 1))))) (.r 2)) (.r 3)) (.r 1))), (21, (.pick (.ci .gtr (.r 2) (.conv .i64 (.ai .shr .u64 (.conv .u64 (.ai .add .i64 (.r 1) (.r 3))) (.con (.v (.int .u64 1)))))) (.conv .i64 (.ai .shr .u64 (.conv .u64 (.ai .add .i64 (.r 1) (.r 3))) (.con (.v (.int .u64 1))))) (.r 2))), (140, (.ci .gtr (.r 2) (.conv .i64 (.ai .shr .u64 (.conv .u64 (.ai .add .i64 (.r 1) (.r 3))) (.con (.v (.int .u64 1))))))), (139, (.conv .i64 (.ai .shr .u64 (.conv .u64 (.ai .add .i64 (.r 1) (.r 3))) (.con (.v (.int .u64 1)))))), (138, (.r 2)), (21, (.con (.int 0))), (20, (.con (.int 0))), (19, (.ai .add .i64 (.conv .i64 (.ai .shr .u64 (.conv .u64 (.ai .add .i64 (.r 1) (.r 3))) (.con (.v (.int .u64 1))))) (.r 2))), (137, (.ai .add .i64 (.conv .i64 (.ai .shr .u64 (.conv .u64 (.ai .add .i64 (.r 1) (.r 3))) (.con (.v (.int .u64 1))))) (.r 2))), (136, (.r 2)), (135, (.conv .i64 (.ai .shr .u64 (.conv .u64 (.ai .add .i64 (.r 1) (.r 3))) (.con (.v (.int .u64 1)))))), (18, (.conv .i64 (.ai .shr .u64 (.conv .u64 (.ai .add .i64 (.r 1) (.r 3))) (.con (.v (.int .u64 1)))))), (134, (.conv .i64 (.ai .shr .u64 (.conv .u64 (.ai .add .i64 (.r 1) (.r 3))) (.con (.v (.int .u64 1)))))), (133, (.ai .shr .u64 (.conv .u64 (.ai .add .i64 (.r 1) (.r 3))) (.con (.v (.int .u64 1))))), (132, (.conv .u64 (.ai .add .i64 (.r 1) (.r 3)))), (131, (.ai .add .i64 (.r 1) (.r 3))), (130, (.r 3)), (129, (.r 1))], []⟩
  lp46_4
 K1))))
theorem tr46_eq' : tree pc46 = tr46' := by rw [tr46_eq]; rfl


theorem merge_left {c : D} {n : Nat} {v : Int → Int} (hc : CmpOK c n v) (P B S : List Int) (x : Int) (hB : B.Pairwise (ltV v)) (hlt : ∀ y, y ∈ B → x < y)
    (hx : 0 ≤ x ∧ x < n) (hr : ∀ y, y ∈ B → 0 ≤ y ∧ y < n) (hN : P.length + 1 + B.length + S.length ≤ 1000000) : Mrg c n v P [x] B S := by
  obtain ⟨i, _, hi, h1, h2⟩ := cut_ex (fun j => ltV v (B.getD j 0) x) 0 B.length (by omega) (fun j k _ hjk hk hp => ltV_trans (pw_getD hB hjk hk) hp)
  have h2' : ∀ y, y ∈ B.drop i → ltV v x y := fun y hy => by
    obtain ⟨j, a, b, rfl⟩ := mem_drop_getD hy
    exact ltV_total (fun e => by have := hlt _ (getD_mem b); omega) (h2 j a b)
  have h1' : ∀ y, y ∈ B.take i → ltV v y x := fun y hy => by
    obtain ⟨j, a, b, rfl⟩ := mem_take_getD hy
    exact h1 j (by omega) a
  refine ⟨B.take i ++ x :: B.drop i, ?_, ?_, ?_⟩
  · exact List.perm_middle.trans (by simp)
  · refine List.pairwise_append.2 ⟨hB.sublist (List.take_sublist _ _), List.pairwise_cons.2 ⟨h2', hB.sublist (List.drop_sublist _ _)⟩, fun y hy z hz => ?_⟩
    rcases List.mem_cons.1 hz with rfl | hz
    · exact h1' y hy
    · exact ltV_trans (h1' y hy) (h2' z hz)
  rintro a m b ha hm hb
  simp only [List.length_singleton] at hm hb
  refine .of_tree rfl rfl tr46_eq ?_
  have w0 : IntKind.i64.wrap (m - a) = 1 := by rw [wrap64_id (by omega)]; omega
  simp [tr46, w0]
  have hgB : ∀ j, j < B.length → (P ++ x :: (B ++ S)).getD (P.length + 1 + j) 0 = B.getD j 0 := fun j hj => by
    simp only [List.getD_eq_getElem?_getD]
    rw [List.getElem?_append_right (by omega), show P.length + 1 + j - P.length = j + 1 by omega, List.getElem?_cons_succ, List.getElem?_append_left hj]
  have hWl : (P ++ x :: (B ++ S)).length = P.length + 1 + B.length + S.length := by simp; omega
  refine loop0 hc (W := P ++ x :: (B ++ S)) (getD_mid _ _ _ rfl) hgB (by omega) (by omega) (by omega) hi (fun j hj => h1 j (by omega) hj) h2 hlt hx hr (by simp [ha]) (by simp) (by simp) (by simp [hm]) (by simp [hb]) ?_
  simp
  refine loop1 P B S x hi hN (by simp) (by simp [ha]) (by simp) fun u => ?_
  simp

theorem merge_right {c : D} {n : Nat} {v : Int → Int} (hc : CmpOK c n v) (P A S : List Int) (x : Int) (hA : A.Pairwise (ltV v)) (hA2 : 1 < A.length) (hlt : ∀ y, y ∈ A → y < x)
    (hx : 0 ≤ x ∧ x < n) (hr : ∀ y, y ∈ A → 0 ≤ y ∧ y < n) (hN : P.length + 1 + A.length + S.length ≤ 1000000) : Mrg c n v P A [x] S := by
  obtain ⟨i, _, hi, h1, h2⟩ := cut_ex (fun j => ¬ ltV v x (A.getD j 0)) 0 A.length (by omega) (fun j k _ hjk hk hp h => hp (ltV_trans h (pw_getD hA hjk hk)))
  have h1' : ∀ y, y ∈ A.take i → ltV v y x := fun y hy => by
    obtain ⟨j, a, b, rfl⟩ := mem_take_getD hy
    exact ltV_total (fun e => by have := hlt _ (getD_mem b); omega) (h1 j (by omega) a)
  have h2' : ∀ y, y ∈ A.drop i → ltV v x y := fun y hy => by
    obtain ⟨j, a, b, rfl⟩ := mem_drop_getD hy
    exact Classical.not_not.1 (h2 j a b)
  refine ⟨A.take i ++ x :: A.drop i, ?_, ?_, ?_⟩
  · refine List.perm_middle.trans ?_
    rw [List.take_append_drop]
    exact (List.perm_append_singleton x A).symm
  · refine List.pairwise_append.2 ⟨hA.sublist (List.take_sublist _ _), List.pairwise_cons.2 ⟨h2', hA.sublist (List.drop_sublist _ _)⟩, fun y hy z hz => ?_⟩
    rcases List.mem_cons.1 hz with rfl | hz
    · exact h1' y hy
    · exact ltV_trans (h1' y hy) (h2' z hz)
  rintro a m b ha hm hb
  simp only [List.length_singleton] at hm hb
  refine .of_tree rfl rfl tr46_eq ?_
  have w0 : IntKind.i64.wrap (m - a) = A.length := by rw [wrap64_id (by omega)]; omega
  have w1 : IntKind.i64.wrap (b - m) = 1 := by rw [wrap64_id (by omega)]; omega
  have hne : ¬ A.length = 1 := by omega
  have hne' : ¬ (A.length : Int) = 1 := by omega
  simp [tr46, w0, w1, hne, hne']
  have hgA : ∀ j, j < A.length → (P ++ (A ++ x :: S)).getD (P.length + j) 0 = A.getD j 0 := fun j hj => by
    simp only [List.getD_eq_getElem?_getD]
    rw [List.getElem?_append_right (by omega), show P.length + j - P.length = j by omega, List.getElem?_append_left hj]
  have hWl : (P ++ (A ++ x :: S)).length = P.length + 1 + A.length + S.length := by simp; omega
  refine loop2 hc (W := P ++ (A ++ x :: S)) (m := P.length + A.length) (by rw [← List.append_assoc]; exact getD_mid _ _ _ (by simp)) hgA (by omega) (by omega) (by omega) hi (fun j hj => h1 j (by omega) hj) (fun j h3 h4 => Classical.not_not.1 (h2 j h3 h4)) hlt hx hr (by simp [hm]) (by simp) (by simp) (by simp [ha]) (by simp [hm]) ?_
  simp
  refine loop3 P A S x hi hN (by simp) (by simp [hm]) (by simp) fun u => ?_
  simp
end Pool

/-!
  The stable sort, 6: symMerge in general; the whole sort.
-/
namespace Pool
open Go Go.Proofs Cx

/-- what a part of the merge is to give: nothing is done where one list is empty -/
def MrgP (c : D) (v : Int → Int) (P A B S M : List Int) : Prop :=
  M.Perm (A ++ B) ∧ M.Pairwise (ltV v) ∧ (0 < A.length ∧ 0 < B.length → ∀ a m b : Int, a = P.length → m = P.length + A.length → b = P.length + A.length + B.length →
    Runs T 46 [.none, .int a, .int m, .int b, c, ints (P ++ (A ++ (B ++ S)))] (.tup [.tup [], ints (P ++ (M ++ S))])) ∧ (¬ (0 < A.length ∧ 0 < B.length) → M = A ++ B)
theorem mrgP_of {c : D} {n : Nat} {v : Int → Int} {P A B S : List Int} (hA : A.Pairwise (ltV v)) (hB : B.Pairwise (ltV v)) (h : 0 < A.length → 0 < B.length → Mrg c n v P A B S) : ∃ M, MrgP c v P A B S M := by
  by_cases hl : 0 < A.length ∧ 0 < B.length
  · obtain ⟨M, h1, h2, h3⟩ := h hl.1 hl.2
    exact ⟨M, h1, h2, fun _ => h3, fun hn => absurd hl hn⟩
  · refine ⟨A ++ B, .refl _, ?_, fun h => absurd h hl, fun _ => rfl⟩
    by_cases h0 : A.length = 0
    · rw [List.length_eq_zero_iff.1 h0]; simpa using hB
    · have : B.length = 0 := by omega
      rw [List.length_eq_zero_iff.1 this]; simpa using hA

theorem k3_ok {c : D} {v : Int → Int} {P A2 B2 S M : List Int} (h : MrgP c v P A2 B2 S M) {ρ : Env} {md e b : Int} (h18 : ρ.r 18 = .int md) (h24 : ρ.r 24 = .int e) (h3 : ρ.r 3 = .int b) (h4 : ρ.r 4 = c) (h0 : ρ.o 0 = ints (P ++ (A2 ++ (B2 ++ S))))
    (hmd : md = P.length) (he : e = P.length + A2.length) (hb : b = P.length + A2.length + B2.length) : PTwp T K3 ρ (fun x => x = .ret (.tup [.tup [], ints (P ++ (M ++ S))])) := by
  obtain ⟨_, _, h5, h6⟩ := h
  by_cases hl : 0 < A2.length ∧ 0 < B2.length
  · have c1 : md < e := by omega
    have c2 : e < b := by omega
    simp [K3, h18, h24, h3, h4, h0, c1, c2]
    refine ⟨_, h5 hl md e b hmd he hb, ?_⟩
    simp
  · have e1 := h6 hl
    by_cases c1 : md < e
    · have c2 : ¬ e < b := by omega
      simp [K3, h18, h24, h3, h4, h0, c1, c2, e1]
    · simp [K3, h18, h24, h3, h4, h0, c1, e1]

theorem k2_ok {c : D} {v : Int → Int} {P A1 B1 A2 B2 S M M2 : List Int} (h : MrgP c v P A1 B1 (A2 ++ (B2 ++ S)) M) (h2 : MrgP c v (P ++ M) A2 B2 S M2) {ρ : Env} {a s md e b : Int} (h1 : ρ.r 1 = .int a) (h20 : ρ.r 20 = .int s) (h18 : ρ.r 18 = .int md) (h24 : ρ.r 24 = .int e) (h3 : ρ.r 3 = .int b) (h4 : ρ.r 4 = c)
    (h0 : ρ.o 0 = ints (P ++ (A1 ++ (B1 ++ (A2 ++ (B2 ++ S)))))) (ha : a = P.length) (hs : s = P.length + A1.length) (hmd : md = P.length + A1.length + B1.length) (he : e = P.length + A1.length + B1.length + A2.length) (hb : b = P.length + A1.length + B1.length + A2.length + B2.length) :
    PTwp T K2 ρ (fun x => x = .ret (.tup [.tup [], ints (P ++ (M ++ (M2 ++ S)))])) := by
  have hMl := h.1.length_eq
  rw [List.length_append] at hMl
  have k3 := fun {ρ : Env} (h18 : ρ.r 18 = .int md) (h24 : ρ.r 24 = .int e) (h3 : ρ.r 3 = .int b) (h4 : ρ.r 4 = c) (h0 : ρ.o 0 = ints ((P ++ M) ++ (A2 ++ (B2 ++ S)))) =>
    k3_ok h2 h18 h24 h3 h4 h0 (by simp; omega) (by simp; omega) (by simp; omega)
  simp only [List.append_assoc] at k3
  obtain ⟨_, _, h5, h6⟩ := h
  by_cases hl : 0 < A1.length ∧ 0 < B1.length
  · have c1 : a < s := by omega
    have c2 : s < md := by omega
    simp [K2, h1, h20, h18, h24, h3, h4, h0, c1, c2]
    refine ⟨_, h5 hl a s md ha hs hmd, ?_⟩
    refine k3 ?_ ?_ ?_ ?_ ?_ <;> simp [h18, h24, h3, h4]
  · have e1 := h6 hl
    by_cases c1 : a < s
    · have c2 : ¬ s < md := by omega
      simp [K2, h1, h20, h18, h24, h3, h4, h0, c1, c2]
      refine k3 ?_ ?_ ?_ ?_ ?_ <;> simp [h18, h24, h3, h4, h0, e1]
    · simp [K2, h1, h20, h18, h24, h3, h4, h0, c1]
      refine k3 ?_ ?_ ?_ ?_ ?_ <;> simp [h18, h24, h3, h4, h0, e1]

theorem k1_ok {c : D} {v : Int → Int} {P A1 B1 A2 B2 S M M2 : List Int} (h : MrgP c v P A1 B1 (A2 ++ (B2 ++ S)) M) (h2 : MrgP c v (P ++ M) A2 B2 S M2) {ρ : Env} {a s m nn md b : Int} (h1 : ρ.r 1 = .int a) (h02 : ρ.r 2 = .int m) (h20 : ρ.r 20 = .int s) (h18 : ρ.r 18 = .int md) (h19 : ρ.r 19 = .int nn) (h3 : ρ.r 3 = .int b) (h4 : ρ.r 4 = c)
    (h0 : ρ.o 0 = ints (P ++ (A1 ++ (A2 ++ (B1 ++ (B2 ++ S)))))) (ha : a = P.length) (hs : s = P.length + A1.length) (hm : m = P.length + A1.length + A2.length) (hnn : nn = md + m) (hmd : md = P.length + A1.length + B1.length) (hb : b = P.length + A1.length + B1.length + A2.length + B2.length)
    (hN : P.length + A1.length + B1.length + A2.length + B2.length + S.length ≤ 1000000) :
    PTwp T K1 ρ (fun x => x = .ret (.tup [.tup [], ints (P ++ (M ++ (M2 ++ S)))])) := by
  have w : IntKind.i64.wrap (nn - s) = nn - s := wrap64_id (by omega)
  have k2 := fun {ρ : Env} (h1 : ρ.r 1 = .int a) (h20 : ρ.r 20 = .int s) (h18 : ρ.r 18 = .int md) (h24 : ρ.r 24 = .int (nn - s)) (h3 : ρ.r 3 = .int b) (h4 : ρ.r 4 = c) (h0 : ρ.o 0 = ints (P ++ (A1 ++ (B1 ++ (A2 ++ (B2 ++ S)))))) =>
    k2_ok h h2 h1 h20 h18 h24 h3 h4 h0 ha hs hmd (by omega) hb
  by_cases hl : 0 < A2.length ∧ 0 < B1.length
  · have c1 : s < m := by omega
    have c2 : m < nn - s := by omega
    have hr := rotate_runs c (P ++ A1) A2 B1 (B2 ++ S) s m (nn - s) (by simp; omega) (by simp; omega) (by simp; omega) hl.1 hl.2 (by simp; omega)
    simp only [List.append_assoc] at hr
    simp [K1, h1, h02, h20, h18, h19, h3, h4, h0, w, c1, c2]
    refine ⟨_, hr, ?_⟩
    refine k2 ?_ ?_ ?_ ?_ ?_ ?_ ?_ <;> simp [h1, h20, h18, h3, h4, w, h19]
  · have e1 : A2 ++ (B1 ++ (B2 ++ S)) = B1 ++ (A2 ++ (B2 ++ S)) := by
      by_cases h0 : A2.length = 0
      · rw [List.length_eq_zero_iff.1 h0]; simp
      · have : B1.length = 0 := by omega
        rw [List.length_eq_zero_iff.1 this]; simp
    rw [e1] at h0
    by_cases c1 : s < m
    · have c2 : ¬ m < nn - s := by omega
      simp [K1, h1, h02, h20, h18, h19, h3, h4, h0, w, c1, c2]
      refine k2 ?_ ?_ ?_ ?_ ?_ ?_ ?_ <;> simp [h1, h20, h18, h3, h4, w, h19, h0]
    · simp [K1, h1, h02, h20, h18, h19, h3, h4, h0, w, c1]
      refine k2 ?_ ?_ ?_ ?_ ?_ ?_ ?_ <;> simp [h1, h20, h18, h3, h4, w, h19, h0]

set_option maxHeartbeats 800000 in
theorem merge_mid {c : D} {n : Nat} {v : Int → Int} (hc : CmpOK c n v) (P A B S : List Int) (hA : A.Pairwise (ltV v)) (hB : B.Pairwise (ltV v)) (hA2 : 1 < A.length) (hB2 : 1 < B.length) (hlt : ∀ x, x ∈ A → ∀ y, y ∈ B → x < y)
    (hrA : ∀ y, y ∈ A → 0 ≤ y ∧ y < n) (hrB : ∀ y, y ∈ B → 0 ≤ y ∧ y < n) (hN : P.length + A.length + B.length + S.length ≤ 1000000)
    (ih : ∀ P' A' B' S' : List Int, A'.length + B'.length < A.length + B.length → 0 < A'.length → 0 < B'.length → A'.Pairwise (ltV v) → B'.Pairwise (ltV v) → (∀ x, x ∈ A' → ∀ y, y ∈ B' → x < y) →
      (∀ y, y ∈ A' → 0 ≤ y ∧ y < n) → (∀ y, y ∈ B' → 0 ≤ y ∧ y < n) → P'.length + A'.length + B'.length + S'.length ≤ 1000000 → Mrg c n v P' A' B' S') : Mrg c n v P A B S := by
  obtain ⟨g, hg⟩ : ∃ g, g = (A.length + B.length) / 2 := ⟨_, rfl⟩
  obtain ⟨s0, hs0⟩ : ∃ s0, s0 = if g < A.length then g - B.length else 0 := ⟨_, rfl⟩
  obtain ⟨r0, hr0⟩ : ∃ r0, r0 = if g < A.length then g else A.length := ⟨_, rfl⟩
  have hr0A : r0 ≤ A.length := by rw [hr0]; split <;> omega
  have hr0g : r0 ≤ g := by rw [hr0]; split <;> omega
  have hs0r : s0 ≤ r0 := by rw [hs0, hr0]; split <;> omega
  have hsB : g - s0 ≤ B.length := by rw [hs0]; split <;> omega
  obtain ⟨s, hs1, hs2, hs3, hs4⟩ := cut_ex (fun j => ¬ ltV v (B.getD (g - 1 - j) 0) (A.getD j 0)) s0 r0 hs0r (fun j k h1 h2 h3 hp hq => hp (by
    have k1 := pw_getD hA h2 (by omega)
    have k2 := pw_getD hB (i := g - 1 - k) (j := g - 1 - j) (by omega) (by omega)
    exact ltV_trans k2 (ltV_trans hq k1)))
  have hs4 : ∀ j, s ≤ j → j < r0 → ltV v (B.getD (g - 1 - j) 0) (A.getD j 0) := fun j h1 h2 => Classical.not_not.1 (hs4 j h1 h2)
  obtain ⟨d, hd⟩ : ∃ d, d = g - s := ⟨_, rfl⟩
  have hcut : ∀ x, x ∈ A.take s ++ B.take d → ∀ y, y ∈ A.drop s ++ B.drop d → ltV v x y := by
    refine split_ok hA hB ?_ ?_
    · by_cases e : s = s0
      · rw [hs0] at e
        split at e
        · right; left; omega
        · left; omega
      · right; right
        refine ⟨by omega, ?_⟩
        have := hs3 (s - 1) (by omega) (by omega)
        rw [show g - 1 - (s - 1) = d by omega] at this
        exact ltV_total (fun e => by
          have := hlt (A.getD (s - 1) 0) (getD_mem (by omega)) (B.getD d 0) (getD_mem (by omega))
          omega) this
    · by_cases e : s = r0
      · rw [hr0] at e
        split at e
        · left; omega
        · right; left; omega
      · right; right
        refine ⟨by omega, ?_⟩
        have := hs4 s (by omega) (by omega)
        rw [show g - 1 - s = d - 1 by omega] at this
        exact this
  have lA1 : (A.take s).length = s := by rw [List.length_take]; omega
  have lA2 : (A.drop s).length = A.length - s := List.length_drop
  have lB1 : (B.take d).length = d := by rw [List.length_take]; omega
  have lB2 : (B.drop d).length = B.length - d := List.length_drop
  obtain ⟨M, hM⟩ : ∃ M, MrgP c v P (A.take s) (B.take d) (A.drop s ++ (B.drop d ++ S)) M := mrgP_of (n := n) (hA.sublist (List.take_sublist _ _)) (hB.sublist (List.take_sublist _ _)) fun h1 h2 =>
    ih _ _ _ _ (by omega) h1 h2 (hA.sublist (List.take_sublist _ _)) (hB.sublist (List.take_sublist _ _)) (fun x hx y hy => hlt x (List.mem_of_mem_take hx) y (List.mem_of_mem_take hy)) (fun y hy => hrA y (List.mem_of_mem_take hy)) (fun y hy => hrB y (List.mem_of_mem_take hy)) (by simp only [List.length_append]; omega)
  have hMl : M.length = s + d := by rw [hM.1.length_eq, List.length_append]; omega
  obtain ⟨M2, hM2⟩ : ∃ M2, MrgP c v (P ++ M) (A.drop s) (B.drop d) S M2 := mrgP_of (n := n) (hA.sublist (List.drop_sublist _ _)) (hB.sublist (List.drop_sublist _ _)) fun h1 h2 =>
    ih _ _ _ _ (by omega) h1 h2 (hA.sublist (List.drop_sublist _ _)) (hB.sublist (List.drop_sublist _ _)) (fun x hx y hy => hlt x (List.mem_of_mem_drop hx) y (List.mem_of_mem_drop hy)) (fun y hy => hrA y (List.mem_of_mem_drop hy)) (fun y hy => hrB y (List.mem_of_mem_drop hy)) (by simp only [List.length_append]; omega)
  refine ⟨M ++ M2, ?_, pw_join hM.2.1 hM2.2.1 hM.1 hM2.1 hcut, ?_⟩
  · refine (hM.1.append hM2.1).trans ?_
    have e1 : A.take s ++ A.drop s = A := List.take_append_drop _ _
    have e2 : B.take d ++ B.drop d = B := List.take_append_drop _ _
    have e3 : A ++ B = (A.take s ++ A.drop s) ++ (B.take d ++ B.drop d) := by rw [e1, e2]
    rw [e3]
    refine List.perm_iff_count.2 fun x => ?_
    simp only [List.count_append]; omega
  rintro a m b ha hm hb
  refine .of_tree rfl rfl tr46_eq' ?_
  have w0 : IntKind.i64.wrap (m - a) = A.length := by rw [wrap64_id (by omega)]; omega
  have w1 : IntKind.i64.wrap (b - m) = B.length := by rw [wrap64_id (by omega)]; omega
  have hne : ¬ A.length = 1 := by omega
  have hne' : ¬ (A.length : Int) = 1 := by omega
  have hne2 : ¬ B.length = 1 := by omega
  have hne2' : ¬ (B.length : Int) = 1 := by omega
  have w2 : IntKind.i64.wrap (a + b) = ((P.length + (P.length + A.length + B.length) : Nat) : Int) := by rw [wrap64_id (by omega)]; omega
  obtain ⟨md, hmd⟩ : ∃ md : Nat, md = P.length + g := ⟨_, rfl⟩
  have w3 : IntKind.i64.wrap (arI .shr .u64 (IntKind.u64.wrap (IntKind.i64.wrap (a + b))) 1) = (md : Int) := by
    rw [w2, half_eq (s := P.length + (P.length + A.length + B.length)) (by omega) rfl]; omega
  obtain ⟨mm, hmm⟩ : ∃ mm : Nat, mm = P.length + A.length := ⟨_, rfl⟩
  obtain ⟨nn, hnn⟩ : ∃ nn : Nat, nn = md + mm := ⟨_, rfl⟩
  have hm' : m = (mm : Int) := by omega
  subst hm'
  have w4 : IntKind.i64.wrap ((md : Int) + mm) = (nn : Int) := by rw [wrap64_id (by omega)]; omega
  have w5 : IntKind.i64.wrap ((nn : Int) - 1) = ((nn - 1 : Nat) : Int) := by rw [wrap64_id (by omega)]; omega
  have w6 : IntKind.i64.wrap ((nn : Int) - b) = (nn : Int) - b := wrap64_id (by omega)
  simp only [tr46']
  simp [w0, w1, hne, hne', hne2, hne2', w3, w4]
  have hgA : ∀ j, j < A.length → (P ++ (A ++ (B ++ S))).getD (P.length + j) 0 = A.getD j 0 := fun j hj => by
    simp only [List.getD_eq_getElem?_getD]
    rw [List.getElem?_append_right (by omega), show P.length + j - P.length = j by omega, List.getElem?_append_left hj]
  have hgB : ∀ j, j < B.length → (P ++ (A ++ (B ++ S))).getD (P.length + A.length + j) 0 = B.getD j 0 := fun j hj => by
    simp only [List.getD_eq_getElem?_getD]
    rw [List.getElem?_append_right (by omega), List.getElem?_append_right (by omega), show P.length + A.length + j - P.length - A.length = j by omega, List.getElem?_append_left hj]
  have hWl : (P ++ (A ++ (B ++ S))).length = P.length + A.length + B.length + S.length := by simp; omega
  refine loop4 hc (W := P ++ (A ++ (B ++ S))) (A := A) (B := B) (a := P.length) (q0 := nn - 1) (d := g) (s0 := s0) (r0 := r0) (i := s) hgA (fun j h1 h2 => ⟨?_, by omega, by omega⟩) hr0A (by omega) (fun j h1 h2 => by omega) (by omega) (by omega) ⟨hs1, hs2⟩ hs3 hs4 hlt hrA hrB (by simp) (by simp) (by simp [w3, w4, w5]) ?_ ?_ ?_
  · rw [show nn - 1 - (P.length + j) = P.length + A.length + (g - 1 - j) by omega]
    exact hgB _ (by omega)
  · simp only [hs0]
    by_cases hgA : g < A.length
    · have c1 : md < mm := by omega
      simp [w3, w4, c1, w6, hgA]; omega
    · have c1 : ¬ md < mm := by omega
      simp [w3, w4, c1, hgA]; omega
  · simp only [hr0]
    by_cases hgA : g < A.length
    · have c1 : md < mm := by omega
      simp [w3, w4, c1, hgA]; omega
    · have c1 : ¬ md < mm := by omega
      simp [w3, w4, c1, hgA]; omega
  · simp only [seqQ_next]
    have eW : P ++ (A ++ (B ++ S)) = P ++ (A.take s ++ (A.drop s ++ (B.take d ++ (B.drop d ++ S)))) := by
      rw [← List.append_assoc (A.take s), List.take_append_drop, ← List.append_assoc (B.take d), List.take_append_drop]
    have f1 : ((P.length + s : Nat) : Int) = P.length + (A.take s).length := by rw [lA1]; omega
    have f2 : (mm : Int) = P.length + (A.take s).length + (A.drop s).length := by rw [lA1, lA2]; omega
    have f3 : (nn : Int) = md + mm := by omega
    have f4 : (md : Int) = P.length + (A.take s).length + (B.take d).length := by rw [lA1, lB1]; omega
    have f5 : b = P.length + (A.take s).length + (B.take d).length + (A.drop s).length + (B.drop d).length := by rw [lA1, lB1, lA2, lB2]; omega
    have f6 : P.length + (A.take s).length + (B.take d).length + (A.drop s).length + (B.drop d).length + S.length ≤ 1000000 := by rw [lA1, lB1, lA2, lB2]; omega
    clear ih hcut hgA hgB hs3 hs4
    refine k1_ok hM hM2 (a := a) (s := (P.length + s : Nat)) (m := mm) (nn := nn) (md := md) (b := b) ?_ ?_ ?_ ?_ ?_ ?_ ?_ ?_ ha f1 f2 f3 f4 f5 f6
    all_goals simp [w3, w4]
    rw [eW]

theorem symMerge_runs {c : D} {n : Nat} {v : Int → Int} (hc : CmpOK c n v) : ∀ (k : Nat) (P A B S : List Int), A.length + B.length ≤ k → 0 < A.length → 0 < B.length → A.Pairwise (ltV v) → B.Pairwise (ltV v) → (∀ x, x ∈ A → ∀ y, y ∈ B → x < y) →
      (∀ y, y ∈ A → 0 ≤ y ∧ y < n) → (∀ y, y ∈ B → 0 ≤ y ∧ y < n) → P.length + A.length + B.length + S.length ≤ 1000000 → Mrg c n v P A B S := by
  intro k
  induction k with
  | zero => intro P A B S h hA hB; omega
  | succ k ih =>
    intro P A B S h hA0 hB0 hA hB hlt hrA hrB hN
    by_cases h1 : A.length = 1
    · obtain ⟨x, rfl⟩ := List.length_eq_one_iff.1 h1
      exact merge_left hc P B S x hB (fun y hy => hlt x List.mem_cons_self y hy) (hrA x List.mem_cons_self) hrB (by simpa using hN)
    by_cases h2 : B.length = 1
    · obtain ⟨x, rfl⟩ := List.length_eq_one_iff.1 h2
      exact merge_right hc P A S x hA (by omega) (fun y hy => hlt y hy x List.mem_cons_self) (hrB x List.mem_cons_self) hrA (by simp at hN; omega)
    exact merge_mid hc P A B S hA hB (by omega) (by omega) hlt hrA hrB hN fun P' A' B' S' hl a1 a2 a3 a4 a5 a6 a7 a8 => ih P' A' B' S' (by omega) a1 a2 a3 a4 a5 a6 a7 a8
end Pool

/-!
  The stable sort, 7: blocks are sorted by insertion, then merged.
-/
namespace Pool
open Go Go.Proofs Cx

/-- blocks in a row: each in order, and all numbers of one are less than those of a later one -/
structure Blk (v : Int → Int) (n : Nat) (l : List Int) (Bs : List (List Int)) : Prop where
  sorted : ∀ X, X ∈ Bs → X.Pairwise (ltV v)
  cross : Bs.Pairwise fun X Y => ∀ x, x ∈ X → ∀ y, y ∈ Y → x < y
  range : ∀ X, X ∈ Bs → ∀ x, x ∈ X → 0 ≤ x ∧ x < n
  perm : Bs.flatten.Perm l

theorem Blk.merge {v : Int → Int} {n : Nat} {l : List Int} {Q R : List (List Int)} {X Y M : List Int} (h : Blk v n l (Q ++ X :: Y :: R)) (hp : M.Perm (X ++ Y)) (hs : M.Pairwise (ltV v)) : Blk v n l (Q ++ M :: R) := by
  have hm : ∀ x, x ∈ M → x ∈ X ∨ x ∈ Y := fun x hx => List.mem_append.1 (hp.mem_iff.1 hx)
  obtain ⟨h1, h2, h3, h4⟩ := h
  have h2' := List.pairwise_append.1 h2
  obtain ⟨c1, c2, c3⟩ := h2'
  have c4 := List.pairwise_cons.1 c2
  have c5 := List.pairwise_cons.1 c4.2
  refine ⟨fun Z hZ => ?_, ?_, fun Z hZ x hx => ?_, ?_⟩
  · rcases List.mem_append.1 hZ with hZ | hZ
    · exact h1 Z (by simp [hZ])
    · rcases List.mem_cons.1 hZ with rfl | hZ
      · exact hs
      · exact h1 Z (by simp [hZ])
  · refine List.pairwise_append.2 ⟨c1, List.pairwise_cons.2 ⟨fun Z hZ x hx y hy => ?_, c5.2⟩, fun Z hZ U hU x hx y hy => ?_⟩
    · rcases hm x hx with hx | hx
      · exact c4.1 Z (by simp [hZ]) x hx y hy
      · exact c5.1 Z hZ x hx y hy
    · rcases List.mem_cons.1 hU with rfl | hU
      · rcases hm y hy with hy | hy
        · exact c3 Z hZ X (by simp) x hx y hy
        · exact c3 Z hZ Y (by simp) x hx y hy
      · exact c3 Z hZ U (by simp [hU]) x hx y hy
  · rcases List.mem_append.1 hZ with hZ | hZ
    · exact h3 Z (by simp [hZ]) x hx
    · rcases List.mem_cons.1 hZ with rfl | hZ
      · rcases hm x hx with hx | hx
        · exact h3 X (by simp) x hx
        · exact h3 Y (by simp) x hx
      · exact h3 Z (by simp [hZ]) x hx
  · refine List.Perm.trans ?_ h4
    simp only [List.flatten_append, List.flatten_cons]
    refine List.Perm.append_left _ ?_
    rw [← List.append_assoc]
    exact hp.append_right _

/-- all blocks but the last have this length, and the last at most -/
def wid (w : Nat) : List (List Int) → Prop
  | [] => True
  | [X] => 0 < X.length ∧ X.length ≤ w
  | X :: Y :: R => X.length = w ∧ wid w (Y :: R)
theorem wid_two {w : Nat} {R : List (List Int)} (hw : 0 < w) (h : wid w R) (hl : w < R.flatten.length) : ∃ X Y R', R = X :: Y :: R' ∧ X.length = w ∧ 0 < Y.length ∧ Y.length ≤ w ∧ wid w (Y :: R') ∧ (2 * w ≤ R.flatten.length → Y.length = w ∧ wid w R') ∧ (R.flatten.length < 2 * w → R' = []) := by
  match R, h with
  | [], _ => simp at hl
  | [X], h => simp [wid] at h hl; omega
  | [X, Y], h =>
    simp only [wid] at h
    refine ⟨X, Y, [], rfl, h.1, h.2.1, h.2.2, h.2, fun h2 => ⟨?_, trivial⟩, fun _ => rfl⟩
    simp at h2; omega
  | X :: Y :: Z :: R', h =>
    simp only [wid] at h
    refine ⟨X, Y, Z :: R', rfl, h.1, by omega, by omega, h.2, fun h2 => ⟨h.2.1, h.2.2⟩, fun h2 => ?_⟩
    simp only [List.flatten_cons, List.length_append] at h2
    have := h.2.1
    have hz : 0 < Z.length := by
      cases R' with
      | nil => exact h.2.2.1
      | cons U R' => have := h.2.2.1; omega
    omega
theorem wid_one {w : Nat} (hw : 0 < w) {R : List (List Int)} (h : wid w R) (hl : R.flatten.length ≤ w) : R = [] ∨ ∃ X, R = [X] ∧ 0 < X.length ∧ X.length ≤ w := by
  match R, h with
  | [], _ => exact .inl rfl
  | [X], h => exact .inr ⟨X, rfl, h.1, h.2⟩
  | [X, Y], h => simp only [wid] at h; simp only [List.flatten_cons, List.length_append] at hl; omega
  | X :: Y :: Z :: R', h => simp only [wid] at h; simp only [List.flatten_cons, List.length_append] at hl; omega
theorem wid_snoc {w : Nat} {X : List Int} (h0 : 0 < X.length) (h1 : X.length ≤ w) : ∀ {Q : List (List Int)}, (∀ Y, Y ∈ Q → Y.length = w) → wid w (Q ++ [X])
  | [], _ => ⟨h0, h1⟩
  | [Y], h => ⟨h Y (by simp), h0, h1⟩
  | Y :: Z :: Q, h => ⟨h Y (by simp), wid_snoc h0 h1 fun U hU => h U (List.mem_cons_of_mem _ hU)⟩
theorem wid_all {w : Nat} (hw : 0 < w) : ∀ {Q : List (List Int)}, (∀ Y, Y ∈ Q → Y.length = w) → wid w Q
  | [], _ => trivial
  | [Y], h => by have := h Y (by simp); exact ⟨by omega, by omega⟩
  | Y :: Z :: Q, h => ⟨h Y (by simp), wid_all hw fun U hU => h U (List.mem_cons_of_mem _ hU)⟩

/-! ### one pass of merging -/
theorem pass_runs {c : D} {n : Nat} {v : Int → Int} (hc : CmpOK c n v) (l : List Int) (hN : l.length ≤ 100000) {w t : Nat} (ht : t = 2 * w) (hw : 0 < w) (hwN : w ≤ 100000) {R : List (List Int)} (hb : Blk v n l R) (hwd : wid w R) {ρ : Env} {Q : Out → Prop}
    (e1 : ρ.r 1 = .int l.length) (e2 : ρ.r 2 = c) (e6 : ρ.r 6 = .int w) (e7 : ρ.r 7 = .int 0) (e8 : ρ.r 8 = .int t) (e0 : ρ.o 0 = ints R.flatten)
    (k : ∀ (Q' R' : List (List Int)) (a b : Nat), Blk v n l (Q' ++ R') → (∀ X, X ∈ Q' → X.length = t) → wid w R' → R'.flatten.length < t → a = Q'.flatten.length → Q (.next (ρ.put [7, 8, 33, 34, 35] [.int a, .int b, .int b, .int l.length, .bool false] [0] [ints (Q' ++ R').flatten]))) : EvP T lp41_1 ρ Q := by
  refine EvP.forLoop (α := List (List Int) × List (List Int) × Nat × Nat)
    (fun q vr vo => Blk v n l (q.1 ++ q.2.1) ∧ (∀ X, X ∈ q.1 → X.length = t) ∧ wid w q.2.1 ∧ vr = [.int q.2.2.1, .int q.2.2.2] ∧ vo = [ints (q.1 ++ q.2.1).flatten] ∧ q.2.2.1 = q.1.flatten.length ∧ q.2.2.2 = q.1.flatten.length + t)
    (fun q => q.2.1.length) ([], R, 0, t) ⟨by simpa using hb, by simp, hwd, by simp [e7, e8], by simp [e0], rfl, by simp⟩ ?_
  rintro ⟨Q1, R1, a, b⟩ vr vo ⟨h1, h2, h3, rfl, rfl, ha, hb⟩
  simp only at h1 h2 h3 ha hb
  have hlen : Q1.flatten.length + R1.flatten.length = l.length := by
    have := h1.perm.length_eq
    simpa using this
  by_cases hle : b ≤ l.length
  · obtain ⟨X, Y, R', rfl, hX, hY0, hY1, _, h4, _⟩ := wid_two hw h3 (by omega)
    obtain ⟨hY, hR'⟩ := h4 (by omega)
    have c1 := List.pairwise_append.1 h1.cross
    have c2 := (List.pairwise_cons.1 c1.2.1).1 Y (by simp)
    have hfl : (X :: Y :: R').flatten.length = X.length + Y.length + R'.flatten.length := by simp only [List.flatten_cons, List.length_append]; omega
    obtain ⟨M, hM1, hM2, hM3⟩ := symMerge_runs hc (X.length + Y.length) Q1.flatten X Y R'.flatten (Nat.le_refl _) (by omega) (by omega) (h1.sorted X (by simp)) (h1.sorted Y (by simp)) c2 (h1.range X (by simp)) (h1.range Y (by simp)) (by omega)
    have hMl := hM1.length_eq
    rw [List.length_append] at hMl
    obtain ⟨m, hm⟩ : ∃ m, m = a + w := ⟨_, rfl⟩
    have hr := hM3 a m b (by omega) (by omega) (by omega)
    have w1 : IntKind.i64.wrap ((a : Int) + w) = (m : Int) := by rw [wrap64_id (by omega)]; omega
    have w2 : IntKind.i64.wrap (2 * (w : Int)) = (t : Int) := by rw [wrap64_id (by omega)]; omega
    obtain ⟨b', hb'⟩ : ∃ b', b' = b + t := ⟨_, rfl⟩
    have w3 : IntKind.i64.wrap ((b : Int) + t) = (b' : Int) := by rw [wrap64_id (by omega)]; omega
    have e : (Q1 ++ X :: Y :: R').flatten = Q1.flatten ++ (X ++ (Y ++ R'.flatten)) := by simp only [List.flatten_append, List.flatten_cons]
    rw [e]
    simp only [rd41_1_eq, rd41_1]
    simp [hle, e1, e2, e6, w1, w2, w3]
    refine ⟨_, hr, ?_⟩
    simp [w2, w3]
    have hfM : (Q1 ++ [M]).flatten.length = Q1.flatten.length + M.length := by simp
    refine ⟨Q1 ++ [M], R', by omega, ?_, fun Z hZ => ?_, hR', b, b', ⟨rfl, rfl⟩, ?_, by rw [← List.length_flatten, hfM]; omega, by rw [← List.length_flatten, hfM]; omega⟩
    · have := h1.merge hM1 hM2
      simpa using this
    · rcases List.mem_append.1 hZ with hZ | hZ
      · exact h2 Z hZ
      · rw [List.mem_singleton] at hZ; subst hZ; omega
    · simp
  · have := k Q1 R1 a b h1 h2 h3 (by omega) ha
    simp only [rd41_1_eq, rd41_1]
    simp [hle, e1]
    simpa using this

/-! ### all passes -/
theorem passes_runs {c : D} {n : Nat} {v : Int → Int} (hc : CmpOK c n v) (l : List Int) (hN : l.length ≤ 100000) {R : List (List Int)} (hb : Blk v n l R) (hwd : wid 20 R) {ρ : Env} {Q : Out → Prop}
    (e1 : ρ.r 1 = .int l.length) (e2 : ρ.r 2 = c) (e6 : ρ.r 6 = .int 20) (e0 : ρ.o 0 = ints R.flatten)
    (k : ∀ (M : List Int) (u : List D), M.Perm l → M.Pairwise (ltV v) → Q (.next (ρ.put [6, 7, 8, 28, 29, 30] u [0] [ints M]))) : EvP T lp41_2 ρ Q := by
  refine EvP.forLoop (α := List (List Int) × Nat)
    (fun q vr vo => Blk v n l q.1 ∧ wid q.2 q.1 ∧ 0 < q.2 ∧ q.2 ≤ 1000000 ∧ (∃ u1 u2, vr = [.int q.2, u1, u2]) ∧ vo = [ints q.1.flatten])
    (fun q => l.length - q.2) (R, 20) ⟨hb, hwd, by omega, by omega, ⟨ρ.r 7, ρ.r 8, by simp [e6]⟩, by simp [e0]⟩ ?_
  rintro ⟨R, w⟩ vr vo ⟨h1, h2, h3, h4, ⟨u1, u2, rfl⟩, rfl⟩
  simp only at h1 h2 h3 h4
  have hlen : R.flatten.length = l.length := h1.perm.length_eq
  by_cases hlt : w < l.length
  · obtain ⟨t, ht⟩ : ∃ t, t = 2 * w := ⟨_, rfl⟩
    have w2 : IntKind.i64.wrap (2 * (w : Int)) = (t : Int) := by rw [wrap64_id (by omega)]; omega
    have w2' : IntKind.i64.wrap ((w : Int) * 2) = (t : Int) := by rw [wrap64_id (by omega)]; omega
    simp only [rd41_2_eq, rd41_2]
    simp [hlt, e1, w2]
    refine pass_runs hc l hN ht h3 (by omega) h1 h2 (by simp [e1]) (by simp [e2]) (by simp) (by simp) (by simp [w2]) (by simp) ?_
    intro Q' R' a b g1 g2 g3 g4 g5
    have hl2 : Q'.flatten.length + R'.flatten.length = l.length := by
      have := g1.perm.length_eq
      simpa using this
    obtain ⟨m, hm⟩ : ∃ m, m = a + w := ⟨_, rfl⟩
    have w1 : IntKind.i64.wrap ((a : Int) + w) = (m : Int) := by rw [wrap64_id (by omega)]; omega
    by_cases hml : m < l.length
    · obtain ⟨X, Y, R'', rfl, hX, hY0, hY1, _, _, hR⟩ := wid_two h3 g3 (by omega)
      obtain rfl := hR (by omega)
      have c1 := List.pairwise_append.1 g1.cross
      have c2 := (List.pairwise_cons.1 c1.2.1).1 Y (by simp)
      have hfl : [X, Y].flatten.length = X.length + Y.length := by simp
      obtain ⟨M, hM1, hM2, hM3⟩ := symMerge_runs hc (X.length + Y.length) Q'.flatten X Y [] (Nat.le_refl _) (by omega) (by omega) (g1.sorted X (by simp)) (g1.sorted Y (by simp)) c2 (g1.range X (by simp)) (g1.range Y (by simp)) (by simp only [List.length_nil]; omega)
      have hMl := hM1.length_eq
      rw [List.length_append] at hMl
      have hr := hM3 a m l.length (by omega) (by omega) (by omega)
      have e : (Q' ++ [X, Y]).flatten = Q'.flatten ++ (X ++ (Y ++ [])) := by simp
      rw [e]
      simp [hml, e1, e2, w1]
      simp only [List.append_nil] at hr
      refine ⟨_, hr, ?_⟩
      simp [w2']
      refine ⟨Q' ++ [M], t, by omega, ?_, wid_snoc (by omega) (by omega) g2, by omega, by omega, rfl, by simp⟩
      have := g1.merge hM1 hM2
      simpa using this
    · have hR : wid t (Q' ++ R') := by
        rcases wid_one h3 g3 (by omega) with rfl | ⟨X, rfl, x1, x2⟩
        · simpa using wid_all (by omega) g2
        · exact wid_snoc x1 (by omega) g2
      simp [hml, e1, e2, w1, w2']
      exact ⟨Q' ++ R', t, by omega, g1, hR, by omega, by omega, rfl, by simp⟩
  · have hM : R.flatten.Pairwise (ltV v) := by
      rcases wid_one h3 h2 (by omega) with rfl | ⟨X, rfl, x1, x2⟩
      · simp
      · simpa using h1.sorted X (by simp)
    have := fun u => k R.flatten u h1.perm hM
    simp only [rd41_2_eq, rd41_2]
    simp [hlt, e1]
    simpa using this _

/-! ### the blocks -/
theorem blocks_runs {c : D} {n : Nat} {v : Int → Int} (hc : CmpOK c n v) (l : List Int) (hl : l.Pairwise (· < ·)) (hr : ∀ x, x ∈ l → 0 ≤ x ∧ x < n) (hN : l.length ≤ 100000) :
    Runs T 41 [.none, .int l.length, c, ints l] (.tup [.tup [], ints (srt v l)]) := by
  have hnd : l.Nodup := hl.imp fun h => by omega
  refine .of_tree rfl rfl tr41_eq ?_
  simp [tr41]
  refine EvP.forLoop (α := List (List Int) × Nat × Nat)
    (fun q vr vo => (∀ X, X ∈ q.1 → X.Pairwise (ltV v) ∧ X.length = 20) ∧ q.1.Pairwise (fun X Y => ∀ x, x ∈ X → ∀ y, y ∈ Y → x < y) ∧ q.1.flatten.Perm (l.take q.2.1) ∧ q.2.1 ≤ l.length ∧ q.2.2 = q.2.1 + 20 ∧ vr = [.int q.2.1, .int q.2.2] ∧ vo = [ints (q.1.flatten ++ l.drop q.2.1)])
    (fun q => l.length - q.2.1) ([], 0, 20) ⟨by simp, by simp, by simp, by simp, rfl, by simp, by simp⟩ ?_
  rintro ⟨Q, a, b⟩ vr vo ⟨h1, h2, h3, h4, h5, rfl, rfl⟩
  simp only at h1 h2 h3 h4 h5
  have hQl : Q.flatten.length = a := by rw [h3.length_eq, List.length_take]; omega
  have sub : ∀ {X : List Int}, X.Sublist l → X.Pairwise (· < ·) ∧ (∀ x, x ∈ X → 0 ≤ x ∧ x < n) ∧ X.Nodup := fun hs => ⟨hl.sublist hs, fun x hx => hr x (hs.subset hx), hnd.sublist hs⟩
  have hsplit : ∀ x, x ∈ l.take a → ∀ y, y ∈ l.drop a → x < y := by
    have := hl
    rw [← List.take_append_drop a l] at this
    exact (List.pairwise_append.1 this).2.2
  by_cases hle : b ≤ l.length
  · have hs : ((l.drop a).take 20).Sublist l := (List.take_sublist _ _).trans (List.drop_sublist _ _)
    obtain ⟨s1, s2, s3⟩ := sub hs
    have hl20 : ((l.drop a).take 20).length = 20 := by rw [List.length_take, List.length_drop]; omega
    have hi := insert_runs hc Q.flatten ((l.drop a).take 20) ((l.drop a).drop 20) a b (by omega) (by omega) s1 s2 (by simp only [List.length_append, hl20, List.length_drop]; omega)
    rw [List.take_append_drop, List.drop_drop] at hi
    obtain ⟨b', hb'⟩ : ∃ b', b' = b + 20 := ⟨_, rfl⟩
    have w3 : IntKind.i64.wrap ((b : Int) + 20) = (b' : Int) := by rw [wrap64_id (by omega)]; omega
    have htb : l.take b = l.take a ++ (l.drop a).take 20 := by rw [h5, List.take_add]
    simp only [rd41_0_eq, rd41_0]
    simp [hle, w3]
    simp only [ints] at hi
    refine ⟨_, by simpa [ints] using hi, ?_⟩
    simp [w3]
    refine ⟨Q ++ [srt v ((l.drop a).take 20)], b, by omega, ?_, ?_, ?_, hle, ⟨rfl, by omega⟩, ?_⟩
    · intro X hX
      rcases List.mem_append.1 hX with hX | hX
      · exact h1 X hX
      · rw [List.mem_singleton] at hX; subst hX
        exact ⟨srt_sorted v _ s3, by rw [(srt_perm v _).length_eq, hl20]⟩
    · refine List.pairwise_append.2 ⟨h2, by simp, fun X hX Y hY x hx y hy => ?_⟩
      rw [List.mem_singleton] at hY; subst hY
      exact hsplit x (h3.mem_iff.1 (List.mem_flatten.2 ⟨X, hX, hx⟩)) y (List.mem_of_mem_take ((srt_perm v _).mem_iff.1 hy))
    · rw [htb]
      simp only [List.flatten_append, List.flatten_cons, List.flatten_nil, List.append_nil]
      exact h3.append (srt_perm v _)
    · simp [h5, ints, List.map_append]
  · have hs : (l.drop a).Sublist l := List.drop_sublist _ _
    obtain ⟨s1, s2, s3⟩ := sub hs
    have hi := insert_runs hc Q.flatten (l.drop a) [] a l.length (by omega) (by rw [List.length_drop]; omega) s1 s2 (by simp only [List.length_append, List.length_drop, List.length_nil]; omega)
    simp only [List.append_nil] at hi
    simp only [rd41_0_eq, rd41_0]
    simp [hle]
    refine ⟨_, hi, ?_⟩
    have key : ∃ R : List (List Int), Blk v n l R ∧ wid 20 R ∧ R.flatten = Q.flatten ++ srt v (l.drop a) := by
      by_cases h0 : l.drop a = []
      · have hla : l.take a = l := by
          have := List.take_append_drop a l
          rw [h0, List.append_nil] at this; exact this
        rw [hla] at h3
        refine ⟨Q, ⟨fun X hX => (h1 X hX).1, h2, fun X hX x hx => hr x (h3.mem_iff.1 (List.mem_flatten.2 ⟨X, hX, hx⟩)), h3⟩, wid_all (by omega) fun X hX => (h1 X hX).2, ?_⟩
        rw [h0]; simp [srt]
      · have hpos : 0 < (l.drop a).length := List.length_pos_iff.2 h0
        rw [List.length_drop] at hpos
        have hp : (Q.flatten ++ srt v (l.drop a)).Perm l := by
          have e := h3.append (srt_perm v (l.drop a))
          rw [List.take_append_drop] at e; exact e
        refine ⟨Q ++ [srt v (l.drop a)], ⟨fun X hX => ?_, ?_, fun X hX x hx => ?_, by simpa using hp⟩, wid_snoc (by rw [(srt_perm v _).length_eq, List.length_drop]; omega) (by rw [(srt_perm v _).length_eq, List.length_drop]; omega) fun X hX => (h1 X hX).2, by simp⟩
        · rcases List.mem_append.1 hX with hX | hX
          · exact (h1 X hX).1
          · rw [List.mem_singleton] at hX; subst hX
            exact srt_sorted v _ s3
        · refine List.pairwise_append.2 ⟨h2, by simp, fun X hX Y hY x hx y hy => ?_⟩
          rw [List.mem_singleton] at hY; subst hY
          exact hsplit x (h3.mem_iff.1 (List.mem_flatten.2 ⟨X, hX, hx⟩)) y ((srt_perm v _).mem_iff.1 hy)
        · refine hr x (hp.mem_iff.1 ?_)
          rcases List.mem_append.1 hX with hX | hX
          · exact List.mem_append.2 (.inl (List.mem_flatten.2 ⟨X, hX, hx⟩))
          · rw [List.mem_singleton] at hX; subst hX
            exact List.mem_append.2 (.inr hx)
    obtain ⟨R, r1, r2, r3⟩ := key
    refine passes_runs hc l hN r1 r2 (by simp) (by simp) (by simp) (by simp [r3]) ?_
    intro M u m1 m2
    have : M = srt v l := List.Perm.eq_of_pairwise (le := ltV v) (fun a b _ _ h1 h2 => absurd h2 (ltV_asymm h1)) m2 (srt_sorted v l hnd) (m1.trans (srt_perm v l).symm)
    simp [this]

theorem stable_runs {c : D} {n : Nat} {v : Int → Int} (hc : CmpOK c n v) (l : List Int) (hl : l.Pairwise (· < ·)) (hr : ∀ x, x ∈ l → 0 ≤ x ∧ x < n) (hN : l.length ≤ 100000) :
    Runs T 30 [.none, c, ints l] (.tup [.tup [], ints (srt v l)]) := by
  refine .of_tree rfl rfl tr30_eq ?_
  simp [tr30]
  refine ⟨_, blocks_runs hc l hl hr hN, ?_⟩
  simp
end Pool
