/-
  slices.Sort, handed a row of the caller's own: its contract; the table of functions; the sanity function returns true.
-/
import Derived.Test.YtaihcmbfhgmjgaaPoA
import Derived.Test.YtaihcmbfhgmjgaaPoB
import Derived.Test.YtaihcmbfhgmjgaaCyH
import Derived.Sort.OwnSortedInts
set_option linter.unusedSimpArgs false
set_option linter.unusedVariables false
namespace Pool
open Go Go.Proofs Cx Go.RowKit

def ins1 (x : Int) : List Int → List Int
  | [] => [x]
  | y :: l => if x ≤ y then x :: y :: l else y :: ins1 x l
def insSort : List Int → List Int
  | [] => []
  | x :: l => ins1 x (insSort l)
theorem ins1_perm (x : Int) : ∀ l, (ins1 x l).Perm (x :: l)
  | [] => .refl _
  | y :: l => by
    unfold ins1
    split
    · exact .refl _
    · exact ((ins1_perm x l).cons y).trans (.swap x y l)
theorem insSort_perm : ∀ l, (insSort l).Perm l
  | [] => .refl _
  | x :: l => (ins1_perm x _).trans ((insSort_perm l).cons x)
theorem ins1_sorted (x : Int) : ∀ {l : List Int}, l.Pairwise (· ≤ ·) → (ins1 x l).Pairwise (· ≤ ·)
  | [], _ => by simp [ins1]
  | y :: l, h => by
    have h' := List.pairwise_cons.1 h
    unfold ins1
    split
    · rename_i hxy
      refine List.pairwise_cons.2 ⟨fun z hz => ?_, h⟩
      rcases List.mem_cons.1 hz with rfl | hz
      · exact hxy
      · exact Int.le_trans hxy (h'.1 z hz)
    · rename_i hxy
      refine List.pairwise_cons.2 ⟨fun z hz => ?_, ins1_sorted x h'.2⟩
      rcases List.mem_cons.1 ((ins1_perm x l).mem_iff.1 hz) with rfl | hz
      · omega
      · exact h'.1 z hz
theorem insSort_sorted : ∀ l, (insSort l).Pairwise (· ≤ ·)
  | [] => .nil
  | x :: l => ins1_sorted x (insSort_sorted l)
theorem insSort_eq (l : List Int) : (l.mergeSort fun x y => decide (x ≤ y)) = insSort l := by
  have h1 : (l.mergeSort fun x y => decide (x ≤ y)).Pairwise (fun x y => decide (x ≤ y) = true) := List.pairwise_mergeSort (fun a b c h1 h2 => by simp at *; omega) (fun a b => by simp; omega) l
  refine List.Perm.eq_of_pairwise (le := (· ≤ ·)) (fun a b _ _ h1 h2 => by omega) (h1.imp fun h => by simpa using h) (insSort_sorted l) ((List.mergeSort_perm l _).trans (insSort_perm l).symm)
theorem insSort_length (l : List Int) : (insSort l).length = l.length := (insSort_perm l).length_eq

def sortG (ds : List D) : Option D :=
  match ds with
  | [_, .list xs] => if 0 < xs.length ∧ xs.length ≤ 4294967296 then some (.tup [.tup [], ints (insSort (xs.map D.i))]) else none
  | _ => none

theorem sig32 : ctx.sig 32 = some ⟨[.slice (.int .i64)], .tup [], .ob [.obj 0 0] [(0, .row 3 (.int .i64))]⟩ := rfl

theorem sort_ok (ds : List D) (d : D) (h : sortG ds = some d) : FnObOK ctx 32 [.obj 0 0] [(0, .row 3 (.int .i64))] (.tup []) ds d := by
  unfold sortG at h
  split at h
  case h_2 => cases h
  rename_i d0 xs
  split at h
  case isFalse => cases h
  rename_i hlen
  cases h
  intro N σ own hv w args cx hplain hok hC hnd hN hsz hown hcx h1 h2
  obtain ⟨v, rfl⟩ : ∃ v, args = #[v] := by
    match args, hsz with
    | ⟨[v]⟩, _ => exact ⟨v, rfl⟩
  have hv0 : v = hv 0 := (h1 0).2 rfl
  obtain ⟨cells, xs', hx, hrow, ⟨vs, hrep, hcel⟩, hbk⟩ := h2 0
  have hx : D.list xs = D.list xs' := hx
  cases hx
  -- the numbers
  have hnum : ∀ i (hi : i < xs.length), ∃ n, xs[i] = .int n ∧ vs i = .int .i64 n ∧ (IntKind.i64).min ≤ n ∧ n ≤ (IntKind.i64).max := fun i hi => by
    obtain ⟨n, e1, e2, e3, e4⟩ := (hrep i _ (List.getElem?_eq_getElem hi)).int_inv
    exact ⟨n, e2, e1, e3, e4⟩
  have hcells : cells = (xs.map D.i).map (Value.int .i64) := by
    apply List.ext_getElem?
    intro i
    by_cases hi : i < xs.length
    · obtain ⟨n, e1, e2, _⟩ := hnum i hi
      have := hcel i 0 (.int .i64 n) hi (by rw [e2]; rfl)
      have e3 : i * (Ty.int .i64).size + 0 = i := by simp [Ty.size]
      rw [e3] at this
      rw [this, List.getElem?_map, List.getElem?_map, List.getElem?_eq_getElem hi, e1]
      rfl
    · have hl : cells.length = xs.length := by have := hrow.1; simpa [Ty.size] using this
      rw [List.getElem?_eq_none (by omega), List.getElem?_eq_none (by simp; omega)]
  rcases hrow.2 with ⟨_, h0⟩ | ⟨g, cap, cur, e1, e2, e3, e4, e5, e6, e7⟩
  · omega
  have hcs : (Ty.int .i64).size = 1 := rfl
  rw [hcs] at e6 e7
  have hg : g < w.heap.size := (Array.getElem?_eq_some_iff.1 e3).1
  have hgo : own g = some 0 := hbk g (by rw [e1]; rfl)
  obtain ⟨_, _, hgc, hgm⟩ := hown g 0 hgo
  have hzl : (xs.map D.i).length = xs.length := by simp
  have hH : Go.Sort.Holds (Value.int .i64) w g 0 (xs.map D.i).toArray := holds_of_blockI e3 (by rw [hzl, ← hcells, ← e7]; simp)
  have hcall := Try.slices_Sort_int g 0 cap (xs.map D.i) w hH hg (by omega)
  rw [hv0, e1]
  rw [hzl] at hcall
  refine hcall.mono fun e w' hh => ?_
  obtain ⟨rfl, n, os, rfl⟩ := hh
  rw [insSort_eq]
  have hgrow := grownBy_sortedI (w := w) (g := g) (n := n) (os := os) (insSort (xs.map D.i)).toArray
  have hsame : ∀ k, k < w.heap.size → k ≠ g → (Go.Sort.grow (Go.Sort.putRow (Value.int .i64) (Go.Sort.ahead w n) g 0 (insSort (xs.map D.i)).toArray) os).heap[k]? = w.heap[k]? := fun k hk hne => hgrow.block k hk (fun e => hne (by cases e; rfl))
  have hrow' := ownsRow_sortedI (w := w) (base := N) (n := n) (os := os) (ss := xs.map D.i) (ts := insSort (xs.map D.i)) (insSort_length _) e2 e3 (by rw [hzl]; exact e4) e5 (by omega)
  have hcne : ∀ k o x, σ.c k o = some x → k ≠ g := fun k o x hx e => by subst e; rw [hgc o] at hx; cases hx
  have hmne : ∀ k x, σ.m k = some x → k ≠ g := fun k x hx e => by subst e; rw [hgm] at hx; cases hx
  refine ⟨.tuple #[], σ, fun k => if own k = some 0 then some 0 else none, hv, .tup [], [ints (insSort (xs.map D.i))], rfl, rfl, rfl, .refl σ,
    ⟨fun k o x hx => by rw [World.cell?_of_block (hsame k (World.block_lt_of_cell? w (a := ⟨k, o, none⟩) (hok.c k o x hx)) (hcne k o x hx))]; exact hok.c k o x hx, fun k x hx => (hok.m k x hx).keep (hsame k (hok.m k x hx).lt (hmne k x hx))⟩,
    ⟨hgrow.os, hgrow.tape, hgrow.output, hgrow.size, fun k hk => by omega⟩, fun k hk hn => hsame k hk (fun e => by subst e; rw [hgo] at hn; cases hn),
    fun k o x hx => ⟨.inl hx, fun hc => by rw [(hcx k hc).2.2.1 o] at hx; cases hx⟩, fun k x hx => ⟨.inl hx, fun hc => by rw [(hcx k hc).2.2.2] at hx; cases hx⟩, fun k hx => absurd hx (hnd k), fun k j hk => ?_, fun t sh hs hd => ?_, fun j => ?_,
    .tup [] [] [] rfl rfl (fun i t hi => by simp at hi)⟩
  · by_cases ho : own k = some 0
    · obtain ⟨g1, g2, g3, g4⟩ := hown k 0 ho
      exact ⟨g1, Nat.lt_of_lt_of_le g2 hgrow.size, g3, g4, fun _ hn => by rw [ho] at hn; cases hn⟩
    · simp [ho] at hk
  · match t, hs with
    | 0, hs => simp at hs; subst hs; exact ⟨Nat.le_refl _, fun _ => by simp [e1]⟩
    | t + 1, hs => simp at hs
  · show ObjOK ctx _ _ σ _ hv _ N j (bif Nat.beq 0 j then .row 3 (.int .i64) else .dead)
    cases hb : Nat.beq 0 j
    · trivial
    · have hj := Nat.eq_of_beq_eq_true hb
      subst hj
      refine ⟨(insSort (xs.map D.i)).map (Value.int .i64), (insSort (xs.map D.i)).map D.int, rfl, ?_, ⟨fun i => .int .i64 ((insSort (xs.map D.i)).getD i 0), fun i x hx => ?_, fun i j u hi hj => ?_⟩, fun k hk => ?_⟩
      · rw [e1, hcs]
        have e8 : ((insSort (xs.map D.i)).map D.int).length = xs.length := by rw [List.length_map, insSort_length, hzl]
        rw [e8]
        rw [hzl] at hrow'
        exact hrow'
      · rw [List.getElem?_map, Option.map_eq_some_iff] at hx
        obtain ⟨m, hm, rfl⟩ := hx
        have e9 : (insSort (xs.map D.i)).getD i 0 = m := by rw [List.getD_eq_getElem?_getD, hm]; rfl
        show Rep ctx.cap σ (.int .i64) (.int .i64 ((insSort (xs.map D.i)).getD i 0)) _
        rw [e9]
        have hmem : m ∈ xs.map D.i := (insSort_perm _).mem_iff.1 (List.mem_of_getElem? hm)
        obtain ⟨y, hy, rfl⟩ := List.mem_map.1 hmem
        obtain ⟨q, hq, rfl⟩ := List.getElem_of_mem hy
        obtain ⟨n', f1, f2, f3, f4⟩ := hnum q hq
        rw [f1]
        exact .int .i64 n' f3 f4
      · have hj0 : j = 0 := by
          have := (Array.getElem?_eq_some_iff.1 hj).1
          simp [Value.cells] at this; omega
        subst hj0
        simp [Value.cells] at hj
        subst hj
        have hi' : i < (insSort (xs.map D.i)).length := by simpa using hi
        simp [Ty.size, List.getElem?_eq_getElem hi', List.getD_eq_getElem?_getD]
      · rw [e1] at hk
        simp [Value.ownBlock] at hk
        subst hk
        simp [hgo]

/-! an empty row: as it was compiled -/
noncomputable abbrev T0 : Funs' := Tab tab fun _ => none
theorem tabOK0 : TabOK ctx tab fun _ => none := ⟨clos, its, fun f pc _ h => tabs f pc h, fun f g hg => by cases hg⟩
theorem sort0_runs (d0 : D) : Runs T0 32 [d0, .list []] (.tup [.tup [], .list []]) := .of_at (fun f g hg => by cases hg) 60 (by kernel_rfl)
def sortG0 (ds : List D) : Option D :=
  match ds with
  | [_, .list []] => some (.tup [.tup [], .list []])
  | _ => sortG ds
theorem sort_ok0 (ds : List D) (d : D) (h : sortG0 ds = some d) : FnObOK ctx 32 [.obj 0 0] [(0, .row 3 (.int .i64))] (.tup []) ds d := by
  unfold sortG0 at h
  split at h
  case h_2 => exact sort_ok ds d h
  cases h
  obtain ⟨n0, hn⟩ := sort0_runs _
  exact ((Tab_ok tabOK0 n0).1 32 _ _ (hn n0 (Nat.le_refl _)) _ sig32).2 _ _ rfl

def extL : List (Nat × (Funs → List D → Option D)) := [(32, fun _ ds => sortG0 ds)]
def ext : Nat → Option (Funs → List D → Option D) := lookL extL
theorem tabOK : TabOK ctx tab ext := by
  refine ⟨clos, its, fun f pc _ h => tabs f pc h, fun f g hg Φ _ _ ds d h => ?_⟩
  have := look_all (R := fun f (g : Funs → List D → Option D) => ∀ Φ ds d, g Φ ds = some d → (∀ s, ctx.sig f = some s → FnAny ctx f s ds d) ∧ ctx.cap f = none) (l := extL)
    ⟨fun _ ds d h => ⟨fun s hs => by rw [sig32] at hs; cases hs; exact ⟨(fun hm => by cases hm), fun shs obs hm => by cases hm; exact sort_ok0 ds d h⟩, rfl⟩, trivial⟩ f g hg Φ ds d h
  exact ⟨this.1, fun cs ys hc _ => by rw [this.2] at hc; cases hc⟩
noncomputable abbrev T : Funs' := Tab tab ext
theorem ext_mono : ∀ f g, ext f = some g → ∀ Φ Ψ, Le Φ Ψ → ∀ ds d, g Φ ds = some d → g Ψ ds = some d := fun f g hg =>
  look_all (R := fun _ (g : Funs → List D → Option D) => ∀ Φ Ψ, Le Φ Ψ → ∀ ds d, g Φ ds = some d → g Ψ ds = some d) (l := extL) ⟨fun _ _ _ _ _ h => h, trivial⟩ f g hg
theorem sort_runs (l : List Int) (h : l.length ≤ 4294967296) : Runs T 32 [.none, ints l] (.tup [.tup [], ints (insSort l)]) := by
  refine .of_ext (g := fun _ ds => sortG0 ds) rfl ⟨0, fun _ _ => ?_⟩
  cases l with
  | nil => rfl
  | cons x l =>
    have he : ((x :: l).map D.int).map D.i = x :: l := by rw [List.map_map]; exact List.map_id _
    show (if 0 < ((x :: l).map D.int).length ∧ ((x :: l).map D.int).length ≤ 4294967296 then some (D.tup [.tup [], ints (insSort (((x :: l).map D.int).map D.i))]) else none) = _
    rw [he, if_pos ⟨by simp, by simpa using h⟩]
theorem sane_runs : Runs T 8 [] (.v (.bool true)) := .of_at ext_mono 200 (by kernel_rfl)
end Pool
