/-
  Data as Lean's own: integers, lists; small laws for what the pure language computes.
-/
import Derived.Test.YtaihcmbfhgmjgaaCyI
set_option linter.unusedSimpArgs false
set_option linter.unusedVariables false
namespace Cx
open Go Go.RowKit

def I64 (n : Int) : Prop := -9223372036854775808 ≤ n ∧ n ≤ 9223372036854775807
def ints (l : List Int) : D := .list (l.map .int)

theorem wrap64_id {n : Int} (h : -9223372036854775808 ≤ n ∧ n ≤ 9223372036854775807) : IntKind.i64.wrap n = n := by
  simp only [IntKind.wrap, IntKind.signed, IntKind.bits]; simp; split <;> omega
theorem DTy.int_inv {k : IntKind} {d : D} (h : DTy (.int k) d) : ∃ n, d = .v (.int k n) ∧ k.min ≤ n ∧ n ≤ k.max := by
  cases h with
  | int k n h1 h2 => exact ⟨n, rfl, h1, h2⟩
  | other t d h => exact h.elim
theorem DTy.i64_inv {d : D} (h : DTy (.int .i64) d) : ∃ n, d = .int n ∧ I64 n := by
  obtain ⟨n, rfl, h1, h2⟩ := h.int_inv
  exact ⟨n, rfl, by simpa [IntKind.min, IntKind.max, IntKind.signed, IntKind.bits] using h1, by simpa [IntKind.min, IntKind.max, IntKind.signed, IntKind.bits] using h2⟩
theorem DTy.bool_inv {d : D} (h : DTy .bool d) : ∃ b, d = .bool b := by
  cases h with
  | bool b => exact ⟨b, rfl⟩
  | other t d h => exact h.elim
theorem DTy.slice_inv {e : Ty} {d : D} (h : DTy (.slice e) d) : ∃ xs, d = .list xs ∧ xs.length ≤ maxLen ∧ ∀ x, x ∈ xs → DTy e.unf x := by
  cases h with
  | slice e xs hm h => exact ⟨xs, rfl, hm, h⟩
  | other t d h => exact h.elim
theorem DTy.agg_inv {ts : List Ty} {d : D} (h : DTy (.agg ts) d) : ∃ ds, d = .agg ds ∧ DTys ts ds := by
  cases h with
  | agg ts ds h => exact ⟨ds, rfl, h⟩
  | other t d h => exact h.elim
theorem DTys.cons_inv {t : Ty} {ts : List Ty} {ds : List D} (h : DTys (t :: ts) ds) : ∃ d ds', ds = d :: ds' ∧ DTy t d ∧ DTys ts ds' := by
  cases h with
  | cons h hs => exact ⟨_, _, rfl, h, hs⟩
theorem DTys.nil_inv {ds : List D} (h : DTys [] ds) : ds = [] := by cases h; rfl

/-- a list, read element by element -/
theorem list_inv {α : Type} {enc : α → D} {P : α → Prop} {xs : List D} (h : ∀ x, x ∈ xs → ∃ a, x = enc a ∧ P a) : ∃ l : List α, xs = l.map enc ∧ ∀ a, a ∈ l → P a := by
  induction xs with
  | nil => exact ⟨[], rfl, fun _ h => nomatch h⟩
  | cons x xs ih =>
    obtain ⟨l, hl, hp⟩ := ih fun y hy => h y (List.mem_cons_of_mem _ hy)
    obtain ⟨a, ha, pa⟩ := h x (List.mem_cons_self ..)
    exact ⟨a :: l, by rw [hl, ha]; rfl, fun b hb => by
      rcases List.mem_cons.1 hb with e | hb
      · rw [e]; exact pa
      · exact hp b hb⟩
theorem DTy.ints_inv {d : D} (h : DTy (.slice (.int .i64)) d) : ∃ l : List Int, d = ints l ∧ l.length ≤ maxLen ∧ ∀ x, x ∈ l → I64 x := by
  obtain ⟨xs, rfl, hm, hx⟩ := h.slice_inv
  obtain ⟨l, rfl, hl⟩ := list_inv (enc := D.int) (P := I64) fun x hh => (hx x hh).i64_inv
  exact ⟨l, rfl, by simpa using hm, hl⟩

theorem ints_l (l : List Int) : (ints l).l = l.map .int := rfl
theorem maxLen_eq : maxLen = 9223372036854775807 := rfl

theorem getD_map {α : Type} (f : α → D) (l : List α) (i : Nat) (d : D) (h : i < l.length) : (l.map f).getD i d = f l[i] := by
  rw [List.getD_eq_getElem?_getD, List.getElem?_map, List.getElem?_eq_getElem h]; rfl

/-! rules -/
section
variable (ρ : Env) (T : Funs')
@[simp] theorem ev_r (t : Nat) : PE.ev ρ (.r t) = ρ.r t := _root_.id rfl
@[simp] theorem ev_o (t : Nat) : PE.ev ρ (.o t) = ρ.o t := _root_.id rfl
@[simp] theorem ev_con (d : D) : PE.ev ρ (.con d) = d := _root_.id rfl
@[simp] theorem ev_cell (e : PE) (i : Nat) : PE.ev ρ (.cell e i) = (PE.ev ρ e).c i := _root_.id rfl
@[simp] theorem ev_sub (e : PE) (a n : Nat) : PE.ev ρ (.sub e a n) = .agg (((PE.ev ρ e).cells.drop a).take n) := _root_.id rfl
@[simp] theorem ev_setc (e x : PE) (n : Nat) : PE.ev ρ (.setc e n x) = .agg (splice (PE.ev ρ e).cells n (PE.ev ρ x).cells) := _root_.id rfl
@[simp] theorem ev_mk (es : List PE) : PE.ev ρ (.mk es) = .agg (PE.evc ρ es) := _root_.id rfl
@[simp] theorem ev_ai (op : BinOp) (k : IntKind) (x y : PE) : PE.ev ρ (.ai op k x y) = .v (.int k (arI op k (PE.ev ρ x).i (PE.ev ρ y).i)) := _root_.id rfl
@[simp] theorem ev_ci (op : BinOp) (x y : PE) : PE.ev ρ (.ci op x y) = .v (.bool (cmI op (PE.ev ρ x).i (PE.ev ρ y).i)) := _root_.id rfl
@[simp] theorem ev_cb (op : BinOp) (x y : PE) : PE.ev ρ (.cb op x y) = .v (.bool (cmB op (PE.ev ρ x).b (PE.ev ρ y).b)) := _root_.id rfl
@[simp] theorem ev_cs (op : BinOp) (x y : PE) : PE.ev ρ (.cs op x y) = .v (.bool (cmS op (PE.ev ρ x).s (PE.ev ρ y).s)) := _root_.id rfl
@[simp] theorem ev_nt (x : PE) : PE.ev ρ (.nt x) = .v (.bool (!(PE.ev ρ x).b)) := _root_.id rfl
@[simp] theorem ev_conv (k : IntKind) (x : PE) : PE.ev ρ (.conv k x) = .v (.int k (k.wrap (PE.ev ρ x).i)) := _root_.id rfl
@[simp] theorem ev_pick (c a b : PE) : PE.ev ρ (.pick c a b) = if (PE.ev ρ c).b = true then PE.ev ρ a else PE.ev ρ b := by
  simp only [PE.ev]; cases (PE.ev ρ c).b <;> rfl
@[simp] theorem ev_mkA' (n : Nat) (e : PE) : PE.ev ρ (mkA n e) = allc n (PE.ev ρ e) := ev_mkA ρ n e
@[simp] theorem ev_llen (x : PE) : PE.ev ρ (.llen x) = .v (.int .i64 (PE.ev ρ x).l.length) := _root_.id rfl
@[simp] theorem ev_slen (x : PE) : PE.ev ρ (.slen x) = .v (.int .i64 (PE.ev ρ x).s.size) := _root_.id rfl
@[simp] theorem ev_mlen (x : PE) : PE.ev ρ (.mlen x) = .v (.int .i64 (PE.ev ρ x).m.length) := _root_.id rfl
@[simp] theorem ev_nth (x i : PE) : PE.ev ρ (.nth x i) = (PE.ev ρ x).l.getD (PE.ev ρ i).i.toNat .none := _root_.id rfl
@[simp] theorem ev_idx (x i : PE) : PE.ev ρ (.idx x i) = .v (.bool (decide (0 ≤ (PE.ev ρ i).i ∧ (PE.ev ρ i).i < (PE.ev ρ x).l.length))) := _root_.id rfl
@[simp] theorem ev_setn (x i y : PE) (n : Nat) : PE.ev ρ (.setn x i n y) = .list ((PE.ev ρ x).l.set (PE.ev ρ i).i.toNat (spliceD ((PE.ev ρ x).l.getD (PE.ev ρ i).i.toNat .none) n (PE.ev ρ y))) := _root_.id rfl
@[simp] theorem ev_app (x y : PE) : PE.ev ρ (.app x y) = .list ((PE.ev ρ x).l ++ (PE.ev ρ y).l) := _root_.id rfl
@[simp] theorem ev_lst (es : List PE) : PE.ev ρ (.lst es) = .list (PE.evs ρ es) := _root_.id rfl
@[simp] theorem ev_rep (x y : PE) : PE.ev ρ (.rep x y) = .list (List.replicate (PE.ev ρ x).i.toNat (PE.ev ρ y)) := _root_.id rfl
@[simp] theorem ev_slc (x a b : PE) : PE.ev ρ (.slc x a b) = .list (((PE.ev ρ x).l.take (PE.ev ρ b).i.toNat).drop (PE.ev ρ a).i.toNat) := _root_.id rfl
@[simp] theorem ev_slok (x a b : PE) : PE.ev ρ (.slok x a b) = .v (.bool (decide (0 ≤ (PE.ev ρ a).i ∧ (PE.ev ρ a).i ≤ (PE.ev ρ b).i ∧ (PE.ev ρ b).i ≤ (PE.ev ρ x).l.length))) := _root_.id rfl
@[simp] theorem ev_ref (x : PE) : PE.ev ρ (.ref x) = .ref (PE.ev ρ x) := _root_.id rfl
@[simp] theorem ev_deref (x : PE) : PE.ev ρ (.deref x) = (PE.ev ρ x).deref := _root_.id rfl
@[simp] theorem ev_look (m k z : PE) : PE.ev ρ (.look m k z) = (lookM (PE.ev ρ k) (PE.ev ρ m).m).getD (PE.ev ρ z) := _root_.id rfl
@[simp] theorem ev_has (m k : PE) : PE.ev ρ (.has m k) = .v (.bool (lookM (PE.ev ρ k) (PE.ev ρ m).m).isSome) := _root_.id rfl
@[simp] theorem ev_put (m k v : PE) : PE.ev ρ (.put m k v) = .map (putM (PE.ev ρ k) (PE.ev ρ v) (PE.ev ρ m).m) := _root_.id rfl
@[simp] theorem ev_mn (x y : PE) : PE.ev ρ (.mn x y) = if (PE.ev ρ y).i < (PE.ev ρ x).i then PE.ev ρ y else PE.ev ρ x := by
  simp only [PE.ev]; by_cases h : (PE.ev ρ y).i < (PE.ev ρ x).i <;> simp [h]
@[simp] theorem ev_mx (x y : PE) : PE.ev ρ (.mx x y) = if (PE.ev ρ y).i > (PE.ev ρ x).i then PE.ev ρ y else PE.ev ρ x := by
  simp only [PE.ev]; by_cases h : (PE.ev ρ y).i > (PE.ev ρ x).i <;> simp [h]
@[simp] theorem ev_tup (es : List PE) : PE.ev ρ (.tup es) = .tup (PE.evs ρ es) := _root_.id rfl
@[simp] theorem ev_tget (x : PE) (i : Nat) : PE.ev ρ (.tget x i) = (PE.ev ρ x).tget i := _root_.id rfl
@[simp] theorem ev_clo (f : Nat) (es : List PE) : PE.ev ρ (.clo f es) = .clo f (PE.evs ρ es) := _root_.id rfl
@[simp] theorem ev_an (x y : PE) : PE.ev ρ (.an x y) = .v (.bool ((PE.ev ρ x).b && (PE.ev ρ y).b)) := _root_.id rfl
@[simp] theorem ev_imp (c : List (Nat × Bool)) (x : PE) : PE.ev ρ (.imp c x) = .v (.bool (!holds c ρ || (PE.ev ρ x).b)) := _root_.id rfl
@[simp] theorem evs_nil : PE.evs ρ [] = [] := _root_.id rfl
@[simp] theorem evs_cons (e : PE) (es : List PE) : PE.evs ρ (e :: es) = PE.ev ρ e :: PE.evs ρ es := _root_.id rfl
@[simp] theorem evc_nil : PE.evc ρ [] = [] := _root_.id rfl
@[simp] theorem evc_cons (e : PE) (es : List PE) : PE.evc ρ (e :: es) = (PE.ev ρ e).cells ++ PE.evc ρ es := _root_.id rfl
@[simp] theorem dv_bool (x : Bool) : (D.v (.bool x)).b = x := _root_.id rfl
@[simp] theorem dbool_b (x : Bool) : (D.bool x).b = x := _root_.id rfl
@[simp] theorem dv_int (k : IntKind) (n : Int) : (D.v (.int k n)).i = n := _root_.id rfl
@[simp] theorem dint_i (n : Int) : (D.int n).i = n := _root_.id rfl
@[simp] theorem dlist_l (x : List D) : (D.list x).l = x := _root_.id rfl
@[simp] theorem dints_l (l : List Int) : (ints l).l = l.map .int := _root_.id rfl
@[simp] theorem dmap_m (x : List (D × D)) : (D.map x).m = x := _root_.id rfl
@[simp] theorem dagg_c (x : List D) (i : Nat) : (D.agg x).c i = x.getD i .none := _root_.id rfl
@[simp] theorem dagg_cells (x : List D) : (D.agg x).cells = x := _root_.id rfl
@[simp] theorem dlist_cells (x : List D) : (D.list x).cells = [.list x] := _root_.id rfl
@[simp] theorem dints_cells (x : List Int) : (ints x).cells = [ints x] := _root_.id rfl
@[simp] theorem dint_cells (n : Int) : (D.int n).cells = [.int n] := _root_.id rfl
@[simp] theorem dbool_cells (n : Bool) : (D.bool n).cells = [.bool n] := _root_.id rfl
@[simp] theorem dv_cells (x : Value) : (D.v x).cells = [.v x] := _root_.id rfl
@[simp] theorem dmap_cells (x : List (D × D)) : (D.map x).cells = [.map x] := _root_.id rfl
@[simp] theorem dtup_tget (x : List D) (i : Nat) : (D.tup x).tget i = x.getD i .none := _root_.id rfl
@[simp] theorem dref_deref (x : D) : (D.ref x).deref = x := _root_.id rfl
@[simp] theorem se_r (s : SE) (t : Nat) : (s.ev ρ).r t = PE.ev ρ (s.getR t) := _root_.id rfl
@[simp] theorem se_o (s : SE) (t : Nat) : (s.ev ρ).o t = PE.ev ρ (s.getO t) := _root_.id rfl
@[simp] theorem getR_nil (o : List (Nat × PE)) (u : Nat) : SE.getR ⟨[], o⟩ u = .r u := _root_.id rfl
@[simp] theorem getR_cons (t : Nat) (e : PE) (r o : List (Nat × PE)) (u : Nat) : SE.getR ⟨(t, e) :: r, o⟩ u = if t = u then e else SE.getR ⟨r, o⟩ u := by
  simp only [SE.getR, lookL]
  by_cases h : t = u
  · subst h; simp
  · simp [beq_ne h, h]
@[simp] theorem getO_nil (r : List (Nat × PE)) (u : Nat) : SE.getO ⟨r, []⟩ u = .o u := _root_.id rfl
@[simp] theorem getO_cons (t : Nat) (e : PE) (r o : List (Nat × PE)) (u : Nat) : SE.getO ⟨r, (t, e) :: o⟩ u = if t = u then e else SE.getO ⟨r, o⟩ u := by
  simp only [SE.getO, lookL]
  by_cases h : t = u
  · subst h; simp
  · simp [beq_ne h, h]
@[simp] theorem setR_r (t u : Nat) (d : D) : (ρ.setR t d).r u = if u = t then d else ρ.r u := Env.setR_r ρ t u d
@[simp] theorem setR_o (t u : Nat) (d : D) : (ρ.setR t d).o u = ρ.o u := _root_.id rfl
@[simp] theorem setO_o (t u : Nat) (d : D) : (ρ.setO t d).o u = if u = t then d else ρ.o u := Env.setO_o ρ t u d
@[simp] theorem setO_r (t u : Nat) (d : D) : (ρ.setO t d).r u = ρ.r u := _root_.id rfl
@[simp] theorem put_r (lr lo : List Nat) (vr vo : List D) (u : Nat) : (ρ.put lr vr lo vo).r u = putL ρ.r lr vr u := _root_.id rfl
@[simp] theorem put_o (lr lo : List Nat) (vr vo : List D) (u : Nat) : (ρ.put lr vr lo vo).o u = putL ρ.o lo vo u := _root_.id rfl
@[simp] theorem join_r (ρ' : Env) (lr lo : List Nat) (u : Nat) : (ρ.join lr lo ρ').r u = if u ∈ lr then ρ'.r u else ρ.r u := Env.join_r ρ ρ' lr lo u
@[simp] theorem join_o (ρ' : Env) (lr lo : List Nat) (u : Nat) : (ρ.join lr lo ρ').o u = if u ∈ lo then ρ'.o u else ρ.o u := Env.join_o ρ ρ' lr lo u
@[simp] theorem putL_cons' (f : Nat → D) (i : Nat) (is : List Nat) (x : D) (xs : List D) (u : Nat) : putL f (i :: is) (x :: xs) u = if u = i then x else putL f is xs u := putL_cons f i is x xs u
@[simp] theorem putL_nil' (f : Nat → D) (xs : List D) (u : Nat) : putL f [] xs u = f u := putL_nil f xs u
@[simp] theorem env0_r' (ds : List D) (u : Nat) : (env0 ds).r u = ds.getD u .none := _root_.id rfl
@[simp] theorem env0_o' (ds : List D) (u : Nat) : (env0 ds).o u = .none := _root_.id rfl
@[simp] theorem holds_nil' : holds [] ρ = true := _root_.id rfl
@[simp] theorem holds_cons' (g : Nat × Bool) (gs : List (Nat × Bool)) : holds (g :: gs) ρ = ((ρ.r g.1).b == g.2 && holds gs ρ) := _root_.id rfl
variable (Q : Out → Prop)
@[simp] theorem wp_next (s : SE) : PTwp T (.next s) ρ Q = Q (.next (s.ev ρ)) := _root_.id rfl
@[simp] theorem wp_exit' (id : Nat) (s : SE) : PTwp T (.exit id s) ρ Q = Q (.exit id (s.ev ρ)) := _root_.id rfl
@[simp] theorem wp_ret' (e : PE) : PTwp T (.ret e) ρ Q = Q (.ret (e.ev ρ)) := _root_.id rfl
@[simp] theorem wp_chk (e : PE) (k : PT) : PTwp T (.chk e k) ρ Q = ((e.ev ρ).b = true ∧ PTwp T k ρ Q) := _root_.id rfl
@[simp] theorem wp_ite (c : PE) (a b : PT) : PTwp T (.ite c a b) ρ Q = if (c.ev ρ).b = true then PTwp T a ρ Q else PTwp T b ρ Q := _root_.id rfl
@[simp] theorem wp_call (s : SE) (gs : List (Nat × Bool)) (dst f : Nat) (args : List PE) (k : PT) : PTwp T (.call s gs dst f args k) ρ Q = if holds gs (s.ev ρ) = true then ∃ d, Runs T f (PE.evs (s.ev ρ) args) d ∧ PTwp T k ((s.ev ρ).setR dst d) Q else PTwp T k (s.ev ρ) Q := _root_.id rfl
@[simp] theorem wp_mcall (s : SE) (j f : Nat) (args : List PE) (k : PT) : PTwp T (.mcall s j f args k) ρ Q = ∃ d, Runs T f (PE.evs (s.ev ρ) args) d ∧ PTwp T k ((s.ev ρ).setO j d) Q := _root_.id rfl
@[simp] theorem wp_iteS (s : SE) (c : PE) (lr lo : List Nat) (a b k : PT) : PTwp T (.iteS s c lr lo a b k) ρ Q = if (c.ev (s.ev ρ)).b = true then PTwp T a (s.ev ρ) (joinQ (s.ev ρ) lr lo (seqQ (fun ρ' => PTwp T k ρ' Q) Q)) else PTwp T b (s.ev ρ) (joinQ (s.ev ρ) lr lo (seqQ (fun ρ' => PTwp T k ρ' Q) Q)) := _root_.id rfl
@[simp] theorem wp_blockS (s : SE) (id : Nat) (lr lo : List Nat) (a k : PT) : PTwp T (.blockS s id lr lo a k) ρ Q = PTwp T a (s.ev ρ) (blockQ (s.ev ρ) id lr lo (seqQ (fun ρ' => PTwp T k ρ' Q) Q)) := _root_.id rfl
@[simp] theorem wp_brk (s : SE) (c : PC) (k : PT) : PTwp T (.brk s c k) ρ Q = EvP T c (s.ev ρ) (seqQ (fun ρ' => PTwp T k ρ' Q) Q) := _root_.id rfl
variable (K : Env → Prop) (id : Nat) (lr lo lrb lob : List Nat) (K2 : List D → List D → Prop)
@[simp] theorem seqQ_next (ρ' : Env) : seqQ K Q (.next ρ') = K ρ' := _root_.id rfl
@[simp] theorem seqQ_exit (i : Nat) (ρ' : Env) : seqQ K Q (.exit i ρ') = Q (.exit i ρ') := _root_.id rfl
@[simp] theorem seqQ_ret (d : D) : seqQ K Q (.ret d) = Q (.ret d) := _root_.id rfl
@[simp] theorem joinQ_next (ρ' : Env) : joinQ ρ lr lo Q (.next ρ') = Q (.next (ρ.join lr lo ρ')) := _root_.id rfl
@[simp] theorem joinQ_exit (i : Nat) (ρ' : Env) : joinQ ρ lr lo Q (.exit i ρ') = Q (.exit i ρ') := _root_.id rfl
@[simp] theorem joinQ_ret (d : D) : joinQ ρ lr lo Q (.ret d) = Q (.ret d) := _root_.id rfl
@[simp] theorem blockQ_next (ρ' : Env) : blockQ ρ id lr lo Q (.next ρ') = Q (.next (ρ.join lr lo ρ')) := _root_.id rfl
@[simp] theorem blockQ_exit (i : Nat) (ρ' : Env) : blockQ ρ id lr lo Q (.exit i ρ') = if i = id then Q (.next (ρ.join lr lo ρ')) else Q (.exit i ρ') := _root_.id rfl
@[simp] theorem blockQ_ret (d : D) : blockQ ρ id lr lo Q (.ret d) = Q (.ret d) := _root_.id rfl
@[simp] theorem roundQ_next (ρ' : Env) : roundQ ρ id lrb lob lr lo K2 Q (.next ρ') = K2 (lr.map ρ'.r) (lo.map ρ'.o) := _root_.id rfl
@[simp] theorem roundQ_exit (i : Nat) (ρ' : Env) : roundQ ρ id lrb lob lr lo K2 Q (.exit i ρ') = if i = id then Q (.next (ρ.put lrb (lrb.map ρ'.r) lob (lob.map ρ'.o))) else Q (.exit i ρ') := _root_.id rfl
@[simp] theorem roundQ_ret (d : D) : roundQ ρ id lrb lob lr lo K2 Q (.ret d) = Q (.ret d) := _root_.id rfl
@[simp] theorem wp_callc (s : SE) (gs : List (Nat × Bool)) (dst : Nat) (e : PE) (args : List PE) (k : PT) : PTwp T (.callc s gs dst e args k) ρ Q = if holds gs (s.ev ρ) = true then ∃ f caps d, e.ev (s.ev ρ) = .clo f caps ∧ Runs T f (PE.evs (s.ev ρ) args ++ caps) d ∧ PTwp T k ((s.ev ρ).setR dst d) Q else PTwp T k (s.ev ρ) Q := _root_.id rfl
@[simp] theorem eachQ_next (rt : Option PE) (K3 : List D → Prop) (ρ' : Env) : eachQ ρ lo rt K3 Q (.next ρ') = K3 (lo.map ρ'.o) := _root_.id rfl
@[simp] theorem eachQ_exit (rt : Option PE) (K3 : List D → Prop) (i : Nat) (ρ' : Env) : eachQ ρ lo rt K3 Q (.exit i ρ') = if i = retId then ∃ e, rt = some e ∧ Q (.ret (e.ev (ρ.put [] [] lo (lo.map ρ'.o)))) else Q (.exit i (ρ.put [] [] lo (lo.map ρ'.o))) := _root_.id rfl
@[simp] theorem envI_r (J : Nat) (ds : List D) (u : Nat) : (envI J ds).r u = (D.none :: ds).getD u .none := _root_.id rfl
theorem envI_o (J : Nat) (ds : List D) (u : Nat) : (envI J ds).o u = if u = J then .list [] else .none := by
  show (bif Nat.beq u J then D.list [] else .none) = _
  by_cases h : u = J
  · subst h; simp
  · simp [beq_ne h, h]
@[simp] theorem partsOf_cons1 (p : Nat) (x : D) : partsOf [p] x = [x.tget 0] := _root_.id rfl
@[simp] theorem partsOf_cons2 (p q : Nat) (x : D) : partsOf [p, q] x = [x.tget 0, x.tget 1] := _root_.id rfl
end
section
variable (k : IntKind) (a b : Int)
@[simp] theorem ar_add : arI .add k a b = k.wrap (a + b) := _root_.id rfl
@[simp] theorem ar_sub : arI .sub k a b = k.wrap (a - b) := _root_.id rfl
@[simp] theorem ar_mul : arI .mul k a b = k.wrap (a * b) := _root_.id rfl
@[simp] theorem ar_quo : arI .quo k a b = k.wrap (a.tdiv b) := _root_.id rfl
@[simp] theorem ar_rem : arI .rem k a b = a.tmod b := _root_.id rfl
@[simp] theorem cm_eql : cmI .eql a b = (a == b) := _root_.id rfl
@[simp] theorem cm_neq : cmI .neq a b = (a != b) := _root_.id rfl
@[simp] theorem cm_lss : cmI .lss a b = decide (a < b) := _root_.id rfl
@[simp] theorem cm_leq : cmI .leq a b = decide (a ≤ b) := _root_.id rfl
@[simp] theorem cm_gtr : cmI .gtr a b = decide (a > b) := _root_.id rfl
@[simp] theorem cm_geq : cmI .geq a b = decide (a ≥ b) := _root_.id rfl
variable (x y : Bool)
@[simp] theorem cb_eql : cmB .eql x y = (x == y) := _root_.id rfl
@[simp] theorem cb_neq : cmB .neq x y = (!(x == y)) := _root_.id rfl
end
theorem Runs.of_tree {tab : Nat → Option PC} {ext : Nat → Option (Funs → List D → Option D)} {f : Nat} {pc : PC} {t : PT} {ds : List D} {d : D} (hx : ext f = none) (ht : tab f = some pc) (he : tree pc = t) (h : PTwp (Tab tab ext) t (env0 ds) (fun x => x = .ret d)) : Runs (Tab tab ext) f ds d :=
  .of_pc hx ht (tree_ok (he ▸ h))

@[simp] theorem dint_mk (n : Int) : D.v (.int .i64 n) = D.int n := _root_.id rfl
@[simp] theorem dbool_mk (b : Bool) : D.v (.bool b) = D.bool b := _root_.id rfl
@[simp] theorem dint_inj (a b : Int) : (D.int a = D.int b) = (a = b) := by
  apply propext; constructor
  · intro h; injection h with h; injection h
  · intro h; rw [h]
@[simp] theorem dbool_inj (a b : Bool) : (D.bool a = D.bool b) = (a = b) := by
  apply propext; constructor
  · intro h; injection h with h; injection h
  · intro h; rw [h]
@[simp] theorem wrap64_nat (n : Nat) (h : n ≤ 9223372036854775807) : IntKind.i64.wrap (n : Int) = n := wrap64_id (by omega)
theorem getD_nat {α : Type} (f : α → D) (l : List α) (i : Nat) (z : α) (h : i < l.length) : (l.map f)[i]?.getD .none = f (l.getD i z) := by
  rw [List.getElem?_map, List.getD_eq_getElem?_getD, List.getElem?_eq_getElem h]; rfl

section
variable (c : Prop) [Decidable c] (x y : D)
@[simp] theorem ite_b : (if c then x else y).b = if c then x.b else y.b := by split <;> rfl
@[simp] theorem ite_i : (if c then x else y).i = if c then x.i else y.i := by split <;> rfl
@[simp] theorem ite_l : (if c then x else y).l = if c then x.l else y.l := by split <;> rfl
end
@[simp] theorem wrap64_one : IntKind.i64.wrap 1 = 1 := wrap64_id (by omega)
@[simp] theorem wrap64_zero : IntKind.i64.wrap 0 = 0 := wrap64_id (by omega)

theorem leq_lim {n : Nat} (h : n ≤ 4294967296) : cmI .leq (n : Int) 4294967296 = true := by
  have : (n : Int) ≤ 4294967296 := by omega
  simp only [cmI]; exact decide_eq_true this
end Cx
