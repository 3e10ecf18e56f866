/-
  Objects: made, frozen, moved to another name.
-/
import Derived.Test.YtaihcmbfhgmjgaaCxL
set_option linter.unusedSimpArgs false
set_option linter.unusedVariables false
namespace Cx
open Go Go.RowKit

def homeId (b i : Nat) : Nat := 4096 * (i + 1) + b

/-- an object of one's own becomes a datum -/
def St.fz (S : St) (j : Nat) : St :=
  match S.o j with
  | .row _ e => S.setO j (.fz (.slice e.rol))
  | .mp k e => S.setO j (.fz (.map k e))
  | _ => S

def freezeBox (S : St) (b : Nat) : Option (St × List PI) :=
  match S.o b with
  | .box ag shs =>
    (cellPEs S b shs 0).bind fun x =>
      bif ag then some (S.setO b (.fbox (.agg x.1)), [.setO b (.mk x.2)])
      else match x.1, x.2 with
        | [t], [e] => some (S.setO b (.fbox t), [.setO b e])
        | _, _ => Option.none
  | _ => Option.none

/-- an object gets another name -/
def St.mv (S : St) (j j' : Nat) : St :=
  { S with o := upd (upd S.o j' (S.o j)) j .dead, ver := upd (upd S.ver j' (S.ver j' + 1)) j (S.ver j + 1) }

def isRowOrMp : Ob → Bool
  | .row .. => true
  | .mp .. => true
  | _ => false

def rehomeReg (S : St) (t j' : Nat) : Option (St × List PI) :=
  match S.r t with
  | .obj j ver =>
    bif Nat.beq ver (S.ver j) && isRowOrMp (S.o j) && !Nat.beq j j' then some ((S.mv j j').setR t (.obj j' (S.ver j' + 1)), [.setO j' (.o j)])
    else some (S, [])
  | _ => some (S, [])

def rehomeCell (S : St) (b i j' : Nat) : Option (St × List PI) :=
  match S.o b with
  | .box ag shs =>
    match shs[i]? with
    | some (.obj j ver) =>
      bif Nat.beq ver (S.ver j) && isRowOrMp (S.o j) && !Nat.beq j j' && !Nat.beq b j' && !Nat.beq b j then
        some ((S.mv j j').setO b (.box ag (shs.set i (.obj j' (S.ver j' + 1)))), [.setO j' (.o j)])
      else some (S, [])
    | _ => some (S, [])
  | _ => some (S, [])

/-- a cell that is known to be nil becomes a row of one's own -/
def homeCell (C : Ctx) (S : St) (b i j : Nat) (T : TypeId) : Option (St × List PI) :=
  match S.o b with
  | .box ag shs =>
    match shs[i]?, tyD C.P T with
    | some (.dat (.nils _)), some e =>
      bif !Nat.beq b j then some ((S.newO j (.row T e)).setO b (.box ag (shs.set i (.obj j (S.ver j + 1)))), [.setO j (.con (.list []))])
      else some (S, [])
    | _, _ => some (S, [])
  | _ => some (S, [])

section
variable {C : Ctx} {S : St} {ρ : Env} {σ : Im} {own : Nat → Option Nat} {hv : Nat → Value} {w0 : World} {σ0 : Base} {A : Nat → Prop} {a : Act} {w : World} {gs : List (Nat × Bool)} {Φ : Funs} {dst : Nat}

theorem Inv.lt (h : Inv C S ρ σ own hv w0 σ0 A a w) {k o : Nat} {u : Value} (hc : σ.c k o = some u) : k < w.heap.size := World.block_lt_of_cell? w (a := ⟨k, o, none⟩) (h.ok.c _ _ _ hc)
theorem Inv.ltm (h : Inv C S ρ σ own hv w0 σ0 A a w) {k : Nat} {es : List (Value × Value)} (hc : σ.m k = some es) : k < w.heap.size := by
  exact (h.ok.m _ _ hc).lt

theorem Im.ok.below {σ : Im} {w w' : World} (h : σ.ok w) (hb : Below w.heap.size w w') : σ.ok w' := by
  refine ⟨fun k o v hc => ?_, fun k es hc => ?_⟩
  · have h1 := h.c k o v hc
    rw [hb.cell (World.block_lt_of_cell? w (a := ⟨k, o, none⟩) h1)]; exact h1
  · exact (h.m k es hc).keep (hb.block k (h.m k es hc).lt)

def ownNew (own : Nat → Option Nat) (j : Nat) (nb : Nat → Bool) : Nat → Option Nat := fun k => if nb k then some j else if own k = some j then none else own k

/-- A new object in new memory. -/
theorem Inv.newOσ (h : Inv C S ρ σ own hv w0 σ0 A a w) (j : Nat) (ob : Ob) (d : D) (v : Value) (nb : Nat → Bool) {σ' : Im} {w' : World} (hle : σ.le σ') (hok : σ'.ok w') (hnc : ∀ k o x, σ'.c k o = some x → σ.c k o = some x ∨ w.heap.size ≤ k) (hnm : ∀ k x, σ'.m k = some x → σ.m k = some x ∨ w.heap.size ≤ k)
    (hw : Below w.heap.size w w') (hnb : ∀ k, nb k = true → w.heap.size ≤ k ∧ k < w'.heap.size) (hfr : ∀ k, nb k = true → (∀ o, σ'.c k o = none) ∧ σ'.m k = none)
    (hob : ObjOK C (S.newO j ob) (ρ.setO j d) σ' (ownNew own j nb) (upd hv j v) w' w0.heap.size j ob) (hnt : ob ≠ .tr := by intro h; cases h) : Inv C (S.newO j ob) (ρ.setO j d) σ' (ownNew own j nb) (upd hv j v) w0 σ0 A a w' := by
  have hsz : w0.heap.size ≤ w.heap.size := h.below.size
  have hown : ∀ k i, i ≠ j → own k = some i → ownNew own j nb k = some i := by
    intro k i hi hk
    have h1 := h.owns k i hk
    have h2 : nb k = false := by
      cases hn : nb k with
      | false => rfl
      | true => have := hnb k hn; omega
    simp [ownNew, h2, hk, hi]
  refine h.step (fun i => i = j) rfl hle hok (fun k o x hx => (hnc k o x hx).imp id fun e => ⟨by omega, .inr e⟩) (fun k x hx => (hnm k x hx).imp id fun e => ⟨by omega, .inr e⟩) (hw.mono hsz) ⟨fun i => ?_, fun i e => ?_⟩ (fun i hi => ⟨?_, ?_, ?_, fun k hk => ⟨hown k i hi hk, ?_⟩⟩) (fun i hi => ?_) (fun k i hk => ?_) (fun _ => id) (fun t => .inl ⟨rfl, rfl, rfl⟩) (fun _ _ => rfl) (fun k hk _ => hw.block k hk) (fun k i hk => by
      unfold ownNew at hk
      split at hk
      · rename_i hn; exact .inr (hnb k hn).1
      · split at hk
        · cases hk
        · exact .inl ⟨i, hk⟩) (fun i hi => by subst hi; simpa only [St.newO, upd_same] using hnt)
  · simp only [St.newO, upd_apply]; split <;> rename_i e
    · subst e; omega
    · omega
  · simp only [St.newO, upd_apply] at e
    split at e
    · rename_i e'; subst e'; omega
    · rename_i hne; exact upd_ne _ _ hne
  · simp [St.newO, upd_ne _ _ hi]
  · simp [Env.setO, upd_ne _ _ hi]
  · exact upd_ne _ _ hi
  · exact hw.block k (h.owns k i hk).2.1
  · subst hi
    simp only [St.newO, upd_same]
    exact hob
  · unfold ownNew at hk
    split at hk
    · rename_i hn
      obtain ⟨g1, g2⟩ := hnb k hn
      exact ⟨by omega, g2, (hfr k hn).1, (hfr k hn).2⟩
    · split at hk
      · cases hk
      · obtain ⟨g1, g2, g3, g4⟩ := h.owns k i hk
        refine ⟨g1, by have := hw.size; omega, fun o => ?_, ?_⟩
        · cases hc : σ'.c k o with
          | none => rfl
          | some u =>
            rcases hnc k o u hc with e | e
            · rw [g3 o] at e; cases e
            · omega
        · cases hc : σ'.m k with
          | none => rfl
          | some u =>
            rcases hnm k u hc with e | e
            · rw [g4] at e; cases e
            · omega

theorem Inv.newO (h : Inv C S ρ σ own hv w0 σ0 A a w) (j : Nat) (ob : Ob) (d : D) (v : Value) (nb : Nat → Bool) {w' : World} (hw : Below w.heap.size w w') (hnb : ∀ k, nb k = true → w.heap.size ≤ k ∧ k < w'.heap.size)
    (hob : ObjOK C (S.newO j ob) (ρ.setO j d) σ (ownNew own j nb) (upd hv j v) w' w0.heap.size j ob) (hnt : ob ≠ .tr := by intro h; cases h) : Inv C (S.newO j ob) (ρ.setO j d) σ (ownNew own j nb) (upd hv j v) w0 σ0 A a w' := by
  refine h.newOσ j ob d v nb (.refl σ) (h.ok.below hw) (fun _ _ _ hx => .inl hx) (fun _ _ hx => .inl hx) hw hnb (fun k hn => ⟨fun o => ?_, ?_⟩) hob hnt
  · cases hc : σ.c k o with
    | none => rfl
    | some u => have := h.lt hc; have := (hnb k hn).1; omega
  · cases hc : σ.m k with
    | none => rfl
    | some u => have := h.ltm hc; have := (hnb k hn).1; omega

/-- the register that leads to the new object -/
theorem Inv.setObj (h : Inv C S ρ σ own hv w0 σ0 A a w) {t j : Nat} (ht : ¬ A t) {v : Value} (hvj : hv j = v) (hlt : t < a.tmps.size) :
    Inv C (S.setR t (.obj j (S.ver j))) (ρ.setR t .none) σ own hv w0 σ0 (fun u => A u ∨ u = t) (a.put (some t) v) w :=
  h.setReg ht (s := .obj j (S.ver j)) (v := v) (d := .none) ⟨Nat.le_refl _, fun _ => hvj.symm⟩ hlt (fun _ _ e => by cases e)

theorem fz_ver (S : St) (j : Nat) : (S.fz j).ver = S.ver ∧ (S.fz j).r = S.r := by
  unfold St.fz; split <;> exact ⟨rfl, rfl⟩

theorem Inv.fz (h : Inv C S ρ σ own hv w0 σ0 A a w) (j : Nat) : ∃ σ' own', σ.le σ' ∧ Inv C (S.fz j) ρ σ' own' hv w0 σ0 A a w := by
  have hobj := h.objs j
  unfold St.fz
  split
  · rename_i T e eo
    rw [eo] at hobj
    obtain ⟨cells, xs, h1, h2, ⟨vs, h3, h4⟩, h5⟩ := hobj
    have hsz : w0.heap.size ≤ w.heap.size := h.below.size
    let nb : Nat → Bool := fun k => decide ((hv j).ownBlock = some k)
    let σ' : Im := { c := fun k o => if nb k then cells[o]? else σ.c k o, m := σ.m }
    have hnb : ∀ k, nb k = true → own k = some j := fun k hk => h5 k (by simpa [nb] using hk)
    have hle : σ.le σ' := by
      refine ⟨fun k o v hc => ?_, fun k es hc => hc⟩
      have : nb k = false := by
        cases hn : nb k with
        | false => rfl
        | true => have := (h.owns k j (hnb k hn)).2.2.1 o; rw [this] at hc; cases hc
      simp [σ', this, hc]
    refine ⟨σ', fun k => if nb k then none else own k, hle, h.step (fun i => i = j) rfl hle ?_ (fun k o x hx => ?_) (fun _ _ hx => .inl hx) (.refl _ _) ⟨fun _ => Nat.le_refl _, fun _ _ => rfl⟩ (fun i hi => ⟨?_, rfl, rfl, fun k hk => ⟨?_, rfl⟩⟩) (fun i hi => ?_) (fun k i hk => ?_) (fun _ => id) (fun t => .inl ⟨rfl, rfl, rfl⟩) (fun _ _ => rfl) (fun _ _ _ => rfl) (fun k i hk => by
        split at hk
        · cases hk
        · exact .inl ⟨i, hk⟩) (fun i hi => by subst hi; simp [St.setO, upd_same])⟩
    · refine ⟨fun k o v hc => ?_, h.ok.m⟩
      simp only [σ'] at hc
      split at hc
      · rename_i hn
        have hob : (hv j).ownBlock = some k := by simpa [nb] using hn
        have := h2.cells hob o v hc
        rw [addr_add] at this
        simpa using this
      · exact h.ok.c k o v hc
    · simp only [σ'] at hx
      split at hx
      · rename_i hn; exact .inr ⟨(h.owns k j (hnb k hn)).1, .inl ⟨j, hnb k hn⟩⟩
      · exact .inl hx
    · simp [St.setO, upd_ne _ _ hi]
    · have : nb k = false := by
        cases hn : nb k with
        | false => rfl
        | true => rw [hnb k hn] at hk; simp at hk; exact absurd hk.symm hi
      simp [this, hk]
    · subst hi
      simp only [St.setO, upd_same]
      refine ⟨rfl, ?_⟩
      rw [h1]
      rcases h2.2 with ⟨e1, e2⟩ | ⟨g, cap, cur, e1, e2, e3, e4, e5, e6, e7⟩
      · rw [e1]
        have : xs = [] := List.eq_nil_of_length_eq_zero e2
        subst this
        exact .nil _
      · rw [e1]
        refine .slice e.rol g 0 xs.length cap xs vs rfl e4 e5 (fun i x hx => ((h3 i x hx).mono hle).unf_rol) (fun i m u hi hu => ?_)
        rw [Ty.rol_size]
        have hn : nb g = true := by simp [nb, e1, Value.ownBlock]
        simp only [σ', hn, if_true, Nat.zero_add]
        exact h4 i m u hi hu
    · split at hk
      · cases hk
      · rename_i hn
        obtain ⟨g1, g2, g3, g4⟩ := h.owns k i hk
        exact ⟨g1, g2, fun o => by simp [σ', hn, g3 o], g4⟩
  · rename_i kt et eo
    rw [eo] at hobj
    obtain ⟨k0, arr, clock, es', h1, h2, h3, h4, h5, hx, h6⟩ := hobj
    have hsz : w0.heap.size ≤ w.heap.size := h.below.size
    let σ' : Im := { c := σ.c, m := fun k => if k = k0 then some (entriesOf arr) else σ.m k }
    have hle : σ.le σ' := by
      refine ⟨fun k o v hc => hc, fun k es hc => ?_⟩
      have : k ≠ k0 := fun e => by subst e; rw [(h.owns k j h2).2.2.2] at hc; cases hc
      simp [σ', this, hc]
    refine ⟨σ', fun k => if k = k0 then none else own k, hle, h.step (fun i => i = j) rfl hle ?_ (fun k o x hx => .inl hx) (fun k x hx => ?_) (.refl _ _) ⟨fun _ => Nat.le_refl _, fun _ _ => rfl⟩ (fun i hi => ⟨?_, rfl, rfl, fun k hk => ⟨?_, rfl⟩⟩) (fun i hi => ?_) (fun k i hk => ?_) (fun _ => id) (fun t => .inl ⟨rfl, rfl, rfl⟩) (fun _ _ => rfl) (fun _ _ _ => rfl) (fun k i hk => by
        split at hk
        · cases hk
        · exact .inl ⟨i, hk⟩) (fun i hi => by subst hi; simp [St.setO, upd_same])⟩
    · refine ⟨h.ok.c, fun k es hc => ?_⟩
      simp only [σ'] at hc
      split at hc
      · rename_i e; subst e; cases hc
        refine .inl ⟨fun e => ?_, arr, clock, h3, rfl⟩
        refine not_dfr (cap := C.cap) (σ := σ) (kt := kt) (es := es') (by simp [entriesOf, h5]) (fun i p q hp hq => ?_) e
        simp only [entriesOf, List.getElem?_map, Option.map_eq_some_iff] at hp
        obtain ⟨x, hx', rfl⟩ := hp
        exact (h6 i x q (by simpa using hx') hq).1
      · exact h.ok.m k es hc
    · simp only [σ'] at hx
      split at hx
      · rename_i e; subst e; exact .inr ⟨(h.owns k j h2).1, .inl ⟨j, h2⟩⟩
      · exact .inl hx
    · simp [St.setO, upd_ne _ _ hi]
    · have : k ≠ k0 := fun e => by subst e; rw [h2] at hk; simp at hk; exact hi hk.symm
      simp [this, hk]
    · subst hi
      simp only [St.setO, upd_same]
      refine ⟨rfl, ?_⟩
      rw [h1, h4]
      refine .map kt et k0 (entriesOf arr) es' (by simp [σ']) (by simp [entriesOf, h5]) hx (fun i p q hp hq => ?_) (fun i p q hp hq => ?_)
      · simp only [entriesOf, List.getElem?_map, Option.map_eq_some_iff] at hp
        obtain ⟨e, he, rfl⟩ := hp
        exact ((h6 i e q (by simpa using he) hq).1).mono hle
      · simp only [entriesOf, List.getElem?_map, Option.map_eq_some_iff] at hp
        obtain ⟨e, he, rfl⟩ := hp
        exact ((h6 i e q (by simpa using he) hq).2).mono hle
    · split at hk
      · cases hk
      · rename_i hn
        obtain ⟨g1, g2, g3, g4⟩ := h.owns k i hk
        exact ⟨g1, g2, g3, by simp [σ', hn, g4]⟩
  · exact ⟨σ, own, .refl σ, h⟩
end
end Cx
