/-
  The operations that write: stores, map updates, append; slices made.
-/
import Derived.Test.YtaihcmbfhgmjgaaCxO
set_option linter.unusedSimpArgs false
set_option linter.unusedVariables false
namespace Cx
open Go Go.RowKit

def elemPE (C : Ctx) (S : St) (gs : List (Nat × Bool)) (e : Ty) (z : D) (parts : List (Nat × Operand)) (i : Nat) : Option PE :=
  match parts.find? (fun p => Nat.beq p.1 i) with
  | some p => (use C S gs p.2).bind fun a => bif Ty.sub a.1 e then some a.2 else Option.none
  | Option.none => some (PE.con z)

def eBuildSlice (C : Ctx) (S : St) (gs : List (Nat × Bool)) (dst : Nat) (T : TypeId) (len : Nat) (parts : List (Nat × Operand)) : EffR :=
  match C.P.underlying T with
  | some (.slice E) =>
    (tyD C.P E).bind fun e => (zeroTy e).bind fun z =>
      bif elemFact C.P E e && Ty.sub z.1 e && nodupB (parts.map (·.1)) && parts.all (fun p => Nat.blt p.1 len) && Nat.ble (len * e.size) 16777216 then
        ((List.range len).mapM (elemPE C S gs e z.2 parts)).map fun es => (mkObj S dst (.row E e), [.setO dst (.lst es), .setR dst (.con .none)])
      else Option.none
  | _ => Option.none

/-- a slice literal that is a datum at once -/
def eLit (C : Ctx) (S : St) (gs : List (Nat × Bool)) (dst : Nat) (T : TypeId) (len : Nat) (parts : List (Nat × Operand)) : EffR :=
  match C.P.underlying T, eBuildSlice C S gs dst T len parts with
  | some (.slice E), some r =>
    (tyD C.P E).bind fun e =>
      match r.2 with
      | .setO _ x :: _ => some ((S.newO dst .dead).setR dst (match gs with | [] => .dat (.slice e.rol) | _ => .opt gs (.dat (.slice e.rol))), [.setR dst x])
      | _ => Option.none
  | _, _ => Option.none

def eStore (C : Ctx) (S : St) (T : TypeId) (x v : Operand) : EffR :=
  match C.P.info? T with
  | some inf =>
    match shX S [] x with
    | .ptr j ver off =>
      bif Nat.beq ver (S.ver j) then
        match S.o j with
        | .box ag shs =>
          match use C S [] v with
          | some (t, e) =>
            bif Nat.beq inf.size t.size && (t.rowT || t.one) && Nat.ble (off + t.size) shs.length then
              some (S.setO j (.box ag (shs.take off ++ t.flat.map .dat ++ shs.drop (off + t.size))), [.setO j (.setc (.o j) off e)])
            else Option.none
          | Option.none =>
            match shX S [] v with
            | .obj j' ver' =>
              bif Nat.beq ver' (S.ver j') && isRowOrMp (S.o j') && Nat.beq inf.size 1 && Nat.blt off shs.length then
                some (S.setO j (.box ag (shs.set off (.obj j' ver'))), [.setO j (.setc (.o j) off (.con .none))])
              else Option.none
            | _ => Option.none
        | _ => Option.none
      else Option.none
    | .eptr j ver size off =>
      bif Nat.beq ver (S.ver j) then
        match S.o j, use C S [] v with
        | .row _ (.agg ts), some (t, e) =>
          bif Nat.beq inf.size t.size && (t.rowT || t.one) && Nat.beq size ts.length && Nat.ble (off + t.size) ts.length && Ty.subs t.flat ((ts.drop off).take t.size) then
            some (S, [.setO j (.setn (.o j) (regE x) off e)])
          else Option.none
        | .row _ e0, some (t, e) =>
          bif Nat.beq inf.size 1 && Nat.beq size 1 && Nat.beq off 0 && e0.one && Ty.sub t e0 then some (S, [.setO j (.setn (.o j) (regE x) 0 e)]) else Option.none
        | _, _ => Option.none
      else Option.none
    | _ => Option.none
  | Option.none => Option.none

def eMapUpdate (C : Ctx) (S : St) (T : TypeId) (m k v : Operand) : EffR :=
  match C.P.underlying T, shX S [] m with
  | some (.map K _), .obj j ver =>
    bif Nat.beq ver (S.ver j) then
      match S.o j, use C S [] k, use C S [] v with
      | .mp kt et, some (tk, ek), some (tv, ev) =>
        bif Ty.beq tk kt && keyOK C.P K kt && Ty.sub tv et then some (S, [.chk (.ci .lss (.mlen (.o j)) (.con (.int limN))), .setO j (.put (.o j) ek ev)]) else Option.none
      | _, _, _ => Option.none
    else Option.none
  | _, _ => Option.none

def lenOK (x y : PE) : PE := .ci .leq (.llen (.app x y)) (.con (.int limN))

def srcTy : Ty → Ty → Bool
  | .slice e', e => Ty.beq e'.unf e
  | .nils _, _ => true
  | _, _ => false

def eAppend (C : Ctx) (S : St) (dst : Nat) (T : TypeId) (s x : Operand) : EffR :=
  match C.P.underlying T with
  | some (.slice E) =>
    (tyD C.P E).bind fun e =>
      match view C S [] x with
      | some (tx, ex) =>
        bif elemFact C.P E e && srcTy tx e then
          match use C S [] s with
          | some (.nils _, _) => some (mkObj S dst (.row E e), [.chk (lenOK (.con (.list [])) ex), .setO dst (.app (.con (.list [])) ex), .setR dst (.con .none)])
          | some _ => Option.none
          | Option.none =>
            match shX S [] s with
            | .obj j ver =>
              bif Nat.beq ver (S.ver j) then
                match S.o j with
                | .row E' e' =>
                  bif Nat.beq E' E && Ty.beq e' e then
                    some ((S.newO j (.row E e)).setR dst (.obj j (S.ver j + 1)), [.chk (lenOK (.o j) ex), .setO j (.app (.o j) ex), .setR dst (.con .none)])
                  else Option.none
                | _ => Option.none
              else Option.none
            | _ => Option.none
        else Option.none
      | Option.none => Option.none
  | _ => Option.none

theorem elemFact_info {P : Program} {T : TypeId} {e : Ty} (h : elemFact P T e = true) : ∃ inf z, P.info? T = some inf ∧ inf.size = e.size ∧ inf.bytes ≤ limB ∧ 1 ≤ e.size ∧ inf.zero = some z ∧ zeroOk e z = true := by
  unfold elemFact at h
  split at h
  · rename_i i hi
    simp only [Bool.and_eq_true] at h
    have h4 := h.2
    unfold zeroIs at h4
    split at h4
    · rename_i z hz
      exact ⟨i, z, hi, Nat.eq_of_beq_eq_true h.1.1.1, Nat.le_of_ble_eq_true h.1.1.2, Nat.le_of_ble_eq_true h.1.2, hz, h4⟩
    · cases h4
  · cases h

theorem zeroOk_size {e : Ty} {z : Value} (h : zeroOk e z = true) : z.cells.size = e.size := by
  cases e with
  | agg ts =>
    cases z with
    | agg vs => simp only [zeroOk] at h; have := (zeroOks_get ts vs.toList h).1; simpa [Value.cells, Ty.size] using this
    | _ => simp [zeroOk] at h
  | _ => cases z <;> simp_all [zeroOk, zeroOk1, Value.cells, Ty.size]

theorem chk_lss {ρ : Env} {x y : PE} (h : ((PE.ci .lss x y).ev ρ).b = true) : (x.ev ρ).i < (y.ev ρ).i := by
  simpa [PE.ev, D.b_bool, cmI] using h
theorem chk_leq {ρ : Env} {x y : PE} (h : ((PE.ci .leq x y).ev ρ).b = true) : (x.ev ρ).i ≤ (y.ev ρ).i := by
  simpa [PE.ev, D.b_bool, cmI] using h
theorem limN_nat {n : Nat} (h : (n : Int) < limN) : n < 4294967296 := by unfold limN at h; omega
theorem limN_nat' {n : Nat} (h : (n : Int) ≤ limN) : n ≤ 4294967296 := by unfold limN at h; omega

theorem St.setO_self {S : St} {j : Nat} {ob : Ob} (h : S.o j = ob) : S.setO j ob = S := by
  have : upd S.o j ob = S.o := by
    funext i
    rw [upd_apply]; split
    · rename_i e; subst e; exact h.symm
    · rfl
  cases S
  simp only [St.setO] at this ⊢
  rw [this]

section
variable {C : Ctx} {S : St} {ρ : Env} {σ : Im} {own : Nat → Option Nat} {hv : Nat → Value} {w0 : World} {σ0 : Base} {A : Nat → Prop} {a : Act} {w : World} {gs : List (Nat × Bool)} {Φ : Funs} {dst : Nat}

/-- An object is turned: its own block, and new memory. -/
theorem Inv.updO (h : Inv C S ρ σ own hv w0 σ0 A a w) (j : Nat) (ob : Ob) (d : D) (v : Value) (nb : Nat → Bool) {w' : World} (hw : Below w0.heap.size w w')
    (hchg : ∀ k, k < w.heap.size → own k ≠ some j → w'.heap[k]? = w.heap[k]?) (hnb : ∀ k, nb k = true → (own k = some j ∨ w.heap.size ≤ k) ∧ k < w'.heap.size)
    (hob : ObjOK C (S.newO j ob) (ρ.setO j d) σ (ownNew own j nb) (upd hv j v) w' w0.heap.size j ob) (hnt : ob ≠ .tr := by intro h; cases h) : Inv C (S.newO j ob) (ρ.setO j d) σ (ownNew own j nb) (upd hv j v) w0 σ0 A a w' := by
  have hsz : w0.heap.size ≤ w.heap.size := h.below.size
  have hown : ∀ k i, i ≠ j → own k = some i → ownNew own j nb k = some i := by
    intro k i hi hk
    have h1 := h.owns k i hk
    have h2 : nb k = false := by
      cases hn : nb k with
      | false => rfl
      | true =>
        rcases (hnb k hn).1 with e | e
        · rw [hk] at e; simp at e; exact absurd e hi
        · omega
    simp [ownNew, h2, hk, hi]
  have hok : σ.ok w' := by
    refine ⟨fun k o u hc => ?_, fun k es hc => ?_⟩
    · have hne : own k ≠ some j := fun e => by rw [(h.owns k j e).2.2.1 o] at hc; cases hc
      rw [World.cell?_of_block (hchg k (h.lt hc) hne)]; exact h.ok.c k o u hc
    · have hne : own k ≠ some j := fun e => by rw [(h.owns k j e).2.2.2] at hc; cases hc
      exact (h.ok.m k es hc).keep (hchg k (h.ltm hc) hne)
  refine h.step (fun i => i = j) rfl (.refl σ) hok (fun _ _ _ hx => .inl hx) (fun _ _ hx => .inl hx) hw ⟨fun i => ?_, fun i e => ?_⟩ (fun i hi => ⟨?_, ?_, ?_, fun k hk => ⟨hown k i hi hk, ?_⟩⟩) (fun i hi => ?_) (fun k i hk => ?_) (fun _ => id) (fun t => .inl ⟨rfl, rfl, rfl⟩) (fun _ _ => rfl) (fun k hk e => hchg k hk (by rw [e]; simp)) (fun k i hk => by
      unfold ownNew at hk
      split at hk
      · rename_i hn
        rcases (hnb k hn).1 with e | e
        · exact .inl ⟨j, e⟩
        · exact .inr e
      · split at hk
        · cases hk
        · exact .inl ⟨i, hk⟩) (fun i hi => by subst hi; simpa only [St.newO, upd_same] using hnt)
  · simp only [St.newO, upd_apply]; split <;> rename_i e
    · subst e; omega
    · omega
  · simp only [St.newO, upd_apply] at e
    split at e
    · rename_i e'; subst e'; omega
    · rename_i hne; exact upd_ne _ _ hne
  · simp [St.newO, upd_ne _ _ hi]
  · simp [Env.setO, upd_ne _ _ hi]
  · exact upd_ne _ _ hi
  · exact hchg k (h.owns k i hk).2.1 (by rw [hk]; simpa using hi)
  · subst hi
    simp only [St.newO, upd_same]
    exact hob
  · unfold ownNew at hk
    split at hk
    · rename_i hn
      obtain ⟨g1, g2⟩ := hnb k hn
      rcases g1 with e | e
      · obtain ⟨f1, f2, f3, f4⟩ := h.owns k j e
        exact ⟨f1, g2, f3, f4⟩
      · refine ⟨by omega, g2, fun o => ?_, ?_⟩
        · cases hc : σ.c k o with
          | none => rfl
          | some u => have := h.lt hc; omega
        · cases hc : σ.m k with
          | none => rfl
          | some u => have := h.ltm hc; omega
    · split at hk
      · cases hk
      · obtain ⟨g1, g2, g3, g4⟩ := h.owns k i hk
        exact ⟨g1, by have := hw.size; omega, g3, g4⟩

/-- An object is turned in its own block; its name and its handle stay. -/
theorem Inv.updB (h : Inv C S ρ σ own hv w0 σ0 A a w) (j : Nat) (ob : Ob) (d : D) {w' : World} (hw : Below w0.heap.size w w')
    (hchg : ∀ k, k < w.heap.size → own k ≠ some j → w'.heap[k]? = w.heap[k]?)
    (hob : ObjOK C (S.setO j ob) (ρ.setO j d) σ own hv w' w0.heap.size j ob) (hnt : ob ≠ .tr := by intro h; cases h) : Inv C (S.setO j ob) (ρ.setO j d) σ own hv w0 σ0 A a w' := by
  have hok : σ.ok w' := by
    refine ⟨fun k o u hc => ?_, fun k es hc => ?_⟩
    · have hne : own k ≠ some j := fun e => by rw [(h.owns k j e).2.2.1 o] at hc; cases hc
      rw [World.cell?_of_block (hchg k (h.lt hc) hne)]; exact h.ok.c k o u hc
    · have hne : own k ≠ some j := fun e => by rw [(h.owns k j e).2.2.2] at hc; cases hc
      exact (h.ok.m k es hc).keep (hchg k (h.ltm hc) hne)
  refine h.step (fun i => i = j) rfl (.refl σ) hok (fun _ _ _ hx => .inl hx) (fun _ _ hx => .inl hx) hw (Compat.setO _ _ _ _) (fun i hi => ⟨by simp [St.setO, upd_ne _ _ hi], by simp [Env.setO, upd_ne _ _ hi], rfl, fun k hk => ⟨hk, hchg k (h.owns k i hk).2.1 (by rw [hk]; simpa using hi)⟩⟩) (fun i hi => ?_) (fun k i hk => ?_) (fun _ => id) (fun t => .inl ⟨rfl, rfl, rfl⟩) (fun _ _ => rfl) (fun k hk e => hchg k hk (by rw [e]; simp)) (fun k i hk => .inl ⟨i, hk⟩) (fun i hi => by subst hi; rw [St.setO_o]; exact hnt)
  · subst hi
    rw [St.setO_o]
    exact hob
  · obtain ⟨g1, g2, g3, g4⟩ := h.owns k i hk
    exact ⟨g1, by have := hw.size; omega, g3, g4⟩

theorem grownBelow {B : Nat} {w w' : World} {row : Option Nat} (hg : w.grownBy w' row) (hB : B ≤ w.heap.size) (hr : ∀ k, row = some k → B ≤ k) : Below B w w' := (Below.refl B w).grown hg hB hr

theorem madeCells_get {z : Array Value} {n i q : Nat} (hz : 0 < z.size) (hi : i < n) (hq : q < z.size) : (madeCells z (n * z.size))[i * z.size + q]? = z[q]? := by
  have hlt : i * z.size + q < n * z.size := by
    have : (i + 1) * z.size ≤ n * z.size := Nat.mul_le_mul_right _ hi
    rw [Nat.add_mul] at this; omega
  have hm : (i * z.size + q) % z.size = q := by rw [Nat.add_comm, Nat.add_mul_mod_self_right, Nat.mod_eq_of_lt hq]
  simp [madeCells, Array.getElem?_range, hlt, hm, hq]

theorem eMakeSlice_sound (h : Inv C S ρ σ own hv w0 σ0 A a w) (hC : CtxOK C σ0) (ht : ¬ A dst) (hlt : dst < a.tmps.size) {T : TypeId} {l c : Operand} {r : St × List PI} (hr : eMakeSlice C S dst T l c = some r) {o : Oper} (hd : o.dst = some dst) (ho : o.op = .makeSlice T l c) : EOK C w0 σ0 Φ S ρ A a w o r := by
  unfold eMakeSlice at hr
  split at hr
  case h_2 => cases hr
  rename_i E k1 n k2 m hT hl hc
  simp only [Option.bind_eq_some_iff] at hr
  obtain ⟨e, he, hr⟩ := hr
  cases hf : elemFact C.P E e <;> simp only [hf, cond_true, cond_false] at hr
  · cases hr
  obtain ⟨inf, z0, hi, hs, hb, h1, hz, hzo⟩ := elemFact_info hf
  simp only [Option.bind_eq_some_iff] at hr
  obtain ⟨z, hzt, hr⟩ := hr
  cases hsub : Ty.sub z.1 e <;> simp only [hsub, cond_true, cond_false] at hr
  · cases hr
  cases hr
  obtain ⟨n1, hv1, hd1, b1, b2⟩ := (use_sound h hC rfl hl).int_inv
  obtain ⟨n2, hv2, hd2, b3, b4⟩ := (use_sound h hC rfl hc).int_inv
  simp only at hd1 hd2
  have hzr := ((zeroTy_sound (cap := C.cap) (σ := σ) hzt hzo).1).sub hsub
  refine EOK.value hd fun ρ' hrun => ?_
  simp only [PI.runs, PI.run, Option.bind_eq_some_iff] at hrun
  obtain ⟨ρ1, g1, ρ2, g2, hrun⟩ := hrun
  cases c1 : ((limL n).ev ρ).b <;> simp only [c1, cond_true, cond_false] at g1
  · cases g1
  cases g1
  cases c2 : ((PE.ci BinOp.eql n m).ev ρ).b <;> simp only [c2, cond_true, cond_false] at g2
  · cases g2
  cases g2
  have hn12 : n1 = n2 := by simpa [PE.ev, hd1, hd2, D.i_int, D.b_bool, cmI] using c2
  subst hn12
  have hb : 0 ≤ n1 ∧ n1 ≤ limN := by simpa [limL, PE.ev, hd1, D.i_int, D.b_bool, cmI, D.int] using c1
  obtain ⟨nn, rfl⟩ := Int.eq_ofNat_of_zero_le hb.1
  have hnn : nn ≤ 4294967296 := by have := hb.2; unfold limN at this; omega
  have hzs : z0.cells.size = e.size := zeroOk_size hzo
  obtain ⟨w', r1, r2, r3⟩ := run_make_full (P := C.P) w w0.heap.size T E inf z0 e.size hT hi hz hs k1 k2 nn (by
      have : inf.bytes * nn ≤ limB * 4294967296 := Nat.mul_le_mul (by assumption) hnn
      unfold limB at this; omega) (by unfold maxLen; omega) h.below.size
  refine ⟨.slice (some ⟨w.heap.size, 0, none⟩) nn nn, w', by simp [execOp, ho, hv1, hv2, r1], ?_⟩
  obtain ⟨ρ3, g3, ρ4, g4, g5⟩ := hrun
  cases g3; cases g4; cases g5
  simp only [PE.ev, hd1, D.i_int, Int.toNat_natCast]
  have hlen : (List.replicate nn z.2).length = nn := by simp
  refine h.mkObj ht hlt (.row E e) _ _ (fun k => Nat.beq k w.heap.size) (grownBelow r3 (Nat.le_refl _) (by simp)) (fun k hk => ?_) ⟨_, List.replicate nn z.2, by simp [Env.setO, upd_same], by rw [upd_same, hlen]; exact r2, ⟨fun _ => z0, fun i x hx => ?_, fun i j u hi hj => ?_⟩, fun k hk => ?_⟩
  · have hk' : k = w.heap.size := Nat.eq_of_beq_eq_true hk
    have := (r2.lt _ rfl).2
    subst hk'; exact ⟨Nat.le_refl _, this⟩
  · have := (List.getElem?_eq_some_iff.1 hx)
    obtain ⟨q1, q2⟩ := this
    simp at q2; subst q2; exact hzr
  · rw [hlen] at hi
    have hj' : j < z0.cells.size := (Array.getElem?_eq_some_iff.1 hj).1
    rw [Array.getElem?_toList, ← hzs]
    rw [madeCells_get (by omega) hi hj']; exact hj
  · rw [upd_same] at hk
    simp [Value.ownBlock] at hk
    simp [ownNew, hk]

theorem eMapUpdate_sound (h : Inv C S ρ σ own hv w0 σ0 A a w) (hC : CtxOK C σ0) {T : TypeId} {m k v : Operand} {r : St × List PI} (hr : eMapUpdate C S T m k v = some r) {o : Oper} (hd : o.dst = none) (ho : o.op = .mapUpdate T m k v ∨ o.op = .insert T m k v) : EOK C w0 σ0 Φ S ρ A a w o r := by
  unfold eMapUpdate at hr
  split at hr
  case h_2 => cases hr
  rename_i K E j ver hT es
  obtain ⟨hshx, _⟩ := shX_sound h (gs := []) rfl m
  rw [es] at hshx
  cases hb : Nat.beq ver (S.ver j) <;> simp only [hb, cond_true, cond_false] at hr
  · cases hr
  have hval := hshx.2 (Nat.eq_of_beq_eq_true hb)
  have hobj := h.objs j
  split at hr
  case h_2 => cases hr
  rename_i kt et tk ek tv ev eo hk hvv
  rw [eo] at hobj
  cases hc : (Ty.beq tk kt && keyOK C.P K kt && Ty.sub tv et) <;> simp only [hc, cond_true, cond_false] at hr
  · cases hr
  cases hr
  simp only [Bool.and_eq_true] at hc
  obtain ⟨⟨hkt, hkey⟩, hsub⟩ := hc
  obtain ⟨g, arr, clock, ds, h1, h2, h3, h4, h5, h6, h7⟩ := hobj
  have hk' := use_sound h hC rfl hk
  rw [Ty.beq_eq _ _ hkt] at hk'
  have hv' := (use_sound h hC rfl hvv).sub hsub
  refine EOK.skip hd fun ρ' hrun => ?_
  simp only [PI.runs, PI.run, Option.bind_eq_some_iff] at hrun
  obtain ⟨ρ1, g1, ρ2, g2, g3⟩ := hrun
  cases c1 : ((PE.ci BinOp.lss (.mlen (.o j)) (.con (.int limN))).ev ρ).b <;> simp only [c1, cond_true, cond_false] at g1
  · cases g1
  cases g1; cases g2; cases g3
  have hlim : ds.length < 4294967296 := by
    have h8 := chk_lss c1
    simp only [PE.ev, h4, D.m, D.i_int, D.int] at h8
    exact limN_nat h8
  have hck : (Instr.checkKey false 10000 K (a.eval k)).run C.P w = .ok () w := checkKey_run (cap := C.cap) (σ := σ) hkey hk'
  have hres : ∃ arr' clock' ds', (Instr.mapUpdate T (a.eval m) (a.eval k) (a.eval v)).run C.P w = .ok () { w with heap := w.heap.setIfInBounds g (.map arr' clock') } ∧ putM (ek.ev ρ) (ev.ev ρ) ds = ds' ∧ ds'.length = arr'.size ∧ ds'.length ≤ maxLen ∧
      ∀ (i : Nat) (e : MapEntry) (p : D × D), arr'[i]? = some e → ds'[i]? = some p → Rep C.cap σ kt e.key p.1 ∧ Rep C.cap σ et e.val p.2 := by
    rcases run_findKey hkey hk' arr ds h5 h7 w with ⟨f1, f2, f3⟩ | ⟨i, e, p, f1, f2, f3, f4, f5, f6⟩
    · refine ⟨arr.push { key := a.eval k, val := a.eval v, born := clock }, clock + 1, ds ++ [(ek.ev ρ, ev.ev ρ)], ?_, f3 _, by simp [h5], by simp; unfold maxLen; omega, fun q e p he hp => ?_⟩
      · rw [hval, h1]
        simp [Instr.mapUpdate, run_underlying hT, getObj, Sem.run, h3, hck, f1, setObj]
      · rw [Array.getElem?_push] at he
        rw [List.getElem?_append] at hp
        by_cases hq : q = arr.size
        · subst hq
          simp at he
          rw [if_neg (by omega)] at hp
          simp [h5] at hp
          subst he; subst hp
          exact ⟨hk', hv'⟩
        · rw [if_neg hq] at he
          have hql : q < arr.size := (Array.getElem?_eq_some_iff.1 he).1
          rw [if_pos (by omega)] at hp
          exact h7 q e p he hp
    · refine ⟨arr.modify i fun e => { e with key := a.eval k, val := a.eval v }, clock, ds.set i (ek.ev ρ, ev.ev ρ), ?_, f5 _, by simp [h5], by simp; exact h6, fun q e' p' he hp => ?_⟩
      · rw [hval, h1]
        have hst : (Instr.keyThatStays e.key (a.eval k)).run C.P w = .ok (a.eval k) w := by simp [Instr.keyThatStays, f6]
        simp [Instr.mapUpdate, run_underlying hT, getObj, Sem.run, h3, hck, f3, f1, hst, setObj]
      · rw [Array.getElem?_modify] at he
        rw [List.getElem?_set] at hp
        by_cases hq : i = q
        · subst hq
          simp only [if_true] at he hp
          rw [f1] at he
          simp at he
          split at hp
          · cases hp; subst he; exact ⟨hk', hv'⟩
          · cases hp
        · rw [if_neg hq] at he hp
          exact h7 q e' p' he hp
  obtain ⟨arr', clock', ds', r1, r2, r3, r4, r5⟩ := hres
  refine ⟨{ w with heap := w.heap.setIfInBounds g (.map arr' clock') }, by rcases ho with ho | ho <;> simp [execOp, ho, r1], ?_⟩
  have hgl : g < w.heap.size := (Array.getElem?_eq_some_iff.1 h3).1
  have hgB : w0.heap.size ≤ g := (h.owns g j h2).1
  have hev : (PE.put (.o j) ek ev).ev ρ = .map ds' := by simp only [PE.ev, h4, D.m, r2]
  rw [hev]
  have := h.updB j (.mp kt et) (.map ds') (w' := { w with heap := w.heap.setIfInBounds g (.map arr' clock') }) ⟨rfl, rfl, rfl, by simp, fun k hk => by simp; rw [Array.getElem?_setIfInBounds_ne (by omega)]⟩
    (fun k hk hne => by simp; rw [Array.getElem?_setIfInBounds_ne (fun e => hne (by rw [← e]; exact h2))])
    ⟨g, arr', clock', ds', h1, h2, by simp [hgl], by simp [Env.setO, upd_same], r3, r4, r5⟩
  have eS : S.setO j (.mp kt et) = S := St.setO_self eo
  rw [eS] at this
  exact ⟨_, _, _, this⟩
end
end Cx
