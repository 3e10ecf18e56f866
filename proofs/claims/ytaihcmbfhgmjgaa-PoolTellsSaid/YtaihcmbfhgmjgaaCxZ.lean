/-
  What a function gives back.
-/
import Derived.Test.YtaihcmbfhgmjgaaCxY
import Derived.RangeFuncRecord
set_option linter.unusedSimpArgs false
set_option linter.unusedVariables false
namespace Cx
open Go Go.RowKit

/-- the objects behind the cells that a load takes -/
def loadObjs (C : Ctx) (S : St) (T : TypeId) (x : Operand) : List Nat :=
  match shX S [] x, isAggD C.P T, C.P.info? T with
  | .ptr j _ off, some true, some inf => (match S.o j with | .box _ shs => cellObjs ((shs.drop off).take inf.size) | _ => [])
  | _, _, _ => []

def retOne (C : Ctx) (S : St) : ResultVar → Option (St × Ty × PE)
  | .tmp t => (use C (S.fzs (objsOf S [] [.tmp t])) [] (.tmp t)).map fun x => (S.fzs (objsOf S [] [.tmp t]), x.1, x.2)
  | .cell b T =>
    match opLoad C (S.fzs (loadObjs C S T (.tmp b))) [] 0 T (.tmp b) with
    | some (.dat ty, [.setR 0 e]) => some (S.fzs (loadObjs C S T (.tmp b)), ty, e)
    | some (.obj j ver, [.setR _ _]) =>
      bif Nat.beq ver (((S.fzs (loadObjs C S T (.tmp b))).fz j).ver j) then
        match ((S.fzs (loadObjs C S T (.tmp b))).fz j).o j with
        | .fz ty => some ((S.fzs (loadObjs C S T (.tmp b))).fz j, ty, .o j)
        | _ => none
      else none
    | _ => none

def retAll (C : Ctx) : List ResultVar → St → Option (St × List Ty × List PE)
  | [], S => some (S, [], [])
  | x :: xs, S => (retOne C S x).bind fun r => (retAll C xs r.1).map fun q => (q.1, r.2.1 :: q.2.1, r.2.2 :: q.2.2)

/-- the whole result as a datum -/
def retDat (C : Ctx) (fn : Func) (S : St) (res : Ty) : Option PE :=
  (retAll C fn.results.toList S).bind fun r =>
    match r.2.1, r.2.2 with
    | [ty], [e] => bif Ty.sub ty res then some e else none
    | tys, es => bif Ty.sub (.tup tys) res then some (.tup es) else none

/-- the result as a row of one's own -/
def retRow (C : Ctx) (fn : Func) (S : St) (T : TypeId) (e : Ty) : Option PE :=
  match fn.results.toList with
  | [.tmp t] =>
    match shR S [] t with
    | .obj j ver => bif Nat.beq ver (S.ver j) then (match S.o j with | .row U f => bif Nat.beq U T && Ty.beq f e then some (.o j) else none | _ => none) else none
    | _ => none
  | [.cell b U] =>
    match opLoad C S [] 0 U (.tmp b) with
    | some (.obj j ver, [.setR _ _]) => bif Nat.beq ver (S.ver j) then (match S.o j with | .row U f => bif Nat.beq U T && Ty.beq f e then some (.o j) else none | _ => none) else none
    | _ => none
  | _ => none

/-- the parameters lead where they led; the objects are of the kinds that they were -/
def keptShs (S : St) : Nat → List Sh → Bool
  | _, [] => true
  | t, s :: l => plainSh s && ((isDatSh s || isNone s || Sh.beq (S.r t) s) && keptShs S (t + 1) l)
def keptOb (S : St) (shs : List Sh) (obs : List (Nat × Ob)) : Bool := keptShs S 0 shs && obs.all fun x => Ob.beq (S.o x.1) x.2
def retOf (tys : List Ty) (es : List PE) (res : Ty) : Option PE :=
  match tys, es with
  | [ty], [e] => bif Ty.sub ty res then some e else none
  | tys, es => bif Ty.sub (.tup tys) res then some (.tup es) else none
def retOb (C : Ctx) (fn : Func) (S : St) (res : Ty) (shs : List Sh) (obs : List (Nat × Ob)) : Option PE :=
  (retAll C fn.results.toList S).bind fun r => bif keptOb r.1 shs obs then (retOf r.2.1 r.2.2 res).map fun e => .tup (e :: obs.map fun x => .o x.1) else none

def retPE (C : Ctx) (fn : Func) (s : Sig) (S : St) : Option PE :=
  match s.mode with
  | .ob shs obs => retOb C fn S s.res shs obs
  | .dat => retDat C fn S s.res
  | .it J => match fn.results.toList, S.o J with | [], .tr => some (.o J) | _, _ => none
  | .row T e => retRow C fn S T e

def resRun (P : Program) (tmps : Array Value) (w : World) : ResultVar → Value → Prop
  | .tmp t, v => v = tmps.getD t undef
  | .cell a T, v => ∃ k, tmps.getD a undef = .pointer (some k) ∧ (loadVar T k).run P w = .ok v w

def resRuns (P : Program) (tmps : Array Value) (w : World) : List ResultVar → List Value → Prop
  | [], [] => True
  | x :: xs, v :: vs => resRun P tmps w x v ∧ resRuns P tmps w xs vs
  | _, _ => False

def oneOr : List Value → Value
  | [v] => v
  | vs => .tuple vs.toArray

section
variable {C : Ctx} {S : St} {ρ : Env} {σ : Im} {own : Nat → Option Nat} {hv : Nat → Value} {w0 : World} {σ0 : Base} {A : Nat → Prop} {a : Act} {w : World} {gs : List (Nat × Bool)} {Φ : Funs} {dst : Nat}

theorem mapM_run {P : Program} {tmps : Array Value} {w : World} (f : ResultVar → Sem Value) (hf1 : ∀ t, f (.tmp t) = pure (tmps.getD t undef)) (hf2 : ∀ b T, f (.cell b T) = (do loadVar T (← asAddr (tmps.getD b undef)))) :
    ∀ (l : List ResultVar) (vs : List Value), resRuns P tmps w l vs → (l.mapM f).run P w = .ok vs w
  | [], [], _ => by simp [Sem.run_pure]
  | x :: l, v :: vs, h => by
    obtain ⟨hx, hxs⟩ := h
    have ih := mapM_run f hf1 hf2 l vs hxs
    rw [List.mapM_cons]
    have h1 : (f x).run P w = .ok v w := by
      cases x with
      | tmp t => rw [hf1]; simp only [resRun] at hx; subst hx; simp [Sem.run_pure]
      | cell b T =>
        obtain ⟨k, h1, h2⟩ := hx
        rw [hf2, h1]
        simp [asAddr, h2]
    simp [Sem.run_bind, h1, ih, Sem.run_pure, Result.andThen_ok]

theorem results_run {P : Program} {fn : Func} {tmps : Array Value} {w : World} {vs : List Value} (h : resRuns P tmps w fn.results.toList vs) :
    (results fn tmps).run P w = .ok (oneOr vs) w := by
  unfold results
  rw [Array.mapM_eq_mapM_toList]
  simp only [Sem.run_bind]
  simp only [bind_map_left, map_eq_pure_bind, Sem.run_bind, bind_assoc, pure_bind]
  rw [mapM_run (tmps := tmps) _ (fun t => rfl) (fun b T => rfl) _ _ h]
  simp only [Result.andThen_ok, Sem.run_pure]
  rcases vs with _ | ⟨v, _ | ⟨u, vs⟩⟩ <;> simp [Sem.run_pure, oneOr]

theorem load_inv {o : Oper} {T : TypeId} {b : Nat} {v : Value} (ho : o.op = .load T (.tmp b)) (hx : (execOp a.eval o).run C.P w = .ok (.value v) w) : resRun C.P a.tmps w (.cell b T) v := by
  have he : a.eval (.tmp b) = a.tmps.getD b undef := by simp [Act.eval]
  simp only [execOp, ho, Instr.loadAt, he] at hx
  cases hp : a.tmps.getD b undef with
  | pointer p =>
    cases p with
    | none => rw [hp] at hx; simp [Instr.sureAddr] at hx
    | some k =>
      rw [hp] at hx
      refine ⟨k, hp, ?_⟩
      simp [Instr.sureAddr] at hx
      cases hr : (loadVar T k).run C.P w with
      | ok u w' => rw [hr] at hx; simp at hx; rw [hx.1, hx.2]
      | halt u w' => rw [hr] at hx; simp at hx
  | _ => rw [hp] at hx; simp [Instr.sureAddr] at hx

theorem retOne_sound (h : Inv C S ρ σ own hv w0 σ0 A a w) (hC : CtxOK C σ0) {x : ResultVar} {r : St × Ty × PE} (hr : retOne C S x = some r) :
    ∃ σ' own' v, σ.le σ' ∧ Inv C r.1 ρ σ' own' hv w0 σ0 A a w ∧ resRun C.P a.tmps w x v ∧ Rep C.cap σ' r.2.1 v (r.2.2.ev ρ) := by
  cases x with
  | tmp t =>
    simp only [retOne, Option.map_eq_some_iff] at hr
    obtain ⟨y, hy, rfl⟩ := hr
    obtain ⟨σ1, own1, hle, h1⟩ := Inv.fzs (objsOf S [] [.tmp t]) h
    refine ⟨σ1, own1, a.tmps.getD t undef, hle, h1, rfl, ?_⟩
    have := use_sound (gs := []) h1 hC rfl hy
    simpa [Act.eval] using this
  | cell b T =>
    simp only [retOne] at hr
    obtain ⟨σ1, own1, hle, h1⟩ := Inv.fzs (loadObjs C S T (.tmp b)) h
    generalize hS1 : S.fzs (loadObjs C S T (.tmp b)) = S1 at hr h1
    let o : Oper := { (default : Oper) with op := .load T (.tmp b) }
    split at hr
    · rename_i ty e hl
      cases hr
      have hq := opLoad_sound (Φ := fun _ _ => none) (dst := 0) (gs := []) h1 hC rfl hl (o := o) rfl
      obtain ⟨v, d, e1, e2, e3, e4⟩ := hq _ rfl
      have hd : d = e.ev ρ := by
        have := congrArg (fun x : Env => x.r 0) e1
        simpa [Env.setR, upd_same] using this.symm
      subst hd
      exact ⟨σ1, own1, v, hle, h1, load_inv rfl e2, e3⟩
    · rename_i j ver t0 e0 hl
      have hq := opLoad_sound (Φ := fun _ _ => none) (dst := 0) (gs := []) h1 hC rfl hl (o := o) rfl
      obtain ⟨v, d, e1, e2, e3, e4⟩ := hq _ rfl
      cases hb : Nat.beq ver ((S1.fz j).ver j) <;> simp only [hb, cond_true, cond_false] at hr
      · cases hr
      split at hr
      case h_2 => cases hr
      rename_i ty hty
      cases hr
      obtain ⟨σ2, own2, hle2, h2⟩ := h1.fz j
      refine ⟨σ2, own2, v, hle.trans hle2, h2, load_inv rfl e2, ?_⟩
      have ho := h2.objs j
      rw [hty] at ho
      have hver : ver = S1.ver j := by rw [Nat.eq_of_beq_eq_true hb, (fz_ver S1 j).1]
      rw [e3.2 hver]
      exact ho.2
    · cases hr

theorem retAll_sound (hC : CtxOK C σ0) : ∀ (l : List ResultVar) {S : St} {σ : Im} {own : Nat → Option Nat} {r : St × List Ty × List PE}, Inv C S ρ σ own hv w0 σ0 A a w → retAll C l S = some r →
    ∃ σ' own' vs, σ.le σ' ∧ Inv C r.1 ρ σ' own' hv w0 σ0 A a w ∧ resRuns C.P a.tmps w l vs ∧ vs.length = r.2.1.length ∧ r.2.2.length = r.2.1.length ∧
      ∀ (i : Nat) (t : Ty), r.2.1[i]? = some t → Rep C.cap σ' t (vs.getD i undef) ((PE.evs ρ r.2.2).getD i .none)
  | [], S, σ, own, r, h, hr => by
    simp only [retAll, Option.some.injEq] at hr
    subst hr
    exact ⟨σ, own, [], .refl σ, h, trivial, rfl, rfl, fun i t e => by simp at e⟩
  | x :: l, S, σ, own, r, h, hr => by
    simp only [retAll, Option.bind_eq_some_iff, Option.map_eq_some_iff] at hr
    obtain ⟨r1, h1, q, h2, rfl⟩ := hr
    obtain ⟨σ1, own1, v, hle, i1, hx, hrep⟩ := retOne_sound h hC h1
    obtain ⟨σ2, own2, vs, hle2, i2, hxs, hl1, hl2, hreps⟩ := retAll_sound hC l i1 h2
    refine ⟨σ2, own2, v :: vs, hle.trans hle2, i2, ⟨hx, hxs⟩, by simp [hl1], by simp [hl2], fun i t e => ?_⟩
    cases i with
    | zero => simp at e; subst e; simpa [PE.evs] using hrep.mono hle2
    | succ i => simp at e; simpa [PE.evs] using hreps i t e

/-- what is promised of objects that were handed in -/
def ObRet (C : Ctx) (s : Sig) (σ : Im) (own : Nat → Option Nat) (w0 w : World) (tmps : Array Value) (d : D) (v : Value) : Prop :=
  ∀ shs obs, s.mode = .ob shs obs → ∃ hv dr os, d = .tup (dr :: os) ∧ os.length = obs.length ∧ (∀ k j, own k = some j → w0.heap.size ≤ k ∧ k < w.heap.size ∧ (∀ o, σ.c k o = none) ∧ σ.m k = none) ∧
    (∀ (t : Nat) (sh : Sh), shs[t]? = some sh → isDatSh sh = false → ∀ d, CellOK C (obSt shs obs) (obEnv obs [] os) σ hv sh (tmps.getD t undef) d) ∧ (∀ j, ObjOK C (obSt shs obs) (obEnv obs [] os) σ own hv w w0.heap.size j (lookOb obs j)) ∧ Rep C.cap σ s.res v dr
theorem ObRet.no {C : Ctx} {s : Sig} {σ : Im} {own : Nat → Option Nat} {w0 w : World} {tmps : Array Value} {d : D} {v : Value} (h : isOb s.mode = false) : ObRet C s σ own w0 w tmps d v := fun shs obs e => by rw [e] at h; cases h

/-- What the caller is promised. -/
def RetOK (C : Ctx) (w0 : World) (σ0 : Base) (fn : Func) (s : Sig) (d : D) (a : Act) (w : World) : Prop :=
  ∃ v σ, (∃ own t fx cx, FrOK σ own w0.heap.size σ0 w t fx cx ∧ (∀ J, s.mode = .it J → d = t) ∧ ObRet C s σ own w0 w a.tmps d v) ∧ (results fn a.tmps).run C.P w = .ok v w ∧ σ0.le σ ∧ σ.ok w ∧ Below σ0.B w0 w ∧
    (∀ k o x, σ.c k o = some x → σ0.c k o = some x ∨ w0.heap.size ≤ k) ∧ (∀ k x, σ.m k = some x → σ0.m k = some x ∨ w0.heap.size ≤ k) ∧ ResOK C s σ w0 w v d

theorem Inv.fr (h : Inv C S ρ σ own hv w0 σ0 A a w) {s : Sig} {d : D} {v : Value} (hm : ∀ J, s.mode ≠ .it J) (ho : isOb s.mode = false) : ∃ own t fx cx, FrOK σ own w0.heap.size σ0 w t fx cx ∧ (∀ J, s.mode = .it J → d = t) ∧ ObRet C s σ own w0 w a.tmps d v := by
  obtain ⟨t, fx, cx, h1, _⟩ := h.frame
  exact ⟨own, t, fx, cx, h1, fun J e => absurd e (hm J), .no ho⟩

theorem retOf_ok {cap : Nat → Option CSig} {tys : List Ty} {es : List PE} {res : Ty} {pe : PE} {vs : List Value} (hr : retOf tys es res = some pe) (hl1 : vs.length = tys.length) (hl2 : es.length = tys.length)
    (hreps : ∀ (i : Nat) (t : Ty), tys[i]? = some t → Rep cap σ t (vs.getD i undef) ((PE.evs ρ es).getD i .none)) : Rep cap σ res (oneOr vs) (pe.ev ρ) := by
  have many : tys.length ≠ 1 → (bif Ty.sub (.tup tys) res then some (PE.tup es) else none) = some pe → Rep cap σ res (oneOr vs) (pe.ev ρ) := by
    intro hne hr
    cases hb : Ty.sub (.tup tys) res <;> simp only [hb, cond_true, cond_false] at hr
    · cases hr
    cases hr
    have hval : oneOr vs = Value.tuple vs.toArray := by
      match vs, hl1 with
      | [], _ => rfl
      | [v], hl => exact absurd hl.symm hne
      | _ :: _ :: _, _ => rfl
    rw [hval]
    exact Rep.sub (Rep.tup _ _ _ (by rw [hl1]) (by rw [PE.evs_eq, List.length_map, hl2]) hreps) hb
  match tys, es, vs, hl1, hl2, hreps, many, hr with
  | [ty], [e], [v], _, _, hreps, _, hr =>
    simp only [retOf] at hr
    cases hb : Ty.sub ty res <;> simp only [hb, cond_true, cond_false] at hr
    · cases hr
    cases hr
    have := hreps 0 ty rfl
    exact Rep.sub (by simpa [PE.evs, oneOr] using this) hb
  | [], [], _, _, _, _, many, hr => exact many (by simp) hr
  | _ :: _ :: _, _ :: _ :: _, _, _, _, _, many, hr => exact many (by simp) hr

theorem keptShs_get : ∀ {l : List Sh} {k : Nat}, keptShs S k l = true → ∀ (t : Nat) (s : Sh), l[t]? = some s → isDatSh s = false → plainSh s = true ∧ (s = .none ∨ S.r (k + t) = s)
  | [], k, _, t, s, h, _ => by simp at h
  | x :: l, k, hk, t, s, h, hd => by
    simp only [keptShs, Bool.and_eq_true, Bool.or_eq_true] at hk
    cases t with
    | zero =>
      simp at h; subst h
      refine ⟨hk.1, ?_⟩
      rcases hk.2.1 with (h1 | h1) | h1
      · rw [hd] at h1; cases h1
      · left; cases x <;> first | rfl | cases h1
      · exact .inr (Sh.beq_eq _ _ h1)
    | succ t =>
      simp at h
      have := keptShs_get hk.2.2 t s h hd
      rwa [Nat.add_assoc, Nat.add_comm 1 t] at this

theorem lookOb_kept : ∀ {obs : List (Nat × Ob)}, (obs.all fun x => Ob.beq (S.o x.1) x.2) = true → ∀ j, lookOb obs j = .dead ∨ (S.o j = lookOb obs j ∧ lookDb obs (obs.map fun x => ρ.o x.1) j = ρ.o j)
  | [], _, j => .inl rfl
  | x :: obs, h, j => by
    simp only [List.all_cons, Bool.and_eq_true] at h
    simp only [lookOb, List.map_cons, lookDb]
    cases hb : Nat.beq x.1 j <;> simp only [cond_true, cond_false]
    · exact lookOb_kept h.2 j
    · rw [← Nat.eq_of_beq_eq_true hb]; exact .inr ⟨Ob.beq_eq _ _ h.1, rfl⟩

theorem tys_one {ty : Ty} {tys : List Ty} {es : List PE} (h : ∀ ty e, tys = [ty] → es = [e] → False) (hl : es.length = tys.length) : tys.length ≠ 1 := by
  intro h1
  match tys, es with
  | [ty], [e] => exact h ty e rfl rfl
  | [], _ => simp at h1
  | _ :: _ :: _, _ => simp at h1
  | [_], [] => simp at hl
  | [_], _ :: _ :: _ => simp at hl

theorem retRow_get (h : Inv C S ρ σ own hv w0 σ0 A a w) {T : TypeId} {e : Ty} {j ver : Nat} {v : Value} {d : D} (hc : CellOK C S ρ σ hv (.obj j ver) v d) {pe : PE}
    (hr : (bif Nat.beq ver (S.ver j) then (match S.o j with | .row U f => bif Nat.beq U T && Ty.beq f e then some (PE.o j) else none | _ => none) else none) = some pe) :
    ∃ cells xs, pe.ev ρ = .list xs ∧ w.ownsRow w0.heap.size T e.size v xs.length cells ∧ ElemsOK C.cap σ e cells xs ∧ ∀ k, v.ownBlock = some k → (∀ o, σ.c k o = none) ∧ σ.m k = none := by
  cases hb : Nat.beq ver (S.ver j) <;> simp only [hb, cond_true, cond_false] at hr
  · cases hr
  split at hr
  case h_2 => cases hr
  rename_i U f ho
  cases hb2 : Nat.beq U T && Ty.beq f e <;> simp only [hb2, cond_true, cond_false] at hr
  · cases hr
  cases hr
  simp only [Bool.and_eq_true] at hb2
  have hU := Nat.eq_of_beq_eq_true hb2.1
  have hf := Ty.beq_eq _ _ hb2.2
  subst hU hf
  have hj := h.objs j
  rw [ho] at hj
  obtain ⟨cells, xs, h1, h2, h3, h4⟩ := hj
  have hv' := hc.2 (Nat.eq_of_beq_eq_true hb)
  subst hv'
  exact ⟨cells, xs, h1, h2, h3, fun k hk => (h.owns k j (h4 k hk)).2.2⟩

theorem retAll_ver : ∀ (l : List ResultVar) {S : St} {r : St × List Ty × List PE}, retAll C l S = some r → r.1.ver = S.ver
  | [], S, r, h => by simp only [retAll, Option.some.injEq] at h; subst h; rfl
  | x :: l, S, r, h => by
    simp only [retAll, Option.bind_eq_some_iff, Option.map_eq_some_iff] at h
    obtain ⟨r1, h1, q, h2, rfl⟩ := h
    rw [retAll_ver l h2]
    cases x with
    | tmp t =>
      simp only [retOne, Option.map_eq_some_iff] at h1
      obtain ⟨y, _, rfl⟩ := h1
      exact (fzs_ver _ _).1
    | cell b T =>
      simp only [retOne] at h1
      split at h1
      · cases h1; exact (fzs_ver _ _).1
      · rename_i j ver t0 e0 _
        cases hb : Nat.beq ver (((S.fzs (loadObjs C S T (.tmp b))).fz j).ver j) <;> simp only [hb, cond_true, cond_false] at h1
        · cases h1
        · split at h1
          · cases h1
            rw [(fz_ver _ _).1]; exact (fzs_ver _ _).1
          · cases h1
      · cases h1

theorem retPE_sound (h : Inv C S ρ σ own hv w0 σ0 A a w) (hC : CtxOK C σ0) (hver : ∀ j, S.ver j = 0) {fn : Func} {s : Sig} {pe : PE} (hr : retPE C fn s S = some pe) : RetOK C w0 σ0 fn s (pe.ev ρ) a w := by
  unfold retPE at hr
  split at hr
  · rename_i shs obs hm
    simp only [retOb, Option.bind_eq_some_iff] at hr
    obtain ⟨r, hall, hr⟩ := hr
    obtain ⟨σ1, own1, vs, hle, h1, hrs, hl1, hl2, hreps⟩ := retAll_sound hC _ h hall
    cases hb : keptOb r.1 shs obs <;> simp only [hb, cond_true, cond_false] at hr
    · cases hr
    simp only [Option.map_eq_some_iff] at hr
    obtain ⟨e, he, rfl⟩ := hr
    simp only [keptOb, Bool.and_eq_true] at hb
    have hrep := retOf_ok he hl1 hl2 hreps
    obtain ⟨t, fx, cx, hf, _⟩ := h1.frame
    have hcompat : Compat r.1 hv (obSt shs obs) hv := ⟨fun j => by rw [retAll_ver _ hall, hver]; exact Nat.zero_le _, fun _ _ => rfl⟩
    have hos : (PE.evs ρ (e :: obs.map fun x => .o x.1)) = e.ev ρ :: obs.map (fun x => ρ.o x.1) := by simp [PE.evs_eq, Function.comp_def, PE.ev]
    refine ⟨_, σ1, ⟨own1, t, fx, cx, hf, (fun J e => by rw [hm] at e; cases e), fun shs' obs' e' => ?_⟩, results_run hrs, h1.le, h1.ok, h1.below, h1.newc, h1.newm, by unfold ResOK; rw [hm]; trivial⟩
    rw [hm] at e'; cases e'
    refine ⟨hv, e.ev ρ, obs.map fun x => ρ.o x.1, by simp only [PE.ev]; rw [hos], by simp, h1.owns, fun t sh hs hd d => ?_, fun j => ?_, hrep⟩
    · obtain ⟨hpl, e1⟩ := keptShs_get hb.1 t sh hs hd
      rcases e1 with e1 | e1
      · subst e1; trivial
      · rw [Nat.zero_add] at e1
        have := h1.regs t
        rw [e1] at this
        have hno : ∀ gs s', sh ≠ .opt gs s' := fun gs s' e => by subst e; cases hpl
        have := CellOK.mono' (S' := obSt shs obs) (ρ' := obEnv obs [] (obs.map fun x => ρ.o x.1)) (.refl σ1) hcompat hno this
        cases sh with
        | dat t => cases hd
        | opt gs s => cases hpl
        | eptr j v o q => cases hpl
        | _ => exact this
    · rcases lookOb_kept (ρ := ρ) hb.2 j with e1 | ⟨e1, e2⟩
      · rw [e1]; trivial
      · rw [← e1]
        exact (h1.objs j).mono (.refl σ1) hcompat rfl e2 (fun k hk => ⟨hk, rfl⟩)
  · rename_i hm
    simp only [retDat, Option.bind_eq_some_iff] at hr
    obtain ⟨r, hall, hr⟩ := hr
    obtain ⟨σ1, own1, vs, hle, h1, hrs, hl1, hl2, hreps⟩ := retAll_sound hC _ h hall
    refine ⟨_, σ1, h1.fr (fun J e => by rw [hm] at e; cases e) (by rw [hm]; rfl), results_run hrs, h.le.trans hle, h1.ok, h1.below, h1.newc, h1.newm, ?_⟩
    unfold ResOK
    rw [hm]
    simp only
    split at hr
    · rename_i ty e e1 e2
      rw [e1] at hl1 hreps
      rw [e2] at hreps
      cases hb : Ty.sub ty s.res <;> simp only [hb, cond_true, cond_false] at hr
      · cases hr
      cases hr
      obtain ⟨v, rfl⟩ : ∃ v, vs = [v] := by
        match vs, hl1 with
        | [v], _ => exact ⟨v, rfl⟩
      have := hreps 0 ty rfl
      exact Rep.sub (by simpa [PE.evs, oneOr] using this) hb
    · rename_i hne
      cases hb : Ty.sub (.tup r.2.1) s.res <;> simp only [hb, cond_true, cond_false] at hr
      · cases hr
      cases hr
      have hne1 := tys_one (ty := .bool) hne hl2
      have hval : oneOr vs = Value.tuple vs.toArray := by
        match vs, hl1 with
        | [], _ => rfl
        | [v], hl => rw [← hl] at hne1; exact absurd rfl hne1
        | _ :: _ :: _, _ => rfl
      rw [hval]
      refine Rep.sub (Rep.tup _ _ _ (by rw [hl1]) (by rw [PE.evs_eq, List.length_map, hl2]) hreps) hb
  · rename_i J hm
    split at hr
    case h_2 => cases hr
    rename_i hres hJ
    cases hr
    obtain ⟨t, fx, cx, h1, h2⟩ := h.frame
    refine ⟨_, σ, ⟨own, t, fx, cx, h1, fun J' e => ?_, .no (by rw [hm]; rfl)⟩, results_run (vs := []) (by rw [hres]; trivial), h.le, h.ok, h.below, h.newc, h.newm, by unfold ResOK; rw [hm]; trivial⟩
    exact (h2 J hJ).2
  · rename_i T e hm
    have key : ∃ v, (results fn a.tmps).run C.P w = .ok v w ∧ ∃ cells xs, pe.ev ρ = .list xs ∧ w.ownsRow w0.heap.size T e.size v xs.length cells ∧ ElemsOK C.cap σ e cells xs ∧ ∀ k, v.ownBlock = some k → (∀ o, σ.c k o = none) ∧ σ.m k = none := by
      unfold retRow at hr
      split at hr
      · rename_i t ht
        split at hr
        case h_2 => cases hr
        rename_i j ver hs
        have hc := (shR_sound (gs := []) h rfl t).1
        rw [hs] at hc
        exact ⟨_, results_run (vs := [a.tmps.getD t undef]) (by rw [ht]; exact ⟨rfl, trivial⟩), retRow_get h hc hr⟩
      · rename_i b U hb
        split at hr
        case h_2 => cases hr
        rename_i j ver t0 e0 hl
        have hq := opLoad_sound (Φ := fun _ _ => none) (dst := 0) (gs := []) h hC rfl hl (o := { (default : Oper) with op := .load U (.tmp b) }) rfl
        obtain ⟨v, d, e1, e2, e3, e4⟩ := hq _ rfl
        exact ⟨_, results_run (vs := [v]) (by rw [hb]; exact ⟨load_inv rfl e2, trivial⟩), retRow_get h e3 hr⟩
      · cases hr
    obtain ⟨v, h1, h2⟩ := key
    refine ⟨v, σ, h.fr (fun J e => by rw [hm] at e; cases e) (by rw [hm]; rfl), h1, h.le, h.ok, h.below, h.newc, h.newm, ?_⟩
    unfold ResOK
    rw [hm]
    exact h2

theorem DefOK.drop {σ : Im} {B D : Nat} : ∀ {ds : List Deferred}, ({ target := .collected D, args := #[] } : Deferred) ∉ ds → DefOK σ B ds → DefOK (σ.drop D) B ds
  | [], _, _ => trivial
  | x :: ds, hn, ⟨⟨D', h1, h2, h3⟩, h⟩ => by
    simp only [List.mem_cons, not_or] at hn
    refine ⟨⟨D', h1, ?_, h3⟩, DefOK.drop hn.2 h⟩
    have : D' ≠ D := fun e => hn.1 (by rw [h1, e])
    simp [Im.drop, this, h2]

/-- A mark is come to: its block is shut. -/
theorem Inv.shut (h : Inv C S ρ σ own hv w0 σ0 A a w) (hfin : σ0.fin) {x : Deferred} {ds : List Deferred} (hd : a.defers = x :: ds) :
    ∃ D, x.target = .collected D ∧ w.heap[D]? = some (.deferred (some [])) ∧ Inv C S ρ (σ.drop D) own hv w0 σ0 A { a with defers := ds } (w.putObj D (.deferred none)) := by
  have hdef := h.defers
  rw [hd] at hdef
  obtain ⟨⟨D, rfl, hm, hB, hnot⟩, hds⟩ := hdef
  have hD : w.heap[D]? = some (.deferred (some [])) := by
    rcases h.ok.m D _ hm with ⟨h1, _⟩ | ⟨_, h2⟩
    · exact absurd rfl h1
    · exact h2
  have hsame : ∀ k, k ≠ D → (w.putObj D (.deferred none)).heap[k]? = w.heap[k]? := fun k hk => World.putObj_heap_other hk
  have hown : ∀ k j, own k = some j → k ≠ D := fun k j hk e => by subst e; rw [(h.owns k j hk).2.2.2] at hm; cases hm
  have hR : Im.leR C.cap σ (σ.drop D) := ⟨fun r => r.drop hm, fun _ _ _ e => e⟩
  have hdm : ∀ k x, (σ.drop D).m k = some x → k ≠ D ∧ σ.m k = some x := by
    intro k x hx
    simp only [Im.drop] at hx
    split at hx
    · cases hx
    · rename_i hne; exact ⟨hne, hx⟩
  refine ⟨D, rfl, hD, hds.drop hnot, ⟨fun k o v hc => ?_, fun k es hc => ?_⟩, ⟨h.le.c, fun k es hc => ?_⟩, h.old, h.newc, fun k es hc => h.newm k es (hdm k es hc).2, h.below.trans ⟨rfl, rfl, rfl, by simp, fun k hk => hsame k (by have := h.bw; omega)⟩, h.bw, fun k j hk => ?_, fun t => ?_, fun j => ?_, h.opts, ?_⟩
  · have h1 := h.ok.c k o v hc
    have hne : k ≠ D := fun e => by subst e; simp [World.cell?, hD] at h1
    rw [World.cell?_of_block (hsame k hne)]; exact h1
  · exact (h.ok.m k es (hdm k es hc).2).keep (hsame k (hdm k es hc).1)
  · have hne : k ≠ D := fun e => by
      subst e
      have := h.le.m _ _ hc
      rw [hm] at this; cases this
      have := h.old hfin _ hc; omega
    simp [Im.drop, hne, h.le.m k es hc]
  · obtain ⟨g1, g2, g3, g4⟩ := h.owns k j hk
    exact ⟨g1, by simpa using g2, g3, by simp only [Im.drop]; split <;> first | rfl | exact g4⟩
  · exact CellOK.monoR hR (.refl S hv) (fun _ _ _ => rfl) (fun gs s e => (h.opts t gs s e).2) (h.regs t)
  · exact (h.objs j).monoR hR (.refl S hv) rfl rfl (fun k hk => ⟨hk, hsame k (hown k j hk)⟩)
  · obtain ⟨t, fx, cx, hf, ht⟩ := h.frame
    exact ⟨t, fx, cx, ⟨σ0.keep _ _ _ _ _ hf.F ⟨rfl, rfl, rfl, by simp, fun k hk => by omega⟩ (fun k hk => hsame k fun e => by subst e; exact hf.d k hm hB hk), hf.own, hf.c, fun k x hx => hf.m k x (hdm k x hx).2, fun k hx => hf.d k (hdm k _ hx).2⟩, ht⟩

/-- The marks are come to one by one; then the result. -/
def RetD (C : Ctx) (w0 : World) (σ0 : Base) (fn : Func) (s : Sig) (d : D) (tmps : Array Value) : List Deferred → World → Prop
  | [], w => RetOK C w0 σ0 fn s d { tmps := tmps, defers := [] } w
  | x :: ds, w => ∃ D, x.target = .collected D ∧ w.heap[D]? = some (.deferred (some [])) ∧ RetD C w0 σ0 fn s d tmps ds (w.putObj D (.deferred none))

theorem Inv.retD (hC : CtxOK C σ0) (hver : ∀ j, S.ver j = 0) (hfin : σ0.fin) {fn : Func} {s : Sig} {pe : PE} (hr : retPE C fn s S = some pe) : ∀ (ds : List Deferred) {σ : Im} {a : Act} {w : World}, Inv C S ρ σ own hv w0 σ0 A a w → a.defers = ds → RetD C w0 σ0 fn s (pe.ev ρ) a.tmps ds w
  | [], σ, a, w, h, hd => by
    have e : a = { tmps := a.tmps, defers := [] } := by cases a; simp only at hd; subst hd; rfl
    rw [e] at h
    exact retPE_sound h hC hver hr
  | x :: ds, σ, a, w, h, hd => by
    obtain ⟨D, h1, h2, h3⟩ := h.shut hfin hd
    exact ⟨D, h1, h2, Inv.retD hC hver hfin hr ds (a := { a with defers := ds }) h3 rfl⟩
end
end Cx
