/- The engine, part 3 of 3: a deterministic machine for closed runs of Go code, and its proof against the model. No conditions. -/
import Derived.Test.YtgpdibeippljdaaGreatEngineB
import Derived.Laws.Sem
import Derived.RowKit3
import Derived.ProofKit
/-! What becomes of an operation. -/
namespace Go.Eng

section
variable {P : Program} {ρ : Ren}

theorem params_sound {n : Nat} : ∀ {ps : List Nat} {as : List AVal} {tm tm' : T AVal} {as' : List Value} {tmps : Array Value}, paramsA n ps as tm = some tm' → VRs ρ as as' → TR ρ n tm tmps →
    ps.length = as'.length ∧ TR ρ n tm' ((ps.zip as').foldl (fun tmps (q : Nat × Value) => tmps.setIfInBounds q.1 q.2) tmps)
  | [], [], tm, tm', as', tmps, h, ha, ht => by
    cases ha
    simp only [paramsA, Option.some.injEq] at h
    subst h
    exact ⟨rfl, ht⟩
  | p :: ps, a :: as, tm, tm', _, tmps, h, ⟨x, xs, rfl, h1, h2⟩, ht => by
    unfold paramsA at h
    cases hs : setTm n tm (some p) a with
    | none => simp [hs] at h
    | some tm1 =>
      simp only [hs] at h
      have := params_sound h h2 (TR.set ht h1 hs)
      exact ⟨by simp [this.1], this.2⟩
  | [], _ :: _, _, _, _, _, h, _, _ => by cases h
  | _ :: _, [], _, _, _, _, h, _, _ => by cases h

theorem round_sound {H : AHeap} {W : World} (hr : HR ρ H W.heap) {l : Nat} {args : List AVal} {args' : Array Value} (ha : VRs ρ args args'.toList) {kind : CallKind} {g : AFrame} (h : roundFrame H l args kind = some g) {w : Win} (hw : ρ l = some w) :
    ∃ fn tmps a b, (Instr.yield w.c args').run P W = .ok (.round w.c fn tmps a b) W ∧ FR P ρ g (Frame.round w.c fn tmps a b kind) ∧ idsOf g.todo = [] ∧ g.mode = .run ∧ notDrawing g.todo := by
  unfold roundFrame at h
  cases hb : H.bs.get l with
  | none => simp [hb] at h
  | some blk =>
    cases blk with
    | loop st p fn n tm params assign body dd =>
      simp only [hb] at h
      cases hp : paramsA n params args tm with
      | none => simp [hp] at h
      | some tm' =>
        simp only [hp, Option.some.injEq] at h
        subst h
        obtain ⟨tmps, wd, h1, h2, h3⟩ := hr.blk l _ w hb hw
        obtain ⟨h4, h5⟩ := params_sound hp ha h3
        refine ⟨fn, (params.toArray.zip args').foldl (fun tmps (t, a) => tmps.setIfInBounds t a) tmps, assign, body, ?_, ?_, rfl, rfl, trivial⟩
        · have hg : (getObj w.c).run P W = .ok (.loop { state := st, pending := p, fn, tmps, params := params.toArray, assign, body, defers := wd.c }) W := by simp [getObj, Sem.run, h1]
          unfold Instr.yield
          simp only [Instr.getLoop, Sem.run_bind, hg, Result.andThen_ok, Sem.run_pure]
          have : ¬ args'.size ≠ params.toArray.size := by
            simp only [List.size_toArray, ne_eq, Decidable.not_not, h4]
            simp
          rw [if_neg this]
          rfl
        · refine FR.close rfl rfl rfl ⟨w, hw, rfl⟩ rfl ⟨⟨_, rfl, _, rfl, _, rfl, rfl⟩, ?_⟩
          have e : ((params.toArray.zip args').foldl (fun tmps (t, a) => tmps.setIfInBounds t a) tmps) = (params.zip args'.toList).foldl (fun tmps (q : Nat × Value) => tmps.setIfInBounds q.1 q.2) tmps := by
            rw [← Array.foldl_toList, Array.toList_zip]
          rw [e]
          exact h5
    | _ => simp [hb] at h

/-- The other frames and the ids, as the renaming grows by an effect. -/
theorem CR.others {base : Nat} {cs0 : List Frame} {a : AFrame} {acs : List AFrame} {H : AHeap} {f : Frame} {cs : List Frame} {W : World} (hc : CR P base cs0 ρ ⟨a, acs, H⟩ f cs W) {ρ' : Ren} {h : Array Obj} (he : Ext ρ H.next h ρ') :
    FR P ρ' a f ∧ FRs P ρ' acs cs cs0 := by
  have hid : ∀ id ∈ idsC ⟨a, acs, H⟩, ρ id = none → ρ' id = none := fun id hi hn => by rw [he.low id (hc.idlt id hi)]; exact hn
  exact ⟨hc.top.mono he.le fun id hi => hid id (List.mem_append.2 (.inl hi)), hc.rest.mono he.le fun id hi => hid id (List.mem_append.2 (.inr hi))⟩

theorem no_pend {a : AFrame} {H : AHeap} {f : Frame} (h : notDrawing a.todo) : ∀ all i res al k, a.todo = .draw all i res al false :: k → ∀ order k', f.todo = .inRegion all.toArray order :: k' → Pend P H all res al a.tm order := by
  intro all i res al k h1
  rw [h1] at h
  exact h.elim

theorem PRs.cases_head {v : AVal} {b : Bool} {older : List (AVal × Bool)} {ch : List PanicEntry} (h : PRs ρ ((v, b) :: older) ch) : ∃ x es, ch = { v := x, recovered := b, goexit := false } :: es ∧ VR ρ v x ∧ PRs ρ older es := by
  obtain ⟨e, es, rfl, h1, h2, h3, h4⟩ := h
  obtain ⟨v', r', g'⟩ := e
  simp only at h2 h3
  subst h2 h3
  exact ⟨v', es, rfl, h1, h4⟩

theorem outcome_sound {base : Nat} {cs0 : List Frame} {a : AFrame} {acs : List AFrame} {H : AHeap} {f : Frame} {cs : List Frame} {W : World} (hc : CR P base cs0 ρ ⟨a, acs, H⟩ f cs W) (_hm : a.mode = .run)
    {fn : FuncId} {tmps : Array Value} {ops : Array Oper} {j : Nat} {rest : List Nat} {k : List Item} {ds : List Deferred} {kind : CallKind} {rnd : Option Nat} (hf : f = mkF fn tmps (.inRegion ops (j :: rest) :: k) ds kind rnd)
    {o : Oper} (ho : ops[j]? = some o) (hw : Region.wanted o (yielded ops tmps) = true) {r : ARes} (hdef : (∀ c, o.op ≠ .defer c) ∨ ∃ d, r = .defer d) (hout : OutR P ρ H W r (execOp f.eval o)) {c' : Cfg} (h : outcome (envOf P) a acs r H = some c') :
    Leads P base cs0 c' f cs W := by
  have hrnd : RR ρ a.rnd rnd := by have := hc.top.rnd; rw [hf] at this; exact this
  cases r with
  | val v H' =>
    obtain ⟨nx, W', ρ', x, h1, h2, h3, h4, h5, h6, h7, h8⟩ := hout
    simp only [outcome] at h
    cases hfin : finishA a v with
    | none => simp [hfin] at h
    | some a' =>
      simp only [hfin, Option.some.injEq] at h
      subst h
      have hd : rnd = none ∨ ∀ c, o.op ≠ .defer c := by
        rcases hdef with h | ⟨d, h⟩
        · exact .inr h
        · cases h
      obtain ⟨g1, g2⟩ := hc.others h5
      obtain ⟨g3, g4, g5, g6⟩ := finish_sound g1 h3 hfin
      refine ⟨ρ', _, cs, W', Steps.one (st_value hf ho hw hd h1 h2), ⟨h4, h5.old hc.old hc.big, Nat.le_trans hc.big h6.1, g3, fun _ => no_pend g6, g2, ?_, ?_⟩, h6.below hc.old hc.big, h7⟩
      · have := hc.ids; unfold idsC at *; simp only at *; rw [g4]; exact this
      · intro id hid
        have : id ∈ idsC ⟨a, acs, H⟩ := by unfold idsC at *; simp only at *; rw [g4] at hid; exact hid
        exact Nat.lt_of_lt_of_le (hc.idlt id this) h8
  | enter g args =>
    obtain ⟨args', h1, h2⟩ := hout
    simp only [outcome, pushFrame] at h
    cases he : enterA (envOf P) g args .normal with
    | none => simp [he] at h
    | some b =>
      simp only [he, Option.some.injEq] at h
      subst h
      have hd : rnd = none ∨ ∀ c, o.op ≠ .defer c := by
        rcases hdef with h | ⟨d, h⟩
        · exact .inr h
        · cases h
      obtain ⟨g1, g2, g3, g4⟩ := enter_sound h2 he
      refine ⟨ρ, _, f :: cs, W, Steps.one (st_enter hf ho hw hd h1), ⟨hc.heap, hc.old, hc.big, g1, fun _ => no_pend g4, ⟨f, cs, rfl, hc.top, hc.rest⟩, ?_, ?_⟩, fun _ _ => rfl, Rest.refl _⟩
      · have := hc.ids; unfold idsC at *; simp only [List.flatMap_cons] at *; rw [g2]; exact this
      · intro id hid
        refine hc.idlt id ?_
        unfold idsC at *; simp only [List.flatMap_cons] at *; rw [g2] at hid; exact hid
  | round l args =>
    obtain ⟨w, args', h0, h1, h2⟩ := hout
    simp only [outcome] at h
    cases he : roundFrame H l args .normal with
    | none => simp [he] at h
    | some b =>
      simp only [he, Option.some.injEq] at h
      subst h
      have hd : rnd = none ∨ ∀ c, o.op ≠ .defer c := by
        rcases hdef with h | ⟨d, h⟩
        · exact .inr h
        · cases h
      obtain ⟨fn2, tmps2, a2, b2, g0, g1, g2, g3, g4⟩ := round_sound (P := P) hc.heap h2 he h0
      rw [g0] at h1
      refine ⟨ρ, _, f :: cs, W, Steps.one (st_round hf ho hw hd h1), ⟨hc.heap, hc.old, hc.big, g1, fun _ => no_pend g4, ⟨f, cs, rfl, hc.top, hc.rest⟩, ?_, ?_⟩, fun _ _ => rfl, Rest.refl _⟩
      · have := hc.ids; unfold idsC at *; simp only [List.flatMap_cons] at *; rw [g2]; exact this
      · intro id hid
        refine hc.idlt id ?_
        unfold idsC at *; simp only [List.flatMap_cons] at *; rw [g2] at hid; exact hid
  | panic v =>
    obtain ⟨x, h1, h2⟩ := hout
    simp only [outcome] at h
    cases he : raiseA a [(v, false)] with
    | none => simp [he] at h
    | some a' =>
      simp only [he, Option.some.injEq] at h
      subst h
      have hd : rnd = none ∨ ∀ c, o.op ≠ .defer c := by
        rcases hdef with h | ⟨d, h⟩
        · exact .inr h
        · cases h
      obtain ⟨g1, g2, g3⟩ := raise_sound hc.top (chain := [(v, false)]) (ch := [{ v := x, recovered := false }]) ⟨_, _, rfl, h2, rfl, rfl, rfl⟩ he
      refine ⟨ρ, _, cs, W, Steps.one (st_panic hf ho hw hd h1), ⟨hc.heap, hc.old, hc.big, g1, fun hm' => absurd hm' g3, hc.rest, ?_, ?_⟩, fun _ _ => rfl, Rest.refl _⟩
      · have := hc.ids; unfold idsC at *; simp only at *; rw [g2]; exact this
      · intro id hid
        refine hc.idlt id ?_
        unfold idsC at *; simp only at *; rw [g2] at hid; exact hid
  | defer d =>
    obtain ⟨d', h1, h2⟩ := hout
    simp only [outcome] at h
    cases hr : a.rnd with
    | some _ => rw [hr] at h; cases h
    | none =>
      rw [hr] at h
      cases he : finishA { a with ds := d :: a.ds, rnd := none } aundef with
      | none => rw [he] at h; cases h
      | some a' =>
        rw [he] at h
        simp only [Option.some.injEq] at h
        subst h
        rw [hr] at hrnd
        have htop : FR P ρ { a with ds := d :: a.ds, rnd := none } { f with defers := d' :: f.defers } :=
          ⟨hc.top.fn, hc.top.kind, (by have := hc.top.rnd; simp only at this; rw [hr] at this; exact this), ⟨d', f.defers, rfl, h2, hc.top.ds⟩, hc.top.mode, hc.top.run, hc.top.held⟩
        obtain ⟨g3, g4, g5, g6⟩ := finish_sound htop (v := aundef) (x := Go.undef) ⟨_, rfl, rfl⟩ he
        refine ⟨ρ, _, cs, W, Steps.one (st_defer hf ho hw (.inl hrnd) h1), ⟨hc.heap, hc.old, hc.big, g3, fun _ => no_pend g6, hc.rest, ?_, ?_⟩, fun _ _ => rfl, Rest.refl _⟩
        · have := hc.ids; unfold idsC at *; simp only at *; rw [g4]; exact this
        · intro id hid
          refine hc.idlt id ?_
          unfold idsC at *; simp only at *; rw [g4] at hid; exact hid
  | recover =>
    simp only [outcome] at h
    have h1 : (execOp f.eval o).run P W = .ok .recover W := hout
    split at h
    · rename_i hr hk
      rw [hr] at hrnd
      have hrn : rnd = none := hrnd
      subst hrn
      have hfk : f.kind = .deferred := by rw [hc.top.kind]; exact hk
      have hst := st_recover (P := P) (cs := cs) hf ho hw h1
      cases acs with
      | nil => simp at h
      | cons c0 arest =>
        obtain ⟨fc, fs, rfl, hcf, hcr⟩ := hc.rest
        have hids : ∀ (c1 : AFrame) (a' : AFrame), c1.todo = c0.todo → idsOf a'.todo = idsOf a.todo → idsC ⟨a', c1 :: arest, H⟩ = idsC ⟨a, c0 :: arest, H⟩ := by
          intro c1 a' e1 e2
          unfold idsC
          simp only [List.flatMap_cons, e1, e2]
        simp only at h
        have hmode := hcf.mode
        split at h
        · rename_i v older hcm
          cases hfin : finishA a v with
          | none => simp [hfin] at h
          | some a' =>
            simp only [hfin, Option.some.injEq] at h
            subst h
            rw [hcm] at hmode
            obtain ⟨ch, e1, e2⟩ := hmode
            obtain ⟨x, es, rfl, e3, e4⟩ := e2.cases_head
            have htr : tryRecover f (fc :: fs) = some (x, { fc with mode := .panicking ({ v := x, recovered := true } :: es) } :: fs) := by
              unfold tryRecover
              rw [hfk]
              simp only [e1]
            rw [htr] at hst
            obtain ⟨g3, g4, g5, g6⟩ := finish_sound hc.top e3 hfin
            have hne : c0.mode ≠ .run := by rw [hcm]; simp
            refine ⟨ρ, _, _, W, Steps.one hst, ⟨hc.heap, hc.old, hc.big, g3, fun _ => no_pend g6, ⟨_, fs, rfl, ⟨hcf.fn, hcf.kind, hcf.rnd, hcf.ds, ⟨_, rfl, ⟨_, es, rfl, e3, rfl, rfl, e4⟩⟩, fun h => (by cases h), fun _ => hcf.held hne⟩, hcr⟩, ?_, ?_⟩, fun _ _ => rfl, Rest.refl _⟩
            · rw [hids _ _ (by rfl) g4]; exact hc.ids
            · rw [hids _ _ (by rfl) g4]; exact hc.idlt
        · rename_i v older hcm
          cases hfin : finishA a .nilIface with
          | none => simp [hfin] at h
          | some a' =>
            simp only [hfin, Option.some.injEq] at h
            subst h
            rw [hcm] at hmode
            obtain ⟨ch, e1, e2⟩ := hmode
            obtain ⟨x, es, rfl, e3, e4⟩ := e2.cases_head
            have htr : tryRecover f (fc :: fs) = none := by
              unfold tryRecover
              rw [hfk]
              simp only [e1]
            rw [htr] at hst
            obtain ⟨g3, g4, g5, g6⟩ := finish_sound hc.top (x := .nilIface) (v := .nilIface) rfl hfin
            refine ⟨ρ, _, _, W, Steps.one hst, ⟨hc.heap, hc.old, hc.big, g3, fun _ => no_pend g6, ⟨fc, fs, rfl, hcf, hcr⟩, ?_, ?_⟩, fun _ _ => rfl, Rest.refl _⟩
            · rw [hids _ _ rfl g4]; exact hc.ids
            · rw [hids _ _ rfl g4]; exact hc.idlt
        · rename_i hcm
          cases hfin : finishA a .nilIface with
          | none => simp [hfin] at h
          | some a' =>
            simp only [hfin, Option.some.injEq] at h
            subst h
            rw [hcm] at hmode
            have e1 : fc.mode = .returning := hmode
            have htr : tryRecover f (fc :: fs) = none := by
              unfold tryRecover
              rw [hfk]
              simp only [e1]
            rw [htr] at hst
            obtain ⟨g3, g4, g5, g6⟩ := finish_sound hc.top (x := .nilIface) (v := .nilIface) rfl hfin
            refine ⟨ρ, _, _, W, Steps.one hst, ⟨hc.heap, hc.old, hc.big, g3, fun _ => no_pend g6, ⟨fc, fs, rfl, hcf, hcr⟩, ?_, ?_⟩, fun _ _ => rfl, Rest.refl _⟩
            · rw [hids _ _ rfl g4]; exact hc.ids
            · rw [hids _ _ rfl g4]; exact hc.idlt
        · cases h
    · cases h

end
end Go.Eng
/-! Steps of a frame that runs: all items but regions that draw their order. -/
namespace Go.Eng

section
variable {P : Program} {ρ : Ren}

theorem IRs.plain {k : List AItem} {l : List Item} (h : IRs ρ k l) : idsOf k = [] ∧ notDrawing k := by
  cases k with
  | nil => exact ⟨rfl, trivial⟩
  | cons it k => cases it <;> first | exact ⟨rfl, trivial⟩ | exact h.elim

theorem todo_step {base : Nat} {cs0 : List Frame} {a : AFrame} {acs : List AFrame} {H : AHeap} {f : Frame} {cs : List Frame} {W : World} (hc : CR P base cs0 ρ ⟨a, acs, H⟩ f cs W) (hm : a.mode = .run)
    {fn : FuncId} {tmps : Array Value} {todo todo' : List Item} {ds : List Deferred} {kind : CallKind} {rnd : Option Nat} (hf : f = mkF fn tmps todo ds kind rnd) (hst : step P (lone f cs W) = .next (lone (mkF fn tmps todo' ds kind rnd) cs W))
    (hids : idsOf a.todo = []) {k' : List AItem} (hk : IRs ρ k' todo') (hT : TR ρ a.n a.tm tmps) : Leads P base cs0 ⟨{ a with todo := k' }, acs, H⟩ f cs W := by
  obtain ⟨g1, g2⟩ := hk.plain
  have htop := hc.top
  rw [hf] at htop
  refine ⟨ρ, _, cs, W, Steps.one hst, ⟨hc.heap, hc.old, hc.big, FR.close (a := { a with todo := k' }) hm htop.fn htop.kind htop.rnd htop.ds (TodoR.of hk hT), fun _ => no_pend g2, hc.rest, ?_, ?_⟩, fun _ _ => rfl, Rest.refl _⟩
  · have := hc.ids; unfold idsC at *; simp only at *; rw [g1]; rw [hids] at this; exact this
  · intro id hid
    refine hc.idlt id ?_
    unfold idsC at *; simp only at *; rw [g1] at hid; rw [hids]; exact hid

def ExitR (ρ : Ren) : Option (List AItem) → Option (List Item) → Prop
  | some k, some l => IRs ρ k l
  | none, none => True
  | _, _ => False

theorem exit_sound {id : Nat} : ∀ {k : List AItem} {l : List Item}, IRs ρ k l → ExitR ρ (exitA id k) (exitTo id l)
  | [], _, h => by cases h; exact trivial
  | .inBlock id' :: k, _, ⟨k', rfl, h⟩ => by
    unfold exitA exitTo
    cases hb : Nat.beq id' id with
    | true =>
      have := Nat.eq_of_beq_eq_true hb
      subst this
      simp only [cond_true, beq_self_eq_true, if_true]
      exact h
    | false =>
      have : (id' == id) = false := by simpa using Nat.ne_of_beq_eq_false hb
      simp only [cond_false, this, Bool.false_eq_true, if_false]
      exact exit_sound h
  | .code _ :: k, _, ⟨k', rfl, h⟩ => by have := exit_sound (id := id) h; exact this
  | .inLoop _ :: k, _, ⟨k', rfl, h⟩ => by have := exit_sound (id := id) h; exact this
  | .inScope _ :: k, _, ⟨k', rfl, h⟩ => by have := exit_sound (id := id) h; exact this
  | .ops .. :: k, _, ⟨o, k', rfl, _, _, h⟩ => by have := exit_sound (id := id) h; exact this
  | .draw .. :: _, _, h => h.elim
  | .inRangeFunc _ :: k, _, ⟨w, k', _, rfl, h⟩ => by have := exit_sound (id := id) h; exact this
  | .endRangeFunc _ :: k, _, ⟨w, k', _, rfl, h⟩ => by have := exit_sound (id := id) h; exact this
  | .beginRound :: k, _, ⟨k', rfl, h⟩ => by have := exit_sound (id := id) h; exact this

theorem goto_sound {lb : Nat} : ∀ {k : List AItem} {l : List Item}, IRs ρ k l → ExitR ρ (gotoA lb k) (gotoIn lb l)
  | [], _, h => by cases h; exact trivial
  | .inScope body :: k, _, ⟨k', rfl, h⟩ => by
    unfold gotoA gotoIn
    cases hb : findLabel body lb with
    | some rest => exact ⟨_, rfl, _, rfl, h⟩
    | none => exact goto_sound h
  | .inBlock _ :: k, _, ⟨k', rfl, h⟩ => by have := goto_sound (lb := lb) h; exact this
  | .code _ :: k, _, ⟨k', rfl, h⟩ => by have := goto_sound (lb := lb) h; exact this
  | .inLoop _ :: k, _, ⟨k', rfl, h⟩ => by have := goto_sound (lb := lb) h; exact this
  | .ops .. :: k, _, ⟨o, k', rfl, _, _, h⟩ => by have := goto_sound (lb := lb) h; exact this
  | .draw .. :: _, _, h => h.elim
  | .inRangeFunc _ :: k, _, ⟨w, k', _, rfl, h⟩ => by have := goto_sound (lb := lb) h; exact this
  | .endRangeFunc _ :: k, _, ⟨w, k', _, rfl, h⟩ => by have := goto_sound (lb := lb) h; exact this
  | .beginRound :: k, _, ⟨k', rfl, h⟩ => by have := goto_sound (lb := lb) h; exact this

theorem PRs.noexit : ∀ {a : List (AVal × Bool)} {l : List PanicEntry}, PRs ρ a l → l.dropWhile (fun e => !e.goexit) = []
  | [], _, h => by cases h; rfl
  | _ :: _, _, ⟨e, es, rfl, _, _, h3, h4⟩ => by simp [h3, PRs.noexit h4]

/-- A value is handed to the caller. -/
theorem return_sound {base : Nat} {cs0 : List Frame} {a : AFrame} {acs : List AFrame} {H : AHeap} {f : Frame} {cs : List Frame} {W W' : World} (hr : HR ρ H W'.heap) (hold : ∀ b w, ρ b = some w → base ≤ w.c) (hbig : base ≤ W'.heap.size)
    (hk : f.kind = a.kind) (hrest : FRs P ρ acs cs cs0) (hids : (acs.flatMap fun a => idsOf a.todo).Nodup) (hlt : ∀ id ∈ acs.flatMap fun a => idsOf a.todo, id < H.next) {v : AVal} {x : Value} (hv : VR ρ v x) {c' : Cfg} (h : returnA a acs H v = some c')
    (hst : (stepG P true { frame := f, callers := cs, status := .running, dying := none } W).bare = (doReturn P true f cs none x W').bare) (hb : ∀ i, i < base → W'.heap[i]? = W.heap[i]?) (hR : Rest W W') : Leads P base cs0 c' f cs W := by
  unfold returnA at h
  cases acs with
  | nil => simp at h
  | cons c acs =>
    obtain ⟨fc, fs, rfl, hcf, hcr⟩ := hrest
    simp only [List.flatMap_cons] at hids hlt
    simp only at h
    cases hka : a.kind with
    | normal =>
      rw [hka] at h hk
      simp only at h
      cases hfin : finishA c v with
      | none => simp [hfin] at h
      | some c1 =>
        simp only [hfin, Option.some.injEq] at h
        subst h
        obtain ⟨g3, g4, g5, g6⟩ := finish_sound hcf hv hfin
        refine ⟨ρ, fc.finish x, fs, W', Steps.one (step_lone_go (by rw [hst]; simp [doReturn, hk])), ⟨hr, hold, hbig, g3, fun _ => no_pend g6, hcr, ?_, ?_⟩, hb, hR⟩
        · unfold idsC; simp only; rw [g4]; exact hids
        · unfold idsC; simp only; rw [g4]; exact hlt
    | deferred =>
      rw [hka] at h hk
      simp only at h
      have hmode := hcf.mode
      have same : ∀ (hne : c.mode ≠ .run) (_ : ∀ v older, fc.mode ≠ .panicking ({ v, recovered := true, goexit := false } :: older)), (∀ (e : PanicEntry) older, fc.mode = .panicking (e :: older) → e.goexit = false) → Leads P base cs0 ⟨c, acs, H⟩ f (fc :: fs) W := by
        intro hne hnp hge
        refine ⟨ρ, fc, fs, W', Steps.one (step_lone_go ?_), ⟨hr, hold, hbig, hcf, fun h => absurd h hne, hcr, hids, hlt⟩, hb, hR⟩
        rw [hst]
        cases hfm : fc.mode with
        | panicking ch =>
          cases ch with
          | nil => simp [doReturn, hk, hfm]
          | cons e older =>
            obtain ⟨ev, er, eg⟩ := e
            have hg := hge _ _ hfm
            simp only at hg
            subst hg
            cases er with
            | true => exact absurd hfm (hnp _ _)
            | false => simp [doReturn, hk, hfm]
        | _ => simp [doReturn, hk, hfm]
      cases hcm : c.mode with
      | run => rw [hcm] at h; cases h
      | returning =>
        rw [hcm] at h hmode
        simp only [Option.some.injEq] at h
        subst h
        have e1 : fc.mode = .returning := hmode
        exact same (by rw [hcm]; simp) (fun _ _ h => by rw [e1] at h; cases h) (fun _ _ h => by rw [e1] at h; cases h)
      | panicking ch =>
        rw [hcm] at h hmode
        obtain ⟨ch', e1, e2⟩ := hmode
        cases ch with
        | nil =>
          simp only [Option.some.injEq] at h
          subst h
          cases e2
          exact same (by rw [hcm]; simp) (fun _ _ h => by rw [e1] at h; cases h) (fun _ _ h => by rw [e1] at h; cases h)
        | cons q older =>
          obtain ⟨qv, qb⟩ := q
          obtain ⟨x2, es, rfl, e3, e4⟩ := e2.cases_head
          cases qb with
          | false =>
            simp only [Option.some.injEq] at h
            subst h
            refine same (by rw [hcm]; simp) (fun _ _ h => by rw [e1] at h; cases h) (fun e older h => ?_)
            rw [e1] at h; cases h; rfl
          | true =>
            simp only [Option.some.injEq] at h
            subst h
            refine ⟨ρ, { fc with mode := .returning }, fs, W', Steps.one (step_lone_go ?_), ⟨hr, hold, hbig, ⟨hcf.fn, hcf.kind, hcf.rnd, hcf.ds, rfl, fun h => (by cases h), fun _ => hcf.held (by rw [hcm]; simp)⟩, fun h => (by cases h), hcr, hids, hlt⟩, hb, hR⟩
            rw [hst]
            simp [doReturn, hk, e1, PRs.noexit e4]
    | _ => rw [hka] at h; cases h

end
end Go.Eng
/-! Frames that are left; loops over functions. -/
namespace Go.Eng

section
variable {P : Program} {ρ : Ren}

def mkLoop (st : LoopState) (p : Option Code) (fn : FuncId) (tmps : Array Value) (params : Array Nat) (assign body : Code) (dd : Nat) : Loop := { state := st, pending := p, fn, tmps, params, assign, body, defers := dd }

theorem loop_block {H : AHeap} {W : World} (hr : HR ρ H W.heap) {l : Nat} {st : LoopState} {p : Option Code} {fn n : Nat} {tm : T AVal} {ps : List Nat} {as bd : Code} {dd : Nat} (hb : H.bs.get l = some (.loop st p fn n tm ps as bd dd)) {w : Win} (hw : ρ l = some w) :
    ∃ tmps wd, W.heap[w.c]? = some (.loop (mkLoop st p fn tmps ps.toArray as bd wd.c)) ∧ ρ dd = some wd ∧ TR ρ n tm tmps ∧ (Instr.getLoop w.c).run P W = .ok (mkLoop st p fn tmps ps.toArray as bd wd.c) W ∧
      ∀ st' p', (setObj w.c (.loop (mkLoop st' p' fn tmps ps.toArray as bd wd.c))).run P W = .ok () { W with heap := W.heap.setIfInBounds w.c (.loop (mkLoop st' p' fn tmps ps.toArray as bd wd.c)) } ∧
        HR ρ (H.setObj l (.loop st' p' fn n tm ps as bd dd)) (W.heap.setIfInBounds w.c (.loop (mkLoop st' p' fn tmps ps.toArray as bd wd.c))) := by
  obtain ⟨tmps, wd, h1, h2, h3⟩ := hr.blk l _ w hb hw
  refine ⟨tmps, wd, h1, h2, h3, ?_, fun st' p' => ⟨by simp [setObj, Sem.run, h1], ?_⟩⟩
  · simp only [Instr.getLoop, Sem.run_bind]
    have : (getObj w.c).run P W = .ok (.loop (mkLoop st p fn tmps ps.toArray as bd wd.c)) W := by simp only [getObj, Sem.run, h1]; rfl
    rw [this]
    rfl
  · refine hr.setObj hb (fun _ _ _ _ h => by cases h) (fun _ _ _ _ h => by cases h) hw ⟨tmps, wd, ?_, h2, h3⟩
    rw [Array.getElem?_setIfInBounds]
    simp [hr.lt l w hw, mkLoop]

/-- What the model does where a frame is left. -/
def leaveG (P : Program) (f : Frame) (cs : List Frame) (jump : Option Code) (W : World) : GStep :=
  match f.roundOf with
  | none => if jump matches none | some .ret then .go { frame := { f with mode := .returning }, callers := cs, status := .running, dying := none } W else .ended (.stuck "exit, goto: no such block or label" (f.pos P)) W
  | some l =>
    let (r, es) := (Instr.endRound l jump).runT P W #[]
    GStep.after (seen P f.fn es) <| match r with
    | .ok v w => doReturn P true f cs none v w
    | .halt _ w => .ended (.stuck "range over a function: no such loop" (f.pos P)) w

theorem leave_round {f : Frame} {cs : List Frame} {jump : Option Code} {l : Nat} (hf : f.roundOf = some l) {W W' : World} {v : Value} (h : (Instr.endRound l jump).run P W = .ok v W') : (leaveG P f cs jump W).bare = (doReturn P true f cs none v W').bare := by
  unfold leaveG
  rw [hf]
  simp [h]

theorem leave_sound {base : Nat} {cs0 : List Frame} {a : AFrame} {acs : List AFrame} {H : AHeap} {f : Frame} {cs : List Frame} {W : World} (hc : CR P base cs0 ρ ⟨a, acs, H⟩ f cs W) (_hm : a.mode = .run) (hT : TR ρ a.n a.tm f.tmps) {jump : Option Code}
    (hst : stepG P true { frame := f, callers := cs, status := .running, dying := none } W = leaveG P f cs jump W) {c' : Cfg} (h : leaveA a acs H jump = some c') : Leads P base cs0 c' f cs W := by
  have hids := hc.ids
  have hlt := hc.idlt
  unfold idsC at hids hlt
  simp only at hids hlt
  unfold leaveA at h
  cases hr : a.rnd with
  | none =>
    rw [hr] at h
    simp only at h
    obtain ⟨hj, h⟩ := shutTrue h
    simp only [Option.some.injEq] at h
    subst h
    have hro : f.roundOf = none := by have := hc.top.rnd; simp only at this; rw [hr] at this; exact this
    refine ⟨ρ, { f with mode := .returning }, cs, W, Steps.one (step_lone_go ?_), ⟨hc.heap, hc.old, hc.big, ⟨hc.top.fn, hc.top.kind, hro, hc.top.ds, rfl, fun h => (by cases h), fun _ => hT⟩, fun h => (by cases h), hc.rest, hids, hlt⟩, fun _ _ => rfl, Rest.refl _⟩
    rw [hst]
    unfold leaveG
    rw [hro]
    cases jump with
    | none => rfl
    | some c => cases c <;> first | rfl | cases hj
  | some l =>
    rw [hr] at h
    simp only at h
    have hrr := hc.top.rnd
    simp only at hrr
    rw [hr] at hrr
    obtain ⟨w, hw, hro⟩ := hrr
    cases hb : H.bs.get l with
    | none => simp [hb] at h
    | some blk =>
      cases blk with
      | loop st p fn n tm ps as bd dd =>
        simp only [hb] at h
        obtain ⟨tmps, wd, h1, h2, h3, h4, h5⟩ := loop_block (P := P) hc.heap hb hw
        have key : ∀ (b : Bool) (st' : LoopState), (Instr.endRound w.c jump).run P W = .ok (.bool b) { W with heap := W.heap.setIfInBounds w.c (.loop (mkLoop st' jump fn tmps ps.toArray as bd wd.c)) } →
            returnA a acs (H.setObj l (.loop st' jump fn n tm ps as bd dd)) (.bool b) = some c' → Leads P base cs0 c' f cs W := by
          intro b st' hrun h
          refine return_sound (H := H.setObj l (.loop st' jump fn n tm ps as bd dd)) (W' := { W with heap := W.heap.setIfInBounds w.c (.loop (mkLoop st' jump fn tmps ps.toArray as bd wd.c)) }) (h5 st' jump).2 hc.old ?_ hc.top.kind hc.rest (List.nodup_append.1 hids).2.1 (fun id hid => hlt id (by simp only [List.mem_append]; exact .inr hid)) (v := .bool b) (x := .bool b) rfl h (by rw [hst]; exact leave_round hro hrun) ?_ ⟨rfl, rfl, rfl⟩
          · simpa using hc.big
          · exact (Kept.set hw _).below hc.old hc.big
        cases jump with
        | none =>
          refine key true .ready ?_ h
          unfold Instr.endRound
          simp only [Sem.run_bind, h4, Result.andThen_ok]
          exact congrArg (Result.andThen · _) (h5 .ready none).1
        | some c =>
          refine key false .done ?_ h
          unfold Instr.endRound
          simp only [Sem.run_bind, h4, Result.andThen_ok]
          exact congrArg (Result.andThen · _) (h5 .done (some c)).1
      | _ => simp [hb] at h

end
end Go.Eng
/-! Steps of a frame that runs: each item. -/
namespace Go.Eng

section
variable {P : Program} {ρ : Ren}

def lookO (all : Array Oper) (tm : T AVal) (j : Nat) : Option AVal :=
  match all[j]? with | some oj => (match oj.dst with | some d => (match tm.get d with | some v => some v | none => some aundef) | none => none) | none => none

theorem wants_ops {all : Array Oper} {n : Nat} {tm : T AVal} {tmps : Array Value} (ht : TR ρ n tm tmps) {o : Oper} {b : Bool} (hw : wantedA (lookO all tm) o = some b) : Region.wanted o (yielded all tmps) = b := by
  unfold wantedA at hw
  unfold Region.wanted
  cases hg : o.guard with
  | none => rw [hg] at hw; simp only [Option.some.injEq] at hw; exact hw
  | some q =>
    obtain ⟨g, want⟩ := q
    rw [hg] at hw
    simp only at hw ⊢
    unfold lookO at hw
    cases ho : all[g]? with
    | none => rw [ho] at hw; cases hw
    | some og =>
      rw [ho] at hw
      simp only at hw
      cases hd : og.dst with
      | none => rw [hd] at hw; cases hw
      | some d =>
        rw [hd] at hw
        simp only at hw
        have hv := ht.2 d
        unfold tget at hv
        have hy : yielded all tmps g = match tmps.getD d Go.undef with | .bool b => some b | _ => none := by
          unfold yielded
          rw [ho, Option.bind_some, hd, Option.bind_some, Array.getD_eq_getD_getElem?]
          cases tmps[d]? with
          | none => rfl
          | some v => cases v <;> rfl
        rw [hy]
        have fin : ∀ r : AVal, VR ρ r (tmps.getD d Go.undef) → (match some r with | some (.bool b) => some (boolBeq b want) | some .top => none | some _ => some false | none => none) = some b →
            ((match tmps.getD d Go.undef with | .bool b => some b | _ => none) == some want) = b := by
          intro r h5 hw
          cases r with
          | bool q =>
            simp only [Option.some.injEq] at hw
            rw [h5, ← hw, boolBeq_eq]
            rfl
          | top => cases hw
          | _ =>
            simp only [Option.some.injEq] at hw
            subst hw
            have ht := VR.tag (by simp) h5
            cases hv : tmps.getD d Go.undef <;> rw [hv] at ht <;> first | rfl | (simp [vtag, AVal.tag] at ht)
        cases hgt : tm.get d with
        | none => rw [hgt] at hw hv; exact fin aundef hv hw
        | some v => rw [hgt] at hw hv; exact fin v hv hw

theorem exec1_defer {E : Env} {H : AHeap} {v : Operand → AVal} {o : Op} {r : ARes} (h : exec1 E H v o = some r) : (∀ c, o ≠ .defer c) ∨ ∃ d, r = .defer d := by
  by_cases hd : ∃ c, o = .defer c
  · obtain ⟨c, rfl⟩ := hd
    right
    have h2 : eop E H v (.defer c) = some r := h
    obtain ⟨callee, args, at_⟩ := c
    cases callee with
    | value f =>
      simp only [eop] at h2
      split at h2
      · simp only [Option.some.injEq] at h2; exact ⟨_, h2.symm⟩
      · cases h2
    | _ => simp [eop] at h2
  · exact .inl fun c hc => hd ⟨c, hc⟩

theorem ops_sound (fit : Fit P) {base : Nat} {cs0 : List Frame} {a : AFrame} {acs : List AFrame} {H : AHeap} {f : Frame} {cs : List Frame} {W : World} (hc : CR P base cs0 ρ ⟨a, acs, H⟩ f cs W) (hm : a.mode = .run) {all : Array Oper} {i : Nat} {rest : List Oper} {k : List AItem}
    (htd : a.todo = .ops all i rest :: k) {c' : Cfg} (h : execA (envOf P) a acs H = some c') : Leads P base cs0 c' f cs W := by
  obtain ⟨tmps, todo, ds, rnd, rfl, hrnd, hds, ht⟩ := hc.top.open hm
  simp only at hrnd hds ht
  rw [htd] at ht
  obtain ⟨⟨order, k', rfl, h1, h2, h3⟩, h4⟩ := ht
  unfold execA at h
  rw [htd] at h
  simp only at h
  cases rest with
  | nil =>
    simp only [Option.some.injEq] at h
    subst h
    subst h2
    exact todo_step hc hm rfl st_regionEnd (by rw [htd]; rfl) h3 h4
  | cons o rest =>
    simp only at h
    rw [List.length_cons, range_cons] at h2
    subst h2
    simp only [List.map_cons, List.cons.injEq] at h1
    have ho := h1.1
    have h : (match wantedA (lookO all a.tm) o with
      | some true => (match exec1 (envOf P) H (evT a.tm) o.op with | some r => outcome (envOf P) a acs r H | none => none)
      | some false => (match finishA a aundef with | some fr' => some { fr := fr', cs := acs, H := H } | none => none)
      | none => none) = some c' := h
    cases hw : wantedA (lookO all a.tm) o with
    | none => rw [hw] at h; cases h
    | some b =>
      rw [hw] at h
      have hw' := wants_ops h4 hw
      cases b with
      | true =>
        simp only at h
        cases hex : exec1 (envOf P) H (evT a.tm) o.op with
        | none => rw [hex] at h; cases h
        | some r =>
          rw [hex] at h
          have hev : EvR ρ (evT a.tm) (mkF a.fn tmps (.inRegion all (i :: List.range' (i + 1) rest.length) :: k') ds a.kind rnd).eval o.op.operands.toList := fun x _ => evT_VR h4 x
          exact outcome_sound hc hm rfl ho hw' (exec1_defer hex) (exec1_sound fit hc.heap hev hex) h
      | false =>
        simp only at h
        cases hfin : finishA a aundef with
        | none => rw [hfin] at h; cases h
        | some a' =>
          rw [hfin] at h
          simp only [Option.some.injEq] at h
          subst h
          obtain ⟨g3, g4, g5, g6⟩ := finish_sound hc.top (v := aundef) (x := Go.undef) ⟨_, rfl, rfl⟩ hfin
          refine ⟨ρ, _, cs, W, Steps.one (st_unwanted (by rw [ho]; exact hw')), ⟨hc.heap, hc.old, hc.big, g3, fun _ => no_pend g6, hc.rest, ?_, ?_⟩, fun _ _ => rfl, Rest.refl _⟩
          · have := hc.ids; unfold idsC at *; simp only at *; rw [g4]; exact this
          · intro id hid
            refine hc.idlt id ?_
            unfold idsC at *; simp only at *; rw [g4] at hid; exact hid

/-- A region that draws its order begins. -/
theorem draw_start (mixed : P.follows .mixedOrders = true) {base : Nat} {cs0 : List Frame} {a : AFrame} {acs : List AFrame} {H : AHeap} {f : Frame} {cs : List Frame} {W : World} (hc : CR P base cs0 ρ ⟨a, acs, H⟩ f cs W) (hm : a.mode = .run) {id : Nat} {ops : Array Oper} {k : List AItem}
    (htd : a.todo = .code (.region id ops true) :: k) (hok : drawOk ops.toList = true) (hds : ∀ d ∈ dstsOf ops.toList, d < a.n) : Leads P base cs0 ⟨{ a with todo := .draw ops.toList 0 .nil [] false :: k }, acs, H⟩ f cs W := by
  have htop := hc.top
  obtain ⟨tmps, todo, ds, rnd, rfl, hrnd, hdf, ht⟩ := hc.top.open hm
  simp only at hrnd hdf ht
  rw [htd] at ht
  obtain ⟨⟨k', rfl, h3⟩, h4⟩ := ht
  have hedge : ∀ (j : Nat) (o : Oper), ops[j]? = some o → ∀ e ∈ o.after.toList, Region.binds .any e = true → e.on < j := fun j o ho => (drawOk_op hok (by rw [Array.getElem?_toList]; exact ho)).edges
  obtain ⟨g1, g2⟩ := schedule_left mixed hedge (W.tape W.drawn (.order a.fn id))
  have hin : ∀ (j : Nat) (o : Oper), ops.toList[j]? = some o → j ∈ Region.schedule (P.follows .mixedOrders) ops (W.tape W.drawn (.order a.fn id)) := fun j o ho => by
    refine g2 j ?_
    rw [Array.getElem?_toList] at ho
    exact lt_of_get ho
  have hids : idsOf a.todo = [] := by rw [htd]; rfl
  refine ⟨ρ, _, cs, { W with drawn := W.drawn + 1 }, Steps.one st_draw, ⟨hc.heap, hc.old, hc.big, FR.close (a := { a with todo := .draw ops.toList 0 .nil [] false :: k }) hm rfl rfl hrnd hdf ⟨_, k', rfl, h3, ?_, fun h => by cases h⟩, ?_, hc.rest, ?_, ?_⟩, fun _ _ => rfl, ⟨rfl, rfl, rfl⟩⟩
  · exact { ok := hok, size := h4.1, left := by simpa using g1, done := fun j o ho hn => absurd (hin j o ho) hn, base := fun t _ => h4.2 t, dsts := fun j o d ho hd => hds d (dstsOf_mem ho hd), behind := fun j hj => absurd hj (Nat.not_lt_zero j), known := fun j o r _ _ hr => (by cases hr), unplaced := fun j id blk hm => (by cases hm), alres := fun j id blk hm => (by cases hm) }
  · intro _ all i res al kk h order k2 _ j o r _ _ hr
    simp only [List.cons.injEq, AItem.draw.injEq, and_true] at h
    obtain ⟨⟨_, _, h5, _⟩, _⟩ := h
    subst h5
    cases hr
  · have := hc.ids; unfold idsC at *; simp only at *; rw [hids] at this; exact this
  · intro id hid
    refine hc.idlt id ?_
    unfold idsC at *; simp only at *; rw [hids]; exact hid

end
end Go.Eng
/-! Steps of a frame that runs: code, loops over functions. -/
namespace Go.Eng

section
variable {P : Program} {ρ : Ren}

theorem code_sound (mixed : P.follows .mixedOrders = true) {base : Nat} {cs0 : List Frame} {a : AFrame} {acs : List AFrame} {H : AHeap} {f : Frame} {cs : List Frame} {W : World} (hc : CR P base cs0 ρ ⟨a, acs, H⟩ f cs W) (hm : a.mode = .run) {c : Code} {k : List AItem}
    (htd : a.todo = .code c :: k) (hnr : ∀ g ps as bd, c ≠ .rangeFunc g ps as bd) {c' : Cfg} (h : execA (envOf P) a acs H = some c') : Leads P base cs0 c' f cs W := by
  have hids : idsOf a.todo = [] := by rw [htd]; rfl
  have htop := hc.top
  obtain ⟨tmps, todo, ds, rnd, rfl, hrnd, hds, ht⟩ := hc.top.open hm
  simp only at hrnd hds ht
  rw [htd] at ht
  obtain ⟨⟨k', rfl, h3⟩, h4⟩ := ht
  unfold execA at h
  rw [htd] at h
  simp only at h
  cases c with
  | ret => exact leave_sound hc hm h4 (by cases rnd <;> rfl) h
  | skip => simp only [Option.some.injEq] at h; subst h; exact todo_step hc hm rfl st_skip hids h3 h4
  | label l => simp only [Option.some.injEq] at h; subst h; exact todo_step hc hm rfl st_label hids h3 h4
  | seq x y => simp only [Option.some.injEq] at h; subst h; exact todo_step hc hm rfl st_seq hids ⟨_, rfl, _, rfl, h3⟩ h4
  | cond x p q =>
    simp only at h
    have hx := evT_VR (fr := mkF a.fn tmps (.code (.cond x p q) :: k') ds a.kind rnd) h4 x
    cases hv : evT a.tm x with
    | bool b =>
      rw [hv] at h hx
      have hx : (mkF a.fn tmps (.code (.cond x p q) :: k') ds a.kind rnd).eval x = .bool b := hx
      cases b with
      | true => simp only [Option.some.injEq] at h; subst h; exact todo_step hc hm rfl (st_cond rfl hx) hids ⟨_, rfl, h3⟩ h4
      | false => simp only [Option.some.injEq] at h; subst h; exact todo_step hc hm rfl (st_cond rfl hx) hids ⟨_, rfl, h3⟩ h4
    | _ => rw [hv] at h; cases h
  | block id b => simp only [Option.some.injEq] at h; subst h; exact todo_step hc hm rfl st_block hids ⟨_, rfl, _, rfl, h3⟩ h4
  | loop b => simp only [Option.some.injEq] at h; subst h; exact todo_step hc hm rfl st_loop hids ⟨_, rfl, _, rfl, h3⟩ h4
  | scope b => simp only [Option.some.injEq] at h; subst h; exact todo_step hc hm rfl st_scope hids ⟨_, rfl, _, rfl, h3⟩ h4
  | exit id =>
    simp only at h
    have hx := exit_sound (id := id) h3
    cases he : exitA id k with
    | some k2 =>
      rw [he] at h hx
      simp only [Option.some.injEq] at h
      subst h
      cases hx2 : exitTo id k' with
      | none => rw [hx2] at hx; exact hx.elim
      | some l' => rw [hx2] at hx; exact todo_step hc hm rfl (st_exit hx2) hids hx h4
    | none =>
      rw [he] at h hx
      cases hx2 : exitTo id k' with
      | some _ => rw [hx2] at hx; exact hx.elim
      | none => exact leave_sound hc hm h4 (by simp only [stepG, stepG.exec, hx2, Option.elim]; cases rnd <;> rfl) h
  | goto l =>
    simp only at h
    have hx := goto_sound (lb := l) h3
    cases he : gotoA l k with
    | some k2 =>
      rw [he] at h hx
      simp only [Option.some.injEq] at h
      subst h
      cases hx2 : gotoIn l k' with
      | none => rw [hx2] at hx; exact hx.elim
      | some l' => rw [hx2] at hx; exact todo_step hc hm rfl (st_goto hx2) hids hx h4
    | none =>
      rw [he] at h hx
      cases hx2 : gotoIn l k' with
      | some _ => rw [hx2] at hx; exact hx.elim
      | none => exact leave_sound hc hm h4 (by simp only [stepG, stepG.exec, hx2, Option.elim]; cases rnd <;> rfl) h
  | region id ops draw =>
    simp only at h
    cases draw with
    | false =>
      simp only [cond_false, Option.some.injEq] at h
      subst h
      refine todo_step hc hm rfl st_region hids ⟨List.range ops.size, k', rfl, ?_, ?_, h3⟩ h4
      · apply List.ext_getElem?
        intro q
        simp only [List.getElem?_map, Array.getElem?_toList]
        rcases Nat.lt_or_ge q ops.size with hq | hq
        · rw [List.getElem?_range hq]; simp [Array.getElem?_eq_getElem hq]
        · rw [List.getElem?_eq_none (by simpa using hq), Array.getElem?_eq_none hq]; rfl
      · rw [List.range_eq_range', Array.length_toList]
    | true =>
      simp only [cond_true] at h
      obtain ⟨hok, h⟩ := shutTrue h
      simp only [Option.some.injEq] at h
      subst h
      rw [Bool.and_eq_true] at hok
      exact draw_start mixed hc hm htd hok.1 fun d hd => blt_iff.1 (List.all_eq_true.1 hok.2 d hd)
  | rangeFunc g ps as bd => exact absurd rfl (hnr g ps as bd)
  | refuse why => simp at h

theorem plain_sound {base : Nat} {cs0 : List Frame} {a : AFrame} {acs : List AFrame} {H : AHeap} {f : Frame} {cs : List Frame} {W : World} (hc : CR P base cs0 ρ ⟨a, acs, H⟩ f cs W) (hm : a.mode = .run) {c' : Cfg} (h : execA (envOf P) a acs H = some c')
    (hit : a.todo = [] ∨ (∃ id k, a.todo = .inBlock id :: k) ∨ (∃ b k, a.todo = .inScope b :: k) ∨ (∃ b k, a.todo = .inLoop b :: k)) : Leads P base cs0 c' f cs W := by
  obtain ⟨tmps, todo, ds, rnd, rfl, hrnd, hds, ht⟩ := hc.top.open hm
  simp only at hrnd hds ht
  rcases hit with htd | ⟨id, k, htd⟩ | ⟨b, k, htd⟩ | ⟨b, k, htd⟩
  · rw [htd] at ht
    obtain ⟨rfl, h4⟩ := ht
    unfold execA at h
    rw [htd] at h
    exact leave_sound hc hm h4 (by cases rnd <;> rfl) h
  · rw [htd] at ht
    obtain ⟨⟨k', rfl, h3⟩, h4⟩ := ht
    unfold execA at h
    rw [htd] at h
    simp only [Option.some.injEq] at h
    subst h
    exact todo_step hc hm rfl st_inBlock (by rw [htd]; rfl) h3 h4
  · rw [htd] at ht
    obtain ⟨⟨k', rfl, h3⟩, h4⟩ := ht
    unfold execA at h
    rw [htd] at h
    simp only [Option.some.injEq] at h
    subst h
    exact todo_step hc hm rfl st_inScope (by rw [htd]; rfl) h3 h4
  · rw [htd] at ht
    obtain ⟨⟨k', rfl, h3⟩, h4⟩ := ht
    unfold execA at h
    rw [htd] at h
    simp only [Option.some.injEq] at h
    subst h
    exact todo_step hc hm rfl st_inLoop (by rw [htd]; rfl) ⟨_, rfl, _, rfl, h3⟩ h4

end
end Go.Eng
/-! Regions that draw their order: the engine's steps. -/
namespace Go.Eng

section
variable {P : Program} {ρ : Ren}

/-- A configuration whose head is a region under way, in the engine's words. -/
abbrev drawC (a : AFrame) (acs : List AFrame) (all : List Oper) (i : Nat) (s : DSt) (busy : Bool) (k : List AItem) : Cfg := ⟨{ a with todo := .draw all i s.res s.al busy :: k }, acs, s.H⟩

theorem tBeq_eq : ∀ (a b : T AVal), blkSame.tBeq a b = true → a = b
  | .nil, .nil, _ => rfl
  | .node l v r, .node l' v' r', h => by
    simp only [blkSame.tBeq, Bool.and_eq_true] at h
    rw [tBeq_eq l l' h.2.1, tBeq_eq r r' h.2.2, optBeq_eq AVal.beq_eq v v' h.1]
  | .nil, .node .., h => by cases h
  | .node .., .nil, h => by cases h

theorem blkSame_eq {a b : ABlk} (h : blkSame a b = true) : a = b := by
  unfold blkSame at h
  split at h
  · simp only [Bool.and_eq_true] at h
    rw [Nat.eq_of_beq_eq_true h.1, AVal.beq_eq _ _ h.2.1, Nat.eq_of_beq_eq_true h.2.2.1, tBeq_eq _ _ h.2.2.2]
  · rw [Nat.eq_of_beq_eq_true h]
  · cases h

theorem EvLe.refl (ev : Operand → AVal) : EvLe ev ev := fun _ => .inl rfl

theorem set_le {res : T AVal} {j : Nat} {v : AVal} (h : res.get j = none) : ResLe res (res.set j v) := fun g q hg => by
  rw [T.get_set, if_neg (fun e => by subst e; rw [h] at hg; cases hg)]; exact hg

def ofGroup (g : Nat) (b : ABlk) : Prop := ∀ cs n d g', b = .cells cs n d g' → g' = g

theorem ofGroup_fresh (g : Nat) (vs : List AVal) : ofGroup g (freshB g vs) := fun _ _ _ _ h => by cases h; rfl

theorem aop_group {ty : Tys} {g : Nat} {v : Operand → AVal} {o : Op} {blk : ABlk} {mk : Nat → AVal} (h : aop ty g v o = some (blk, mk)) : ofGroup g blk := by
  have fin : ∀ {b : ABlk} {m : Nat → AVal}, some (b, m) = some (blk, mk) → ofGroup g b → ofGroup g blk := fun h h2 => by
    simp only [Option.some.injEq, Prod.mk.injEq] at h
    rw [← h.1]; exact h2
  cases o with
  | alloc t =>
    simp only [aop] at h
    split at h
    · exact fin (shutTrue h).2 (ofGroup_fresh _ _)
    · cases h
  | box t x => simp only [aop] at h; exact fin (shutTrue h).2 (ofGroup_fresh _ _)
  | makeMap t r =>
    cases r with
    | none => exact fin h (fun _ _ _ _ h => by cases h)
    | some _ => cases h
  | buildSlice t len ps =>
    simp only [aop] at h
    split at h
    · split at h
      · split at h
        · have h := (shutTrue h).2
          split at h
          · split at h
            · exact fin (shutTrue h).2 (ofGroup_fresh _ _)
            · cases h
          · cases h
        · cases h
      · cases h
    · cases h
  | makeSlice t l c =>
    simp only [aop] at h
    split at h
    · split at h
      · split at h
        · have h := (shutTrue h).2
          split at h
          · split at h
            · exact fin (shutTrue h).2 (fun _ _ _ _ h => by cases h; rfl)
            · exact fin (shutTrue h).2 (ofGroup_fresh _ _)
          · cases h
        · cases h
      · cases h
    · cases h
  | convert s d x =>
    simp only [aop, strBytes] at h
    split at h
    · split at h
      · split at h
        · split at h
          · exact fin (shutTrue h).2 (ofGroup_fresh _ _)
          · cases h
        · cases h
      · cases h
    · cases h
  | _ => cases h

theorem dquiet_sound {base : Nat} {cs0 : List Frame} {a : AFrame} {acs : List AFrame} {f : Frame} {cs : List Frame} {W : World} {all : List Oper} {i : Nat} {s s' : DSt} {k : List AItem} (hc : CR P base cs0 ρ (drawC a acs all i s false k) f cs W) (hm : a.mode = .run)
    {j : Nat} {o : Oper} (ho : all[j]? = some o) (hres : s.res.get j = none) (h : dquiet (envOf P) all a.tm j o s = some s') :
    CR P base cs0 ρ (drawC a acs all i s' false k) f cs W ∧ s'.res.get j ≠ none ∧ ∀ q, q ≠ j → s'.res.get q = s.res.get q := by
  obtain ⟨tmps, todo, ds, rnd, rfl, hrnd, hds, order, k', rfl, hk, hd, _⟩ := hc.top.open hm
  have hpend := hc.pend hm all i s.res s.al k rfl order k' rfl
  have hjo : j ∈ order := by
    rcases Decidable.em (j ∈ order) with h1 | h1
    · exact h1
    · obtain ⟨r, h2, _⟩ := hd.done j o ho h1
      rw [hres] at h2; cases h2
  have hnoal : ∀ id blk, (j, id, blk) ∉ s.al := fun id blk hmem => hd.alres j id blk hmem hres
  -- the relation behind a step that answers r
  have mk : ∀ (r : AVal) (al' : List (Nat × Nat × ABlk)), (∀ x ∈ s.al, x ∈ al') → (∀ q id blk, (q, id, blk) ∈ al' → q ∈ order → ρ id = none) → (∀ q id blk, (q, id, blk) ∈ al' → q = j ∨ (q, id, blk) ∈ s.al) →
      ((wantedA s.res.get o = some false ∧ r = aundef) ∨ (wantedA s.res.get o = some true ∧ opKind (tyOf P) o.op = .quiet) ∨
        (wantedA s.res.get o = some true ∧ opKind (tyOf P) o.op = .alloc ∧ ∃ id blk ev mk, (j, id, blk) ∈ al' ∧ EvLe ev (evD all s.res a.tm j) ∧ aop (tyOf P) id ev o.op = some (blk, mk) ∧ r = mk id)) →
      DrawR P ρ all i (s.res.set j r) al' a.n a.tm tmps order := by
    intro r al' hsub hun hback hkn
    have hle : ResLe s.res (s.res.set j r) := set_le hres
    have hget : ∀ q, q ≠ j → (s.res.set j r).get q = s.res.get q := fun q hq => by rw [T.get_set, if_neg hq]
    constructor
    · exact hd.ok
    · exact hd.size
    · exact hd.left
    · intro q oq hq hqn
      obtain ⟨r', h1, h2⟩ := hd.done q oq hq hqn
      exact ⟨r', hle _ _ h1, h2⟩
    · exact hd.base
    · exact hd.dsts
    · intro q hq hql
      by_cases e : q = j
      · subst e; rw [T.get_set, if_pos rfl]; simp
      · rw [hget q e]; exact hd.behind q hq hql
    · intro q oq rq hq hqo hrq
      by_cases e : q = j
      · subst e
        rw [ho] at hq; cases hq
        rw [T.get_set, if_pos rfl] at hrq
        cases hrq
        rcases hkn with ⟨h1, h2⟩ | ⟨h1, h2⟩ | ⟨h1, h2, id, blk, ev, mk, h3, h4, h5, h6⟩
        · exact .inl ⟨wantedA_ext hle h1, h2⟩
        · exact .inr (.inl ⟨wantedA_ext hle h1, h2⟩)
        · exact .inr (.inr ⟨wantedA_ext hle h1, h2, id, blk, ev, mk, h3, evD_ext hle h4, h5, h6⟩)
      · rw [hget q e] at hrq
        rcases hd.known q oq rq hq hqo hrq with ⟨h1, h2⟩ | ⟨h1, h2⟩ | ⟨h1, h2, id, blk, ev, mk, h3, h4, h5, h6⟩
        · exact .inl ⟨wantedA_ext hle h1, h2⟩
        · exact .inr (.inl ⟨wantedA_ext hle h1, h2⟩)
        · exact .inr (.inr ⟨wantedA_ext hle h1, h2, id, blk, ev, mk, hsub _ h3, evD_ext hle h4, h5, h6⟩)
    · exact hun
    · intro q id blk hmem hn
      rcases hback q id blk hmem with e | e
      · subst e; rw [T.get_set, if_pos rfl] at hn; cases hn
      · cases hr' : s.res.get q with
        | none => exact hd.alres q id blk e hr'
        | some v => rw [hle q v hr'] at hn; cases hn
  -- what is pending, of the others
  have pendO : ∀ (r : AVal) (al' : List (Nat × Nat × ABlk)) (H' : AHeap), Sub s.H H' → (∀ q id blk, (q, id, blk) ∈ al' → q = j ∨ (q, id, blk) ∈ s.al) →
      (wantedA (s.res.set j r).get o = some true → (opKind (tyOf P) o.op = .quiet → ∃ ev, EvLe ev (evD all (s.res.set j r) a.tm j) ∧ qop (tyOf P) H' ev o.op = some r) ∧ (opKind (tyOf P) o.op = .alloc → ∀ id blk, (j, id, blk) ∈ al' → H'.bs.get id = some blk)) →
      Pend P H' all (s.res.set j r) al' a.tm order := by
    intro r al' H' hsub hback hj q oq rq hq hqo hrq hw
    have hle : ResLe s.res (s.res.set j r) := set_le hres
    by_cases e : q = j
    · subst e
      rw [ho] at hq; cases hq
      rw [T.get_set, if_pos rfl] at hrq
      cases hrq
      exact hj hw
    · rw [T.get_set, if_neg e] at hrq
      have hw0 : wantedA s.res.get oq = some true := by
        rcases hd.known q oq rq hq hqo hrq with ⟨h1, _⟩ | ⟨h1, _⟩ | ⟨h1, _⟩
        · rw [wantedA_ext hle h1] at hw; cases hw
        · exact h1
        · exact h1
      obtain ⟨h1, h2⟩ := hpend q oq rq hq hqo hrq hw0
      refine ⟨fun hk => ?_, fun hk id blk hmem => ?_⟩
      · obtain ⟨ev, h3, h4⟩ := h1 hk
        exact ⟨ev, evD_ext hle h3, qop_mono hsub h4⟩
      · rcases hback q id blk hmem with e2 | e2
        · exact absurd e2 e
        · exact hsub _ _ (h2 hk id blk e2)
  have fin : ∀ (r : AVal) (al' : List (Nat × Nat × ABlk)) (H' : AHeap), HR ρ H' W.heap → DrawR P ρ all i (s.res.set j r) al' a.n a.tm tmps order → Pend P H' all (s.res.set j r) al' a.tm order →
      (idsC (drawC a acs all i ⟨s.res.set j r, al', H'⟩ false k)).Nodup → (∀ id ∈ idsC (drawC a acs all i ⟨s.res.set j r, al', H'⟩ false k), id < H'.next) →
      CR P base cs0 ρ (drawC a acs all i ⟨s.res.set j r, al', H'⟩ false k) (mkF a.fn tmps (.inRegion all.toArray order :: k') ds a.kind rnd) cs W := by
    intro r al' H' hh hdr hp hnd hlt
    refine ⟨hh, hc.old, hc.big, FR.close (a := { a with todo := .draw all i (s.res.set j r) al' false :: k }) hm rfl rfl hrnd hds ⟨order, k', rfl, hk, hdr, fun h => by cases h⟩, ?_, hc.rest, hnd, hlt⟩
    intro _ all2 i2 res2 al2 kk hh2 order2 k3 hh3
    simp only [List.cons.injEq, AItem.draw.injEq, and_true] at hh2
    obtain ⟨⟨rfl, rfl, rfl, rfl⟩, rfl⟩ := hh2
    simp only [List.cons.injEq, Item.inRegion.injEq, true_and] at hh3
    obtain ⟨rfl, rfl⟩ := hh3
    exact hp
  have tailq : ∀ (r : AVal), (s.res.set j r).get j ≠ none ∧ ∀ q, q ≠ j → (s.res.set j r).get q = s.res.get q := fun r => ⟨by rw [T.get_set, if_pos rfl]; simp, fun q hq => by rw [T.get_set, if_neg hq]⟩
  unfold dquiet at h
  cases hw : wantedA s.res.get o with
  | none => rw [hw] at h; cases h
  | some b =>
    rw [hw] at h
    cases b with
    | false =>
      simp only [Option.some.injEq] at h
      subst h
      refine ⟨fin aundef s.al s.H hc.heap (mk aundef s.al (fun _ h => h) hd.unplaced (fun _ _ _ h => .inr h) (.inl ⟨hw, rfl⟩)) (pendO aundef s.al s.H (Sub.refl _) (fun _ _ _ h => .inr h) fun hw2 => ?_) hc.ids hc.idlt, tailq _⟩
      rw [wantedA_ext (set_le hres) hw] at hw2; cases hw2
    | true =>
      simp only at h
      cases hk2 : opKind (envOf P).ty o.op with
      | quiet =>
        rw [hk2] at h
        simp only at h
        cases hq : qop (envOf P).ty s.H (evD all s.res a.tm j) o.op with
        | none => rw [hq] at h; cases h
        | some r =>
          rw [hq] at h
          simp only [Option.some.injEq] at h
          subst h
          refine ⟨fin r s.al s.H hc.heap (mk r s.al (fun _ h => h) hd.unplaced (fun _ _ _ h => .inr h) (.inr (.inl ⟨hw, hk2⟩))) (pendO r s.al s.H (Sub.refl _) (fun _ _ _ h => .inr h) fun _ => ⟨fun _ => ⟨_, evD_ext (set_le hres) (EvLe.refl _), hq⟩, fun h3 => ?_⟩) hc.ids hc.idlt, tailq _⟩
          rw [show opKind (tyOf P) o.op = .quiet from hk2] at h3; cases h3
      | alloc =>
        rw [hk2] at h
        simp only at h
        cases hq : aop (envOf P).ty s.H.next (evD all s.res a.tm j) o.op with
        | none => rw [hq] at h; cases h
        | some q =>
          obtain ⟨blk, mkv⟩ := q
          rw [hq] at h
          simp only [Option.some.injEq] at h
          subst h
          have hfr := hc.heap.fresh s.H.next (Nat.le_refl _)
          have hg : ∀ cs n d g, blk = .cells cs n d g → g = s.H.next := by
            exact aop_group hq
          refine ⟨fin (mkv s.H.next) ((j, s.H.next, blk) :: s.al) (s.H.push blk) (hc.heap.pushA hg) (mk (mkv s.H.next) _ (fun _ h => by simp [h]) (fun q id b hmem hqo => ?_) (fun q id b hmem => ?_) (.inr (.inr ⟨hw, hk2, s.H.next, blk, _, mkv, by simp, EvLe.refl _, hq, rfl⟩))) (pendO _ _ _ (Sub.push hfr.1 blk) (fun q id b hmem => ?_) fun _ => ⟨fun h3 => ?_, fun _ id b hmem => ?_⟩) ?_ ?_, tailq _⟩
          · rcases List.mem_cons.1 hmem with e | e
            · cases e; exact hfr.2.1
            · exact hd.unplaced q id b e hqo
          · rcases List.mem_cons.1 hmem with e | e
            · cases e; exact .inl rfl
            · exact .inr e
          · rcases List.mem_cons.1 hmem with e | e
            · cases e; exact .inl rfl
            · exact .inr e
          · rw [show opKind (tyOf P) o.op = .alloc from hk2] at h3; cases h3
          · rcases List.mem_cons.1 hmem with e | e
            · cases e; rw [HR.get_push, if_pos rfl]
            · exact absurd e (hnoal id b)
          · have h1 := hc.ids
            have h2 := hc.idlt
            unfold idsC idsOf at *
            simp only [List.map_cons, List.cons_append] at *
            exact List.nodup_cons.2 ⟨fun hmem => Nat.lt_irrefl _ (h2 _ hmem), h1⟩
          · intro id hid
            have h2 := hc.idlt
            unfold idsC idsOf at *
            simp only [List.map_cons, List.cons_append, List.mem_cons] at *
            rcases hid with e | e
            · subst e; exact Nat.lt_succ_self _
            · exact Nat.lt_succ_of_lt (h2 id e)
      | eff => rw [hk2] at h; cases h

end
end Go.Eng
/-! Regions that draw their order: a step of the engine. -/
namespace Go.Eng

section
variable {P : Program} {ρ : Ren}

def isSomeA : Option AVal → Bool
  | some _ => true
  | none => false

theorem ResLe.ne {r r' : T AVal} (h : ResLe r r') (q : Nat) (hq : r.get q ≠ none) : r'.get q ≠ none := by
  cases hr : r.get q with
  | none => exact absurd hr hq
  | some v => rw [h q v hr]; simp

theorem prepass_sound {base : Nat} {cs0 : List Frame} {a : AFrame} {acs : List AFrame} {f : Frame} {cs : List Frame} {W : World} {all : List Oper} {i : Nat} {k : List AItem} (hm : a.mode = .run) : ∀ (l : List Oper) (j : Nat) (s s' : DSt),
    (∀ q, l[q]? = all[q + j]?) → CR P base cs0 ρ (drawC a acs all i s false k) f cs W → prepass (envOf P) (masks all) all a.tm i l j s = some s' →
    CR P base cs0 ρ (drawC a acs all i s' false k) f cs W ∧ (s.res.get i = none → s'.res.get i = none) ∧ ResLe s.res s'.res ∧
      ∀ q, j ≤ q → q < j + l.length → i < q → aheadOf (masks all) i q = false → s'.res.get q ≠ none
  | [], j, s, s', _, hc, h => by
    simp only [prepass, Option.some.injEq] at h
    subst h
    exact ⟨hc, id, fun _ _ h => h, fun q h1 h2 => by simp at h2; omega⟩
  | o :: l, j, s, s', hl, hc, h => by
    have hl' : ∀ q, l[q]? = all[q + Nat.succ j]? := fun q => by have := hl (q + 1); simp only [List.getElem?_cons_succ] at this; rw [this]; congr 1; omega
    have ho : all[j]? = some o := by have := hl 0; simpa using this.symm
    unfold prepass at h
    cases hb : Nat.ble j i with
    | true =>
      rw [hb] at h
      simp only [cond_true] at h
      have hji := Nat.le_of_ble_eq_true hb
      obtain ⟨h1, h2, h3, h4⟩ := prepass_sound hm l (Nat.succ j) s s' hl' hc h
      refine ⟨h1, h2, h3, fun q g1 g2 g3 g4 => ?_⟩
      by_cases e : q = j
      · omega
      · exact h4 q (by omega) (by simp only [List.length_cons] at g2; omega) g3 g4
    | false =>
      rw [hb] at h
      simp only [cond_false] at h
      have hji : ¬ j ≤ i := fun h2 => by rw [Nat.ble_eq_true_of_le h2] at hb; cases hb
      have h : (bif isSomeA (s.res.get j) || aheadOf (masks all) i j then prepass (envOf P) (masks all) all a.tm i l (Nat.succ j) s else
        match dquiet (envOf P) all a.tm j o s with | some s1 => prepass (envOf P) (masks all) all a.tm i l (Nat.succ j) s1 | none => none) = some s' := h
      cases hb2 : (isSomeA (s.res.get j) || aheadOf (masks all) i j) with
      | true =>
        rw [hb2] at h
        simp only [cond_true] at h
        obtain ⟨h1, h2, h3, h4⟩ := prepass_sound hm l (Nat.succ j) s s' hl' hc h
        refine ⟨h1, h2, h3, fun q g1 g2 g3 g4 => ?_⟩
        by_cases e : q = j
        · subst e
          rw [g4, Bool.or_false] at hb2
          refine h3.ne q fun hn => ?_
          rw [hn] at hb2; cases hb2
        · exact h4 q (by omega) (by simp only [List.length_cons] at g2; omega) g3 g4
      | false =>
        rw [hb2] at h
        simp only [cond_false] at h
        have hrj : s.res.get j = none := by
          cases hr : s.res.get j with
          | none => rfl
          | some v => rw [hr] at hb2; simp [isSomeA] at hb2
        cases hd : dquiet (envOf P) all a.tm j o s with
        | none => rw [hd] at h; cases h
        | some s1 =>
          rw [hd] at h
          simp only at h
          obtain ⟨g1, g2, g3⟩ := dquiet_sound hc hm ho hrj hd
          obtain ⟨h1, h2, h3, h4⟩ := prepass_sound hm l (Nat.succ j) s1 s' hl' g1 h
          refine ⟨h1, fun hn => h2 (by rw [g3 i (by omega)]; exact hn), fun q v hq => h3 q v ?_, fun q e1 e2 e3 e4 => ?_⟩
          · by_cases e : q = j
            · subst e; rw [hrj] at hq; cases hq
            · rw [g3 q e]; exact hq
          · by_cases e : q = j
            · subst e; exact h3.ne q g2
            · exact h4 q (by omega) (by simp only [List.length_cons] at e2; omega) e3 e4

theorem drawTm_sound {n : Nat} {res : T AVal} {tmps : Array Value} (hn : tmps.size = n) : ∀ (l : List Oper) (j : Nat) (tm tm' : T AVal), (∀ q o, l[q]? = some o → ∃ r, res.get (q + j) = some r ∧ ∀ d, o.dst = some d → VR ρ r (tmps.getD d Go.undef)) →
    (∀ t, (∀ o ∈ l, o.dst ≠ some t) → VR ρ (tget tm t) (tmps.getD t Go.undef)) → drawTm n res l j tm = some tm' → TR ρ n tm' tmps
  | [], j, tm, tm', _, hb, h => by
    simp only [drawTm, Option.some.injEq] at h
    subst h
    exact ⟨hn, fun t => hb t fun o ho => by cases ho⟩
  | o :: l, j, tm, tm', hd, hb, h => by
    obtain ⟨r, h1, h2⟩ := hd 0 o rfl
    rw [Nat.zero_add] at h1
    unfold drawTm at h
    rw [h1] at h
    simp only at h
    cases hs : setTm n tm o.dst r with
    | none => rw [hs] at h; cases h
    | some tm1 =>
      rw [hs] at h
      refine drawTm_sound hn l (Nat.succ j) tm1 tm' (fun q o' hq => ?_) (fun t ht => ?_) h
      · obtain ⟨r', g1, g2⟩ := hd (q + 1) o' (by simpa using hq)
        refine ⟨r', ?_, g2⟩
        rw [← g1]; congr 1; omega
      · unfold setTm at hs
        cases hdst : o.dst with
        | none =>
          rw [hdst] at hs
          simp only [Option.some.injEq] at hs
          subst hs
          exact hb t fun o' ho' => by
            rcases List.mem_cons.1 ho' with rfl | e
            · rw [hdst]; simp
            · exact ht o' e
        | some d =>
          rw [hdst] at hs
          obtain ⟨_, hs⟩ := shutTrue hs
          simp only [Option.some.injEq] at hs
          subst hs
          unfold tget
          rw [T.get_set]
          by_cases e : t = d
          · rw [if_pos e, e]; exact h2 d hdst
          · rw [if_neg e]
            exact hb t fun o' ho' => by
              rcases List.mem_cons.1 ho' with rfl | e2
              · rw [hdst]; intro e3; exact e (by simpa using e3.symm)
              · exact ht o' e2

theorem recheck_get {E : Env} {M : T Nat} {ops : List Oper} {tm : T AVal} {i : Nat} {res : T AVal} {al : List (Nat × Nat × ABlk)} {H : AHeap} : ∀ {l : List Oper} {j0 : Nat}, recheck E M ops tm i res al H l j0 = true → ∀ q o r, l[q]? = some o → q + j0 ≠ i → aheadOf M (q + j0) i = false → res.get (q + j0) = some r →
    wantedA res.get o = some false ∨ (wantedA res.get o = some true ∧ (opKind E.ty o.op = .quiet → qop E.ty H (evD ops res tm (q + j0)) o.op = some r) ∧ (opKind E.ty o.op = .alloc → ∀ id blk, (q + j0, id, blk) ∈ al → H.bs.get id = some blk))
  | [], j0, _, q, o, r, hq, _, _, _ => by simp at hq
  | o0 :: l, j0, h, q, o, r, hq, hne, hah, hr => by
    unfold recheck at h
    rw [Bool.and_eq_true] at h
    cases q with
    | zero =>
      simp only [List.getElem?_cons_zero, Option.some.injEq] at hq
      subst hq
      rw [Nat.zero_add] at hne hah hr ⊢
      have hb : Nat.beq j0 i = false := by
        cases hb : Nat.beq j0 i with
        | false => rfl
        | true => exact absurd (Nat.eq_of_beq_eq_true hb) hne
      have h1 := h.1
      rw [hb, hah, hr] at h1
      simp only [Bool.or_self, cond_false] at h1
      cases hw : wantedA res.get o0 with
      | none => rw [hw] at h1; cases h1
      | some b =>
        rw [hw] at h1
        cases b with
        | false => exact .inl rfl
        | true =>
          refine .inr ⟨rfl, fun hk => ?_, fun hk id blk hmem => ?_⟩
          · rw [hk] at h1
            simp only at h1
            cases hq : qop E.ty H (evD ops res tm j0) o0.op with
            | none => rw [hq] at h1; cases h1
            | some r' => rw [hq] at h1; rw [AVal.beq_eq _ _ h1]
          · rw [hk] at h1
            simp only at h1
            have h2 := List.all_eq_true.1 h1 _ hmem
            simp only [Bool.or_eq_true, Bool.not_eq_true'] at h2
            rcases h2 with h2 | h2
            · simp at h2
            · cases hg : H.bs.get id with
              | none => rw [hg] at h2; cases h2
              | some b => rw [hg] at h2; rw [blkSame_eq h2]
    | succ q =>
      have := recheck_get h.2 q o r (by simpa using hq) (by have : q + Nat.succ j0 = q + 1 + j0 := by omega
                                                            rw [this]; exact hne)
      have e : q + Nat.succ j0 = q + 1 + j0 := by omega
      rw [e] at this
      exact this hah hr

end
end Go.Eng
/-! Regions that draw their order: the step as a whole. -/
namespace Go.Eng

section
variable {P : Program} {ρ : Ren}

theorem CR.redraw {base : Nat} {cs0 : List Frame} {a : AFrame} {acs : List AFrame} {f : Frame} {cs : List Frame} {W : World} {all : List Oper} {i : Nat} {s : DSt} {busy : Bool} {k : List AItem} (hc : CR P base cs0 ρ (drawC a acs all i s busy k) f cs W) (hm : a.mode = .run) {i' : Nat} {busy' : Bool}
    (h : ∀ tmps order k', f.todo = .inRegion all.toArray order :: k' → DrawR P ρ all i s.res s.al a.n a.tm tmps order → (busy = true → HeadR all i s.res order) → (busy = false → Pend P s.H all s.res s.al a.tm order) →
      (∀ j, j < i' → j < all.length → s.res.get j ≠ none) ∧ (busy' = true → HeadR all i' s.res order) ∧ (busy' = false → Pend P s.H all s.res s.al a.tm order)) : CR P base cs0 ρ (drawC a acs all i' s busy' k) f cs W := by
  have hpend := hc.pend
  obtain ⟨tmps, todo, ds, rnd, rfl, hrnd, hds, order, k', rfl, hk, hd, hh⟩ := hc.top.open hm
  obtain ⟨h1, h2, h3⟩ := h tmps order k' rfl hd hh (fun hb => by subst hb; exact hpend hm all i s.res s.al k rfl order k' rfl)
  refine ⟨hc.heap, hc.old, hc.big, FR.close (a := { a with todo := .draw all i' s.res s.al busy' :: k }) hm rfl rfl hrnd hds ⟨order, k', rfl, hk, { hd with behind := h1 }, h2⟩, ?_, hc.rest, hc.ids, hc.idlt⟩
  intro _ all2 i2 res2 al2 kk hh2 order2 k3 hh3
  simp only [List.cons.injEq, AItem.draw.injEq] at hh2
  obtain ⟨⟨rfl, rfl, rfl, rfl, hb⟩, rfl⟩ := hh2
  simp only [List.cons.injEq, Item.inRegion.injEq, true_and] at hh3
  obtain ⟨rfl, rfl⟩ := hh3
  exact h3 hb

theorem split_mem {x : Nat} {l : List Nat} (h : x ∈ l) : ∃ p q, l = p ++ x :: q := List.append_of_mem h

theorem drawStep_sound (fit : Fit P) {base : Nat} {cs0 : List Frame} {a : AFrame} {acs : List AFrame} {f : Frame} {cs : List Frame} {W : World} {all : List Oper} {i : Nat} {s : DSt} {busy : Bool} {k : List AItem} (hc : CR P base cs0 ρ (drawC a acs all i s busy k) f cs W) (hm : a.mode = .run)
    {c' : Cfg} (h : drawStep (envOf P) { a with todo := .draw all i s.res s.al busy :: k } acs s.H all i s.res s.al busy k = some c') : Leads P base cs0 c' f cs W := by
  unfold drawStep at h
  cases busy with
  | true =>
    simp only [cond_true] at h
    obtain ⟨hb, h⟩ := shutTrue h
    simp only [Option.some.injEq] at h
    subst h
    rw [Bool.and_eq_true] at hb
    have hri : s.res.get i ≠ none := fun hn => by have := hb.1; rw [hn] at this; cases this
    refine Leads.now (ρ := ρ) (hc.redraw hm (i' := Nat.succ i) (busy' := false) fun tmps order k' _ hd hh _ => ⟨fun j hj hjl => ?_, fun h => (by cases h), fun _ => ?_⟩)
    · by_cases e : j = i
      · subst e; exact hri
      · exact hd.behind j (by omega) hjl
    · intro j o r hj hjo hrj hw
      obtain ⟨g1, g2⟩ := (hh rfl).2 hri
      have hji : j ≠ i := fun e => by subst e; exact g1 hjo
      rcases recheck_get hb.2 j o r hj hji (g2 j hjo) hrj with h1 | ⟨h1, h2, h3⟩
      · rw [h1] at hw; cases hw
      · exact ⟨fun hk => ⟨_, EvLe.refl _, h2 hk⟩, h3⟩
  | false =>
    simp only [cond_false] at h
    cases hai : all[i]? with
    | none =>
      rw [hai] at h
      simp only at h
      have hlen : all.length ≤ i := List.getElem?_eq_none_iff.1 hai
      cases ht : drawTm a.n s.res all 0 a.tm with
      | none => rw [ht] at h; cases h
      | some tm =>
        rw [ht] at h
        simp only [Option.some.injEq] at h
        subst h
        obtain ⟨tmps, todo, ds, rnd, rfl, hrnd, hds, order, k', rfl, hk, hd, hh⟩ := hc.top.open hm
        obtain ⟨ρ1, fr1, W1, g1, g2, g3, g4, g5⟩ := run_pre (c := drawC a acs all i s false k) hm rfl (post := []) (k' := k') order ρ _ W hc (by simp) (fun j hj => hd.behind j (Nat.lt_of_lt_of_le (hd.left.lt j hj) hlen) (hd.left.lt j hj))
        refine Leads.after g1 g4 g5 ?_
        have hids := g2.ids
        have hlt := g2.idlt
        obtain ⟨tmps1, todo1, ds1, rnd1, rfl, hrnd1, hds1, order1, k1, rfl, hk1, hd1, hh1⟩ := g2.top.open hm
        simp only [List.cons.injEq, Item.inRegion.injEq, true_and] at g3
        obtain ⟨rfl, rfl⟩ := g3
        have hT : TR ρ1 a.n tm tmps1 := drawTm_sound hd1.size all 0 a.tm tm (fun q o hq => hd1.done q o hq (by simp)) (fun t hn => hd1.base t fun q o hq _ => hn o (List.mem_of_getElem? hq)) ht
        obtain ⟨e1, e2⟩ := hk1.plain
        refine ⟨ρ1, _, cs, W1, Steps.one st_regionEnd, ⟨g2.heap, g2.old, g2.big, FR.close (a := { a with tm, todo := k }) hm rfl rfl hrnd1 hds1 (TodoR.of hk1 hT), fun _ => no_pend e2, g2.rest, ?_, ?_⟩, fun _ _ => rfl, Rest.refl _⟩
        · unfold idsC at *; simp only at *; rw [e1]; exact (List.nodup_append.1 hids).2.1
        · intro id hid
          refine hlt id ?_
          unfold idsC at *; simp only at *; rw [e1] at hid; exact List.mem_append.2 (.inr hid)
    | some o =>
      rw [hai] at h
      simp only at h
      cases hri : s.res.get i with
      | some v =>
        rw [hri] at h
        simp only [Option.some.injEq] at h
        subst h
        refine Leads.now (ρ := ρ) (hc.redraw hm (i' := Nat.succ i) (busy' := false) fun tmps order k' _ hd _ hp => ⟨fun j hj hjl => ?_, fun h => (by cases h), fun _ => hp rfl⟩)
        by_cases e : j = i
        · subst e; rw [hri]; simp
        · exact hd.behind j (by omega) hjl
      | none =>
        rw [hri] at h
        simp only at h
        have hq : ∀ c'', (match dquiet (envOf P) all a.tm i o s with
            | some s' => some (drawC a acs all (Nat.succ i) s' false k)
            | none => none) = some c'' → Leads P base cs0 c'' f cs W := by
          intro c'' h
          cases hd : dquiet (envOf P) all a.tm i o s with
          | none => rw [hd] at h; cases h
          | some s' =>
            rw [hd] at h
            simp only [Option.some.injEq] at h
            subst h
            obtain ⟨g1, g2, g3⟩ := dquiet_sound hc hm hai hri hd
            refine Leads.now (ρ := ρ) (g1.redraw hm (i' := Nat.succ i) (busy' := false) fun tmps order k' _ hd _ hp => ⟨fun j hj hjl => ?_, fun h => (by cases h), fun _ => hp rfl⟩)
            by_cases e : j = i
            · subst e; exact g2
            · exact hd.behind j (by omega) hjl
        split at h
        · rename_i hw hk
          obtain ⟨_, h⟩ := shutTrue h
          cases hp : prepass (envOf P) (masks all) all a.tm i all 0 s with
          | none => have hp' : prepass (envOf P) (masks all) all a.tm i all 0 { res := s.res, al := s.al, H := s.H } = none := hp
                    rw [hp'] at h; cases h
          | some s1 =>
            have hp' : prepass (envOf P) (masks all) all a.tm i all 0 { res := s.res, al := s.al, H := s.H } = some s1 := hp
            rw [hp'] at h
            simp only at h
            obtain ⟨g1, g2, g3, g4⟩ := prepass_sound hm all 0 s s1 (fun q => rfl) hc hp
            cases he : eop (envOf P) s1.H (evD all s1.res a.tm i) o.op with
            | none => rw [he] at h; cases h
            | some r =>
              rw [he] at h
              simp only at h
              have g2 := g2 hri
              obtain ⟨tmps, todo, ds, rnd, rfl, hrnd, hds, order, k', rfl, hkk, hd, hh⟩ := g1.top.open hm
              have hio : i ∈ order := by
                rcases Decidable.em (i ∈ order) with h1 | h1
                · exact h1
                · obtain ⟨r', h2, _⟩ := hd.done i o hai h1
                  rw [g2] at h2; cases h2
              obtain ⟨pre, post, rfl⟩ := split_mem hio
              have hpre : ∀ j ∈ pre, s1.res.get j ≠ none := by
                intro j hj
                have hjl := hd.left.lt j (by simp [hj])
                rcases Nat.lt_trichotomy j i with e | e | e
                · exact hd.behind j e hjl
                · subst e
                  have := hd.left.nodup
                  exact absurd rfl ((List.nodup_append.1 this).2.2 j hj j (by simp))
                · refine g4 j (Nat.zero_le _) (by simpa using hjl) e ?_
                  have := List.pairwise_append.1 hd.left.lin
                  exact this.2.2 j hj i (by simp)
              obtain ⟨ρ1, fr1, W1, f1, f2, f3, f4, f5⟩ := run_pre (c := drawC a acs all i s1 false k) hm rfl (post := i :: post) (k' := k') pre ρ _ W g1 rfl hpre
              refine Leads.after f1 f4 f5 ?_
              have hb := f2.redraw hm (i' := i) (busy' := true) fun tmps order k2 hf hd _ _ => ⟨hd.behind, fun _ => ⟨fun _ => by rw [f3] at hf; simp only [List.cons.injEq, Item.inRegion.injEq, true_and] at hf; rw [← hf.1]; rfl, fun hn => absurd g2 hn⟩, fun h => by cases h⟩
              obtain ⟨tmps1, todo1, ds1, rnd1, rfl, hrnd1, hds1, order1, k1, rfl, hk1, hd1, hh1⟩ := f2.top.open hm
              simp only [List.cons.injEq, Item.inRegion.injEq, true_and] at f3
              obtain ⟨rfl, rfl⟩ := f3
              have hw1 : wantedA s1.res.get o = some true := wantedA_ext g3 hw
              exact outcome_sound hb hm rfl (by simpa using hai) (hd1.wants hai hw1) (exec1_defer (E := envOf P) (H := s1.H) (v := evD all s1.res a.tm i) (o := o.op) (r := r) (by unfold exec1; rw [hk]; exact he)) (eop_sound fit f2.heap (hd1.sees (fr := mkF a.fn tmps1 _ ds1 a.kind rnd1) hai) he) h
        · exact hq _ h

end
end Go.Eng
/-! Frames that unwind: results, deferred calls, panics that go up. -/
namespace Go.Eng

section
variable {P : Program} {ρ : Ren}

def resOne (tmps : Array Value) : ResultVar → Sem Value
  | .tmp t => pure (tmps.getD t Go.undef)
  | .cell a t => do loadVar t (← asAddr (tmps.getD a Go.undef))

theorem resOne_sound {H : AHeap} {W : World} (hr : HR ρ H W.heap) {n : Nat} {tm : T AVal} {tmps : Array Value} (ht : TR ρ n tm tmps) {x : ResultVar} {v : AVal} (h : resultA (envOf P) H tm x = some v) :
    ∃ y W', (resOne tmps x).run P W = .ok y W' ∧ VR ρ v y ∧ HR ρ H W'.heap ∧ Kept ρ W.heap W'.heap ∧ Rest W W' := by
  cases x with
  | tmp t =>
    simp only [resultA, Option.some.injEq] at h
    subst h
    exact ⟨_, W, rfl, ht.2 t, hr, Kept.refl _ _, Rest.refl _⟩
  | cell a t =>
    have hv := ht.2 a
    have h : loadA (tyOf P) H t (tget tm a) = some v := h
    obtain ⟨y, W', h1, h2⟩ := loadA_sound hr hv h
    refine ⟨y, W', ?_, h2⟩
    rw [← h1]
    have hp : ∃ p, tget tm a = .ptr (some p) := by
      unfold loadA at h
      split at h
      · rename_i b i h3; exact ⟨_, h3⟩
      · cases h
    obtain ⟨p, hp⟩ := hp
    rw [hp] at hv
    obtain ⟨w, _, _, hv⟩ := hv
    simp only [resOne]
    rw [hv]
    rfl

theorem resAll_sound {H : AHeap} {n : Nat} {tm : T AVal} {tmps : Array Value} (ht : TR ρ n tm tmps) : ∀ (l : List ResultVar) (W : World) (vs : List AVal), HR ρ H W.heap → resultsL (envOf P) H tm l = some vs →
    ∃ ys W', (l.mapM (resOne tmps)).run P W = .ok ys W' ∧ VRs ρ vs ys ∧ HR ρ H W'.heap ∧ Kept ρ W.heap W'.heap ∧ Rest W W'
  | [], W, vs, hr, h => by
    simp only [resultsL, Option.some.injEq] at h
    subst h
    exact ⟨[], W, by simp, rfl, hr, Kept.refl _ _, Rest.refl _⟩
  | x :: l, W, vs, hr, h => by
    unfold resultsL at h
    cases h1 : resultA (envOf P) H tm x with
    | none => rw [h1] at h; cases h
    | some v =>
      cases h2 : resultsL (envOf P) H tm l with
      | none => rw [h1, h2] at h; cases h
      | some vs' =>
        rw [h1, h2] at h
        simp only [Option.some.injEq] at h
        subst h
        obtain ⟨y, W1, g1, g2, g3, g4, g5⟩ := resOne_sound hr ht h1
        obtain ⟨ys, W2, f1, f2, f3, f4, f5⟩ := resAll_sound ht l W1 vs' g3 h2
        refine ⟨y :: ys, W2, ?_, ⟨y, ys, rfl, g2, f2⟩, f3, g4.trans (Ext.refl ρ 0 _) f4, g5.trans f5⟩
        rw [List.mapM_cons]
        simp only [Sem.run_bind, g1, Result.andThen_ok, f1, Sem.run_pure]

theorem results_sound {H : AHeap} {W : World} (hr : HR ρ H W.heap) {n : Nat} {tm : T AVal} {tmps : Array Value} (ht : TR ρ n tm tmps) {f : Nat} {v : AVal} (h : resultsA (envOf P) H f tm = some v) :
    ∃ fn y W', P.funcs[f]? = some fn ∧ (results fn tmps).run P W = .ok y W' ∧ VR ρ v y ∧ HR ρ H W'.heap ∧ Kept ρ W.heap W'.heap ∧ Rest W W' := by
  unfold resultsA at h
  cases hf : (envOf P).fn f with
  | none => rw [hf] at h; cases h
  | some fn =>
    rw [hf] at h
    simp only at h
    have hf : P.funcs[f]? = some fn := hf
    cases hl : resultsL (envOf P) H tm fn.results.toList with
    | none => rw [hl] at h; cases h
    | some vs =>
      obtain ⟨yl, W', g1, g2, g3, g4, g5⟩ := resAll_sound ht fn.results.toList W vs hr hl
      obtain ⟨ys, rfl⟩ : ∃ ys : Array Value, yl = ys.toList := ⟨yl.toArray, by simp⟩
      have hrun : (results fn tmps).run P W = .ok (if h : ys.size = 1 then ys[0] else .tuple ys) W' := by
        unfold results
        have : (fn.results.mapM (resOne tmps)).run P W = .ok ys W' := by
          rw [Array.mapM_eq_mapM_toList, map_eq_pure_bind]
          simp only [Sem.run_bind, g1, Result.andThen_ok, Sem.run_pure, Array.toArray_toList]
        show Sem.run P (do let vs ← fn.results.mapM (resOne tmps); _) W = _
        simp only [Sem.run_bind, this, Result.andThen_ok]
        rfl
      refine ⟨fn, _, W', hf, hrun, ?_, g3, g4, g5⟩
      rw [hl] at h
      have hlen := g2.length
      simp only [Array.length_toList] at hlen
      cases vs with
      | nil =>
        simp only [Option.some.injEq] at h
        subst h
        rw [dif_neg (by rw [← hlen]; simp)]
        exact ⟨ys, rfl, g2⟩
      | cons v0 vs =>
        cases vs with
        | nil =>
          simp only [Option.some.injEq] at h
          subst h
          have h1 : ys.size = 1 := by rw [← hlen]; rfl
          rw [dif_pos h1]
          obtain ⟨y, l, e1, e2, e3⟩ := g2
          cases e3
          have : ys = #[y] := Array.toList_inj.1 e1
          subst this
          exact e2
        | cons v1 vs =>
          simp only [Option.some.injEq] at h
          subst h
          rw [dif_neg (by rw [← hlen]; simp)]
          exact ⟨ys, rfl, g2⟩

end
end Go.Eng
/-! Frames that unwind. -/
namespace Go.Eng

section
variable {P : Program} {ρ : Ren}

theorem mode_ne {a : AMode} {m : FrameMode} (h : MR ρ a m) (hn : a ≠ .run) : m ≠ .run := by
  cases a with
  | run => exact absurd rfl hn
  | returning => rw [show m = .returning from h]; simp
  | panicking ch => obtain ⟨ch', h1, _⟩ := h; rw [h1]; simp

theorem stG_unwind {f : Frame} {cs : List Frame} {W : World} (hm : f.mode ≠ .run) : stepG P true { frame := f, callers := cs, status := .running, dying := none } W = unwind P true f cs none W := by
  obtain ⟨fn, tmps, todo, defers, mode, kind, rnd⟩ := f
  cases mode with
  | run => exact absurd rfl hm
  | _ => rfl

theorem unwind_sound (fit : Fit P) {base : Nat} {cs0 : List Frame} {a : AFrame} {acs : List AFrame} {H : AHeap} {f : Frame} {cs : List Frame} {W : World} (hc : CR P base cs0 ρ ⟨a, acs, H⟩ f cs W) (hm : a.mode ≠ .run) {c' : Cfg} (h : unwindA (envOf P) a acs H = some c') : Leads P base cs0 c' f cs W := by
  have hmf := mode_ne hc.top.mode hm
  have hds := hc.top.ds
  have hids := hc.ids
  have hlt := hc.idlt
  unfold idsC at hids hlt
  simp only at hds hids hlt
  unfold unwindA at h
  cases had : a.ds with
  | cons d ds =>
    rw [had] at h hds
    obtain ⟨dd, ds', hfd, hd, hds'⟩ := hds
    cases d with
    | collected b =>
      simp only at h
      obtain ⟨w, hw, rfl⟩ := hd
      cases hb : H.bs.get b with
      | none => rw [hb] at h; cases h
      | some blk =>
        cases blk with
        | deferred oc =>
          cases oc with
          | none => rw [hb] at h; cases h
          | some calls =>
            rw [hb] at h
            simp only [Option.some.injEq] at h
            subst h
            obtain ⟨oc', h1, h2⟩ := hc.heap.blk b _ w hb hw
            cases oc' with
            | none => exact h2.elim
            | some calls' =>
              have hrun : (Instr.takeDeferred w.c).run P W = .ok calls' { W with heap := W.heap.setIfInBounds w.c (.deferred none) } := by
                simp [Instr.takeDeferred, getObj, setObj, Sem.run, h1]
              refine ⟨ρ, { f with defers := calls' ++ ds' }, cs, { W with heap := W.heap.setIfInBounds w.c (.deferred none) }, Steps.one (step_lone_go ?_), ⟨?_, hc.old, by simpa using hc.big, ⟨hc.top.fn, hc.top.kind, hc.top.rnd, h2.append hds', hc.top.mode, fun h => absurd h hm, fun h => hc.top.held h⟩, fun h => absurd h hm, hc.rest, hids, hlt⟩, (Kept.set hw _).below hc.old hc.big, ⟨rfl, rfl, rfl⟩⟩
              · rw [stG_unwind hmf]
                unfold unwind
                rw [hfd]
                simp [hrun]
              · refine hc.heap.setObj hb (fun _ _ _ _ h => by cases h) (fun _ _ _ _ h => by cases h) hw ⟨none, ?_, trivial⟩
                rw [Array.getElem?_setIfInBounds]
                simp [hc.heap.lt b w hw]
        | _ => rw [hb] at h; cases h
    | fn g captured args =>
      cases g with
      | yield l => exact hd.elim
      | fn g0 =>
        obtain ⟨g, rfl, cap', args', rfl, h1, h2⟩ := hd
        simp only at h
        cases hfn : (envOf P).fn g with
        | none => rw [hfn] at h; cases h
        | some fn =>
          rw [hfn] at h
          simp only at h
          have hfn : P.funcs[g]? = some fn := hfn
          cases hb : fn.body with
          | none => rw [hb] at h; cases h
          | some body =>
            rw [hb] at h
            simp only [pushFrame] at h
            cases he : enterA (envOf P) g (args ++ captured) .deferred with
            | none => rw [he] at h; cases h
            | some b =>
              rw [he] at h
              simp only [Option.some.injEq] at h
              subst h
              have hvr : VRs ρ (args ++ captured) (args' ++ cap').toList := by rw [Array.toList_append]; exact h2.append h1
              obtain ⟨g1, g2, g3, g4⟩ := enter_sound hvr he
              have hrun : (callFunc g (args' ++ cap')).run P W = .ok (.enter g (args' ++ cap')) W := run_callFunc fit hfn (by rw [hb]; simp) _
              refine ⟨ρ, _, { f with defers := ds' } :: cs, W, Steps.one (step_lone_go ?_), ⟨hc.heap, hc.old, hc.big, g1, fun _ => no_pend g4, ⟨_, cs, rfl, ⟨hc.top.fn, hc.top.kind, hc.top.rnd, hds', hc.top.mode, fun h => absurd h hm, fun h => hc.top.held h⟩, hc.rest⟩, ?_, ?_⟩, fun _ _ => rfl, Rest.refl _⟩
              · rw [stG_unwind hmf]
                unfold unwind
                rw [hfd]
                simp [callDeferred, invoke, hrun]
              · unfold idsC; simp only [List.flatMap_cons]; rw [g2]; exact hids
              · unfold idsC; simp only [List.flatMap_cons]; rw [g2]; exact hlt
  | nil =>
    rw [had] at h hds
    have hfd : f.defers = [] := hds
    simp only at h
    have hmode := hc.top.mode
    simp only at hmode
    cases ham : a.mode with
    | run => exact absurd ham hm
    | panicking chain =>
      rw [ham] at h hmode
      obtain ⟨ch, e1, e2⟩ := hmode
      simp only at h
      cases hfn : (envOf P).fn a.fn with
      | none => rw [hfn] at h; cases h
      | some fn =>
        have hfn2 : P.funcs[f.fn]? = some fn := by rw [hc.top.fn]; exact hfn
        rw [hfn] at h
        cases acs with
        | nil => cases h
        | cons c0 arest =>
          simp only at h
          obtain ⟨fc, fs, rfl, hcf, hcr⟩ := hc.rest
          cases hr : raiseA c0 chain with
          | none => rw [hr] at h; cases h
          | some c1 =>
            rw [hr] at h
            simp only [Option.some.injEq] at h
            subst h
            obtain ⟨g1, g2, g3⟩ := raise_sound hcf e2 hr
            simp only [List.flatMap_cons] at hids hlt
            refine ⟨ρ, _, fs, W, Steps.one (step_lone_go ?_), ⟨hc.heap, hc.old, hc.big, g1, fun h => absurd h g3, hcr, ?_, ?_⟩, fun _ _ => rfl, Rest.refl _⟩
            · rw [stG_unwind hmf]
              simp [unwind, hfd, e1, Frame.catches, hfn2]
            · unfold idsC; simp only; rw [g2]; exact (List.nodup_append.1 hids).2.1
            · intro id hid
              unfold idsC at hid; simp only at hid; rw [g2] at hid
              exact hlt id (List.mem_append.2 (.inr hid))
    | returning =>
      rw [ham] at h hmode
      have e1 : f.mode = .returning := hmode
      simp only at h
      cases acs with
      | nil => cases h
      | cons c0 arest =>
        simp only at h
        cases hres : resultsA (envOf P) H a.fn a.tm with
        | none => rw [hres] at h; cases h
        | some v =>
          rw [hres] at h
          simp only at h
          obtain ⟨fn, y, W', r1, r2, r3, r4, r5, r6⟩ := results_sound hc.heap (hc.top.held hm) hres
          have hfn2 : P.funcs[f.fn]? = some fn := by rw [hc.top.fn]; exact r1
          refine return_sound r4 hc.old (Nat.le_trans hc.big r5.1) hc.top.kind hc.rest (List.nodup_append.1 hids).2.1 (fun id hid => hlt id (List.mem_append.2 (.inr hid))) r3 h ?_ (r5.below hc.old hc.big) r6
          rw [stG_unwind hmf]
          simp [unwind, hfd, e1, hfn2, r2]

end
end Go.Eng
/-! Loops over functions; the step as a whole. -/
namespace Go.Eng

section
variable {P : Program} {ρ : Ren}

theorem begin_sound {base : Nat} {cs0 : List Frame} {a : AFrame} {acs : List AFrame} {H : AHeap} {f : Frame} {cs : List Frame} {W : World} (hc : CR P base cs0 ρ ⟨a, acs, H⟩ f cs W) (hm : a.mode = .run) {k : List AItem} (htd : a.todo = .beginRound :: k) {c' : Cfg}
    (h : execA (envOf P) a acs H = some c') : Leads P base cs0 c' f cs W := by
  have hids := hc.ids
  have hlt := hc.idlt
  unfold idsC at hids hlt
  simp only at hids hlt
  obtain ⟨tmps, todo, ds, rnd, rfl, hrnd, hds, ht⟩ := hc.top.open hm
  simp only at hrnd hds ht
  rw [htd] at ht
  obtain ⟨⟨k', rfl, h3⟩, h4⟩ := ht
  unfold execA at h
  rw [htd] at h
  simp only at h
  cases hr : a.rnd with
  | none => rw [hr] at h; cases h
  | some l =>
    rw [hr] at h hrnd
    obtain ⟨w, hw, rfl⟩ := hrnd
    simp only at h
    cases hb : H.bs.get l with
    | none => rw [hb] at h; cases h
    | some blk =>
      rw [hb] at h
      cases blk with
      | loop st p fn n tm ps as bd dd =>
        cases st with
        | ready =>
          simp only [Option.some.injEq] at h
          subst h
          obtain ⟨tm', wd, h1, h2, h5, h6, h7⟩ := loop_block (P := P) hc.heap hb hw
          obtain ⟨g1, g2⟩ := h7 .busy p
          obtain ⟨e1, e2⟩ := h3.plain
          refine ⟨ρ, mkF a.fn tmps k' ds a.kind (some w.c), cs, { W with heap := W.heap.setIfInBounds w.c (.loop (mkLoop .busy p fn tm' ps.toArray as bd wd.c)) }, Steps.one (step_lone_go ?_), ⟨g2, hc.old, by simpa using hc.big, FR.close (a := { a with todo := k, rnd := some l }) hm rfl rfl ⟨w, hw, rfl⟩ hds (TodoR.of h3 h4), fun _ => no_pend e2, hc.rest, ?_, ?_⟩, (Kept.set hw _).below hc.old hc.big, ⟨rfl, rfl, rfl⟩⟩
          · have hrun : (Instr.beginRound w.c).run P W = .ok () { W with heap := W.heap.setIfInBounds w.c (.loop (mkLoop .busy p fn tm' ps.toArray as bd wd.c)) } := by
              unfold Instr.beginRound
              simp only [Sem.run_bind, h6, Result.andThen_ok]
              exact congrArg (Result.andThen · _) g1
            simp [stepG, stepG.exec, stepG.apply, hrun, Frame.finish]
          · unfold idsC; simp only; rw [e1]; exact (List.nodup_append.1 hids).2.1
          · intro id hid
            unfold idsC at hid; simp only at hid; rw [e1] at hid
            exact hlt id (List.mem_append.2 (.inr hid))
        | _ => cases h
      | _ => cases h

theorem jump_IRs {p : Option Code} {k : List AItem} {k' : List Item} (h : IRs ρ k k') : IRs ρ (jumpItems p ++ k) ((p.map Item.code).toList ++ k') := by
  cases p with
  | none => exact h
  | some c => exact ⟨k', rfl, h⟩

theorem endLoop_sound {base : Nat} {cs0 : List Frame} {a : AFrame} {acs : List AFrame} {H : AHeap} {f : Frame} {cs : List Frame} {W : World} (hc : CR P base cs0 ρ ⟨a, acs, H⟩ f cs W) (hm : a.mode = .run) {l : Nat} {k : List AItem} (htd : a.todo = .endRangeFunc l :: k) {c' : Cfg}
    (h : execA (envOf P) a acs H = some c') : Leads P base cs0 c' f cs W := by
  have hids := hc.ids
  have hlt := hc.idlt
  unfold idsC at hids hlt
  simp only at hids hlt
  obtain ⟨tmps, todo, ds, rnd, rfl, hrnd, hds, ht⟩ := hc.top.open hm
  simp only at hrnd hds ht
  rw [htd] at ht
  obtain ⟨⟨w, k', hw, rfl, h3⟩, h4⟩ := ht
  unfold execA at h
  rw [htd] at h
  simp only at h
  cases hb : H.bs.get l with
  | none => rw [hb] at h; cases h
  | some blk =>
    rw [hb] at h
    cases blk with
    | loop st p fn n tm ps as bd dd =>
      simp only at h
      have hst : st ≠ .busy := fun e => by subst e; cases h
      have h : some (⟨{ a with todo := jumpItems p ++ k }, acs, H.setObj l (.loop .exhausted p fn n tm ps as bd dd)⟩ : Cfg) = some c' := by
        cases st <;> first | exact absurd rfl hst | exact h
      simp only [Option.some.injEq] at h
      subst h
      obtain ⟨tm', wd, h1, h2, h5, h6, h7⟩ := loop_block (P := P) hc.heap hb hw
      obtain ⟨g1, g2⟩ := h7 .exhausted p
      obtain ⟨e1, e2⟩ := (jump_IRs (p := p) h3).plain
      refine ⟨ρ, mkF a.fn tmps ((p.map Item.code).toList ++ k') ds a.kind rnd, cs, { W with heap := W.heap.setIfInBounds w.c (.loop (mkLoop .exhausted p fn tm' ps.toArray as bd wd.c)) }, Steps.one (step_lone_go ?_), ⟨g2, hc.old, by simpa using hc.big, FR.close (a := { a with todo := jumpItems p ++ k }) hm rfl rfl hrnd hds (TodoR.of (jump_IRs h3) h4), fun _ => no_pend e2, hc.rest, ?_, ?_⟩, (Kept.set hw _).below hc.old hc.big, ⟨rfl, rfl, rfl⟩⟩
      · have hrun : (Instr.endLoop w.c).run P W = .ok p { W with heap := W.heap.setIfInBounds w.c (.loop (mkLoop .exhausted p fn tm' ps.toArray as bd wd.c)) } := by
          unfold Instr.endLoop
          simp only [Sem.run_bind, h6, Result.andThen_ok]
          have hne : ((mkLoop st p fn tm' ps.toArray as bd wd.c).state == .busy) = false := by cases st <;> first | exact absurd rfl hst | rfl
          rw [hne, if_neg (by simp)]
          simp only [Sem.run_bind]
          exact congrArg (Result.andThen · _) g1
        simp [stepG, stepG.exec, hrun]
      · unfold idsC; simp only; rw [e1]; exact (List.nodup_append.1 hids).2.1
      · intro id hid
        unfold idsC at hid; simp only at hid; rw [e1] at hid
        exact hlt id (List.mem_append.2 (.inr hid))
    | _ => cases h

end
end Go.Eng
/-! A loop over a function begins. -/
namespace Go.Eng

section
variable {P : Program} {ρ : Ren}

/-- Two objects that are no rows of cells, pushed. -/
theorem push_obj {base : Nat} {H : AHeap} {h : Array Obj} (hr : HR ρ H h) (hold : ∀ b w, ρ b = some w → base ≤ w.c) (hb : base ≤ h.size) {blk : ABlk} (hn : ∀ cs n d g, blk ≠ .cells cs n d g) {o : Obj}
    (hbr : ∀ ρ', ρ.le ρ' → BR ρ' ⟨h.size, 0, 0, 0⟩ (h.push o) blk) : ∃ ρ', ρ.le ρ' ∧ ρ' H.next = some ⟨h.size, 0, 0, 0⟩ ∧ HR ρ' (H.push blk) (h.push o) ∧ (∀ b w, ρ' b = some w → base ≤ w.c) ∧ Ext ρ H.next h ρ' := by
  have hfr := hr.fresh H.next (Nat.le_refl _)
  have hE : Ext ρ H.next h (fun x => if x = H.next then some ⟨h.size, 0, 0, 0⟩ else ρ x) := Ext.place hfr.2.1 (Nat.le_refl _) rfl
  exact ⟨_, hE.le, if_pos rfl, hr.push (fun cs n d g e => absurd e (hn cs n d g)) rfl (hbr _ hE.le), hE.old hold hb, hE⟩

theorem st_rangeFunc {fn : FuncId} {tmps : Array Value} {k : List Item} {ds : List Deferred} {kind : CallKind} {rnd : Option Nat} {cs : List Frame} {W W1 : World} {g : Operand} {ps : Array Nat} {as bd : Code} {l : Nat} {mark : List Deferred}
    (h1 : (Instr.enterLoop fn tmps ps as bd rnd).run P W = .ok (l, mark) W1) {q : Nat} {args : Array Value} {W2 : World}
    (h2 : (do let d ← Deferred.ofValue ((mkF fn tmps (.inRangeFunc l :: k) (mark ++ ds) kind rnd).eval g) #[.func (.yield l) #[] #[]]; invoke d.target d.args : Sem Next).run P W1 = .ok (.enter q args) W2) :
    step P (lone (mkF fn tmps (.code (.rangeFunc g ps as bd) :: k) ds kind rnd) cs W) = .next (lone (Frame.enter P q args .normal) (mkF fn tmps (.inRangeFunc l :: k) (mark ++ ds) kind rnd :: cs) W2) :=
  step_lone_go (by
    have h2' : (do let d ← resolve (mkF fn tmps (.inRangeFunc l :: k) (mark ++ ds) kind rnd).eval { callee := .value g, args := #[.const (.func (.yield l) #[] #[])], argTypes := #[] } 0; invoke d.target d.args : Sem Next).run P W1 = .ok (.enter q args) W2 := by
      have e : ∀ ev : Operand → Value, (∀ v, ev (.const v) = v) → resolve ev { callee := .value g, args := #[.const (.func (.yield l) #[] #[])], argTypes := #[] } 0 = Deferred.ofValue (ev g) #[.func (.yield l) #[] #[]] := fun ev hev => by simp [resolve, hev]
      rw [e _ (fun _ => rfl)]
      exact h2
    simp [stepG, stepG.exec, stepG.apply, h1, h2'])

end
end Go.Eng
/-! A loop over a function begins, with or without a round around it. -/
namespace Go.Eng

section
variable {P : Program} {ρ : Ren}

theorem enterLoop_none {fn : FuncId} {tmps : Array Value} {ps : Array Nat} {as bd : Code} {W : World} :
    (Instr.enterLoop fn tmps ps as bd none).run P W = .ok (W.heap.size + 1, [{ target := .collected W.heap.size, args := #[] }])
      { W with heap := (W.heap.push (.deferred (some []))).push (.loop (mkLoop .ready none fn tmps ps as bd W.heap.size)) } := by
  unfold Instr.enterLoop
  simp [newObj, Sem.run, mkLoop]
  rfl

theorem enterLoop_some {fn : FuncId} {tmps : Array Value} {ps : Array Nat} {as bd : Code} {W : World} {c : Nat} {r : Loop} (h : (Instr.getLoop c).run P W = .ok r W) :
    (Instr.enterLoop fn tmps ps as bd (some c)).run P W = .ok (W.heap.size, []) { W with heap := W.heap.push (.loop (mkLoop .ready none fn tmps ps as bd r.defers)) } := by
  unfold Instr.enterLoop
  simp only [Sem.run_bind, h, Result.andThen_ok, Sem.run_pure]
  simp [newObj, Sem.run, mkLoop]

theorem goLoop_sound (fit : Fit P) {base : Nat} {cs0 : List Frame} {a : AFrame} {acs : List AFrame} {H H1 : AHeap} {cs : List Frame} {W W1 : World} {tmps : Array Value} {ds : List Deferred} {rnd : Option Nat} {g : Operand} {ps : Array Nat} {as bd : Code} {k : List AItem} {k' : List Item}
    (hc : CR P base cs0 ρ ⟨a, acs, H⟩ (mkF a.fn tmps (.code (.rangeFunc g ps as bd) :: k') ds a.kind rnd) cs W) (hm : a.mode = .run) (hk : IRs ρ k k') (hT : TR ρ a.n a.tm tmps)
    {ρ1 : Ren} (hE1 : Ext ρ H.next W.heap ρ1) (hr1 : HR ρ1 H1 W1.heap) (hold1 : ∀ b w, ρ1 b = some w → base ≤ w.c) (hbig1 : base ≤ W1.heap.size) (hn1 : H.next ≤ H1.next) (hsame : ∀ i, i < base → W1.heap[i]? = W.heap[i]?)
    {dd : Nat} {wd : Win} (hdd : ρ1 dd = some wd) {mark : List ADef} {mark' : List Deferred} (hmark : DRs ρ1 mark mark') (hrest : Rest W W1)
    (hrun : (Instr.enterLoop a.fn tmps ps as bd rnd).run P W = .ok (W1.heap.size, mark') { W1 with heap := W1.heap.push (.loop (mkLoop .ready none a.fn tmps ps as bd wd.c)) })
    {c' : Cfg} (h : execA.goLoop (envOf P) a acs g ps as bd H1 dd mark k = some c') (htd : idsOf a.todo = []) : Leads P base cs0 c' (mkF a.fn tmps (.code (.rangeFunc g ps as bd) :: k') ds a.kind rnd) cs W := by
  have hids := hc.ids
  have hlt := hc.idlt
  unfold idsC at hids hlt
  simp only at hids hlt
  rw [htd] at hids hlt
  unfold execA.goLoop at h
  simp only at h
  cases hev : evT a.tm g with
  | func q first captured =>
    rw [hev] at h
    cases q with
    | yield l => cases h
    | fn q0 =>
      cases q0 with
      | func g0 =>
        simp only [pushFrame] at h
        cases he : enterA (envOf P) g0 (first ++ [.func (.yield H1.next) [] []] ++ captured) .normal with
        | none => rw [he] at h; cases h
        | some b =>
          rw [he] at h
          simp only [Option.some.injEq] at h
          subst h
          have hT1 := hT.mono hE1.le
          obtain ⟨ρ2, hle2, hl2, hr2, hold2, hE2⟩ := push_obj (blk := .loop .ready none a.fn a.n a.tm ps.toList as bd dd) hr1 hold1 hbig1 (fun _ _ _ _ h => by cases h)
            (o := .loop (mkLoop .ready none a.fn tmps ps as bd wd.c)) (fun ρ' hle => ⟨tmps, wd, by simp [mkLoop], hle _ _ hdd, hT1.mono hle⟩)
          have hle : ρ.le ρ2 := fun x w hx => hle2 _ _ (hE1.le _ _ hx)
          have hfv := evT_VR (fr := mkF a.fn tmps (.inRangeFunc W1.heap.size :: k') (mark' ++ ds) a.kind rnd) (hT.mono hle) g
          rw [hev] at hfv
          obtain ⟨_, fs', cs', hfe, h1, h2⟩ := hfv
          have hfn : ∃ fn, P.funcs[g0]? = some fn ∧ fn.body ≠ none := by
            unfold enterA at he
            cases hf : (envOf P).fn g0 with
            | none => rw [hf] at he; cases he
            | some fn =>
              rw [hf] at he
              simp only at he
              refine ⟨fn, hf, fun hn => ?_⟩
              rw [hn] at he; cases he
          obtain ⟨fn, hf1, hf2⟩ := hfn
          have hvr : VRs ρ2 (first ++ [.func (.yield H1.next) [] []] ++ captured) ((fs' ++ #[Value.func (.yield W1.heap.size) #[] #[]]) ++ cs').toList := by
            rw [Array.toList_append, Array.toList_append]
            exact (h1.append (show VRs ρ2 [.func (.yield H1.next) [] []] (#[Value.func (.yield W1.heap.size) #[] #[]] : Array Value).toList from ⟨_, _, rfl, ⟨rfl, rfl, _, hl2, rfl⟩, rfl⟩)).append h2
          obtain ⟨g1, g2, g3, g4⟩ := enter_sound hvr he
          have hlow : ∀ id, id < H.next → ρ2 id = ρ id := fun id hi => by rw [hE2.low id (by omega), hE1.low id hi]
          have hoth := hc.rest.mono hle (fun id hid hn => by rw [hlow id (hlt id (by simp [hid]))]; exact hn)
          have htop := hc.top
          refine ⟨ρ2, _, _, { W1 with heap := W1.heap.push (.loop (mkLoop .ready none a.fn tmps ps as bd wd.c)) }, Steps.one (st_rangeFunc hrun (q := g0) (args := (fs' ++ #[Value.func (.yield W1.heap.size) #[] #[]]) ++ cs') ?_), ⟨hr2, hold2, by simp only [Array.size_push]; omega, g1, fun _ => no_pend g4,
            ⟨_, cs, rfl, FR.close (a := { a with todo := .inRangeFunc H1.next :: k, ds := mark ++ a.ds }) hm rfl rfl (htop.rnd.mono hle) ((hmark.mono hle2).append (htop.ds.mono hle)) ⟨⟨_, k', hl2, rfl, hk.mono hle⟩, hT.mono hle⟩, hoth⟩, ?_, ?_⟩, ?_, hrest⟩
          · rw [hfe]
            simp only [Deferred.ofValue, Sem.run_bind, Sem.run_pure, Result.andThen_ok, invoke]
            exact run_callFunc fit hf1 hf2 _
          · unfold idsC; simp only [List.flatMap_cons]; rw [g2]; exact hids
          · intro id hid
            unfold idsC at hid; simp only [List.flatMap_cons] at hid; rw [g2] at hid
            have := hlt id hid
            show id < H1.next + 1
            omega
          · intro i hi
            rw [← hsame i hi]
            exact Array.getElem?_push_lt (by omega) |>.trans (Array.getElem?_eq_getElem (by omega)).symm
      | _ => cases h
  | _ => rw [hev] at h; cases h

end
end Go.Eng
/-! The step as a whole, runs, and calls: what the engine answers is what the model answers. -/
namespace Go.Eng

section
variable {P : Program} {ρ : Ren}

theorem rangeFunc_sound (fit : Fit P) {base : Nat} {cs0 : List Frame} {a : AFrame} {acs : List AFrame} {H : AHeap} {f : Frame} {cs : List Frame} {W : World} (hc : CR P base cs0 ρ ⟨a, acs, H⟩ f cs W) (hm : a.mode = .run) {g : Operand} {ps : Array Nat} {as bd : Code} {k : List AItem}
    (htd : a.todo = .code (.rangeFunc g ps as bd) :: k) {c' : Cfg} (h : execA (envOf P) a acs H = some c') : Leads P base cs0 c' f cs W := by
  have hids : idsOf a.todo = [] := by rw [htd]; rfl
  obtain ⟨tmps, todo, ds, rnd, rfl, hrnd, hds, ht⟩ := hc.top.open hm
  simp only at hrnd hds ht
  rw [htd] at ht
  obtain ⟨⟨k', rfl, h3⟩, h4⟩ := ht
  unfold execA at h
  rw [htd] at h
  simp only at h
  cases hr : a.rnd with
  | none =>
    rw [hr] at h hrnd
    have hrnd : rnd = none := hrnd
    subst hrnd
    obtain ⟨ρ1, hle1, hl1, hr1, hold1, hE1⟩ := push_obj (blk := .deferred (some [])) hc.heap hc.old hc.big (fun _ _ _ _ h => by cases h)
      (o := .deferred (some [])) (fun ρ' hle => ⟨some [], by simp, rfl⟩)
    have hs : (W.heap.push (Obj.deferred (some []))).size = W.heap.size + 1 := by simp
    have hb := hc.big
    refine goLoop_sound fit (H1 := H.push (.deferred (some []))) (W1 := { W with heap := W.heap.push (.deferred (some [])) }) hc hm h3 h4 hE1 hr1 hold1 (by simp only [hs]; omega) (Nat.le_succ _) ?_ hl1 (mark := [.collected H.next]) (mark' := [{ target := .collected W.heap.size, args := #[] }]) ⟨_, _, rfl, ⟨_, hl1, rfl⟩, rfl⟩ ⟨rfl, rfl, rfl⟩ ?_ h hids
    · intro i hi
      exact Array.getElem?_push_lt (by omega) |>.trans (Array.getElem?_eq_getElem (by omega)).symm
    · rw [enterLoop_none, hs]
  | some l0 =>
    rw [hr] at h hrnd
    obtain ⟨w, hw, rfl⟩ := hrnd
    simp only at h
    cases hb : H.bs.get l0 with
    | none => rw [hb] at h; cases h
    | some blk =>
      rw [hb] at h
      cases blk with
      | loop st p fn n tm ps' as' bd' dd =>
        simp only at h
        obtain ⟨tm', wd, h1, h2, h5, h6, h7⟩ := loop_block (P := P) hc.heap hb hw
        exact goLoop_sound fit (H1 := H) (W1 := W) hc hm h3 h4 (Ext.refl _ _ _) hc.heap hc.old hc.big (Nat.le_refl _) (fun _ _ => rfl) h2 (mark := []) (mark' := []) rfl (Rest.refl _) (enterLoop_some h6) h hids
      | _ => cases h

theorem stepA_sound (fit : Fit P) (mixed : P.follows .mixedOrders = true) {base : Nat} {cs0 : List Frame} {c c' : Cfg} {f : Frame} {cs : List Frame} {W : World} (hc : CR P base cs0 ρ c f cs W) (h : stepA (envOf P) c = some c') : Leads P base cs0 c' f cs W := by
  obtain ⟨a, acs, H⟩ := c
  unfold stepA at h
  by_cases hm : a.mode = .run
  · simp only [hm] at h
    cases htd : a.todo with
    | nil => exact plain_sound hc hm h (.inl htd)
    | cons it k =>
      cases it with
      | code cd =>
        by_cases hr : ∃ g ps as bd, cd = .rangeFunc g ps as bd
        · obtain ⟨g, ps, as, bd, rfl⟩ := hr
          exact rangeFunc_sound fit hc hm htd h
        · exact code_sound mixed hc hm htd (fun g ps as bd e => hr ⟨g, ps, as, bd, e⟩) h
      | inBlock id => exact plain_sound hc hm h (.inr (.inl ⟨_, _, htd⟩))
      | inLoop b => exact plain_sound hc hm h (.inr (.inr (.inr ⟨_, _, htd⟩)))
      | inScope b => exact plain_sound hc hm h (.inr (.inr (.inl ⟨_, _, htd⟩)))
      | ops all i rest => exact ops_sound fit hc hm htd h
      | draw all i res al busy =>
        obtain ⟨fn, n, tm, todo, ds, mode, kind, rnd⟩ := a
        simp only at htd hm
        subst htd hm
        exact drawStep_sound fit (s := ⟨res, al, H⟩) (a := { fn, n, tm, todo := .draw all i res al busy :: k, ds, mode := .run, kind, rnd }) hc rfl h
      | inRangeFunc l => unfold execA at h; rw [htd] at h; cases h
      | endRangeFunc l => exact endLoop_sound hc hm htd h
      | beginRound => exact begin_sound hc hm htd h
  · have h : unwindA (envOf P) a acs H = some c' := by
      cases hmm : a.mode with
      | run => exact absurd hmm hm
      | _ => simp only [hmm] at h; exact h
    exact unwind_sound fit hc hm h

theorem runA_sound (fit : Fit P) (mixed : P.follows .mixedOrders = true) {base : Nat} {cs0 : List Frame} : ∀ (n : Nat) {ρ : Ren} {c : Cfg} {f : Frame} {cs : List Frame} {W : World}, CR P base cs0 ρ c f cs W → Leads P base cs0 (runA (envOf P) n c) f cs W
  | 0, _, _, _, _, _, hc => Leads.now hc
  | n + 1, _, c, f, cs, W, hc => by
    unfold runA
    cases h : stepA (envOf P) c with
    | none => exact Leads.now hc
    | some c' =>
      obtain ⟨ρ', f', cs', W', h1, h2, h3, h4⟩ := stepA_sound fit mixed hc h
      exact Leads.after h1 h3 h4 (runA_sound fit mixed n h2)

theorem runA_add (E : Env) : ∀ (m n : Nat) (c : Cfg), runA E (m + n) c = runA E n (runA E m c)
  | 0, n, c => by rw [Nat.zero_add]; rfl
  | m + 1, n, c => by
    have e : m + 1 + n = (m + n) + 1 := by omega
    rw [e]
    show (match stepA E c with | some c' => runA E (m + n) c' | none => c) = runA E n (match stepA E c with | some c' => runA E m c' | none => c)
    cases h : stepA E c with
    | none =>
      cases n with
      | zero => rfl
      | succ n => show c = (match stepA E c with | some c' => runA E n c' | none => c); rw [h]
    | some c' => exact runA_add E m n c'

end
end Go.Eng
/-! Calls: what the engine answers at its end is what the model's call answers, and of what lay there before nothing turns. -/
namespace Go.Eng

def emptyH : AHeap := { bs := .nil, gs := .nil, next := 0 }
def noRen : Ren := fun _ => none

/-- The machine before its first step. -/
def startA (E : Env) (g : Nat) (args : List AVal) : Option Cfg :=
  match enterA E g args .normal with
  | some a => some { fr := a, cs := [], H := emptyH }
  | none => none

def slotsOnly : List ResultVar → Bool
  | [] => true
  | .tmp _ :: l => slotsOnly l
  | .cell .. :: _ => false

/-- The run is at its end, in this function, whose results lie in slots: what it answers. -/
def answerA (E : Env) (g : Nat) (c : Cfg) : Option AVal :=
  match c.fr.kind with
  | .normal => bif Nat.beq c.fr.fn g then
      (match E.fn g with
      | some fn => bif slotsOnly fn.results.toList then finalA E c else none
      | none => none) else none
  | _ => none

section
variable {P : Program} {ρ : Ren}

theorem emptyHR (h : Array Obj) : HR noRen emptyH h where
  blk := fun b a w hb _ => by cases hb
  lt := fun b w hw => by cases hw
  fresh := fun b _ => ⟨rfl, rfl, rfl⟩
  apart := fun b b' w w' hw => by cases hw
  mem := fun b cs n d g hb => by cases hb

theorem resSlots {tmps : Array Value} : ∀ {l : List ResultVar}, slotsOnly l = true → ∀ W, ∃ ys, (l.mapM (resOne tmps)).run P W = .ok ys W
  | [], _, W => ⟨[], by simp⟩
  | .tmp t :: l, h, W => by
    obtain ⟨ys, h1⟩ := resSlots (tmps := tmps) (l := l) h W
    refine ⟨tmps.getD t Go.undef :: ys, ?_⟩
    rw [List.mapM_cons]
    have : (resOne tmps (.tmp t)).run P W = .ok (tmps.getD t Go.undef) W := rfl
    simp only [Sem.run_bind, this, Result.andThen_ok, h1, Sem.run_pure]
  | .cell .. :: _, h, _ => by cases h

theorem results_stay {fn : Func} {tmps : Array Value} (h : slotsOnly fn.results.toList = true) {W W' : World} {y : Value} (hr : (results fn tmps).run P W = .ok y W') : W' = W := by
  obtain ⟨ys, h1⟩ := resSlots (P := P) (tmps := tmps) h W
  have : (fn.results.mapM (resOne tmps)).run P W = .ok ys.toArray W := by
    rw [Array.mapM_eq_mapM_toList, map_eq_pure_bind]
    simp only [Sem.run_bind, h1, Result.andThen_ok, Sem.run_pure]
  unfold results at hr
  have hr : Sem.run P (do let vs ← fn.results.mapM (resOne tmps); pure (if h : vs.size = 1 then vs[0] else .tuple vs)) W = .ok y W' := hr
  simp only [Sem.run_bind, this, Result.andThen_ok, Sem.run_pure, Result.ok.injEq] at hr
  exact hr.2.symm

/-- The first configuration says what is so. -/
theorem start_CR {g : Nat} {args : List AVal} {args' : Array Value} {W : World} (ha : VRs noRen args args'.toList) {c0 : Cfg} (h0 : startA (envOf P) g args = some c0) (cs0 : List Frame) :
    CR P W.heap.size cs0 noRen c0 (Frame.enter P g args' .normal) cs0 W := by
  unfold startA at h0
  cases he : enterA (envOf P) g args .normal with
  | none => rw [he] at h0; cases h0
  | some a =>
    rw [he] at h0
    simp only [Option.some.injEq] at h0
    subst h0
    obtain ⟨g1, g2, g3, g4⟩ := enter_sound ha he
    exact ⟨emptyHR _, fun b w hw => (by cases hw), Nat.le_refl _, g1, fun _ => no_pend g4, rfl, (by unfold idsC; simp [g2]), fun id hid => (by unfold idsC at hid; simp [g2] at hid)⟩

/-- What a call leaves as it was. -/
def Stays (W W' : World) : Prop := W.heap.size ≤ W'.heap.size ∧ (∀ i, i < W.heap.size → W'.heap[i]? = W.heap[i]?) ∧ Rest W W'

/-- A run that has come to its end answers the call. -/
theorem calls_of_leads {g : Nat} {args' : Array Value} {W : World} {c : Cfg} (hl : ∀ cs0, Leads P W.heap.size cs0 c (Frame.enter P g args' .normal) cs0 W) {v : AVal} (h : answerA (envOf P) g c = some v) :
    Calls P g args' W fun e W' => (∃ x ρ, e = .returned x ∧ VR ρ v x) ∧ Stays W W' := by
  intro cs0
  obtain ⟨ρ1, fr1, cs1, W1, h1, h2, h3, h4⟩ := hl cs0
  obtain ⟨b, bcs, H⟩ := c
  unfold answerA at h
  simp only at h
  cases hk : b.kind with
  | normal =>
    rw [hk] at h
    simp only at h
    cases hfn : Nat.beq b.fn g with
    | false => rw [hfn] at h; cases h
    | true =>
      rw [hfn, cond_true] at h
      have hbg := Nat.eq_of_beq_eq_true hfn
      cases hf : (envOf P).fn g with
      | none => rw [hf] at h; cases h
      | some fn =>
        rw [hf] at h
        simp only at h
        cases hs : slotsOnly fn.results.toList with
        | false => rw [hs] at h; cases h
        | true =>
          rw [hs, cond_true] at h
          unfold finalA at h
          simp only at h
          cases hmm : b.mode with
          | run => rw [hmm] at h; cases h
          | panicking _ => rw [hmm] at h; cases h
          | returning =>
            cases hds : b.ds with
            | cons _ _ => rw [hmm, hds] at h; cases h
            | nil =>
              cases bcs with
              | cons _ _ => rw [hmm, hds] at h; cases h
              | nil =>
                rw [hmm, hds] at h
                simp only at h
                obtain ⟨fn', y, W2, r1, r2, r3, r4, r5, r6⟩ := results_sound h2.heap (h2.top.held (by simp [hmm])) h
                have hfn' : P.funcs[g]? = some fn := hf
                have r1 : P.funcs[b.fn]? = some fn' := r1
                rw [hbg, hfn'] at r1
                cases r1
                have hW := results_stay hs r2
                rw [hW] at r2
                have hcs : cs1 = cs0 := h2.rest
                subst hcs
                have hb := h2.big
                refine ⟨.returned y, W1, fr1, ⟨⟨y, ρ1, rfl, r3⟩, hb, h3, h4⟩, h1, by rw [h2.top.fn]; exact hbg, ?_, ?_, by rw [h2.top.kind]; exact hk, fn, ?_, r2⟩
                · have := h2.top.mode; simp only at this; rw [hmm] at this; exact this
                · have := h2.top.ds; simp only at this; rw [hds] at this; exact this
                · rw [h2.top.fn]; show P.funcs[b.fn]? = some fn; rw [hbg]; exact hfn'
  | _ => rw [hk] at h; cases h

/-- What the engine answers of a call, the model answers. -/
theorem calls_sound (fit : Fit P) (mixed : P.follows .mixedOrders = true) {g : Nat} {args : List AVal} {args' : Array Value} {W : World} (ha : VRs noRen args args'.toList) {c0 c : Cfg} (h0 : startA (envOf P) g args = some c0) {n : Nat} (hn : runA (envOf P) n c0 = c) {v : AVal}
    (h : answerA (envOf P) g c = some v) : Calls P g args' W fun e W' => (∃ x ρ, e = .returned x ∧ VR ρ v x) ∧ Stays W W' :=
  calls_of_leads (fun cs0 => hn ▸ runA_sound fit mixed n (start_CR ha h0 cs0)) h

theorem keptBut_of_same {W W' : World} (h : ∀ i, i < W.heap.size → W'.heap[i]? = W.heap[i]?) (hr : Rest W W') (may : MemPlace → Prop) : W.keptBut W' may := by
  refine ⟨hr.1, hr.2.1, fun i hi => ?_⟩
  rw [h i hi]
  cases hx : W.heap[i]? with
  | none => simp
  | some o => cases o <;> simp

end
end Go.Eng
/-! A call whose answer is known needs no run; blocks that nothing asks for may be let go. -/
namespace Go.Eng

section
variable {P : Program} {ρ : Ren}

/-- What a call of no arguments answers, wherever it is called; what was there stays. -/
def Told (P : Program) (g : Nat) (v : AVal) : Prop :=
  ∀ W, Calls P g #[] W fun e W' => (∃ x, e = .returned x ∧ ∀ ρ : Ren, VR ρ v x) ∧ Stays W W'

theorem HR.wide {H : AHeap} {h h' : Array Obj} (hr : HR ρ H h) (hs : h.size ≤ h'.size) (hk : ∀ i, i < h.size → h'[i]? = h[i]?) : HR ρ H h' where
  blk := fun b a w hb hw => (hr.blk b a w hb hw).congr (hk _ (hr.lt b w hw))
  lt := fun b w hw => Nat.lt_of_lt_of_le (hr.lt b w hw) hs
  fresh := hr.fresh
  apart := hr.apart
  mem := hr.mem

theorem enter_same {g : Nat} {a : AFrame} (he : enterA (envOf P) g [] .normal = some a) {f : Frame} (hf : FR P ρ a f) : f = Frame.enter P g #[] .normal := by
  unfold enterA at he
  cases hfn : (envOf P).fn g with
  | none => rw [hfn] at he; cases he
  | some fn =>
    rw [hfn] at he
    have hfn : P.funcs[g]? = some fn := hfn
    simp only at he
    cases hb : fn.body with
    | none => rw [hb] at he; cases he
    | some body =>
      rw [hb] at he
      simp only [Option.some.injEq] at he
      subst he
      obtain ⟨tmps, todo, ds, rnd, rfl, hrnd, hds, ht⟩ := hf.open rfl
      simp only at hrnd hds ht
      obtain ⟨⟨k', rfl, h3⟩, h4, h5⟩ := ht
      cases h3
      cases hds
      have hrnd : rnd = none := hrnd
      subst hrnd
      have hl : max fn.ntmps ([] : List AVal).length = fn.ntmps := by simp
      have h4 : tmps.size = max fn.ntmps ([] : List AVal).length := h4
      rw [hl] at h4
      have htm : tmps = Array.replicate fn.ntmps undef := by
        apply Array.ext
        · simp [h4]
        · intro i hi1 hi2
          have h6 := h5 i
          have e : tget (T.ofL ([] : List AVal)) i = aundef := by
            unfold tget; rw [T.get_ofL]; simp
          rw [e] at h6
          obtain ⟨vs, h7, h8⟩ := h6
          rw [Array.getD_eq_getD_getElem?, Array.getElem?_eq_getElem hi1] at h7
          simp only [Option.getD_some] at h7
          rw [h7]
          have : vs = #[] := Array.toList_inj.1 h8
          subst this
          simp [undef]
      subst htm
      simp [Frame.enter, mkF, hfn, hb]

theorem told_sound {g : Nat} {v : AVal} (ht : Told P g v) {base : Nat} {cs0 : List Frame} {a b b' : AFrame} {acs : List AFrame} {H : AHeap} {f : Frame} {cs : List Frame} {W : World} (hc : CR P base cs0 ρ ⟨a, b :: acs, H⟩ f cs W) (he : enterA (envOf P) g [] .normal = some a)
    (hfin : finishA b v = some b') : Leads P base cs0 ⟨b', acs, H⟩ f cs W := by
  have hids := hc.ids
  have hlt := hc.idlt
  unfold idsC at hids hlt
  simp only [List.flatMap_cons] at hids hlt
  have hf := enter_same he hc.top
  subst hf
  obtain ⟨fc, fs, rfl, hcf, hcr⟩ := hc.rest
  obtain ⟨e, w', fr, ⟨⟨x, rfl, hx⟩, hs, hk, hR⟩, h1, h2, h3⟩ := ht W (fc :: fs)
  obtain ⟨g3, g4, g5, g6⟩ := finish_sound hcf (hx ρ) hfin
  have hb := hc.big
  refine ⟨ρ, fc.finish x, fs, w', Steps.trans h1 (Steps.one (step_leave_returned h3)), ⟨hc.heap.wide hs hk, hc.old, Nat.le_trans hb hs, g3, fun _ => no_pend g6, hcr, ?_, ?_⟩, fun i hi => hk i (by omega), hR⟩
  · unfold idsC; simp only; rw [g4]; exact (List.nodup_append.1 hids).2.1
  · intro id hid
    unfold idsC at hid; simp only at hid; rw [g4] at hid
    exact hlt id (List.mem_append.2 (.inr hid))

/-- Told, by the engine's own run. -/
theorem told_of_run (fit : Fit P) (mixed : P.follows .mixedOrders = true) {g : Nat} {c0 c : Cfg} (h0 : startA (envOf P) g [] = some c0) {n : Nat} (hn : runA (envOf P) n c0 = c) {b : Bool} (h : answerA (envOf P) g c = some (.bool b)) : Told P g (.bool b) := by
  intro W cs
  obtain ⟨e, w', fr, ⟨⟨x, ρ, h1, h2⟩, h3⟩, h4⟩ := calls_sound fit mixed (args := []) (args' := #[]) (W := W) rfl h0 hn h cs
  exact ⟨e, w', fr, ⟨⟨x, h1, fun _ => h2⟩, h3⟩, h4⟩

end

/-! ### Blocks that are kept -/
def keepL (bs : T ABlk) : List Nat → T ABlk → T ABlk
  | [], t => t
  | b :: l, t => keepL bs l (match bs.get b with | some x => t.set b x | none => t)

/-- Of each kept row of cells: is it listed in its group still? -/
def listed (gs : T (List Nat)) (next : Nat) (bs : T ABlk) : List Nat → Bool
  | [] => true
  | b :: l => (match bs.get b with
    | some (.cells _ _ _ g) => Nat.blt g next && (bif Nat.beq b g then true else (match gs.get g with | some m => memN b m | none => false))
    | _ => true) && listed gs next bs l

def keepG (gs : T (List Nat)) : List Nat → T (List Nat) → T (List Nat)
  | [], t => t
  | b :: l, t => keepG gs l (match gs.get b with | some x => t.set b x | none => t)

def trimH (bl gl : List Nat) (H : AHeap) : AHeap := { bs := keepL H.bs bl .nil, gs := keepG H.gs gl .nil, next := H.next }

/-- Only these blocks, and what is said of these groups, are kept. -/
def trimA (bl gl : List Nat) (c : Cfg) : Option Cfg :=
  bif listed (keepG c.H.gs gl .nil) c.H.next c.H.bs bl && (match c.fr.todo with | .draw _ _ _ _ false :: _ => false | _ => true) then some { c with H := trimH bl gl c.H } else none

/-- A piece of a run. -/
def pieceA (E : Env) (n : Nat) (bl gl : List Nat) (c : Cfg) : Option Cfg := trimA bl gl (runA E n c)

theorem keepL_get {bs : T ABlk} : ∀ {l : List Nat} {t : T ABlk} {b : Nat} {x : ABlk}, (∀ b x, t.get b = some x → bs.get b = some x) → (keepL bs l t).get b = some x → bs.get b = some x
  | [], _, _, _, ht, h => ht _ _ h
  | a :: l, t, b, x, ht, h => by
    unfold keepL at h
    refine keepL_get ?_ h
    intro b' x' h'
    cases ha : bs.get a with
    | none => rw [ha] at h'; exact ht _ _ h'
    | some y =>
      rw [ha] at h'
      simp only at h'
      rw [T.get_set] at h'
      by_cases e : b' = a
      · subst e; rw [if_pos rfl] at h'; rw [ha]; exact h'
      · rw [if_neg e] at h'; exact ht _ _ h'

theorem keepL_mem {bs : T ABlk} : ∀ {l : List Nat} {t : T ABlk} {b : Nat} {x : ABlk}, (keepL bs l t).get b = some x → b ∈ l ∨ t.get b = some x
  | [], _, _, _, h => .inr h
  | a :: l, t, b, x, h => by
    unfold keepL at h
    rcases keepL_mem h with h1 | h1
    · exact .inl (List.mem_cons_of_mem _ h1)
    · cases ha : bs.get a with
      | none => rw [ha] at h1; exact .inr h1
      | some y =>
        rw [ha] at h1
        simp only at h1
        rw [T.get_set] at h1
        by_cases e : b = a
        · subst e; exact .inl List.mem_cons_self
        · rw [if_neg e] at h1; exact .inr h1

theorem keepG_get {bs : T (List Nat)} : ∀ {l : List Nat} {t : T (List Nat)} {b : Nat} {x : List Nat}, (∀ b x, t.get b = some x → bs.get b = some x) → (keepG bs l t).get b = some x → bs.get b = some x
  | [], _, _, _, ht, h => ht _ _ h
  | a :: l, t, b, x, ht, h => by
    unfold keepG at h
    refine keepG_get ?_ h
    intro b' x' h'
    cases ha : bs.get a with
    | none => rw [ha] at h'; exact ht _ _ h'
    | some y =>
      rw [ha] at h'
      simp only at h'
      rw [T.get_set] at h'
      by_cases e : b' = a
      · subst e; rw [if_pos rfl] at h'; rw [ha]; exact h'
      · rw [if_neg e] at h'; exact ht _ _ h'

theorem listed_mem {gs : T (List Nat)} {next : Nat} {bs : T ABlk} : ∀ {l : List Nat}, listed gs next bs l = true → ∀ {b : Nat} {cs : T AVal} {n : Nat} {d : AVal} {g : Nat}, b ∈ l → bs.get b = some (.cells cs n d g) → g < next ∧ (b = g ∨ ∃ m, gs.get g = some m ∧ b ∈ m)
  | [], _, _, _, _, _, _, h, _ => by cases h
  | a :: l, hl, b, cs, n, d, g, hb, hg => by
    unfold listed at hl
    rw [Bool.and_eq_true] at hl
    rcases List.mem_cons.1 hb with e | e
    · subst e
      have h1 := hl.1
      rw [hg] at h1
      simp only [Bool.and_eq_true] at h1
      refine ⟨blt_iff.1 h1.1, ?_⟩
      have h2 := h1.2
      cases hbg : Nat.beq b g with
      | true => exact .inl (Nat.eq_of_beq_eq_true hbg)
      | false =>
        rw [hbg, cond_false] at h2
        cases hgs : gs.get g with
        | none => rw [hgs] at h2; cases h2
        | some m => rw [hgs] at h2; exact .inr ⟨m, rfl, memN_iff.1 h2⟩
    · exact listed_mem hl.2 e hg

section
variable {P : Program} {ρ : Ren}

theorem trim_sound {bl gl : List Nat} {base : Nat} {cs0 : List Frame} {c c' : Cfg} {f : Frame} {cs : List Frame} {W : World} (hc : CR P base cs0 ρ c f cs W) (h : trimA bl gl c = some c') : CR P base cs0 ρ c' f cs W := by
  obtain ⟨a, acs, H⟩ := c
  unfold trimA at h
  obtain ⟨h1, h⟩ := shutTrue h
  simp only [Option.some.injEq] at h
  subst h
  rw [Bool.and_eq_true] at h1
  have hbs : ∀ b x, (keepL H.bs bl .nil).get b = some x → H.bs.get b = some x := fun b x hx => keepL_get (fun _ _ h => by cases h) hx
  have hgs : ∀ b x, (keepG H.gs gl .nil).get b = some x → H.gs.get b = some x := fun b x hx => keepG_get (fun _ _ h => by cases h) hx
  have hh := hc.heap
  refine ⟨⟨fun b x w hb hw => hh.blk b x w (hbs b x hb) hw, hh.lt, fun b hb => ⟨?_, (hh.fresh b hb).2.1, ?_⟩, ?_, ?_⟩, hc.old, hc.big, hc.top, ?_, hc.rest, hc.ids, hc.idlt⟩
  · cases hx : (trimH bl gl H).bs.get b with
    | none => rfl
    | some x => have := hbs b x hx; rw [(hh.fresh b hb).1] at this; cases this
  · cases hx : (trimH bl gl H).gs.get b with
    | none => rfl
    | some x => have := hgs b x hx; rw [(hh.fresh b hb).2.2] at this; cases this
  · intro b b' w w' hw hw' hne hcc hb hb'
    cases hx : (trimH bl gl H).bs.get b with
    | none => exact absurd hx hb
    | some x =>
      cases hx' : (trimH bl gl H).bs.get b' with
      | none => exact absurd hx' hb'
      | some x' =>
        have e := hbs b x hx
        have e' := hbs b' x' hx'
        obtain ⟨cs, n, d, g, cs', n', d', q1, q2, q3⟩ := hh.apart b b' w w' hw hw' hne hcc (by rw [e]; simp) (by rw [e']; simp)
        rw [e] at q1; rw [e'] at q2
        exact ⟨cs, n, d, g, cs', n', d', q1, q2, q3⟩
  · intro b cs n d g hb
    rcases keepL_mem (l := bl) hb with h2 | h2
    · exact listed_mem h1.1 h2 (hbs b _ hb)
    · cases h2
  · intro hm all i res al k htd
    have := h1.2
    simp only at htd
    rw [htd] at this
    cases this

theorem piece_sound (fit : Fit P) (mixed : P.follows .mixedOrders = true) {n : Nat} {bl gl : List Nat} {base : Nat} {cs0 : List Frame} {c c' : Cfg} (h : pieceA (envOf P) n bl gl c = some c') {f : Frame} {cs : List Frame} {W : World} (hc : CR P base cs0 ρ c f cs W) : Leads P base cs0 c' f cs W := by
  obtain ⟨ρ', f', cs', W', h1, h2, h3, h4⟩ := runA_sound fit mixed n hc
  exact ⟨ρ', f', cs', W', h1, trim_sound h2 h, h3, h4⟩

end
end Go.Eng
/-! Names for code, and for the parts of a configuration that is written out; what a configuration goes on to. -/
namespace Go.Eng

def childC : Code → Nat → Code
  | .seq a b, k => bif Nat.beq k 0 then a else b
  | .cond _ a b, k => bif Nat.beq k 0 then a else b
  | .block _ b, _ => b
  | .loop b, _ => b
  | .scope b, _ => b
  | .rangeFunc _ _ a b, k => bif Nat.beq k 0 then a else b
  | c, _ => c
def pathC (c : Code) : List Nat → Code
  | [] => c
  | k :: l => pathC (childC c k) l
def codeAt (E : Env) (f : Nat) (p : List Nat) : Code :=
  match E.fn f with
  | some fn => (match fn.body with
    | some c => pathC c p
    | none => .skip)
  | none => .skip
def opsOf : Code → Array Oper
  | .region _ ops _ => ops
  | _ => #[]
def opsItem (c : Code) (i : Nat) : AItem := .ops (opsOf c) i ((opsOf c).toList.drop i)
def entE (a b : AVal) (n : Nat) : AVal × AVal × Nat := (a, b, n)
def tripE (a b : Nat) (c : ABlk) : Nat × Nat × ABlk := (a, b, c)
def panE (a : AVal) (b : Bool) : AVal × Bool := (a, b)

def isTrue (v : Option AVal) : Bool :=
  match v with
  | some (.bool true) => true
  | _ => false

/-- A run up to the place where a function is entered. -/
def untilA (E : Env) (g : Nat) : Nat → Cfg → Cfg
  | 0, c => c
  | n + 1, c => bif Nat.beq c.fr.fn g then c else
    match stepA E c with
    | some c' => untilA E g n c'
    | none => c

/-- The call under way is answered with v. -/
def contA (v : AVal) (c : Cfg) : Option Cfg :=
  match c.cs with
  | b :: acs => (match finishA b v with
    | some b' => some ⟨b', acs, c.H⟩
    | none => none)
  | [] => none

section
variable {P : Program}

/-- What holds of the one leads to what holds of the other. -/
def Goes (P : Program) (c c' : Cfg) : Prop := ∀ ⦃base : Nat⦄ ⦃cs0 : List Frame⦄ ⦃ρ : Ren⦄ ⦃f : Frame⦄ ⦃cs : List Frame⦄ ⦃W : World⦄, CR P base cs0 ρ c f cs W → Leads P base cs0 c' f cs W

theorem Goes.refl (c : Cfg) : Goes P c c := fun _ _ _ _ _ _ hc => Leads.now hc
theorem Goes.trans {a b c : Cfg} (h : Goes P a b) (h' : Goes P b c) : Goes P a c := fun _ _ _ _ _ _ hc => by
  obtain ⟨ρ', f', cs', W', h1, h2, h3, h4⟩ := h hc
  exact Leads.after h1 h3 h4 (h' h2)

theorem Goes.run (fit : Fit P) (mixed : P.follows .mixedOrders = true) (n : Nat) (c : Cfg) : Goes P c (runA (envOf P) n c) := fun _ _ _ _ _ _ hc => runA_sound fit mixed n hc
theorem Goes.piece (fit : Fit P) (mixed : P.follows .mixedOrders = true) {n : Nat} {bl gl : List Nat} {c c' : Cfg} (h : pieceA (envOf P) n bl gl c = some c') : Goes P c c' := fun _ _ _ _ _ _ hc => piece_sound fit mixed h hc

theorem untilA_run (E : Env) (g : Nat) : ∀ (n : Nat) (c : Cfg), ∃ m, untilA E g n c = runA E m c
  | 0, c => ⟨0, rfl⟩
  | n + 1, c => by
    unfold untilA
    cases Nat.beq c.fr.fn g with
    | true => exact ⟨0, rfl⟩
    | false =>
      rw [cond_false]
      cases h : stepA E c with
      | none => exact ⟨0, rfl⟩
      | some c' =>
        obtain ⟨m, hm⟩ := untilA_run E g n c'
        refine ⟨m + 1, ?_⟩
        simp only [hm]
        show runA E m c' = (match stepA E c with | some c' => runA E m c' | none => c)
        rw [h]

theorem Goes.until (fit : Fit P) (mixed : P.follows .mixedOrders = true) (g n : Nat) (c : Cfg) : Goes P c (untilA (envOf P) g n c) := by
  obtain ⟨m, hm⟩ := untilA_run (envOf P) g n c
  rw [hm]
  exact Goes.run fit mixed m c

theorem Goes.told {g : Nat} {v : AVal} (ht : Told P g v) {c c' : Cfg} (he : enterA (envOf P) g [] .normal = some c.fr) (hc' : contA v c = some c') : Goes P c c' := fun _ _ _ _ _ _ hc => by
  obtain ⟨a, cs, H⟩ := c
  unfold contA at hc'
  cases cs with
  | nil => cases hc'
  | cons b acs =>
    simp only at hc'
    cases hf : finishA b v with
    | none => rw [hf] at hc'; cases hc'
    | some b' =>
      rw [hf] at hc'
      simp only [Option.some.injEq] at hc'
      subst hc'
      exact told_sound ht hc he hf

theorem isTrue_iff {v : Option AVal} (h : isTrue v = true) : v = some (.bool true) := by
  unfold isTrue at h
  split at h
  · rfl
  · cases h

/-- A call that goes on to its end, and answers true. -/
theorem calls_of_goes {g : Nat} {args : List AVal} {args' : Array Value} {W : World} (ha : VRs noRen args args'.toList) {c0 c : Cfg} (h0 : startA (envOf P) g args = some c0) (hg : Goes P c0 c) (h : isTrue (answerA (envOf P) g c) = true) :
    Calls P g args' W fun e W' => e = .returned (.bool true) ∧ Stays W W' :=
  (calls_of_leads (fun cs0 => hg (start_CR ha h0 cs0)) (isTrue_iff h)).mono fun _ _ ⟨⟨x, _, h2, h3⟩, h4⟩ => ⟨by rw [h2, show x = .bool true from h3], h4⟩

theorem told_of_calls {g : Nat} (h : ∀ W, Calls P g #[] W fun e W' => e = .returned (.bool true) ∧ Stays W W') : Told P g (.bool true) :=
  fun W => (h W).mono fun _ _ ⟨h1, h2⟩ => ⟨⟨_, h1, fun _ => rfl⟩, h2⟩

theorem Stays.refl (W : World) : Stays W W := ⟨Nat.le_refl _, fun _ _ => rfl, Rest.refl _⟩
theorem Stays.trans {W W1 W2 : World} (h : Stays W W1) (h' : Stays W1 W2) : Stays W W2 := ⟨Nat.le_trans h.1 h'.1, fun i hi => (h'.2.1 i (Nat.lt_of_lt_of_le hi h.1)).trans (h.2.1 i hi), h.2.2.trans h'.2.2⟩

end
end Go.Eng
/-! A row's end, where a call may freeze what it has made itself: only what was there must be as free as it was. -/
namespace Go.Eng
open Go.ChangeShapes Go.WideShapes

section
variable {H : Type} {enc : TypeId × Value → H} {P : Program}

theorem Stays.frozen {W W' : World} (h : Stays W W') {a : Addr} (ha : a.block < W.heap.size) : W'.frozen? a = W.frozen? a := by
  unfold World.frozen?
  rw [h.2.1 _ ha]

theorem Stays.kept {W W' : World} (h : Stays W W') (may : MemPlace → Prop) : W.keptBut W' may := keptBut_of_same h.2.1 h.2.2 may

theorem post_of_stays {f : Func} {s : ChangeSpec} {apart fresh handsOn again : Bool} {W W' : World} {args : Array Value} {v : Value} {ds gs : List (DataW H)} {before pa pv : List MemPlace}
    (hW : DataW.Whole enc P f.params.toList s.vars apart W args.toList ds gs before)
    (hres : ∀ (b : Nat) (sp : Nat → Bool) (hd : Bool), DataW.TrodAll enc P W' b sp hd f.resultTypes.toList (v.resultList f.resultTypes.size) (s.fn H (ds ++ gs)).results [])
    (hargs : ∀ sp : Nat → Bool, (∀ p ∈ before, sp p.block = true) → DataW.TrodAll enc P W' 0 sp true f.params.toList args.toList (s.fn H (ds ++ gs)).args pa)
    (hvars : ∀ sp : Nat → Bool, (∀ p ∈ before, sp p.block = true) → DataW.TrodVars enc P W' sp s.vars (s.fn H (ds ++ gs)).vars pv)
    (hps : before = pa ++ pv) (hst : Stays W W')
    (hok : ∀ (j : Nat) (t : TypeId) (r : Value), f.resultTypes[j]? = some t → (v.resultList f.resultTypes.size)[j]? = some r → Value.okWide P W' .any 0 t r) :
    s.post enc P f apart fresh handsOn again W args v W' := by
  have hold : ∀ p ∈ before, (fun b => decide (b < W.heap.size)) p.block = true := fun p hp => by simpa using hW.lt p hp
  have hlt := hW.lt
  refine ⟨ds, gs, before, [], pa, pv, hW, hres _ _ _, hargs _ hold, hvars _ hold, World.keptBut_mono (fun p hp => ⟨hp, ?_⟩) (hst.kept (· ∈ before)), fun _ => ?_⟩
  · rw [hps, List.mem_append] at hp
    exact Or.inr hp
  · obtain ⟨_, _, _, _, _, hz, hn⟩ := hW
    refine ⟨hok, _, _, ([] ++ pa) ++ pv, ⟨[] ++ pa, pv, trodAll_append (hargs _ (fun _ _ => rfl)) (hres _ _ _), hvars _ (fun _ _ => rfl), rfl, ?_, ?_⟩, ?_⟩
    · intro b off hp
      have hb : MemPlace.cell b off ∈ before := by rw [hps]; simpa using hp
      have h1 := hz b off hb
      have h2 : b < W.heap.size := hlt _ hb
      rw [Stays.frozen hst (by exact h2)]
      exact h1
    · intro ha
      have := hn ha
      rw [hps] at this
      simpa using this
    · intro p hp _
      rw [hps]
      simpa using hp

end
end Go.Eng
/-! Does the engine fit a program? A check of its functions' names. -/
namespace Go.Eng

def fitFn (fn : Func) : Bool :=
  (fn.body.isNone || !(fn.name == "runtime.NumGoroutine")) && (!(fn.name == "maps.clone") || (fn.body.isSome || fn.origin == ""))

theorem clone_generic : Extern.allGenericRows.lookup "maps.clone" = none := by rfl
theorem clone_typed : Extern.allTypedRows.lookup "maps.clone" = none := by rfl
theorem clone_row : Extern.allRows.lookup "maps.clone" = some Extern.MapsClone.clone := by rfl
theorem clone_next : Extern.allNextRows.lookup "maps.clone" = none := by rfl
theorem empty_next : Extern.allNextRows.lookup "" = none := by rfl

theorem fit_of {P : Program} (h : P.funcs.toList.all fitFn = true) : Fit P := by
  have h1 : ∀ (f : Nat) (fn : Func), P.funcs[f]? = some fn → fitFn fn = true := by
    intro f fn hf
    rw [← Array.getElem?_toList] at hf
    exact List.all_eq_true.1 h fn (List.mem_of_getElem? hf)
  constructor
  · intro f fn hf hb
    have h2 := h1 f fn hf
    unfold fitFn at h2
    rw [Bool.and_eq_true] at h2
    have h3 := h2.1
    rw [Bool.or_eq_true] at h3
    rcases h3 with h3 | h3
    · cases hx : fn.body with
      | none => exact absurd hx hb
      | some b => rw [hx] at h3; cases h3
    · simpa using h3
  · intro f fn hf hn hb
    have h2 := h1 f fn hf
    unfold fitFn at h2
    rw [Bool.and_eq_true] at h2
    have h3 := h2.2
    rw [hn, hb] at h3
    have ho : fn.origin = "" := by simpa using h3
    have hn : fn.name = "maps.clone" := by simpa using hn
    constructor
    · unfold Extern.findNext
      simp only [hn, ho, clone_next, empty_next]
      rfl
    · unfold Extern.find
      simp only [hn, clone_generic, clone_typed, clone_row]
      rfl

end Go.Eng
/-! The same step, told in small pieces: cheap for the kernel. -/
namespace Go.Eng

noncomputable def bifR {β : Type} (b : Bool) (x y : β) : β := @Bool.rec (fun _ => β) y x b
theorem bifR_eq {β : Type} (b : Bool) (x y : β) : bifR b x y = bif b then x else y := by cases b <;> rfl
noncomputable def optR {α β : Type} (o : Option α) (n : β) (s : α → β) : β := @Option.rec α (fun _ => β) n s o
theorem optR_eq {α β : Type} (o : Option α) (n : β) (s : α → β) : optR o n s = match o with | some a => s a | none => n := by cases o <;> rfl

namespace T
variable {α : Type}
noncomputable def getB (t : T α) : Nat → Option α :=
  @T.rec α (fun _ => Nat → Option α) (fun _ => none)
    (fun _ v _ gl gr n => bifR (Nat.beq n 0) v (bifR (Nat.beq (Nat.mod n 2) 1) (gl (Nat.div n 2)) (gr (Nat.sub (Nat.div n 2) 1)))) t
noncomputable def newB (x : Option α) (f : Nat) : Nat → T α :=
  @Nat.rec (fun _ => Nat → T α) (fun _ => .nil)
    (fun _ ih n => bifR (Nat.beq n 0) (.node .nil x .nil) (bifR (Nat.beq (Nat.mod n 2) 1) (.node (ih (Nat.div n 2)) none .nil) (.node .nil none (ih (Nat.sub (Nat.div n 2) 1))))) f
noncomputable def putB (t : T α) : Nat → Option α → T α :=
  @T.rec α (fun _ => Nat → Option α → T α) (fun n x => newB x (Nat.succ n) n)
    (fun l v r sl sr n x => bifR (Nat.beq n 0) (.node l x r) (bifR (Nat.beq (Nat.mod n 2) 1) (.node (sl (Nat.div n 2) x) v r) (.node l v (sr (Nat.sub (Nat.div n 2) 1) x)))) t

theorem getB_eq (t : T α) : ∀ n, t.getB n = t.get n := by
  induction t with
  | nil => intro n; rfl
  | node l v r hl hr =>
    intro n
    show bifR (Nat.beq n 0) v (bifR (Nat.beq (Nat.mod n 2) 1) (l.getB (Nat.div n 2)) (r.getB (Nat.sub (Nat.div n 2) 1))) = _
    rw [hl, hr, bifR_eq, bifR_eq]
    rfl

theorem newB_eq (x : Option α) : ∀ f n, newB x f n = setF f .nil n x
  | 0, _ => rfl
  | f + 1, n => by
    show bifR (Nat.beq n 0) (T.node .nil x .nil) (bifR (Nat.beq (Nat.mod n 2) 1) (T.node (newB x f (Nat.div n 2)) none .nil) (T.node .nil none (newB x f (Nat.sub (Nat.div n 2) 1)))) = _
    rw [newB_eq x f, newB_eq x f, bifR_eq, bifR_eq]
    rfl

theorem setF_nil_fuel (x : Option α) : ∀ f n, n < f → setF f .nil n x = setF (n + 1) .nil n x
  | 0, _, h => absurd h (Nat.not_lt_zero _)
  | f + 1, n, h => by
    rcases Nat.lt_or_ge f (n + 1) with h1 | h1
    · have : f = n := by omega
      rw [this]
    · unfold setF
      cases h0 : Nat.beq n 0 with
      | true => rfl
      | false =>
        have hn : n ≠ 0 := Nat.ne_of_beq_eq_false h0
        simp only [cond_false]
        have a1 : Nat.div n 2 < f := by show n / 2 < f; omega
        have a2 : Nat.pred (Nat.div n 2) < f := by show n / 2 - 1 < f; omega
        have b1 : Nat.div n 2 < n := by show n / 2 < n; omega
        have b2 : Nat.pred (Nat.div n 2) < n := by show n / 2 - 1 < n; omega
        rw [setF_nil_fuel x f _ a1, setF_nil_fuel x f _ a2]
        have c1 := setF_nil_fuel x n _ b1
        have c2 := setF_nil_fuel x n _ b2
        rw [c1, c2]
termination_by f n => f + n

theorem putB_eq (x : Option α) (t : T α) : ∀ n f, n < f → setF f t n x = t.putB n x := by
  induction t with
  | nil =>
    intro n f h
    show _ = newB x (n + 1) n
    rw [newB_eq, setF_nil_fuel x f n h]
  | node l v r hl hr =>
    intro n f h
    show _ = bifR (Nat.beq n 0) (T.node l x r) (bifR (Nat.beq (Nat.mod n 2) 1) (T.node (l.putB (Nat.div n 2) x) v r) (T.node l v (r.putB (Nat.sub (Nat.div n 2) 1) x)))
    cases f with
    | zero => exact absurd h (Nat.not_lt_zero _)
    | succ f =>
      unfold setF
      rw [bifR_eq, bifR_eq]
      cases h0 : Nat.beq n 0 with
      | true => rfl
      | false =>
        have hn : n ≠ 0 := Nat.ne_of_beq_eq_false h0
        simp only [cond_false]
        rw [hl _ f (by show n / 2 < f; omega), hr _ f (by show n / 2 - 1 < f; omega)]
        rfl
end T

theorem put_put {α : Type} (t : T α) (n : Nat) (x : Option α) : t.putB n x = t.put n x := (T.putB_eq x t n (n + 1) (Nat.lt_succ_self n)).symm

/-! ### Operands and slots -/
noncomputable def evB (x : Operand) : T AVal → AVal :=
  @Operand.rec (fun _ => T AVal → AVal) (fun t tm => optR (tm.getB t) aundef (fun v => v)) (fun v _ => ofConst v) (fun _ _ => .top) (fun f _ => .func (.fn (.func f)) [] []) x
theorem evB_eq (x : Operand) (tm : T AVal) : evB x tm = evT tm x := by
  cases x with
  | tmp t => show optR (tm.getB t) aundef (fun v => v) = _; rw [T.getB_eq, optR_eq]; simp only [evT]; cases tm.get t <;> simp
  | _ => rfl

/-! ### Parts of values and blocks -/
noncomputable def ptrV : AVal → Option (Nat × Nat) := fun v =>
  AVal.casesOn (motive_1 := fun _ => Option (Nat × Nat)) v (fun _ => none) (fun _ _ => none) (fun _ => none) (fun a => a) (fun _ _ _ _ => none) (fun _ => none) (fun _ _ _ => none) none (fun _ _ => none) none (fun _ => none) (fun _ => none) none
noncomputable def boolV : AVal → Option Bool := fun v =>
  AVal.casesOn (motive_1 := fun _ => Option Bool) v (fun b => some b) (fun _ _ => none) (fun _ => none) (fun _ => none) (fun _ _ _ _ => none) (fun _ => none) (fun _ _ _ => none) none (fun _ _ => none) none (fun _ => none) (fun _ => none) none
noncomputable def funcV : AVal → Option (Nat × List AVal × List AVal) := fun v =>
  AVal.casesOn (motive_1 := fun _ => Option (Nat × List AVal × List AVal)) v (fun _ => none) (fun _ _ => none) (fun _ => none) (fun _ => none) (fun _ _ _ _ => none) (fun _ => none)
    (fun f a c => @AFn.rec (fun _ => Option (Nat × List AVal × List AVal)) (fun g => @Fn.rec (fun _ => Option (Nat × List AVal × List AVal)) (fun n => some (n, a, c)) (fun _ => none) (fun _ _ => none) (fun _ _ _ _ => none) (fun _ => none) g) (fun _ => none) f) none (fun _ _ => none) none (fun _ => none) (fun _ => none) none
noncomputable def cellsV : ABlk → Option (T AVal × Nat × AVal × Nat) := fun b =>
  @ABlk.rec (fun _ => Option (T AVal × Nat × AVal × Nat)) (fun cs n d g => some (cs, n, d, g)) (fun _ _ => none) (fun _ _ _ _ => none) (fun _ _ _ _ _ _ _ _ _ => none) (fun _ => none) b

theorem ptrV_some {v : AVal} {p : Nat × Nat} (h : ptrV v = some p) : v = .ptr (some p) := by
  cases v with
  | ptr a => exact congrArg AVal.ptr h
  | _ => cases h
theorem boolV_some {v : AVal} {b : Bool} (h : boolV v = some b) : v = .bool b := by
  cases v with
  | bool a => cases h; rfl
  | _ => cases h
theorem funcV_some {v : AVal} {g : Nat} {a c : List AVal} (h : funcV v = some (g, a, c)) : v = .func (.fn (.func g)) a c := by
  cases v with
  | func f a' c' =>
    cases f with
    | fn f' =>
      cases f' with
      | func n => cases h; rfl
      | _ => cases h
    | yield l => cases h
  | _ => cases h
theorem cellsV_some {b : ABlk} {cs : T AVal} {n : Nat} {d : AVal} {g : Nat} (h : cellsV b = some (cs, n, d, g)) : b = .cells cs n d g := by
  cases b with
  | cells _ _ _ _ => cases h; rfl
  | _ => cases h

/-! ### The heap -/
noncomputable def cellB (cs : T AVal) (n : Nat) (d : AVal) (i : Nat) : Option AVal := bifR (Nat.blt i n) (optR (cs.getB i) (some d) (fun v => some v)) none
theorem cellB_eq (cs : T AVal) (n : Nat) (d : AVal) (i : Nat) : cellB cs n d i = cellAt cs n d i := by
  unfold cellB cellAt
  rw [bifR_eq, optR_eq, T.getB_eq]
  cases Nat.blt i n with
  | false => rfl
  | true => simp only [cond_true]; cases cs.get i <;> rfl

noncomputable def readB (cs : T AVal) (n : Nat) (d : AVal) (k : Nat) : Nat → Option (List AVal) :=
  @Nat.rec (fun _ => Nat → Option (List AVal)) (fun _ => some []) (fun _ ih i => optR (cellB cs n d i) none (fun v => optR (ih (Nat.succ i)) none (fun l => some (v :: l)))) k
theorem readB_eq (cs : T AVal) (n : Nat) (d : AVal) : ∀ k i, readB cs n d k i = readCells cs n d i k
  | 0, _ => rfl
  | k + 1, i => by
    show optR (cellB cs n d i) none (fun v => optR (readB cs n d k (Nat.succ i)) none (fun l => some (v :: l))) = _
    rw [readB_eq cs n d k, cellB_eq, optR_eq]
    conv => rhs; rw [readCells]
    cases cellAt cs n d i with
    | none => rfl
    | some v => simp only [optR_eq]; cases readCells cs n d (Nat.succ i) k <;> rfl

noncomputable def loadB (ty : Tys) (H : AHeap) (t : Nat) (x : AVal) : Option AVal :=
  optR (ty t) none (fun a => optR (ptrV x) none (fun p => optR (H.bs.getB p.1) none (fun b => optR (cellsV b) none (fun q =>
    bifR (isAggD a.desc) (optR (readB q.1 q.2.1 q.2.2.1 a.size p.2) none (fun l => some (.agg l))) (cellB q.1 q.2.1 q.2.2.1 p.2)))))
theorem loadB_eq (ty : Tys) (H : AHeap) (t : Nat) (x : AVal) : loadB ty H t x = loadA ty H t x := by
  unfold loadB loadA
  simp only [optR_eq]
  cases ty t with
  | none => rfl
  | some a =>
    simp only
    cases x with
    | ptr p =>
      cases p with
      | none => rfl
      | some p =>
        obtain ⟨b, i⟩ := p
        simp only [ptrV, T.getB_eq, bifR_eq, AHeap.read]
        cases H.bs.get b with
        | none => cases isAggD a.desc <;> rfl
        | some blk =>
          cases blk with
          | cells cs n d g =>
            simp only [cellsV, readB_eq, cellB_eq]
            cases isAggD a.desc with
            | true => simp only [cond_true]; cases readCells cs n d i a.size <;> rfl
            | false => rfl
          | _ => cases isAggD a.desc <;> rfl
    | _ => rfl

noncomputable def setLB {α : Type} (l : List α) : Nat → T α → T α :=
  @List.rec α (fun _ => Nat → T α → T α) (fun _ t => t) (fun x _ ih i t => ih (Nat.succ i) (t.putB i (some x))) l
theorem setLB_eq {α : Type} : ∀ (l : List α) (i : Nat) (t : T α), setLB l i t = t.setL i l
  | [], _, _ => rfl
  | x :: l, i, t => by
    show setLB l (Nat.succ i) (t.putB i (some x)) = _
    rw [setLB_eq l, put_put]
    rfl

noncomputable def freshK (g : Nat) (vs : List AVal) : ABlk := .cells (setLB vs 0 .nil) vs.length .top g
theorem freshK_eq (g : Nat) (vs : List AVal) : freshK g vs = freshB g vs := by unfold freshK freshB T.ofL; rw [setLB_eq]
noncomputable def pushB (H : AHeap) (blk : ABlk) : AHeap := { bs := H.bs.putB H.next (some blk), gs := H.gs, next := Nat.succ H.next }
theorem pushB_eq (H : AHeap) (blk : ABlk) : pushB H blk = H.push blk := by unfold pushB AHeap.push T.set; rw [put_put]

noncomputable def killB (H : AHeap) (g b : Nat) : AHeap :=
  optR (H.gs.getB g) (bifR (Nat.beq g b) H (H.kill g b)) (fun _ => H.kill g b)
theorem killB_eq (H : AHeap) (g b : Nat) : killB H g b = H.kill g b := by
  unfold killB
  rw [optR_eq, T.getB_eq, bifR_eq]
  unfold AHeap.kill
  cases H.gs.get g with
  | some l => rfl
  | none => cases Nat.beq g b <;> rfl

noncomputable def writeB (H : AHeap) (b i : Nat) (vs : List AVal) : Option AHeap :=
  optR (H.bs.getB b) none (fun blk => optR (cellsV blk) none (fun q =>
    bifR (Nat.ble (Nat.add i vs.length) q.2.1) (bifR (allOne vs) (some { bs := (killB H q.2.2.2 b).bs.putB b (some (.cells (setLB vs i q.1) q.2.1 q.2.2.1 q.2.2.2)), gs := (killB H q.2.2.2 b).gs, next := (killB H q.2.2.2 b).next }) none) none))
theorem writeB_eq (H : AHeap) (b i : Nat) (vs : List AVal) : writeB H b i vs = H.write b i vs := by
  unfold writeB AHeap.write
  simp only [optR_eq, T.getB_eq, bifR_eq, killB_eq, setLB_eq, put_put]
  cases H.bs.get b with
  | none => rfl
  | some blk =>
    cases blk with
    | cells cs n d g =>
      simp only [cellsV]
      cases Nat.ble (Nat.add i vs.length) n with
      | false => rfl
      | true => cases allOne vs <;> rfl
    | _ => rfl

noncomputable def storeB (ty : Tys) (H : AHeap) (t : Nat) (a v : AVal) : Option AHeap :=
  optR (ty t) none (fun ta => optR (ptrV a) none (fun p => bifR (Nat.beq v.cells.length ta.size) (bifR (Nat.beq ta.size 0) (some H) (writeB H p.1 p.2 v.cells)) none))
theorem storeB_eq (ty : Tys) (H : AHeap) (t : Nat) (a v : AVal) : storeB ty H t a v = storeA ty H t a v := by
  unfold storeB storeA
  simp only [optR_eq, bifR_eq, writeB_eq]
  cases ty t with
  | none => rfl
  | some ta =>
    cases a with
    | ptr p => cases p <;> rfl
    | _ => rfl

/-! ### Operations -/
abbrev OpK : Type := Oper → Array Oper → Nat → List Oper → List AItem → Nat → Nat → T AVal → List ADef → CallKind → Option Nat → List AFrame → AHeap → Env → Option Cfg

noncomputable def finB (v : AVal) : OpK := fun o all i rest k fn n tm ds kind rnd cs H _ =>
  optR o.dst (some ⟨⟨fn, n, tm, .ops all (Nat.succ i) rest :: k, ds, .run, kind, rnd⟩, cs, H⟩)
    (fun d => bifR (Nat.blt d n) (some ⟨⟨fn, n, tm.putB d (some v), .ops all (Nat.succ i) rest :: k, ds, .run, kind, rnd⟩, cs, H⟩) none)

noncomputable def finO (r : Option AVal) : OpK := fun o all i rest k fn n tm ds kind rnd cs H E =>
  optR r none (fun v => finB v o all i rest k fn n tm ds kind rnd cs H E)

noncomputable def finH (r : Option AHeap) (v : AVal) : OpK := fun o all i rest k fn n tm ds kind rnd cs _ E =>
  optR r none (fun H' => finB v o all i rest k fn n tm ds kind rnd cs H' E)

noncomputable def slowB : OpK := fun o all i rest k fn n tm ds kind rnd cs H E =>
  match exec1 E H (fun x => evB x tm) o.op with
  | some r => outcome E ⟨fn, n, tm, .ops all i (o :: rest) :: k, ds, .run, kind, rnd⟩ cs r H
  | none => none

def trueB : OpK := fun o all i rest k fn n tm ds kind rnd cs H E =>
  match exec1 E H (evT tm) o.op with
  | some r => outcome E ⟨fn, n, tm, .ops all i (o :: rest) :: k, ds, .run, kind, rnd⟩ cs r H
  | none => none

theorem evB_fun (tm : T AVal) : (fun x => evB x tm) = evT tm := funext fun x => evB_eq x tm

theorem slowB_eq (o : Oper) (all : Array Oper) (i : Nat) (rest : List Oper) (k : List AItem) (fn n : Nat) (tm : T AVal) (ds : List ADef) (kind : CallKind) (rnd : Option Nat) (cs : List AFrame) (H : AHeap) (E : Env) :
    slowB o all i rest k fn n tm ds kind rnd cs H E = trueB o all i rest k fn n tm ds kind rnd cs H E := by
  unfold slowB trueB
  rw [evB_fun]

theorem fin_eq (v : AVal) (o : Oper) (all : Array Oper) (i : Nat) (rest : List Oper) (k : List AItem) (fn n : Nat) (tm : T AVal) (ds : List ADef) (kind : CallKind) (rnd : Option Nat) (cs : List AFrame) (H : AHeap) (E : Env) :
    finB v o all i rest k fn n tm ds kind rnd cs H E = (match finishA ⟨fn, n, tm, .ops all i (o :: rest) :: k, ds, .run, kind, rnd⟩ v with | some fr' => some ⟨fr', cs, H⟩ | none => none) := by
  unfold finB finishA setTm
  simp only [optR_eq, bifR_eq, put_put]
  cases o.dst with
  | none => rfl
  | some d => simp only; cases Nat.blt d n <;> rfl

section
variable {o : Oper} {all : Array Oper} {i : Nat} {rest : List Oper} {k : List AItem} {fn n : Nat} {tm : T AVal} {ds : List ADef} {kind : CallKind} {rnd : Option Nat} {cs : List AFrame} {H : AHeap} {E : Env}

theorem true_val {H' : AHeap} {v : AVal} (h : exec1 E H (evT tm) o.op = some (.val v H')) : finB v o all i rest k fn n tm ds kind rnd cs H' E = trueB o all i rest k fn n tm ds kind rnd cs H E := by
  rw [fin_eq]
  unfold trueB
  rw [h]
  rfl

theorem true_opt {r : Option AVal} (h : exec1 E H (evT tm) o.op = (match r with | some v => some (.val v H) | none => none)) : finO r o all i rest k fn n tm ds kind rnd cs H E = trueB o all i rest k fn n tm ds kind rnd cs H E := by
  unfold finO
  rw [optR_eq]
  cases r with
  | some v => exact true_val h
  | none => unfold trueB; rw [h]

theorem true_heap {r : Option AHeap} {v : AVal} (h : exec1 E H (evT tm) o.op = (match r with | some H' => some (.val v H') | none => none)) : finH r v o all i rest k fn n tm ds kind rnd cs H E = trueB o all i rest k fn n tm ds kind rnd cs H E := by
  unfold finH
  rw [optR_eq]
  cases r with
  | some H' => exact true_val h
  | none => unfold trueB; rw [h]
end

/-- A function is entered. -/
noncomputable def enterB (g : Nat) (args : List AVal) : OpK := fun o all i rest k fn n tm ds kind rnd cs H E =>
  optR (E.fn g) (slowB o all i rest k fn n tm ds kind rnd cs H E) (fun f => optR f.body (slowB o all i rest k fn n tm ds kind rnd cs H E) (fun c =>
    some ⟨⟨g, Nat.max f.ntmps args.length, setLB args 0 .nil, [.code c], [], .run, .normal, none⟩, ⟨fn, n, tm, .ops all i (o :: rest) :: k, ds, .run, kind, rnd⟩ :: cs, H⟩))

noncomputable def callB (c : Call) : OpK := fun o all i rest k fn n tm ds kind rnd cs H E =>
  @Callee.rec (fun _ => Option Cfg)
    (fun f => optR (funcV (evB f tm)) (slowB o all i rest k fn n tm ds kind rnd cs H E) (fun q => enterB q.1 (q.2.1 ++ mapO (fun x => evB x tm) c.args.toList ++ q.2.2) o all i rest k fn n tm ds kind rnd cs H E))
    (fun _ _ => slowB o all i rest k fn n tm ds kind rnd cs H E)
    (fun _ => slowB o all i rest k fn n tm ds kind rnd cs H E) c.callee

noncomputable def pickB (c a b : Operand) : OpK := fun o all i rest k fn n tm ds kind rnd cs H E =>
  optR (boolV (evB c tm)) (slowB o all i rest k fn n tm ds kind rnd cs H E) (fun t => bifR t (finB (evB a tm) o all i rest k fn n tm ds kind rnd cs H E) (finB (evB b tm) o all i rest k fn n tm ds kind rnd cs H E))

noncomputable def boxB (x : Operand) : OpK := fun o all i rest k fn n tm ds kind rnd cs H E =>
  bifR (allOne (evB x tm).cells) (finB (.ptr (some (H.next, 0))) o all i rest k fn n tm ds kind rnd cs (pushB H (freshK H.next (evB x tm).cells)) E) none

noncomputable def allocB (t : Nat) : OpK := fun o all i rest k fn n tm ds kind rnd cs H E =>
  optR (zeroOf E.ty t) none (fun z => bifR (allOne z.cells) (finB (.ptr (some (H.next, 0))) o all i rest k fn n tm ds kind rnd cs (pushB H (freshK H.next z.cells)) E) none)

noncomputable def opB (op : Op) : OpK :=
  @Op.rec (fun _ => OpK)
    (fun x o all i rest k fn n tm ds kind rnd cs H E => finB (evB x tm) o all i rest k fn n tm ds kind rnd cs H E)
    (fun x o all i rest k fn n tm ds kind rnd cs H E => finB (evB x tm) o all i rest k fn n tm ds kind rnd cs H E)
    (fun c a b => pickB c a b)
    (fun t => allocB t)
    (fun _ x => boxB x)
    (fun t ps o all i rest k fn n tm ds kind rnd cs H E => finO (buildA E.ty t (pairsOf (fun x => evB x tm) ps.toList)) o all i rest k fn n tm ds kind rnd cs H E)
    (fun _ _ _ => slowB)
    (fun _ _ _ _ => slowB)
    (fun t a o all i rest k fn n tm ds kind rnd cs H E => finO (loadB E.ty H t (evB a tm)) o all i rest k fn n tm ds kind rnd cs H E)
    (fun t a x o all i rest k fn n tm ds kind rnd cs H E => finH (storeB E.ty H t (evB a tm) (evB x tm)) aundef o all i rest k fn n tm ds kind rnd cs H E)
    (fun _ => slowB)
    (fun _ => slowB)
    (fun _ => slowB)
    (fun op t x y _ o all i rest k fn n tm ds kind rnd cs H E => finO (binA E.ty op t x y (evB x tm) (evB y tm)) o all i rest k fn n tm ds kind rnd cs H E)
    (fun op _ x o all i rest k fn n tm ds kind rnd cs H E => finO (unA op (evB x tm)) o all i rest k fn n tm ds kind rnd cs H E)
    (fun _ _ _ => slowB)
    (fun _ _ => slowB)
    (fun _ _ => slowB)
    (fun _ _ _ => slowB)
    (fun _ _ => slowB)
    (fun _ _ => slowB)
    (fun _ _ _ => slowB)
    (fun t x lo hi mx o all i rest k fn n tm ds kind rnd cs H E => finO (sliceA E.ty H t (evB x tm) (optO (fun x => evB x tm) lo) (optO (fun x => evB x tm) hi) (optO (fun x => evB x tm) mx)) o all i rest k fn n tm ds kind rnd cs H E)
    (fun t x f o all i rest k fn n tm ds kind rnd cs H E => finO (fieldAddrA E.ty t (evB x tm) f) o all i rest k fn n tm ds kind rnd cs H E)
    (fun t x f o all i rest k fn n tm ds kind rnd cs H E => finO (fieldA E.ty t (evB x tm) f) o all i rest k fn n tm ds kind rnd cs H E)
    (fun t x y o all i rest k fn n tm ds kind rnd cs H E => finO (indexAddrA E.ty t (evB x tm) (evB y tm)) o all i rest k fn n tm ds kind rnd cs H E)
    (fun t x y o all i rest k fn n tm ds kind rnd cs H E => finO (indexA E.ty t (evB x tm) (evB y tm)) o all i rest k fn n tm ds kind rnd cs H E)
    (fun _ _ _ _ => slowB)
    (fun _ _ _ _ => slowB)
    (fun _ _ _ => slowB)
    (fun _ _ _ _ => slowB)
    (fun _ _ => slowB)
    (fun _ _ => slowB)
    (fun _ => slowB)
    (fun _ _ _ _ => slowB)
    (fun x f o all i rest k fn n tm ds kind rnd cs H E => finO (extractA (evB x tm) f) o all i rest k fn n tm ds kind rnd cs H E)
    (fun c => callB c)
    (fun _ => slowB)
    (fun _ => slowB)
    (fun _ => slowB)
    (fun _ _ => slowB)
    (fun _ _ _ => slowB)
    (fun _ _ => slowB)
    op

theorem callB_eq {o : Oper} {c : Call} (ho : o.op = .call c) (all : Array Oper) (i : Nat) (rest : List Oper) (k : List AItem) (fn n : Nat) (tm : T AVal) (ds : List ADef) (kind : CallKind) (rnd : Option Nat) (cs : List AFrame) (H : AHeap) (E : Env) :
    callB c o all i rest k fn n tm ds kind rnd cs H E = trueB o all i rest k fn n tm ds kind rnd cs H E := by
  obtain ⟨callee, args, at_⟩ := c
  cases callee with
  | value f =>
    show optR (funcV (evB f tm)) (slowB o all i rest k fn n tm ds kind rnd cs H E) (fun q => enterB q.1 (q.2.1 ++ mapO (fun x => evB x tm) args.toList ++ q.2.2) o all i rest k fn n tm ds kind rnd cs H E) = _
    rw [optR_eq, slowB_eq]
    cases hf : funcV (evB f tm) with
    | none => rfl
    | some q =>
      obtain ⟨g, a, b⟩ := q
      simp only
      unfold enterB
      simp only [optR_eq, slowB_eq, setLB_eq, evB_fun]
      cases hfn : E.fn g with
      | none => rfl
      | some fx =>
        simp only
        cases hb : fx.body with
        | none => rfl
        | some body =>
          simp only
          rw [evB_eq] at hf
          have hv := funcV_some hf
          unfold trueB
          have he : exec1 E H (evT tm) o.op = some (.enter g (a ++ mapO (evT tm) args.toList ++ b)) := by
            rw [ho]
            show callA E H (evT tm f) (mapO (evT tm) args.toList) = _
            rw [hv]
            unfold callA
            simp only [hfn, hb]
          rw [he]
          show _ = (match enterA E g (a ++ mapO (evT tm) args.toList ++ b) .normal with | some g' => some _ | none => none)
          unfold enterA
          simp only [hfn, hb]
          rfl
  | invoke r m => exact slowB_eq _ _ _ _ _ _ _ _ _ _ _ _ _ _
  | builtin b => exact slowB_eq _ _ _ _ _ _ _ _ _ _ _ _ _ _

theorem opB_eq (o : Oper) (all : Array Oper) (i : Nat) (rest : List Oper) (k : List AItem) (fn n : Nat) (tm : T AVal) (ds : List ADef) (kind : CallKind) (rnd : Option Nat) (cs : List AFrame) (H : AHeap) (E : Env) :
    opB o.op o all i rest k fn n tm ds kind rnd cs H E = trueB o all i rest k fn n tm ds kind rnd cs H E := by
  cases ho : o.op with
  | move x => show finB (evB x tm) o all i rest k fn n tm ds kind rnd cs H E = _; rw [evB_eq]; exact true_val (by rw [ho]; rfl)
  | assign x => show finB (evB x tm) o all i rest k fn n tm ds kind rnd cs H E = _; rw [evB_eq]; exact true_val (by rw [ho]; rfl)
  | pick c a b =>
    show pickB c a b o all i rest k fn n tm ds kind rnd cs H E = _
    unfold pickB
    rw [optR_eq, slowB_eq]
    cases hb : boolV (evB c tm) with
    | none => rfl
    | some t =>
      have hv := boolV_some hb
      rw [evB_eq] at hv
      simp only [bifR_eq]
      cases t with
      | true => simp only [cond_true]; rw [evB_eq]; refine true_val ?_; rw [ho]; show (match qop E.ty H (evT tm) (.pick c a b) with | some r => _ | none => none) = _; simp only [qop, hv]
      | false => simp only [cond_false]; rw [evB_eq]; refine true_val ?_; rw [ho]; show (match qop E.ty H (evT tm) (.pick c a b) with | some r => _ | none => none) = _; simp only [qop, hv]
  | alloc t =>
    show allocB t o all i rest k fn n tm ds kind rnd cs H E = _
    unfold allocB
    simp only [optR_eq, bifR_eq, pushB_eq, freshK_eq]
    have he : exec1 E H (evT tm) o.op = (match aop E.ty H.next (evT tm) (.alloc t) with | some (blk, mk) => some (.val (mk H.next) (H.push blk)) | none => none) := by rw [ho]; rfl
    simp only [aop] at he
    cases hz : zeroOf E.ty t with
    | none => rw [hz] at he; unfold trueB; rw [he]
    | some z =>
      rw [hz] at he
      simp only at he ⊢
      cases ha : allOne z.cells with
      | false => rw [ha] at he; unfold trueB; rw [he]; rfl
      | true => rw [ha] at he; exact true_val he
  | box t x =>
    show boxB x o all i rest k fn n tm ds kind rnd cs H E = _
    unfold boxB
    simp only [bifR_eq, pushB_eq, freshK_eq, evB_eq]
    have he : exec1 E H (evT tm) o.op = (match aop E.ty H.next (evT tm) (.box t x) with | some (blk, mk) => some (.val (mk H.next) (H.push blk)) | none => none) := by rw [ho]; rfl
    simp only [aop] at he
    cases ha : allOne (evT tm x).cells with
    | false => rw [ha] at he; unfold trueB; rw [he]; rfl
    | true => rw [ha] at he; exact true_val he
  | build t ps => show finO (buildA E.ty t (pairsOf (fun x => evB x tm) ps.toList)) o all i rest k fn n tm ds kind rnd cs H E = _; rw [evB_fun]; exact true_opt (by rw [ho]; rfl)
  | load t a => show finO (loadB E.ty H t (evB a tm)) o all i rest k fn n tm ds kind rnd cs H E = _; rw [evB_eq, loadB_eq]; exact true_opt (by rw [ho]; rfl)
  | store t a x => show finH (storeB E.ty H t (evB a tm) (evB x tm)) aundef o all i rest k fn n tm ds kind rnd cs H E = _; rw [evB_eq, evB_eq, storeB_eq]; exact true_heap (by rw [ho]; rfl)
  | binOp op t x y u => show finO (binA E.ty op t x y (evB x tm) (evB y tm)) o all i rest k fn n tm ds kind rnd cs H E = _; rw [evB_eq, evB_eq]; exact true_opt (by rw [ho]; rfl)
  | unOp op t x => show finO (unA op (evB x tm)) o all i rest k fn n tm ds kind rnd cs H E = _; rw [evB_eq]; exact true_opt (by rw [ho]; rfl)
  | slice t x lo hi mx =>
    show finO (sliceA E.ty H t (evB x tm) (optO (fun x => evB x tm) lo) (optO (fun x => evB x tm) hi) (optO (fun x => evB x tm) mx)) o all i rest k fn n tm ds kind rnd cs H E = _
    rw [evB_fun, evB_eq]; exact true_opt (by rw [ho]; rfl)
  | fieldAddr t x f => show finO (fieldAddrA E.ty t (evB x tm) f) o all i rest k fn n tm ds kind rnd cs H E = _; rw [evB_eq]; exact true_opt (by rw [ho]; rfl)
  | field t x f => show finO (fieldA E.ty t (evB x tm) f) o all i rest k fn n tm ds kind rnd cs H E = _; rw [evB_eq]; exact true_opt (by rw [ho]; rfl)
  | indexAddr t x y => show finO (indexAddrA E.ty t (evB x tm) (evB y tm)) o all i rest k fn n tm ds kind rnd cs H E = _; rw [evB_eq, evB_eq]; exact true_opt (by rw [ho]; rfl)
  | index t x y => show finO (indexA E.ty t (evB x tm) (evB y tm)) o all i rest k fn n tm ds kind rnd cs H E = _; rw [evB_eq, evB_eq]; exact true_opt (by rw [ho]; rfl)
  | extract x f => show finO (extractA (evB x tm) f) o all i rest k fn n tm ds kind rnd cs H E = _; rw [evB_eq]; exact true_opt (by rw [ho]; rfl)
  | call c => exact callB_eq ho all i rest k fn n tm ds kind rnd cs H E
  | _ => exact slowB_eq _ _ _ _ _ _ _ _ _ _ _ _ _ _

/-! ### Items -/
abbrev ItK : Type := List AItem → Nat → Nat → T AVal → List ADef → CallKind → Option Nat → List AFrame → AHeap → Env → Option Cfg

noncomputable def opsB (rest : List Oper) : Array Oper → Nat → ItK :=
  @List.rec Oper (fun _ => Array Oper → Nat → ItK)
    (fun _ _ k fn n tm ds kind rnd cs H _ => some ⟨⟨fn, n, tm, k, ds, .run, kind, rnd⟩, cs, H⟩)
    (fun o rest _ all i k fn n tm ds kind rnd cs H E =>
      optR o.guard (opB o.op o all i rest k fn n tm ds kind rnd cs H E) (fun _ => execA E ⟨fn, n, tm, .ops all i (o :: rest) :: k, ds, .run, kind, rnd⟩ cs H)) rest

def codeS (c : Code) : ItK := fun k fn n tm ds kind rnd cs H E => execA E ⟨fn, n, tm, .code c :: k, ds, .run, kind, rnd⟩ cs H

noncomputable def condB (c : Operand) (a b : Code) : ItK := fun k fn n tm ds kind rnd cs H E =>
  optR (boolV (evB c tm)) (codeS (.cond c a b) k fn n tm ds kind rnd cs H E) (fun t => some ⟨⟨fn, n, tm, .code (bifR t a b) :: k, ds, .run, kind, rnd⟩, cs, H⟩)

noncomputable def retB : ItK := fun k fn n tm ds kind rnd cs H E =>
  optR rnd (some ⟨⟨fn, n, tm, .code .ret :: k, ds, .returning, kind, none⟩, cs, H⟩) (fun _ => codeS .ret k fn n tm ds kind rnd cs H E)

noncomputable def codeB (c : Code) : ItK :=
  @Code.rec (fun _ => ItK)
    (fun k fn n tm ds kind rnd cs H _ => some ⟨⟨fn, n, tm, k, ds, .run, kind, rnd⟩, cs, H⟩)
    (fun id ops draw => @Bool.rec (fun _ => ItK) (fun k fn n tm ds kind rnd cs H _ => some ⟨⟨fn, n, tm, .ops ops 0 ops.toList :: k, ds, .run, kind, rnd⟩, cs, H⟩) (codeS (.region id ops true)) draw)
    (fun a b _ _ k fn n tm ds kind rnd cs H _ => some ⟨⟨fn, n, tm, .code a :: .code b :: k, ds, .run, kind, rnd⟩, cs, H⟩)
    (fun c a b _ _ => condB c a b)
    (fun id b _ k fn n tm ds kind rnd cs H _ => some ⟨⟨fn, n, tm, .code b :: .inBlock id :: k, ds, .run, kind, rnd⟩, cs, H⟩)
    (fun b _ k fn n tm ds kind rnd cs H _ => some ⟨⟨fn, n, tm, .code b :: .inLoop b :: k, ds, .run, kind, rnd⟩, cs, H⟩)
    (fun f ps a b _ _ => codeS (.rangeFunc f ps a b))
    (fun id => codeS (.exit id))
    (fun b _ k fn n tm ds kind rnd cs H _ => some ⟨⟨fn, n, tm, .code b :: .inScope b :: k, ds, .run, kind, rnd⟩, cs, H⟩)
    (fun _ k fn n tm ds kind rnd cs H _ => some ⟨⟨fn, n, tm, k, ds, .run, kind, rnd⟩, cs, H⟩)
    (fun l => codeS (.goto l))
    retB
    (fun w => codeS (.refuse w))
    c

theorem codeB_eq (c : Code) (k : List AItem) (fn n : Nat) (tm : T AVal) (ds : List ADef) (kind : CallKind) (rnd : Option Nat) (cs : List AFrame) (H : AHeap) (E : Env) :
    codeB c k fn n tm ds kind rnd cs H E = execA E ⟨fn, n, tm, .code c :: k, ds, .run, kind, rnd⟩ cs H := by
  cases c with
  | region id ops draw => cases draw <;> rfl
  | cond c a b =>
    show condB c a b k fn n tm ds kind rnd cs H E = _
    unfold condB
    rw [optR_eq]
    cases hb : boolV (evB c tm) with
    | none => rfl
    | some t =>
      have hv := boolV_some hb
      rw [evB_eq] at hv
      unfold execA
      simp only [hv, bifR_eq]
      cases t <;> rfl
  | ret =>
    show retB k fn n tm ds kind rnd cs H E = _
    unfold retB
    rw [optR_eq]
    cases rnd <;> rfl
  | _ => rfl

theorem opsB_eq (all : Array Oper) (i : Nat) (rest : List Oper) (k : List AItem) (fn n : Nat) (tm : T AVal) (ds : List ADef) (kind : CallKind) (rnd : Option Nat) (cs : List AFrame) (H : AHeap) (E : Env) :
    opsB rest all i k fn n tm ds kind rnd cs H E = execA E ⟨fn, n, tm, .ops all i rest :: k, ds, .run, kind, rnd⟩ cs H := by
  cases rest with
  | nil => rfl
  | cons o rest =>
    show optR o.guard (opB o.op o all i rest k fn n tm ds kind rnd cs H E) (fun _ => execA E ⟨fn, n, tm, .ops all i (o :: rest) :: k, ds, .run, kind, rnd⟩ cs H) = _
    rw [optR_eq]
    cases hg : o.guard with
    | some _ => rfl
    | none =>
      simp only
      rw [opB_eq]
      unfold execA
      simp only [wantedA, hg]
      rfl

def itemS (it : AItem) : ItK := fun k fn n tm ds kind rnd cs H E => execA E ⟨fn, n, tm, it :: k, ds, .run, kind, rnd⟩ cs H

noncomputable def itemB (it : AItem) : ItK :=
  @AItem.rec (fun _ => ItK)
    (fun c => codeB c)
    (fun _ k fn n tm ds kind rnd cs H _ => some ⟨⟨fn, n, tm, k, ds, .run, kind, rnd⟩, cs, H⟩)
    (fun b k fn n tm ds kind rnd cs H _ => some ⟨⟨fn, n, tm, .code b :: .inLoop b :: k, ds, .run, kind, rnd⟩, cs, H⟩)
    (fun _ k fn n tm ds kind rnd cs H _ => some ⟨⟨fn, n, tm, k, ds, .run, kind, rnd⟩, cs, H⟩)
    (fun all i rest => opsB rest all i)
    (fun all i res al busy => itemS (.draw all i res al busy))
    (fun l => itemS (.inRangeFunc l))
    (fun l => itemS (.endRangeFunc l))
    (itemS .beginRound)
    it

theorem itemB_eq (it : AItem) (k : List AItem) (fn n : Nat) (tm : T AVal) (ds : List ADef) (kind : CallKind) (rnd : Option Nat) (cs : List AFrame) (H : AHeap) (E : Env) :
    itemB it k fn n tm ds kind rnd cs H E = execA E ⟨fn, n, tm, it :: k, ds, .run, kind, rnd⟩ cs H := by
  cases it with
  | code c => exact codeB_eq c k fn n tm ds kind rnd cs H E
  | ops all i rest => exact opsB_eq all i rest k fn n tm ds kind rnd cs H E
  | _ => rfl

noncomputable def runModeB (todo : List AItem) : Nat → Nat → T AVal → List ADef → CallKind → Option Nat → List AFrame → AHeap → Env → Option Cfg :=
  @List.rec AItem (fun _ => Nat → Nat → T AVal → List ADef → CallKind → Option Nat → List AFrame → AHeap → Env → Option Cfg)
    (fun fn n tm ds kind rnd cs H E => optR rnd (some ⟨⟨fn, n, tm, [], ds, .returning, kind, none⟩, cs, H⟩) (fun _ => execA E ⟨fn, n, tm, [], ds, .run, kind, rnd⟩ cs H))
    (fun it k _ => itemB it k) todo

/-! ### A frame hands its answer to its caller -/
noncomputable def oneTmp : List ResultVar → Option Nat := fun l =>
  @List.rec ResultVar (fun _ => Option Nat) none (fun r l _ => @List.rec ResultVar (fun _ => Option Nat) (@ResultVar.rec (fun _ => Option Nat) (fun t => some t) (fun _ _ => none) r) (fun _ _ _ => none) l) l
theorem oneTmp_some {l : List ResultVar} {t : Nat} (h : oneTmp l = some t) : l = [.tmp t] := by
  cases l with
  | nil => cases h
  | cons r l =>
    cases l with
    | cons _ _ => cases h
    | nil =>
      cases r with
      | tmp _ => cases h; rfl
      | cell _ _ => cases h

noncomputable def resB (E : Env) (H : AHeap) (fn : Nat) (tm : T AVal) : Option AVal :=
  optR (E.fn fn) none (fun f => optR (oneTmp f.results.toList) (resultsA E H fn tm) (fun t => some (evB (.tmp t) tm)))
theorem resB_eq (E : Env) (H : AHeap) (fn : Nat) (tm : T AVal) : resB E H fn tm = resultsA E H fn tm := by
  unfold resB
  simp only [optR_eq]
  cases hf : E.fn fn with
  | none => unfold resultsA; rw [hf]
  | some f =>
    simp only
    cases ht : oneTmp f.results.toList with
    | none => rfl
    | some t =>
      have := oneTmp_some ht
      unfold resultsA
      rw [hf]
      simp only [this, resultsL, resultA, evB_eq]

/-- An operation's frame takes its answer. -/
noncomputable def opsHead : List AItem → Option (Array Oper × Nat × Oper × List Oper × List AItem) := fun l =>
  @List.rec AItem (fun _ => Option (Array Oper × Nat × Oper × List Oper × List AItem)) none (fun it k _ =>
    @AItem.rec (fun _ => Option (Array Oper × Nat × Oper × List Oper × List AItem)) (fun _ => none) (fun _ => none) (fun _ => none) (fun _ => none)
      (fun all i rest => @List.rec Oper (fun _ => Option (Array Oper × Nat × Oper × List Oper × List AItem)) none (fun o rest _ => some (all, i, o, rest, k)) rest)
      (fun _ _ _ _ _ => none) (fun _ => none) (fun _ => none) none it) l
theorem opsHead_some {l : List AItem} {all : Array Oper} {i : Nat} {o : Oper} {rest : List Oper} {k : List AItem} (h : opsHead l = some (all, i, o, rest, k)) : l = .ops all i (o :: rest) :: k := by
  cases l with
  | nil => cases h
  | cons it k' =>
    cases it with
    | ops all' i' rest' =>
      cases rest' with
      | nil => cases h
      | cons o' rest' => cases h; rfl
    | _ => cases h

noncomputable def takeB (c : AFrame) (v : AVal) (cs : List AFrame) (H : AHeap) (E : Env) : Option Cfg :=
  @AFrame.rec (fun _ => Option Cfg) (fun fn n tm todo ds mode kind rnd =>
    @AMode.rec (fun _ => Option Cfg)
      (optR (opsHead todo) (match finishA ⟨fn, n, tm, todo, ds, .run, kind, rnd⟩ v with | some c' => some ⟨c', cs, H⟩ | none => none) (fun q => finB v q.2.2.1 q.1 q.2.1 q.2.2.2.1 q.2.2.2.2 fn n tm ds kind rnd cs H E))
      none (fun _ => none) mode) c
theorem takeB_eq (c : AFrame) (v : AVal) (cs : List AFrame) (H : AHeap) (E : Env) : takeB c v cs H E = (match finishA c v with | some c' => some ⟨c', cs, H⟩ | none => none) := by
  obtain ⟨fn, n, tm, todo, ds, mode, kind, rnd⟩ := c
  cases mode with
  | run =>
    show optR (opsHead todo) _ _ = _
    rw [optR_eq]
    cases hq : opsHead todo with
    | none => rfl
    | some q =>
      obtain ⟨all, i, o, rest, k⟩ := q
      have := opsHead_some hq
      subst this
      exact fin_eq v o all i rest k fn n tm ds kind rnd cs H E
  | _ => rfl

def isNormal : CallKind → Bool
  | .normal => true
  | _ => false

noncomputable def unwindB (ds : List ADef) : Nat → Nat → T AVal → List AItem → CallKind → Option Nat → List AFrame → AHeap → Env → Option Cfg :=
  @List.rec ADef (fun _ => Nat → Nat → T AVal → List AItem → CallKind → Option Nat → List AFrame → AHeap → Env → Option Cfg)
    (fun fn n tm todo kind rnd cs H E => @List.rec AFrame (fun _ => Option Cfg) none (fun c rest _ =>
      bifR (isNormal kind) (optR (resB E H fn tm) none (fun v => takeB c v rest H E)) (unwindA E ⟨fn, n, tm, todo, [], .returning, kind, rnd⟩ (c :: rest) H)) cs)
    (fun d ds _ fn n tm todo kind rnd cs H E => unwindA E ⟨fn, n, tm, todo, d :: ds, .returning, kind, rnd⟩ cs H) ds
theorem unwindB_eq (ds : List ADef) (fn n : Nat) (tm : T AVal) (todo : List AItem) (kind : CallKind) (rnd : Option Nat) (cs : List AFrame) (H : AHeap) (E : Env) :
    unwindB ds fn n tm todo kind rnd cs H E = unwindA E ⟨fn, n, tm, todo, ds, .returning, kind, rnd⟩ cs H := by
  cases ds with
  | cons d ds => rfl
  | nil =>
    cases cs with
    | nil => rfl
    | cons c rest =>
      cases kind with
      | normal =>
        show optR (resB E H fn tm) none (fun v => takeB c v rest H E) = _
        rw [optR_eq, resB_eq]
        unfold unwindA
        simp only [takeB_eq]
        cases resultsA E H fn tm with
        | none => rfl
        | some v => simp only [returnA]; cases finishA c v <;> rfl
      | _ => rfl

noncomputable def stepB (c : Cfg) : Env → Option Cfg :=
  @Cfg.rec (fun _ => Env → Option Cfg) (fun fr =>
    @AFrame.rec (fun _ => List AFrame → AHeap → Env → Option Cfg) (fun fn n tm todo ds mode =>
      @AMode.rec (fun _ => CallKind → Option Nat → List AFrame → AHeap → Env → Option Cfg)
        (fun kind rnd cs H E => runModeB todo fn n tm ds kind rnd cs H E)
        (fun kind rnd cs H E => unwindB ds fn n tm todo kind rnd cs H E)
        (fun ch kind rnd cs H E => unwindA E ⟨fn, n, tm, todo, ds, .panicking ch, kind, rnd⟩ cs H) mode) fr) c

theorem stepB_eq (E : Env) (c : Cfg) : stepB c E = stepA E c := by
  obtain ⟨⟨fn, n, tm, todo, ds, mode, kind, rnd⟩, cs, H⟩ := c
  cases mode with
  | run =>
    cases todo with
    | nil =>
      show optR rnd (some ⟨⟨fn, n, tm, [], ds, .returning, kind, none⟩, cs, H⟩) (fun _ => execA E ⟨fn, n, tm, [], ds, .run, kind, rnd⟩ cs H) = _
      rw [optR_eq]
      cases rnd <;> rfl
    | cons it k => exact itemB_eq it k fn n tm ds kind rnd cs H E
  | returning => exact unwindB_eq ds fn n tm todo kind rnd cs H E
  | panicking ch => rfl

/-- The surroundings of a program, functions found by a trie. -/
noncomputable def envK (P : Program) : Env := { ty := tyOf P, fn := fun g => (setLB P.funcs.toList 0 .nil).getB g }
theorem envK_eq (P : Program) : envK P = envOf P := by
  unfold envK envOf
  congr 1
  funext g
  rw [T.getB_eq, setLB_eq]
  show (T.ofL P.funcs.toList).get g = _
  rw [T.get_ofL, Array.getElem?_toList]

noncomputable def runB (E : Env) (n : Nat) : Cfg → Cfg :=
  @Nat.rec (fun _ => Cfg → Cfg) (fun c => c) (fun _ ih c => optR (stepB c E) c ih) n

theorem runB_eq (E : Env) : ∀ n c, runB E n c = runA E n c
  | 0, _ => rfl
  | n + 1, c => by
    show optR (stepB c E) c (runB E n) = _
    rw [optR_eq, stepB_eq]
    show _ = (match stepA E c with | some c' => runA E n c' | none => c)
    cases stepA E c with
    | none => rfl
    | some c' => exact runB_eq E n c'

noncomputable def pieceB (E : Env) (n : Nat) (bl gl : List Nat) (c : Cfg) : Option Cfg := trimA bl gl (runB E n c)
theorem pieceB_eq (E : Env) (n : Nat) (bl gl : List Nat) (c : Cfg) : pieceB E n bl gl c = pieceA E n bl gl c := by unfold pieceB pieceA; rw [runB_eq]

end Go.Eng
/-! Where a map's walk has more than one way on: whatever way is taken, the engine has it. -/
namespace Go.Eng

section
variable {P : Program} {ρ : Ren} {H : AHeap} {W : World}

theorem run_choose_map {n : Nat} (hn : 0 < n) (W : World) : ∃ i d, i < n ∧ (choose (.mapNext n)).run P W = .ok i { W with drawn := d } := by
  by_cases h : n ≤ 1
  · exact ⟨0, W.drawn, hn, by simp [choose, Sem.run, Question.forced, h]⟩
  · exact ⟨W.tape W.drawn (.mapNext n) % n, W.drawn + 1, Nat.mod_lt _ hn, by simp [choose, Sem.run, Question.forced, h, Question.cut]⟩

theorem run_next_any {c m since last clock : Nat} {seen : Array Nat} {es : Array MapEntry} (hc : W.heap[c]? = some (.mapIter (some m) since seen last)) (hm : W.heap[m]? = some (.map es clock))
    (hg : (!seen.isEmpty && !es.isEmpty && es.all (·.born ≥ last)) = false) {left : Array MapEntry} (hl : es.filter (fun e => !seen.contains e.born) = left) (hne : 0 < left.size) (hold : ∀ e ∈ left, e.born < since) (t : TypeId) :
    ∃ e d, e ∈ left ∧ (Instr.next (.pointer (some ⟨c, 0, none⟩)) false t).run P W = .ok (.tuple #[.bool true, e.key, e.val]) { W with drawn := d, heap := W.heap.setIfInBounds c (.mapIter (some m) since (seen.push e.born) clock) } := by
  have g1 : (getObj c).run P W = .ok (.mapIter (some m) since seen last) W := by simp [getObj, Sem.run, hc]
  have g2 : (getObj m).run P W = .ok (.map es clock) W := by simp [getObj, Sem.run, hm]
  have e1 : left.filter (fun e => decide (e.born < since)) = left := Array.filter_eq_self.2 fun e he => by simpa using hold e he
  have e2 : left.filter (fun e => decide (e.born ≥ since)) = #[] := Array.filter_eq_empty_iff.2 fun e he => by have := hold e he; simp; omega
  obtain ⟨i, d, hi, hch⟩ := run_choose_map (P := P) hne W
  refine ⟨left[i], d, Array.getElem_mem hi, ?_⟩
  have hem : left.isEmpty = false := by rw [Array.isEmpty_eq_false_iff]; intro e; rw [e] at hne; simp at hne
  unfold Instr.next
  show Sem.run P (do let d ← getObj c; _) W = _
  simp only [Sem.run_bind, g1, g2, Result.andThen_ok, hg, Bool.false_eq_true, if_false, hl, e1, e2, hem, Array.append_empty, Array.empty_append, Array.size_map, hch]
  have hs : (setObj c (.mapIter (some m) since (seen.push left[i].born) clock)).run P { W with drawn := d } = .ok () { W with drawn := d, heap := W.heap.setIfInBounds c (.mapIter (some m) since (seen.push left[i].born) clock) } := by
    simp [setObj, Sem.run, hc]
  simp [hi, hs]

/-- The ways on of a walk over a map. -/
def waysA (H : AHeap) (it : AVal) : List (AVal × AHeap) :=
  match it with
  | .ptr (some (r, 0)) => (match H.bs.get r with
    | some (.iter (some m) since seen last) => (match H.bs.get m with
      | some (.map es clock) =>
        bif goneAll seen es last then [] else
        bif (es.filter (fun e => !memN e.2.2 seen)).all (fun e => Nat.blt e.2.2 since) then
          (es.filter (fun e => !memN e.2.2 seen)).map fun e => (.tuple [.bool true, e.1, e.2.1], H.setObj r (.iter (some m) since (seen ++ [e.2.2]) clock))
        else []
      | _ => [])
    | _ => [])
  | _ => []

theorem ER_mem : ∀ {es : List (AVal × AVal × Nat)} {es' : List MapEntry}, ER ρ es es' → ∀ e' ∈ es', ∃ e ∈ es, VR ρ e.1 e'.key ∧ VR ρ e.2.1 e'.val ∧ e'.born = e.2.2
  | [], _, h, e', he => by cases h; cases he
  | a :: es, _, ⟨e, es', rfl, h3, h4, h5, h6⟩, e', he => by
    rcases List.mem_cons.1 he with rfl | he
    · exact ⟨a, List.mem_cons_self, h3, h4, h5⟩
    · obtain ⟨x, h7, h8⟩ := ER_mem h6 e' he
      exact ⟨x, List.mem_cons_of_mem _ h7, h8⟩

theorem ways_sound (hr : HR ρ H W.heap) (t : TypeId) {it : AVal} {vi : Value} (hi : VR ρ it vi) (hne : waysA H it ≠ []) : ∃ p ∈ waysA H it, EffR P ρ H W p.1 p.2 (Instr.next vi false t) := by
  unfold waysA at hne ⊢
  split at hne
  · rename_i b
    obtain ⟨w, hw, hlo, rfl⟩ := hi
    have hlo0 : w.lo = 0 := Nat.le_zero.1 hlo
    cases hb : H.bs.get b with
    | none => rw [hb] at hne; exact absurd rfl hne
    | some blk =>
      rw [hb] at hne
      cases blk with
      | iter mo since seen last =>
        cases mo with
        | none => exact absurd rfl hne
        | some m =>
          obtain ⟨m', h1, h2, h0⟩ := hr.blk b _ w hb hw
          have hat : w.at 0 = ⟨w.c, 0, none⟩ := by simp [Win.at, h0]
          rw [hat]
          obtain ⟨wr, h3, rfl⟩ := h2
          simp only at hne ⊢
          cases hm : H.bs.get m with
          | none => rw [hm] at hne; exact absurd rfl hne
          | some mb =>
            rw [hm] at hne
            cases mb with
            | map es clock =>
              simp only at hne ⊢
              obtain ⟨es', g1, g2, g3⟩ := map_block (P := P) hr hm h3
              cases hgo : goneAll seen es last with
              | true => rw [hgo] at hne; exact absurd rfl hne
              | false =>
                rw [hgo, cond_false] at hne
                rw [cond_false]
                have hgo' := hgo
                unfold goneAll at hgo
                have hg : (!seen.toArray.isEmpty && !es'.isEmpty && es'.all (·.born ≥ last)) = false := by
                  have e1 : seen.toArray.isEmpty = seen.isEmpty := by cases seen <;> rfl
                  have e2 : es'.isEmpty = es.isEmpty := by
                    have := ER_length g2
                    obtain ⟨l⟩ := es'
                    cases l <;> cases es <;> simp at this ⊢
                  have e3 : (es'.all (·.born ≥ last)) = es.all (fun e => Nat.ble last e.2.2) := by
                    have := ER_all (fun n => Nat.ble last n) g2
                    rw [← this, ← Array.all_toList]
                    congr 1
                    funext e
                    show decide (last ≤ e.born) = Nat.ble last e.born
                    cases hbl : Nat.ble last e.born with
                    | true => exact decide_eq_true (Nat.le_of_ble_eq_true hbl)
                    | false => exact decide_eq_false fun hle => by rw [Nat.ble_eq_true_of_le hle] at hbl; cases hbl
                  rw [e1, e2, e3, Bool.and_assoc]
                  exact hgo
                have hfl := ER_filter (fun n => !memN n seen) g2
                have hfe : (es'.filter fun e => !seen.toArray.contains e.born).toList = es'.toList.filter fun e => !memN e.born seen := by
                  rw [Array.toList_filter]
                  congr 1
                  funext e
                  rw [memN_eq, List.contains_toArray]
                cases hall : (es.filter (fun e => !memN e.2.2 seen)).all (fun e => Nat.blt e.2.2 since) with
                | false => rw [hall] at hne; exact absurd rfl hne
                | true =>
                  rw [hall, cond_true] at hne
                  rw [cond_true]
                  have hlen : 0 < (es'.filter fun e => !seen.toArray.contains e.born).size := by
                    rw [← Array.length_toList, hfe, ← ER_length hfl]
                    cases hz : es.filter (fun e => !memN e.2.2 seen) with
                    | nil => rw [hz] at hne; exact absurd rfl hne
                    | cons _ _ => simp
                  have hmem : ∀ e' ∈ es'.filter (fun e => !seen.toArray.contains e.born), ∃ e ∈ es.filter (fun e => !memN e.2.2 seen), VR ρ e.1 e'.key ∧ VR ρ e.2.1 e'.val ∧ e'.born = e.2.2 := by
                    intro e' he'
                    rw [← Array.mem_toList_iff, hfe] at he'
                    exact ER_mem hfl e' he'
                  obtain ⟨e', d, h4, h5⟩ := run_next_any (P := P) h1 g1 hg rfl hlen (fun e' he' => by
                    obtain ⟨e, q1, _, _, q2⟩ := hmem e' he'
                    rw [q2]
                    exact blt_iff.1 (List.all_eq_true.1 hall e q1)) t
                  obtain ⟨e, q1, q2, q3, q4⟩ := hmem e' h4
                  refine ⟨_, List.mem_map.2 ⟨e, q1, rfl⟩, _, _, ρ, h5, ⟨_, rfl, _, _, rfl, rfl, _, _, rfl, q2, _, _, rfl, q3, rfl⟩, ?_, Ext.refl _ _ _, Kept.set hw _, ⟨rfl, rfl, rfl⟩, Nat.le_refl _⟩
                  refine hr.setObj hb (fun _ _ _ _ h => by cases h) (fun _ _ _ _ h => by cases h) hw ⟨some wr.c, ?_, ⟨wr, h3, rfl⟩, h0⟩
                  rw [Array.getElem?_setIfInBounds, if_pos rfl, if_pos (hr.lt b w hw), q4]
                  simp
            | _ => exact absurd rfl hne
      | _ => exact absurd rfl hne
  · exact absurd rfl hne

/-- Each way's configuration. -/
def finAll (a : AFrame) (cs : List AFrame) : List (AVal × AHeap) → Option (List Cfg)
  | [] => some []
  | p :: l => (match finishA a p.1, finAll a cs l with
    | some a', some r => some (⟨a', cs, p.2⟩ :: r)
    | _, _ => none)

/-- The ways on from a place where a map's walk takes its next entry. -/
def forkA (c : Cfg) : Option (List Cfg) :=
  match c.fr.mode, c.fr.todo with
  | .run, .ops all _ (o :: _) :: _ => (match wantedA (lookO all c.fr.tm) o, o.op with
    | some true, .next it false => finAll c.fr c.cs (waysA c.H (evT c.fr.tm it))
    | _, _ => none)
  | _, _ => none

theorem finAll_mem {a : AFrame} {cs : List AFrame} : ∀ {l : List (AVal × AHeap)} {r : List Cfg}, finAll a cs l = some r → ∀ p ∈ l, ∃ a', finishA a p.1 = some a' ∧ (⟨a', cs, p.2⟩ : Cfg) ∈ r
  | [], _, _, _, hp => by cases hp
  | q :: l, r, h, p, hp => by
    unfold finAll at h
    cases h1 : finishA a q.1 with
    | none => rw [h1] at h; cases h
    | some a' =>
      cases h2 : finAll a cs l with
      | none => rw [h1, h2] at h; cases h
      | some r' =>
        rw [h1, h2] at h
        simp only [Option.some.injEq] at h
        subst h
        rcases List.mem_cons.1 hp with rfl | hp
        · exact ⟨a', h1, List.mem_cons_self⟩
        · obtain ⟨a2, h3, h4⟩ := finAll_mem h2 p hp
          exact ⟨a2, h3, List.mem_cons_of_mem _ h4⟩

theorem finAll_nil {a : AFrame} {cs : List AFrame} {l : List (AVal × AHeap)} {r : List Cfg} (h : finAll a cs l = some r) (hr : r ≠ []) : l ≠ [] := by
  intro e
  subst e
  simp only [finAll, Option.some.injEq] at h
  exact hr h.symm

theorem fork_sound {base : Nat} {cs0 : List Frame} {c : Cfg} {f : Frame} {cs : List Frame} (hc : CR P base cs0 ρ c f cs W) {l : List Cfg} (h : forkA c = some l) (hl : l ≠ []) : ∃ c' ∈ l, Leads P base cs0 c' f cs W := by
  obtain ⟨a, acs, H⟩ := c
  unfold forkA at h
  simp only at h
  cases hm : a.mode with
  | run =>
    rw [hm] at h
    cases htd : a.todo with
    | nil => rw [htd] at h; cases h
    | cons it0 k =>
      rw [htd] at h
      cases it0 with
      | ops all i rest0 =>
        cases rest0 with
        | nil => cases h
        | cons o rest =>
          simp only at h
          split at h
          · rename_i it hw ho
            obtain ⟨tmps, todo, ds, rnd, rfl, hrnd, hds, ht⟩ := hc.top.open hm
            simp only at hrnd hds ht
            rw [htd] at ht
            obtain ⟨⟨order, k', rfl, h1, h2, h3⟩, h4⟩ := ht
            rw [List.length_cons, range_cons] at h2
            subst h2
            simp only [List.map_cons, List.cons.injEq] at h1
            have hx := evT_VR (fr := mkF a.fn tmps (.inRegion all (i :: List.range' (i + 1) rest.length) :: k') ds a.kind rnd) h4 it
            obtain ⟨p, hp, heff⟩ := ways_sound (P := P) hc.heap o.type hx (finAll_nil h hl)
            obtain ⟨a', h5, h6⟩ := finAll_mem h p hp
            refine ⟨_, h6, ?_⟩
            refine outcome_sound hc hm rfl h1.1 (wants_ops h4 hw) (r := .val p.1 p.2) (.inl fun c e => by rw [ho] at e; cases e) ?_ (by simp only [outcome, h5])
            refine OutR.value (fun v W' h => ?_) heff
            have e : execOp (mkF a.fn tmps (.inRegion all (i :: List.range' (i + 1) rest.length) :: k') ds a.kind rnd).eval o = Next.value <$> Instr.next ((mkF a.fn tmps (.inRegion all (i :: List.range' (i + 1) rest.length) :: k') ds a.kind rnd).eval it) false o.type := by
              obtain ⟨dst, op, type, pos, after, guard⟩ := o
              simp only at ho
              subst ho
              rfl
            rw [e]
            exact run_v v W' h
          · cases h
      | _ => cases h
  | _ => rw [hm] at h; cases h

theorem Goes.fork {c d : Cfg} {l : List Cfg} (h : forkA c = some l) (hl : l ≠ []) (hd : ∀ c' ∈ l, Goes P c' d) : Goes P c d := fun _ _ _ _ _ _ hc => by
  obtain ⟨c', h1, ρ', f', cs', W', h2, h3, h4, h5⟩ := fork_sound hc h hl
  exact Leads.after h2 h4 h5 (hd c' h1 h3)

theorem Goes.pieceB (fit : Fit P) (mixed : P.follows .mixedOrders = true) {n : Nat} {bl gl : List Nat} {c c' : Cfg} (h : Go.Eng.pieceB (envOf P) n bl gl c = some c') : Goes P c c' := Goes.piece fit mixed (by rw [← pieceB_eq]; exact h)
theorem Goes.runB (fit : Fit P) (mixed : P.follows .mixedOrders = true) (n : Nat) (c : Cfg) : Goes P c (Go.Eng.runB (envOf P) n c) := by rw [runB_eq]; exact Goes.run fit mixed n c

end
end Go.Eng
/-! Pieces of a run whose ways part and come together again. -/
namespace Go.Eng

/-- What is said of these groups, of these blocks alone. -/
def thinG (bl : List Nat) (gs : T (List Nat)) : List Nat → T (List Nat) → T (List Nat)
  | [], t => t
  | g :: l, t => thinG bl gs l (match gs.get g with
    | some x => t.set g (x.filter fun b => memN b bl)
    | none => t)

def still : List AItem → Bool
  | .draw _ _ _ _ false :: _ => false
  | _ => true

/-- Only these blocks, and what is said of these groups, are kept; new ones are numbered from nx on. -/
def trimN (bl gl : List Nat) (nx : Nat) (c : Cfg) : Option Cfg :=
  bif Nat.ble c.H.next nx && (listed (thinG bl c.H.gs gl .nil) c.H.next c.H.bs bl && still c.fr.todo) then
    some { fr := c.fr, cs := c.cs, H := { bs := keepL c.H.bs bl .nil, gs := thinG bl c.H.gs gl .nil, next := nx } }
  else none

noncomputable def pieceN (E : Env) (n : Nat) (bl gl : List Nat) (nx : Nat) (c : Cfg) : Option Cfg := trimN bl gl nx (runB E n c)

def nowhere : Cfg := { fr := { fn := 0, n := 0, tm := .nil, todo := [], ds := [], mode := .run, kind := .normal, rnd := none }, cs := [], H := emptyH }
def orNo (o : Option Cfg) : Cfg :=
  match o with
  | some c => c
  | none => nowhere
theorem orNo_some {o : Option Cfg} (h : o.isSome = true) : o = some (orNo o) := by
  cases o with
  | none => cases h
  | some c => rfl

def waysL (c : Cfg) : List Cfg :=
  match forkA c with
  | some l => l
  | none => []
def way (c : Cfg) (i : Nat) : Cfg := orNo (waysL c)[i]?

section
variable {P : Program} {ρ : Ren}

theorem thinG_get {bl : List Nat} {gs : T (List Nat)} : ∀ {l : List Nat} {t : T (List Nat)} {g : Nat} {x : List Nat}, (∀ g x, t.get g = some x → gs.get g ≠ none) → (thinG bl gs l t).get g = some x → gs.get g ≠ none
  | [], _, _, _, ht, h => ht _ _ h
  | a :: l, t, g, x, ht, h => by
    unfold thinG at h
    refine thinG_get ?_ h
    intro g' x' h'
    cases ha : gs.get a with
    | none => rw [ha] at h'; exact ht _ _ h'
    | some y =>
      rw [ha] at h'
      simp only at h'
      rw [T.get_set] at h'
      by_cases e : g' = a
      · subst e; rw [ha]; simp
      · rw [if_neg e] at h'; exact ht _ _ h'

theorem trimN_sound {bl gl : List Nat} {nx : Nat} {base : Nat} {cs0 : List Frame} {c c' : Cfg} {f : Frame} {cs : List Frame} {W : World} (hc : CR P base cs0 ρ c f cs W) (h : trimN bl gl nx c = some c') : CR P base cs0 ρ c' f cs W := by
  obtain ⟨a, acs, H⟩ := c
  unfold trimN at h
  obtain ⟨h1, h⟩ := shutTrue h
  simp only [Option.some.injEq] at h
  subst h
  simp only [Bool.and_eq_true] at h1
  obtain ⟨hle0, hli, hst⟩ := h1
  have hle : H.next ≤ nx := Nat.le_of_ble_eq_true hle0
  have hbs : ∀ b x, (keepL H.bs bl .nil).get b = some x → H.bs.get b = some x := fun b x hx => keepL_get (fun _ _ h => by cases h) hx
  have hh := hc.heap
  refine ⟨⟨fun b x w hb hw => hh.blk b x w (hbs b x hb) hw, hh.lt, fun b hb => ?_, ?_, ?_⟩, hc.old, hc.big, hc.top, ?_, hc.rest, hc.ids, fun id hid => Nat.lt_of_lt_of_le (hc.idlt id hid) hle⟩
  · obtain ⟨f1, f2, f3⟩ := hh.fresh b (Nat.le_trans hle hb)
    refine ⟨?_, f2, ?_⟩
    · cases hx : (keepL H.bs bl .nil).get b with
      | none => rfl
      | some x => have := hbs b x hx; rw [f1] at this; cases this
    · cases hx : (thinG bl H.gs gl .nil).get b with
      | none => rfl
      | some x => exact absurd f3 (thinG_get (fun _ _ h => by cases h) hx)
  · intro b b' w w' hw hw' hne hcc hb hb'
    cases hx : (keepL H.bs bl .nil).get b with
    | none => exact absurd hx hb
    | some x =>
      cases hx' : (keepL H.bs bl .nil).get b' with
      | none => exact absurd hx' hb'
      | some x' =>
        have e := hbs b x hx
        have e' := hbs b' x' hx'
        obtain ⟨cs, n, d, g, cs', n', d', q1, q2, q3⟩ := hh.apart b b' w w' hw hw' hne hcc (by rw [e]; simp) (by rw [e']; simp)
        rw [e] at q1; rw [e'] at q2
        cases q1; cases q2
        exact ⟨cs, n, d, g, cs', n', d', rfl, rfl, q3⟩
  · intro b cs n d g hb
    rcases keepL_mem (l := bl) hb with h2 | h2
    · obtain ⟨h3, h4⟩ := listed_mem hli h2 (hbs b _ hb)
      exact ⟨Nat.lt_of_lt_of_le h3 hle, h4⟩
    · cases h2
  · intro hm all i res al k htd
    simp only at htd
    rw [htd] at hst
    cases hst

theorem Goes.pieceN (fit : Fit P) (mixed : P.follows .mixedOrders = true) {n : Nat} {bl gl : List Nat} {nx : Nat} {c c' : Cfg} (h : Go.Eng.pieceN (envK P) n bl gl nx c = some c') : Goes P c c' := fun _ _ _ _ _ _ hc => by
  unfold Go.Eng.pieceN at h
  rw [envK_eq, runB_eq] at h
  obtain ⟨ρ', f', cs', W', h1, h2, h3, h4⟩ := runA_sound fit mixed n hc
  exact ⟨ρ', f', cs', W', h1, trimN_sound h2 h, h3, h4⟩

theorem Goes.runK (fit : Fit P) (mixed : P.follows .mixedOrders = true) (n : Nat) (c : Cfg) : Goes P c (Go.Eng.runB (envK P) n c) := by rw [envK_eq, runB_eq]; exact Goes.run fit mixed n c

theorem Goes.ways {c d : Cfg} {n : Nat} (hn : (waysL c).length = Nat.succ n) (h : ∀ i, i < Nat.succ n → Goes P (way c i) d) : Goes P c d := by
  cases hf : forkA c with
  | none => unfold waysL at hn; rw [hf] at hn; cases hn
  | some l =>
    have hl : waysL c = l := by unfold waysL; rw [hf]
    refine Goes.fork hf (fun e => by rw [hl, e] at hn; cases hn) fun c' hc' => ?_
    obtain ⟨i, hi, he⟩ := List.getElem_of_mem hc'
    have h1 : way c i = c' := by unfold way; rw [hl, List.getElem?_eq_getElem hi, he]; rfl
    rw [← h1]
    exact h i (by rw [hl] at hn; omega)

theorem Goes.ways2 {c d : Cfg} (hn : (waysL c).length = 2) (h0 : Goes P (way c 0) d) (h1 : Goes P (way c 1) d) : Goes P c d :=
  Goes.ways hn fun i hi => by
    match i, hi with
    | 0, _ => exact h0
    | 1, _ => exact h1
theorem Goes.ways3 {c d : Cfg} (hn : (waysL c).length = 3) (h0 : Goes P (way c 0) d) (h1 : Goes P (way c 1) d) (h2 : Goes P (way c 2) d) : Goes P c d :=
  Goes.ways hn fun i hi => by
    match i, hi with
    | 0, _ => exact h0
    | 1, _ => exact h1
    | 2, _ => exact h2

theorem Goes.ways1 {c d : Cfg} (hn : (waysL c).length = 1) (h0 : Goes P (way c 0) d) : Goes P c d :=
  Goes.ways hn fun i hi => by
    match i, hi with
    | 0, _ => exact h0
theorem Goes.ways4 {c d : Cfg} (hn : (waysL c).length = 4) (h0 : Goes P (way c 0) d) (h1 : Goes P (way c 1) d) (h2 : Goes P (way c 2) d) (h3 : Goes P (way c 3) d) : Goes P c d :=
  Goes.ways hn fun i hi => by
    match i, hi with
    | 0, _ => exact h0
    | 1, _ => exact h1
    | 2, _ => exact h2
    | 3, _ => exact h3
theorem Goes.ways5 {c d : Cfg} (hn : (waysL c).length = 5) (h0 : Goes P (way c 0) d) (h1 : Goes P (way c 1) d) (h2 : Goes P (way c 2) d) (h3 : Goes P (way c 3) d) (h4 : Goes P (way c 4) d) : Goes P c d :=
  Goes.ways hn fun i hi => by
    match i, hi with
    | 0, _ => exact h0
    | 1, _ => exact h1
    | 2, _ => exact h2
    | 3, _ => exact h3
    | 4, _ => exact h4

/-- A call that goes on to its end, and answers true. -/
theorem calls_of_goesK {g : Nat} {args : List AVal} {args' : Array Value} {W : World} (ha : VRs noRen args args'.toList) {c0 c : Cfg} (h0 : startA (envK P) g args = some c0) (hg : Goes P c0 c) (h : isTrue (answerA (envK P) g c) = true) :
    Calls P g args' W fun e W' => e = .returned (.bool true) ∧ Stays W W' := by
  rw [envK_eq] at h0 h
  exact calls_of_goes ha h0 hg h

end
end Go.Eng
