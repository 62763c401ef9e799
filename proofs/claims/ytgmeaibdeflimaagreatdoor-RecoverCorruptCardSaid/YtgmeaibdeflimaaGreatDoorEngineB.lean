/- The engine, part 2 of 3: a deterministic machine for closed runs of Go code, and its proof against the model. No conditions. -/
import Derived.Test.YtgmeaibdeflimaaGreatDoorEngineA
import Derived.Orders
import Derived.Control
import Derived.Calls
/-! Maps that are asked; all quiet operations together. -/
namespace Go.Eng

section
variable {P : Program} {ρ : Ren} {H : AHeap} {W : World}

/-! ### Keys -/
def simpleKey (d : TypeDesc) (x : AVal) : Bool :=
  match d, x with
  | .int _, .int _ _ => true
  | .string, .str _ => true
  | .bool, .bool _ => true
  | _, _ => false

theorem checkKey_simple {t : Nat} {a : ATy} (ha : tyOf P t = some a) {x : AVal} {v : Value} (hx : VR ρ x v) (hs : simpleKey a.desc x = true) (e : Bool) (n : Nat) : (Instr.checkKey e (n + 1) t v).run P W = .ok () W := by
  have hu := run_under ha W
  unfold simpleKey at hs
  split at hs
  · rename_i h; rw [h] at hu; cases hx; simp only [Instr.checkKey, Sem.run_bind, hu, Result.andThen_ok]; rfl
  · rename_i h; rw [h] at hu; obtain ⟨s, rfl, _⟩ := hx; simp only [Instr.checkKey, Sem.run_bind, hu, Result.andThen_ok]; rfl
  · rename_i h; rw [h] at hu; cases hx; simp only [Instr.checkKey, Sem.run_bind, hu, Result.andThen_ok]; rfl
  · cases hs

def keyField (ty : Tys) (cs : List AVal) (f : Field) : Bool :=
  match partOf ty f.type f.offset cs, ty f.type with
  | some x, some fa => simpleKey fa.desc x
  | _, _ => false

theorem keyOk_cases {ty : Tys} {deep : Bool} {t : Nat} {k : AVal} (h : keyOk ty deep t k = true) :
    ∃ a, ty t = some a ∧ (simpleKey a.desc k = true ∨ ∃ fields cs, a.desc = .struct fields ∧ k = .agg cs ∧ fields.toList.all (keyField ty cs) = true) := by
  unfold keyOk at h
  cases ha : ty t with
  | none => simp [ha] at h
  | some a =>
    simp only [ha] at h
    refine ⟨a, rfl, ?_⟩
    split at h
    · rename_i h1; left; simp [simpleKey, h1]
    · rename_i h1; left; simp [simpleKey, h1]
    · rename_i h1; left; simp [simpleKey, h1]
    · rename_i fields cs h1
      right
      simp only [Bool.and_eq_true] at h
      refine ⟨fields, cs, h1, rfl, ?_⟩
      rw [List.all_eq_true] at h ⊢
      intro f hf
      have := h.2 f hf
      unfold keyField
      cases hp : partOf ty f.type f.offset cs with
      | none => simp [hp] at this
      | some x => cases hft : ty f.type with
        | none => simp [hp, hft] at this
        | some fa =>
          simp only [hp, hft] at this ⊢
          unfold simpleKey
          split at this <;> simp_all
    · cases h

theorem checkKey_sound {deep : Bool} {t : Nat} {k : AVal} {v : Value} (hk : VR ρ k v) (h : keyOk (tyOf P) deep t k = true) (e : Bool) : (Instr.checkKey e 10000 t v).run P W = .ok () W := by
  obtain ⟨a, ha, hs | ⟨fields, cs, hd, rfl, hall⟩⟩ := keyOk_cases h
  · exact checkKey_simple ha hk hs e 9999
  · obtain ⟨vs, rfl, hvs⟩ := hk
    have hu := run_under ha W
    rw [hd] at hu
    have hgen : ∀ m, (∃ n, m = n + 1) → (Instr.checkKey e (m + 1) t (.agg vs)).run P W = .ok () W := by
      rintro m ⟨n, hmn⟩
      simp only [Instr.checkKey, Sem.run_bind, hu, Result.andThen_ok]
      rw [← Array.forIn_toList]
      clear hu hd
      revert hall
      generalize fields.toList = fs
      intro hall
      have : (forIn fs PUnit.unit (fun (f : Field) (_ : PUnit) => (do
          if f.name ≠ "_" then do
            Instr.checkKey e m f.type (← part f.type vs f.offset)
            pure (ForInStep.yield PUnit.unit)
          else pure (ForInStep.yield PUnit.unit) : Sem (ForInStep PUnit)))).run P W = .ok PUnit.unit W := by
        induction fs with
        | nil => simp
        | cons f fs ih =>
          simp only [List.all_cons, Bool.and_eq_true] at hall
          have hf := hall.1
          unfold keyField at hf
          cases hp : partOf (tyOf P) f.type f.offset cs with
          | none => simp [hp] at hf
          | some x => cases hft : tyOf P f.type with
            | none => simp [hp, hft] at hf
            | some fa =>
              simp only [hp, hft] at hf
              obtain ⟨u, h1, h2⟩ := partOf_sound (W := W) hp hvs
              have h3 := checkKey_simple (W := W) hft h2 hf e n
              rw [← hmn] at h3
              simp only [List.forIn_cons, Sem.run_bind, Sem.run_ite]
              split
              · simp only [h1, h3, Result.andThen_ok, Sem.run_pure]
                exact ih hall.2
              · simp only [Sem.run_pure, Result.andThen_ok]
                exact ih hall.2
      rw [this]
      rfl
    exact hgen 9999 ⟨9998, rfl⟩

/-! ### Entries -/
def FR1 (ρ : Ren) : Option (Nat × AVal) → Option (Nat × Value) → Prop
  | none, none => True
  | some a, some b => a.1 = b.1 ∧ VR ρ a.2 b.2
  | _, _ => False

theorem findAsking_sound {kt : Nat} {k : AVal} {vk : Value} (hk : VR ρ k vk) : ∀ (es : List (AVal × AVal × Nat)) (es' : List MapEntry) (i : Nat) (r : Option (Nat × AVal)), ER ρ es es' → findA (tyOf P) kt k es i = some r →
    ∃ r', (Instr.findAsking kt vk es' i).run P W = .ok r' W ∧ FR1 ρ r r' := by
  intro es
  induction es with
  | nil =>
    intro es' i r he h
    cases he
    simp only [findA, Option.some.injEq] at h
    subst h
    exact ⟨none, rfl, trivial⟩
  | cons a es ih =>
    rintro es' i r ⟨e, es'', rfl, h1, h2, h3, h4⟩ h
    simp only [findA] at h
    cases hq : eqA (tyOf P) 100 kt k a.1 with
    | none => simp [hq] at h
    | some q =>
      have hE : (Op.equal kt vk e.key).run P W = .ok q W := eqA_sound 100 kt k a.1 q hq vk e.key hk h1 10000 (by omega) W
      cases q with
      | true =>
        simp only [hq, Option.some.injEq] at h
        subst h
        exact ⟨some (i, e.val), by simp only [Instr.findAsking, Sem.run_bind, hE, Result.andThen_ok]; rfl, rfl, h2⟩
      | false =>
        simp only [hq] at h
        obtain ⟨r', h5, h6⟩ := ih es'' (i + 1) r h4 h
        exact ⟨r', by simp only [Instr.findAsking, Sem.run_bind, hE, Result.andThen_ok]; exact h5, h6⟩

theorem findNow_run {kt : Nat} {d : TypeDesc} (hu : P.underlying kt = some d) (vk : Value) : ∀ (es : List MapEntry) (i : Nat) (r : Option (Nat × Value)), Instr.findNow d vk es i = some r →
    (Instr.findAsking kt vk es i).run P W = .ok r W := by
  intro es
  induction es with
  | nil => intro i r h; simp only [Instr.findNow, Option.some.injEq] at h; subst h; rfl
  | cons e es ih =>
    intro i r h
    simp only [Instr.findNow] at h
    have hs : ∀ ky b, Instr.sameNow d vk ky = some b → (Op.equal kt vk ky).run P W = .ok b W := by
      intro ky b hb
      unfold Instr.sameNow at hb
      split at hb
      · split at hb
        · rename_i hk
          simp only [Option.some.injEq] at hb
          subst hb
          subst hk
          exact run_equalIn_int W 9999 kt _ _ _ _ hu
        · cases hb
      · simp only [Option.some.injEq] at hb
        subst hb
        rename_i a b
        have := run_equalIn_string (P := P) W 9999 kt a b hu
        rw [beq_toListBytes]
        exact this
      · simp only [Option.some.injEq] at hb
        subst hb
        exact run_equalIn_bool W 9999 kt _ _ hu
      · cases hb
    cases hq : Instr.sameNow d vk e.key with
    | none => simp [hq] at h
    | some q =>
      have hE := hs _ q hq
      cases q with
      | true =>
        simp only [hq, Option.some.injEq] at h
        subst h
        simp only [Instr.findAsking, Sem.run_bind, hE, Result.andThen_ok]; rfl
      | false =>
        simp only [hq] at h
        simp only [Instr.findAsking, Sem.run_bind, hE, Result.andThen_ok]
        exact ih (i + 1) r h

theorem findKey_sound {kt : Nat} {ka : ATy} (hka : tyOf P kt = some ka) {k : AVal} {vk : Value} (hk : VR ρ k vk) {es : List (AVal × AVal × Nat)} {es' : List MapEntry} {r : Option (Nat × AVal)} (he : ER ρ es es')
    (h : findA (tyOf P) kt k es 0 = some r) : ∃ r', (Instr.findKey kt vk es').run P W = .ok r' W ∧ FR1 ρ r r' := by
  obtain ⟨r', h1, h2⟩ := findAsking_sound (W := W) hk es es' 0 r he h
  refine ⟨r', ?_, h2⟩
  obtain ⟨_, _, hu, _⟩ := tyOf_some hka
  simp only [Instr.findKey, Sem.run_bind, run_underlying hu, Result.andThen_ok]
  cases hn : Instr.findNow ka.desc vk es' 0 with
  | none => exact h1
  | some r0 =>
    have := findNow_run (W := W) hu vk es' 0 r0 hn
    rw [h1] at this
    cases this
    rfl

theorem keyOk_ty {ty : Tys} {deep : Bool} {t : Nat} {k : AVal} (h : keyOk ty deep t k = true) : ∃ a, ty t = some a := by
  obtain ⟨a, ha, _⟩ := keyOk_cases h
  exact ⟨a, ha⟩

theorem ER_length : ∀ {es : List (AVal × AVal × Nat)} {es' : List MapEntry}, ER ρ es es' → es.length = es'.length
  | [], _, h => by cases h; rfl
  | _ :: _, _, ⟨_, _, rfl, _, _, _, h⟩ => by simp [ER_length h]

theorem map_block (hr : HR ρ H W.heap) {r : Nat} {es : List (AVal × AVal × Nat)} {clock : Nat} (hb : H.bs.get r = some (.map es clock)) {w : Win} (hw : ρ r = some w) :
    ∃ es', W.heap[w.c]? = some (.map es' clock) ∧ ER ρ es es'.toList ∧ (getObj w.c).run P W = .ok (.map es' clock) W := by
  obtain ⟨es', h1, h2⟩ := hr.blk r _ w hb hw
  exact ⟨es', h1, h2, by simp [getObj, Sem.run, h1]⟩

def lookRest (kt et : TypeId) (vi : Value) (ok : Bool) (es : Array MapEntry) : Sem Value := do
  Instr.checkKey es.isEmpty 10000 kt vi
  let (v, b) ← match ← Instr.findKey kt vi es.toList with
    | some (_, v) => pure (v, true)
    | none => pure (← zeroValue et, false)
  pure (if ok then .tuple #[v, .bool b] else v)

def FoundR (ty : Tys) (et : Nat) (ok : Bool) (r : AVal) : Option (Nat × AVal) → Prop
  | some q => r = bif ok then AVal.tuple [q.2, .bool true] else q.2
  | none => ∃ z, zeroOf ty et = some z ∧ r = bif ok then AVal.tuple [z, .bool false] else z

theorem lookRest_sound (hr : HR ρ H W.heap) {kt et : Nat} {ix r : AVal} {vi : Value} {ok : Bool} (hi : VR ρ ix vi) (hkey : keyOk (tyOf P) true kt ix = true) {es : List (AVal × AVal × Nat)} {es' : Array MapEntry} (hER : ER ρ es es'.toList)
    {fr : Option (Nat × AVal)} (hfa : findA (tyOf P) kt ix es 0 = some fr)
    (hf : FoundR (tyOf P) et ok r fr) : QR P ρ H W r (lookRest kt et vi ok es') := by
  obtain ⟨ka, hka⟩ := keyOk_ty hkey
  obtain ⟨fr', h1, h2⟩ := findKey_sound (W := W) hka hi hER hfa
  have hck := checkKey_sound (W := W) hi hkey es'.isEmpty
  cases fr with
  | some q =>
    cases fr' with
    | none => exact h2.elim
    | some q' =>
      simp only [FoundR] at hf
      subst hf
      cases ok with
      | true =>
        refine QR.of hr (v := .tuple #[q'.2, .bool true]) ?_ ⟨_, rfl, ⟨_, _, rfl, h2.2, ⟨_, _, rfl, rfl, rfl⟩⟩⟩
        simp only [lookRest, Sem.run_bind, hck, h1, Result.andThen_ok]
        rfl
      | false =>
        refine QR.of hr (v := q'.2) ?_ h2.2
        simp only [lookRest, Sem.run_bind, hck, h1, Result.andThen_ok]
        rfl
  | none =>
    cases fr' with
    | some _ => exact h2.elim
    | none =>
      obtain ⟨z, hz, rfl⟩ := hf
      obtain ⟨ea, hea, hzz⟩ := zeroOf_some hz
      obtain ⟨zv, hz1, hz2⟩ := run_zero hea hzz W
      cases ok with
      | true =>
        refine QR.of hr (v := .tuple #[zv, .bool false]) ?_ ⟨_, rfl, ⟨_, _, rfl, hz2 ρ, ⟨_, _, rfl, rfl, rfl⟩⟩⟩
        simp only [lookRest, Sem.run_bind, hck, h1, Result.andThen_ok, hz1]
        rfl
      | false =>
        refine QR.of hr (v := zv) ?_ (hz2 ρ)
        simp only [lookRest, Sem.run_bind, hck, h1, Result.andThen_ok, hz1]
        rfl

theorem QR.congr {r : AVal} {s s' : Sem Value} (he : s.run P W = s'.run P W) (h : QR P ρ H W r s') : QR P ρ H W r s := by
  obtain ⟨v, W', h1, h2⟩ := h
  exact ⟨v, W', he.trans h1, h2⟩

theorem lookupA_sound (hr : HR ρ H W.heap) {t : Nat} {x ix r : AVal} {vx vi : Value} {ok : Bool} (hx : VR ρ x vx) (hi : VR ρ ix vi) (h : lookupA (tyOf P) H t x ix ok = some r) : QR P ρ H W r (Instr.lookup t vx vi ok) := by
  unfold lookupA at h
  cases ha : tyOf P t with
  | none => simp [ha] at h
  | some a =>
    simp only [ha] at h
    have hu := run_under ha W
    cases hd : a.desc with
    | map kt et =>
      rw [hd] at h hu
      simp only at h
      obtain ⟨hkey, h⟩ := shutTrue h
      have hmain : ∀ es : List (AVal × AVal × Nat), (match findA (tyOf P) kt ix es 0 with
            | none => none
            | some (some (_, v)) => some (bif ok then AVal.tuple [v, .bool true] else v)
            | some none => match zeroOf (tyOf P) et with
              | some z => some (bif ok then AVal.tuple [z, .bool false] else z)
              | none => none) = some r → ∃ fr, findA (tyOf P) kt ix es 0 = some fr ∧ FoundR (tyOf P) et ok r fr := by
        intro es hf
        cases hfa : findA (tyOf P) kt ix es 0 with
        | none => simp [hfa] at hf
        | some fr =>
          refine ⟨fr, rfl, ?_⟩
          cases fr with
          | some q => simp only [hfa, Option.some.injEq] at hf; exact hf.symm
          | none =>
            simp only [hfa] at hf
            cases hz : zeroOf (tyOf P) et with
            | none => simp [hz] at hf
            | some z => simp only [hz, Option.some.injEq] at hf; exact ⟨z, hz, hf.symm⟩
      cases x with
      | map p =>
        cases p with
        | none =>
          cases hx
          obtain ⟨fr, h1, h2⟩ := hmain [] h
          refine QR.congr ?_ (lookRest_sound hr (es := []) (es' := #[]) hi hkey rfl h1 h2)
          unfold Instr.lookup lookRest
          simp only [Sem.run_bind, hu, Result.andThen_ok, Sem.run_pure]
          refine congrArg _ (funext fun _ => funext fun w1 => congrArg _ (funext fun a => funext fun w2 => ?_))
          cases a <;> simp
        | some p =>
          obtain ⟨w, hw, rfl⟩ := hx
          cases hb : H.bs.get p with
          | none => simp [hb] at h
          | some blk =>
            cases blk with
            | map es clock =>
              simp only [hb] at h
              obtain ⟨es', h1, h2, h3⟩ := map_block (P := P) hr hb hw
              obtain ⟨fr, h4, h5⟩ := hmain es h
              refine QR.congr ?_ (lookRest_sound hr hi hkey h2 h4 h5)
              unfold Instr.lookup lookRest
              simp only [Sem.run_bind, hu, Result.andThen_ok, h3, Sem.run_pure]
              refine congrArg _ (funext fun _ => funext fun w1 => congrArg _ (funext fun a => funext fun w2 => ?_))
              cases a <;> simp
            | _ => simp [hb] at h
      | _ => simp at h
    | _ => rw [hd] at h; simp at h

theorem lenA_sound (hr : HR ρ H W.heap) {t : Nat} {x r : AVal} {vx : Value} (hx : VR ρ x vx) (rt : TypeId) {argTypes : Array TypeId} (hat : argTypes[0]? = some t) (h : lenA (tyOf P) H t x = some r) :
    QR P ρ H W r (Builtin.len_ argTypes rt #[vx]) := by
  unfold lenA at h
  cases ha : tyOf P t with
  | none => simp [ha] at h
  | some a =>
    simp only [ha] at h
    have hu := run_under ha W
    have hstart : ∀ {v : Value}, ((do match ← underlying t, vx with
        | .string, .string s => pure (goInt s.size)
        | .array n _, _ => pure (goInt n)
        | .pointer arr, _ =>
          let .array n _ ← underlying arr | stuck "len: pointer to array expected"
          pure (goInt n)
        | .slice _, .slice _ n _ => pure (goInt n)
        | .map _ _, .map none | .chan _ _, .chan none => pure (goInt 0)
        | .map _ _, .map (some r) =>
          let .map entries _ ← getObj r | stuck "len: map expected"
          pure (goInt entries.size)
        | .chan _ _, .chan (some r) =>
          let .chan _ buf _ _ _ timer ← getObj r | stuck "len: channel expected"
          pure (goInt (if timer then 0 else buf.size))
        | _, _ => stuck "len: string, array, pointer to array, slice, map or channel expected" : Sem Value)).run P W = .ok v W → (Builtin.len_ argTypes rt #[vx]).run P W = .ok v W := by
      intro v hv
      unfold Builtin.len_
      simp only [hat]
      exact hv
    split at h
    · rename_i s hd
      obtain ⟨xs, rfl, hs⟩ := hx
      simp only [Option.some.injEq] at h; subst h
      rw [hd] at hu
      have hl : s.length = xs.size := by rw [← hs]; exact bytesN_length xs
      refine QR.of hr (hstart (v := goInt xs.size) ?_) (by rw [hl]; rfl)
      simp only [Sem.run_bind, hu, Result.andThen_ok]; rfl
    · rename_i n e hd
      simp only [Option.some.injEq] at h; subst h
      rw [hd] at hu
      refine QR.of hr (hstart (v := goInt n) ?_) rfl
      simp only [Sem.run_bind, hu, Result.andThen_ok]; rfl
    · rename_i p hd
      cases hp : tyOf P p with
      | none => simp [hp] at h
      | some pa =>
        simp only [hp] at h
        have hup := run_under hp W
        cases hpd : pa.desc with
        | array n e =>
          rw [hpd] at h hup
          simp only [Option.some.injEq] at h; subst h
          rw [hd] at hu
          refine QR.of hr (hstart (v := goInt n) ?_) rfl
          simp only [Sem.run_bind, hu, Result.andThen_ok, hup]; rfl
        | _ => rw [hpd] at h; simp at h
    · rename_i e base n cap es hd
      simp only [Option.some.injEq] at h; subst h
      rw [hd] at hu
      have : ∃ ad k, vx = .slice ad n k := by
        cases base with
        | none => obtain ⟨rfl, _, rfl⟩ := hx; exact ⟨_, _, rfl⟩
        | some p => obtain ⟨ad, k, rfl, _⟩ := hx; exact ⟨_, _, rfl⟩
      obtain ⟨ad, k, rfl⟩ := this
      refine QR.of hr (hstart (v := goInt n) ?_) rfl
      simp only [Sem.run_bind, hu, Result.andThen_ok]; rfl
    · rename_i k e hd
      cases hx
      simp only [Option.some.injEq] at h; subst h
      rw [hd] at hu
      refine QR.of hr (hstart (v := goInt 0) ?_) rfl
      simp only [Sem.run_bind, hu, Result.andThen_ok]; rfl
    · rename_i k e p hd
      obtain ⟨w, hw, rfl⟩ := hx
      cases hb : H.bs.get p with
      | none => simp [hb] at h
      | some blk =>
        cases blk with
        | map es clock =>
          simp only [hb, Option.some.injEq] at h
          subst h
          obtain ⟨es', h1, h2, h3⟩ := map_block (P := P) hr hb hw
          rw [hd] at hu
          have hl := ER_length h2
          refine QR.of hr (hstart (v := goInt es'.size) ?_) (by rw [hl]; rfl)
          simp only [Sem.run_bind, hu, Result.andThen_ok, h3]; rfl
        | _ => simp [hb] at h
    · cases h

theorem capA_sound (hr : HR ρ H W.heap) {t : Nat} {x r : AVal} {vx : Value} (hx : VR ρ x vx) (rt : TypeId) {argTypes : Array TypeId} (hat : argTypes[0]? = some t) (h : capA (tyOf P) t x = some r) :
    QR P ρ H W r (Builtin.cap_ argTypes rt #[vx]) := by
  unfold capA at h
  cases ha : tyOf P t with
  | none => simp [ha] at h
  | some a =>
    simp only [ha] at h
    have hu := run_under ha W
    split at h
    · rename_i n e hd
      simp only [Option.some.injEq] at h; subst h
      rw [hd] at hu
      refine QR.of hr (v := goInt n) ?_ rfl
      unfold Builtin.cap_
      simp only [hat]
      show Sem.run P (do match ← underlying t, vx with | _, _ => _) W = _
      simp only [Sem.run_bind, hu, Result.andThen_ok]; rfl
    · rename_i e base n cc es hd
      simp only [Option.some.injEq] at h; subst h
      rw [hd] at hu
      have : ∃ ad, vx = .slice ad n cc := by
        cases base with
        | none => obtain ⟨rfl, h2, rfl⟩ := hx; cases h2; exact ⟨_, rfl⟩
        | some p => obtain ⟨ad, k, rfl, _, h2, _⟩ := hx; have := h2 cc rfl; subst this; exact ⟨_, rfl⟩
      obtain ⟨ad, rfl⟩ := this
      refine QR.of hr (v := goInt cc) ?_ rfl
      unfold Builtin.cap_
      simp only [hat]
      show Sem.run P (do match ← underlying t, Value.slice ad n cc with | _, _ => _) W = _
      simp only [Sem.run_bind, hu, Result.andThen_ok]; rfl
    · cases h

end
end Go.Eng
/-! All quiet operations together; operations that make a block. -/
namespace Go.Eng

section
variable {P : Program} {ρ : Ren} {H : AHeap} {W : World}

theorem opt_OR {ev : Operand → AVal} {e : Operand → Value} : ∀ {x : Option Operand}, EvR ρ ev e x.toArray.toList → OR ρ (optO ev x) (x.map e)
  | none, _ => trivial
  | some y, h => h y (by simp)

/-- What a quiet operation does in the model. -/
def Quiet (P : Program) (ρ : Ren) (H : AHeap) (W : World) (r : AVal) (s : Sem Next) : Prop :=
  ∃ v W', s.run P W = .ok (.value v) W' ∧ VR ρ r v ∧ HR ρ H W'.heap ∧ Kept ρ W.heap W'.heap ∧ Rest W W'

theorem Quiet.of {r : AVal} (hr : HR ρ H W.heap) {v : Value} {s : Sem Next} (h : s.run P W = .ok (.value v) W) (hv : VR ρ r v) : Quiet P ρ H W r s := ⟨v, W, h, hv, hr, Kept.refl _ _, Rest.refl _⟩

theorem qop_sound (hr : HR ρ H W.heap) {ev : Operand → AVal} {e : Operand → Value} {o : Oper} (hev : EvR ρ ev e o.op.operands.toList) {r : AVal} (h : qop (tyOf P) H ev o.op = some r) :
    Quiet P ρ H W r (execOp e o) := by
  obtain ⟨dst, op, type, pos, after, guard⟩ := o
  simp only at h hev
  have hv : ∀ x, x ∈ op.operands.toList → VR ρ (ev x) (e x) := hev
  cases op with
  | move x => simp only [qop, Option.some.injEq] at h; subst h; exact Quiet.of hr (v := e x) rfl (hv x (by simp [Op.operands]))
  | assign x => simp only [qop, Option.some.injEq] at h; subst h; exact Quiet.of hr (v := e x) rfl (hv x (by simp [Op.operands]))
  | pick c a b =>
    have hc := hv c (by simp [Op.operands])
    have ha := hv a (by simp [Op.operands])
    have hb := hv b (by simp [Op.operands])
    simp only [qop] at h
    cases hcc : ev c with
    | bool q =>
      rw [hcc] at hc
      rw [hcc] at h
      cases q with
      | true =>
        simp only [Option.some.injEq] at h; subst h
        refine Quiet.of hr (v := e a) ?_ ha
        have : e c = .bool true := hc
        simp [execOp, this, asBool]
      | false =>
        simp only [Option.some.injEq] at h; subst h
        refine Quiet.of hr (v := e b) ?_ hb
        have : e c = .bool false := hc
        simp [execOp, this, asBool]
    | _ => rw [hcc] at h; simp at h
  | build t ps =>
    simp only [qop] at h
    refine (buildA_sound hr (parts' := ps.map fun (i, x) => (i, e x)) ?_ h).bind
    have := pairsOf_PR (ρ := ρ) (ev := ev) (e := e) (l := ps.toList) (fun x hx => hv x (by simpa [Op.operands] using hx))
    simpa using this
  | load t a => simp only [qop] at h; exact (loadA_sound hr (hv a (by simp [Op.operands])) h).bind
  | nilCheck x =>
    have hx := hv x (by simp [Op.operands])
    simp only [qop] at h
    cases hcc : ev x with
    | ptr p =>
      cases p with
      | none => rw [hcc] at h; simp at h
      | some p =>
        rw [hcc] at hx h
        simp only [Option.some.injEq] at h
        subst h
        have hx' := hx
        obtain ⟨w, _, _, hxe⟩ := hx
        refine Quiet.of hr (v := e x) ?_ hx'
        simp only [execOp, hxe]
        rfl
    | _ => rw [hcc] at h; simp at h
  | binOp op t x y yt => simp only [qop] at h; exact (binA_sound hr (hv x (by simp [Op.operands])) (hv y (by simp [Op.operands])) h).bind
  | unOp op t x => simp only [qop] at h; exact (unA_sound hr (hv x (by simp [Op.operands])) h).bind
  | convert s d x => simp only [qop] at h; exact (convA_sound hr (hv x (by simp [Op.operands])) h).bind
  | makeInterface t x =>
    have hx := hv x (by simp [Op.operands])
    simp only [qop] at h
    cases ha : tyOf P t with
    | none => simp [ha] at h
    | some a =>
      simp only [ha] at h
      have hu := run_under ha W
      refine Quiet.of hr (v := .iface t (e x)) ?_ ?_
      · refine run_val_ok ?_
        simp only [Instr.makeInterface, Sem.run_bind, hu, Result.andThen_ok]
        cases hd : a.desc <;> rw [hd] at h <;> first | rfl | simp at h
      · cases hd : a.desc <;> rw [hd] at h <;> simp at h <;> subst h <;> exact ⟨_, rfl, hx⟩
  | makeFunc fn f c =>
    simp only [qop] at h
    cases fn with
    | yield l => simp at h
    | _ =>
      simp only [Option.some.injEq] at h
      subst h
      refine Quiet.of hr (v := .func _ (f.map e) (c.map e)) rfl ⟨fun l hl => (by cases hl), f.map e, c.map e, rfl, ?_, ?_⟩
      · rw [Array.toList_map]; exact mapO_VRs fun x hx => hv x (by simp only [Op.operands, Array.toList_append]; exact List.mem_append_left _ hx)
      · rw [Array.toList_map]; exact mapO_VRs fun x hx => hv x (by simp only [Op.operands, Array.toList_append]; exact List.mem_append_right _ hx)
  | slice t x lo hi mx =>
    simp only [qop] at h
    refine (sliceA_sound hr (hv x (by simp [Op.operands])) (opt_OR fun y hy => hv y ?_) (opt_OR fun y hy => hv y ?_) (opt_OR fun y hy => hv y ?_) h).bind
    · simp only [Op.operands, Array.toList_append]; simp at hy ⊢; simp [hy]
    · simp only [Op.operands, Array.toList_append]; simp at hy ⊢; simp [hy]
    · simp only [Op.operands, Array.toList_append]; simp at hy ⊢; simp [hy]
  | fieldAddr s x f => simp only [qop] at h; exact (fieldAddrA_sound hr (hv x (by simp [Op.operands])) h).bind
  | field t x f => simp only [qop] at h; exact (fieldA_sound hr (hv x (by simp [Op.operands])) h).bind
  | indexAddr t x i => simp only [qop] at h; exact (indexAddrA_sound hr (hv x (by simp [Op.operands])) (hv i (by simp [Op.operands])) h).bind
  | index t x i => simp only [qop] at h; exact (indexA_sound hr (hv x (by simp [Op.operands])) (hv i (by simp [Op.operands])) h).bind
  | lookup t x i ok => simp only [qop] at h; exact (lookupA_sound hr (hv x (by simp [Op.operands])) (hv i (by simp [Op.operands])) h).bind
  | entry it =>
    have hx := hv it (by simp [Op.operands])
    simp only [qop] at h
    cases hcc : ev it with
    | ptr p =>
      rw [hcc] at hx h
      cases p with
      | none => simp at h
      | some p =>
        obtain ⟨r0, o0⟩ := p
        cases o0 with
        | succ o0 => simp at h
        | zero =>
          obtain ⟨w, hw, hlo, hxe⟩ := hx
          simp only at h
          cases hb : H.bs.get r0 with
          | none => simp [hb] at h
          | some blk =>
            cases blk with
            | iter m since seen stepped =>
              cases m with
              | none => simp [hb] at h
              | some m =>
                simp only [hb] at h
                obtain ⟨m', h1, ⟨wr, h2, h3⟩, hz⟩ := hr.blk r0 _ w hb hw
                subst h3
                cases hl : seen.getLast? with
                | none => simp [hl] at h
                | some stamp =>
                  cases hbm : H.bs.get m with
                  | none => simp [hl, hbm] at h
                  | some blk2 =>
                    cases blk2 with
                    | map es clock =>
                      simp only [hl, hbm] at h
                      obtain ⟨hck0, hfnd⟩ := shutTrue h
                      have hck := Nat.eq_of_beq_eq_true hck0
                      obtain ⟨es', h4, h5, h6⟩ := map_block (P := P) hr hbm h2
                      have hfind : ∀ (es : List (AVal × AVal × Nat)) (es' : List MapEntry), ER ρ es es' → ∀ q, es.find? (fun e => Nat.beq e.2.2 stamp) = some q →
                          ∃ q', es'.find? (·.born == stamp) = some q' ∧ VR ρ q.1 q'.key ∧ VR ρ q.2.1 q'.val := by
                        intro es
                        induction es with
                        | nil => intro es' _ q hq; simp at hq
                        | cons a es ih =>
                          rintro es' ⟨x, xs, rfl, k1, k2, k3, k4⟩ q hq
                          simp only [List.find?_cons] at hq ⊢
                          cases hbq : Nat.beq a.2.2 stamp with
                          | true =>
                            rw [hbq] at hq
                            simp only [Option.some.injEq] at hq
                            subst hq
                            have := Nat.eq_of_beq_eq_true hbq
                            have hb2 : (x.born == stamp) = true := by simp [k3, this]
                            rw [hb2]
                            exact ⟨x, rfl, k1, k2⟩
                          | false =>
                            rw [hbq] at hq
                            simp only at hq
                            have hb2 : (x.born == stamp) = false := by
                              rw [k3]; simp; intro e; rw [e] at hbq; simp at hbq
                            rw [hb2]
                            exact ih xs k4 q hq
                      cases hf : es.find? (fun e => Nat.beq e.2.2 stamp) with
                      | none => simp [hf] at hfnd
                      | some q =>
                        simp only [hf, Option.some.injEq] at hfnd
                        subst hfnd
                        obtain ⟨q', h7, h8, h9⟩ := hfind es es'.toList h5 q hf
                        refine Quiet.of hr (v := .tuple #[q'.key, q'.val]) ?_ ⟨_, rfl, ⟨_, _, rfl, h8, ⟨_, _, rfl, h9, rfl⟩⟩⟩
                        refine run_val_ok ?_
                        have hob : (getObj w.c).run P W = .ok (.mapIter (some wr.c) since seen.toArray stepped) W := by simp [getObj, Sem.run, h1]
                        have hat : e it = .pointer (some ⟨w.c, 0, none⟩) := by rw [hxe]; unfold Win.at; simp [hz]
                        rw [hat]
                        have hback : seen.toArray.back? = some stamp := by simpa using hl
                        simp only [Instr.entry, Sem.run_bind, hob, Result.andThen_ok, hback, h6]
                        subst hck
                        rw [Array.find?_toList] at h7
                        simp [h7]
                    | _ => simp [hl, hbm] at h
            | _ => simp [hb] at h
    | _ => rw [hcc] at h; simp at h
  | typeAssert x xt t ok => simp only [qop] at h; exact (assertA_sound hr (hv x (by simp [Op.operands])) h).bind
  | extract t i => simp only [qop] at h; exact (extractA_sound hr (hv t (by simp [Op.operands])) h).bind
  | call c =>
    obtain ⟨callee, args, argTypes⟩ := c
    cases callee with
    | builtin b =>
      simp only [qop] at h
      have hargs : ∀ x ∈ args.toList, VR ρ (ev x) (e x) := fun x hx => hv x (by simp [Op.operands, Call.operands]; exact Array.mem_toList_iff.1 hx)
      have hres : ∀ {s : Sem Value}, QR P ρ H W r s → (∀ w, (execOp e { dst := dst, op := .call { callee := .builtin b, args := args, argTypes := argTypes }, type := type, pos := pos, after := after, guard := guard }).run P w = (do pure (Next.value (← s)) : Sem Next).run P w) →
          Quiet P ρ H W r (execOp e { dst := dst, op := .call { callee := .builtin b, args := args, argTypes := argTypes }, type := type, pos := pos, after := after, guard := guard }) := by
        intro s hq he
        obtain ⟨v, W', h1, h2⟩ := hq.bind
        exact ⟨v, W', by rw [he]; exact h1, h2⟩
      obtain ⟨al⟩ := args
      simp only at hargs h
      have hmap : ((⟨al⟩ : Array Operand).map e) = ⟨al.map e⟩ := by simp
      cases b with
      | len =>
        cases al with
        | nil => simp at h
        | cons x al =>
          cases al with
          | cons _ _ => simp at h
          | nil =>
            cases hat : argTypes[0]? with
            | none => simp [hat] at h
            | some t =>
              simp only [hat] at h
              refine hres (lenA_sound hr (hargs x (by simp)) type hat h) fun w => ?_
              simp only [execOp, resolve, hmap, invoke, builtin, Sem.run_bind, Sem.run_pure, Result.andThen_ok]
              rfl
      | cap =>
        cases al with
        | nil => simp at h
        | cons x al =>
          cases al with
          | cons _ _ => simp at h
          | nil =>
            cases hat : argTypes[0]? with
            | none => simp [hat] at h
            | some t =>
              simp only [hat] at h
              refine hres (capA_sound hr (hargs x (by simp)) type hat h) fun w => ?_
              simp only [execOp, resolve, hmap, invoke, builtin, Sem.run_bind, Sem.run_pure, Result.andThen_ok]
              rfl
      | min =>
        cases al with
        | nil => simp at h
        | cons x al =>
          have h' : minMaxA false (ev x) (mapO ev al) = some r := by
            cases argTypes[0]? <;> cases al <;> exact h
          obtain ⟨v, h1, h2⟩ := minMax_sound (P := P) (W := W) false (mapO ev al) (al.map e) (ev x) r (e x) (mapO_VRs fun y hy => hargs y (by simp [hy])) (hargs x (by simp)) h'
          refine hres (s := Builtin.min_ argTypes type ⟨(x :: al).map e⟩) (QR.of hr (v := v) ?_ h2) fun w => ?_
          · simpa [Builtin.min_] using h1
          · simp only [execOp, resolve, hmap, invoke, builtin, Sem.run_bind, Sem.run_pure, Result.andThen_ok]
      | max =>
        cases al with
        | nil => simp at h
        | cons x al =>
          have h' : minMaxA true (ev x) (mapO ev al) = some r := by
            cases argTypes[0]? <;> cases al <;> exact h
          obtain ⟨v, h1, h2⟩ := minMax_sound (P := P) (W := W) true (mapO ev al) (al.map e) (ev x) r (e x) (mapO_VRs fun y hy => hargs y (by simp [hy])) (hargs x (by simp)) h'
          refine hres (s := Builtin.max_ argTypes type ⟨(x :: al).map e⟩) (QR.of hr (v := v) ?_ h2) fun w => ?_
          · simpa [Builtin.max_] using h1
          · simp only [execOp, resolve, hmap, invoke, builtin, Sem.run_bind, Sem.run_pure, Result.andThen_ok]
      | _ => cases al <;> simp at h
    | _ => simp [qop] at h
  | _ => simp [qop] at h

end
end Go.Eng
/-! Operations that make a block. -/
namespace Go.Eng

/-! ### Zeros in a row -/
theorem rep_length (z : List AVal) : ∀ n, (replicateL z n).length = n * z.length
  | 0 => by simp [replicateL]
  | n + 1 => by simp [replicateL, rep_length z n, Nat.add_mul]; omega

theorem rep_get (z : List AVal) : ∀ (n i : Nat), i < n * z.length → (replicateL z n)[i]? = z[i % z.length]?
  | 0, i, h => by simp at h
  | n + 1, i, h => by
    rw [Nat.add_mul] at h
    simp only [replicateL]
    by_cases hi : i < z.length
    · rw [List.getElem?_append_left hi, Nat.mod_eq_of_lt hi]
    · have hm : i % z.length = (i - z.length) % z.length := Nat.mod_eq_sub_mod (by omega)
      rw [List.getElem?_append_right (by omega), rep_get z n (i - z.length) (by omega), hm]

theorem rep_VRs {ρ : Ren} {z : List AVal} {zero : Array Value} (h : VRs ρ z zero.toList) (n : Nat) : VRs ρ (replicateL z n) ((Array.range (n * zero.size)).map (fun i => zero[i % zero.size]!)).toList := by
  have hl := h.length
  simp only [Array.length_toList] at hl
  refine VRs_iff.2 ⟨by rw [rep_length]; simp [hl], fun i a v ha hv => ?_⟩
  have hi : i < n * zero.size := by
    rcases Nat.lt_or_ge i (n * zero.size) with h' | h'
    · exact h'
    · rw [List.getElem?_eq_none (by rw [rep_length]; rw [hl]; exact h')] at ha; cases ha
  rw [rep_get z n i (by rw [hl]; exact hi), hl] at ha
  have hm : i % zero.size < zero.size := by
    apply Nat.mod_lt
    rcases Nat.eq_zero_or_pos zero.size with h0 | h0
    · rw [h0] at hi; simp at hi
    · exact h0
  obtain ⟨u, hu, huv⟩ := h.get ha
  have hv' : v = zero[i % zero.size]! := by
    simp only [Array.toList_map, List.getElem?_map, Array.toList_range] at hv
    rw [List.getElem?_range hi] at hv
    simp only [Option.map_some, Option.some.injEq] at hv
    exact hv.symm
  rw [Array.getElem?_toList, Array.getElem?_eq_getElem hm] at hu
  simp only [Option.some.injEq] at hu
  rw [hv', getElem!_pos zero _ hm, hu]
  exact huv

section
variable {P : Program} {ρ : Ren} {H : AHeap} {W : World}

theorem wrap_nat {n : Nat} (h : n ≤ 9223372036854775807) : IntKind.i64.wrap (n : Int) = n := by
  simp [IntKind.wrap, IntKind.bits, IntKind.signed]; omega

/-- What an operation that makes a block does in the model. -/
def Made (P : Program) (ρ : Ren) (W : World) (blk : ABlk) (mk : Nat → AVal) (s : Sem Next) : Prop :=
  ∃ obj v W' n, s.run P W = .ok (.value v) W' ∧ W'.heap = W.heap.push obj ∧ Rest W W' ∧
    ∀ id ρ', ρ.le ρ' → ρ' id = some ⟨W.heap.size, 0, 0, n⟩ → BR ρ' ⟨W.heap.size, 0, 0, n⟩ (W.heap.push obj) blk ∧ VR ρ' (mk id) v

theorem BR_fresh {ρ : Ren} {h : Array Obj} {vs : List AVal} {vals : List Value} {arr : Array Value} {elem : TypeId} {fr : Nat × Nat} {g : Nat} (hv : VRs ρ vs vals) (hp : ∀ i, i < vs.length → arr[i]? = vals[i]?)
    (hn : vs.length ≤ arr.size) (hf : fr = (0, 0) ∨ arr.size ≤ fr.1) : BR ρ ⟨h.size, 0, 0, arr.size⟩ (h.push (.cells arr elem fr)) (freshB g vs) := by
  refine ⟨arr, elem, fr, by simp, rfl, hf, by simpa using hn, fun i a _ ha => ?_⟩
  have hi := cellAt_some ha
  unfold cellAt at ha
  have hb : Nat.blt i vs.length = true := by simpa using hi
  rw [hb, T.get_ofL, List.getElem?_eq_getElem hi] at ha
  simp only [cond_true, Option.some.injEq] at ha
  obtain ⟨v, h1, h2⟩ := hv.get (i := i) (a := a) (by rw [List.getElem?_eq_getElem hi, ha])
  refine ⟨v, ?_, h2⟩
  simp only [Nat.zero_add, Nat.sub_zero]
  rw [hp i hi, h1]

theorem made_var {vs : List AVal} {arr : Array Value} (hv : VRs ρ vs arr.toList) {elem : TypeId} {g : Nat} {s : Sem Next}
    (h : s.run P W = .ok (.value (.pointer (some ⟨W.heap.size, 0, none⟩))) { W with heap := W.heap.push (.cells arr elem) }) : Made P ρ W (freshB g vs) (fun b => .ptr (some (b, 0))) s := by
  have hl := hv.length
  simp only [Array.length_toList] at hl
  refine ⟨.cells arr elem, _, _, arr.size, h, rfl, ⟨rfl, rfl, rfl⟩, fun id ρ' hle hid => ⟨?_, _, hid, Nat.le_refl _, rfl⟩⟩
  exact BR_fresh (hv.mono hle) (fun i _ => by simp) (by omega) (.inl rfl)

theorem aop_sound {g : Nat} {ev : Operand → AVal} {e : Operand → Value} {o : Oper} (hev : EvR ρ ev e o.op.operands.toList) {blk : ABlk} {mk : Nat → AVal} (h : aop (tyOf P) g ev o.op = some (blk, mk)) :
    Made P ρ W blk mk (execOp e o) ∧ ∀ cs n d g', blk = .cells cs n d g' → g' = g := by
  obtain ⟨dst, op, type, pos, after, guard⟩ := o
  simp only at h hev
  have hv : ∀ x, x ∈ op.operands.toList → VR ρ (ev x) (e x) := hev
  cases op with
  | alloc t =>
    simp only [aop] at h
    cases hz : zeroOf (tyOf P) t with
    | none => simp [hz] at h
    | some z =>
      simp only [hz] at h
      obtain ⟨hone, h⟩ := shutTrue h
      simp only [Option.some.injEq, Prod.mk.injEq] at h
      obtain ⟨rfl, rfl⟩ := h
      obtain ⟨a, ha, hz'⟩ := zeroOf_some hz
      obtain ⟨zv, h1, h2⟩ := run_zero ha hz' W
      have hnt : z ≠ .top := fun e => by rw [e] at hone; simp [AVal.cells, allOne, AVal.one] at hone
      refine ⟨made_var (elem := t) (VR.cells hnt (h2 ρ)) ?_, fun cs n d g' hb => by cases hb; rfl⟩
      refine run_val_ok ?_
      simp only [Instr.alloc, Sem.run_bind, h1, Result.andThen_ok, newVar, newRow, run_newObj, Sem.run_pure]
  | box t x =>
    have hx := hv x (by simp [Op.operands])
    simp only [aop] at h
    obtain ⟨hone, h⟩ := shutTrue h
    simp only [Option.some.injEq, Prod.mk.injEq] at h
    obtain ⟨rfl, rfl⟩ := h
    have hnt : ev x ≠ .top := fun e => by rw [e] at hone; simp [AVal.cells, allOne, AVal.one] at hone
    refine ⟨made_var (elem := t) (VR.cells hnt hx) ?_, fun cs n d g' hb => by cases hb; rfl⟩
    refine run_val_ok ?_
    simp only [Instr.box, newVar, newRow, Sem.run_bind, run_newObj, Result.andThen_ok, Sem.run_pure]
  | buildSlice t len ps =>
    simp only [aop] at h
    cases ha : tyOf P t with
    | none => simp [ha] at h
    | some a =>
      simp only [ha] at h
      have hu := run_under ha W
      cases hd : a.desc with
      | slice el =>
        rw [hd] at h hu
        simp only at h
        cases he : tyOf P el with
        | none => simp [he] at h
        | some ea =>
          simp only [he] at h
          obtain ⟨hle, h⟩ := shutTrue h
          have hle := Nat.le_of_ble_eq_true hle
          cases hz : ea.zero with
          | none => simp [hz] at h
          | some z =>
            simp only [hz] at h
            cases hf : fillA (fun i => some (i * ea.size, ea.size)) (replicateL z.cells len) (pairsOf ev ps.toList) with
            | none => simp [hf] at h
            | some cs =>
              simp only [hf] at h
              obtain ⟨hc, h⟩ := shutTrue h
              simp only [Bool.and_eq_true, Bool.not_eq_true'] at hc
              obtain ⟨hone, hzl, hzt⟩ := hc
              have hzl := Nat.eq_of_beq_eq_true hzl
              simp only [Option.some.injEq, Prod.mk.injEq] at h
              obtain ⟨rfl, rfl⟩ := h
              obtain ⟨zv, h1, h2⟩ := run_zero he hz W
              have hzc := VR.cells (isTop_ne hzt) (h2 ρ)
              have hzs : zv.cells.size = ea.size := by have := hzc.length; simp only [Array.length_toList] at this; omega
              have hpr : PR ρ (pairsOf ev ps.toList) (ps.map fun (i, x) => (i, e x)).toList := by
                have := pairsOf_PR (ρ := ρ) (ev := ev) (e := e) (l := ps.toList) (fun x hx => hv x (by simpa [Op.operands] using hx))
                simpa using this
              have hrep := rep_VRs hzc len
              obtain ⟨zz, hzz1, hzz2⟩ : ∃ zz : Array Value, ((len * ea.size = 0 ∧ zz = #[]) ∨ (¬ len * ea.size = 0 ∧ zz = zv.cells)) ∧
                  VRs ρ (replicateL z.cells len) ((Array.range (len * ea.size)).map (zz[· % zz.size]!)).toList := by
                by_cases h0 : len * ea.size = 0
                · refine ⟨#[], .inl ⟨h0, rfl⟩, ?_⟩
                  have hl0 : replicateL z.cells len = [] := List.eq_nil_of_length_eq_zero (by rw [rep_length, hzl]; exact h0)
                  rw [hl0, h0]; simp [VRs_nil]
                · refine ⟨zv.cells, .inr ⟨h0, rfl⟩, ?_⟩
                  rw [hzs] at hrep ⊢
                  exact hrep
              obtain ⟨vals, hv1, hv2⟩ := fill_sound (place' := fun i => some (i * ea.size, ea.size)) (fun i x hx => hx) _ _ hpr _ _ cs hzz2 hf
              have hcl := hv2.length
              simp only [Array.length_toList] at hcl
              have hfl : ∀ (place : Nat → Option (Nat × Nat)) (parts : List (Nat × AVal)) (a b : List AVal), fillA place a parts = some b → b.length = a.length := by
                intro place parts
                induction parts with
                | nil => intro a b hab; simp only [fillA, Option.some.injEq] at hab; rw [hab]
                | cons p parts ih =>
                  intro a b hab
                  obtain ⟨i, x⟩ := p
                  simp only [fillA] at hab
                  cases hp : place i with
                  | none => simp [hp] at hab
                  | some q =>
                    obtain ⟨off, size⟩ := q
                    simp only [hp] at hab
                    obtain ⟨hcc, hab⟩ := shutTrue hab
                    simp only [Bool.and_eq_true] at hcc
                    have hle2 := Nat.le_of_ble_eq_true hcc.2.1
                    rw [ih _ _ hab]
                    simp; omega
              have hcs : cs.length = len * ea.size := by rw [hfl _ _ _ _ hf, rep_length, hzl]
              refine ⟨⟨.cells vals el, .slice (some ⟨W.heap.size, 0, none⟩) len len, { W with heap := W.heap.push (.cells vals el) }, vals.size, ?_, rfl, ⟨rfl, rfl, rfl⟩, fun id ρ' hle hid => ⟨BR_fresh (hv2.mono hle) (fun i _ => by simp) (by omega) (.inl rfl), _, _, rfl, Nat.le_refl _, fun c hc => by cases hc; rfl, .inr ⟨_, hid, Nat.le_refl _, rfl, ?_⟩⟩⟩, fun cs n d g' hb => by cases hb; rfl⟩
              · refine run_val_ok ?_
                simp only [Instr.buildSlice, Sem.run_bind, hu, Result.andThen_ok, run_size he, Sem.run_ite]
                rw [if_neg (by omega)]
                rcases hzz1 with ⟨h0, rfl⟩ | ⟨h0, rfl⟩
                · simp only [h0, if_true] at hv1 ⊢
                  simp only [hv1, newRow, Sem.run_bind, run_newObj, Sem.run_pure, Result.andThen_ok]
                · simp only [h0, if_false, h1, Result.andThen_ok, hv1, newRow, Sem.run_bind, run_newObj, Sem.run_pure]
              · simp only; omega
      | _ => rw [hd] at h; simp at h
  | makeMap t r =>
    simp only [aop] at h
    cases r with
    | some _ => simp at h
    | none =>
      simp only [Option.some.injEq, Prod.mk.injEq] at h
      obtain ⟨rfl, rfl⟩ := h
      refine ⟨⟨.map #[] 0, .map (some W.heap.size), { W with heap := W.heap.push (.map #[] 0) }, 0, ?_, rfl, ⟨rfl, rfl, rfl⟩, fun id ρ' hle hid => ⟨⟨#[], by simp, rfl⟩, _, hid, rfl⟩⟩, fun cs n d g' hb => by cases hb⟩
      refine run_val_ok ?_
      simp [Instr.makeMap]
  | makeSlice t l c =>
    have hl := hv l (by simp [Op.operands])
    have hc := hv c (by simp [Op.operands])
    simp only [aop] at h
    cases ha : tyOf P t with
    | none => simp [ha] at h
    | some a =>
      cases hln : natOf (ev l) with
      | none => simp [ha, hln] at h
      | some ln =>
        cases hcn : natOf (ev c) with
        | none => simp [ha, hln, hcn] at h
        | some cn =>
          simp only [ha, hln, hcn] at h
          have hu := run_under ha W
          obtain ⟨kl, hel⟩ := natOf_some hln hl
          obtain ⟨kc, hec⟩ := natOf_some hcn hc
          cases hd : a.desc with
          | slice el =>
            rw [hd] at h hu
            simp only at h
            cases he : tyOf P el with
            | none => simp [he] at h
            | some ea =>
              simp only [he] at h
              obtain ⟨hcd, h⟩ := shutTrue h
              simp only [Bool.and_eq_true] at hcd
              obtain ⟨c1, c2, c3⟩ := hcd
              have c1 := Nat.le_of_ble_eq_true c1
              have c2 := Nat.le_of_ble_eq_true c2
              have c3 := Nat.le_of_ble_eq_true c3
              cases hz : ea.zero with
              | none => simp [hz] at h
              | some z =>
                simp only [hz] at h
                obtain ⟨zv, h1, h2⟩ := run_zero he hz W
                obtain ⟨i, _, h3, _, h4, _⟩ := run_info he W
                have hzsz : ea.size = z.cells.length ∧ z ≠ .top ∧ (∀ cs n d g', blk = .cells cs n d g' → g' = g) ∧ mk = (fun b => .slice (some (b, 0)) ln (some cn) ea.size) ∧
                    (∀ ρ' (arr : Array Value), VRs ρ' (replicateL z.cells cn) arr.toList → BR ρ' ⟨W.heap.size, 0, 0, arr.size⟩ (W.heap.push (.cells arr el)) blk) := by
                  have hcase : (∃ z0, z.cells = [z0] ∧ (bif z0.one && Nat.beq ea.size 1 then some (ABlk.cells .nil cn z0 g, fun b => AVal.slice (some (b, 0)) ln (some cn) ea.size) else none) = some (blk, mk)) ∨
                      (bif allOne z.cells && (Nat.beq z.cells.length ea.size && !(z.cells.isEmpty)) then some (freshB g (replicateL z.cells cn), fun b => AVal.slice (some (b, 0)) ln (some cn) ea.size) else none) = some (blk, mk) := by
                    split at h
                    · rename_i z0 hz0; exact .inl ⟨z0, hz0, h⟩
                    · exact .inr h
                  rcases hcase with ⟨z0, hz0, hh⟩ | hh
                  · obtain ⟨hq, hh⟩ := shutTrue hh
                    simp only [Bool.and_eq_true] at hq
                    have hq2 := Nat.eq_of_beq_eq_true hq.2
                    simp only [Option.some.injEq, Prod.mk.injEq] at hh
                    obtain ⟨rfl, rfl⟩ := hh
                    refine ⟨by rw [hz0]; simpa using hq2, fun e => by subst e; simp [AVal.cells] at hz0; subst hz0; simp [AVal.one] at hq, fun cs n d g' hb => by cases hb; rfl, rfl, fun ρ' arr harr => ?_⟩
                    have hlen := harr.length
                    rw [rep_length, hz0] at hlen
                    simp only [List.length_cons, List.length_nil, Array.length_toList] at hlen
                    refine ⟨arr, el, (0, 0), by simp, rfl, .inl rfl, by simp only; omega, fun i a _ hai => ?_⟩
                    have hi := cellAt_some hai
                    have hrg := rep_get z.cells cn i (by rw [hz0]; simp; omega)
                    rw [hz0] at hrg
                    simp only [List.length_cons, List.length_nil, Nat.zero_add, Nat.mod_one] at hrg
                    unfold cellAt at hai
                    have hb : Nat.blt i cn = true := by simpa using hi
                    rw [hb, T.get_nil] at hai
                    simp only [cond_true, Option.some.injEq] at hai
                    subst hai
                    rw [← hz0] at hrg
                    obtain ⟨v, hv1, hv2⟩ := harr.get (i := i) (a := z0) (by rw [hrg, hz0]; rfl)
                    exact ⟨v, by simpa using hv1, hv2⟩
                  · obtain ⟨hq, hh⟩ := shutTrue hh
                    simp only [Bool.and_eq_true] at hq
                    have hq2 := Nat.eq_of_beq_eq_true hq.2.1
                    simp only [Option.some.injEq, Prod.mk.injEq] at hh
                    obtain ⟨rfl, rfl⟩ := hh
                    refine ⟨hq2.symm, fun e => by subst e; simp [AVal.cells, allOne, AVal.one] at hq, fun cs n d g' hb => by cases hb; rfl, rfl, fun ρ' arr harr => ?_⟩
                    have hlen := harr.length
                    simp only [Array.length_toList] at hlen
                    exact BR_fresh harr (fun i _ => by simp) (by omega) (.inl rfl)
                obtain ⟨hsz, hnt, hg, rfl, hbr⟩ := hzsz
                have hzc := VR.cells hnt (h2 ρ)
                have hzs : zv.cells.size = ea.size := by have := hzc.length; simp only [Array.length_toList] at this; omega
                have hrep := rep_VRs hzc cn
                obtain ⟨zz, hzz1, hzz2⟩ : ∃ zz : Array Value, ((cn * ea.size = 0 ∧ zz = #[]) ∨ (¬ cn * ea.size = 0 ∧ zz = zv.cells)) ∧
                    VRs ρ (replicateL z.cells cn) ((Array.range (cn * ea.size)).map (zz[· % zz.size]!)).toList := by
                  by_cases h0 : cn * ea.size = 0
                  · refine ⟨#[], .inl ⟨h0, rfl⟩, ?_⟩
                    have hl0 : replicateL z.cells cn = [] := List.eq_nil_of_length_eq_zero (by rw [rep_length, ← hsz]; exact h0)
                    rw [hl0, h0]; simp [VRs_nil]
                  · refine ⟨zv.cells, .inr ⟨h0, rfl⟩, ?_⟩
                    rw [hzs] at hrep ⊢
                    exact hrep
                refine ⟨⟨.cells ((Array.range (cn * ea.size)).map (zz[· % zz.size]!)) el, .slice (some ⟨W.heap.size, 0, none⟩) ln cn, { W with heap := W.heap.push (.cells ((Array.range (cn * ea.size)).map (zz[· % zz.size]!)) el) }, _, ?_, rfl, ⟨rfl, rfl, rfl⟩,
                  fun id ρ' hle hid => ⟨hbr ρ' _ (hzz2.mono hle), _, _, rfl, c2, fun c hc => by cases hc; rfl, .inr ⟨_, hid, Nat.le_refl _, rfl, ?_⟩⟩⟩, hg⟩
                · refine run_val_ok ?_
                  rw [hel, hec]
                  have hw1 := wrap_nat (n := ln) (by omega)
                  have hw2 := wrap_nat (n := cn) c3
                  have hbb : (i.bytes : Int) * (cn : Int) ≤ 281474976710656 := by rw [← h4, ← Int.natCast_mul]; exact Int.ofNat_le.2 c1
                  simp only [Instr.makeSlice, Sem.run_bind, hu, Result.andThen_ok, asInt, asIntOf, Sem.run_pure, h3, hw1, hw2, Sem.run_ite]
                  rw [if_neg (by simp; omega)]
                  simp only [Int.toNat_natCast, run_askRoom, Result.andThen_ok, run_size he]
                  rcases hzz1 with ⟨h0, rfl⟩ | ⟨h0, rfl⟩
                  · simp only [h0, if_true, newRow, Sem.run_bind, run_newObj, Sem.run_pure, Result.andThen_ok]
                  · simp only [h0, if_false, h1, newRow, Sem.run_bind, run_newObj, Sem.run_pure, Result.andThen_ok]
                · simp
          | _ => rw [hd] at h; simp at h
  | convert s d x =>
    have hx := hv x (by simp [Op.operands])
    simp only [aop, strBytes] at h
    cases hs : tyOf P s with
    | none => simp [hs] at h
    | some sa =>
      cases hd : tyOf P d with
      | none => simp [hs, hd] at h
      | some da =>
        simp only [hs, hd] at h
        have hu1 := run_under hs W
        have hu2 := run_under hd W
        split at h
        · rename_i el b hd1 hd2 hx2
          rw [hx2] at hx
          obtain ⟨xs, hxe, hxb⟩ := hx
          cases he : tyOf P el with
          | none => simp [he] at h
          | some ea =>
            simp only [he] at h
            have hue := run_under he W
            cases hed : ea.desc with
            | int k =>
              cases k with
              | u8 =>
                rw [hed] at h hue
                simp only at h
                obtain ⟨hsz, h⟩ := shutTrue h
                simp only [Option.some.injEq, Prod.mk.injEq] at h
                obtain ⟨rfl, rfl⟩ := h
                rw [hd1] at hu1; rw [hd2] at hu2
                have hlen : b.length = xs.size := by rw [← hxb]; exact bytesN_length xs
                refine ⟨?_, fun cs n d g' hb => by cases hb; rfl⟩
                -- the capacity that is drawn
                have hcut : ∀ t, xs.size ≤ (Question.appendCap xs.size 0 el).cut t := fun t => by simp [Question.cut]
                generalize hcap : (Question.appendCap xs.size 0 el).cut (W.tape W.drawn (.appendCap xs.size 0 el)) = cap at *
                have hcap2 : xs.size ≤ cap := by rw [← hcap]; exact hcut _
                let arr : Array Value := xs.data.map (fun b => Value.int .u8 b.toNat) ++ Array.replicate (cap - xs.size) (.int .u8 0)
                have hsize : arr.size = cap := by
                  have : xs.data.size = xs.size := rfl
                  simp [arr, this]; omega
                refine ⟨.cells arr el (cap, cap + 1), .slice (some ⟨W.heap.size, 0, none⟩) xs.size cap, { W with heap := W.heap.push (.cells arr el (cap, cap + 1)), drawn := W.drawn + 1 }, arr.size, ?_, rfl, ⟨rfl, rfl, rfl⟩, fun id ρ' hle hid => ⟨?_, ?_⟩⟩
                · refine run_val_ok ?_
                  rw [hxe]
                  simp only [convert, Sem.run_bind, hu1, hu2, Result.andThen_ok, hue, Conv.stringToBytes, run_choose, Question.forced, Bool.false_eq_true, if_false, hcap, newRow, run_newObj, Sem.run_pure]
                  have hsh : ({ W with heap := W.heap.push (.cells arr el), drawn := W.drawn + 1 } : World).shape? W.heap.size = some (el, cap) := by simp [World.shape?, hsize]
                  show (Sem.run P (markStringish ⟨W.heap.size, 0, none⟩) { W with heap := W.heap.push (.cells arr el), drawn := W.drawn + 1 }).andThen _ = _
                  simp only [markStringish, Sem.run_bind, run_shape, hsh, Result.andThen_ok, run_freeze]
                  congr 1
                  simp only [World.freeze]
                  rw [if_neg (by omega)]
                  congr 1
                  apply Array.ext_getElem?
                  intro j
                  simp only [Array.getElem?_modify, Array.getElem?_push]
                  by_cases e1 : j = W.heap.size
                  · subst e1; simp
                  · have e2 : ¬ W.heap.size = j := fun e2 => e1 e2.symm
                    simp [e1, e2]
                · refine BR_fresh (vals := arr.toList.take xs.size) ?_ (fun i hi => ?_) ?_ (.inr (by simp only; omega))
                  · have : arr.toList.take xs.size = xs.data.toList.map (fun b => Value.int .u8 b.toNat) := by
                      have hxs : xs.data.toList.length = xs.size := rfl
                      simp only [arr, Array.toList_append, Array.toList_map]
                      rw [List.take_append_of_le_length (by simp [hxs]), List.take_of_length_le (by simp [hxs])]
                    rw [this, ← hxb]
                    have hgen : ∀ l : List UInt8, VRs ρ' ((l.map UInt8.toNat).map fun n => AVal.int .u8 (.ofNat n)) (l.map fun b => Value.int .u8 b.toNat) := by
                      intro l
                      induction l with
                      | nil => rfl
                      | cons c l ih => exact ⟨_, _, rfl, rfl, ih⟩
                    exact hgen _
                  · simp only [List.length_map] at hi
                    rw [List.getElem?_take, if_pos (by omega)]; simp
                  · simp only [List.length_map]; omega
                · refine ⟨_, cap, by rw [hlen]; rfl, by omega, (fun c hc => nomatch hc), .inr ⟨_, hid, Nat.le_refl _, rfl, ?_⟩⟩
                  simp only; omega
              | _ => rw [hed] at h; simp at h
            | _ => rw [hed] at h; simp at h
        · cases h
  | _ => simp [aop] at h

end
end Go.Eng
/-! Operations with an effect upon rows of cells: stores, appends, copies. -/
namespace Go.Eng

section
variable {P : Program} {ρ : Ren} {H : AHeap} {W : World}

/-- What an effect does in the model. -/
def EffR (P : Program) (ρ : Ren) (H : AHeap) (W : World) (r : AVal) (H' : AHeap) (s : Sem Value) : Prop :=
  ∃ v W' ρ', s.run P W = .ok v W' ∧ VR ρ' r v ∧ HR ρ' H' W'.heap ∧ Ext ρ H.next W.heap ρ' ∧ Kept ρ W.heap W'.heap ∧ Rest W W' ∧ H.next ≤ H'.next

theorem EffR.same (hr : HR ρ H W.heap) {r : AVal} {v : Value} {s : Sem Value} (h : s.run P W = .ok v W) (hv : VR ρ r v) : EffR P ρ H W r H s :=
  ⟨v, W, ρ, h, hv, hr, Ext.refl _ _ _, Kept.refl _ _, Rest.refl _, Nat.le_refl _⟩

theorem storeA_sound (hr : HR ρ H W.heap) {t : Nat} {a x : AVal} {va vx : Value} (ha : VR ρ a va) (hx : VR ρ x vx) {H' : AHeap} (h : storeA (tyOf P) H t a x = some H') :
    ∃ W', (Instr.storeAt t va vx).run P W = .ok () W' ∧ HR ρ H' W'.heap ∧ Kept ρ W.heap W'.heap ∧ Rest W W' ∧ H.next ≤ H'.next := by
  unfold storeA at h
  cases hta : tyOf P t with
  | none => simp [hta] at h
  | some ta =>
    cases a with
    | ptr p =>
      cases p with
      | none => simp [hta] at h
      | some p =>
        obtain ⟨b, i⟩ := p
        obtain ⟨w, hw, hlo, rfl⟩ := ha
        simp only [hta] at h
        obtain ⟨hsz, h⟩ := shutTrue h
        have hsz := Nat.eq_of_beq_eq_true hsz
        cases h0 : Nat.beq ta.size 0 with
        | true =>
          rw [h0] at h
          simp only [cond_true, Option.some.injEq] at h
          subst h
          have h0 := Nat.eq_of_beq_eq_true h0
          have hxt : x ≠ .top := fun e => by rw [e, h0] at hsz; simp [AVal.cells] at hsz
          have hc := VR.cells hxt hx
          have hl := hc.length
          simp only [Array.length_toList] at hl
          have he : vx.cells.toList = [] := List.eq_nil_of_length_eq_zero (by rw [Array.length_toList]; omega)
          refine ⟨W, ?_, hr, Kept.refl _ _, Rest.refl _, Nat.le_refl _⟩
          simp only [Instr.storeAt, Instr.sureAddr, storeVar, Sem.run_bind, Sem.run_pure, Result.andThen_ok, run_size hta, Sem.run_ite]
          rw [if_neg (by simp; omega)]
          simp only [he, storeCells, Sem.run_pure]
        | false =>
          rw [h0] at h
          simp only [cond_false] at h
          have hxt : x ≠ .top := fun e => by
            subst e
            obtain ⟨cs, n, d, g, _, _, hone, _⟩ := AHeap.write_some h
            simp [AVal.cells, allOne, AVal.one] at hone
          have hc := VR.cells hxt hx
          have hl := hc.length
          simp only [Array.length_toList] at hl
          obtain ⟨W', h1, h2, h3, h4, h5⟩ := write_sound (P := P) hr h hw hlo hc
          refine ⟨W', ?_, h2, h3, h4, by omega⟩
          simp only [Instr.storeAt, Instr.sureAddr, storeVar, Sem.run_bind, Sem.run_pure, Result.andThen_ok, run_size hta, Sem.run_ite]
          rw [if_neg (by omega)]
          exact h1
    | _ => simp [hta] at h

/-! ### Appends -/
theorem growBy_le (n : Nat) : ∀ (k c : Nat), Builtin.growBy n k c ≤ max c (n + (n + 768) / 4)
  | 0, c => by simp [Builtin.growBy]; omega
  | k + 1, c => by
    simp only [Builtin.growBy]
    split
    · omega
    · have := growBy_le n k (c + (c + 768) / 4)
      omega

theorem nextcap_le {need sCap : Nat} (h : sCap < need) : Builtin.nextslicecap need sCap ≤ 2 * need + 1024 := by
  unfold Builtin.nextslicecap
  split
  · omega
  · split
    · omega
    · have := growBy_le need 4 sCap
      omega

theorem byteCells_VRs {x : ByteArray} : ∀ l : List UInt8, VRs ρ (byteCells (l.map UInt8.toNat)) (l.map fun b => Value.int .u8 b.toNat)
  | [] => rfl
  | _ :: l => ⟨_, _, rfl, rfl, byteCells_VRs (x := x) l⟩

theorem appended_sound (hr : HR ρ H W.heap) {size n : Nat} {x : AVal} {vx : Value} (hx : VR ρ x vx) {new : List AVal} (h : appended H size x = some (new, n)) :
    (Builtin.lenOf vx).run P W = .ok n W ∧ ∀ W' : World, W'.heap = W.heap → ∃ arr, (Builtin.firstCells size n vx).run P W' = .ok arr W' ∧ VRs ρ new arr.toList := by
  unfold appended at h
  split at h
  · rename_i m cap es
    obtain ⟨h0, h⟩ := shutTrue h
    have h0 := Nat.eq_of_beq_eq_true h0
    simp only [Option.some.injEq, Prod.mk.injEq] at h
    obtain ⟨rfl, rfl⟩ := h
    obtain ⟨_, _, rfl⟩ := hx
    exact ⟨rfl, fun W' _ => ⟨#[], rfl, rfl⟩⟩
  · rename_i b o m cap es
    obtain ⟨ad, k, rfl, hlk, hcap, hor⟩ := hx
    cases h0 : Nat.beq m 0 with
    | true =>
      rw [h0] at h
      simp only [cond_true, Option.some.injEq, Prod.mk.injEq] at h
      obtain ⟨rfl, rfl⟩ := h
      have h0 := Nat.eq_of_beq_eq_true h0
      subst h0
      exact ⟨rfl, fun W' _ => ⟨#[], by simp [Builtin.firstCells, loadCells, loadCellsFrom], rfl⟩⟩
    | false =>
      rw [h0] at h
      simp only [cond_false] at h
      cases hrd : H.read b o (m * size) with
      | none => simp [hrd] at h
      | some l =>
        simp only [hrd, Option.some.injEq, Prod.mk.injEq] at h
        obtain ⟨rfl, rfl⟩ := h
        have hm : m ≠ 0 := fun e => by subst e; simp at h0
        rcases hor with hk0 | ⟨w, hw, hlo, rfl, hfit⟩
        · omega
        · refine ⟨rfl, fun W' hW' => ?_⟩
          obtain ⟨arr, h1, h2⟩ := read_sound (P := P) (W := W') (by rw [hW']; exact hr) hrd hw hlo
          exact ⟨arr, h1, h2⟩
  · rename_i s
    simp only [Option.some.injEq, Prod.mk.injEq] at h
    obtain ⟨rfl, rfl⟩ := h
    obtain ⟨xs, rfl, hxs⟩ := hx
    have hl : s.length = xs.size := by rw [← hxs]; exact bytesN_length xs
    refine ⟨by rw [hl]; rfl, fun W' _ => ⟨xs.data.map fun b => .int .u8 b.toNat, ?_, ?_⟩⟩
    · simp only [Builtin.firstCells, Sem.run_pure]
      have : (xs.extract 0 s.length).data = xs.data := by
        rw [hl, ByteArray.data_extract]
        exact Array.extract_size
      rw [this]
    · rw [← hxs]
      simpa using byteCells_VRs (x := xs) xs.data.toList
  · cases h

/-- What 'append' appends, as a computation. -/
def appCells (zeros : Bool) (size n : Nat) (el : TypeId) (x : Value) : Sem (Array Value) :=
  if !zeros then Builtin.firstCells size n x else if n * size = 0 then pure #[] else do pure (Builtin.zeroCells (← zeroValue el).cells n)

def isIntD : TypeDesc → Bool
  | .int _ => true
  | _ => false

theorem append_noInt {argTypes : Array TypeId} {rt sT t : TypeId} {sa ta : ATy} (h0 : argTypes[0]? = some sT) (h1 : argTypes[1]? = some t) (hsa : tyOf P sT = some sa) (ht : tyOf P t = some ta) (hz : isIntD ta.desc = false) (s x : Value) :
    (Builtin.append_ argTypes rt #[s, x]).run P W = (Builtin.append_ #[sT] rt #[s, x]).run P W := by
  have hu := run_under hsa W
  have hut := run_under ht W
  unfold Builtin.append_
  simp only [h0, h1]
  show Sem.run P (do
    let d ← underlying sT
    _) W = Sem.run P (do
    let d ← underlying sT
    _) W
  simp only [Sem.run_bind, hu, Result.andThen_ok]
  cases hsd : sa.desc with
  | slice el =>
    cases s with
    | slice a l c =>
      show Sem.run P (do
        let d ← sizeOf el
        _) W = Sem.run P (do
        let d ← sizeOf el
        _) W
      simp only [Sem.run_bind]
      cases hs : (sizeOf el).run P W with
      | halt h w => rfl
      | ok sz w =>
        have hw : w = W := by
          unfold sizeOf typeInfo at hs
          simp only [Sem.run_bind, run_program, Result.andThen_ok] at hs
          cases hi : P.info? el with
          | none => rw [hi] at hs; cases hs
          | some i => rw [hi] at hs; simp only [Sem.run_pure, Result.andThen_ok, Result.ok.injEq] at hs; exact hs.2.symm
        subst hw
        simp only [Result.andThen_ok, hut]
        cases hd : ta.desc <;> first | rfl | (rw [hd] at hz; cases hz)
    | _ => rfl
  | _ => rfl

set_option maxHeartbeats 1000000 in
theorem append_inA {rt sT el : TypeId} {sa ea : ATy} (hsa : tyOf P sT = some sa) (hsd : sa.desc = .slice el) (hea : tyOf P el = some ea) {base : Option Addr} {len k : Nat} {vx : Value}
    {n : Nat} (hl : (Builtin.lenOf vx).run P W = .ok n W) (hle : len + n ≤ k) {arr : Array Value} {W' : World} (harr : (Builtin.firstCells ea.size n vx).run P W = .ok arr W)
    (hst : (match base with | none => Result.ok () W | some a => (storeCells (a.add (len * ea.size)) arr.toList).run P W) = .ok () W') :
    (Builtin.append_ #[sT] rt #[.slice base len k, vx]).run P W = .ok (.slice base (len + n) k) W' := by
  have hu := run_under hsa W
  rw [hsd] at hu
  cases base with
  | none =>
    simp only [Result.ok.injEq, true_and] at hst
    subst hst
    simp [Builtin.append_, hu, run_size hea, hl, hle, harr]
  | some a =>
    simp only at hst
    simp [Builtin.append_, hu, run_size hea, hl, hle, harr, hst]

theorem forced_cap (need old : Nat) (el : TypeId) : (Question.appendCap need old el).forced = false := rfl

set_option maxHeartbeats 1000000 in
theorem append_outA {rt sT el : TypeId} {sa ea : ATy} (hsa : tyOf P sT = some sa) (hsd : sa.desc = .slice el) (hea : tyOf P el = some ea) {base : Option Addr} {len k : Nat} {vx : Value}
    {n : Nat} (hl : (Builtin.lenOf vx).run P W = .ok n W) (hle : ¬ len + n ≤ k) (hmax : len + n ≤ 9223372036854775807) (hcap : Builtin.nextslicecap (len + n) k * ea.bytes ≤ 281474976710656)
    {zv : Value} {old arr : Array Value} {W1 : World} {cap : Nat} (hW1 : W1 = { W with drawn := W.drawn + 1 }) (hcp : cap = (Question.appendCap (len + n) k el).cut (W.tape W.drawn (.appendCap (len + n) k el)))
    (hz : (zeroValue el).run P W1 = .ok zv W1) (hold : (Builtin.firstCells ea.size len (.slice base len k)).run P W1 = .ok old W1) (harr : (Builtin.firstCells ea.size n vx).run P W1 = .ok arr W1) :
    (Builtin.append_ #[sT] rt #[.slice base len k, vx]).run P W =
      .ok (.slice (some ⟨W.heap.size, 0, none⟩) (len + n) cap) { W1 with heap := W1.heap.push (.cells (old ++ arr ++ Builtin.zeroCells zv.cells (cap - (len + n))) el) } := by
  have hu := run_under hsa W
  rw [hsd] at hu
  obtain ⟨i, hinf, hi, _, hib, _⟩ := run_info hea W
  have hi1 : (typeInfo el).run P W1 = .ok i W1 := by simp [typeInfo, hinf]
  have hmax' : ¬ ((len + n : Nat) : Int) > IntKind.i64.max := by
    have : IntKind.i64.max = 9223372036854775807 := rfl
    rw [this]; omega
  have hcap' : ¬ Builtin.nextslicecap (len + n) k * i.bytes > 2 ^ 48 := by rw [← hib]; omega
  have hmax2 : ¬ (((len : Int) + (n : Int)) > IntKind.i64.max) := by
    have : IntKind.i64.max = 9223372036854775807 := rfl
    rw [this]; omega
  have hs : W1.heap.size = W.heap.size := by rw [hW1]
  subst hcp
  have hW1' : ({ heap := W.heap, tape := W.tape, drawn := W.drawn + 1, os := W.os, output := W.output } : World) = W1 := hW1.symm
  unfold Builtin.append_
  simp only [List.getElem?_toArray, List.getElem?_cons_zero, List.getElem?_cons_succ, List.getElem?_nil]
  show Sem.run P (do
    let d ← underlying sT
    _) W = _
  simp only [Sem.run_bind, hu, Result.andThen_ok, run_size hea, Sem.run_pure, Bool.false_eq_true, if_false, hl, Sem.run_ite]
  rw [if_neg hle]
  simp only [hi, Result.andThen_ok, false_or]
  rw [if_neg (by rintro ⟨h, _⟩; exact hmax' h), if_neg hcap']
  simp only [run_choose, forced_cap, Bool.false_eq_true, if_false, Result.andThen_ok, run_askRoom]
  rw [hW1']
  simp only [hi1, hold, Result.andThen_ok, Bool.not_false, if_true, harr, hz, newRow, Sem.run_bind, run_newObj, Sem.run_pure, hs]

set_option maxHeartbeats 1000000 in
theorem append_inB {argTypes : Array TypeId} {rt sT t el : TypeId} {sa ta ea : ATy} (h0 : argTypes[0]? = some sT) (h1 : argTypes[1]? = some t) (ht : tyOf P t = some ta) {kk kv : IntKind} (htd : ta.desc = .int kk)
    (hsa : tyOf P sT = some sa) (hsd : sa.desc = .slice el) (hea : tyOf P el = some ea) {base : Option Addr} {len k : Nat}
    {n : Nat} (hb : n * ea.bytes ≤ 281474976710656) (hn : n ≤ 9223372036854775807) (hle : len + n ≤ k) {zv : Value} (hz : (zeroValue el).run P W = .ok zv W) {arr : Array Value} {W' : World}
    (harr : arr = if n * ea.size = 0 then #[] else Builtin.zeroCells zv.cells n)
    (hst : (match base with | none => Result.ok () W | some a => (storeCells (a.add (len * ea.size)) arr.toList).run P W) = .ok () W') :
    (Builtin.append_ argTypes rt #[.slice base len k, .int kv n]).run P W = .ok (.slice base (len + n) k) W' := by
  have hu := run_under hsa W
  have hut := run_under ht W
  rw [hsd] at hu
  rw [htd] at hut
  obtain ⟨i, hinf, hi, _, hib, _⟩ := run_info hea W
  have hw := wrap_nat (n := n) hn
  have hneg : ¬ ((n : Int) < 0) := by omega
  have hbb : ¬ ((n : Int) * (i.bytes : Int) > 2 ^ 48) := by
    have : (n : Int) * (i.bytes : Int) ≤ 281474976710656 := by rw [← hib, ← Int.natCast_mul]; exact Int.ofNat_le.2 hb
    omega
  unfold Builtin.append_
  simp only [h0, h1, List.getElem?_toArray, List.getElem?_cons_zero, List.getElem?_cons_succ]
  show Sem.run P (do
    let d ← underlying sT
    _) W = _
  simp only [Sem.run_bind, hu, Result.andThen_ok, run_size hea, hut, Sem.run_pure, if_true, asInt, asIntOf, hw, Sem.run_ite]
  rw [if_neg hneg]
  simp only [hi, Result.andThen_ok]
  rw [if_neg hbb]
  simp only [Int.toNat_natCast]
  rw [if_pos hle]
  simp only [Bool.not_true, Bool.false_eq_true, if_false]
  subst harr
  by_cases hn0 : n * ea.size = 0
  · simp only [hn0, if_true] at hst ⊢
    cases base with
    | none =>
      simp only [Result.ok.injEq, true_and] at hst
      subst hst
      simp
    | some a =>
      simp only at hst
      simp [hst]
  · simp only [hn0, if_false] at hst ⊢
    cases base with
    | none =>
      simp only [Result.ok.injEq, true_and] at hst
      subst hst
      simp [hz]
    | some a =>
      simp only at hst
      simp [hz, hst]

set_option maxHeartbeats 1000000 in
theorem append_outB {argTypes : Array TypeId} {rt sT t el : TypeId} {sa ta ea : ATy} (h0 : argTypes[0]? = some sT) (h1 : argTypes[1]? = some t) (ht : tyOf P t = some ta) {kk kv : IntKind} (htd : ta.desc = .int kk)
    (hsa : tyOf P sT = some sa) (hsd : sa.desc = .slice el) (hea : tyOf P el = some ea) {base : Option Addr} {len k : Nat}
    {n : Nat} (hb : n * ea.bytes ≤ 281474976710656) (hn : n ≤ 9223372036854775807) (hle : ¬ len + n ≤ k) (hmax : len + n ≤ 9223372036854775807) (hcap : Builtin.nextslicecap (len + n) k * ea.bytes ≤ 281474976710656)
    {zv : Value} {old arr : Array Value} {W1 : World} {cap : Nat} (hW1 : W1 = { W with drawn := W.drawn + 1 }) (hcp : cap = (Question.appendCap (len + n) k el).cut (W.tape W.drawn (.appendCap (len + n) k el)))
    (hz : (zeroValue el).run P W1 = .ok zv W1) (hold : (Builtin.firstCells ea.size len (.slice base len k)).run P W1 = .ok old W1)
    (harr : arr = if n * ea.size = 0 then #[] else Builtin.zeroCells zv.cells n) :
    (Builtin.append_ argTypes rt #[.slice base len k, .int kv n]).run P W =
      .ok (.slice (some ⟨W.heap.size, 0, none⟩) (len + n) cap) { W1 with heap := W1.heap.push (.cells (old ++ arr ++ Builtin.zeroCells zv.cells (cap - (len + n))) el) } := by
  have hu := run_under hsa W
  have hut := run_under ht W
  rw [hsd] at hu
  rw [htd] at hut
  obtain ⟨i, hinf, hi, _, hib, _⟩ := run_info hea W
  have hi1 : (typeInfo el).run P W1 = .ok i W1 := by simp [typeInfo, hinf]
  have hw := wrap_nat (n := n) hn
  have hneg : ¬ ((n : Int) < 0) := by omega
  have hbb : ¬ ((n : Int) * (i.bytes : Int) > 2 ^ 48) := by
    have : (n : Int) * (i.bytes : Int) ≤ 281474976710656 := by rw [← hib, ← Int.natCast_mul]; exact Int.ofNat_le.2 hb
    omega
  have hmax' : ¬ ((len + n : Nat) : Int) > IntKind.i64.max := by
    have : IntKind.i64.max = 9223372036854775807 := rfl
    rw [this]; omega
  have hcap' : ¬ Builtin.nextslicecap (len + n) k * i.bytes > 2 ^ 48 := by rw [← hib]; omega
  have hs : W1.heap.size = W.heap.size := by rw [hW1]
  subst hcp
  have hW1' : ({ heap := W.heap, tape := W.tape, drawn := W.drawn + 1, os := W.os, output := W.output } : World) = W1 := hW1.symm
  unfold Builtin.append_
  simp only [h0, h1, List.getElem?_toArray, List.getElem?_cons_zero, List.getElem?_cons_succ]
  show Sem.run P (do
    let d ← underlying sT
    _) W = _
  simp only [Sem.run_bind, hu, Result.andThen_ok, run_size hea, hut, Sem.run_pure, if_true, asInt, asIntOf, hw, Sem.run_ite]
  rw [if_neg hneg]
  simp only [hi, Result.andThen_ok]
  rw [if_neg hbb]
  simp only [Int.toNat_natCast]
  rw [if_neg hle]
  simp only [true_or, and_true]
  rw [if_neg hmax', if_neg hcap']
  simp only [run_choose, forced_cap, Bool.false_eq_true, if_false, Result.andThen_ok, run_askRoom]
  rw [hW1']
  subst harr
  by_cases hn0 : n * ea.size = 0
  · simp only [hi1, hold, Result.andThen_ok, Bool.not_true, Bool.false_eq_true, if_false, hn0, if_true, hz, newRow, Sem.run_bind, run_newObj, Sem.run_pure, hs]
  · simp only [hi1, hold, Result.andThen_ok, Bool.not_true, Bool.false_eq_true, if_false, hn0, hz, newRow, Sem.run_bind, run_newObj, Sem.run_pure, hs]

end
end Go.Eng
/-! Appends and copies. -/
namespace Go.Eng

def baseStore (P : Program) (W : World) (base : Option Addr) (off : Nat) (arr : Array Value) : Result Unit :=
  match base with
  | none => .ok () W
  | some a => (storeCells (a.add off) arr.toList).run P W

/-- An append, as it is known to go on. -/
structure AppRun (P : Program) (ρ : Ren) (W : World) (S : Sem Value) (base : Option Addr) (len k n size : Nat) (el : TypeId) (new : List AVal) : Prop where
  in_ : len + n ≤ k → ∃ arr : Array Value, VRs ρ new arr.toList ∧ ∀ W', baseStore P W base (len * size) arr = .ok () W' → S.run P W = .ok (.slice base (len + n) k) W'
  out_ : ¬ len + n ≤ k → ∀ W1 cap, W1 = { W with drawn := W.drawn + 1 } → cap = (Question.appendCap (len + n) k el).cut (W.tape W.drawn (.appendCap (len + n) k el)) → ∀ zv old, (zeroValue el).run P W1 = .ok zv W1 →
    (Builtin.firstCells size len (.slice base len k)).run P W1 = .ok old W1 → ∃ arr : Array Value, VRs ρ new arr.toList ∧
      S.run P W = .ok (.slice (some ⟨W.heap.size, 0, none⟩) (len + n) cap) { W1 with heap := W1.heap.push (.cells (old ++ arr ++ Builtin.zeroCells zv.cells (cap - (len + n))) el) }

section
variable {P : Program} {ρ : Ren} {H : AHeap} {W : World}

theorem zeroCells_size (z : Array Value) (n : Nat) : (Builtin.zeroCells z n).size = n * z.size := by simp [Builtin.zeroCells]

theorem cut_le (need old : Nat) (el : TypeId) (t : Nat) : need ≤ (Question.appendCap need old el).cut t := by simp [Question.cut]

theorem appGo_sound (hr : HR ρ H W.heap) {S : Sem Value} {base : Option (Nat × Nat)} {len n es size : Nat} {cap : Option Nat} {vs : Value} {el : TypeId} {ea : ATy} (hea : tyOf P el = some ea) (hsz : ea.size = size) {z : AVal} (hz : ea.zero = some z)
    (hzt : z ≠ .top) (hzl : z.cells.length = size) (hs : VR ρ (.slice base len cap es) vs) {new : List AVal} (hnl : new.length = n * size) (hone : allOne new = true) (hs0 : size ≠ 0)
    (hA : ∀ ad k, vs = .slice ad len k → AppRun P ρ W S ad len k n size el new) {r : AVal} {H' : AHeap} (h : appGo H base len cap es size new n = some (r, H')) : EffR P ρ H W r H' S := by
  have hform : ∃ ad k, vs = .slice ad len k ∧ len ≤ k ∧ (∀ c, cap = some c → c = k) := by
    cases base with
    | none => obtain ⟨rfl, rfl, rfl⟩ := hs; exact ⟨none, 0, rfl, by omega, fun c hc => by cases hc; rfl⟩
    | some p => obtain ⟨ad, k, rfl, h4, h5, _⟩ := hs; exact ⟨some ad, k, rfl, h4, h5⟩
  obtain ⟨ad, k, rfl, hlk, hcap⟩ := hform
  have hR := hA ad k rfl
  -- nothing is appended
  have hnone : n = 0 → len + n ≤ k → EffR P ρ H W (.slice base len cap es) H S := by
    intro hn hle
    subst hn
    obtain ⟨arr, h1, h2⟩ := hR.in_ hle
    have hnew : new = [] := List.eq_nil_of_length_eq_zero (by rw [hnl]; simp)
    subst hnew
    have harr : arr.toList = [] := h1
    refine EffR.same hr (v := .slice ad (len + 0) k) (h2 W ?_) hs
    unfold baseStore
    cases ad with
    | none => rfl
    | some a => simp [harr, storeCells]
  have hreadOld : ∀ W1 : World, W1.heap = W.heap → ∀ old, readOld H base len size = some old → ∃ olds, (Builtin.firstCells size len (.slice ad len k)).run P W1 = .ok olds W1 ∧ VRs ρ old olds.toList := by
    intro W1 hW1 old ho
    cases base with
    | none =>
      obtain ⟨rfl, _, h3⟩ := hs
      cases h3
      simp only [readOld] at ho
      simp only [Nat.beq_refl, cond_true, Option.some.injEq] at ho
      subst ho
      exact ⟨#[], rfl, rfl⟩
    | some p =>
      obtain ⟨b, o⟩ := p
      obtain ⟨ad', k', hv1, _, _, hor⟩ := hs
      cases hv1
      simp only [readOld] at ho
      cases h0 : Nat.beq len 0 with
      | true =>
        rw [h0] at ho
        simp only [cond_true, Option.some.injEq] at ho
        subst ho
        have h0 := Nat.eq_of_beq_eq_true h0
        subst h0
        exact ⟨#[], by simp [Builtin.firstCells, loadCells, loadCellsFrom], rfl⟩
      | false =>
        rw [h0] at ho
        simp only [cond_false] at ho
        have hl0 : len ≠ 0 := fun e => by subst e; simp at h0
        rcases hor with hk0 | ⟨w, hw, hlo, rfl, hfit⟩
        · omega
        · obtain ⟨arr, h1, h2⟩ := read_sound (P := P) (W := W1) (by rw [hW1]; exact hr) ho hw hlo
          exact ⟨arr, h1, h2⟩
  unfold appGo at h
  cases cap with
  | some c =>
    have hck := hcap c rfl
    subst hck
    simp only at h
    cases hle : Nat.ble (len + n) c with
    | true =>
      have hle' := Nat.le_of_ble_eq_true hle
      rw [hle] at h
      simp only [cond_true] at h
      cases hn : Nat.beq n 0 with
      | true =>
        rw [hn] at h
        simp only [cond_true, Option.some.injEq, Prod.mk.injEq] at h
        obtain ⟨rfl, rfl⟩ := h
        exact hnone (Nat.eq_of_beq_eq_true hn) hle'
      | false =>
        rw [hn] at h
        simp only [cond_false] at h
        have hn0 : n ≠ 0 := fun e => by subst e; simp at hn
        cases base with
        | none => simp at h
        | some p =>
          obtain ⟨b, o⟩ := p
          simp only at h
          cases hwr : H.write b (o + len * size) new with
          | none => simp [hwr] at h
          | some H1 =>
            simp only [hwr, Option.some.injEq, Prod.mk.injEq] at h
            obtain ⟨rfl, rfl⟩ := h
            obtain ⟨ad', k', hv1, h3, h4, hor⟩ := hs
            cases hv1
            rcases hor with hk0 | ⟨w, hw, hlo, rfl, hfit⟩
            · omega
            · obtain ⟨arr, h5, h6⟩ := hR.in_ hle'
              simp only at hlo
              obtain ⟨W', h7, h8, h9, h10, h11⟩ := write_sound (P := P) hr hwr hw (by omega) h5
              refine ⟨_, W', ρ, h6 W' (by unfold baseStore; simp only; rw [Win.at_add hlo]; exact h7), ⟨_, _, rfl, hle', fun c hc => by cases hc; rfl, .inr ⟨w, hw, hlo, rfl, hfit⟩⟩, h8, Ext.refl _ _ _, h9, h10, by omega⟩
    | false =>
      rw [hle] at h
      simp only [cond_false] at h
      have hle' : ¬ len + n ≤ c := fun e => by
        have : Nat.ble (len + n) c = true := Nat.ble_eq_true_of_le e
        rw [hle] at this; cases this
      cases ho : readOld H base len size with
      | none => simp [ho] at h
      | some old =>
        simp only [ho, Option.some.injEq, Prod.mk.injEq] at h
        obtain ⟨rfl, rfl⟩ := h
        let W1 : World := { W with drawn := W.drawn + 1 }
        obtain ⟨zv, hz1, hz2⟩ := run_zero hea hz W1
        have hzs : zv.cells.size = size := by have := (VR.cells hzt (hz2 ρ)).length; simp only [Array.length_toList] at this; omega
        obtain ⟨olds, ho1, ho2⟩ := hreadOld W1 rfl old ho
        obtain ⟨arr, h5, h6⟩ := hR.out_ hle' W1 _ rfl rfl zv olds hz1 ho1
        have hcutle := cut_le (len + n) c el (W.tape W.drawn (.appendCap (len + n) c el))
        generalize (Question.appendCap (len + n) c el).cut (W.tape W.drawn (.appendCap (len + n) c el)) = nc at *
        have hol := ho2.length
        have hal := h5.length
        simp only [Array.length_toList] at hol hal
        have holdlen : old.length = len * size := by
          cases base with
          | none =>
            obtain ⟨rfl, _, _⟩ := hs
            simp only [readOld, Nat.beq_refl, cond_true, Option.some.injEq] at ho; subst ho; simp
          | some p =>
            simp only [readOld] at ho
            cases h0 : Nat.beq len 0 with
            | true =>
              rw [h0] at ho
              simp only [cond_true, Option.some.injEq] at ho
              subst ho
              have h0 := Nat.eq_of_beq_eq_true h0
              subst h0; simp
            | false =>
              rw [h0] at ho
              simp only [cond_false] at ho
              obtain ⟨cs, bn, d, g, _, hl⟩ := AHeap.read_cells ho
              have hrc : ∀ (k i : Nat) (l : List AVal), readCells cs bn d i k = some l → l.length = k := by
                intro k
                induction k with
                | zero => intro i l hl; simp only [readCells, Option.some.injEq] at hl; subst hl; rfl
                | succ k ih =>
                  intro i l hl
                  simp only [readCells] at hl
                  cases e1 : cellAt cs bn d i with
                  | none => simp [e1] at hl
                  | some a =>
                    simp only [e1] at hl
                    cases e2 : readCells cs bn d i.succ k with
                    | none => simp [e2] at hl
                    | some l' => simp only [e2, Option.some.injEq] at hl; subst hl; simp [ih _ _ e2]
              exact hrc _ _ _ hl
        have hmul : (nc - (len + n)) * size + (len * size + n * size) = nc * size := by
          rw [← Nat.add_mul, ← Nat.add_mul]; congr 1; omega
        have htot : (olds ++ arr ++ Builtin.zeroCells zv.cells (nc - (len + n))).size = nc * size := by
          simp only [Array.size_append, zeroCells_size, hzs]; omega
        have hv2 := ho2.append h5
        have hext := Ext.place (ρ := ρ) (next := H.next) (h := W.heap) (b := H.next) (hr.fresh _ (Nat.le_refl _)).2.1 (Nat.le_refl _) (w := ⟨W.heap.size, 0, 0, (olds ++ arr ++ Builtin.zeroCells zv.cells (nc - (len + n))).size⟩) rfl
        refine ⟨_, _, _, h6, ?_, hr.push (fun cs n d g hb => by cases hb; rfl) (w := ⟨W.heap.size, 0, 0, (olds ++ arr ++ Builtin.zeroCells zv.cells (nc - (len + n))).size⟩) rfl ?_, hext, Kept.push _ _ _, ⟨rfl, rfl, rfl⟩, Nat.le_succ _⟩
        · refine ⟨_, _, rfl, hcutle, (fun c hc => nomatch hc), .inr ⟨_, by simp; rfl, Nat.le_refl _, rfl, ?_⟩⟩
          simp only [Array.size_append] at htot
          simp only
          omega
        · refine BR_fresh (vals := olds.toList ++ arr.toList) (hv2.mono hext.le) (fun i hi => ?_) (by simp only [Array.size_append, List.length_append]; omega) (.inl rfl)
          simp only [List.length_append] at hi
          rw [← Array.getElem?_toList, Array.toList_append, Array.toList_append, List.getElem?_append_left (by simp only [List.length_append, Array.length_toList]; omega)]
  | none =>
    cases base with
    | none => simp at h
    | some p =>
      obtain ⟨b, o⟩ := p
      simp only at h
      cases hn : Nat.beq n 0 with
      | true =>
        rw [hn] at h
        simp only [cond_true, Option.some.injEq, Prod.mk.injEq] at h
        obtain ⟨rfl, rfl⟩ := h
        have hn := Nat.eq_of_beq_eq_true hn
        exact hnone hn (by omega)
      | false =>
        rw [hn] at h
        simp only [cond_false] at h
        have hn0 : n ≠ 0 := fun e => by subst e; simp at hn
        cases hb : H.bs.get b with
        | none => simp [hb] at h
        | some blk =>
          cases blk with
          | cells cs bn d g =>
            cases hrd : H.read b o (len * size) with
            | none => simp [hb, hrd] at h
            | some old =>
              simp only [hb, hrd] at h
              obtain ⟨hc, h⟩ := shutTrue h
              simp only [Bool.and_eq_true] at hc
              have hc1 := Nat.le_of_ble_eq_true hc.1
              have hc2 := Nat.eq_of_beq_eq_true hc.2
              subst hc2
              simp only [Option.some.injEq, Prod.mk.injEq] at h
              obtain ⟨rfl, rfl⟩ := h
              have hn' := hr.fresh H.next (Nat.le_refl _)
              have hmul : len * es + n * es = (len + n) * es := by rw [Nat.add_mul]
              by_cases hle : len + n ≤ k
              · -- in its place
                obtain ⟨ad', k', hv1, h3, h4, hor⟩ := hs
                cases hv1
                rcases hor with hk0 | ⟨w, hw, hlo, rfl, hfit⟩
                · omega
                · simp only at hlo hfit hw
                  obtain ⟨arr, h5, h6⟩ := hR.in_ hle
                  have hal := h5.length
                  simp only [Array.length_toList] at hal
                  obtain ⟨cells, elem, fr, k1, k2, k3, k4, k5⟩ := hr.blk b _ w hb hw
                  have hkk : (len + n) * es ≤ k * es := Nat.mul_le_mul_right _ hle
                  obtain ⟨W', cells', h7, h8, h9, h10, h11⟩ := run_storeCells_of (P := P) arr.toList 0 W cells (o := w.sh + (o + len * es - w.lo)) k1 k3 (h5.allOne hone) (by simp only [Array.length_toList]; omega)
                  have hst : baseStore P W (some (w.at o)) (len * es) arr = .ok () W' := by
                    unfold baseStore
                    simp only
                    rw [Win.at_add hlo]
                    exact h7
                  refine ⟨_, W', _, h6 W' hst, ?_, ?_, Ext.grown (wn := ⟨w.c, w.sh + (o - w.lo), o, w.n⟩) hn'.2.1 (.inr ⟨b, w, hw, rfl⟩), by rw [h8]; exact Kept.set hw _, h11, Nat.le_succ _⟩
                  · refine ⟨_, _, rfl, hle, (fun c hc => nomatch hc), .inr ⟨_, by simp; rfl, Nat.le_refl _, ?_, ?_⟩⟩
                    · unfold Win.at; simp
                    · simp only; omega
                  · rw [h8]
                    exact hr.growIn hb hw h5 hlo (by omega) hc1 k1 h9 (by rw [hnl]; omega) (by simpa using h10)
              · -- into a new block
                let W1 : World := { W with drawn := W.drawn + 1 }
                obtain ⟨zv, hz1, hz2⟩ := run_zero hea hz W1
                have hzs : zv.cells.size = es := by have := (VR.cells hzt (hz2 ρ)).length; simp only [Array.length_toList] at this; omega
                have hro : readOld H (some (b, o)) len es = some old := by
                  simp only [readOld]
                  cases h0 : Nat.beq len 0 with
                  | false => exact hrd
                  | true =>
                    have h0 := Nat.eq_of_beq_eq_true h0
                    subst h0
                    obtain ⟨_, _, _, _, _, hl⟩ := AHeap.read_cells hrd
                    simp only [Nat.zero_mul, readCells, Option.some.injEq] at hl
                    rw [hl]; rfl
                obtain ⟨olds, ho1, ho2⟩ := hreadOld W1 rfl old hro
                obtain ⟨arr, h5, h6⟩ := hR.out_ hle W1 _ rfl rfl zv olds hz1 ho1
                have hcutle := cut_le (len + n) k el (W.tape W.drawn (.appendCap (len + n) k el))
                generalize (Question.appendCap (len + n) k el).cut (W.tape W.drawn (.appendCap (len + n) k el)) = nc at *
                have hal := h5.length
                simp only [Array.length_toList] at hal
                obtain ⟨_, _, _, _, hbb, hl⟩ := AHeap.read_cells hrd
                rw [hb] at hbb; cases hbb
                have hout := hr.growOut hb (o := o) (tip := o + len * es) (rest := (Builtin.zeroCells zv.cells (nc - (len + n))).toList) (elem := el) h5 (by omega) (by rw [Nat.add_sub_cancel_left]; exact hl) ho2
                have hrcl : ∀ (k i : Nat) (l : List AVal), readCells cs bn d i k = some l → l.length = k := by
                  intro k
                  induction k with
                  | zero => intro i l hl; simp only [readCells, Option.some.injEq] at hl; subst hl; rfl
                  | succ k ih =>
                    intro i l hl
                    simp only [readCells] at hl
                    cases e1 : cellAt cs bn d i with
                    | none => simp [e1] at hl
                    | some a =>
                      simp only [e1] at hl
                      cases e2 : readCells cs bn d i.succ k with
                      | none => simp [e2] at hl
                      | some l' => simp only [e2, Option.some.injEq] at hl; subst hl; simp [ih _ _ e2]
                have holl := hrcl _ _ _ hl
                have hol := ho2.length
                simp only [Array.length_toList] at hol
                have hmul2 : (nc - (len + n)) * es + (len * es + n * es) = nc * es := by
                  rw [← Nat.add_mul, ← Nat.add_mul]; congr 1; omega
                have harrEq : (olds.toList ++ arr.toList ++ (Builtin.zeroCells zv.cells (nc - (len + n))).toList).toArray = olds ++ arr ++ Builtin.zeroCells zv.cells (nc - (len + n)) := by
                  apply Array.toList_inj.1; simp
                rw [harrEq] at hout
                refine ⟨_, _, _, h6, ?_, hout, Ext.grown hn'.2.1 (.inl (Nat.le_refl _)), Kept.push _ _ _, ⟨rfl, rfl, rfl⟩, Nat.le_succ _⟩
                refine ⟨_, _, rfl, hcutle, (fun c hc => nomatch hc), .inr ⟨_, by simp; rfl, Nat.le_refl _, ?_, ?_⟩⟩
                · unfold Win.at; simp
                · simp only [zeroCells_size, hzs]; omega
          | _ => simp [hb] at h

end
end Go.Eng
/-! Appends, copies, maps that change, walks over maps: all effects that answer a value. -/
namespace Go.Eng

section
variable {P : Program} {ρ : Ren} {H : AHeap} {W : World}

theorem argTypes_one {argTypes : Array TypeId} {sT : TypeId} (h0 : argTypes[0]? = some sT) (h1 : argTypes[1]? = none) : argTypes = #[sT] := by
  obtain ⟨l⟩ := argTypes
  cases l with
  | nil => simp at h0
  | cons a l => cases l with
    | nil => simp at h0; subst h0; rfl
    | cons b l => simp at h1

theorem appendA_sound (hr : HR ρ H W.heap) {argTypes : Array TypeId} (rt : TypeId) {s x : AVal} {vs vx : Value} (hs : VR ρ s vs) (hx : VR ρ x vx) {r : AVal} {H' : AHeap} (h : appendA (tyOf P) H argTypes.toList s x = some (r, H')) :
    EffR P ρ H W r H' (Builtin.append_ argTypes rt #[vs, vx]) := by
  unfold appendA at h
  cases hat : argTypes.toList with
  | nil => simp [hat] at h
  | cons sT xt =>
    have h0 : argTypes[0]? = some sT := by rw [← Array.getElem?_toList, hat]; rfl
    have h1 : argTypes[1]? = xt.head? := by rw [← Array.getElem?_toList, hat]; cases xt <;> rfl
    simp only [hat] at h
    cases hsa : tyOf P sT with
    | none => simp [hsa] at h
    | some sa =>
      simp only [hsa] at h
      split at h
      · rename_i el base len cap es hsd
        cases hea : tyOf P el with
        | none => simp [hea] at h
        | some ea =>
          simp only [hea] at h
          cases hz : ea.zero with
          | none => simp [hz] at h
          | some z =>
            simp only [hz] at h
            obtain ⟨hzc, h⟩ := shutTrue h
            simp only [Bool.and_eq_true, Bool.not_eq_true'] at hzc
            have hzt := isTop_ne hzc.1
            have hzl := Nat.eq_of_beq_eq_true hzc.2
            cases hnew : appNew (tyOf P) H ea z xt.head? x with
            | none => simp [hnew] at h
            | some nn =>
              obtain ⟨new, n⟩ := nn
              simp only [hnew] at h
              obtain ⟨hc, h⟩ := shutTrue h
              simp only [Bool.and_eq_true, Bool.not_eq_true'] at hc
              obtain ⟨c1, c2, c3, c4, c5⟩ := hc
              have c1 := Nat.le_of_ble_eq_true c1
              have c2 := Nat.le_of_ble_eq_true c2
              have c3 := Nat.eq_of_beq_eq_true c3
              have c5 : ea.size ≠ 0 := fun e => by rw [e] at c5; simp at c5
              have hcapb : ∀ k, ¬ len + n ≤ k → Builtin.nextslicecap (len + n) k * ea.bytes ≤ 281474976710656 := fun k hk =>
                Nat.le_trans (Nat.mul_le_mul_right _ (nextcap_le (by omega))) c1
              -- the common variant
              have hvarA : (∀ args : Array Value, (∃ a b, args = #[a, b]) → (Builtin.append_ argTypes rt args).run P W = (Builtin.append_ #[sT] rt args).run P W) → appended H ea.size x = some (new, n) →
                  EffR P ρ H W r H' (Builtin.append_ argTypes rt #[vs, vx]) := by
                intro heq hap
                obtain ⟨hl, hcs⟩ := appended_sound (P := P) hr hx hap
                refine appGo_sound hr hea rfl hz hzt hzl hs c3 c4 c5 ?_ h
                rintro ad k rfl
                constructor
                · intro hle
                  obtain ⟨arr, ha1, ha2⟩ := hcs W rfl
                  refine ⟨arr, ha2, fun W' hst => ?_⟩
                  rw [heq _ ⟨_, _, rfl⟩]
                  refine append_inA hsa hsd hea hl hle ha1 ?_
                  unfold baseStore at hst
                  cases ad <;> exact hst
                · intro hle W1 cp hW1 hcp zv old hzv hold
                  obtain ⟨arr, ha1, ha2⟩ := hcs W1 (by rw [hW1])
                  refine ⟨arr, ha2, ?_⟩
                  rw [heq _ ⟨_, _, rfl⟩]
                  exact append_outA hsa hsd hea hl hle (by omega) (hcapb k hle) hW1 hcp hzv hold ha1
              unfold appNew at hnew
              cases hxt : xt.head? with
              | none =>
                rw [hxt] at hnew h1
                refine hvarA (fun args _ => ?_) hnew
                rw [argTypes_one h0 h1]
              | some t =>
                rw [hxt] at hnew h1
                simp only at hnew
                cases hta : tyOf P t with
                | none => simp [hta] at hnew
                | some ta =>
                  simp only [hta] at hnew
                  cases hint : isIntD ta.desc with
                  | false =>
                    have hnew' : appended H ea.size x = some (new, n) := by
                      cases hd : ta.desc <;> rw [hd] at hnew hint <;> first | exact hnew | cases hint
                    refine hvarA (fun args ⟨a, b, he⟩ => ?_) hnew'
                    subst he
                    exact append_noInt h0 h1 hsa hta hint a b
                  | true =>
                    obtain ⟨kk, htd⟩ : ∃ kk, ta.desc = .int kk := by
                      cases hd : ta.desc <;> rw [hd] at hint <;> first | exact ⟨_, rfl⟩ | cases hint
                    rw [htd] at hnew
                    simp only at hnew
                    cases hn : natOf x with
                    | none => simp [hn] at hnew
                    | some m =>
                      simp only [hn] at hnew
                      obtain ⟨hb, hnew⟩ := shutTrue hnew
                      simp only [Bool.and_eq_true] at hb
                      simp only [Option.some.injEq, Prod.mk.injEq] at hnew
                      obtain ⟨rfl, rfl⟩ := hnew
                      obtain ⟨kv, rfl⟩ := natOf_some hn hx
                      have hb1 := Nat.le_of_ble_eq_true hb.1
                      have hb2 := Nat.le_of_ble_eq_true hb.2
                      have hvr : ∀ zv, (∀ ρ, VR ρ z zv) → VRs ρ (replicateL z.cells m) (if m * ea.size = 0 then #[] else Builtin.zeroCells zv.cells m).toList := by
                        intro zv hzv
                        by_cases h00 : m * ea.size = 0
                        · have : replicateL z.cells m = [] := List.eq_nil_of_length_eq_zero (by rw [rep_length, hzl]; exact h00)
                          rw [this, if_pos h00]; rfl
                        · rw [if_neg h00]
                          exact rep_VRs (VR.cells hzt (hzv ρ)) m
                      refine appGo_sound hr hea rfl hz hzt hzl hs c3 c4 c5 ?_ h
                      rintro ad k rfl
                      constructor
                      · intro hle
                        obtain ⟨zv, hz1, hz2⟩ := run_zero hea hz W
                        refine ⟨_, hvr zv hz2, fun W' hst => ?_⟩
                        refine append_inB h0 h1 hta htd hsa hsd hea hb1 hb2 hle hz1 rfl ?_
                        unfold baseStore at hst
                        cases ad <;> exact hst
                      · intro hle W1 cp hW1 hcp zv old hzv hold
                        obtain ⟨zv', hz1, hz2⟩ := run_zero hea hz W1
                        rw [hzv] at hz1
                        simp only [Result.ok.injEq, and_true] at hz1
                        subst hz1
                        exact ⟨_, hvr zv hz2, append_outB h0 h1 hta htd hsa hsd hea hb1 hb2 hle (by omega) (hcapb k hle) hW1 hcp hzv hold rfl⟩
      · cases h

/-! ### Maps that change -/
theorem ER_append {es es2 : List (AVal × AVal × Nat)} {x y : List MapEntry} (h : ER ρ es x) (h2 : ER ρ es2 y) : ER ρ (es ++ es2) (x ++ y) := by
  induction es generalizing x with
  | nil => cases h; exact h2
  | cons a es ih => obtain ⟨e, es', rfl, h3, h4, h5, h6⟩ := h; exact ⟨e, es' ++ y, rfl, h3, h4, h5, ih h6⟩

theorem modify0 (e : MapEntry) (es : List MapEntry) (f : MapEntry → MapEntry) : (e :: es).modify 0 f = f e :: es := rfl
theorem modifyS (e : MapEntry) (es : List MapEntry) (i : Nat) (f : MapEntry → MapEntry) : (e :: es).modify (i + 1) f = e :: es.modify i f := rfl

theorem ER_set {k v : AVal} : ∀ {es : List (AVal × AVal × Nat)} {es' : List MapEntry} (i : Nat) {f : MapEntry → MapEntry}, ER ρ es es' →
    (∀ e, es'[i]? = some e → VR ρ k (f e).key ∧ VR ρ v (f e).val ∧ (f e).born = e.born) → ER ρ (setNth es i k v) (es'.modify i f)
  | [], _, i, f, h, _ => by cases h; simp [setNth]; rfl
  | a :: es, _, 0, f, ⟨e, es', rfl, h3, h4, h5, h6⟩, hf => by
    rw [modify0]
    obtain ⟨g1, g2, g3⟩ := hf e rfl
    exact ⟨f e, es', rfl, g1, g2, g3.trans h5, h6⟩
  | a :: es, _, i + 1, f, ⟨e, es', rfl, h3, h4, h5, h6⟩, hf => by
    rw [modifyS]
    exact ⟨e, _, rfl, h3, h4, h5, ER_set i h6 fun e' he' => hf e' (by simpa using he')⟩

theorem ER_del : ∀ {es : List (AVal × AVal × Nat)} {es' : List MapEntry} (i : Nat), ER ρ es es' → ER ρ (delNth es i) (es'.eraseIdx i)
  | [], _, i, h => by cases h; rfl
  | a :: es, _, 0, ⟨e, es', rfl, h3, h4, h5, h6⟩ => h6
  | a :: es, _, i + 1, ⟨e, es', rfl, h3, h4, h5, h6⟩ => ⟨e, _, rfl, h3, h4, h5, ER_del i h6⟩

theorem ER_get : ∀ {es : List (AVal × AVal × Nat)} {es' : List MapEntry} {i : Nat} {a : AVal × AVal × Nat}, ER ρ es es' → es[i]? = some a → ∃ e, es'[i]? = some e ∧ VR ρ a.1 e.key ∧ VR ρ a.2.1 e.val ∧ e.born = a.2.2
  | [], _, i, a, h, hi => by simp at hi
  | b :: es, _, 0, a, ⟨e, es', rfl, h3, h4, h5, h6⟩, hi => by simp at hi; subst hi; exact ⟨e, rfl, h3, h4, h5⟩
  | b :: es, _, i + 1, a, ⟨e, es', rfl, h3, h4, h5, h6⟩, hi => by simp at hi ⊢; exact ER_get h6 hi

theorem bytes_self (s : ByteArray) : (s == s) = true := by
  obtain ⟨x⟩ := s
  show (x == x) = true
  simp

/-! A plain value has one picture. -/
theorem plain1_eq {x : AVal} {v v' : Value} (hx : VR ρ x v) (hx' : VR ρ x v') (h : plain1 x = true) : v = v' ∧ ∀ n, Instr.sameBits n v v = true := by
  cases x <;> simp only [plain1, Bool.false_eq_true] at h
  · cases hx; cases hx'; exact ⟨rfl, fun n => by cases n <;> simp [Instr.sameBits]⟩
  · cases hx; cases hx'; exact ⟨rfl, fun n => by cases n <;> simp [Instr.sameBits]⟩
  · obtain ⟨s, rfl, hs⟩ := hx
    obtain ⟨s', rfl, hs'⟩ := hx'
    have : s = s' := by
      rw [← hs'] at hs
      have := (List.map_inj_right (f := UInt8.toNat) (fun a b h => UInt8.toNat_inj.1 h)).1 hs
      cases s; cases s'
      simp only [ByteArray.mk.injEq]
      exact Array.toList_inj.1 this
    subst this
    exact ⟨rfl, fun n => by cases n <;> simp [Instr.sameBits, bytes_self]⟩

theorem plains_eq : ∀ {l : List AVal} {v v' : List Value}, VRs ρ l v → VRs ρ l v' → l.all plain1 = true → v = v' ∧ ∀ n, (v.zip v).all (fun p => Instr.sameBits n p.1 p.2) = true
  | [], _, _, h, h', _ => by cases h; cases h'; exact ⟨rfl, fun _ => rfl⟩
  | a :: l, _, _, ⟨x, xs, rfl, h1, h2⟩, ⟨y, ys, rfl, h3, h4⟩, hp => by
    simp only [List.all_cons, Bool.and_eq_true] at hp
    obtain ⟨rfl, h5⟩ := plain1_eq h1 h3 hp.1
    obtain ⟨rfl, h6⟩ := plains_eq h2 h4 hp.2
    exact ⟨rfl, fun n => by simp [h5 n, h6 n]⟩

theorem plain_eq {x : AVal} {v v' : Value} (hx : VR ρ x v) (hx' : VR ρ x v') (h : plainV x = true) : v = v' ∧ ∀ n, Instr.sameBits (n + 1) v v = true := by
  cases x with
  | agg cs =>
    obtain ⟨vs, rfl, h1⟩ := hx
    obtain ⟨vs', rfl, h2⟩ := hx'
    obtain ⟨h3, h4⟩ := plains_eq h1 h2 h
    have := Array.toList_inj.1 h3
    subst this
    refine ⟨rfl, fun n => ?_⟩
    simp only [Instr.sameBits, beq_self_eq_true, Bool.true_and]
    exact h4 n
  | bool b => obtain ⟨h1, h2⟩ := plain1_eq hx hx' h; exact ⟨h1, fun n => h2 _⟩
  | int k n => obtain ⟨h1, h2⟩ := plain1_eq hx hx' h; exact ⟨h1, fun n => h2 _⟩
  | str s => obtain ⟨h1, h2⟩ := plain1_eq hx hx' h; exact ⟨h1, fun n => h2 _⟩
  | _ => cases h

theorem stays_sound {es : List (AVal × AVal × Nat)} {es' : Array MapEntry} {i : Nat} {k : AVal} {vk : Value} (he : ER ρ es es'.toList) (hk : VR ρ k vk) (h : stays es i k = true) :
    ∃ e a, es'[i]? = some e ∧ es[i]? = some a ∧ VR ρ a.2.1 e.val ∧ e.born = a.2.2 ∧ e.key = vk ∧ ∀ W : World, (Instr.keyThatStays (((es'[i]?).map (·.key)).getD vk) vk).run P W = .ok vk W := by
  unfold stays at h
  cases hi : es[i]? with
  | none => simp [hi] at h
  | some a =>
    simp only [hi, Bool.and_eq_true] at h
    obtain ⟨e, h1, h2, h3, h4⟩ := ER_get he hi
    rw [Array.getElem?_toList] at h1
    have := AVal.beq_eq _ _ h.2
    rw [this] at h2
    obtain ⟨h5, h6⟩ := plain_eq h2 hk h.1
    refine ⟨e, a, h1, rfl, h3, h4, h5, fun W => ?_⟩
    rw [h1, Option.map_some, Option.getD_some, h5]
    rw [h5] at h6
    unfold Instr.keyThatStays
    rw [if_pos (h6 9999)]
    rfl

theorem run_setMap {r : Nat} {es : Array MapEntry} {clock : Nat} {W : World} (o : Obj) (hb : W.heap[r]? = some (.map es clock)) : (setObj r o).run P W = .ok () { W with heap := W.heap.setIfInBounds r o } := by
  simp [setObj, Sem.run, hb]

theorem map_lt {r : Nat} {o : Obj} {W : World} (hb : W.heap[r]? = some o) : r < W.heap.size := by
  rcases Nat.lt_or_ge r W.heap.size with h | h
  · exact h
  · rw [Array.getElem?_eq_none h] at hb; cases hb

theorem EffR.unit {s : Sem Unit} {t : Sem Value} {u : Value} (ht : ∀ W', s.run P W = .ok () W' → t.run P W = .ok u W') {r : AVal} (hu : ∀ ρ, VR ρ r u) {H' : AHeap}
    (h : ∃ W', s.run P W = .ok () W' ∧ HR ρ H' W'.heap ∧ Kept ρ W.heap W'.heap ∧ Rest W W' ∧ H.next ≤ H'.next) : EffR P ρ H W r H' t := by
  obtain ⟨W', h1, h2, h3, h4, h5⟩ := h
  exact ⟨u, W', ρ, ht _ h1, hu ρ, h2, Ext.refl _ _ _, h3, h4, h5⟩

/-- A map's row of entries turns. -/
theorem HR.setMap (hr : HR ρ H W.heap) {r : Nat} {es es2 : List (AVal × AVal × Nat)} {clock clock2 : Nat} (hb : H.bs.get r = some (.map es clock)) {w : Win} (hw : ρ r = some w) {a : Array MapEntry} (he : ER ρ es2 a.toList) :
    HR ρ (H.setObj r (.map es2 clock2)) (W.heap.setIfInBounds w.c (.map a clock2)) := by
  refine hr.setObj hb (fun _ _ _ _ h => by cases h) (fun _ _ _ _ h => by cases h) hw ⟨a, ?_, he⟩
  rw [Array.getElem?_setIfInBounds]
  simp [hr.lt r w hw]

theorem mapPut_sound (hr : HR ρ H W.heap) {t : Nat} {m k x : AVal} {vm vk vx : Value} (hm : VR ρ m vm) (hk : VR ρ k vk) (hx : VR ρ x vx) {H' : AHeap} (h : mapPut (tyOf P) H t m k x = some H') :
    ∃ W', (Instr.mapUpdate t vm vk vx).run P W = .ok () W' ∧ HR ρ H' W'.heap ∧ Kept ρ W.heap W'.heap ∧ Rest W W' ∧ H.next ≤ H'.next := by
  unfold mapPut at h
  split at h
  · rename_i a r hta
    split at h
    · rename_i kt et hd
      obtain ⟨hkey, h⟩ := shutTrue h
      obtain ⟨w, hw, rfl⟩ := hm
      have hu := run_under hta W
      rw [hd] at hu
      cases hb : H.bs.get r with
      | none => simp [hb] at h
      | some blk =>
        cases blk with
        | map es clock =>
          simp only [hb] at h
          obtain ⟨es', h1, h2, h3⟩ := map_block (P := P) hr hb hw
          obtain ⟨ka, hka⟩ := keyOk_ty hkey
          have hck := checkKey_sound (W := W) hk hkey false
          cases hfa : findA (tyOf P) kt k es 0 with
          | none => simp [hfa] at h
          | some fr =>
            obtain ⟨fr', g1, g2⟩ := findKey_sound (W := W) hka hk h2 hfa
            cases fr with
            | none =>
              cases fr' with
              | some _ => exact g2.elim
              | none =>
                simp only [hfa, Option.some.injEq] at h
                subst h
                refine ⟨{ W with heap := W.heap.setIfInBounds w.c (.map (es'.push { key := vk, val := vx, born := clock }) (clock + 1)) }, ?_, ?_, Kept.set hw _, ⟨rfl, rfl, rfl⟩, Nat.le_refl _⟩
                · show Sem.run P (do let d ← underlying t; _) W = _
                  simp only [Sem.run_bind, hu, Result.andThen_ok, h3, hck, g1]
                  exact run_setMap _ h1
                · refine hr.setMap hb hw ?_
                  rw [Array.toList_push]
                  exact ER_append h2 ⟨_, _, rfl, hk, hx, rfl, rfl⟩
            | some q =>
              cases fr' with
              | none => exact g2.elim
              | some q' =>
                simp only [hfa] at h
                obtain ⟨hst, h⟩ := shutTrue h
                simp only [Option.some.injEq] at h
                subst h
                obtain ⟨e, ae, s1, s2, s3, s4, s5, s6⟩ := stays_sound (P := P) h2 hk hst
                have hqi : q'.1 = q.1 := g2.1.symm
                refine ⟨{ W with heap := W.heap.setIfInBounds w.c (.map (es'.modify q'.1 fun e => { e with key := vk, val := vx }) clock) }, ?_, ?_, Kept.set hw _, ⟨rfl, rfl, rfl⟩, Nat.le_refl _⟩
                · show Sem.run P (do let d ← underlying t; _) W = _
                  simp only [Sem.run_bind, hu, Result.andThen_ok, h3, hck, g1]
                  rw [hqi]
                  simp only [s6 W, Result.andThen_ok]
                  exact run_setMap _ h1
                · refine hr.setMap hb hw ?_
                  rw [hqi, Array.toList_modify]
                  exact ER_set _ h2 fun e' _ => ⟨hk, hx, rfl⟩
        | _ => simp [hb] at h
    · cases h
  · cases h

end
end Go.Eng
/-! Maps: entries, deletions, walks; copies. -/
namespace Go.Eng

section
variable {P : Program} {ρ : Ren} {H : AHeap} {W : World}

theorem EffR.mapped (hr : HR ρ H W.heap) {S : Sem Value} {r : Nat} {es es2 : List (AVal × AVal × Nat)} {clock clock2 : Nat} (hb : H.bs.get r = some (.map es clock)) {w : Win} (hw : ρ r = some w) {a : Array MapEntry} (he : ER ρ es2 a.toList)
    {x : AVal} {v : Value} (hx : VR ρ x v) (hrun : S.run P W = .ok v { W with heap := W.heap.setIfInBounds w.c (.map a clock2) }) : EffR P ρ H W x (H.setObj r (.map es2 clock2)) S :=
  ⟨v, _, ρ, hrun, hx, hr.setMap hb hw he, Ext.refl _ _ _, Kept.set hw _, ⟨rfl, rfl, rfl⟩, Nat.le_refl _⟩

theorem mapEntryA_sound (hr : HR ρ H W.heap) {t : Nat} {m k : AVal} {vm vk : Value} (hm : VR ρ m vm) (hk : VR ρ k vk) {r : AVal} {H' : AHeap} (h : mapEntryA (tyOf P) H t m k = some (r, H')) :
    EffR P ρ H W r H' (Instr.mapEntry t vm vk) := by
  unfold mapEntryA at h
  split at h
  · rename_i a b hta
    split at h
    · rename_i kt et hd
      obtain ⟨hkey, h⟩ := shutTrue h
      obtain ⟨w, hw, rfl⟩ := hm
      have hu := run_under hta W
      rw [hd] at hu
      cases hb : H.bs.get b with
      | none => simp [hb] at h
      | some blk =>
        cases blk with
        | map es clock =>
          simp only [hb] at h
          obtain ⟨es', h1, h2, h3⟩ := map_block (P := P) hr hb hw
          obtain ⟨ka, hka⟩ := keyOk_ty hkey
          have hck := checkKey_sound (W := W) hk hkey false
          cases hfa : findA (tyOf P) kt k es 0 with
          | none => simp [hfa] at h
          | some fr =>
            obtain ⟨fr', g1, g2⟩ := findKey_sound (W := W) hka hk h2 hfa
            cases fr with
            | none =>
              cases fr' with
              | some _ => exact g2.elim
              | none =>
                simp only [hfa] at h
                cases hz : zeroOf (tyOf P) et with
                | none => simp [hz] at h
                | some z =>
                  simp only [hz] at h
                  obtain ⟨_, h⟩ := shutTrue h
                  simp only [Option.some.injEq, Prod.mk.injEq] at h
                  obtain ⟨rfl, rfl⟩ := h
                  obtain ⟨ea, hea, hzz⟩ := zeroOf_some hz
                  obtain ⟨zv, hz1, hz2⟩ := run_zero hea hzz W
                  refine EffR.mapped hr hb hw (a := es'.push { key := vk, val := zv, born := clock }) ?_ (v := .tuple #[zv, goInt clock]) ⟨_, rfl, _, _, rfl, hz2 ρ, _, _, rfl, rfl, rfl⟩ ?_
                  · rw [Array.toList_push]
                    exact ER_append h2 ⟨_, _, rfl, hk, hz2 ρ, rfl, rfl⟩
                  · show Sem.run P (do let d ← underlying t; _) W = _
                    simp only [Sem.run_bind, hu, Result.andThen_ok, h3, hck, g1, hz1, run_setMap _ h1]
                    rfl
            | some q =>
              cases fr' with
              | none => exact g2.elim
              | some q' =>
                obtain ⟨i, v⟩ := q
                obtain ⟨i', v'⟩ := q'
                obtain ⟨hqi, hqv⟩ := g2
                simp only at hqi hqv
                subst hqi
                simp only [hfa] at h
                cases hei : es[i]? with
                | none => simp [hei] at h
                | some ee =>
                  simp only [hei] at h
                  obtain ⟨hst, h⟩ := shutTrue h
                  simp only [Bool.and_eq_true] at hst
                  simp only [Option.some.injEq, Prod.mk.injEq] at h
                  obtain ⟨rfl, rfl⟩ := h
                  obtain ⟨e, ae, s1, s2, s3, s4, s5, s6⟩ := stays_sound (P := P) h2 hk hst.1
                  rw [hei] at s2
                  cases s2
                  refine EffR.mapped hr hb hw (a := es'.modify i fun e => { e with key := vk }) ?_ (v := .tuple #[v', goInt (((es'[i]?).map (·.born)).getD 0)]) ⟨_, rfl, _, _, rfl, hqv, _, _, rfl, ?_, rfl⟩ ?_
                  · rw [Array.toList_modify]
                    refine ER_set _ h2 fun e' he' => ⟨hk, ?_, rfl⟩
                    rw [Array.getElem?_toList, s1] at he'
                    cases he'
                    exact s3
                  · rw [s1]; simp only [Option.map_some, Option.getD_some, s4]; rfl
                  · show Sem.run P (do let d ← underlying t; _) W = _
                    simp only [Sem.run_bind, hu, Result.andThen_ok, h3, hck, g1, s6 W, run_setMap _ h1]
                    rfl
        | _ => simp [hb] at h
    · cases h
  · cases h

theorem ER_stamp {v : AVal} {vv : Value} (hv : VR ρ v vv) {stamp : Nat} : ∀ {es es2 : List (AVal × AVal × Nat)} {es' : List MapEntry}, ER ρ es es' → putStamp v stamp es = some es2 →
    ∃ i, es'.findIdx? (fun e => (e.born : Int) == (stamp : Int)) = some i ∧ ER ρ es2 (es'.modify i fun e => { e with val := vv })
  | [], _, _, _, h => by simp [putStamp] at h
  | a :: es, es2, _, ⟨e, es', rfl, h3, h4, h5, h6⟩, h => by
    unfold putStamp at h
    cases hb : Nat.beq a.2.2 stamp with
    | true =>
      simp only [hb, cond_true, Option.some.injEq] at h
      subst h
      have := Nat.eq_of_beq_eq_true hb
      refine ⟨0, by simp [List.findIdx?_cons, h5, this], ?_⟩
      rw [modify0]
      exact ⟨_, _, rfl, h3, hv, h5, h6⟩
    | false =>
      simp only [hb, cond_false] at h
      cases hp : putStamp v stamp es with
      | none => simp [hp] at h
      | some l =>
        simp only [hp, Option.some.injEq] at h
        subst h
        obtain ⟨i, h7, h8⟩ := ER_stamp hv h6 hp
        have hne : a.2.2 ≠ stamp := Nat.ne_of_beq_eq_false hb
        refine ⟨i + 1, ?_, ?_⟩
        · rw [List.findIdx?_cons, h7, h5]
          have : ((a.2.2 : Int) == (stamp : Int)) = false := by simp; omega
          rw [this]; rfl
        · rw [modifyS]
          exact ⟨_, _, rfl, h3, h4, h5, h8⟩

theorem entryStoreA_sound (hr : HR ρ H W.heap) (t : TypeId) {m s v : AVal} {vm vs vv : Value} (hm : VR ρ m vm) (hs : VR ρ s vs) (hv : VR ρ v vv) {H' : AHeap} (h : entryStoreA H m s v = some H') :
    ∃ W', (Instr.entryStore t vm vs vv).run P W = .ok () W' ∧ HR ρ H' W'.heap ∧ Kept ρ W.heap W'.heap ∧ Rest W W' ∧ H.next ≤ H'.next := by
  unfold entryStoreA at h
  split at h
  · rename_i r stamp hn
    obtain ⟨w, hw, rfl⟩ := hm
    obtain ⟨kv, rfl⟩ := natOf_some hn hs
    cases hb : H.bs.get r with
    | none => simp [hb] at h
    | some blk =>
      cases blk with
      | map es clock =>
        simp only [hb] at h
        obtain ⟨es', h1, h2, h3⟩ := map_block (P := P) hr hb hw
        cases hp : putStamp v stamp es with
        | none => simp [hp] at h
        | some es2 =>
          simp only [hp, Option.some.injEq] at h
          subst h
          obtain ⟨i, h4, h5⟩ := ER_stamp hv h2 hp
          have h4' : es'.findIdx? (fun e => (e.born : Int) == (stamp : Int)) = some i := by
            have := List.findIdx?_toArray (fun e : MapEntry => (e.born : Int) == (stamp : Int)) es'.toList
            rw [Array.toArray_toList] at this
            rw [this]; exact h4
          refine ⟨{ W with heap := W.heap.setIfInBounds w.c (.map (es'.modify i fun e => { e with val := vv }) clock) }, ?_, ?_, Kept.set hw _, ⟨rfl, rfl, rfl⟩, Nat.le_refl _⟩
          · show Sem.run P (do let d ← getObj w.c; _) W = _
            simp only [Sem.run_bind, h3, Result.andThen_ok]
            show Sem.run P (do let b ← asInt (.int kv stamp); _) W = _
            simp only [asInt, Sem.run_bind, Sem.run_pure, h4']
            exact run_setMap _ h1
          · refine hr.setMap hb hw ?_
            rw [Array.toList_modify]
            exact h5
      | _ => simp [hb] at h
  · cases h

theorem ER_del' {es : List (AVal × AVal × Nat)} {es' : Array MapEntry} (i : Nat) (h : ER ρ es es'.toList) : ER ρ (delNth es i) (es'.eraseIdxIfInBounds i).toList := by
  rw [Array.eraseIdxIfInBounds]
  split
  · rw [Array.toList_eraseIdx]; exact ER_del i h
  · rename_i hi
    have : es'.toList.eraseIdx i = es'.toList := List.eraseIdx_of_length_le (by simpa using Nat.le_of_not_lt hi)
    rw [← this]; exact ER_del i h

theorem deleteA_sound (hr : HR ρ H W.heap) {argTypes : Array TypeId} {t : Nat} (h0 : argTypes[0]? = some t) (rt : TypeId) {m k : AVal} {vm vk : Value} (hm : VR ρ m vm) (hk : VR ρ k vk) {H' : AHeap} (h : deleteA (tyOf P) H t m k = some H') :
    EffR P ρ H W (.tuple []) H' (Builtin.delete_ argTypes rt #[vm, vk]) := by
  unfold deleteA at h
  cases hta : tyOf P t with
  | none => simp [hta] at h
  | some a =>
    simp only [hta] at h
    split at h
    · rename_i kt et hd
      obtain ⟨hkey, h⟩ := shutTrue h
      have hu := run_under hta W
      rw [hd] at hu
      split at h
      · simp only [Option.some.injEq] at h
        subst h
        cases hm
        refine EffR.same hr (v := .tuple #[]) ?_ ⟨_, rfl, rfl⟩
        have hck := checkKey_sound (P := P) (W := W) hk hkey true
        unfold Builtin.delete_
        simp only [h0, List.getElem?_toArray, List.getElem?_cons_zero, List.getElem?_cons_succ]
        show Sem.run P (do let d ← underlying t; _) W = _
        simp only [Sem.run_bind, hu, Result.andThen_ok, hck]
        rfl
      · rename_i b _
        obtain ⟨w, hw, rfl⟩ := hm
        cases hb : H.bs.get b with
        | none => simp [hb] at h
        | some blk =>
          cases blk with
          | map es clock =>
            simp only [hb] at h
            obtain ⟨es', h1, h2, h3⟩ := map_block (P := P) hr hb hw
            obtain ⟨ka, hka⟩ := keyOk_ty hkey
            have hck := checkKey_sound (P := P) (W := W) hk hkey es'.isEmpty
            cases hfa : findA (tyOf P) kt k es 0 with
            | none => simp [hfa] at h
            | some fr =>
              obtain ⟨fr', g1, g2⟩ := findKey_sound (W := W) hka hk h2 hfa
              cases fr with
              | none =>
                cases fr' with
                | some _ => exact g2.elim
                | none =>
                  simp only [hfa, Option.some.injEq] at h
                  subst h
                  have hsame : W.heap.setIfInBounds w.c (.map es' clock) = W.heap := by
                    apply Array.ext_getElem?
                    intro i
                    rw [Array.getElem?_setIfInBounds]
                    by_cases hi : w.c = i
                    · subst hi; rw [if_pos rfl, h1]; simp [map_lt h1]
                    · rw [if_neg hi]
                  refine EffR.same hr (v := .tuple #[]) ?_ ⟨_, rfl, rfl⟩
                  unfold Builtin.delete_
                  simp only [h0, List.getElem?_toArray, List.getElem?_cons_zero, List.getElem?_cons_succ]
                  show Sem.run P (do let d ← underlying t; _) W = _
                  simp only [Sem.run_bind, hu, Result.andThen_ok, h3, hck, g1, run_setMap _ h1, hsame]
                  rfl
              | some q =>
                cases fr' with
                | none => exact g2.elim
                | some q' =>
                  obtain ⟨i, v⟩ := q
                  obtain ⟨i', v'⟩ := q'
                  obtain ⟨hqi, hqv⟩ := g2
                  simp only at hqi hqv
                  subst hqi
                  simp only [hfa, Option.some.injEq] at h
                  subst h
                  refine EffR.mapped hr hb hw (ER_del' i h2) (v := .tuple #[]) ⟨_, rfl, rfl⟩ ?_
                  unfold Builtin.delete_
                  simp only [h0, List.getElem?_toArray, List.getElem?_cons_zero, List.getElem?_cons_succ]
                  show Sem.run P (do let d ← underlying t; _) W = _
                  simp only [Sem.run_bind, hu, Result.andThen_ok, h3, hck, g1, run_setMap _ h1]
                  rfl
          | _ => simp [hb] at h
      · cases h
    · cases h

/-! ### Walks over maps -/
theorem memN_eq (n : Nat) : ∀ l : List Nat, memN n l = l.contains n
  | [] => rfl
  | m :: l => by
    rw [memN, memN_eq n l, List.contains_cons]
    congr 1
    by_cases h : m = n
    · subst h; simp
    · have : Nat.beq m n = false := by
        cases hb : Nat.beq m n with
        | false => rfl
        | true => exact absurd (Nat.eq_of_beq_eq_true hb) h
      rw [this]
      exact (beq_eq_false_iff_ne.2 fun e => h e.symm).symm

theorem ER_filter (q : Nat → Bool) : ∀ {es : List (AVal × AVal × Nat)} {es' : List MapEntry}, ER ρ es es' → ER ρ (es.filter fun e => q e.2.2) (es'.filter fun e => q e.born)
  | [], _, h => by cases h; rfl
  | a :: es, _, ⟨e, es', rfl, h3, h4, h5, h6⟩ => by
    rw [List.filter_cons, List.filter_cons, h5]
    cases q a.2.2 with
    | true => exact ⟨e, _, rfl, h3, h4, h5, ER_filter q h6⟩
    | false => exact ER_filter q h6

theorem ER_all (q : Nat → Bool) : ∀ {es : List (AVal × AVal × Nat)} {es' : List MapEntry}, ER ρ es es' → (es'.all fun e => q e.born) = es.all fun e => q e.2.2
  | [], _, h => by cases h; rfl
  | a :: es, _, ⟨e, es', rfl, h3, h4, h5, h6⟩ => by rw [List.all_cons, List.all_cons, h5, ER_all q h6]

def over : Value := .tuple #[.bool false]

theorem run_choose_one (W : World) : (choose (.mapNext 1)).run P W = .ok 0 W := by
  simp [choose, Sem.run, Question.forced]

/-- The walk's own condition, as the engine asks it. -/
def goneAll (seen : List Nat) (es : List (AVal × AVal × Nat)) (last : Nat) : Bool := !(seen.isEmpty) && (!(es.isEmpty) && es.all (fun e => Nat.ble last e.2.2))

theorem run_next_of {c m since last clock : Nat} {seen : Array Nat} {es : Array MapEntry} (hc : W.heap[c]? = some (.mapIter (some m) since seen last)) (hm : W.heap[m]? = some (.map es clock))
    (hg : (!seen.isEmpty && !es.isEmpty && es.all (·.born ≥ last)) = false) (t : TypeId) :
    (∀ (_ : es.filter (fun e => !seen.contains e.born) = #[]), (Instr.next (.pointer (some ⟨c, 0, none⟩)) false t).run P W = .ok over W) ∧
    (∀ e (_ : es.filter (fun e => !seen.contains e.born) = #[e]), e.born < since → (Instr.next (.pointer (some ⟨c, 0, none⟩)) false t).run P W = .ok (.tuple #[.bool true, e.key, e.val])
        { W with heap := W.heap.setIfInBounds c (.mapIter (some m) since (seen.push e.born) clock) }) := by
  have g1 : (getObj c).run P W = .ok (.mapIter (some m) since seen last) W := by simp [getObj, Sem.run, hc]
  have g2 : (getObj m).run P W = .ok (.map es clock) W := by simp [getObj, Sem.run, hm]
  constructor
  · intro hf
    unfold Instr.next
    show Sem.run P (do let d ← getObj c; _) W = _
    simp only [Sem.run_bind, g1, g2, Result.andThen_ok, hg, Bool.false_eq_true, if_false, hf]
    have : (choose (.mapNext 1)).run P W = .ok 0 W := run_choose_one W
    simp [this, over]
  · intro e hf he
    unfold Instr.next
    show Sem.run P (do let d ← getObj c; _) W = _
    simp only [Sem.run_bind, g1, g2, Result.andThen_ok, hg, Bool.false_eq_true, if_false, hf]
    have : (choose (.mapNext 1)).run P W = .ok 0 W := run_choose_one W
    have hno : ¬ since ≤ e.born := by omega
    have hs : (setObj c (.mapIter (some m) since (seen.push e.born) clock)).run P W = .ok () { W with heap := W.heap.setIfInBounds c (.mapIter (some m) since (seen.push e.born) clock) } := by
      simp [setObj, Sem.run, hc]
    simp [he, hno, this, hs]

theorem nextA_sound (hr : HR ρ H W.heap) (t : TypeId) {it : AVal} {vi : Value} (hi : VR ρ it vi) {r : AVal} {H' : AHeap} (h : nextA H it = some (r, H')) :
    EffR P ρ H W r H' (Instr.next vi false t) := by
  unfold nextA at h
  split at h
  · rename_i b
    obtain ⟨w, hw, hlo, rfl⟩ := hi
    have hlo0 : w.lo = 0 := Nat.le_zero.1 hlo
    cases hb : H.bs.get b with
    | none => simp [hb] at h
    | some blk =>
      cases blk with
      | iter mo since seen last =>
        obtain ⟨m', h1, h2, h0⟩ := hr.blk b _ w hb hw
        have hat : w.at 0 = ⟨w.c, 0, none⟩ := by simp [Win.at, h0]
        rw [hat]
        cases mo with
        | none =>
          simp only [hb, Option.some.injEq, Prod.mk.injEq] at h
          obtain ⟨rfl, rfl⟩ := h
          subst h2
          have g1 : (getObj w.c).run P W = .ok (.mapIter none since seen.toArray last) W := by simp [getObj, Sem.run, h1]
          refine EffR.same hr (v := over) ?_ ⟨_, rfl, _, _, rfl, rfl, rfl⟩
          unfold Instr.next
          show Sem.run P (do let d ← getObj w.c; _) W = _
          simp only [Sem.run_bind, g1, Result.andThen_ok]
          rfl
        | some m =>
          obtain ⟨wr, h3, rfl⟩ := h2
          simp only [hb] at h
          cases hm : H.bs.get m with
          | none => simp [hm] at h
          | some mb =>
            cases mb with
            | map es clock =>
              simp only [hm] at h
              obtain ⟨es', g1, g2, g3⟩ := map_block (P := P) hr hm h3
              cases hgo : goneAll seen es last with
              | true => unfold goneAll at hgo; rw [hgo] at h; simp at h
              | false =>
                have hgo' := hgo
                unfold goneAll at hgo
                rw [hgo] at h
                simp only [cond_false] at h
                have hg : (!seen.toArray.isEmpty && !es'.isEmpty && es'.all (·.born ≥ last)) = false := by
                  have e1 : seen.toArray.isEmpty = seen.isEmpty := by cases seen <;> rfl
                  have e2 : es'.isEmpty = es.isEmpty := by
                    have := ER_length g2
                    obtain ⟨l⟩ := es'
                    cases l <;> cases es <;> simp at this ⊢
                  have e3 : (es'.all (·.born ≥ last)) = es.all (fun e => Nat.ble last e.2.2) := by
                    have := ER_all (fun n => Nat.ble last n) g2
                    rw [← this, ← Array.all_toList]
                    congr 1
                    funext e
                    show decide (last ≤ e.born) = Nat.ble last e.born
                    cases hbl : Nat.ble last e.born with
                    | true => exact decide_eq_true (Nat.le_of_ble_eq_true hbl)
                    | false => exact decide_eq_false fun hle => by rw [Nat.ble_eq_true_of_le hle] at hbl; cases hbl
                  rw [e1, e2, e3, Bool.and_assoc]
                  exact hgo
                obtain ⟨n1, n2⟩ := run_next_of (P := P) h1 g1 hg t
                have hfl := ER_filter (fun n => !memN n seen) g2
                have hfe : (es'.filter fun e => !seen.toArray.contains e.born).toList = es'.toList.filter fun e => !memN e.born seen := by
                  rw [Array.toList_filter]
                  congr 1
                  funext e
                  rw [memN_eq, List.contains_toArray]
                split at h
                · rename_i hf
                  simp only [Option.some.injEq, Prod.mk.injEq] at h
                  obtain ⟨rfl, rfl⟩ := h
                  have hz : es.filter (fun e => !memN e.2.2 seen) = [] := hf
                  rw [hz] at hfl
                  have : es'.filter (fun e => !seen.toArray.contains e.born) = #[] := by
                    apply Array.toList_inj.1
                    rw [hfe]
                    exact hfl
                  exact EffR.same hr (n1 this) ⟨_, rfl, _, _, rfl, rfl, rfl⟩
                · rename_i e hf
                  obtain ⟨hlt, h⟩ := shutTrue h
                  simp only [Option.some.injEq, Prod.mk.injEq] at h
                  obtain ⟨rfl, rfl⟩ := h
                  have hz : es.filter (fun e => !memN e.2.2 seen) = [e] := hf
                  rw [hz] at hfl
                  obtain ⟨e', tl, q1, q2, q3, q4, rfl⟩ := hfl
                  have : es'.filter (fun e => !seen.toArray.contains e.born) = #[e'] := by
                    apply Array.toList_inj.1
                    rw [hfe, q1]
                  have hlt' : e'.born < since := by rw [q4]; exact Nat.le_of_ble_eq_true hlt
                  refine ⟨_, _, ρ, n2 e' this hlt', ⟨_, rfl, _, _, rfl, rfl, _, _, rfl, q2, _, _, rfl, q3, rfl⟩, ?_, Ext.refl _ _ _, Kept.set hw _, ⟨rfl, rfl, rfl⟩, Nat.le_refl _⟩
                  refine hr.setObj hb (fun _ _ _ _ h => by cases h) (fun _ _ _ _ h => by cases h) hw ⟨some wr.c, ?_, ⟨wr, h3, rfl⟩, h0⟩
                  rw [Array.getElem?_setIfInBounds, if_pos rfl, if_pos (hr.lt b w hw), q4]
                  simp
                · cases h
            | _ => simp [hm] at h
      | _ => simp [hb] at h
  · cases h

/-! ### Copies -/
theorem copySrc_sound (hr : HR ρ H W.heap) {size dl n : Nat} {x : AVal} {vx : Value} (hx : VR ρ x vx) {new : List AVal} (h : copySrc H size dl x = some (new, n)) :
    ∃ len arr, (Builtin.lenOf vx).run P W = .ok len W ∧ Nat.min len dl = n ∧ (Builtin.firstCells size n vx).run P W = .ok arr W ∧ VRs ρ new arr.toList ∧ (n = 0 → new = []) := by
  unfold copySrc at h
  split at h
  · simp only [Option.some.injEq, Prod.mk.injEq] at h
    obtain ⟨rfl, rfl⟩ := h
    obtain ⟨_, _, rfl⟩ := hx
    exact ⟨0, #[], rfl, Nat.zero_min _, rfl, rfl, fun _ => rfl⟩
  · rename_i b o sl cap es
    obtain ⟨ad, k, rfl, hlk, hcap, hor⟩ := hx
    cases h0 : Nat.beq (Nat.min sl dl) 0 with
    | true =>
      rw [h0] at h
      simp only [cond_true, Option.some.injEq, Prod.mk.injEq] at h
      obtain ⟨rfl, rfl⟩ := h
      exact ⟨sl, #[], rfl, Nat.eq_of_beq_eq_true h0, by simp [Builtin.firstCells, loadCells, loadCellsFrom], rfl, fun _ => rfl⟩
    | false =>
      rw [h0] at h
      simp only [cond_false] at h
      cases hrd : H.read b o (Nat.min sl dl * size) with
      | none => simp [hrd] at h
      | some l =>
        simp only [hrd, Option.some.injEq, Prod.mk.injEq] at h
        obtain ⟨rfl, rfl⟩ := h
        have hm : Nat.min sl dl ≠ 0 := fun e => by rw [e] at h0; simp at h0
        rcases hor with hk0 | ⟨w, hw, hlo, rfl, hfit⟩
        · have : Nat.min sl dl ≤ sl := Nat.min_le_left _ _
          omega
        · obtain ⟨arr, h1, h2⟩ := read_sound (P := P) (W := W) hr hrd hw hlo
          exact ⟨sl, arr, rfl, rfl, h1, h2, fun e => absurd e hm⟩
  · rename_i s
    simp only [Option.some.injEq, Prod.mk.injEq] at h
    obtain ⟨rfl, rfl⟩ := h
    obtain ⟨xs, rfl, hxs⟩ := hx
    have hl : s.length = xs.size := by rw [← hxs]; exact bytesN_length xs
    refine ⟨xs.size, (xs.extract 0 (Nat.min s.length dl)).data.map fun b => .int .u8 b.toNat, rfl, by rw [hl], rfl, ?_, fun e => by rw [e]; rfl⟩
    have e1 : (xs.extract 0 (Nat.min s.length dl)).data.toList = xs.data.toList.take (Nat.min s.length dl) := by
      rw [ByteArray.data_extract, Array.toList_extract]
      simp [List.extract]
    have e2 : byteCells (s.take (Nat.min s.length dl)) = byteCells ((xs.data.toList.take (Nat.min s.length dl)).map UInt8.toNat) := by rw [List.map_take, hxs]
    rw [Array.toList_map, e1, e2]
    exact byteCells_VRs (x := xs) _
  · cases h

theorem copyA_sound (hr : HR ρ H W.heap) {argTypes : Array TypeId} {t : Nat} (h0 : argTypes[0]? = some t) (rt : TypeId) {d x : AVal} {vd vx : Value} (hd : VR ρ d vd) (hx : VR ρ x vx) {r : AVal} {H' : AHeap} (h : copyA (tyOf P) H t d x = some (r, H')) :
    EffR P ρ H W r H' (Builtin.copy_ argTypes rt #[vd, vx]) := by
  unfold copyA at h
  cases hta : tyOf P t with
  | none => simp [hta] at h
  | some a =>
    simp only [hta] at h
    split at h
    · rename_i el base dl cap es hsd
      have hu := run_under hta W
      rw [hsd] at hu
      cases hea : tyOf P el with
      | none => simp [hea] at h
      | some ea =>
        simp only [hea] at h
        cases hcs : copySrc H ea.size dl x with
        | none => simp [hcs] at h
        | some q =>
          obtain ⟨l, n⟩ := q
          simp only [hcs] at h
          obtain ⟨len, arr, c1, c2, c3, c4, c5⟩ := copySrc_sound (P := P) hr hx hcs
          have hsz := run_size hea W
          have hstart : ∀ (b' : Option Addr) (k : Nat) (u : Value) (W' : World), (match b' with | some a => storeCells a arr.toList | none => pure ()).run P W = .ok () W' →
              (Builtin.copy_ argTypes rt #[.slice b' dl k, vx]).run P W = .ok (goInt n) W' := by
            intro b' k u W' hst
            unfold Builtin.copy_
            simp only [h0, List.getElem?_toArray, List.getElem?_cons_zero, List.getElem?_cons_succ]
            show Sem.run P (do let d ← underlying t; _) W = _
            cases b' with
            | none =>
              cases hst
              simp only [Sem.run_bind, hu, Result.andThen_ok, c1, hsz, c2, c3]
              rfl
            | some a =>
              simp only at hst
              simp only [Sem.run_bind, hu, Result.andThen_ok, c1, hsz, c2, c3, hst]
              rfl
          cases hn0 : Nat.beq n 0 with
          | true =>
            rw [hn0] at h
            simp only [cond_true, Option.some.injEq, Prod.mk.injEq] at h
            obtain ⟨rfl, rfl⟩ := h
            have hn0 := Nat.eq_of_beq_eq_true hn0
            subst hn0
            have harr : arr.toList = [] := by
              have := c5 rfl
              rw [this] at c4
              exact c4
            cases base with
            | none =>
              obtain ⟨rfl, _, rfl⟩ := hd
              exact EffR.same hr (hstart none 0 (.bool true) W rfl) rfl
            | some p =>
              obtain ⟨ad, k, rfl, hlk, hcap, hor⟩ := hd
              refine EffR.same hr (hstart (some ad) k (.bool true) W ?_) rfl
              simp [harr, storeCells]
          | false =>
            rw [hn0] at h
            simp only [cond_false] at h
            cases base with
            | none => simp at h
            | some p =>
              obtain ⟨b, o⟩ := p
              simp only at h
              cases hwr : H.write b o l with
              | none => simp [hwr] at h
              | some H2 =>
                simp only [hwr, Option.some.injEq, Prod.mk.injEq] at h
                obtain ⟨rfl, rfl⟩ := h
                obtain ⟨ad, k, rfl, hlk, hcap, hor⟩ := hd
                have hn : n ≠ 0 := fun e => by subst e; simp at hn0
                rcases hor with hk0 | ⟨w, hw, hlo, rfl, hfit⟩
                · have : n ≤ dl := by rw [← c2]; exact Nat.min_le_right _ _
                  omega
                · obtain ⟨W', w1, w2, w3, w4, w5⟩ := write_sound (P := P) hr hwr hw hlo c4
                  exact ⟨_, W', ρ, hstart _ k (.bool true) W' w1, rfl, w2, Ext.refl _ _ _, w3, w4, by rw [w5]; exact Nat.le_refl _⟩
    · cases h

end
end Go.Eng
/-! All operations with an effect, and what becomes of them. -/
namespace Go.Eng

/-- What the engine asks of a program: no function with a body is called as the counter of goroutines is; maps.clone is what it is. -/
structure Fit (P : Program) : Prop where
  count : ∀ (f : Nat) (fn : Func), P.funcs[f]? = some fn → fn.body ≠ none → (fn.name == "runtime.NumGoroutine") = false
  clone : ∀ (f : Nat) (fn : Func), P.funcs[f]? = some fn → (fn.name == "maps.clone") = true → fn.body = none → Extern.findNext fn = none ∧ Extern.find fn = some Extern.MapsClone.clone

section
variable {P : Program} {ρ : Ren} {H : AHeap} {W : World}

/-- What an operation does in the model, by the engine's answer. -/
def OutR (P : Program) (ρ : Ren) (H : AHeap) (W : World) : ARes → Sem Next → Prop
  | .val v H', s => ∃ nx W' ρ' x, s.run P W = .ok nx W' ∧ (nx = .value x ∨ (nx = .skip ∧ x = Go.undef)) ∧ VR ρ' v x ∧ HR ρ' H' W'.heap ∧ Ext ρ H.next W.heap ρ' ∧ Kept ρ W.heap W'.heap ∧ Rest W W' ∧ H.next ≤ H'.next
  | .enter f args, s => ∃ args', s.run P W = .ok (.enter f args') W ∧ VRs ρ args args'.toList
  | .round l args, s => ∃ w args', ρ l = some w ∧ s.run P W = (Instr.yield w.c args').run P W ∧ VRs ρ args args'.toList
  | .panic v, s => ∃ x, s.run P W = .halt (.panic x) W ∧ VR ρ v x
  | .defer d, s => ∃ d', s.run P W = .ok (.defer d') W ∧ DR ρ d d'
  | .recover, s => s.run P W = .ok .recover W

theorem OutR.value {r : AVal} {H' : AHeap} {s : Sem Value} {t : Sem Next} (ht : ∀ v W', s.run P W = .ok v W' → t.run P W = .ok (.value v) W') (h : EffR P ρ H W r H' s) : OutR P ρ H W (.val r H') t := by
  obtain ⟨v, W', ρ', h1, h2⟩ := h
  exact ⟨.value v, W', ρ', v, ht _ _ h1, .inl rfl, h2⟩

theorem OutR.unit {H' : AHeap} {s : Sem Unit} {t : Sem Next} (ht : ∀ W', s.run P W = .ok () W' → t.run P W = .ok .skip W')
    (h : ∃ W', s.run P W = .ok () W' ∧ HR ρ H' W'.heap ∧ Kept ρ W.heap W'.heap ∧ Rest W W' ∧ H.next ≤ H'.next) : OutR P ρ H W (.val aundef H') t := by
  obtain ⟨W', h1, h2, h3, h4, h5⟩ := h
  exact ⟨.skip, W', ρ, Go.undef, ht _ h1, .inr ⟨rfl, rfl⟩, ⟨_, rfl, rfl⟩, h2, Ext.refl _ _ _, h3, h4, h5⟩

theorem run_u {s : Sem Unit} (W' : World) (h : s.run P W = .ok () W') : (do s; pure Next.skip : Sem Next).run P W = .ok .skip W' := by
  simp only [Sem.run_bind, h, Result.andThen_ok, Sem.run_pure]
theorem run_v {s : Sem Value} (v : Value) (W' : World) (h : s.run P W = .ok v W') : (do pure (Next.value (← s)) : Sem Next).run P W = .ok (.value v) W' := by
  simp only [Sem.run_bind, h, Result.andThen_ok, Sem.run_pure]

/-- A new object that is no row of cells. -/
theorem EffR.pushed (hr : HR ρ H W.heap) {blk : ABlk} (hn : ∀ cs n d g, blk ≠ .cells cs n d g) {o : Obj} {S : Sem Value} {r : AVal} {v : Value} (hrun : S.run P W = .ok v { W with heap := W.heap.push o })
    (hb : ∀ ρ', ρ.le ρ' → BR ρ' ⟨W.heap.size, 0, 0, 0⟩ (W.heap.push o) blk) (hv : ∀ ρ', ρ.le ρ' → ρ' H.next = some ⟨W.heap.size, 0, 0, 0⟩ → VR ρ' r v) : EffR P ρ H W r (H.push blk) S := by
  have hfr := hr.fresh H.next (Nat.le_refl _)
  have hE : Ext ρ H.next W.heap (fun x => if x = H.next then some ⟨W.heap.size, 0, 0, 0⟩ else ρ x) := Ext.place hfr.2.1 (Nat.le_refl _) rfl
  exact ⟨v, _, _, hrun, hv _ hE.le (if_pos rfl), hr.push (fun cs n d g e => absurd e (hn cs n d g)) rfl (hb _ hE.le), hE, Kept.push _ _ _, ⟨rfl, rfl, rfl⟩, Nat.le_succ _⟩

theorem rangeA_sound (hr : HR ρ H W.heap) {t : Nat} {x : AVal} {vx : Value} (hx : VR ρ x vx) {blk : ABlk} (h : rangeA (tyOf P) H t x = some blk) :
    EffR P ρ H W (.ptr (some (H.next, 0))) (H.push blk) (Instr.range t vx) := by
  unfold rangeA at h
  split at h
  · rename_i a m hta
    split at h
    · rename_i kt et hd
      have hu := run_under hta W
      rw [hd] at hu
      split at h
      · simp only [Option.some.injEq] at h
        subst h
        cases hx
        refine EffR.pushed hr (fun _ _ _ _ h => by cases h) (o := .mapIter none 0 #[] 0) (v := .pointer (some ⟨W.heap.size, 0, none⟩)) ?_ (fun ρ' _ => ⟨none, by simp, rfl, rfl⟩) (fun ρ' _ h => ⟨_, h, Nat.le_refl _, rfl⟩)
        unfold Instr.range
        show Sem.run P (do let d ← underlying t; _) W = _
        simp only [Sem.run_bind, hu, Result.andThen_ok]
        rfl
      · rename_i r
        obtain ⟨w, hw, rfl⟩ := hx
        cases hb : H.bs.get r with
        | none => simp [hb] at h
        | some b =>
          cases b with
          | map es clock =>
            simp only [hb, Option.some.injEq] at h
            subst h
            obtain ⟨es', h1, h2, h3⟩ := map_block (P := P) hr hb hw
            refine EffR.pushed hr (fun _ _ _ _ h => by cases h) (o := .mapIter (some w.c) clock #[] clock) (v := .pointer (some ⟨W.heap.size, 0, none⟩)) ?_ (fun ρ' hle => ⟨some w.c, by simp, ⟨w, hle _ _ hw, rfl⟩, rfl⟩) (fun ρ' _ h => ⟨_, h, Nat.le_refl _, rfl⟩)
            unfold Instr.range
            show Sem.run P (do let d ← underlying t; _) W = _
            simp only [Sem.run_bind, hu, Result.andThen_ok, h3]
            rfl
          | _ => simp [hb] at h
    · cases h
  · cases h

theorem run_callFunc {g : Nat} {fn : Func} (fit : Fit P) (hf : P.funcs[g]? = some fn) (hb : fn.body ≠ none) (args : Array Value) : (callFunc g args).run P W = .ok (.enter g args) W := by
  have hn := fit.count g fn hf hb
  have hb' : fn.body.isNone = false := by cases h : fn.body <;> simp_all
  unfold callFunc
  simp only [Sem.run_bind, run_program, Result.andThen_ok, hf, hn, hb', Bool.false_eq_true, if_false]
  rfl

theorem callA_sound (fit : Fit P) (hr : HR ρ H W.heap) {f : AVal} {vf : Value} (hf : VR ρ f vf) {args : List AVal} {args' : Array Value} (ha : VRs ρ args args'.toList) {r : ARes} (h : callA (envOf P) H f args = some r) :
    OutR P ρ H W r (do let d ← Deferred.ofValue vf args'; invoke d.target d.args) := by
  unfold callA at h
  split at h
  · rename_i g first captured
    obtain ⟨_, fs', cs', rfl, h1, h2⟩ := hf
    cases hfn : (envOf P).fn g with
    | none => simp [hfn] at h
    | some fn =>
      simp only [hfn] at h
      have hfn : P.funcs[g]? = some fn := hfn
      cases hb : fn.body with
      | some b =>
        simp only [hb, Option.some.injEq] at h
        subst h
        refine ⟨fs' ++ args' ++ cs', ?_, ?_⟩
        · simp only [Deferred.ofValue, Sem.run_bind, Sem.run_pure, Result.andThen_ok, invoke]
          exact run_callFunc fit hfn (by rw [hb]; exact fun h => by cases h) _
        · rw [Array.toList_append, Array.toList_append]
          exact (h1.append ha).append h2
      | none =>
        simp only [hb] at h
        cases hnm : fn.name == "maps.clone" with
        | false => simp [hnm] at h
        | true =>
          simp only [hnm, cond_true] at h
          split at h
          · rename_i t m
            obtain ⟨v0, vt, he, ⟨y, rfl, w, hw, rfl⟩, rfl⟩ := ha
            have harg : args' = #[.iface t (.map (some w.c))] := Array.toList_inj.1 he
            subst harg
            cases hm : H.bs.get m with
            | none => simp [hm] at h
            | some b =>
              cases b with
              | map es clock =>
                simp only [hm, Option.some.injEq] at h
                subst h
                obtain ⟨es', g1, g2, g3⟩ := map_block (P := P) hr hm hw
                obtain ⟨hx1, hx2⟩ := fit.clone g fn hfn hnm hb
                have hnm' : fn.name = "maps.clone" := by simpa using hnm
                have hcnt : (fn.name == "runtime.NumGoroutine") = false := by rw [hnm']; decide
                have h1' : VRs ρ [] fs'.toList := h1
                have h2' : VRs ρ [] cs'.toList := h2
                have e1 : fs' = #[] := Array.toList_inj.1 h1'
                have e2 : cs' = #[] := Array.toList_inj.1 h2'
                subst e1 e2
                refine OutR.value (s := Extern.MapsClone.clone #[.iface t (.map (some w.c))]) (fun v W' hv => ?_) ?_
                · simp only [Deferred.ofValue, Sem.run_bind, Sem.run_pure, Result.andThen_ok, invoke]
                  unfold callFunc
                  have hbn : fn.body.isNone = true := by rw [hb]; rfl
                  have hmk : (mark (.extern g)).run P W = .ok () W := rfl
                  simp only [Sem.run_bind, run_program, Result.andThen_ok, hfn, hcnt, hbn, Bool.false_eq_true, if_false, if_true, hmk, hx1, hx2]
                  simp only [Array.append_empty, Array.empty_append, hv, Result.andThen_ok, Sem.run_pure]
                · refine EffR.pushed hr (fun _ _ _ _ h => by cases h) (o := .map es' clock) (v := .iface t (.map (some W.heap.size))) ?_ (fun ρ' hle => ⟨es', by simp, g2.mono hle⟩) (fun ρ' _ h => ⟨_, rfl, _, h, rfl⟩)
                  unfold Extern.MapsClone.clone
                  show Sem.run P (do let d ← getObj w.c; _) W = _
                  simp only [Sem.run_bind, g3, Result.andThen_ok]
                  rfl
              | _ => simp [hm] at h
          · cases h
  · rename_i l
    simp only [Option.some.injEq] at h
    subst h
    obtain ⟨_, _, w, hw, rfl⟩ := hf
    refine ⟨w, args', hw, ?_, ha⟩
    simp only [Deferred.ofValue, Sem.run_bind, Sem.run_pure, Result.andThen_ok, invoke]
    simp
  · cases h

theorem args_of {l : Array Operand} {e : Operand → Value} {a b : Operand} (h : l.toList = [a, b]) : l.map e = #[e a, e b] := by
  apply Array.toList_inj.1
  rw [Array.toList_map, h]
  rfl

theorem eop_sound (fit : Fit P) (hr : HR ρ H W.heap) {ev : Operand → AVal} {e : Operand → Value} {o : Oper} (hev : EvR ρ ev e o.op.operands.toList) {r : ARes} (h : eop (envOf P) H ev o.op = some r) :
    OutR P ρ H W r (execOp e o) := by
  obtain ⟨dst, op, type, pos, after, guard⟩ := o
  simp only at h hev
  have hv : ∀ x, x ∈ op.operands.toList → VR ρ (ev x) (e x) := hev
  cases op with
  | store t a x =>
    simp only [eop] at h
    cases hs : storeA (envOf P).ty H t (ev a) (ev x) with
    | none => simp [hs] at h
    | some H' =>
      simp only [hs, Option.some.injEq] at h
      subst h
      exact OutR.unit (fun W' h => run_u W' h) (storeA_sound hr (hv a (by simp [Op.operands])) (hv x (by simp [Op.operands])) hs)
  | mapUpdate t m k x =>
    simp only [eop] at h
    cases hs : mapPut (envOf P).ty H t (ev m) (ev k) (ev x) with
    | none => simp [hs] at h
    | some H' =>
      simp only [hs, Option.some.injEq] at h
      subst h
      exact OutR.unit (fun W' h => run_u W' h) (mapPut_sound hr (hv m (by simp [Op.operands])) (hv k (by simp [Op.operands])) (hv x (by simp [Op.operands])) hs)
  | insert t m k x =>
    simp only [eop] at h
    cases hs : mapPut (envOf P).ty H t (ev m) (ev k) (ev x) with
    | none => simp [hs] at h
    | some H' =>
      simp only [hs, Option.some.injEq] at h
      subst h
      exact OutR.unit (fun W' h => run_u W' h) (mapPut_sound hr (hv m (by simp [Op.operands])) (hv k (by simp [Op.operands])) (hv x (by simp [Op.operands])) hs)
  | mapEntry t m k =>
    simp only [eop] at h
    cases hs : mapEntryA (envOf P).ty H t (ev m) (ev k) with
    | none => simp [hs] at h
    | some q =>
      obtain ⟨r', H'⟩ := q
      simp only [hs, Option.some.injEq] at h
      subst h
      exact OutR.value (fun v W' h => run_v v W' h) (mapEntryA_sound hr (hv m (by simp [Op.operands])) (hv k (by simp [Op.operands])) hs)
  | entryStore t m s x =>
    simp only [eop] at h
    cases hs : entryStoreA H (ev m) (ev s) (ev x) with
    | none => simp [hs] at h
    | some H' =>
      simp only [hs, Option.some.injEq] at h
      subst h
      exact OutR.unit (fun W' h => run_u W' h) (entryStoreA_sound hr t (hv m (by simp [Op.operands])) (hv s (by simp [Op.operands])) (hv x (by simp [Op.operands])) hs)
  | next it b =>
    cases b with
    | true => simp [eop] at h
    | false =>
      simp only [eop] at h
      cases hs : nextA H (ev it) with
      | none => simp [hs] at h
      | some q =>
        obtain ⟨r', H'⟩ := q
        simp only [hs, Option.some.injEq] at h
        subst h
        exact OutR.value (fun v W' h => run_v v W' h) (nextA_sound hr type (hv it (by simp [Op.operands])) hs)
  | range t x =>
    simp only [eop] at h
    cases hs : rangeA (envOf P).ty H t (ev x) with
    | none => simp [hs] at h
    | some blk =>
      simp only [hs, Option.some.injEq] at h
      subst h
      exact OutR.value (fun v W' h => run_v v W' h) (rangeA_sound hr (hv x (by simp [Op.operands])) hs)
  | panic x =>
    have hx := hv x (by simp [Op.operands])
    simp only [eop] at h
    cases hxx : ev x with
    | iface t y =>
      rw [hxx] at h hx
      simp only [Option.some.injEq] at h
      subst h
      obtain ⟨z, hz, hz2⟩ := hx
      refine ⟨.iface t z, ?_, ⟨z, rfl, hz2⟩⟩
      simp only [execOp, hz, Instr.panic]
      rfl
    | _ => rw [hxx] at h; cases h
  | defer c =>
    obtain ⟨callee, args, at_⟩ := c
    cases callee with
    | value f =>
      simp only [eop] at h
      have hf := hv f (by simp [Op.operands, Call.operands])
      have ha : EvR ρ ev e args.toList := fun x hx => hv x (by simp [Op.operands, Call.operands]; exact .inr (by simpa using hx))
      split at h
      · rename_i g first captured hff
        simp only [Option.some.injEq] at h
        subst h
        rw [hff] at hf
        obtain ⟨_, fs', cs', he, h1, h2⟩ := hf
        refine ⟨{ target := .fn (.func g) cs', args := fs' ++ args.map e }, ?_, ⟨g, rfl, cs', fs' ++ args.map e, rfl, h2, ?_⟩⟩
        · simp only [execOp, resolve, he, Deferred.ofValue]
          rfl
        · rw [Array.toList_append, Array.toList_map]
          exact h1.append (mapO_VRs ha)
      · cases h
    | _ => simp [eop] at h
  | call c =>
    obtain ⟨callee, args, at_⟩ := c
    cases callee with
    | value f =>
      simp only [eop] at h
      have hf := hv f (by simp [Op.operands, Call.operands])
      have ha : EvR ρ ev e args.toList := fun x hx => hv x (by simp [Op.operands, Call.operands]; exact .inr (by simpa using hx))
      have := callA_sound (W := W) fit hr hf (args' := args.map e) (by rw [Array.toList_map]; exact mapO_VRs ha) h
      exact this
    | builtin b =>
      have ha : EvR ρ ev e args.toList := fun x hx => hv x (by simpa [Op.operands, Call.operands] using hx)
      simp only [eop] at h
      split at h
      · rename_i s x hargs
        cases hs : appendA (envOf P).ty H at_.toList (ev s) (ev x) with
        | none => simp [hs] at h
        | some q =>
          obtain ⟨r', H'⟩ := q
          simp only [hs, Option.some.injEq] at h
          subst h
          refine OutR.value (fun v W' h => ?_) (appendA_sound hr type (ha s (by rw [hargs]; simp)) (ha x (by rw [hargs]; simp)) hs)
          simp only [execOp, resolve, args_of hargs, Sem.run_bind, Sem.run_pure, Result.andThen_ok, invoke, builtin, h]
      · rename_i d s hargs
        cases h0 : at_[0]? with
        | none => simp [h0] at h
        | some t =>
          simp only [h0] at h
          cases hs : copyA (envOf P).ty H t (ev d) (ev s) with
          | none => simp [hs] at h
          | some q =>
            obtain ⟨r', H'⟩ := q
            simp only [hs, Option.some.injEq] at h
            subst h
            refine OutR.value (fun v W' h => ?_) (copyA_sound hr h0 type (ha d (by rw [hargs]; simp)) (ha s (by rw [hargs]; simp)) hs)
            simp only [execOp, resolve, args_of hargs, Sem.run_bind, Sem.run_pure, Result.andThen_ok, invoke, builtin, h]
      · rename_i m k hargs
        cases h0 : at_[0]? with
        | none => simp [h0] at h
        | some t =>
          simp only [h0] at h
          cases hs : deleteA (envOf P).ty H t (ev m) (ev k) with
          | none => simp [hs] at h
          | some H' =>
            simp only [hs, Option.some.injEq] at h
            subst h
            refine OutR.value (fun v W' h => ?_) (deleteA_sound hr h0 type (ha m (by rw [hargs]; simp)) (ha k (by rw [hargs]; simp)) hs)
            simp only [execOp, resolve, args_of hargs, Sem.run_bind, Sem.run_pure, Result.andThen_ok, invoke, builtin, h]
      · simp only [Option.some.injEq] at h
        subst h
        rfl
      · cases h
    | _ => simp [eop] at h
  | _ => simp [eop] at h

end
end Go.Eng
/-! Regions that draw their order: every drawn order keeps the edges. -/
namespace Go.Eng

/-- What is left of a drawn order. -/
structure Left (M : T Nat) (n : Nat) (order : List Nat) : Prop where
  nodup : order.Nodup
  lt : ∀ j ∈ order, j < n
  lin : order.Pairwise fun a b => aheadOf M b a = false
  closed : ∀ a b, a ∈ order → aheadOf M a b = true → b < n → b ∈ order

theorem Left.tail {M : T Nat} {n j : Nat} {order : List Nat} (h : Left M n (j :: order)) : Left M n order where
  nodup := (List.nodup_cons.1 h.nodup).2
  lt := fun i hi => h.lt i (by simp [hi])
  lin := (List.pairwise_cons.1 h.lin).2
  closed := fun a b ha hab hb => by
    rcases List.mem_cons.1 (h.closed a b (by simp [ha]) hab hb) with e | e
    · subst e
      have := (List.pairwise_cons.1 h.lin).1 a ha
      rw [hab] at this; cases this
    · exact e

/-! ### The masks -/
theorem edgeMask_bit {M : T Nat} {b : Nat} : ∀ {l : List Edge}, Nat.testBit (edgeMask M l) b = true → ∃ e ∈ l, Region.binds .any e = true ∧ (b = e.on ∨ ∃ m, M.get e.on = some m ∧ Nat.testBit m b = true)
  | [], h => by simp [edgeMask] at h
  | e :: l, h => by
    unfold edgeMask at h
    cases hb : Region.binds .any e with
    | false =>
      rw [hb] at h
      obtain ⟨e', h1, h2⟩ := edgeMask_bit (l := l) h
      exact ⟨e', by simp [h1], h2⟩
    | true =>
      rw [hb] at h
      simp only [cond_true] at h
      have h' : Nat.testBit (((1 <<< e.on) ||| (match M.get e.on with | some m => m | none => 0)) ||| edgeMask M l) b = true := h
      rw [Nat.testBit_or, Nat.testBit_or, Bool.or_eq_true, Bool.or_eq_true] at h'
      rcases h' with (h1 | h1) | h1
      · refine ⟨e, by simp, hb, .inl ?_⟩
        rw [Nat.testBit_shiftLeft] at h1
        simp only [Bool.and_eq_true, decide_eq_true_eq] at h1
        have h2 := h1.2
        rw [Nat.testBit_one_eq_true_iff_self_eq_zero] at h2
        omega
      · refine ⟨e, by simp, hb, .inr ?_⟩
        cases hm : M.get e.on with
        | none => rw [hm] at h1; simp at h1
        | some m => rw [hm] at h1; exact ⟨m, rfl, h1⟩
      · obtain ⟨e', h2, h3⟩ := edgeMask_bit (l := l) h1
        exact ⟨e', by simp [h2], h3⟩

theorem masksF_spec : ∀ (l : List Oper) (i : Nat) (M : T Nat), (∀ k, i ≤ k → M.get k = none) →
    (∀ k, k < i → (masksF l i M).get k = M.get k) ∧
    ∀ k m, i ≤ k → (masksF l i M).get k = some m → ∃ o M', l[k - i]? = some o ∧ m = edgeMask M' o.after.toList ∧ ∀ q x, M'.get q = some x → (masksF l i M).get q = some x ∧ q < k
  | [], i, M, hM => ⟨fun _ _ => rfl, fun k m hk h => by rw [show masksF [] i M = M from rfl, hM k hk] at h; cases h⟩
  | o :: l, i, M, hM => by
    have hM' : ∀ k, i + 1 ≤ k → (M.set i (edgeMask M o.after.toList)).get k = none := fun k hk => by rw [T.get_set, if_neg (by omega)]; exact hM k (by omega)
    obtain ⟨h1, h2⟩ := masksF_spec l (i + 1) (M.set i (edgeMask M o.after.toList)) hM'
    have hun : masksF (o :: l) i M = masksF l (i + 1) (M.set i (edgeMask M o.after.toList)) := rfl
    rw [hun]
    refine ⟨fun k hk => by rw [h1 k (by omega), T.get_set, if_neg (by omega)], fun k m hk hg => ?_⟩
    by_cases e : k = i
    · subst e
      rw [h1 k (by omega), T.get_set, if_pos rfl] at hg
      refine ⟨o, M, by simp, (Option.some.inj hg).symm, fun q x hq => ?_⟩
      have hqk : q < k := by
        rcases Nat.lt_or_ge q k with h | h
        · exact h
        · rw [hM q h] at hq; cases hq
      exact ⟨by rw [h1 q (by omega), T.get_set, if_neg (by omega)]; exact hq, hqk⟩
    · obtain ⟨o', M', h3, h4⟩ := h2 k m (by omega) hg
      refine ⟨o', M', ?_, h4⟩
      have : k - i = (k - (i + 1)) + 1 := by omega
      rw [this]; simpa using h3

/-- What is ahead of an operation is so by a chain of edges. -/
theorem ahead_edge {ops : List Oper} {b a : Nat} (h : aheadOf (masks ops) b a = true) :
    ∃ o e, ops[a]? = some o ∧ e ∈ o.after.toList ∧ Region.binds .any e = true ∧ (b = e.on ∨ (e.on < a ∧ aheadOf (masks ops) b e.on = true)) := by
  unfold aheadOf at h
  cases hm : (masks ops).get a with
  | none => rw [hm] at h; cases h
  | some m =>
    rw [hm] at h
    obtain ⟨o, M', h1, h2, h3⟩ := (masksF_spec ops 0 .nil (fun k _ => rfl)).2 a m (Nat.zero_le _) hm
    subst h2
    obtain ⟨e, h4, h5, h6⟩ := edgeMask_bit h
    refine ⟨o, e, by simpa using h1, h4, h5, ?_⟩
    rcases h6 with h6 | ⟨m', h7, h8⟩
    · exact .inl h6
    · obtain ⟨h9, h10⟩ := h3 _ _ h7
      refine .inr ⟨h10, ?_⟩
      unfold aheadOf
      have : (masks ops).get e.on = some m' := h9
      rw [this]; exact h8

/-! ### Drawn orders -/
theorem go_acc (ops : Array Oper) (fuel t : Nat) (listed : Array Bool) (acc : List Nat) : Region.linearise.go .any ops fuel t listed acc = acc.reverse ++ Region.linearise.go .any ops fuel t listed [] := linearise_go_acc .any ops fuel t listed acc

/-- A list in which every operation stands behind those that its edges name (or those are listed before). -/
def Direct (ops : Array Oper) (listed : Array Bool) (L : List Nat) : Prop :=
  ∀ pre j post, L = pre ++ j :: post → ∀ o, ops[j]? = some o → ∀ e ∈ o.after.toList, Region.binds .any e = true → e.on ∈ pre ∨ listed.getD e.on false = true

theorem unlisted_lt {n : Nat} {listed : Array Bool} {i : Nat} (hn : listed.size = n) (hi : i < n) (hl : listed.getD i true = false) :
    ((List.range n).filter fun x => !(listed.setIfInBounds i true).getD x true).length < ((List.range n).filter fun x => !listed.getD x true).length := by
  have : ((List.range n).filter fun x => !(listed.setIfInBounds i true).getD x true) = (((List.range n).filter fun x => !listed.getD x true).filter fun x => x != i) := by
    rw [List.filter_filter]
    apply List.filter_congr
    intro x hx
    simp only [Array.getD_eq_getD_getElem?, Array.getElem?_setIfInBounds]
    by_cases e : i = x
    · subst e; simp [hn, hi]
    · rw [if_neg e]
      have : (x != i) = true := by simp; exact fun h => e h.symm
      rw [this, Bool.true_and]
  rw [this]
  refine List.length_filter_lt_length_iff_exists.2 ⟨i, ?_, by simp⟩
  exact List.mem_filter.2 ⟨List.mem_range.2 hi, by rw [hl]; rfl⟩

theorem go_direct {ops : Array Oper} (hedge : ∀ (j : Nat) (o : Oper), ops[j]? = some o → ∀ e ∈ o.after.toList, Region.binds .any e = true → e.on < j) : ∀ (fuel t : Nat) (listed : Array Bool), listed.size = ops.size →
    ((List.range ops.size).filter fun x => !listed.getD x true).length ≤ fuel →
    let L := Region.linearise.go .any ops fuel t listed []
    L.Nodup ∧ (∀ j, j ∈ L ↔ j < ops.size ∧ listed.getD j true = false) ∧ Direct ops listed L := by
  intro fuel
  induction fuel with
  | zero =>
    intro t listed hs hc
    simp only [Region.linearise.go, List.reverse_nil]
    refine ⟨List.nodup_nil, fun j => ⟨fun h => (by cases h), fun ⟨h1, h2⟩ => ?_⟩, fun pre j post h => ?_⟩
    · have := List.eq_nil_of_length_eq_zero (Nat.le_zero.1 hc)
      have hj : j ∈ (List.range ops.size).filter fun x => !listed.getD x true := by simp only [List.mem_filter, List.mem_range]; exact ⟨h1, by rw [h2]; rfl⟩
      rw [this] at hj; cases hj
    · cases pre <;> cases h
  | succ fuel ih =>
    intro t listed hs hc
    have hgo : Region.linearise.go .any ops (fuel + 1) t listed [] = match (Region.ready .any ops listed)[t % (Region.ready .any ops listed).length]? with
      | some i => Region.linearise.go .any ops fuel (t / (Region.ready .any ops listed).length) (listed.setIfInBounds i true) [i]
      | none => [].reverse := rfl
    cases hi : (Region.ready .any ops listed)[t % (Region.ready .any ops listed).length]? with
    | none =>
      have hnil : Region.ready .any ops listed = [] := by
        cases hr : Region.ready .any ops listed with
        | nil => rfl
        | cons x xs =>
          rw [hr] at hi
          have hlt : t % (x :: xs).length < (x :: xs).length := Nat.mod_lt _ (by simp)
          simp at hi
          simp at hlt
          omega
      rw [hgo, hi]
      -- then nothing is unlisted: the least one would be ready
      have hall : ∀ j, j < ops.size → listed.getD j true = true := by
        intro j
        induction j using Nat.strongRecOn with
        | _ j ihj =>
          intro hj
          cases hl : listed.getD j true with
          | true => rfl
          | false =>
            have hmem : j ∈ Region.ready .any ops listed := by
              unfold Region.ready
              simp only [List.mem_filter, List.mem_range, Bool.and_eq_true, Bool.not_eq_true']
              refine ⟨hj, hl, ?_⟩
              obtain ⟨o, ho⟩ : ∃ o, ops[j]? = some o := ⟨ops[j], Array.getElem?_eq_getElem hj⟩
              rw [ho, Option.map_some, Option.getD_some, ← Array.all_toList, List.all_eq_true]
              intro e he
              cases hb : Region.binds .any e with
              | false => rfl
              | true =>
                have hlt := hedge j o ho e he hb
                have := ihj e.on hlt (by omega)
                have hlt2 : e.on < listed.size := by omega
                simp only [Array.getD_eq_getD_getElem?, Array.getElem?_eq_getElem hlt2, Option.getD_some] at this ⊢
                simp [this]
            rw [hnil] at hmem; cases hmem
      refine ⟨List.nodup_nil, fun j => ⟨fun h => (by cases h), fun ⟨h1, h2⟩ => ?_⟩, fun pre j post h => ?_⟩
      · rw [hall j h1] at h2; cases h2
      · simp at h
    | some i =>
      have hmem : i ∈ Region.ready .any ops listed := List.mem_of_getElem? hi
      unfold Region.ready at hmem
      simp only [List.mem_filter, List.mem_range, Bool.and_eq_true, Bool.not_eq_true'] at hmem
      obtain ⟨hin, hil, hie⟩ := hmem
      rw [hgo, hi]
      simp only
      rw [go_acc, List.reverse_singleton, List.singleton_append]
      obtain ⟨h1, h2, h3⟩ := ih (t / (Region.ready .any ops listed).length) (listed.setIfInBounds i true) (by simpa using hs) (by have := unlisted_lt hs hin hil; omega)
      have hset : ∀ j (d : Bool), j < ops.size → (listed.setIfInBounds i true).getD j d = if i = j then true else listed.getD j d := by
        intro j d hj
        simp only [Array.getD_eq_getD_getElem?, Array.getElem?_setIfInBounds]
        by_cases e : i = j
        · subst e; simp [hs, hin]
        · simp [e]
      refine ⟨List.nodup_cons.2 ⟨fun h => ?_, h1⟩, fun j => ?_, fun pre j post h => ?_⟩
      · have := ((h2 i).1 h).2
        rw [hset i true hin, if_pos rfl] at this; cases this
      · rw [List.mem_cons, h2 j]
        constructor
        · rintro (rfl | ⟨h4, h5⟩)
          · exact ⟨hin, hil⟩
          · rw [hset j true h4] at h5
            by_cases e : i = j
            · subst e; exact ⟨h4, hil⟩
            · rw [if_neg e] at h5; exact ⟨h4, h5⟩
        · rintro ⟨h4, h5⟩
          by_cases e : j = i
          · exact .inl e
          · exact .inr ⟨h4, by rw [hset j true h4, if_neg (fun h => e h.symm)]; exact h5⟩
      · intro o ho e he hb
        cases pre with
        | nil =>
          simp only [List.nil_append, List.cons.injEq] at h
          obtain ⟨rfl, _⟩ := h
          right
          rw [ho, Option.map_some, Option.getD_some, ← Array.all_toList, List.all_eq_true] at hie
          have := hie e he
          rw [hb] at this
          simpa using this
        | cons p pre =>
          simp only [List.cons_append, List.cons.injEq] at h
          obtain ⟨rfl, h⟩ := h
          rcases h3 pre j post h o ho e he hb with h4 | h4
          · exact .inl (by simp [h4])
          · by_cases e' : i = e.on
            · exact .inl (by simp [e'])
            · right
              simp only [Array.getD_eq_getD_getElem?, Array.getElem?_setIfInBounds, if_neg e'] at h4 ⊢
              exact h4

theorem left_of_direct {ops : Array Oper} {L : List Nat} (h1 : L.Nodup) (h2 : ∀ j, j ∈ L ↔ j < ops.size) (h3 : ∀ pre j post, L = pre ++ j :: post → ∀ o, ops[j]? = some o → ∀ e ∈ o.after.toList, Region.binds .any e = true → e.on ∈ pre) :
    Left (masks ops.toList) ops.size L := by
  have key : ∀ a pre post, L = pre ++ a :: post → ∀ b ∈ post, aheadOf (masks ops.toList) b a = false := by
    intro a
    induction a using Nat.strongRecOn with
    | _ a ih =>
      intro pre post hL b hb
      cases h : aheadOf (masks ops.toList) b a with
      | false => rfl
      | true =>
        obtain ⟨o, e, h4, h5, h6, h7⟩ := ahead_edge h
        rw [Array.getElem?_toList] at h4
        have hpre := h3 pre a post hL o h4 e h5 h6
        rcases h7 with rfl | ⟨h8, h9⟩
        · rw [hL] at h1
          have := (List.nodup_append.1 h1).2.2 e.on hpre e.on (by simp [hb])
          exact absurd rfl this
        · obtain ⟨p1, p2, rfl⟩ := List.append_of_mem hpre
          have := ih e.on h8 p1 (p2 ++ a :: post) (by rw [hL]; simp) b (by simp [hb])
          rw [this] at h9; cases h9
  constructor
  · exact h1
  · intro j hj; exact (h2 j).1 hj
  · have : ∀ pre L', L = pre ++ L' → L'.Pairwise fun a b => aheadOf (masks ops.toList) b a = false := by
      intro pre L'
      induction L' generalizing pre with
      | nil => intro _; exact List.Pairwise.nil
      | cons a l ih => intro h; exact List.pairwise_cons.2 ⟨fun b hb => key a pre l h b hb, ih (pre ++ [a]) (by simp [h])⟩
    exact this [] L rfl
  · intro a b _ _ hb; exact (h2 b).2 hb

theorem schedule_left {ops : Array Oper} {mixed : Bool} (hm : mixed = true) (hok : ∀ (j : Nat) (o : Oper), ops[j]? = some o → ∀ e ∈ o.after.toList, Region.binds .any e = true → e.on < j) (t : Nat) :
    Left (masks ops.toList) ops.size (Region.schedule mixed ops t) ∧ ∀ j, j < ops.size → j ∈ Region.schedule mixed ops t := by
  have hsch : Region.schedule mixed ops t = Region.linearise.go .any ops ops.size t (Array.replicate ops.size false) [] := by
    unfold Region.schedule
    rw [hm]; rfl
  rw [hsch]
  have hget : ∀ j (d : Bool), j < ops.size → (Array.replicate ops.size false).getD j d = false := fun j d hj => by simp [Array.getD_eq_getD_getElem?, hj]
  obtain ⟨h1, h2, h3⟩ := go_direct hok ops.size t (Array.replicate ops.size false) (by simp) (by
    refine Nat.le_trans (List.length_filter_le _ _) (by simp))
  have h2' : ∀ j, j ∈ Region.linearise.go .any ops ops.size t (Array.replicate ops.size false) [] ↔ j < ops.size := fun j => by
    rw [h2 j]; exact ⟨fun h => h.1, fun h => ⟨h, hget j true h⟩⟩
  refine ⟨left_of_direct h1 h2' fun pre j post h o ho e he hb => ?_, fun j hj => (h2' j).2 hj⟩
  rcases h3 pre j post h o ho e he hb with h4 | h4
  · exact h4
  · simp only [Array.getD_eq_getD_getElem?, Array.getElem?_replicate] at h4
    split at h4 <;> simp at h4

end Go.Eng
/-! What a quiet operation answers stays while blocks are added; one operation's outcome. -/
namespace Go.Eng

/-- Every block of the one heap lies so in the other. -/
def Sub (H H' : AHeap) : Prop := ∀ b x, H.bs.get b = some x → H'.bs.get b = some x

theorem Sub.refl (H : AHeap) : Sub H H := fun _ _ h => h
theorem Sub.push {H : AHeap} (h : H.bs.get H.next = none) (blk : ABlk) : Sub H (H.push blk) := fun b x hb => by
  rw [HR.get_push, if_neg]
  · exact hb
  · intro e; rw [e, h] at hb; cases hb

section
variable {H H' : AHeap} {ty : Tys}

theorem read_mono (hs : Sub H H') {b i k : Nat} {l : List AVal} (h : H.read b i k = some l) : H'.read b i k = some l := by
  unfold AHeap.read at *
  cases hb : H.bs.get b with
  | none => simp [hb] at h
  | some x => rw [hb] at h; rw [hs _ _ hb]; exact h

theorem loadA_mono (hs : Sub H H') {t : Nat} {x r : AVal} (h : loadA ty H t x = some r) : loadA ty H' t x = some r := by
  unfold loadA at *
  split at h
  · rename_i a b i _
    cases hd : isAggD a.desc with
    | true =>
      simp only [hd, cond_true] at h ⊢
      cases hr : H.read b i a.size with
      | none => simp [hr] at h
      | some l => rw [hr] at h; rw [read_mono hs hr]; exact h
    | false =>
      simp only [hd, cond_false] at h ⊢
      cases hb : H.bs.get b with
      | none => simp [hb] at h
      | some x => rw [hb] at h; rw [hs _ _ hb]; exact h
  · cases h

theorem arrSlice_mono (hs : Sub H H') {lo hi mx : Option AVal} {n e b o : Nat} {r : AVal} (h : arrSlice ty H lo hi mx n e b o = some r) : arrSlice ty H' lo hi mx n e b o = some r := by
  unfold arrSlice at *
  cases hb : H.bs.get b with
  | none => simp [hb] at h
  | some x => rw [hb] at h; rw [hs _ _ hb]; exact h

theorem sliceA_mono (hs : Sub H H') {t : Nat} {x r : AVal} {lo hi mx : Option AVal} (h : sliceA ty H t x lo hi mx = some r) : sliceA ty H' t x lo hi mx = some r := by
  unfold sliceA at *
  cases hta : ty t with
  | none => simp [hta] at h
  | some a =>
    simp only [hta] at h ⊢
    cases hd : a.desc with
    | array n e =>
      simp only [hd] at h ⊢
      cases x with
      | ptr p =>
        cases p with
        | none => exact h
        | some p => exact arrSlice_mono hs h
      | _ => exact h
    | pointer p =>
      simp only [hd] at h ⊢
      cases x with
      | ptr q =>
        cases q with
        | none => exact h
        | some q =>
          simp only at h ⊢
          cases hp : ty p with
          | none => simp [hp] at h
          | some pa =>
            simp only [hp] at h ⊢
            cases hpd : pa.desc with
            | array n e => simp only [hpd] at h ⊢; exact arrSlice_mono hs h
            | _ => simp [hpd] at h
      | _ => exact h
    | _ => simp only [hd] at h ⊢; first | exact h | (cases x <;> exact h)

theorem lookupA_mono (hs : Sub H H') {t : Nat} {x ix r : AVal} {ok : Bool} (h : lookupA ty H t x ix ok = some r) : lookupA ty H' t x ix ok = some r := by
  unfold lookupA at *
  cases hta : ty t with
  | none => simp [hta] at h
  | some a =>
    simp only [hta] at h ⊢
    split at h
    · rename_i kt et hd
      cases hk : keyOk ty true kt ix with
      | false => simp [hk] at h
      | true =>
        simp only [hk, cond_true] at h ⊢
        cases x with
        | map m =>
          cases m with
          | none => exact h
          | some q =>
            simp only at h ⊢
            cases hb : H.bs.get q with
            | none => simp [hb] at h
            | some blk => rw [hb] at h; rw [hs _ _ hb]; exact h
        | _ => simp at h
    · cases h

theorem lenA_mono (hs : Sub H H') {t : Nat} {x r : AVal} (h : lenA ty H t x = some r) : lenA ty H' t x = some r := by
  unfold lenA at *
  cases hta : ty t with
  | none => simp [hta] at h
  | some a =>
    simp only [hta] at h ⊢
    cases hd : a.desc with
    | map k e =>
      simp only [hd] at h ⊢
      cases x with
      | map m =>
        cases m with
        | none => exact h
        | some q =>
          simp only at h ⊢
          cases hb : H.bs.get q with
          | none => simp [hb] at h
          | some blk => rw [hb] at h; rw [hs _ _ hb]; exact h
      | _ => exact h
    | _ => simp only [hd] at h ⊢; first | exact h | (cases x <;> exact h)

theorem convA_mono (hs : Sub H H') {s d : Nat} {x r : AVal} (h : convA ty H s d x = some r) : convA ty H' s d x = some r := by
  unfold convA at *
  cases hts : ty s with
  | none => simp [hts] at h
  | some a =>
    cases htd : ty d with
    | none => simp [hts, htd] at h
    | some b =>
      simp only [hts, htd] at h ⊢
      cases had : a.desc with
      | slice e0 =>
        cases hbd : b.desc with
        | slice e =>
          simp only [had, hbd] at h ⊢
          cases x with
          | slice base len cap es =>
            cases base with
            | none => exact h
            | some p =>
              simp only at h ⊢
              cases hb : H.bs.get p.1 with
              | none => cases he : ty e <;> simp [hb, he] at h
              | some blk => rw [hb] at h; rw [hs _ _ hb]; exact h
          | _ => exact h
        | string =>
          simp only [had, hbd] at h ⊢
          cases x with
          | slice base len cap es =>
            simp only at h ⊢
            cases he : ty e0 with
            | none => simp [he] at h
            | some ea =>
              simp only [he] at h ⊢
              cases hed : ea.desc with
              | int k =>
                simp only [hed] at h ⊢
                cases k with
                | u8 =>
                  simp only at h ⊢
                  cases base with
                  | none => exact h
                  | some p =>
                    simp only at h ⊢
                    cases hr : H.read p.1 p.2 len with
                    | none => simp [hr] at h
                    | some l => rw [hr] at h; rw [read_mono hs hr]; exact h
                | _ => exact h
              | _ => simp [hed] at h
          | _ => exact h
        | _ => simp only [had, hbd] at h ⊢; first | exact h | (cases x <;> exact h)
      | _ => simp only [had] at h ⊢; first | exact h | (cases hbd : b.desc <;> simp only [hbd] at h ⊢ <;> first | exact h | (cases x <;> exact h))

theorem qop_mono (hs : Sub H H') {v : Operand → AVal} {o : Op} {r : AVal} (h : qop ty H v o = some r) : qop ty H' v o = some r := by
  cases o with
  | load t a => exact loadA_mono hs h
  | convert s d x => exact convA_mono hs h
  | slice t x lo hi mx => exact sliceA_mono hs h
  | lookup t x i ok => exact lookupA_mono hs h
  | entry it =>
    simp only [qop] at h ⊢
    split at h
    · rename_i q _
      cases hb : H.bs.get q with
      | none => simp [hb] at h
      | some blk =>
        rw [hb] at h
        rw [hs _ _ hb]
        cases blk with
        | iter m since seen stepped =>
          cases m with
          | none => simp at h
          | some m =>
            simp only at h ⊢
            cases hm : H.bs.get m with
            | none => simp [hm] at h
            | some mb => rw [hm] at h; rw [hs _ _ hm]; exact h
        | _ => exact h
    · cases h
  | call c =>
    obtain ⟨callee, args, at_⟩ := c
    cases callee with
    | builtin b =>
      simp only [qop] at h ⊢
      split at h
      · exact lenA_mono hs h
      all_goals exact h
    | _ => exact h
  | _ => exact h
end

end Go.Eng
/-! What the engine's frames say of the model's. -/
namespace Go.Eng

section
variable {P : Program} {ρ : Ren} {H : AHeap} {W : World}

theorem exec1_sound (fit : Fit P) (hr : HR ρ H W.heap) {ev : Operand → AVal} {e : Operand → Value} {o : Oper} (hev : EvR ρ ev e o.op.operands.toList) {r : ARes} (h : exec1 (envOf P) H ev o.op = some r) :
    OutR P ρ H W r (execOp e o) := by
  unfold exec1 at h
  split at h
  · cases hq : qop (envOf P).ty H ev o.op with
    | none => simp [hq] at h
    | some v =>
      simp only [hq, Option.some.injEq] at h
      subst h
      obtain ⟨x, W', h1, h2, h3, h4, h5⟩ := qop_sound hr hev hq
      exact ⟨.value x, W', ρ, x, h1, .inl rfl, h2, h3, Ext.refl _ _ _, h4, h5, Nat.le_refl _⟩
  · cases hq : aop (envOf P).ty H.next ev o.op with
    | none => simp [hq] at h
    | some q =>
      obtain ⟨blk, mk⟩ := q
      simp only [hq, Option.some.injEq] at h
      subst h
      obtain ⟨⟨obj, x, W', n, h1, h2, h3, h4⟩, h5⟩ := aop_sound (ρ := ρ) (W := W) hev hq
      have hfr := hr.fresh H.next (Nat.le_refl _)
      have hE : Ext ρ H.next W.heap (fun x => if x = H.next then some ⟨W.heap.size, 0, 0, n⟩ else ρ x) := Ext.place hfr.2.1 (Nat.le_refl _) rfl
      obtain ⟨h6, h7⟩ := h4 H.next _ hE.le (if_pos rfl)
      refine ⟨.value x, W', _, x, h1, .inl rfl, h7, ?_, hE, ?_, h3, Nat.le_succ _⟩
      · rw [h2]; exact hr.push h5 rfl h6
      · rw [h2]; exact Kept.push _ _ _
  · exact eop_sound fit hr hev h

end

/-! ### Items, modes, frames -/
/-- Items that are no region that draws its order. -/
def IRs (ρ : Ren) : List AItem → List Item → Prop
  | [], l => l = []
  | .code c :: k, l => ∃ k', l = .code c :: k' ∧ IRs ρ k k'
  | .inBlock id :: k, l => ∃ k', l = .inBlock id :: k' ∧ IRs ρ k k'
  | .inLoop b :: k, l => ∃ k', l = .inLoop b :: k' ∧ IRs ρ k k'
  | .inScope b :: k, l => ∃ k', l = .inScope b :: k' ∧ IRs ρ k k'
  | .ops all i rest :: k, l => ∃ order k', l = .inRegion all order :: k' ∧ order.map (fun j => all[j]?) = rest.map some ∧ order = List.range' i rest.length ∧ IRs ρ k k'
  | .draw .. :: _, _ => False
  | .inRangeFunc r :: k, l => ∃ w k', ρ r = some w ∧ l = .inRangeFunc w.c :: k' ∧ IRs ρ k k'
  | .endRangeFunc r :: k, l => ∃ w k', ρ r = some w ∧ l = .endRangeFunc w.c :: k' ∧ IRs ρ k k'
  | .beginRound :: k, l => ∃ k', l = .beginRound :: k' ∧ IRs ρ k k'

theorem IRs.mono {ρ ρ' : Ren} (h : ρ.le ρ') : ∀ {k : List AItem} {l : List Item}, IRs ρ k l → IRs ρ' k l
  | [], _, hk => hk
  | .code _ :: _, _, ⟨k', h1, h2⟩ => ⟨k', h1, IRs.mono h h2⟩
  | .inBlock _ :: _, _, ⟨k', h1, h2⟩ => ⟨k', h1, IRs.mono h h2⟩
  | .inLoop _ :: _, _, ⟨k', h1, h2⟩ => ⟨k', h1, IRs.mono h h2⟩
  | .inScope _ :: _, _, ⟨k', h1, h2⟩ => ⟨k', h1, IRs.mono h h2⟩
  | .ops .. :: _, _, ⟨o, k', h1, h2, h3, h4⟩ => ⟨o, k', h1, h2, h3, IRs.mono h h4⟩
  | .draw .. :: _, _, hf => hf.elim
  | .inRangeFunc _ :: _, _, ⟨w, k', h0, h1, h2⟩ => ⟨w, k', h _ _ h0, h1, IRs.mono h h2⟩
  | .endRangeFunc _ :: _, _, ⟨w, k', h0, h1, h2⟩ => ⟨w, k', h _ _ h0, h1, IRs.mono h h2⟩
  | .beginRound :: _, _, ⟨k', h1, h2⟩ => ⟨k', h1, IRs.mono h h2⟩

/-- One evaluation tells no more than the other. -/
def EvLe (ev ev' : Operand → AVal) : Prop := ∀ x, ev x = ev' x ∨ ev x = .top

/-- What is said of a region that draws its order, whatever lies in the heap: done ahead of what the model has done. -/
structure DrawR (P : Program) (ρ : Ren) (all : List Oper) (i : Nat) (res : T AVal) (al : List (Nat × Nat × ABlk)) (n : Nat) (tm : T AVal) (tmps : Array Value) (order : List Nat) : Prop where
  ok : drawOk all = true
  size : tmps.size = n
  left : Left (masks all) all.length order
  /-- done in the model: the answer lies in its slot -/
  done : ∀ (j : Nat) (o : Oper), all[j]? = some o → j ∉ order → ∃ r, res.get j = some r ∧ ∀ d, o.dst = some d → VR ρ r (tmps.getD d Go.undef)
  /-- a slot that nothing done in the model writes holds what it held -/
  base : ∀ t, (∀ (j : Nat) (o : Oper), all[j]? = some o → j ∉ order → o.dst ≠ some t) → VR ρ (tget tm t) (tmps.getD t Go.undef)
  dsts : ∀ (j : Nat) (o : Oper) (d : Nat), all[j]? = some o → o.dst = some d → d < n
  behind : ∀ j, j < i → j < all.length → res.get j ≠ none
  /-- what is answered, and is not done in the model -/
  known : ∀ (j : Nat) (o : Oper) r, all[j]? = some o → j ∈ order → res.get j = some r →
    (wantedA res.get o = some false ∧ r = aundef) ∨ (wantedA res.get o = some true ∧ opKind (tyOf P) o.op = .quiet) ∨
    (wantedA res.get o = some true ∧ opKind (tyOf P) o.op = .alloc ∧ ∃ id blk ev mk, (j, id, blk) ∈ al ∧ EvLe ev (evD all res tm j) ∧ aop (tyOf P) id ev o.op = some (blk, mk) ∧ r = mk id)
  unplaced : ∀ j id blk, (j, id, blk) ∈ al → j ∈ order → ρ id = none
  alres : ∀ j id blk, (j, id, blk) ∈ al → res.get j ≠ none

/-- An effect under way stands at the head; what stands behind an effect need not be ahead of it. -/
def HeadR (all : List Oper) (i : Nat) (res : T AVal) (order : List Nat) : Prop :=
  (res.get i = none → order.head? = some i) ∧ (res.get i ≠ none → i ∉ order ∧ ∀ j ∈ order, aheadOf (masks all) j i = false)

/-- What is answered, and is not done in the model, holds in the heap. -/
def Pend (P : Program) (H : AHeap) (all : List Oper) (res : T AVal) (al : List (Nat × Nat × ABlk)) (tm : T AVal) (order : List Nat) : Prop :=
  ∀ (j : Nat) (o : Oper) r, all[j]? = some o → j ∈ order → res.get j = some r → wantedA res.get o = some true →
    (opKind (tyOf P) o.op = .quiet → ∃ ev, EvLe ev (evD all res tm j) ∧ qop (tyOf P) H ev o.op = some r) ∧
    (opKind (tyOf P) o.op = .alloc → ∀ id blk, (j, id, blk) ∈ al → H.bs.get id = some blk)

def TodoR (P : Program) (ρ : Ren) (n : Nat) (tm : T AVal) (tmps : Array Value) : List AItem → List Item → Prop
  | .draw all i res al busy :: k, l => ∃ order k', l = .inRegion all.toArray order :: k' ∧ IRs ρ k k' ∧ DrawR P ρ all i res al n tm tmps order ∧ (busy = true → HeadR all i res order)
  | k, l => IRs ρ k l ∧ TR ρ n tm tmps

def PRs (ρ : Ren) : List (AVal × Bool) → List PanicEntry → Prop
  | [], l => l = []
  | a :: as, l => ∃ e es, l = e :: es ∧ VR ρ a.1 e.v ∧ e.recovered = a.2 ∧ e.goexit = false ∧ PRs ρ as es

def MR (ρ : Ren) : AMode → FrameMode → Prop
  | .run, m => m = .run
  | .returning, m => m = .returning
  | .panicking ch, m => ∃ ch', m = .panicking ch' ∧ PRs ρ ch ch'

def RR (ρ : Ren) : Option Nat → Option Nat → Prop
  | none, r => r = none
  | some l, r => ∃ w, ρ l = some w ∧ r = some w.c

structure FR (P : Program) (ρ : Ren) (a : AFrame) (f : Frame) : Prop where
  fn : f.fn = a.fn
  kind : f.kind = a.kind
  rnd : RR ρ a.rnd f.roundOf
  ds : DRs ρ a.ds f.defers
  mode : MR ρ a.mode f.mode
  run : a.mode = .run → TodoR P ρ a.n a.tm f.tmps a.todo f.todo
  held : a.mode ≠ .run → TR ρ a.n a.tm f.tmps

/-! ### What is said stays, as the renaming grows -/
theorem PRs.mono {ρ ρ' : Ren} (h : ρ.le ρ') : ∀ {a : List (AVal × Bool)} {l : List PanicEntry}, PRs ρ a l → PRs ρ' a l
  | [], _, hk => hk
  | _ :: _, _, ⟨e, es, h1, h2, h3⟩ => ⟨e, es, h1, h2.mono h, h3.1, h3.2.1, PRs.mono h h3.2.2⟩

theorem PRs.append {ρ : Ren} : ∀ {a b : List (AVal × Bool)} {l m : List PanicEntry}, PRs ρ a l → PRs ρ b m → PRs ρ (a ++ b) (l ++ m)
  | [], _, _, _, h, h' => by cases h; exact h'
  | _ :: _, _, _, m, ⟨e, es, rfl, h2, h3, h4, h5⟩, h' => ⟨e, es ++ m, rfl, h2, h3, h4, PRs.append h5 h'⟩

def idsOf : List AItem → List Nat
  | .draw _ _ _ al _ :: _ => al.map (·.2.1)
  | _ => []

theorem DrawR.mono {P : Program} {ρ ρ' : Ren} (h : ρ.le ρ') {all : List Oper} {i : Nat} {res : T AVal} {al : List (Nat × Nat × ABlk)} {n : Nat} {tm : T AVal} {tmps : Array Value} {order : List Nat}
    (hid : ∀ id ∈ al.map (·.2.1), ρ id = none → ρ' id = none) (hd : DrawR P ρ all i res al n tm tmps order) : DrawR P ρ' all i res al n tm tmps order where
  ok := hd.ok
  size := hd.size
  left := hd.left
  done := fun j o h1 h2 => let ⟨r, h3, h4⟩ := hd.done j o h1 h2; ⟨r, h3, fun d hd => (h4 d hd).mono h⟩
  base := fun t ht => (hd.base t ht).mono h
  dsts := hd.dsts
  behind := hd.behind
  known := hd.known
  unplaced := fun j id blk h1 h2 => hid id (List.mem_map.2 ⟨_, h1, rfl⟩) (hd.unplaced j id blk h1 h2)
  alres := hd.alres

theorem TodoR.of {P : Program} {ρ : Ren} {n : Nat} {tm : T AVal} {tmps : Array Value} {k : List AItem} {l : List Item} (h : IRs ρ k l) (ht : TR ρ n tm tmps) : TodoR P ρ n tm tmps k l := by
  cases k with
  | nil => exact ⟨h, ht⟩
  | cons it k => cases it <;> first | exact ⟨h, ht⟩ | exact h.elim

theorem TodoR.mono {P : Program} {ρ ρ' : Ren} (h : ρ.le ρ') {n : Nat} {tm : T AVal} {tmps : Array Value} {k : List AItem} {l : List Item} (hid : ∀ id ∈ idsOf k, ρ id = none → ρ' id = none)
    (ht : TodoR P ρ n tm tmps k l) : TodoR P ρ' n tm tmps k l := by
  cases k with
  | nil => exact ⟨IRs.mono h ht.1, ht.2.mono h⟩
  | cons it k =>
    cases it with
    | draw all i res al busy =>
      obtain ⟨order, k', h1, h2, h3, h4⟩ := ht
      exact ⟨order, k', h1, IRs.mono h h2, h3.mono h hid, h4⟩
    | _ => exact ⟨IRs.mono h ht.1, ht.2.mono h⟩

theorem MR.mono {ρ ρ' : Ren} (h : ρ.le ρ') {a : AMode} {m : FrameMode} (hm : MR ρ a m) : MR ρ' a m := by
  cases a with
  | run => exact hm
  | returning => exact hm
  | panicking ch => obtain ⟨ch', h1, h2⟩ := hm; exact ⟨ch', h1, h2.mono h⟩

theorem RR.mono {ρ ρ' : Ren} (h : ρ.le ρ') {a r : Option Nat} (hm : RR ρ a r) : RR ρ' a r := by
  cases a with
  | none => exact hm
  | some l => obtain ⟨w, h1, h2⟩ := hm; exact ⟨w, h _ _ h1, h2⟩

theorem FR.mono {P : Program} {ρ ρ' : Ren} (h : ρ.le ρ') {a : AFrame} {f : Frame} (hid : ∀ id ∈ idsOf a.todo, ρ id = none → ρ' id = none) (hf : FR P ρ a f) : FR P ρ' a f where
  fn := hf.fn
  kind := hf.kind
  rnd := hf.rnd.mono h
  ds := hf.ds.mono h
  mode := hf.mode.mono h
  run := fun hm => (hf.run hm).mono h hid
  held := fun hm => (hf.held hm).mono h

def FRs (P : Program) (ρ : Ren) : List AFrame → List Frame → List Frame → Prop
  | [], l, cs0 => l = cs0
  | a :: as, l, cs0 => ∃ f fs, l = f :: fs ∧ FR P ρ a f ∧ FRs P ρ as fs cs0

theorem FRs.mono {P : Program} {ρ ρ' : Ren} (h : ρ.le ρ') {cs0 : List Frame} : ∀ {as : List AFrame} {l : List Frame}, (∀ id ∈ as.flatMap fun a => idsOf a.todo, ρ id = none → ρ' id = none) → FRs P ρ as l cs0 → FRs P ρ' as l cs0
  | [], _, _, hk => hk
  | a :: as, _, hid, ⟨f, fs, h1, h2, h3⟩ => ⟨f, fs, h1, h2.mono h fun id hi => hid id (by simp [List.flatMap_cons, hi]), FRs.mono h (fun id hi => hid id (by rw [List.flatMap_cons, List.mem_append]; exact .inr hi)) h3⟩

/-! ### Configurations -/
def idsC (c : Cfg) : List Nat := idsOf c.fr.todo ++ c.cs.flatMap fun a => idsOf a.todo

structure CR (P : Program) (base : Nat) (cs0 : List Frame) (ρ : Ren) (c : Cfg) (fr : Frame) (cs : List Frame) (W : World) : Prop where
  heap : HR ρ c.H W.heap
  old : ∀ b w, ρ b = some w → base ≤ w.c
  big : base ≤ W.heap.size
  top : FR P ρ c.fr fr
  pend : c.fr.mode = .run → ∀ all i res al k, c.fr.todo = .draw all i res al false :: k → ∀ order k', fr.todo = .inRegion all.toArray order :: k' → Pend P c.H all res al c.fr.tm order
  rest : FRs P ρ c.cs cs cs0
  ids : (idsC c).Nodup
  idlt : ∀ id ∈ idsC c, id < c.H.next

/-- From here the machine comes to a place of which the configuration tells. -/
def Leads (P : Program) (base : Nat) (cs0 : List Frame) (c' : Cfg) (fr : Frame) (cs : List Frame) (W : World) : Prop :=
  ∃ ρ' fr' cs' W', Steps P (lone fr cs W) (lone fr' cs' W') ∧ CR P base cs0 ρ' c' fr' cs' W' ∧ (∀ i, i < base → W'.heap[i]? = W.heap[i]?) ∧ Rest W W'

theorem Leads.now {P : Program} {base : Nat} {cs0 : List Frame} {ρ : Ren} {c' : Cfg} {fr : Frame} {cs : List Frame} {W : World} (h : CR P base cs0 ρ c' fr cs W) : Leads P base cs0 c' fr cs W :=
  ⟨ρ, fr, cs, W, Steps.refl _ _, h, fun _ _ => rfl, Rest.refl _⟩

theorem Leads.after {P : Program} {base : Nat} {cs0 : List Frame} {c' : Cfg} {fr fr1 : Frame} {cs cs1 : List Frame} {W W1 : World} (hs : Steps P (lone fr cs W) (lone fr1 cs1 W1)) (hk : ∀ i, i < base → W1.heap[i]? = W.heap[i]?) (hr : Rest W W1)
    (h : Leads P base cs0 c' fr1 cs1 W1) : Leads P base cs0 c' fr cs W := by
  obtain ⟨ρ', fr', cs', W', h1, h2, h3, h4⟩ := h
  exact ⟨ρ', fr', cs', W', hs.trans h1, h2, fun i hi => (h3 i hi).trans (hk i hi), hr.trans h4⟩

/-- What lies below the base stays. -/
theorem Kept.below {ρ : Ren} {h h' : Array Obj} (hk : Kept ρ h h') {base : Nat} (hold : ∀ b w, ρ b = some w → base ≤ w.c) (hb : base ≤ h.size) : ∀ i, i < base → h'[i]? = h[i]? :=
  fun i hi => hk.2 i (by omega) fun b w hw => by have := hold b w hw; omega

theorem Ext.old {ρ ρ' : Ren} {next : Nat} {h : Array Obj} (he : Ext ρ next h ρ') {base : Nat} (hold : ∀ b w, ρ b = some w → base ≤ w.c) (hb : base ≤ h.size) : ∀ b w, ρ' b = some w → base ≤ w.c := by
  intro b w hw
  rcases he.new b w hw with h1 | h1 | ⟨b0, w0, h1, h2⟩
  · exact hold b w h1
  · omega
  · rw [← h2]; exact hold b0 w0 h1

end Go.Eng
/-! Steps of the model's machine, one for each that the engine takes. -/
namespace Go.Eng

section
variable {P : Program} {fn : FuncId} {tmps : Array Value} {k : List Item} {ds : List Deferred} {kind : CallKind} {rnd : Option Nat} {cs : List Frame} {W : World}

abbrev mkF (fn : FuncId) (tmps : Array Value) (todo : List Item) (ds : List Deferred) (kind : CallKind) (rnd : Option Nat) : Frame := { fn, tmps, todo, defers := ds, mode := .run, kind, roundOf := rnd }

theorem st_skip : step P (lone (mkF fn tmps (.code .skip :: k) ds kind rnd) cs W) = .next (lone (mkF fn tmps k ds kind rnd) cs W) := step_lone_go (by simp [stepG, stepG.exec])
theorem st_label {l : Nat} : step P (lone (mkF fn tmps (.code (.label l) :: k) ds kind rnd) cs W) = .next (lone (mkF fn tmps k ds kind rnd) cs W) := step_lone_go (by simp [stepG, stepG.exec])
theorem st_inBlock {l : Nat} : step P (lone (mkF fn tmps (.inBlock l :: k) ds kind rnd) cs W) = .next (lone (mkF fn tmps k ds kind rnd) cs W) := step_lone_go (by simp [stepG, stepG.exec])
theorem st_inScope {c : Code} : step P (lone (mkF fn tmps (.inScope c :: k) ds kind rnd) cs W) = .next (lone (mkF fn tmps k ds kind rnd) cs W) := step_lone_go (by simp [stepG, stepG.exec])
theorem st_seq {a b : Code} : step P (lone (mkF fn tmps (.code (.seq a b) :: k) ds kind rnd) cs W) = .next (lone (mkF fn tmps (.code a :: .code b :: k) ds kind rnd) cs W) := step_lone_go (by simp [stepG, stepG.exec])
theorem st_block {id : Nat} {b : Code} : step P (lone (mkF fn tmps (.code (.block id b) :: k) ds kind rnd) cs W) = .next (lone (mkF fn tmps (.code b :: .inBlock id :: k) ds kind rnd) cs W) := step_lone_go (by simp [stepG, stepG.exec])
theorem st_loop {b : Code} : step P (lone (mkF fn tmps (.code (.loop b) :: k) ds kind rnd) cs W) = .next (lone (mkF fn tmps (.code b :: .inLoop b :: k) ds kind rnd) cs W) := step_lone_go (by simp [stepG, stepG.exec])
theorem st_inLoop {b : Code} : step P (lone (mkF fn tmps (.inLoop b :: k) ds kind rnd) cs W) = .next (lone (mkF fn tmps (.code b :: .inLoop b :: k) ds kind rnd) cs W) := step_lone_go (by simp [stepG, stepG.exec])
theorem st_scope {b : Code} : step P (lone (mkF fn tmps (.code (.scope b) :: k) ds kind rnd) cs W) = .next (lone (mkF fn tmps (.code b :: .inScope b :: k) ds kind rnd) cs W) := step_lone_go (by simp [stepG, stepG.exec])
theorem st_cond {c : Operand} {a b : Code} {t : Bool} {f : Frame} (hf : f = mkF fn tmps (.code (.cond c a b) :: k) ds kind rnd) (h : f.eval c = .bool t) : step P (lone f cs W) = .next (lone (mkF fn tmps (.code (if t then a else b) :: k) ds kind rnd) cs W) :=
  step_lone_go (by subst hf; simp [stepG, stepG.exec, h])
theorem st_exit {id : Nat} {k' : List Item} (h : exitTo id k = some k') : step P (lone (mkF fn tmps (.code (.exit id) :: k) ds kind rnd) cs W) = .next (lone (mkF fn tmps k' ds kind rnd) cs W) := step_lone_go (by simp [stepG, stepG.exec, h])
theorem st_goto {id : Nat} {k' : List Item} (h : gotoIn id k = some k') : step P (lone (mkF fn tmps (.code (.goto id) :: k) ds kind rnd) cs W) = .next (lone (mkF fn tmps k' ds kind rnd) cs W) := step_lone_go (by simp [stepG, stepG.exec, h])
theorem st_region {id : Nat} {ops : Array Oper} : step P (lone (mkF fn tmps (.code (.region id ops false) :: k) ds kind rnd) cs W) = .next (lone (mkF fn tmps (.inRegion ops (List.range ops.size) :: k) ds kind rnd) cs W) := step_lone_go (by simp [stepG, stepG.exec])
theorem st_draw {id : Nat} {ops : Array Oper} : step P (lone (mkF fn tmps (.code (.region id ops true) :: k) ds kind rnd) cs W) =
    .next (lone (mkF fn tmps (.inRegion ops (Region.schedule (P.follows .mixedOrders) ops (W.tape W.drawn (.order fn id))) :: k) ds kind rnd) cs { W with drawn := W.drawn + 1 }) :=
  step_lone_go (by simp [stepG, stepG.exec, choose, Sem.run, Question.forced, Question.cut])
theorem st_regionEnd {ops : Array Oper} : step P (lone (mkF fn tmps (.inRegion ops [] :: k) ds kind rnd) cs W) = .next (lone (mkF fn tmps k ds kind rnd) cs W) := step_lone_go (by simp [stepG, stepG.exec])
theorem st_retPlain : step P (lone (mkF fn tmps (.code .ret :: k) ds kind none) cs W) = .next (lone { mkF fn tmps (.code .ret :: k) ds kind none with mode := .returning } cs W) := step_lone_go (by simp [stepG, stepG.exec])
theorem st_endPlain : step P (lone (mkF fn tmps [] ds kind none) cs W) = .next (lone { mkF fn tmps [] ds kind none with mode := .returning } cs W) := step_lone_go (by simp [stepG, stepG.exec])

theorem st_unwanted {ops : Array Oper} {j : Nat} {rest : List Nat} (h : ((ops[j]?).map (Region.wanted · (yielded ops tmps))).getD false = false) :
    step P (lone (mkF fn tmps (.inRegion ops (j :: rest) :: k) ds kind rnd) cs W) = .next (lone ((mkF fn tmps (.inRegion ops (j :: rest) :: k) ds kind rnd).finish Go.undef) cs W) :=
  step_lone_go (by simp [stepG, stepG.exec, h])

theorem stG_op {ops : Array Oper} {j : Nat} {rest : List Nat} {o : Oper} {f : Frame} (hf : f = mkF fn tmps (.inRegion ops (j :: rest) :: k) ds kind rnd) (ho : ops[j]? = some o) (hw : Region.wanted o (yielded ops tmps) = true) (hd : rnd = none ∨ ∀ c, o.op ≠ .defer c) :
    stepG P true { frame := f, callers := cs, status := .running, dying := none } W = stepG.apply P true f cs none (execOp f.eval o) W := by
  subst hf
  simp only [stepG, stepG.exec, stepG.oper, Frame.oper?, ho, Option.map_some, hw, Option.getD_some, if_true]
  rcases hd with rfl | hd
  · rfl
  · cases rnd with
    | none => rfl
    | some l =>
      split
      · rename_i h1 h2; exact absurd h2 (hd _)
      · rfl

variable {ops : Array Oper} {j : Nat} {rest : List Nat} {o : Oper} {f : Frame}

theorem st_value (hf : f = mkF fn tmps (.inRegion ops (j :: rest) :: k) ds kind rnd) (ho : ops[j]? = some o) (hw : Region.wanted o (yielded ops tmps) = true) (hd : rnd = none ∨ ∀ c, o.op ≠ .defer c)
    {nx : Next} {v : Value} {W' : World} (hr : (execOp f.eval o).run P W = .ok nx W') (hn : nx = .value v ∨ (nx = .skip ∧ v = Go.undef)) : step P (lone f cs W) = .next (lone (f.finish v) cs W') :=
  step_lone_go (by
    rw [stG_op hf ho hw hd]
    rcases hn with rfl | ⟨rfl, rfl⟩ <;> simp [stepG.apply, hr])

theorem st_enter (hf : f = mkF fn tmps (.inRegion ops (j :: rest) :: k) ds kind rnd) (ho : ops[j]? = some o) (hw : Region.wanted o (yielded ops tmps) = true) (hd : rnd = none ∨ ∀ c, o.op ≠ .defer c)
    {g : Nat} {args : Array Value} {W' : World} (hr : (execOp f.eval o).run P W = .ok (.enter g args) W') : step P (lone f cs W) = .next (lone (Frame.enter P g args .normal) (f :: cs) W') :=
  step_lone_go (by
    rw [stG_op hf ho hw hd]
    subst hf
    simp [stepG.apply, hr])

theorem st_round (hf : f = mkF fn tmps (.inRegion ops (j :: rest) :: k) ds kind rnd) (ho : ops[j]? = some o) (hw : Region.wanted o (yielded ops tmps) = true) (hd : rnd = none ∨ ∀ c, o.op ≠ .defer c)
    {l g : Nat} {tm : Array Value} {a b : Code} {W' : World} (hr : (execOp f.eval o).run P W = .ok (.round l g tm a b) W') : step P (lone f cs W) = .next (lone (Frame.round l g tm a b .normal) (f :: cs) W') :=
  step_lone_go (by
    rw [stG_op hf ho hw hd]
    simp [stepG.apply, hr])

theorem st_defer (hf : f = mkF fn tmps (.inRegion ops (j :: rest) :: k) ds kind rnd) (ho : ops[j]? = some o) (hw : Region.wanted o (yielded ops tmps) = true) (hd : rnd = none ∨ ∀ c, o.op ≠ .defer c)
    {d : Deferred} {W' : World} (hr : (execOp f.eval o).run P W = .ok (.defer d) W') : step P (lone f cs W) = .next (lone (({ f with defers := d :: f.defers } : Frame).finish Go.undef) cs W') :=
  step_lone_go (by
    rw [stG_op hf ho hw hd]
    simp [stepG.apply, hr])

theorem st_panic (hf : f = mkF fn tmps (.inRegion ops (j :: rest) :: k) ds kind rnd) (ho : ops[j]? = some o) (hw : Region.wanted o (yielded ops tmps) = true) (hd : rnd = none ∨ ∀ c, o.op ≠ .defer c)
    {v : Value} {W' : World} (hr : (execOp f.eval o).run P W = .halt (.panic v) W') : step P (lone f cs W) = .next (lone (f.raise [{ v, recovered := false }]) cs W') :=
  step_lone_go (by
    rw [stG_op hf ho hw hd]
    simp [stepG.apply, hr])

theorem st_recover (hf : f = mkF fn tmps (.inRegion ops (j :: rest) :: k) ds kind none) (ho : ops[j]? = some o) (hw : Region.wanted o (yielded ops tmps) = true)
    {W' : World} (hr : (execOp f.eval o).run P W = .ok .recover W') : step P (lone f cs W) = .next (match tryRecover f cs with | some (v, cs') => lone (f.finish v) cs' W' | none => lone (f.finish .nilIface) cs W') := by
  have hg := stG_op (P := P) (cs := cs) (W := W) hf ho hw (.inl rfl)
  have hro : f.roundOf = none := by rw [hf]
  cases ht : tryRecover f cs with
  | none => exact step_lone_go (by rw [hg]; simp [stepG.apply, hr, hro, ht])
  | some q => obtain ⟨v, cs'⟩ := q; exact step_lone_go (by rw [hg]; simp [stepG.apply, hr, hro, ht])

end
end Go.Eng
/-! Frames that finish an operation, raise a panic; what a region's operations see. -/
namespace Go.Eng

section
variable {P : Program} {ρ : Ren}

theorem blt_iff {a b : Nat} : Nat.blt a b = true ↔ a < b := by rw [Nat.blt_eq]

theorem fn_eval {fr : Frame} {f : Nat} : fr.eval (.func f) = .func (.func f) #[] #[] := rfl

theorem evT_VR {n : Nat} {tm : T AVal} {fr : Frame} (ht : TR ρ n tm fr.tmps) (x : Operand) : VR ρ (evT tm x) (fr.eval x) := by
  cases x with
  | tmp t => exact ht.2 t
  | const v => exact ofConst_VR ρ v
  | global g => exact trivial
  | func f => exact ⟨fun l h => (by cases h), #[], #[], rfl, rfl, rfl⟩

/-- The slots behind an operation. -/
def putD (dst : Option Nat) (x : Value) (tmps : Array Value) : Array Value := match dst with | some d => tmps.setIfInBounds d x | none => tmps

theorem TR.set {n : Nat} {tm tm' : T AVal} {tmps : Array Value} (ht : TR ρ n tm tmps) {dst : Option Nat} {v : AVal} {x : Value} (hv : VR ρ v x) (h : setTm n tm dst v = some tm') :
    TR ρ n tm' (putD dst x tmps) := by
  unfold setTm at h
  cases dst with
  | none => simp only [Option.some.injEq] at h; subst h; exact ht
  | some d =>
    simp only at h
    obtain ⟨hd, h⟩ := shutTrue h
    simp only [Option.some.injEq] at h
    subst h
    have hd := blt_iff.1 hd
    show TR ρ n (tm.set d v) (tmps.setIfInBounds d x)
    refine ⟨by simpa using ht.1, fun t => ?_⟩
    unfold tget
    rw [T.get_set]
    by_cases e : t = d
    · subst e
      rw [if_pos rfl, Array.getD_eq_getD_getElem?, Array.getElem?_setIfInBounds]
      have : t < tmps.size := by rw [ht.1]; exact hd
      simp [this, hv]
    · rw [if_neg e]
      have h2 := ht.2 t
      unfold tget at h2
      rw [Array.getD_eq_getD_getElem?] at h2 ⊢
      rw [Array.getElem?_setIfInBounds, if_neg (fun h => e h.symm)]
      exact h2

/-! ### Lists that the region's answers grow in -/
def ResLe (res res' : T AVal) : Prop := ∀ g v, res.get g = some v → res'.get g = some v

theorem wantedA_ext {res res' : T AVal} (h : ResLe res res') {o : Oper} {b : Bool} (hw : wantedA res.get o = some b) : wantedA res'.get o = some b := by
  unfold wantedA at *
  cases hg : o.guard with
  | none => rw [hg] at hw; exact hw
  | some q =>
    obtain ⟨g, want⟩ := q
    rw [hg] at hw
    simp only at hw ⊢
    cases hr : res.get g with
    | none => rw [hr] at hw; cases hw
    | some v => rw [h g v hr]; rw [hr] at hw; exact hw

theorem evD_ext {all : List Oper} {res res' : T AVal} (h : ResLe res res') {tm : T AVal} {j : Nat} {ev : Operand → AVal} (he : EvLe ev (evD all res tm j)) : EvLe ev (evD all res' tm j) := by
  intro x
  rcases he x with h1 | h1
  · cases x with
    | tmp t =>
      simp only [evD] at h1 ⊢
      cases hs : srcOf t all 0 j none with
      | none => rw [hs] at h1; exact .inl h1
      | some s =>
        rw [hs] at h1
        simp only at h1 ⊢
        cases hr : res.get s with
        | none => rw [hr] at h1; exact .inr h1
        | some v => rw [hr] at h1; rw [h s v hr]; exact .inl h1
    | _ => exact .inl h1
  · exact .inr h1

/-! ### What 'drawOk' tells -/
theorem memN_iff {n : Nat} {l : List Nat} : memN n l = true ↔ n ∈ l := by rw [memN_eq]; simp

theorem readsOk_get {M : T Nat} {j : Nat} {ts : List Nat} : ∀ {l : List Oper} {i : Nat}, readsOk M j ts l i = true → ∀ q o d, l[q]? = some o → o.dst = some d → d ∈ ts → q + i ≠ j →
    (q + i < j → aheadOf M (q + i) j = true) ∧ (j < q + i → aheadOf M j (q + i) = true)
  | [], _, _, q, o, d, h, _, _, _ => by simp at h
  | o0 :: l, i, h, q, o, d, hq, hd, hm, hne => by
    simp only [readsOk, Bool.and_eq_true] at h
    cases q with
    | zero =>
      simp only [List.getElem?_cons_zero, Option.some.injEq] at hq
      subst hq
      rw [hd] at h
      simp only [Nat.zero_add] at hne ⊢
      have hb : Nat.beq i j = false := by
        cases hb : Nat.beq i j with
        | false => rfl
        | true => exact absurd (Nat.eq_of_beq_eq_true hb) hne
      have h1 := h.1
      simp only at h1
      rw [memN_iff.2 hm, hb] at h1
      simp only [Bool.not_false, Bool.and_self, cond_true] at h1
      cases hlt : Nat.blt i j with
      | true =>
        rw [hlt] at h1
        exact ⟨fun _ => h1, fun h2 => by have := blt_iff.1 hlt; omega⟩
      | false =>
        rw [hlt] at h1
        refine ⟨fun h2 => ?_, fun _ => h1⟩
        have := blt_iff.2 h2
        rw [this] at hlt; cases hlt
    | succ q =>
      simp only [List.getElem?_cons_succ] at hq
      have := readsOk_get h.2 q o d hq hd hm (by omega)
      have e : q + (i + 1) = q + 1 + i := by omega
      rw [show Nat.succ i = i + 1 from rfl, e] at this
      exact this

structure OpOk (all : List Oper) (j : Nat) (o : Oper) : Prop where
  reads : ∀ q o' d, all[q]? = some o' → o'.dst = some d → d ∈ tmpsOf o.op.operands.toList → q ≠ j → (q < j → aheadOf (masks all) q j = true) ∧ (j < q → aheadOf (masks all) j q = true)
  edges : ∀ e ∈ o.after.toList, Region.binds .any e = true → e.on < j
  guard : ∀ g want, o.guard = some (g, want) → g < j ∧ aheadOf (masks all) g j = true ∧ ∃ og d, all[g]? = some og ∧ og.dst = some d

theorem edgesOk_get {j : Nat} : ∀ {l : List Edge}, edgesOk j l = true → ∀ e ∈ l, Region.binds .any e = true → e.on < j
  | [], _, e, he, _ => by cases he
  | e0 :: l, h, e, he, hb => by
    simp only [edgesOk, Bool.and_eq_true, Bool.or_eq_true, Bool.not_eq_true'] at h
    rcases List.mem_cons.1 he with rfl | he
    · rcases h.1 with h1 | h1
      · rw [hb] at h1; cases h1
      · exact blt_iff.1 h1
    · exact edgesOk_get h.2 e he hb

theorem drawOkF_get {all : List Oper} : ∀ {l : List Oper} {i : Nat}, drawOkF (masks all) all l i = true → ∀ (q : Nat) (o : Oper), l[q]? = some o → OpOk all (q + i) o
  | [], _, _, q, o, h => by simp at h
  | o0 :: l, i, h, q, o, hq => by
    simp only [drawOkF, Bool.and_eq_true] at h
    cases q with
    | zero =>
      simp only [List.getElem?_cons_zero, Option.some.injEq] at hq
      subst hq
      rw [Nat.zero_add]
      refine ⟨fun q o' d h1 h2 h3 h4 => ?_, edgesOk_get h.1.2.1, fun g want hg => ?_⟩
      · exact readsOk_get h.1.1 q o' d h1 h2 h3 h4
      · have h5 := h.1.2.2
        rw [hg] at h5
        simp only [Bool.and_eq_true] at h5
        refine ⟨blt_iff.1 h5.1, h5.2.1, ?_⟩
        cases ho : all[g]? with
        | none => rw [ho] at h5; simp at h5
        | some og =>
          rw [ho] at h5
          obtain ⟨d, hd⟩ := Option.isSome_iff_exists.1 h5.2.2
          exact ⟨og, d, rfl, hd⟩
    | succ q =>
      have := drawOkF_get h.2 q o (by simpa using hq)
      have e : q + (i + 1) = q + 1 + i := by omega
      rw [show Nat.succ i = i + 1 from rfl, e] at this
      exact this

theorem drawOk_op {all : List Oper} (h : drawOk all = true) {j : Nat} {o : Oper} (ho : all[j]? = some o) : OpOk all j o := by
  simp only [drawOk, Bool.and_eq_true] at h
  exact drawOkF_get h.2 j o ho

theorem dstsOf_mem : ∀ {l : List Oper} {j : Nat} {o : Oper} {d : Nat}, l[j]? = some o → o.dst = some d → d ∈ dstsOf l
  | [], _, _, _, h, _ => by simp at h
  | o0 :: l, 0, o, d, h, hd => by simp at h; subst h; simp [dstsOf, hd]
  | o0 :: l, j + 1, o, d, h, hd => by
    have := dstsOf_mem (l := l) (by simpa using h) hd
    unfold dstsOf
    cases o0.dst <;> simp [this]

theorem nodupN_iff : ∀ {l : List Nat}, nodupN l = true → l.Nodup
  | [], _ => List.nodup_nil
  | n :: l, h => by
    simp only [nodupN, Bool.and_eq_true, Bool.not_eq_true'] at h
    refine List.nodup_cons.2 ⟨fun hm => ?_, nodupN_iff h.2⟩
    rw [memN_iff.2 hm] at h; cases h.1

theorem dsts_inj : ∀ {l : List Oper}, (dstsOf l).Nodup → ∀ {i j : Nat} {o o' : Oper} {d : Nat}, l[i]? = some o → l[j]? = some o' → o.dst = some d → o'.dst = some d → i = j
  | [], _, i, j, o, o', d, h, _, _, _ => by simp at h
  | o0 :: l, hn, i, j, o, o', d, h, h', hd, hd' => by
    have hl : (dstsOf l).Nodup := by
      unfold dstsOf at hn
      cases h0 : o0.dst with
      | none => rw [h0] at hn; exact hn
      | some d0 => rw [h0] at hn; exact (List.nodup_cons.1 hn).2
    have hno : ∀ {q : Nat} {oq : Oper}, o0.dst = some d → l[q]? = some oq → oq.dst = some d → False := by
      intro q oq h0 hq hdq
      unfold dstsOf at hn
      rw [h0] at hn
      exact (List.nodup_cons.1 hn).1 (dstsOf_mem hq hdq)
    cases i with
    | zero =>
      simp at h; subst h
      cases j with
      | zero => rfl
      | succ j => exact (hno hd (by simpa using h') hd').elim
    | succ i =>
      cases j with
      | zero => simp at h'; subst h'; exact (hno hd' (by simpa using h) hd).elim
      | succ j =>
        have h1 : l[i]? = some o := by simpa using h
        have h2 : l[j]? = some o' := by simpa using h'
        have := dsts_inj hl h1 h2 hd hd'
        omega

theorem drawOk_inj {all : List Oper} (h : drawOk all = true) {i j : Nat} {o o' : Oper} {d : Nat} (hi : all[i]? = some o) (hj : all[j]? = some o') (hd : o.dst = some d) (hd' : o'.dst = some d) : i = j := by
  simp only [drawOk, Bool.and_eq_true] at h
  exact dsts_inj (nodupN_iff h.1) hi hj hd hd'

/-! ### Sources -/
theorem srcOf_some {t j : Nat} : ∀ {l : List Oper} {i : Nat} {r : Option Nat} {s : Nat}, srcOf t l i j r = some s → (r = some s) ∨ (i ≤ s ∧ s < j ∧ ∃ o, l[s - i]? = some o ∧ o.dst = some t)
  | [], _, r, s, h => .inl h
  | o :: l, i, r, s, h => by
    unfold srcOf at h
    cases hb : Nat.blt i j with
    | false => rw [hb] at h; exact .inl h
    | true =>
      rw [hb] at h
      simp only [cond_true] at h
      rcases srcOf_some h with h1 | ⟨h1, h2, o', h3, h4⟩
      · cases hd : o.dst with
        | none => rw [hd] at h1; exact .inl h1
        | some d =>
          rw [hd] at h1
          simp only at h1
          cases hbe : Nat.beq d t with
          | false => rw [hbe] at h1; exact .inl h1
          | true =>
            rw [hbe] at h1
            simp only [cond_true, Option.some.injEq] at h1
            subst h1
            have := Nat.eq_of_beq_eq_true hbe
            subst this
            exact .inr ⟨Nat.le_refl _, blt_iff.1 hb, o, by simp, hd⟩
      · refine .inr ⟨by omega, h2, o', ?_, h4⟩
        have : s - i = (s - Nat.succ i) + 1 := by omega
        rw [this]; simpa using h3

theorem srcOf_none {t j : Nat} : ∀ {l : List Oper} {i : Nat} {r : Option Nat}, srcOf t l i j r = none → r = none ∧ ∀ q o, l[q]? = some o → q + i < j → o.dst ≠ some t
  | [], _, r, h => ⟨h, fun q o h => by simp at h⟩
  | o :: l, i, r, h => by
    unfold srcOf at h
    cases hb : Nat.blt i j with
    | false =>
      rw [hb] at h
      refine ⟨h, fun q o' _ h2 => ?_⟩
      have : ¬ i < j := fun h3 => by rw [blt_iff.2 h3] at hb; cases hb
      omega
    | true =>
      rw [hb] at h
      simp only [cond_true] at h
      obtain ⟨h1, h2⟩ := srcOf_none h
      have hd : o.dst ≠ some t ∧ r = none := by
        cases hd : o.dst with
        | none => rw [hd] at h1; exact ⟨by simp, h1⟩
        | some d =>
          rw [hd] at h1
          simp only at h1
          cases hbe : Nat.beq d t with
          | false =>
            rw [hbe] at h1
            exact ⟨fun e => (Nat.ne_of_beq_eq_false hbe) (by simpa using e), h1⟩
          | true => rw [hbe] at h1; simp at h1
      refine ⟨hd.2, fun q o' hq hlt => ?_⟩
      cases q with
      | zero => simp at hq; subst hq; exact hd.1
      | succ q => exact h2 q o' (by simpa using hq) (by omega)

theorem tmpsOf_mem : ∀ {l : List Operand} {t : Nat}, Operand.tmp t ∈ l → t ∈ tmpsOf l
  | [], _, h => by cases h
  | x :: l, t, h => by
    rcases List.mem_cons.1 h with h | h
    · subst h; simp [tmpsOf]
    · have := tmpsOf_mem h
      cases x <;> simp [tmpsOf, this]

/-- What the head of a drawn order sees. -/
theorem DrawR.sees {all : List Oper} {i : Nat} {res : T AVal} {al : List (Nat × Nat × ABlk)} {n : Nat} {tm : T AVal} {fr : Frame} {j : Nat} {rest : List Nat} (hd : DrawR P ρ all i res al n tm fr.tmps (j :: rest)) {o : Oper} (ho : all[j]? = some o) :
    EvR ρ (evD all res tm j) fr.eval o.op.operands.toList := by
  have hok := drawOk_op hd.ok ho
  have hnot : ∀ s, aheadOf (masks all) s j = true → s ≠ j → s ∉ j :: rest := fun s hs hne hm => by
    rcases List.mem_cons.1 hm with h | h
    · exact hne h
    · have := (List.pairwise_cons.1 hd.left.lin).1 s h
      rw [hs] at this; cases this
  intro x hx
  cases x with
  | tmp t =>
    have ht := tmpsOf_mem hx
    show VR ρ (match srcOf t all 0 j none with | some i => (match res.get i with | some v => v | none => .top) | none => (match tm.get t with | some v => v | none => aundef)) (fr.tmps.getD t Go.undef)
    cases hs : srcOf t all 0 j none with
    | some s =>
      rcases srcOf_some hs with h1 | ⟨_, h2, os, h3, h4⟩
      · cases h1
      · rw [Nat.sub_zero] at h3
        have hah := (hok.reads s os t h3 h4 ht (by omega)).1 h2
        obtain ⟨r, h5, h6⟩ := hd.done s os h3 (hnot s hah (by omega))
        simp only [h5]
        exact h6 t h4
    | none =>
      obtain ⟨_, h1⟩ := srcOf_none hs
      refine hd.base t fun q oq hq hqn hqd => ?_
      rcases Nat.lt_trichotomy q j with h2 | h2 | h2
      · exact h1 q oq hq (by omega) hqd
      · subst h2; exact hqn (by simp)
      · have hah := (hok.reads q oq t hq hqd ht (by omega)).2 h2
        have hlt : q < all.length := (List.getElem?_eq_some_iff.1 hq).1
        exact hqn (hd.left.closed j q (by simp) hah hlt)
  | const v => exact ofConst_VR ρ v
  | global g => exact trivial
  | func f => exact ⟨fun l h => (by cases h), #[], #[], rfl, rfl, rfl⟩

/-- Is the head of a drawn order wanted? -/
theorem DrawR.wants {all : List Oper} {i : Nat} {res : T AVal} {al : List (Nat × Nat × ABlk)} {n : Nat} {tm : T AVal} {tmps : Array Value} {j : Nat} {rest : List Nat} (hd : DrawR P ρ all i res al n tm tmps (j :: rest)) {o : Oper} (ho : all[j]? = some o) {b : Bool}
    (hw : wantedA res.get o = some b) : Region.wanted o (yielded all.toArray tmps) = b := by
  unfold wantedA at hw
  unfold Region.wanted
  cases hg : o.guard with
  | none => rw [hg] at hw; simp only [Option.some.injEq] at hw; exact hw
  | some q =>
    obtain ⟨g, want⟩ := q
    rw [hg] at hw
    simp only at hw ⊢
    obtain ⟨hlt, hah, og, d, h1, h2⟩ := (drawOk_op hd.ok ho).guard g want hg
    have hnot : g ∉ j :: rest := fun hm => by
      rcases List.mem_cons.1 hm with h | h
      · omega
      · have := (List.pairwise_cons.1 hd.left.lin).1 g h
        rw [hah] at this; cases this
    obtain ⟨r, h3, h4⟩ := hd.done g og h1 hnot
    have h5 := h4 d h2
    have hdn : d < tmps.size := by rw [hd.size]; exact hd.dsts g og d h1 h2
    have hy : yielded all.toArray tmps g = match tmps.getD d Go.undef with | .bool b => some b | _ => none := by
      unfold yielded
      have e1 : all.toArray[g]? = some og := by simpa using h1
      rw [e1, Option.bind_some, h2, Option.bind_some, Array.getD_eq_getD_getElem?, Array.getElem?_eq_getElem hdn, Option.getD_some]
      cases tmps[d] <;> rfl
    rw [h3] at hw
    rw [hy]
    cases r with
    | bool q =>
      simp only [Option.some.injEq] at hw
      rw [h5, ← hw, boolBeq_eq]
      rfl
    | top => cases hw
    | _ =>
      simp only [Option.some.injEq] at hw
      subst hw
      have ht := VR.tag (by simp) h5
      cases hv : tmps.getD d Go.undef <;> rw [hv] at ht <;> first | rfl | (simp [vtag, AVal.tag] at ht)
end

end Go.Eng
/-! In a region that draws its order the model catches up with the engine. -/
namespace Go.Eng

section
variable {P : Program} {ρ : Ren}

theorem nodup_map_inj {α β : Type} {f : α → β} : ∀ {l : List α}, (l.map f).Nodup → ∀ {a b : α}, a ∈ l → b ∈ l → f a = f b → a = b
  | [], _, a, _, ha, _, _ => by cases ha
  | c :: l, hn, a, b, ha, hb, he => by
    rw [List.map_cons, List.nodup_cons] at hn
    rcases List.mem_cons.1 ha with h1 | h1
    · rcases List.mem_cons.1 hb with h2 | h2
      · rw [h1, h2]
      · exact absurd (List.mem_map.2 ⟨b, h2, by rw [← he, h1]⟩) hn.1
    · rcases List.mem_cons.1 hb with h2 | h2
      · exact absurd (List.mem_map.2 ⟨a, h1, by rw [he, h2]⟩) hn.1
      · exact nodup_map_inj hn.2 h1 h2 he

theorem putD_size (dst : Option Nat) (x : Value) (tmps : Array Value) : (putD dst x tmps).size = tmps.size := by cases dst <;> simp [putD]
theorem putD_ne {dst : Option Nat} {x : Value} {tmps : Array Value} {t : Nat} (h : dst ≠ some t) : (putD dst x tmps).getD t Go.undef = tmps.getD t Go.undef := by
  cases dst with
  | none => rfl
  | some d =>
    simp only [putD, Array.getD_eq_getD_getElem?, Array.getElem?_setIfInBounds]
    rw [if_neg]
    intro e; exact h (by rw [e])
theorem putD_eq {d : Nat} {x : Value} {tmps : Array Value} (h : d < tmps.size) : (putD (some d) x tmps).getD d Go.undef = x := by
  simp [putD, Array.getD_eq_getD_getElem?, h]

theorem DrawR.did {all : List Oper} {i : Nat} {res res' : T AVal} {al : List (Nat × Nat × ABlk)} {n : Nat} {tm : T AVal} {tmps : Array Value} {j : Nat} {rest : List Nat} (hd : DrawR P ρ all i res al n tm tmps (j :: rest))
    {o : Oper} (ho : all[j]? = some o) {ρ' : Ren} (hle : ρ.le ρ') (hids : ∀ q id blk, (q, id, blk) ∈ al → q ∈ rest → ρ' id = none) {r : AVal} (hr : res'.get j = some r) (hne : ∀ q, q ≠ j → res'.get q = res.get q) (hext : ResLe res res')
    {x : Value} (hx : VR ρ' r x) : DrawR P ρ' all i res' al n tm (putD o.dst x tmps) rest := by
  have hnd := List.nodup_cons.1 hd.left.nodup
  constructor
  · exact hd.ok
  · rw [putD_size]; exact hd.size
  · exact hd.left.tail
  · intro q oq hq hqn
    by_cases e : q = j
    · subst e
      rw [ho] at hq; cases hq
      refine ⟨r, hr, fun d hdst => ?_⟩
      rw [hdst, putD_eq (by rw [hd.size]; exact hd.dsts q o d ho hdst)]
      exact hx
    · obtain ⟨r', h1, h2⟩ := hd.done q oq hq (by simp [e, hqn])
      refine ⟨r', by rw [hne q e]; exact h1, fun d hdst => ?_⟩
      rw [putD_ne]
      · exact (h2 d hdst).mono hle
      · intro hod; exact e (drawOk_inj hd.ok hq ho hdst hod)
  · intro t ht
    have hot : o.dst ≠ some t := ht j o ho hnd.1
    rw [putD_ne hot]
    refine (hd.base t fun q oq hq hqn => ht q oq hq fun hm => hqn (by simp [hm])).mono hle
  · exact hd.dsts
  · intro q hq hql
    by_cases e : q = j
    · subst e; rw [hr]; simp
    · rw [hne q e]; exact hd.behind q hq hql
  · intro q oq rq hq hqr hrq
    have hqj : q ≠ j := fun e => by subst e; exact hnd.1 hqr
    rw [hne q hqj] at hrq
    rcases hd.known q oq rq hq (by simp [hqr]) hrq with ⟨h1, h2⟩ | ⟨h1, h2⟩ | ⟨h1, h2, id, blk, ev, mk, h3, h4, h5, h6⟩
    · exact .inl ⟨wantedA_ext hext h1, h2⟩
    · exact .inr (.inl ⟨wantedA_ext hext h1, h2⟩)
    · exact .inr (.inr ⟨wantedA_ext hext h1, h2, id, blk, ev, mk, h3, evD_ext hext h4, h5, h6⟩)
  · exact hids
  · intro q id blk hq hn
    cases hr' : res.get q with
    | none => exact hd.alres q id blk hq hr'
    | some v => rw [hext q v hr'] at hn; cases hn

theorem ResLe.refl (res : T AVal) : ResLe res res := fun _ _ h => h

theorem EvR.weak {ev ev' : Operand → AVal} {e : Operand → Value} {l : List Operand} (h : EvLe ev ev') (hr : EvR ρ ev' e l) : EvR ρ ev e l := fun x hx => by
  rcases h x with h1 | h1
  · rw [h1]; exact hr x hx
  · rw [h1]; exact trivial

/-- A frame that runs, taken apart. -/
theorem FR.open {a : AFrame} {f : Frame} (hf : FR P ρ a f) (hm : a.mode = .run) : ∃ tmps todo ds rnd, f = mkF a.fn tmps todo ds a.kind rnd ∧ RR ρ a.rnd rnd ∧ DRs ρ a.ds ds ∧ TodoR P ρ a.n a.tm tmps a.todo todo := by
  obtain ⟨fn, tmps, todo, ds, mode, kind, rnd⟩ := f
  obtain ⟨h1, h2, h3, h4, h5, h6, h7⟩ := hf
  simp only at h1 h2 h3 h4 h5 h6
  rw [hm] at h5
  cases h5
  subst h1 h2
  exact ⟨tmps, todo, ds, rnd, rfl, h3, h4, h6 hm⟩

theorem FR.close {a : AFrame} (hm : a.mode = .run) {fn : Nat} {kind : CallKind} (h1 : fn = a.fn) (h2 : kind = a.kind) {tmps : Array Value} {todo : List Item} {ds : List Deferred} {rnd : Option Nat} (h3 : RR ρ a.rnd rnd) (h4 : DRs ρ a.ds ds) (h5 : TodoR P ρ a.n a.tm tmps a.todo todo) :
    FR P ρ a (mkF fn tmps todo ds kind rnd) where
  fn := h1
  kind := h2
  rnd := h3
  ds := h4
  mode := by rw [hm]; rfl
  run := fun _ => h5
  held := fun h => absurd hm h

theorem opKind_defer (ty : Tys) (c : Call) : opKind ty (.defer c) = .eff := rfl

/-- The head of the order is done in the model, where its answer is known. -/
theorem run_head {base : Nat} {cs0 : List Frame} {c : Cfg} {fr : Frame} {cs : List Frame} {W : World} (hc : CR P base cs0 ρ c fr cs W) (hm : c.fr.mode = .run) {all : List Oper} {i : Nat} {res : T AVal} {al : List (Nat × Nat × ABlk)} {k : List AItem}
    (htodo : c.fr.todo = .draw all i res al false :: k) {j : Nat} {rest : List Nat} {k' : List Item} (hfr : fr.todo = .inRegion all.toArray (j :: rest) :: k') {r : AVal} (hres : res.get j = some r) :
    ∃ ρ' fr' W', Steps P (lone fr cs W) (lone fr' cs W') ∧ CR P base cs0 ρ' c fr' cs W' ∧ fr'.todo = .inRegion all.toArray rest :: k' ∧ (∀ i, i < base → W'.heap[i]? = W.heap[i]?) ∧ Rest W W' := by
  obtain ⟨tmps, todo, ds, rnd, rfl, hrnd, hds, ht⟩ := hc.top.open hm
  rw [htodo] at ht
  obtain ⟨order, k2, h1, hk, hd, _⟩ := ht
  simp only at hfr
  rw [h1] at hfr
  simp only [List.cons.injEq, Item.inRegion.injEq, true_and] at hfr
  obtain ⟨rfl, rfl⟩ := hfr
  subst h1
  have hpend := hc.pend hm all i res al k htodo (j :: rest) k2 rfl
  have hjl := hd.left.lt j (by simp)
  obtain ⟨o, ho⟩ : ∃ o, all[j]? = some o := ⟨all[j], List.getElem?_eq_getElem hjl⟩
  have hoa : all.toArray[j]? = some o := by simpa using ho
  have hnd := List.nodup_cons.1 hd.left.nodup
  have hfin : ∀ v, (mkF c.fr.fn tmps (.inRegion all.toArray (j :: rest) :: k2) ds c.fr.kind rnd).finish v = mkF c.fr.fn (putD o.dst v tmps) (.inRegion all.toArray rest :: k2) ds c.fr.kind rnd := by
    intro v
    simp only [Frame.finish, hoa, Option.bind_some]
    cases o.dst <;> rfl
  -- what remains to be shown of the configuration behind the step
  have hcr : ∀ (ρ' : Ren) (W' : World) (x : Value), ρ.le ρ' → HR ρ' c.H W'.heap → (∀ b w, ρ' b = some w → base ≤ w.c) → base ≤ W'.heap.size → VR ρ' r x →
      (∀ q id blk, (q, id, blk) ∈ al → q ∈ rest → ρ' id = none) → (∀ id ∈ c.cs.flatMap fun a => idsOf a.todo, ρ id = none → ρ' id = none) →
      CR P base cs0 ρ' c (mkF c.fr.fn (putD o.dst x tmps) (.inRegion all.toArray rest :: k2) ds c.fr.kind rnd) cs W' := by
    intro ρ' W' x hle hh hold hbig hx hun hoth
    refine ⟨hh, hold, hbig, ?_, ?_, hc.rest.mono hle hoth, hc.ids, hc.idlt⟩
    · refine FR.close hm rfl rfl (hrnd.mono hle) (hds.mono hle) ?_
      rw [htodo]
      exact ⟨rest, k2, rfl, hk.mono hle, hd.did ho hle hun hres (fun _ _ => rfl) (ResLe.refl _) hx, fun h => by cases h⟩
    · intro _ all2 i2 res2 al2 kk hh2 order2 k3 hh3
      rw [htodo] at hh2
      simp only [List.cons.injEq, AItem.draw.injEq, and_true] at hh2
      obtain ⟨⟨rfl, rfl, rfl, rfl⟩, rfl⟩ := hh2
      simp only [List.cons.injEq, Item.inRegion.injEq, true_and] at hh3
      obtain ⟨rfl, rfl⟩ := hh3
      intro q oq rq h3 h4 h5 h6
      exact hpend q oq rq h3 (by simp [h4]) h5 h6
  rcases hd.known j o r ho (by simp) hres with ⟨h1, h2⟩ | ⟨h1, h2⟩ | ⟨h1, h2, id, blk, ev, mk, h3, h4, h5, h6⟩
  · have hw := hd.wants ho h1
    refine ⟨ρ, _, W, Steps.one (st_unwanted (by rw [hoa]; exact hw)), ?_, ?_, fun _ _ => rfl, Rest.refl _⟩
    · rw [hfin]
      exact hcr ρ W Go.undef ρ.le_refl hc.heap hc.old hc.big (by rw [h2]; exact ⟨_, rfl, rfl⟩) (fun q id blk hq hqr => hd.unplaced q id blk hq (by simp [hqr])) (fun _ _ h => h)
    · rw [hfin]
  · have hw := hd.wants ho h1
    obtain ⟨ev, h3, h4⟩ := (hpend j o r ho (by simp) hres h1).1 h2
    have hsee := hd.sees (fr := mkF c.fr.fn tmps (.inRegion all.toArray (j :: rest) :: k2) ds c.fr.kind rnd) ho
    obtain ⟨v, W', h5, h6, h7, h8, h9⟩ := qop_sound hc.heap (hsee.weak h3) h4
    have hnd2 : rnd = none ∨ ∀ c, o.op ≠ .defer c := .inr fun c hcc => by rw [hcc, opKind_defer] at h2; cases h2
    refine ⟨ρ, _, W', Steps.one (st_value rfl hoa hw hnd2 h5 (.inl rfl)), ?_, ?_, h8.below hc.old hc.big, h9⟩
    · rw [hfin]
      exact hcr ρ W' v ρ.le_refl h7 hc.old (Nat.le_trans hc.big h8.1) h6 (fun q id blk hq hqr => hd.unplaced q id blk hq (by simp [hqr])) (fun _ _ h => h)
    · rw [hfin]
  · have hw := hd.wants ho h1
    have hblk := (hpend j o r ho (by simp) hres h1).2 h2 id blk h3
    have hsee := hd.sees (fr := mkF c.fr.fn tmps (.inRegion all.toArray (j :: rest) :: k2) ds c.fr.kind rnd) ho
    obtain ⟨⟨obj, v, W', nn, h7, h8, h9, h10⟩, _⟩ := aop_sound (ρ := ρ) (W := W) (hsee.weak h4) h5
    have hnd2 : rnd = none ∨ ∀ c, o.op ≠ .defer c := .inr fun c hcc => by rw [hcc, opKind_defer] at h2; cases h2
    have hidn : ρ id = none := hd.unplaced j id blk h3 (by simp)
    have hE : Ext ρ 0 W.heap (fun x => if x = id then some ⟨W.heap.size, 0, 0, nn⟩ else ρ x) := Ext.place hidn (Nat.zero_le _) rfl
    obtain ⟨h11, h12⟩ := h10 id _ hE.le (if_pos rfl)
    have hidtop : id ∈ idsOf c.fr.todo := by rw [htodo]; exact List.mem_map.2 ⟨_, h3, rfl⟩
    have hidn2 := List.nodup_append.1 hc.ids
    refine ⟨(fun x => if x = id then some ⟨W.heap.size, 0, 0, nn⟩ else ρ x), _, W', Steps.one (st_value rfl hoa hw hnd2 h7 (.inl rfl)), ?_, ?_, ?_, h9⟩
    · rw [hfin]
      refine hcr _ W' v hE.le ?_ (hE.old hc.old hc.big) ?_ (by rw [h6]; exact h12) ?_ ?_
      · rw [h8]; exact hc.heap.place hblk hidn rfl h11
      · rw [h8, Array.size_push]; exact Nat.le_succ_of_le hc.big
      · intro q id2 blk2 hq hqr
        have hqj : q ≠ j := fun e => by subst e; exact hnd.1 hqr
        have hne : id2 ≠ id := fun e => by
          have hn := hidn2.1
          rw [htodo] at hn
          have := nodup_map_inj hn hq h3 e
          cases this; exact hqj rfl
        rw [if_neg hne]
        exact hd.unplaced q id2 blk2 hq (by simp [hqr])
      · intro id2 hid2 hnone
        rw [if_neg (fun e => hidn2.2.2 id hidtop id2 hid2 e.symm)]
        exact hnone
    · rw [hfin]
    · rw [h8]
      intro i hi
      have := hc.big
      rw [Array.getElem?_push_lt (by omega), Array.getElem?_eq_getElem (by omega)]

theorem run_pre {base : Nat} {cs0 : List Frame} {c : Cfg} {cs : List Frame} (hm : c.fr.mode = .run) {all : List Oper} {i : Nat} {res : T AVal} {al : List (Nat × Nat × ABlk)} {k : List AItem} (htodo : c.fr.todo = .draw all i res al false :: k) {k' : List Item} {post : List Nat} :
    ∀ (pre : List Nat) (ρ : Ren) (fr : Frame) (W : World), CR P base cs0 ρ c fr cs W → fr.todo = .inRegion all.toArray (pre ++ post) :: k' → (∀ j ∈ pre, res.get j ≠ none) →
    ∃ ρ' fr' W', Steps P (lone fr cs W) (lone fr' cs W') ∧ CR P base cs0 ρ' c fr' cs W' ∧ fr'.todo = .inRegion all.toArray post :: k' ∧ (∀ i, i < base → W'.heap[i]? = W.heap[i]?) ∧ Rest W W'
  | [], ρ, fr, W, hc, hfr, _ => ⟨ρ, fr, W, Steps.refl _ _, hc, hfr, fun _ _ => rfl, Rest.refl _⟩
  | j :: pre, ρ, fr, W, hc, hfr, hp => by
    obtain ⟨r, hr⟩ : ∃ r, res.get j = some r := by
      cases h : res.get j with
      | none => exact absurd h (hp j (by simp))
      | some r => exact ⟨r, rfl⟩
    obtain ⟨ρ1, fr1, W1, h1, h2, h3, h4, h5⟩ := run_head hc hm htodo hfr hr
    obtain ⟨ρ2, fr2, W2, g1, g2, g3, g4, g5⟩ := run_pre hm htodo pre ρ1 fr1 W1 h2 h3 (fun j hj => hp j (by simp [hj]))
    exact ⟨ρ2, fr2, W2, h1.trans g1, g2, g3, fun i hi => (g4 i hi).trans (h4 i hi), h5.trans g5⟩

end
end Go.Eng
/-! Frames that finish, raise, are entered; what becomes of an operation. -/
namespace Go.Eng

section
variable {P : Program} {ρ : Ren}

def notDrawing : List AItem → Prop
  | .draw _ _ _ _ false :: _ => False
  | _ => True

theorem range_cons (i n : Nat) : List.range' i (n + 1) = i :: List.range' (i + 1) n := rfl

theorem finish_sound {a a' : AFrame} {f : Frame} (hf : FR P ρ a f) {v : AVal} {x : Value} (hv : VR ρ v x) (h : finishA a v = some a') :
    FR P ρ a' (f.finish x) ∧ idsOf a'.todo = idsOf a.todo ∧ a.mode = .run ∧ notDrawing a'.todo := by
  unfold finishA at h
  cases hm : a.mode with
  | run =>
    rw [hm] at h
    simp only at h
    obtain ⟨tmps, todo, ds, rnd, rfl, hrnd, hds, ht⟩ := hf.open hm
    split at h
    · rename_i all i o rest k htd
      rw [htd] at ht
      obtain ⟨⟨order, k', rfl, h1, h2, h3⟩, h4⟩ := ht
      cases hs : setTm a.n a.tm o.dst v with
      | none => simp [hs] at h
      | some tm =>
        simp only [hs, Option.some.injEq] at h
        subst h
        rw [List.length_cons, range_cons] at h2
        subst h2
        simp only [List.map_cons, List.cons.injEq] at h1
        have hfin : (mkF a.fn tmps (.inRegion all (i :: List.range' (i + 1) rest.length) :: k') ds a.kind rnd).finish x = mkF a.fn (putD o.dst x tmps) (.inRegion all (List.range' (i + 1) rest.length) :: k') ds a.kind rnd := by
          simp only [Frame.finish, h1.1, Option.bind_some]
          cases o.dst <;> rfl
        rw [hfin]
        refine ⟨FR.close (by first | exact hm | rfl) rfl rfl hrnd hds ⟨⟨_, k', rfl, h1.2, rfl, h3⟩, TR.set h4 hv hs⟩, by rw [htd]; rfl, rfl, trivial⟩
    · rename_i all i res al k htd
      rw [htd] at ht
      obtain ⟨order, k', rfl, h1, h2, h3⟩ := ht
      cases hri : res.get i with
      | some _ => simp [hri] at h
      | none =>
        simp only [hri, Option.some.injEq] at h
        subst h
        have hh := (h3 rfl).1 hri
        cases order with
        | nil => simp at hh
        | cons j rest =>
          simp only [List.head?_cons, Option.some.injEq] at hh
          subst hh
          have hjl := h2.left.lt j (by simp)
          obtain ⟨o, ho⟩ : ∃ o, all[j]? = some o := ⟨all[j], List.getElem?_eq_getElem hjl⟩
          have hoa : all.toArray[j]? = some o := by simpa using ho
          have hnd := List.nodup_cons.1 h2.left.nodup
          have hfin : (mkF a.fn tmps (.inRegion all.toArray (j :: rest) :: k') ds a.kind rnd).finish x = mkF a.fn (putD o.dst x tmps) (.inRegion all.toArray rest :: k') ds a.kind rnd := by
            simp only [Frame.finish, hoa, Option.bind_some]
            cases o.dst <;> rfl
          rw [hfin]
          have hle : ResLe res (res.set j v) := fun g q hg => by
            rw [T.get_set, if_neg (fun e => by subst e; rw [hri] at hg; cases hg)]; exact hg
          refine ⟨FR.close (by first | exact hm | rfl) rfl rfl hrnd hds ⟨rest, k', rfl, h1, ?_, fun _ => ⟨fun hn => ?_, fun _ => ⟨hnd.1, fun q hq => (List.pairwise_cons.1 h2.left.lin).1 q hq⟩⟩⟩, by rw [htd]; rfl, rfl, trivial⟩
          · exact h2.did ho ρ.le_refl (fun q id blk hq hqr => h2.unplaced q id blk hq (by simp [hqr])) (by rw [T.get_set, if_pos rfl]) (fun q hq => by rw [T.get_set, if_neg hq]) hle hv
          · rw [T.get_set, if_pos rfl] at hn; cases hn
    · rename_i l k htd
      rw [htd] at ht
      obtain ⟨⟨w, k', h0, rfl, h1⟩, h4⟩ := ht
      simp only [Option.some.injEq] at h
      subst h
      exact ⟨FR.close (by first | exact hm | rfl) rfl rfl hrnd hds ⟨⟨w, k', h0, rfl, h1⟩, h4⟩, by rw [htd]; rfl, rfl, trivial⟩
    · cases h
  | _ => rw [hm] at h; cases h

theorem smear_sound {n : Nat} {tmps : Array Value} (hn : tmps.size = n) : ∀ {l : List Oper} {tm tm' : T AVal}, (∀ t, (∀ o ∈ l, o.dst ≠ some t) → VR ρ (tget tm t) (tmps.getD t Go.undef)) → smear n l tm = some tm' → TR ρ n tm' tmps
  | [], tm, tm', hb, h => by
    simp only [smear, Option.some.injEq] at h
    subst h
    exact ⟨hn, fun t => hb t fun o ho => by cases ho⟩
  | o :: l, tm, tm', hb, h => by
    unfold smear at h
    cases hs : setTm n tm o.dst .top with
    | none => simp [hs] at h
    | some tm1 =>
      simp only [hs] at h
      refine smear_sound hn (fun t ht => ?_) h
      unfold setTm at hs
      cases hd : o.dst with
      | none =>
        rw [hd] at hs
        simp only [Option.some.injEq] at hs
        subst hs
        exact hb t fun o' ho' => by
          rcases List.mem_cons.1 ho' with rfl | h1
          · rw [hd]; simp
          · exact ht o' h1
      | some d =>
        rw [hd] at hs
        obtain ⟨_, hs⟩ := shutTrue hs
        simp only [Option.some.injEq] at hs
        subst hs
        unfold tget
        rw [T.get_set]
        by_cases e : t = d
        · rw [if_pos e]; exact trivial
        · rw [if_neg e]
          exact hb t fun o' ho' => by
            rcases List.mem_cons.1 ho' with rfl | h1
            · rw [hd]; intro h2; exact e (by simpa using h2.symm)
            · exact ht o' h1

def chainA (m : AMode) (chain : List (AVal × Bool)) : List (AVal × Bool) := match m with | .panicking old => chain ++ old | _ => chain

theorem raiseA_eq (a : AFrame) (chain : List (AVal × Bool)) : raiseA a chain = match a.todo with
    | .draw all _ _ _ _ :: _ => (match smear a.n all a.tm with | some tm => some { a with mode := .panicking (chainA a.mode chain), tm } | none => none)
    | _ => some { a with mode := .panicking (chainA a.mode chain) } := by
  unfold raiseA chainA
  cases a.mode <;> rfl

theorem raise_sound {a a' : AFrame} {f : Frame} (hf : FR P ρ a f) {chain : List (AVal × Bool)} {ch : List PanicEntry} (hc : PRs ρ chain ch) (h : raiseA a chain = some a') :
    FR P ρ a' (f.raise ch) ∧ a'.todo = a.todo ∧ a'.mode ≠ .run := by
  rw [raiseA_eq] at h
  have hmode : MR ρ (.panicking (chainA a.mode chain)) (f.raise ch).mode := by
    have hm := hf.mode
    cases ha : a.mode with
    | run => rw [ha] at hm; exact ⟨ch, by simp only [Frame.raise]; rw [show f.mode = .run from hm], hc⟩
    | returning => rw [ha] at hm; exact ⟨ch, by simp only [Frame.raise]; rw [show f.mode = .returning from hm], hc⟩
    | panicking old => rw [ha] at hm; obtain ⟨ch', h1, h2⟩ := hm; exact ⟨ch ++ ch', by simp only [Frame.raise]; rw [h1], hc.append h2⟩
  have hrest : (f.raise ch).fn = f.fn ∧ (f.raise ch).kind = f.kind ∧ (f.raise ch).roundOf = f.roundOf ∧ (f.raise ch).defers = f.defers ∧ (f.raise ch).tmps = f.tmps := by
    unfold Frame.raise
    cases f.mode <;> exact ⟨rfl, rfl, rfl, rfl, rfl⟩
  obtain ⟨e1, e2, e3, e4, e5⟩ := hrest
  have mk : ∀ tm, TR ρ a.n tm f.tmps → FR P ρ { a with mode := .panicking (chainA a.mode chain), tm } (f.raise ch) := fun tm ht =>
    ⟨e1.trans hf.fn, e2.trans hf.kind, by rw [e3]; exact hf.rnd, by rw [e4]; exact hf.ds, hmode, fun h => (by cases h), fun _ => (by rw [e5]; exact ht)⟩
  split at h
  · rename_i all i res al busy k htd
    cases hs : smear a.n all a.tm with
    | none => simp [hs] at h
    | some tm =>
      simp only [hs, Option.some.injEq] at h
      subst h
      refine ⟨mk tm ?_, rfl, fun h => by cases h⟩
      cases hm : a.mode with
      | run =>
        have := hf.run hm
        rw [htd] at this
        obtain ⟨order, k', h1, h2, h3, h4⟩ := this
        exact smear_sound h3.size (fun t ht => h3.base t fun q oq hq _ => ht oq (List.mem_of_getElem? hq)) hs
      | returning => have := hf.held (by rw [hm]; simp); exact smear_sound this.1 (fun t _ => this.2 t) hs
      | panicking _ => have := hf.held (by rw [hm]; simp); exact smear_sound this.1 (fun t _ => this.2 t) hs
  · rename_i hnd
    simp only [Option.some.injEq] at h
    subst h
    refine ⟨mk a.tm ?_, rfl, fun h => by cases h⟩
    cases hm : a.mode with
    | run =>
      have := hf.run hm
      cases htd : a.todo with
      | nil => rw [htd] at this; exact this.2
      | cons it k =>
        rw [htd] at this
        cases it with
        | draw all i res al busy => exact absurd htd (hnd all i res al busy k)
        | _ => exact this.2
    | returning => exact hf.held (by rw [hm]; simp)
    | panicking _ => exact hf.held (by rw [hm]; simp)

/-! ### Frames that are entered -/
theorem enter_sound {g : Nat} {args : List AVal} {args' : Array Value} (ha : VRs ρ args args'.toList) {kind : CallKind} {a : AFrame} (h : enterA (envOf P) g args kind = some a) : FR P ρ a (Frame.enter P g args' kind) ∧ idsOf a.todo = [] ∧ a.mode = .run ∧ notDrawing a.todo := by
  unfold enterA at h
  cases hfn : (envOf P).fn g with
  | none => simp [hfn] at h
  | some fn =>
    simp only [hfn] at h
    have hfn : P.funcs[g]? = some fn := hfn
    cases hb : fn.body with
    | none => simp [hb] at h
    | some c =>
      simp only [hb, Option.some.injEq] at h
      subst h
      have hl := ha.length
      simp only [Array.length_toList] at hl
      refine ⟨FR.close rfl rfl rfl rfl rfl ⟨⟨[], ?_, rfl⟩, ⟨?_, fun t => ?_⟩⟩, rfl, rfl, trivial⟩
      · simp [hfn, hb]
      · simp only [Array.size_append, Array.size_replicate, hfn, Option.map_some, Option.getD_some]
        show _ = max fn.ntmps args.length
        omega
      · unfold tget
        rw [T.get_ofL, Array.getD_eq_getD_getElem?, Array.getElem?_append]
        cases hat : args[t]? with
        | some v =>
          obtain ⟨x, h1, h2⟩ := ha.get hat
          rw [Array.getElem?_toList] at h1
          rw [if_pos (lt_of_get h1), h1]
          exact h2
        | none =>
          have : args.length ≤ t := by
            rcases Nat.lt_or_ge t args.length with h | h
            · rw [List.getElem?_eq_getElem h] at hat; cases hat
            · exact h
          rw [if_neg (by omega)]
          simp only [Array.getElem?_replicate]
          split <;> exact ⟨_, rfl, rfl⟩

end
end Go.Eng
