/-
  A part of the proof of LanesNone: joined by a program out of: TmA TmB TmC TmD TmE TmF TmG TmH TmI TmJ TmK TmL TmM.
-/
import Derived.Test.YtmkjoojoaldljaaKGC1
import Derived.Conc.Events
import Derived.Laws.Sem
namespace Go.Proofs.Ytmkjoojoaldljaa.Tm
def okHalt : Halt → Prop
  | .panic _ => True
  | .stuck _ => True
  | .unsupported (.initOrder _) => False
  | .unsupported _ => True
  | _ => False
def plainObj : Obj → Prop
  | .view .. => False
  | .pending .. => False
  | _ => True
def OkO (b : Nat) : Obj → Prop
  | .view a _ => a.block = b
  | .pending .. => False
  | _ => True
theorem okO_of_plain {o : Obj} (h : plainObj o) (b : Nat) : OkO b o := by cases o <;> first | trivial | exact h.elim
def bare : Obj → Prop
  | .cells c _ _ => c.size = 0
  | .view .. => False
  | .pending .. => False
  | _ => True
def HidB (b : Nat) (x y : Option Obj) : Prop :=
  (∃ c e f, 0 < c.size ∧ y = some (.cells c e f) ∧ x = some (.coro none)) ∨ (∃ a t, y = some (.view a t) ∧ x = some (.view ⟨b, 0, none⟩ t)) ∨ (∃ c e, y = some (.pending c e) ∧ x = some (.coro none)) ∨ ∃ o, bare o ∧ y = some o ∧ x = some o
structure Hid (H : Nat → Prop) (u w : World) : Prop where
  size : u.heap.size = w.heap.size
  os : u.os = w.os
  output : u.output = w.output
  blk : ∀ b, ¬ H b → u.heap[b]? = w.heap[b]?
  hid : ∀ b, H b → HidB b u.heap[b]? w.heap[b]?
  npv : ∀ (b : Nat) (o : Obj), u.heap[b]? = some o → OkO b o
def EvH (H : Nat → Prop) (hi : Nat) (e : Event) : Prop :=
  (∃ a : Addr, e.loc = .cell a ∧ ¬ H a.block ∧ a.block < hi) ∨ (∃ r : Nat, e.loc = .obj r ∧ r < hi) ∨ e = ⟨.mark .noRoom, false, true⟩
def rw {α : Type} : Result α → World
  | .ok _ w => w
  | .halt _ w => w
def rput {α : Type} (r : Result α) (w : World) : Result α :=
  match r with
  | .ok a _ => .ok a w
  | .halt h _ => .halt h w
def Fine {α : Type} : Result α → Prop
  | .ok _ _ => True
  | .halt (.panic _) _ => True
  | _ => False
section
variable {P : Program} {α : Type} {H : Nat → Prop} {u w : World}
theorem HidB.lt {b : Nat} {h1 h2 : Array Obj} (h : HidB b h1[b]? h2[b]?) : b < h2.size := by
  rcases h with ⟨c, e, f, _, e1, _⟩ | ⟨a, t, e1, _⟩ | ⟨c, e, e1, _⟩ | ⟨o, _, e1, _⟩ <;> exact (Array.getElem?_eq_some_iff.1 e1).1
theorem Hid.cellH (h : Hid H u w) {b : Nat} (hb : H b) (a : Addr) (ha : a.block = b) : u.cell? a = none := by
  unfold World.cell?
  rw [ha]
  rcases h.hid b hb with ⟨c, e, f, _, _, e2⟩ | ⟨a', t, _, e2⟩ | ⟨c, e, _, e2⟩ | ⟨o, ho, _, e2⟩ <;> rw [e2]
  cases o with
  | cells c e f =>
    have h0 : c.size = 0 := ho
    have : c = #[] := Array.eq_empty_of_size_eq_zero h0
    subst this
    simp
  | _ => rfl
theorem Hid.not_of_cell (h : Hid H u w) {a : Addr} {v : Value} (hc : u.cell? a = some v) : ¬ H a.block ∧ a.block < w.heap.size ∧ w.cell? a = some v := by
  have hn : ¬ H a.block := fun hb => by
    rw [h.cellH hb a rfl] at hc; cases hc
  refine ⟨hn, ?_, ?_⟩
  · rw [← h.size]
    rcases Nat.lt_or_ge a.block u.heap.size with hl | hl
    · exact hl
    · unfold World.cell? at hc
      rw [Array.getElem?_eq_none hl] at hc
      simp at hc
  · have e := h.blk _ hn
    unfold World.cell? at hc ⊢
    rw [← e]; exact hc
theorem Hid.frozen (h : Hid H u w) (a : Addr) (hb : ¬ H a.block) : w.frozen? a = u.frozen? a := by
  unfold World.frozen?
  rw [h.blk _ hb]
theorem Hid.setCell (h : Hid H u w) {a : Addr} (hn : ¬ H a.block) (v : Value) : Hid H (u.setCell a v) (w.setCell a v) := by
  have hne : ∀ b, b ≠ a.block → ∀ x : World, (x.setCell a v).heap[b]? = x.heap[b]? := fun b hb x => RowKit.Below.heap_setCell x a v b hb
  have hat : ∀ x y : World, x.heap[a.block]? = y.heap[a.block]? → (x.setCell a v).heap[a.block]? = (y.setCell a v).heap[a.block]? := by
    intro x y e
    simp only [World.setCell, Array.getElem?_modify, if_true, e]
  refine ⟨?_, h.os, h.output, fun b hb => ?_, fun b hb => ?_, fun b o ho => ?_⟩
  · simp [World.setCell, h.size]
  · by_cases e : b = a.block
    · subst e; exact hat _ _ (h.blk _ hb)
    · rw [hne b e, hne b e]; exact h.blk b hb
  · have e : b ≠ a.block := by rintro rfl; exact hn hb
    rw [hne b e, hne b e]; exact h.hid b hb
  · by_cases e : b = a.block
    · subst e
      simp only [World.setCell, Array.getElem?_modify, if_true] at ho
      obtain ⟨o', ho', rfl⟩ := Option.map_eq_some_iff.1 ho
      have := h.npv _ _ ho'
      cases o' <;> first | trivial | exact this
    · rw [hne b e] at ho; exact h.npv b o ho
theorem Hid.push (h : Hid H u w) {o : Obj} (ho : plainObj o) : Hid H { u with heap := u.heap.push o } { w with heap := w.heap.push o } := by
  refine ⟨by simp [h.size], h.os, h.output, fun b hb => ?_, fun b hb => ?_, fun b o' ho' => ?_⟩
  · simp only [Array.getElem?_push, h.size]
    rw [h.blk b hb]
  · have hlt := (h.hid b hb).lt
    simp only [Array.getElem?_push, h.size]
    rw [if_neg (by omega), if_neg (by omega)]
    exact h.hid b hb
  · simp only [Array.getElem?_push] at ho'
    split at ho'
    · cases ho'; exact okO_of_plain ho _
    · exact h.npv b o' ho'
theorem Hid.drawn (h : Hid H u w) (i j : Nat) : Hid H { u with drawn := i } { w with drawn := j } := ⟨h.size, h.os, h.output, h.blk, h.hid, h.npv⟩
theorem seen_none {x : World} {at_ : Addr} {t : TypeId} {k : Addr} {b : Bool} (h : ∀ c e f, x.heap[at_.block]? ≠ some (.cells c e f)) : ∃ s, x.seen P at_ t k b = .error s := by
  unfold World.seen
  cases h1 : (k.spot.isSome || at_.spot.isSome)
  · cases h2 : plainCell P P.depth t k.off with
    | none => exact ⟨_, rfl⟩
    | some like =>
      cases h3 : like.bytes?.map (·.length) with
      | none => exact ⟨_, by simp [h3]; rfl⟩
      | some n =>
        cases h4 : byteOfCell P P.depth t k.off with
        | none => exact ⟨_, by simp [h3]; rfl⟩
        | some β =>
          cases h5 : x.heap[at_.block]? with
          | none => exact ⟨_, by simp [h3]; rfl⟩
          | some o =>
            cases o with
            | cells c e f => exact absurd h5 (h c e f)
            | _ => exact ⟨_, by simp [h3]; rfl⟩
  · exact ⟨_, by simp; rfl⟩
theorem Hid.far (h : Hid H u w) (a : Addr) (b : Bool) : ∃ x, u.farLoad P a b = .error x ∧ okHalt x ∧ ¬ ∃ v, x = .panic v := by
  unfold World.farLoad World.noCell
  cases ho : u.heap[a.block]? with
  | none => exact ⟨_, rfl, trivial, by simp⟩
  | some o =>
    have := h.npv _ _ ho
    cases o with
    | view at_ t =>
      have e : at_.block = a.block := this
      obtain ⟨s, hs⟩ := seen_none (P := P) (x := u) (at_ := at_) (t := t) (k := a) (b := b) (fun c e' f => by rw [e, ho]; simp)
      refine ⟨.unsupported (.unsafePointer s), ?_, trivial, by simp⟩
      simp only [World.viewLoad, hs]
      rfl
    | pending c e => exact this.elim
    | _ => exact ⟨_, rfl, trivial, by simp⟩
theorem Hid.farS (h : Hid H u w) (a : Addr) (v : Value) (b : Bool) : ∃ x, u.farStore P a v b = .error x ∧ okHalt x ∧ ¬ ∃ v, x = .panic v := by
  unfold World.farStore World.noCell
  cases ho : u.heap[a.block]? with
  | none => exact ⟨_, rfl, trivial, by simp⟩
  | some o =>
    have := h.npv _ _ ho
    cases o with
    | view at_ t =>
      have e : at_.block = a.block := this
      obtain ⟨s, hs⟩ := seen_none (P := P) (x := u) (at_ := at_) (t := t) (k := a) (b := b) (fun c e' f => by rw [e, ho]; simp)
      have : ∃ s, u.viewStore P at_ t a v b = .error s := by
        unfold World.viewStore
        cases tight P P.depth t
        · exact ⟨_, by simp; rfl⟩
        · simp only [Bool.not_true, Bool.false_eq_true, if_false, hs]
          exact ⟨s, rfl⟩
      obtain ⟨s', hs'⟩ := this
      exact ⟨.unsupported (.unsafePointer s'), by simp only [hs'], trivial, by simp⟩
    | pending c e => exact this.elim
    | _ => exact ⟨_, rfl, trivial, by simp⟩
end
end Go.Proofs.Ytmkjoojoaldljaa.Tm
namespace Go.Proofs.Ytmkjoojoaldljaa.Tm
def Al (u w u' : World) : Prop := ∀ n, u.drawn ≤ n → n < u'.drawn → w.tape (w.drawn + (n - u.drawn)) = u.tape n
structure Nx (H : Nat → Prop) (u u' w w' : World) : Prop where
  hid : Hid H u' w'
  tape : w'.tape = w.tape
  drawn : w'.drawn = w.drawn + (u'.drawn - u.drawn)
  keep : ∀ b, H b → w'.heap[b]? = w.heap[b]?
theorem Nx.same {H : Nat → Prop} {u w : World} (h : Hid H u w) : Nx H u u w w := ⟨h, rfl, by simp, fun _ _ => rfl⟩
theorem Nx.trans {H : Nat → Prop} {u u1 u2 w w1 w2 : World} (h : Nx H u u1 w w1) (k : Nx H u1 u2 w1 w2) (h1 : u.drawn ≤ u1.drawn) (h2 : u1.drawn ≤ u2.drawn) : Nx H u u2 w w2 :=
  ⟨k.hid, k.tape.trans h.tape, by rw [k.drawn, h.drawn]; omega, fun b hb => (k.keep b hb).trans (h.keep b hb)⟩
theorem Al.fst {u w u1 u2 : World} (h : Al u w u2) (h2 : u1.drawn ≤ u2.drawn) : Al u w u1 := fun n a b => h n a (by omega)
theorem Al.snd {H : Nat → Prop} {u w u1 u2 w1 : World} (h : Al u w u2) (k : Nx H u u1 w w1) (h1 : u.drawn ≤ u1.drawn) (ht : u1.tape = u.tape) : Al u1 w1 u2 := fun n a b => by
  rw [k.tape, k.drawn, ht]
  have := h n (by omega) b
  rw [← this]
  congr 1
  omega
section
variable {α β : Type}
def SimG (P : Program) (g t : Bool) (L : α → Prop) (s : Sem α) : Prop :=
  ∀ (H : Nat → Prop) (u w : World), Hid H u w → ∀ r, s.run P u = r →
    (∀ a u', r = .ok a u' → L a) ∧ (∀ h u', r = .halt h u' → okHalt h) ∧
    (Fine r → (rw r).tape = u.tape ∧ u.drawn ≤ (rw r).drawn ∧ u.heap.size ≤ (rw r).heap.size ∧ (g = false → (rw r).heap.size = u.heap.size) ∧
      ∀ es, Al u w (rw r) → ∃ w' es2, s.runT P w es = (rput r w', es2) ∧ Nx H u (rw r) w w' ∧ (t = false → es2 = es) ∧ ∀ e ∈ es2, e ∈ es ∨ EvH H w.heap.size e)
variable {P : Program} {g t : Bool} {L : α → Prop} {L' : β → Prop} {s : Sem α}
theorem SimG.mono (h : SimG P g t L s) {M : α → Prop} (hl : ∀ a, L a → M a) : SimG P true true M s := fun H u w hH r hr => by
  obtain ⟨a1, a2, a3⟩ := h H u w hH r hr
  refine ⟨fun a u' e => hl _ (a1 a u' e), a2, fun hf => ?_⟩
  obtain ⟨b1, b2, b3, _, b5⟩ := a3 hf
  refine ⟨b1, b2, b3, (by simp), fun es hal => ?_⟩
  obtain ⟨w', es2, c1, c2, _, c4⟩ := b5 es hal
  exact ⟨w', es2, c1, c2, by simp, c4⟩
theorem SimG.any (h : SimG P g t L s) : SimG P g t (fun _ => True) s := fun H u w hH r hr => by
  obtain ⟨_, a2, a3⟩ := h H u w hH r hr
  exact ⟨fun _ _ _ => trivial, a2, a3⟩
theorem simG_halt {h : Halt} (hh : okHalt h) : SimG P g t L (.halt h) := by
  intro H u w hH r hr
  subst hr
  refine ⟨fun a u' e => (by cases e), fun h' u' e => (by cases e; exact hh), fun hf => ⟨rfl, Nat.le_refl _, Nat.le_refl _, fun _ => rfl, fun es _ => ⟨w, es, rfl, .same hH, fun _ => rfl, fun e he => .inl he⟩⟩⟩
theorem simG_pure {a : α} (h : L a) : SimG P g t L (.pure a) := by
  intro H u w hH r hr
  subst hr
  exact ⟨fun b u' e => (by cases e; exact h), fun h' u' e => (by cases e), fun _ => ⟨rfl, Nat.le_refl _, Nat.le_refl _, fun _ => rfl, fun es _ => ⟨w, es, rfl, .same hH, fun _ => rfl, fun e he => .inl he⟩⟩⟩
theorem simG_bind {g1 g2 t1 t2 : Bool} {f : α → Sem β} (h1 : SimG P g1 t1 L s) (h2 : ∀ a, L a → SimG P g2 t2 L' (f a)) (hg : g1 = false ∨ t2 = false) : SimG P (g1 || g2) (t1 || t2) L' (s.bind f) := by
  intro H u w hH r hr
  rw [Sem.run_bind'] at hr
  cases hs : s.run P u with
  | halt x u1 =>
    rw [hs] at hr
    subst hr
    obtain ⟨_, a2, a3⟩ := h1 H u w hH _ hs
    refine ⟨fun b u' e => (by cases e), fun h' u' e => a2 h' u' (by cases e; rfl), fun hf => ?_⟩
    have hf' : Fine (Result.halt x u1 : Result α) := by cases x <;> first | exact hf | exact hf.elim
    obtain ⟨b1, b2, b3, b4, b5⟩ := a3 hf'
    refine ⟨b1, b2, b3, fun hg' => b4 (by cases g1 <;> first | rfl | cases hg'), fun es hal => ?_⟩
    obtain ⟨w', es2, c1, c2, c3, c4⟩ := b5 es hal
    refine ⟨w', es2, ?_, c2, fun ht => c3 (by cases t1 <;> first | rfl | cases ht), c4⟩
    rw [Sem.runT_bind', c1]; rfl
  | ok a u1 =>
    rw [hs] at hr
    have hr' : (f a).run P u1 = r := hr
    obtain ⟨a1, _, a3⟩ := h1 H u w hH _ hs
    obtain ⟨b1, b2, b3, b4, b5⟩ := a3 trivial
    have hL := a1 a u1 rfl
    have b1' : u1.tape = u.tape := b1
    have b2' : u.drawn ≤ u1.drawn := b2
    have b3' : u.heap.size ≤ u1.heap.size := b3
    have key : ∃ w1, Hid H u1 w1 := by
      obtain ⟨w', _, _, c2, _⟩ := (by
        have hH' : Hid H u { w with tape := fun n => u.tape (u.drawn + (n - w.drawn)) } := ⟨hH.size, hH.os, hH.output, hH.blk, hH.hid, hH.npv⟩
        obtain ⟨_, _, a3'⟩ := h1 H u _ hH' _ hs
        obtain ⟨_, _, _, _, b5'⟩ := a3' trivial
        exact b5' #[] fun n p q => by
          show u.tape (u.drawn + (w.drawn + (n - u.drawn) - w.drawn)) = u.tape n
          congr 1
          omega)
      exact ⟨w', c2.hid⟩
    obtain ⟨w0, hw0⟩ := key
    obtain ⟨d1, d2, _⟩ := h2 a hL H u1 w0 hw0 r hr'
    refine ⟨d1, d2, fun hf => ?_⟩
    obtain ⟨e1, e2, e3, e4, _⟩ := (h2 a hL H u1 w0 hw0 r hr').2.2 hf
    refine ⟨e1.trans b1', Nat.le_trans b2' e2, Nat.le_trans b3' e3, fun hgg => ?_, fun es hal => ?_⟩
    · have hg1 : g1 = false := by cases g1 <;> first | rfl | cases hgg
      have hg2 : g2 = false := by cases g2 <;> first | rfl | (rw [hg1] at hgg; cases hgg)
      exact (e4 hg2).trans (b4 hg1)
    · obtain ⟨w', es2, c1, c2, c3, c4⟩ := b5 es (hal.fst e2)
      have c2' : Nx H u u1 w w' := c2
      obtain ⟨_, _, _, _, e5⟩ := (h2 a hL H u1 w' c2'.hid r hr').2.2 hf
      obtain ⟨w2, es3, q1, q2, q3, q4⟩ := e5 es2 (hal.snd c2' b2' b1')
      refine ⟨w2, es3, ?_, c2'.trans q2 b2' e2, fun ht => ?_, fun e he => ?_⟩
      · rw [Sem.runT_bind', c1]; exact q1
      · have ht1 : t1 = false := by cases t1 <;> first | rfl | cases ht
        have ht2 : t2 = false := by cases t2 <;> first | rfl | (rw [ht1] at ht; cases ht)
        rw [q3 ht2, c3 ht1]
      · rcases hg with hg | hg
        · rcases q4 e he with x | x
          · exact c4 e x
          · have hsz : w'.heap.size = w.heap.size := by
              have h1 := c2'.hid.size
              have h2 := hH.size
              have h3 : u1.heap.size = u.heap.size := b4 hg
              omega
            rw [hsz] at x
            exact .inr x
        · rw [q3 hg] at he; exact c4 e he
theorem simG_load (m : Mode) (a : Addr) : SimG P false true (fun _ => True) (.load m a .pure) := by
  intro H u w hH r hr
  simp only [Sem.run] at hr
  cases hc : u.cell? a with
  | some v =>
    obtain ⟨hn, hlt, hw⟩ := hH.not_of_cell hc
    simp only [hc] at hr
    subst hr
    refine ⟨fun _ _ _ => trivial, fun h' u' e => (by cases e), fun _ => ⟨rfl, Nat.le_refl _, Nat.le_refl _, fun _ => rfl, fun es _ => ⟨w, es.push ⟨.cell a, false, m == .atomic⟩, by simp only [Sem.runT, hw]; rfl, .same hH, by simp, fun e he => ?_⟩⟩⟩
    rcases Array.mem_push.1 he with h | h
    · exact .inl h
    · exact .inr (.inl ⟨a, by rw [h], hn, hlt⟩)
  | none =>
    obtain ⟨x, e, hx, hnp⟩ := hH.far (P := P) a (m == .atomic)
    simp only [hc, e] at hr
    subst hr
    refine ⟨fun _ _ _ => trivial, fun h' u' e => (by cases e; exact hx), fun hf => absurd hf ?_⟩
    cases x <;> first | exact id | exact absurd ⟨_, rfl⟩ hnp
theorem run_store (m : Mode) (a : Addr) (v : Value) (k : Sem α) (u : World) (hv : ∀ x, v ≠ .agg x ∧ v ≠ .tuple x) :
    (Sem.store m a v k).run P u = match u.cell? a with
      | some _ => if u.frozen? a then .halt (.unsupported (.unsafePointer "a write to bytes that a string shares")) u else k.run P (u.setCell a v)
      | none => match u.farStore P a v (m == .atomic) with
        | .ok (w, _) => k.run P w
        | .error h => .halt h u := by
  cases v with
  | agg x => exact absurd rfl (hv x).1
  | tuple x => exact absurd rfl (hv x).2
  | _ => rfl
theorem runT_store (m : Mode) (a : Addr) (v : Value) (k : Sem α) (u : World) (es : Array Event) (hv : ∀ x, v ≠ .agg x ∧ v ≠ .tuple x) :
    (Sem.store m a v k).runT P u es = match u.cell? a with
      | some _ => if u.frozen? a then (.halt (.unsupported (.unsafePointer "a write to bytes that a string shares")) u, es) else k.runT P (u.setCell a v) (es.push ⟨.cell a, true, m == .atomic⟩)
      | none => match u.farStore P a v (m == .atomic) with
        | .ok (w, touched) => k.runT P w (es ++ touched.toArray.map (⟨.cell ·, true, m == .atomic⟩))
        | .error h => (.halt h u, es) := by
  cases v with
  | agg x => exact absurd rfl (hv x).1
  | tuple x => exact absurd rfl (hv x).2
  | _ => rfl
theorem simG_store (m : Mode) (a : Addr) (v : Value) : SimG P false true (fun _ => True) (.store m a v (.pure ())) := by
  intro H u w hH r hr
  by_cases hv : ∀ x, v ≠ .agg x ∧ v ≠ .tuple x
  · rw [run_store _ _ _ _ _ hv] at hr
    cases hc : u.cell? a with
    | some v' =>
      obtain ⟨hn, hlt, hw⟩ := hH.not_of_cell hc
      have hfz := hH.frozen a hn
      simp only [hc] at hr
      by_cases hfr : u.frozen? a = true
      · rw [if_pos hfr] at hr
        subst hr
        exact ⟨fun _ _ _ => trivial, fun h' u' e => (by cases e; trivial), fun hf => hf.elim⟩
      · rw [if_neg hfr] at hr
        subst hr
        have hsz : (u.setCell a v).heap.size = u.heap.size := by simp [World.setCell]
        refine ⟨fun _ _ _ => trivial, fun h' u' e => (by cases e), fun _ => ⟨rfl, Nat.le_refl _, Nat.le_of_eq hsz.symm, fun _ => hsz, fun es _ => ⟨w.setCell a v, es.push ⟨.cell a, true, m == .atomic⟩, ?_, ⟨hH.setCell hn v, rfl, (by show w.drawn = w.drawn + (u.drawn - u.drawn); omega), fun b hb => ?_⟩, by simp, fun e he => ?_⟩⟩⟩
        · rw [runT_store _ _ _ _ _ _ hv]; simp only [hw, hfz, if_neg hfr]; rfl
        · exact RowKit.Below.heap_setCell w a v b (by rintro rfl; exact hn hb)
        · rcases Array.mem_push.1 he with h | h
          · exact .inl h
          · exact .inr (.inl ⟨a, by rw [h], hn, hlt⟩)
    | none =>
      obtain ⟨x, e, hx, hnp⟩ := hH.farS (P := P) a v (m == .atomic)
      simp only [hc, e] at hr
      subst hr
      refine ⟨fun _ _ _ => trivial, fun h' u' e => (by cases e; exact hx), fun hf => absurd hf ?_⟩
      cases x <;> first | exact id | exact absurd ⟨_, rfl⟩ hnp
  · have : (Sem.store m a v (.pure ())).run P u = .halt (.stuck "store: not the value of one cell") u := by
      cases v with
      | agg x => rfl
      | tuple x => rfl
      | _ => exact absurd (fun x => ⟨by simp, by simp⟩) hv
    rw [this] at hr
    subst hr
    exact ⟨fun _ _ _ => trivial, fun h' u' e => (by cases e; trivial), fun hf => hf.elim⟩
theorem simG_new {o : Obj} (ho : plainObj o) : SimG P true false (fun _ => True) (.new o .pure) := by
  intro H u w hH r hr
  subst hr
  refine ⟨fun _ _ _ => trivial, fun h' u' e => (by cases e), fun _ => ⟨rfl, Nat.le_refl _, by show _ ≤ (u.heap.push o).size; simp, by simp, fun es _ => ⟨{ w with heap := w.heap.push o }, es, ?_, ⟨hH.push ho, rfl, (by show w.drawn = w.drawn + (u.drawn - u.drawn); omega), fun b hb => ?_⟩, fun _ => rfl, fun e he => .inl he⟩⟩⟩
  · show (Result.ok w.heap.size _, es) = (Result.ok u.heap.size _, es)
    rw [hH.size]
  · have hlt := (hH.hid b hb).lt
    simp only [Array.getElem?_push]
    rw [if_neg (by omega)]
theorem simG_program {f : Program → Sem α} (h : SimG P g t L (f P)) : SimG P g t L (.program f) := fun H u w hH r hr => h H u w hH r hr
theorem simG_choose (q : Question) : SimG P g t (fun _ => True) (.choose q .pure) := by
  intro H u w hH r hr
  simp only [Sem.run] at hr
  by_cases hq : q.forced = true
  · rw [if_pos hq] at hr
    subst hr
    exact ⟨fun _ _ _ => trivial, fun h' u' e => (by cases e), fun _ => ⟨rfl, Nat.le_refl _, Nat.le_refl _, fun _ => rfl, fun es _ => ⟨w, es, by simp only [Sem.runT, if_pos hq]; rfl, .same hH, fun _ => rfl, fun e he => .inl he⟩⟩⟩
  · rw [if_neg hq] at hr
    subst hr
    refine ⟨fun _ _ _ => trivial, fun h' u' e => (by cases e), fun _ => ⟨rfl, Nat.le_succ _, Nat.le_refl _, fun _ => rfl, fun es hal => ⟨{ w with drawn := w.drawn + 1 }, es, ?_, ⟨hH.drawn _ _, rfl, (by show w.drawn + 1 = w.drawn + (u.drawn + 1 - u.drawn); omega), fun _ _ => rfl⟩, fun _ => rfl, fun e he => .inl he⟩⟩⟩
    have h0 : w.tape w.drawn = u.tape u.drawn := by
      have := hal u.drawn (Nat.le_refl _) (Nat.lt_succ_self _)
      simpa using this
    simp only [Sem.runT, if_neg hq, h0]
    rfl
theorem simG_noRoom : SimG P false true (fun _ => True) (.mark .noRoom (.pure ())) := by
  intro H u w hH r hr
  subst hr
  refine ⟨fun _ _ _ => trivial, fun h' u' e => (by cases e), fun _ => ⟨rfl, Nat.le_refl _, Nat.le_refl _, fun _ => rfl, fun es _ => ⟨w, es.push ⟨.mark .noRoom, false, true⟩, rfl, .same hH, by simp, fun e he => ?_⟩⟩⟩
  rcases Array.mem_push.1 he with h | h
  · exact .inl h
  · exact .inr (.inr (.inr h))
theorem simG_doom (h : ∀ H u w, Hid H u w → ∃ x u', s.run P u = .halt x u' ∧ okHalt x ∧ ¬ ∃ v, x = .panic v) : SimG P g t L s := by
  intro H u w hH r hr
  obtain ⟨x, u', e, hx, hnp⟩ := h H u w hH
  rw [e] at hr
  subst hr
  refine ⟨fun a u1 e => (by cases e), fun h' u1 e => (by cases e; exact hx), fun hf => absurd hf ?_⟩
  cases x <;> first | exact id | exact absurd ⟨_, rfl⟩ hnp
end
end Go.Proofs.Ytmkjoojoaldljaa.Tm
namespace Go.Proofs.Ytmkjoojoaldljaa.Tm
open Go.Conc
section
variable (P : Program) (FS : FuncId → Prop)
def NextOk : Next → Prop
  | .value _ => True
  | .skip => True
  | .enter f _ => FS f
  | _ => False
def TameOp (o : Oper) : Prop := ∀ ρ : Operand → Value, (∀ f, ρ (.func f) = .func (.func f) #[] #[]) → SimG P true true (NextOk FS) (execOp ρ o)
def TameOps (ops : Array Oper) : Prop := ∀ (i : Nat) (o : Oper), ops[i]? = some o → TameOp P FS o
def TameCode : Code → Prop
  | .seq a b => TameCode a ∧ TameCode b
  | .cond _ a b => TameCode a ∧ TameCode b
  | .block _ c => TameCode c
  | .loop c => TameCode c
  | .scope c => TameCode c
  | .region _ ops _ => TameOps P FS ops
  | .rangeFunc .. => False
  | _ => True
def TameItem : Item → Prop
  | .code c => TameCode P FS c
  | .inBlock _ => True
  | .inScope c => TameCode P FS c
  | .inLoop c => TameCode P FS c
  | .inRegion ops _ => TameOps P FS ops
  | _ => False
def Known (f : FuncId) : Prop := ∃ fn, P.funcs[f]? = some fn ∧ ∀ T : Array Value, SimG P true true (fun _ => True) (results fn T)
structure TameF (fr : Frame) : Prop where
  fn : Known P fr.fn
  kind : fr.kind = .normal
  defers : fr.defers = []
  round : fr.roundOf = none
  todo : fr.mode = .run → ∀ x ∈ fr.todo, TameItem P FS x
def TameFns : Prop := ∀ f, FS f → ∃ fn c, P.funcs[f]? = some fn ∧ fn.body = some c ∧ TameCode P FS c ∧ ∀ T : Array Value, SimG P true true (fun _ => True) (results fn T)
end
structure Alike (x y : List Item) (a b : Frame) : Prop where
  fn : b.fn = a.fn
  tmps : b.tmps = a.tmps
  defers : b.defers = a.defers
  mode : b.mode = a.mode
  kind : b.kind = a.kind
  round : b.roundOf = a.roundOf
  todo : a.mode = .run → ∃ T, a.todo = T ++ x ∧ b.todo = T ++ y
def Walled (x y : List Item) : Prop := (x = [] ∧ y = []) ∨ x = [.code (.refuse "")]
theorem exitTo_wall {x y : List Item} (hw : Walled x y) (id : Nat) : ∀ (T k' : List Item), exitTo id (T ++ x) = some k' → ∃ T', k' = T' ++ x ∧ exitTo id (T ++ y) = some (T' ++ y) ∧ ∀ i ∈ T', i ∈ T := by
  intro T
  induction T with
  | nil =>
    intro k' h
    rcases hw with ⟨rfl, rfl⟩ | rfl
    · simp [exitTo] at h
    · simp [exitTo] at h
  | cons i T ih =>
    intro k' h
    have again : exitTo id (T ++ x) = some k' → (∃ T', k' = T' ++ x ∧ exitTo id (T ++ y) = some (T' ++ y) ∧ ∀ j ∈ T', j ∈ i :: T) := fun h => by
      obtain ⟨T', e1, e2, e3⟩ := ih k' h
      exact ⟨T', e1, e2, fun j hj => List.mem_cons_of_mem _ (e3 j hj)⟩
    cases i with
    | inBlock id' =>
      simp only [List.cons_append, exitTo] at h ⊢
      by_cases e : (id' == id) = true
      · rw [if_pos e] at h
        cases h
        exact ⟨T, rfl, by rw [if_pos e], fun j hj => List.mem_cons_of_mem _ hj⟩
      · rw [if_neg e] at h
        obtain ⟨T', e1, e2, e3⟩ := again h
        exact ⟨T', e1, by rw [if_neg e]; exact e2, e3⟩
    | _ => simp only [List.cons_append, exitTo] at h ⊢; exact again h
theorem findLabel_tame {P : Program} {FS : FuncId → Prop} : ∀ (c : Code) (l : Nat) (r : Code), TameCode P FS c → findLabel c l = some r → TameCode P FS r := by
  intro c
  induction c with
  | seq a b iha ihb =>
    intro l r h hr
    simp only [findLabel] at hr
    cases ha : findLabel a l with
    | some rest => simp only [ha] at hr; cases hr; exact ⟨iha l _ h.1 ha, h.2⟩
    | none => simp only [ha] at hr; exact ihb l _ h.2 hr
  | label l' => intro l r _ hr; simp only [findLabel] at hr; split at hr <;> cases hr; trivial
  | _ => intro l r _ hr; simp [findLabel] at hr
theorem gotoIn_wall {x y : List Item} (hw : Walled x y) {P : Program} {FS : FuncId → Prop} (l : Nat) : ∀ (T k' : List Item), (∀ i ∈ T, TameItem P FS i) → gotoIn l (T ++ x) = some k' → ∃ T', k' = T' ++ x ∧ gotoIn l (T ++ y) = some (T' ++ y) ∧ ∀ i ∈ T', TameItem P FS i := by
  intro T
  induction T with
  | nil =>
    intro k' _ h
    rcases hw with ⟨rfl, rfl⟩ | rfl
    · simp [gotoIn] at h
    · simp [gotoIn] at h
  | cons i T ih =>
    intro k' ht h
    have again : gotoIn l (T ++ x) = some k' → (∃ T', k' = T' ++ x ∧ gotoIn l (T ++ y) = some (T' ++ y) ∧ ∀ j ∈ T', TameItem P FS j) := fun h => ih k' (fun j hj => ht j (List.mem_cons_of_mem _ hj)) h
    cases i with
    | inScope body =>
      simp only [List.cons_append, gotoIn] at h ⊢
      cases hf : findLabel body l with
      | some rest =>
        simp only [hf] at h ⊢
        cases h
        refine ⟨.code rest :: .inScope body :: T, rfl, rfl, fun j hj => ?_⟩
        have hb : TameCode P FS body := ht (.inScope body) (List.mem_cons_self ..)
        rcases List.mem_cons.1 hj with rfl | hj
        · exact findLabel_tame body l rest hb hf
        · exact ht j hj
      | none => simp only [hf] at h ⊢; exact again h
    | _ => simp only [List.cons_append, gotoIn] at h ⊢; exact again h
end Go.Proofs.Ytmkjoojoaldljaa.Tm
namespace Go.Proofs.Ytmkjoojoaldljaa.Tm
open Go.Conc
structure StepQ (H : Nat → Prop) (u w u' : World) (real : World → Array Event → Prop) : Prop where
  tape : u'.tape = u.tape
  drawn : u.drawn ≤ u'.drawn
  size : u.heap.size ≤ u'.heap.size
  go : Al u w u' → ∃ w' es', real w' es' ∧ Nx H u u' w w' ∧ ∀ e ∈ es', EvH H w.heap.size e
theorem StepQ.ctl {H : Nat → Prop} {u w : World} (h : Hid H u w) {real : World → Array Event → Prop} (hr : real w #[]) : StepQ H u w u real :=
  ⟨rfl, Nat.le_refl _, Nat.le_refl _, fun _ => ⟨w, #[], hr, .same h, by simp⟩⟩
section
variable {P : Program} {FS : FuncId → Prop} {H : Nat → Prop}
theorem oper_sim {s : Sem Next} (hT : SimG P true true (NextOk FS) s) {u w0 : World} (hH0 : Hid H u w0) {a b : Frame} {ops : Array Oper} {i : Nat} {rest : List Nat} {k1 k2 : List Item} (ha : a.todo = .inRegion ops (i :: rest) :: k1) (hb : b.todo = .inRegion ops (i :: rest) :: k2)
    (hfn : b.fn = a.fn) (hka : a.kind = .normal) (hkb : b.kind = .normal) {L M : List Frame} {g' : Goroutine} {u' : World} {es : Array Event}
    (h : stepG.apply P true a L none s u = .go g' u' es) :
    (∃ v, g' = G (a.finish v) L ∧ ∀ w, Hid H u w → StepQ H u w u' fun w' es => stepG.apply P true b M none s w = .go (G (b.finish v) M) w' es) ∨
    (∃ f args, FS f ∧ g' = G (Frame.enter P f args .normal) (a :: L) ∧ ∀ w, Hid H u w → StepQ H u w u' fun w' es => stepG.apply P true b M none s w = .go (G (Frame.enter P f args .normal) (b :: M)) w' es) ∨
    (∃ ch, g' = G (a.raise ch) L ∧ ∀ w, Hid H u w → StepQ H u w u' fun w' es => stepG.apply P true b M none s w = .go (G (b.raise ch) M) w' es) := by
  cases hr : s.runT P u #[] with
  | mk r evs =>
    have hrun : s.run P u = r := by
      have := congrArg Prod.fst hr
      rw [Sem.runT_eq] at this
      exact this
    have kka : (a.kind == CallKind.early) = false := by rw [hka]; rfl
    have kkb : (b.kind == CallKind.early) = false := by rw [hkb]; rfl
    cases r with
    | ok n u1 =>
      have hL := (hT H u w0 hH0 _ hrun).1 n u1 rfl
      have hall : ∀ (g2 : Goroutine), (∀ w w' evs', s.runT P w #[] = (.ok n w', evs') → stepG.apply P true b M none s w = .go g2 w' (seen P a.fn evs')) → ∀ w, Hid H u w → StepQ H u w u1 fun w' es => stepG.apply P true b M none s w = .go g2 w' es := fun g2 hg w hH => by
        obtain ⟨b1, b2, b3, _, b5⟩ := (hT H u w hH _ hrun).2.2 trivial
        refine ⟨b1, b2, b3, fun hal => ?_⟩
        obtain ⟨w', es2, c1, c2, _, c4⟩ := b5 #[] hal
        exact ⟨w', _, hg w w' es2 c1, c2, fun e he => (c4 e (mem_seen he)).elim (fun x => by simp at x) id⟩
      cases n with
      | value v =>
        simp only [stepG.apply, hr, if_true, kka, GStep.after, Bool.false_eq_true, if_false, GStep.go.injEq, Array.append_empty] at h
        obtain ⟨rfl, rfl, rfl⟩ := h
        exact .inl ⟨v, rfl, hall _ fun w w' evs' e1 => by simp only [stepG.apply, e1, if_true, kkb, GStep.after, Bool.false_eq_true, if_false, hfn, Array.append_empty]; rfl⟩
      | skip =>
        simp only [stepG.apply, hr, if_true, kka, GStep.after, Bool.false_eq_true, if_false, GStep.go.injEq, Array.append_empty] at h
        obtain ⟨rfl, rfl, rfl⟩ := h
        exact .inl ⟨undef, rfl, hall _ fun w w' evs' e1 => by simp only [stepG.apply, e1, if_true, kkb, GStep.after, Bool.false_eq_true, if_false, hfn, Array.append_empty]; rfl⟩
      | enter f args =>
        simp only [stepG.apply, hr, if_true, kka, GStep.after, Bool.false_eq_true, if_false, ha, GStep.go.injEq, Array.append_empty] at h
        obtain ⟨rfl, rfl, rfl⟩ := h
        exact .inr (.inl ⟨f, args, hL, rfl, hall _ fun w w' evs' e1 => by simp only [stepG.apply, e1, if_true, kkb, GStep.after, Bool.false_eq_true, if_false, hfn, hb, Array.append_empty]; rfl⟩)
      | _ => exact hL.elim
    | halt x u1 =>
      have hx := (hT H u w0 hH0 _ hrun).2.1 x u1 rfl
      cases x with
      | panic v =>
        simp only [stepG.apply, hr, if_true, kka, GStep.after, Bool.false_eq_true, if_false, GStep.go.injEq, Array.append_empty] at h
        obtain ⟨rfl, rfl, rfl⟩ := h
        refine .inr (.inr ⟨[{ v, recovered := false }], rfl, fun w hH => ?_⟩)
        obtain ⟨b1, b2, b3, _, b5⟩ := (hT H u w hH _ hrun).2.2 trivial
        refine ⟨b1, b2, b3, fun hal => ?_⟩
        obtain ⟨w', es2, c1, c2, _, c4⟩ := b5 #[] hal
        exact ⟨w', seen P a.fn es2, by simp only [stepG.apply, c1, rput, if_true, kkb, GStep.after, Bool.false_eq_true, if_false, hfn, Array.append_empty]; rfl, c2, fun e he => (c4 e (mem_seen he)).elim (fun x => by simp at x) id⟩
      | stuck m => simp only [stepG.apply, hr, if_true, kka, GStep.after, Bool.false_eq_true, if_false, reduceCtorEq] at h
      | unsupported m => cases m <;> first | exact hx.elim | simp only [stepG.apply, hr, if_true, kka, GStep.after, Bool.false_eq_true, if_false, reduceCtorEq] at h
      | _ => exact hx.elim
theorem finish_region (a : Frame) {ops : Array Oper} {i : Nat} {rest : List Nat} {k : List Item} (h : a.todo = .inRegion ops (i :: rest) :: k) (v : Value) :
    a.finish v = { a with tmps := match (ops[i]?).bind (·.dst) with | some d => a.tmps.setIfInBounds d v | none => a.tmps, todo := .inRegion ops rest :: k } := by
  simp only [Frame.finish, h]
  rfl
theorem seenNil (P : Program) (fn : FuncId) : seen P fn #[] = #[] := rfl
theorem alike_finish {x y : List Item} {a b : Frame} {ops : Array Oper} {i : Nat} {rest : List Nat} {T : List Item} (hF : TameF P FS a) (hA : Alike x y a b) (hm : a.mode = .run) (ha : a.todo = .inRegion ops (i :: rest) :: (T ++ x)) (hb : b.todo = .inRegion ops (i :: rest) :: (T ++ y)) (v : Value) :
    TameF P FS (a.finish v) ∧ Alike x y (a.finish v) (b.finish v) := by
  rw [finish_region a ha, finish_region b hb]
  refine ⟨⟨hF.fn, hF.kind, hF.defers, hF.round, fun _ z hz => ?_⟩, ⟨hA.fn, by simp only [hA.tmps], hA.defers, hA.mode, hA.kind, hA.round, fun _ => ⟨.inRegion ops rest :: T, rfl, rfl⟩⟩⟩
  have ht := hF.todo hm
  rw [ha] at ht
  rcases List.mem_cons.1 hz with rfl | hz
  · exact ht (.inRegion ops (i :: rest)) (List.mem_cons_self ..)
  · exact ht z (List.mem_cons_of_mem _ hz)
theorem raise_eq (a b : Frame) (h : b.mode = a.mode) (ch : List PanicEntry) : ∃ ch', a.raise ch = { a with mode := .panicking ch' } ∧ b.raise ch = { b with mode := .panicking ch' } := by
  unfold Frame.raise
  rw [h]
  cases a.mode <;> exact ⟨_, rfl, rfl⟩
theorem alike_raise {x y : List Item} {a b : Frame} (hF : TameF P FS a) (hA : Alike x y a b) (ch : List PanicEntry) : TameF P FS (a.raise ch) ∧ Alike x y (a.raise ch) (b.raise ch) := by
  obtain ⟨ch', e1, e2⟩ := raise_eq a b hA.mode ch
  rw [e1, e2]
  exact ⟨⟨hF.fn, hF.kind, hF.defers, hF.round, fun h => (by cases h)⟩, ⟨hA.fn, hA.tmps, hA.defers, rfl, hA.kind, hA.round, fun h => (by cases h)⟩⟩
def RunStep (P : Program) (FS : FuncId → Prop) (H : Nat → Prop) (x y : List Item) (a b : Frame) (L M : List Frame) (u : World) (g' : Goroutine) (u' : World) (es : Array Event) : Prop :=
  (∃ a' b', g' = G a' L ∧ TameF P FS a' ∧ Alike x y a' b' ∧ ∀ w, Hid H u w → StepQ H u w u' fun w' es => stepG P true (G b M) w = .go (G b' M) w' es) ∨
  (∃ f args, FS f ∧ g' = G (Frame.enter P f args .normal) (a :: L) ∧ (∃ ops i rest T, a.todo = .inRegion ops (i :: rest) :: (T ++ x) ∧ b.todo = .inRegion ops (i :: rest) :: (T ++ y)) ∧
    ∀ w, Hid H u w → StepQ H u w u' fun w' es => stepG P true (G b M) w = .go (G (Frame.enter P f args .normal) (b :: M)) w' es)
theorem stepG_run {a : Frame} {L : List Frame} (hm : a.mode = .run) (u : World) : stepG P true (G a L) u = stepG.exec P true true a L none u := by
  simp only [stepG, G, hm]
def mkF (fn : FuncId) (tmps : Array Value) (todo : List Item) : Frame := { fn, tmps, todo, defers := [], mode := .run, kind := .normal }
set_option maxHeartbeats 1000000 in
theorem run_sim' {x y : List Item} (hw : Walled x y) {fn : FuncId} {tmps : Array Value} {T : List Item} (hfn : Known P fn) (tame : ∀ z ∈ T ++ x, TameItem P FS z) {u w0 : World} (hH0 : Hid H u w0) {L M : List Frame} {g' : Goroutine} {u' : World} {es : Array Event}
    (h : stepG P true (G (mkF fn tmps (T ++ x)) L) u = .go g' u' es) : RunStep P FS H x y (mkF fn tmps (T ++ x)) (mkF fn tmps (T ++ y)) L M u g' u' es := by
  rw [stepG_run rfl] at h
  have ctl : ∀ T' : List Item, (∀ z ∈ T', TameItem P FS z) → (∀ z ∈ x, TameItem P FS z) → g' = G (mkF fn tmps (T' ++ x)) L → u' = u → es = #[] → (∀ w, stepG P true (G (mkF fn tmps (T ++ y)) M) w = .go (G (mkF fn tmps (T' ++ y)) M) w #[]) → RunStep P FS H x y (mkF fn tmps (T ++ x)) (mkF fn tmps (T ++ y)) L M u g' u' es := by
    rintro T' ht hx rfl rfl rfl hs
    exact .inl ⟨mkF fn tmps (T' ++ x), mkF fn tmps (T' ++ y), rfl, ⟨hfn, rfl, rfl, rfl, fun _ z hz => (List.mem_append.1 hz).elim (ht z) (hx z)⟩, ⟨rfl, rfl, rfl, rfl, rfl, rfl, fun _ => ⟨T', rfl, rfl⟩⟩, fun w hH => StepQ.ctl hH (hs w)⟩
  have hx : ∀ z ∈ x, TameItem P FS z := fun z hz => tame z (List.mem_append.2 (.inr hz))
  have lv : g' = G { mkF fn tmps (T ++ x) with mode := .returning } L → u' = u → es = #[] → (∀ w, stepG P true (G (mkF fn tmps (T ++ y)) M) w = .go (G { mkF fn tmps (T ++ y) with mode := .returning } M) w #[]) → RunStep P FS H x y (mkF fn tmps (T ++ x)) (mkF fn tmps (T ++ y)) L M u g' u' es := by
    rintro rfl rfl rfl hs
    exact .inl ⟨{ mkF fn tmps (T ++ x) with mode := .returning }, { mkF fn tmps (T ++ y) with mode := .returning }, rfl, ⟨hfn, rfl, rfl, rfl, fun h => (by cases h)⟩, ⟨rfl, rfl, rfl, rfl, rfl, rfl, fun h => (by cases h)⟩, fun w hH => StepQ.ctl hH (hs w)⟩
  have hFT : TameF P FS (mkF fn tmps (T ++ x)) := ⟨hfn, rfl, rfl, rfl, fun _ => tame⟩
  have hAT : Alike x y (mkF fn tmps (T ++ x)) (mkF fn tmps (T ++ y)) := ⟨rfl, rfl, rfl, rfl, rfl, rfl, fun _ => ⟨T, rfl, rfl⟩⟩
  cases T with
  | nil =>
    rcases hw with ⟨rfl, rfl⟩ | rfl
    · simp only [stepG.exec, mkF, List.nil_append, GStep.go.injEq] at h
      obtain ⟨rfl, rfl, rfl⟩ := h
      exact lv rfl rfl rfl (fun w => by rw [stepG_run rfl]; simp only [stepG.exec, mkF, List.cons_append, List.nil_append]; rfl)
    · simp only [stepG.exec, mkF, List.nil_append, reduceCtorEq] at h
  | cons t T =>
    have tt : TameItem P FS t := tame t (List.mem_cons_self ..)
    have tT : ∀ z ∈ T, TameItem P FS z := fun z hz => tame z (List.mem_cons_of_mem _ (List.mem_append.2 (.inl hz)))
    have two : ∀ {p q : Item}, TameItem P FS p → TameItem P FS q → ∀ z ∈ p :: q :: T, TameItem P FS z := fun hp hq z hz => by
      rcases List.mem_cons.1 hz with rfl | hz
      · exact hp
      rcases List.mem_cons.1 hz with rfl | hz
      · exact hq
      · exact tT z hz
    have one : ∀ {p : Item}, TameItem P FS p → ∀ z ∈ p :: T, TameItem P FS z := fun hp z hz => by
      rcases List.mem_cons.1 hz with rfl | hz
      · exact hp
      · exact tT z hz
    cases t with
    | code c =>
      cases c with
      | ret =>
        simp only [stepG.exec, mkF, List.cons_append, GStep.go.injEq] at h
        obtain ⟨rfl, rfl, rfl⟩ := h
        exact lv rfl rfl rfl (fun w => by rw [stepG_run rfl]; simp only [stepG.exec, mkF, List.cons_append]; rfl)
      | skip =>
        simp only [stepG.exec, mkF, List.cons_append, GStep.go.injEq] at h
        obtain ⟨rfl, rfl, rfl⟩ := h
        exact ctl T tT hx rfl rfl rfl (fun w => by rw [stepG_run rfl]; simp only [stepG.exec, mkF, List.cons_append]; rfl)
      | label l =>
        simp only [stepG.exec, mkF, List.cons_append, GStep.go.injEq] at h
        obtain ⟨rfl, rfl, rfl⟩ := h
        exact ctl T tT hx rfl rfl rfl (fun w => by rw [stepG_run rfl]; simp only [stepG.exec, mkF, List.cons_append]; rfl)
      | seq c1 c2 =>
        simp only [stepG.exec, mkF, List.cons_append, GStep.go.injEq] at h
        obtain ⟨rfl, rfl, rfl⟩ := h
        exact ctl (.code c1 :: .code c2 :: T) (two tt.1 tt.2) hx rfl rfl rfl (fun w => by rw [stepG_run rfl]; simp only [stepG.exec, mkF, List.cons_append]; rfl)
      | cond c c1 c2 =>
        have he : ∀ td, (mkF fn tmps td).eval c = (mkF fn tmps []).eval c := fun td => by cases c <;> rfl
        simp only [mkF] at he
        cases hv : (mkF fn tmps []).eval c with
        | bool t =>
          simp only [mkF] at hv
          simp only [stepG.exec, mkF, List.cons_append, he, hv, GStep.go.injEq] at h
          obtain ⟨rfl, rfl, rfl⟩ := h
          refine ctl (.code (if t then c1 else c2) :: T) (one ?_) hx rfl rfl rfl (fun w => by rw [stepG_run rfl]; simp only [stepG.exec, mkF, List.cons_append, he, hv]; rfl)
          cases t
          · exact tt.2
          · exact tt.1
        | _ => simp only [mkF] at hv; simp only [stepG.exec, mkF, List.cons_append, he, hv, reduceCtorEq] at h
      | block id c =>
        simp only [stepG.exec, mkF, List.cons_append, GStep.go.injEq] at h
        obtain ⟨rfl, rfl, rfl⟩ := h
        exact ctl (.code c :: .inBlock id :: T) (two tt trivial) hx rfl rfl rfl (fun w => by rw [stepG_run rfl]; simp only [stepG.exec, mkF, List.cons_append]; rfl)
      | loop c =>
        simp only [stepG.exec, mkF, List.cons_append, GStep.go.injEq] at h
        obtain ⟨rfl, rfl, rfl⟩ := h
        exact ctl (.code c :: .inLoop c :: T) (two tt tt) hx rfl rfl rfl (fun w => by rw [stepG_run rfl]; simp only [stepG.exec, mkF, List.cons_append]; rfl)
      | scope c =>
        simp only [stepG.exec, mkF, List.cons_append, GStep.go.injEq] at h
        obtain ⟨rfl, rfl, rfl⟩ := h
        exact ctl (.code c :: .inScope c :: T) (two tt tt) hx rfl rfl rfl (fun w => by rw [stepG_run rfl]; simp only [stepG.exec, mkF, List.cons_append]; rfl)
      | exit id =>
        simp only [stepG.exec, mkF, List.cons_append] at h
        cases he : exitTo id (T ++ x) with
        | none => simp [he] at h
        | some k' =>
          simp only [he, Option.elim_some, GStep.go.injEq] at h
          obtain ⟨rfl, rfl, rfl⟩ := h
          obtain ⟨T', rfl, e2, e3⟩ := exitTo_wall hw id T k' he
          exact ctl T' (fun z hz => tT z (e3 z hz)) hx rfl rfl rfl (fun w => by rw [stepG_run rfl]; simp only [stepG.exec, mkF, List.cons_append, e2, Option.elim_some]; rfl)
      | goto l =>
        simp only [stepG.exec, mkF, List.cons_append] at h
        cases he : gotoIn l (T ++ x) with
        | none => simp [he] at h
        | some k' =>
          simp only [he, Option.elim_some, GStep.go.injEq] at h
          obtain ⟨rfl, rfl, rfl⟩ := h
          obtain ⟨T', rfl, e2, e3⟩ := gotoIn_wall hw l T k' tT he
          exact ctl T' e3 hx rfl rfl rfl (fun w => by rw [stepG_run rfl]; simp only [stepG.exec, mkF, List.cons_append, e2, Option.elim_some]; rfl)
      | rangeFunc f ps ag bd => exact tt.elim
      | refuse m => simp only [stepG.exec, mkF, List.cons_append, reduceCtorEq] at h
      | region id ops draw =>
        cases draw with
        | false =>
          simp only [stepG.exec, mkF, List.cons_append, Bool.not_false, if_true, GStep.go.injEq] at h
          obtain ⟨rfl, rfl, rfl⟩ := h
          exact ctl (.inRegion ops (List.range ops.size) :: T) (one tt) hx rfl rfl rfl (fun w => by rw [stepG_run rfl]; simp only [stepG.exec, mkF, List.cons_append, Bool.not_false, if_true]; rfl)
        | true =>
          simp only [stepG.exec, mkF, List.cons_append, Bool.not_true, Bool.false_eq_true, if_false, choose, Sem.run, Question.forced, Question.cut, GStep.go.injEq] at h
          obtain ⟨rfl, rfl, rfl⟩ := h
          refine .inl ⟨_, mkF fn tmps (.inRegion ops (Region.schedule (P.follows .mixedOrders) ops (u.tape u.drawn (.order fn id))) :: (T ++ y)), rfl, ⟨hfn, rfl, rfl, rfl, fun _ z hz => ?_⟩, ⟨rfl, rfl, rfl, rfl, rfl, rfl, fun _ => ⟨.inRegion ops _ :: T, rfl, rfl⟩⟩, fun w hH => ⟨rfl, Nat.le_succ _, Nat.le_refl _, fun hal => ⟨{ w with drawn := w.drawn + 1 }, #[], ?_, ⟨hH.drawn _ _, rfl, ?_, fun _ _ => rfl⟩, by simp⟩⟩⟩
          · rcases List.mem_cons.1 hz with rfl | hz
            · exact tt
            · exact (List.mem_append.1 hz).elim (tT z) (hx z)
          · have h0 : w.tape w.drawn = u.tape u.drawn := by
              have := hal u.drawn (Nat.le_refl _) (Nat.lt_succ_self _)
              simpa using this
            rw [stepG_run rfl]
            simp only [stepG.exec, mkF, List.cons_append, Bool.not_true, Bool.false_eq_true, if_false, choose, Sem.run, Question.forced, Question.cut, h0]
            rfl
          · show w.drawn + 1 = w.drawn + (u.drawn + 1 - u.drawn)
            omega
    | inBlock id =>
      simp only [stepG.exec, mkF, List.cons_append, GStep.go.injEq] at h
      obtain ⟨rfl, rfl, rfl⟩ := h
      exact ctl T tT hx rfl rfl rfl (fun w => by rw [stepG_run rfl]; simp only [stepG.exec, mkF, List.cons_append]; rfl)
    | inScope c =>
      simp only [stepG.exec, mkF, List.cons_append, GStep.go.injEq] at h
      obtain ⟨rfl, rfl, rfl⟩ := h
      exact ctl T tT hx rfl rfl rfl (fun w => by rw [stepG_run rfl]; simp only [stepG.exec, mkF, List.cons_append]; rfl)
    | inLoop c =>
      simp only [stepG.exec, mkF, List.cons_append, GStep.go.injEq] at h
      obtain ⟨rfl, rfl, rfl⟩ := h
      exact ctl (.code c :: .inLoop c :: T) (two tt tt) hx rfl rfl rfl (fun w => by rw [stepG_run rfl]; simp only [stepG.exec, mkF, List.cons_append]; rfl)
    | inRegion ops l =>
      cases l with
      | nil =>
        simp only [stepG.exec, mkF, List.cons_append, GStep.go.injEq] at h
        obtain ⟨rfl, rfl, rfl⟩ := h
        exact ctl T tT hx rfl rfl rfl (fun w => by rw [stepG_run rfl]; simp only [stepG.exec, mkF, List.cons_append]; rfl)
      | cons i rest =>
        have ha : (mkF fn tmps (.inRegion ops (i :: rest) :: T ++ x)).todo = .inRegion ops (i :: rest) :: (T ++ x) := rfl
        have hb : (mkF fn tmps (.inRegion ops (i :: rest) :: T ++ y)).todo = .inRegion ops (i :: rest) :: (T ++ y) := rfl
        by_cases hwn : ((ops[i]?).map (Region.wanted · (yielded ops tmps))).getD false = true
        · cases ho : ops[i]? with
          | none => rw [ho] at hwn; simp at hwn
          | some o =>
            have hsb : ∀ (z : List Item) (N : List Frame) (w : World), stepG.exec P true true (mkF fn tmps (.inRegion ops (i :: rest) :: z)) N none w = stepG.apply P true (mkF fn tmps (.inRegion ops (i :: rest) :: z)) N none (execOp (mkF fn tmps []).eval o) w := fun z N w => by
              have hoz : (mkF fn tmps (.inRegion ops (i :: rest) :: z)).oper? = some o := ho
              have he : (mkF fn tmps (.inRegion ops (i :: rest) :: z)).eval = (mkF fn tmps []).eval := by funext q; cases q <;> rfl
              have hr : (mkF fn tmps (.inRegion ops (i :: rest) :: z)).roundOf = none := rfl
              have h1 : stepG.exec P true true (mkF fn tmps (.inRegion ops (i :: rest) :: z)) N none w = stepG.oper P true (mkF fn tmps (.inRegion ops (i :: rest) :: z)) N none w := by
                show (if ((ops[i]?).map (Region.wanted · (yielded ops tmps))).getD false then _ else _) = _
                rw [if_pos hwn]
              rw [h1]
              simp only [stepG.oper, hoz, hr, he]
            rw [List.cons_append, hsb] at h
            rcases oper_sim (M := M) (tt i o ho (mkF fn tmps []).eval fun _ => rfl) hH0 ha hb rfl rfl rfl h with ⟨v, e1, e2⟩ | ⟨f, args, hf, e1, e2⟩ | ⟨ch, e1, e2⟩
            · obtain ⟨t1, t2⟩ := alike_finish hFT hAT rfl ha hb v
              exact .inl ⟨_, _, e1, t1, t2, fun w hH => ⟨(e2 w hH).tape, (e2 w hH).drawn, (e2 w hH).size, fun hal => by obtain ⟨w', es', k1, k2⟩ := (e2 w hH).go hal; exact ⟨w', es', by rw [stepG_run rfl, List.cons_append, hsb]; exact k1, k2⟩⟩⟩
            · exact .inr ⟨f, args, hf, e1, ⟨ops, i, rest, T, ha, hb⟩, fun w hH => ⟨(e2 w hH).tape, (e2 w hH).drawn, (e2 w hH).size, fun hal => by obtain ⟨w', es', k1, k2⟩ := (e2 w hH).go hal; exact ⟨w', es', by rw [stepG_run rfl, List.cons_append, hsb]; exact k1, k2⟩⟩⟩
            · obtain ⟨t1, t2⟩ := alike_raise hFT hAT ch
              exact .inl ⟨_, _, e1, t1, t2, fun w hH => ⟨(e2 w hH).tape, (e2 w hH).drawn, (e2 w hH).size, fun hal => by obtain ⟨w', es', k1, k2⟩ := (e2 w hH).go hal; exact ⟨w', es', by rw [stepG_run rfl, List.cons_append, hsb]; exact k1, k2⟩⟩⟩
        · have hsb : ∀ (z : List Item) (N : List Frame) (w : World), stepG.exec P true true (mkF fn tmps (.inRegion ops (i :: rest) :: z)) N none w = .go (G ((mkF fn tmps (.inRegion ops (i :: rest) :: z)).finish undef) N) w #[] := fun z N w => by
            show (if ((ops[i]?).map (Region.wanted · (yielded ops tmps))).getD false then _ else _) = _
            rw [if_neg hwn]; rfl
          rw [List.cons_append, hsb] at h
          simp only [GStep.go.injEq] at h
          obtain ⟨rfl, rfl, rfl⟩ := h
          obtain ⟨t1, t2⟩ := alike_finish hFT hAT rfl ha hb undef
          exact .inl ⟨_, _, rfl, t1, t2, fun w hH => StepQ.ctl hH (by rw [stepG_run rfl, List.cons_append, hsb])⟩
    | inRangeFunc l => exact tt.elim
    | endRangeFunc l => exact tt.elim
    | beginRound => exact tt.elim
    | call d a1 a2 a3 => exact tt.elim
    | extern r args => exact tt.elim
theorem run_sim {x y : List Item} (hw : Walled x y) {a b : Frame} (hF : TameF P FS a) (hm : a.mode = .run) (hA : Alike x y a b) {u w0 : World} (hH0 : Hid H u w0) {L M : List Frame} {g' : Goroutine} {u' : World} {es : Array Event}
    (h : stepG P true (G a L) u = .go g' u' es) : RunStep P FS H x y a b L M u g' u' es := by
  obtain ⟨T, ha, hb⟩ := hA.todo hm
  have tame := hF.todo hm
  rw [ha] at tame
  have ea : a = mkF a.fn a.tmps (T ++ x) := by
    obtain ⟨fn, tmps, todo, defers, mode, kind, rnd⟩ := a
    have h1 := hF.kind; have h2 := hF.defers; have h3 := hF.round
    simp only at h1 h2 h3 hm ha
    subst h1 h2 h3 hm ha
    rfl
  have eb : b = mkF a.fn a.tmps (T ++ y) := by
    obtain ⟨fn, tmps, todo, defers, mode, kind, rnd⟩ := b
    have h1 := hA.kind.trans hF.kind; have h2 := hA.defers.trans hF.defers; have h3 := hA.round.trans hF.round; have h4 := hA.mode.trans hm; have h5 := hA.fn; have h6 := hA.tmps
    simp only at h1 h2 h3 h4 h5 h6 hb
    subst h1 h2 h3 h4 h5 h6 hb
    rfl
  have hfn := hF.fn
  generalize a.fn = fn at ea eb hfn
  generalize a.tmps = tmps at ea eb
  subst ea eb
  exact run_sim' hw hfn tame hH0 h
end
end Go.Proofs.Ytmkjoojoaldljaa.Tm
namespace Go.Proofs.Ytmkjoojoaldljaa.Tm
open Go.Conc
section
variable (P : Program) (FS : FuncId → Prop) (x y : List Item) (c0 : Frame) (cs : List Frame)
def Susp (x y : List Item) (p q : Frame) : Prop := p.mode = .run ∧ ∃ ops i rest T, p.todo = .inRegion ops (i :: rest) :: (T ++ x) ∧ q.todo = .inRegion ops (i :: rest) :: (T ++ y)
inductive CRel : Frame → List Frame → Frame → List Frame → Prop
  | bot {p q : Frame} (h1 : TameF P FS p) (h2 : Alike x y p q) (h3 : Susp x y p q) : CRel p [c0] q cs
  | over {p q r s : Frame} {L M : List Frame} (h1 : TameF P FS p) (h2 : Alike [] [] p q) (h3 : Susp [] [] p q) (h4 : CRel r L s M) : CRel p (r :: L) q (s :: M)
inductive SRel : Frame → List Frame → Frame → List Frame → Prop
  | bot {a b : Frame} (h1 : TameF P FS a) (h2 : Alike x y a b) : SRel a [c0] b cs
  | over {a b p q : Frame} {L M : List Frame} (h1 : TameF P FS a) (h2 : Alike [] [] a b) (h4 : CRel P FS x y c0 cs p L q M) : SRel a (p :: L) b (q :: M)
end
section
variable {P : Program} {FS : FuncId → Prop} {x y : List Item} {c0 : Frame} {cs : List Frame} {H : Nat → Prop}
theorem CRel.finish {p q : Frame} {L M : List Frame} (h : CRel P FS x y c0 cs p L q M) (v : Value) : SRel P FS x y c0 cs (p.finish v) L (q.finish v) M := by
  cases h with
  | bot h1 h2 h3 =>
    obtain ⟨hm, ops, i, rest, T, e1, e2⟩ := h3
    obtain ⟨t1, t2⟩ := alike_finish h1 h2 hm e1 e2 v
    exact .bot t1 t2
  | over h1 h2 h3 h4 =>
    obtain ⟨hm, ops, i, rest, T, e1, e2⟩ := h3
    obtain ⟨t1, t2⟩ := alike_finish h1 h2 hm e1 e2 v
    exact .over t1 t2 h4
theorem CRel.raise {p q : Frame} {L M : List Frame} (h : CRel P FS x y c0 cs p L q M) (ch : List PanicEntry) : SRel P FS x y c0 cs (p.raise ch) L (q.raise ch) M := by
  cases h with
  | bot h1 h2 h3 => obtain ⟨t1, t2⟩ := alike_raise h1 h2 ch; exact .bot t1 t2
  | over h1 h2 h3 h4 => obtain ⟨t1, t2⟩ := alike_raise h1 h2 ch; exact .over t1 t2 h4
theorem enter_tame (hfns : TameFns P FS) {f : FuncId} (hf : FS f) (args : Array Value) : TameF P FS (Frame.enter P f args .normal) := by
  obtain ⟨fn, c, h1, h2, h3, h4⟩ := hfns f hf
  refine ⟨⟨fn, h1, h4⟩, rfl, rfl, rfl, fun _ z hz => ?_⟩
  simp only [Frame.enter, h1, h2, Option.bind_some, Option.getD_some, List.mem_singleton] at hz
  subst hz
  exact h3
theorem alike_self (a : Frame) : Alike [] [] a a := ⟨rfl, rfl, rfl, rfl, rfl, rfl, fun _ => ⟨a.todo, by simp, by simp⟩⟩
theorem ret_sim {a b c d : Frame} {L M : List Frame} (hF : TameF P FS a) (hm : a.mode = .returning) (hfn : b.fn = a.fn) (htm : b.tmps = a.tmps) (hdf : b.defers = a.defers) (hmb : b.mode = a.mode) (hkb : b.kind = a.kind) {u w0 : World} (hH0 : Hid H u w0) {g' : Goroutine} {u' : World} {es : Array Event}
    (h : stepG P true (G a (c :: L)) u = .go g' u' es) : ∃ v, (∃ fn evs, P.funcs[a.fn]? = some fn ∧ (results fn a.tmps).runT P u #[] = (.ok v u', evs)) ∧ g' = G (c.finish v) L ∧ ∀ w, Hid H u w → StepQ H u w u' fun w' es => stepG P true (G b (d :: M)) w = .go (G (d.finish v) M) w' es := by
  obtain ⟨fn, h1, h4⟩ := hF.fn
  have ea : ∀ u, stepG P true (G a (c :: L)) u = unwind P true a (c :: L) none u := fun u => by simp only [stepG, G, hm]
  have eb : ∀ u, stepG P true (G b (d :: M)) u = unwind P true b (d :: M) none u := fun u => by simp only [stepG, G, hmb, hm]
  cases hr : (results fn a.tmps).runT P u #[] with
  | mk r evs =>
    have ua : unwind P true a (c :: L) none u = GStep.after (seen P a.fn evs) (match r with
        | .ok v w => doReturn P true a (c :: L) none v w
        | .halt (.stuck s) w => .ended (.stuck s (a.pos P)) w
        | .halt _ w => .ended (.stuck "return: the result variables cannot be read" (a.pos P)) w) := by
      simp only [unwind, hF.defers, hm, h1, hr]
      cases r with
      | ok v w => rfl
      | halt z w => cases z <;> rfl
    rw [ea, ua] at h
    cases r with
    | ok v u1 =>
      have hrun : (results fn a.tmps).run P u = .ok v u1 := by
        have := congrArg Prod.fst hr
        rw [Sem.runT_eq] at this
        exact this
      simp only [doReturn, hF.kind, GStep.after, GStep.go.injEq, Array.append_empty] at h
      obtain ⟨rfl, rfl, rfl⟩ := h
      refine ⟨v, ⟨fn, evs, h1, hr⟩, rfl, fun w hH => ?_⟩
      obtain ⟨b1, b2, b3, _, b5⟩ := (h4 a.tmps H u w hH _ hrun).2.2 trivial
      refine ⟨b1, b2, b3, fun hal => ?_⟩
      obtain ⟨w', es2, c1, c2, _, c4⟩ := b5 #[] hal
      refine ⟨w', seen P a.fn es2, ?_, c2, fun e he => (c4 e (mem_seen he)).elim (fun x => by simp at x) id⟩
      rw [eb]
      have hrb : (results fn b.tmps).runT P w #[] = (.ok v w', es2) := by rw [htm]; exact c1
      simp only [unwind, hdf, hF.defers, hmb, hm, hfn, h1, hrb, doReturn, hkb, hF.kind, GStep.after, Array.append_empty]
      rfl
    | halt z u1 => cases z <;> simp only [GStep.after, reduceCtorEq] at h
theorem panic_sim {a b c d : Frame} {L M : List Frame} (hF : TameF P FS a) {ch : List PanicEntry} (hm : a.mode = .panicking ch) (hfn : b.fn = a.fn) (hdf : b.defers = a.defers) (hmb : b.mode = a.mode) {u w0 : World} (hH0 : Hid H u w0) {g' : Goroutine} {u' : World} {es : Array Event}
    (h : stepG P true (G a (c :: L)) u = .go g' u' es) : g' = G (c.raise ch) L ∧ ∀ w, Hid H u w → StepQ H u w u' fun w' es => stepG P true (G b (d :: M)) w = .go (G (d.raise ch) M) w' es := by
  obtain ⟨fn, h1, _⟩ := hF.fn
  have key : ∀ (z e : Frame) (N : List Frame) (v : World), z.fn = a.fn → z.defers = a.defers → z.mode = a.mode → stepG P true (G z (e :: N)) v = .go (G (e.raise ch) N) v #[] := by
    intro z e N v k1 k2 k3
    have hc : z.catches P = false := by unfold Frame.catches; rw [k1, h1]
    simp only [stepG, G, k3, hm, unwind, k2, hF.defers, hc, Bool.false_eq_true, if_false]
  rw [key a c L u rfl rfl rfl] at h
  simp only [GStep.go.injEq] at h
  obtain ⟨rfl, rfl, rfl⟩ := h
  exact ⟨rfl, fun w hH => StepQ.ctl hH (key b d M w hfn hdf hmb)⟩
theorem step_sim (hfns : TameFns P FS) (hw : Walled x y) {a b : Frame} {L M : List Frame} (hS : SRel P FS x y c0 cs a L b M) {u w0 : World} (hH0 : Hid H u w0) {g' : Goroutine} {u' : World} {es : Array Event} (h : stepG P true (G a L) u = .go g' u' es) :
    (∃ a' L' b' M', g' = G a' L' ∧ SRel P FS x y c0 cs a' L' b' M' ∧ ∀ w, Hid H u w → StepQ H u w u' fun w' es => stepG P true (G b M) w = .go (G b' M') w' es) ∨ (∃ v, g' = G (c0.finish v) []) ∨ ∃ ch, g' = G (c0.raise ch) [] := by
  cases hS with
  | bot h1 h2 =>
    cases hm : a.mode with
    | run =>
      rcases run_sim (M := cs) hw h1 hm h2 hH0 h with ⟨a', b', e1, e2, e3, e4⟩ | ⟨f, args, hf, e1, e2, e3⟩
      · exact .inl ⟨a', [c0], b', cs, e1, .bot e2 e3, e4⟩
      · exact .inl ⟨_, _, _, _, e1, .over (enter_tame hfns hf args) (alike_self _) (.bot h1 h2 ⟨hm, e2⟩), e3⟩
    | returning =>
      obtain ⟨v, _, e1, _⟩ := ret_sim (b := a) (d := c0) (M := []) h1 hm rfl rfl rfl rfl rfl hH0 h
      exact .inr (.inl ⟨v, e1⟩)
    | panicking ch =>
      obtain ⟨e1, _⟩ := panic_sim (b := a) (d := c0) (M := []) h1 hm rfl rfl rfl hH0 h
      exact .inr (.inr ⟨ch, e1⟩)
  | over h1 h2 h4 =>
    cases hm : a.mode with
    | run =>
      rcases run_sim (.inl ⟨rfl, rfl⟩) h1 hm h2 hH0 h with ⟨a', b', e1, e2, e3, e4⟩ | ⟨f, args, hf, e1, e2, e3⟩
      · exact .inl ⟨a', _, b', _, e1, .over e2 e3 h4, e4⟩
      · exact .inl ⟨_, _, _, _, e1, .over (enter_tame hfns hf args) (alike_self _) (.over h1 h2 ⟨hm, e2⟩ h4), e3⟩
    | returning =>
      obtain ⟨v, _, e1, e2⟩ := ret_sim h1 hm h2.fn h2.tmps h2.defers h2.mode h2.kind hH0 h
      exact .inl ⟨_, _, _, _, e1, h4.finish v, e2⟩
    | panicking ch =>
      obtain ⟨e1, e2⟩ := panic_sim h1 hm h2.fn h2.defers h2.mode hH0 h
      exact .inl ⟨_, _, _, _, e1, h4.raise ch, e2⟩
end
end Go.Proofs.Ytmkjoojoaldljaa.Tm
namespace Go.Proofs.Ytmkjoojoaldljaa.Tm
open Go.Conc
def GoOr (s : GStep) : Prop := (∃ g w es, s = .go g w es) ∨ ∃ o w es, s = .ended o w es
theorem GoOr.after {s : GStep} (h : GoOr s) (es : Array Event) : GoOr (GStep.after es s) := by
  rcases h with ⟨g, w, e, rfl⟩ | ⟨o, w, e, rfl⟩
  · exact .inl ⟨_, _, _, rfl⟩
  · exact .inr ⟨_, _, _, rfl⟩
theorem goOr_go {g : Goroutine} {w : World} {es : Array Event} : GoOr (.go g w es) := .inl ⟨_, _, _, rfl⟩
theorem goOr_end {o : Outcome} {w : World} {es : Array Event} : GoOr (.ended o w es) := .inr ⟨_, _, _, rfl⟩
section
variable {P : Program} {FS : FuncId → Prop} {H : Nat → Prop}
theorem oper_kind {s : Sem Next} (hT : SimG P true true (NextOk FS) s) {u w : World} (hH : Hid H u w) (a : Frame) (L : List Frame) : GoOr (stepG.apply P true a L none s u) := by
  cases hr : s.runT P u #[] with
  | mk r evs =>
    have hrun : s.run P u = r := by
      have := congrArg Prod.fst hr
      rw [Sem.runT_eq] at this
      exact this
    cases r with
    | ok n u1 =>
      have hL := (hT H u w hH _ hrun).1 n u1 rfl
      simp only [stepG.apply, hr, if_true]
      refine GoOr.after ?_ _
      cases n <;> first | exact goOr_go | exact hL.elim
    | halt x u1 =>
      have hx := (hT H u w hH _ hrun).2.1 x u1 rfl
      cases x with
      | unsupported m =>
        simp only [stepG.apply, hr, if_true]
        refine GoOr.after ?_ _
        cases m <;> first | exact goOr_end | exact hx.elim
      | panic v => simp only [stepG.apply, hr, if_true]; exact goOr_go.after _
      | stuck v => simp only [stepG.apply, hr, if_true]; exact goOr_end.after _
      | _ => exact hx.elim
theorem run_kind {fn : FuncId} {tmps : Array Value} {T : List Item} (tame : ∀ z ∈ T, TameItem P FS z) {u w : World} (hH : Hid H u w) (L : List Frame) : GoOr (stepG P true (G (mkF fn tmps T) L) u) := by
  rw [stepG_run rfl]
  cases T with
  | nil => exact goOr_go
  | cons t T =>
    have tt : TameItem P FS t := tame t (List.mem_cons_self ..)
    cases t with
    | code c =>
      cases c with
      | cond c c1 c2 =>
        simp only [stepG.exec, mkF]
        split
        · exact goOr_go
        · exact goOr_end
      | exit id =>
        simp only [stepG.exec, mkF]
        cases exitTo id T with
        | none => exact goOr_end
        | some k => exact goOr_go
      | goto l =>
        simp only [stepG.exec, mkF]
        cases gotoIn l T with
        | none => exact goOr_end
        | some k => exact goOr_go
      | rangeFunc f ps ag bd => exact tt.elim
      | refuse m => exact goOr_end
      | region id ops draw => cases draw <;> exact goOr_go
      | _ => exact goOr_go
    | inRegion ops l =>
      cases l with
      | nil => exact goOr_go
      | cons i rest =>
        show GoOr (if ((ops[i]?).map (Region.wanted · (yielded ops tmps))).getD false then stepG.oper P true (mkF fn tmps (.inRegion ops (i :: rest) :: T)) L none u else _)
        split
        · rename_i hwn
          cases ho : ops[i]? with
          | none => rw [ho] at hwn; simp at hwn
          | some o =>
            have hoz : (mkF fn tmps (.inRegion ops (i :: rest) :: T)).oper? = some o := ho
            have hr : (mkF fn tmps (.inRegion ops (i :: rest) :: T)).roundOf = none := rfl
            simp only [stepG.oper, hoz, hr]
            exact oper_kind (tt i o ho _ fun _ => rfl) hH _ _
        · exact goOr_go
    | inRangeFunc l => exact tt.elim
    | endRangeFunc l => exact tt.elim
    | beginRound => exact tt.elim
    | call d a1 a2 a3 => exact tt.elim
    | extern r args => exact tt.elim
    | _ => exact goOr_go
theorem frame_kind {a c : Frame} {L : List Frame} (hF : TameF P FS a) {u w : World} (hH : Hid H u w) : GoOr (stepG P true (G a (c :: L)) u) := by
  cases hm : a.mode with
  | run =>
    have ea : a = mkF a.fn a.tmps a.todo := by
      obtain ⟨fn, tmps, todo, defers, mode, kind, rnd⟩ := a
      have h1 := hF.kind; have h2 := hF.defers; have h3 := hF.round
      simp only at h1 h2 h3 hm
      subst h1 h2 h3 hm
      rfl
    rw [ea]
    exact run_kind (hF.todo hm) hH _
  | returning =>
    obtain ⟨fn, h1, _⟩ := hF.fn
    simp only [stepG, G, hm, unwind, hF.defers, h1]
    refine GoOr.after ?_ _
    split
    · simp only [doReturn, hF.kind]; exact goOr_go
    · exact goOr_end
    · exact goOr_end
  | panicking ch =>
    obtain ⟨fn, h1, _⟩ := hF.fn
    have hc : a.catches P = false := by unfold Frame.catches; rw [h1]
    simp only [stepG, G, hm, unwind, hF.defers, hc, Bool.false_eq_true, if_false]
    exact goOr_go
def wall : Frame := { (default : Frame) with fn := 0, defers := [{ target := .nil, args := #[] }], todo := [.code (.refuse "")], mode := .run, kind := .normal }
theorem wall_finish (v : Value) (u : World) : ∃ o w es, stepG P true (G (wall.finish v) []) u = .ended o w es := ⟨_, _, _, rfl⟩
theorem wall_raise (ch : List PanicEntry) (u : World) : ∃ o w es, stepG P true (G (wall.raise ch) []) u = .ended o w es := ⟨_, _, _, rfl⟩
end
end Go.Proofs.Ytmkjoojoaldljaa.Tm
namespace Go.Proofs.Ytmkjoojoaldljaa.Tm
open Go.Conc
def tp (u : World) (τ : Nat → Question → Nat) : World := { u with tape := τ }
section
variable {P : Program} {FS : FuncId → Prop} {x : List Item}
def Self (P : Program) (FS : FuncId → Prop) (x : List Item) (a : Frame) (L : List Frame) : Prop := SRel P FS x x wall [wall] a L a L
def NoPV (u : World) : Prop := ∀ (b : Nat) (o : Obj), u.heap[b]? = some o → OkO b o
theorem hid_self {u : World} (h : NoPV u) (τ : Nat → Question → Nat) : Hid (fun _ => False) u (tp u τ) :=
  ⟨rfl, rfl, rfl, fun _ _ => rfl, fun _ h => h.elim, h⟩
theorem eq_tp {u w : World} (h : Hid (fun _ => False) u w) (hd : w.drawn = u.drawn) : w = tp u w.tape := by
  have he : u.heap = w.heap := Array.ext_getElem? fun b => h.blk b id
  obtain ⟨hp, τ, d, os, out⟩ := w
  obtain ⟨hp', τ', d', os', out'⟩ := u
  have h1 := h.os; have h2 := h.output
  simp only at he hd h1 h2
  subst he hd h1 h2
  rfl
theorem step_tape (hfns : TameFns P FS) (hw : Walled x x) {a : Frame} {L : List Frame} (hS : Self P FS x a L) {u : World} (hn : NoPV u) {g' : Goroutine} {u' : World} {es : Array Event} (h : stepG P true (G a L) u = .go g' u' es) :
    (∃ a' L', g' = G a' L' ∧ Self P FS x a' L' ∧ NoPV u' ∧ u'.tape = u.tape ∧ u.drawn ≤ u'.drawn ∧ ∀ τ, (∀ n, u.drawn ≤ n → n < u'.drawn → τ n = u.tape n) → ∃ es', stepG P true (G a L) (tp u τ) = .go (G a' L') (tp u' τ) es') ∨
    (∃ v, g' = G (wall.finish v) []) ∨ ∃ ch, g' = G (wall.raise ch) [] := by
  rcases step_sim hfns hw hS (hid_self hn u.tape) h with ⟨a', L', b', M', e1, e2, e3⟩ | h'
  · left
    have al : ∀ τ, (∀ n, u.drawn ≤ n → n < u'.drawn → τ n = u.tape n) → Al u (tp u τ) u' := fun τ hτ n h1 h2 => by
      show τ (u.drawn + (n - u.drawn)) = u.tape n
      rw [show u.drawn + (n - u.drawn) = n by omega]; exact hτ n h1 h2
    obtain ⟨w0, es0, k0, n0, _⟩ := (e3 _ (hid_self hn u.tape)).go (al _ fun _ _ _ => rfl)
    have k0' : stepG P true (G a L) u = .go (G b' M') w0 es0 := k0
    rw [h] at k0'
    have hb : b' = a' ∧ M' = L' := by
      have hg : g' = G b' M' := by injection k0'
      rw [e1] at hg
      injection hg with p q
      exact ⟨p.symm, q.symm⟩
    obtain ⟨rfl, rfl⟩ := hb
    have Q0 := e3 _ (hid_self hn u.tape)
    refine ⟨b', M', e1, e2, n0.hid.npv, Q0.tape, Q0.drawn, fun τ hτ => ?_⟩
    have Q := e3 _ (hid_self hn τ)
    obtain ⟨w', es', k1, k2, _⟩ := Q.go (al τ hτ)
    have hd : w'.drawn = u'.drawn := by
      rw [k2.drawn]
      show u.drawn + (u'.drawn - u.drawn) = u'.drawn
      have := Q0.drawn; omega
    have hw' : w' = tp u' τ := by
      have := eq_tp k2.hid hd
      rw [this, k2.tape]; rfl
    exact ⟨es', by rw [k1, hw']⟩
  · exact .inr h'
theorem lone_next {a : Frame} {L : List Frame} {u : World} {a' : Frame} {L' : List Frame} {u' : World} {es : Array Event} (h : stepG P true (G a L) u = .go (G a' L') u' es) : step P (lone a L u) = .next (lone a' L' u') := by
  refine step_lone_go ?_
  have : stepG P true { frame := a, callers := L, status := .running, dying := none } u = .go (G a' L') u' es := h
  rw [this]; rfl
theorem lone_ended {a : Frame} {L : List Frame} {u : World} {o : Outcome} {u' : World} {es : Array Event} (h : stepG P true (G a L) u = .ended o u' es) : step P (lone a L u) = .ended o u' := by
  refine step_lone_ended ?_
  have : stepG P true { frame := a, callers := L, status := .running, dying := none } u = .ended o u' es := h
  rw [this]; rfl
theorem lone_inj {a b : Frame} {L M : List Frame} {u w : World} (h : lone a L u = lone b M w) : a = b ∧ L = M ∧ u = w := by
  unfold lone at h
  injection h with h1 h2
  simp only [List.toArray, Array.mk.injEq, List.cons.injEq, Goroutine.mk.injEq, and_true, true_and] at h2
  first
    | exact ⟨h2.1, h2.2, h1⟩
    | (obtain ⟨h3, h4⟩ := h2; exact ⟨h3, h4, h1⟩)
theorem dead_end {a : Frame} (hd : ∀ u, ∃ o w es, stepG P true (G a []) u = .ended o w es) (n : Nat) {u : World} {fr : Frame} {u' : World} (h : runN P n (lone a [] u) = .next (lone fr [wall] u')) : False := by
  cases n with
  | zero =>
    have e : lone a [] u = lone fr [wall] u' := by simpa [runN] using h
    have := (lone_inj e).2.1
    cases this
  | succ n =>
    obtain ⟨o, w, es, e⟩ := hd u
    simp only [runN, lone_ended e, reduceCtorEq] at h
theorem run_step (hfns : TameFns P FS) (hw : Walled x x) {a : Frame} {L : List Frame} (hS : Self P FS x a L) {u : World} (hn : NoPV u) {n : Nat} {fr : Frame} {u' : World} (h : runN P (n + 1) (lone a L u) = .next (lone fr [wall] u')) :
    ∃ a' L' u1 es, stepG P true (G a L) u = .go (G a' L') u1 es ∧ Self P FS x a' L' ∧ NoPV u1 ∧ u1.tape = u.tape ∧ u.drawn ≤ u1.drawn ∧ runN P n (lone a' L' u1) = .next (lone fr [wall] u') ∧
      ∀ τ, (∀ n, u.drawn ≤ n → n < u1.drawn → τ n = u.tape n) → ∃ es', stepG P true (G a L) (tp u τ) = .go (G a' L') (tp u1 τ) es' := by
  have hk : GoOr (stepG P true (G a L) u) := by
    cases hS with
    | bot h1 _ => exact frame_kind h1 (hid_self hn u.tape)
    | over h1 _ _ => exact frame_kind h1 (hid_self hn u.tape)
  rcases hk with ⟨g', u1, es, e⟩ | ⟨o, w, es, e⟩
  · rcases step_tape hfns hw hS hn e with ⟨a', L', rfl, e2, e3, e4, e5, e6⟩ | ⟨v, rfl⟩ | ⟨ch, rfl⟩
    · refine ⟨a', L', u1, es, e, e2, e3, e4, e5, ?_, e6⟩
      simpa only [runN, lone_next e] using h
    · exfalso
      simp only [runN, lone_next e] at h
      exact dead_end (fun u => wall_finish v u) n h
    · exfalso
      simp only [runN, lone_next e] at h
      exact dead_end (fun u => wall_raise ch u) n h
  · simp only [runN, lone_ended e, reduceCtorEq] at h
variable (P) in
def Good (Fin : Frame → World → Prop) (a : Frame) (L : List Frame) (u : World) : Prop := ∀ τ, ∃ n fr u', runN P n (lone a L (tp u τ)) = .next (lone fr [wall] u') ∧ Fin fr u'
variable (P) in
inductive Inev (Fin : Frame → World → Prop) : Frame → List Frame → World → Prop
  | now {a : Frame} {u : World} (h : Fin a u) : Inev Fin a [wall] u
  | step {a : Frame} {L : List Frame} {u : World} (a' : (Nat → Question → Nat) → Frame) (L' : (Nat → Question → Nat) → List Frame) (u' : (Nat → Question → Nat) → World) (es : (Nat → Question → Nat) → Array Event)
      (h : ∀ τ, stepG P true (G a L) (tp u τ) = .go (G (a' τ) (L' τ)) (u' τ) (es τ)) (k : ∀ τ, Inev Fin (a' τ) (L' τ) (u' τ)) : Inev Fin a L u
variable {Fin : Frame → World → Prop}
theorem run_agree (hfns : TameFns P FS) (hw : Walled x x) (hF : ∀ fr u τ, Fin fr u → Fin fr (tp u τ)) : ∀ (n : Nat) {a : Frame} {L : List Frame} (_ : Self P FS x a L) {u : World} (_ : NoPV u) {τ : Nat → Question → Nat} (_ : ∀ k, u.drawn ≤ k → τ k = u.tape k) {fr : Frame} {u' : World},
    runN P n (lone a L u) = .next (lone fr [wall] u') → Fin fr u' → ∃ u'', runN P n (lone a L (tp u τ)) = .next (lone fr [wall] u'') ∧ Fin fr u'' := by
  intro n
  induction n with
  | zero =>
    intro a L _ u _ τ _ fr u' h hf
    have e : lone a L u = lone fr [wall] u' := by simpa [runN] using h
    obtain ⟨rfl, rfl, rfl⟩ := lone_inj e
    exact ⟨tp u τ, rfl, hF _ _ _ hf⟩
  | succ n ih =>
    intro a L hS u hn τ hτ fr u' h hf
    obtain ⟨a', L', u1, es, _, e2, e3, e4, e5, e6, e7⟩ := run_step hfns hw hS hn h
    obtain ⟨u'', k1, k2⟩ := ih e2 e3 (τ := τ) (fun k hk => by rw [e4]; exact hτ k (by omega)) e6 hf
    obtain ⟨es', e8⟩ := e7 τ fun k h1 _ => hτ k h1
    exact ⟨u'', by simp only [runN, lone_next e8]; exact k1, k2⟩
theorem bar (hfns : TameFns P FS) (hw : Walled x x) (hF : ∀ fr u τ, Fin fr u → Fin fr (tp u τ)) {a : Frame} {L : List Frame} (hS : Self P FS x a L) {u : World} (hn : NoPV u) (hG : Good P Fin a L u) : Inev P Fin a L u := by
  refine Classical.byContradiction fun hno => ?_
  let St := { s : Frame × List Frame × World // Self P FS x s.1 s.2.1 ∧ NoPV s.2.2 ∧ Good P Fin s.1 s.2.1 s.2.2 ∧ ¬ Inev P Fin s.1 s.2.1 s.2.2 }
  have next : ∀ s : St, ∃ (τ : Nat → Question → Nat) (s' : St), s.1.2.2.drawn ≤ s'.1.2.2.drawn ∧ ∀ σ, (∀ n, s.1.2.2.drawn ≤ n → n < s'.1.2.2.drawn → σ n = τ n) → ∃ es, stepG P true (G s.1.1 s.1.2.1) (tp s.1.2.2 σ) = .go (G s'.1.1 s'.1.2.1) (tp s'.1.2.2 σ) es := by
    rintro ⟨⟨a, L, u⟩, hS, hn, hG, hno⟩
    simp only at hS hn hG hno
    have hex : ∃ τ, ∀ a' L' u' es, stepG P true (G a L) (tp u τ) = .go (G a' L') u' es → ¬ Inev P Fin a' L' u' := by
      refine Classical.byContradiction fun hall => hno ?_
      have hall' : ∀ τ, ∃ a' L' u' es, stepG P true (G a L) (tp u τ) = .go (G a' L') u' es ∧ Inev P Fin a' L' u' := fun τ => Classical.byContradiction fun h => hall ⟨τ, fun a' L' u' es e hi => h ⟨a', L', u', es, e, hi⟩⟩
      exact Inev.step (fun τ => (hall' τ).choose) (fun τ => (hall' τ).choose_spec.choose) (fun τ => (hall' τ).choose_spec.choose_spec.choose) (fun τ => (hall' τ).choose_spec.choose_spec.choose_spec.choose)
        (fun τ => (hall' τ).choose_spec.choose_spec.choose_spec.choose_spec.1) (fun τ => (hall' τ).choose_spec.choose_spec.choose_spec.choose_spec.2)
    obtain ⟨τ, hτ⟩ := hex
    have nz : ∀ σ n fr u', runN P n (lone a L (tp u σ)) = .next (lone fr [wall] u') → Fin fr u' → n ≠ 0 := by
      rintro σ n fr u' h hf rfl
      have e : lone a L (tp u σ) = lone fr [wall] u' := by simpa [runN] using h
      obtain ⟨rfl, rfl, rfl⟩ := lone_inj e
      exact hno (.now (show Fin a u from hF a (tp u σ) u.tape hf))
    obtain ⟨n, fr, u', h1, h2⟩ := hG τ
    obtain ⟨m, rfl⟩ : ∃ m, n = m + 1 := ⟨n - 1, by have := nz τ n fr u' h1 h2; omega⟩
    obtain ⟨a', L', u1, es, e1, e2, e3, e4, e5, _, e7⟩ := run_step hfns hw hS (u := tp u τ) hn h1
    have e5' : u.drawn ≤ u1.drawn := e5
    have e7' : ∀ σ, (∀ n, u.drawn ≤ n → n < u1.drawn → σ n = τ n) → ∃ es, stepG P true (G a L) (tp u σ) = .go (G a' L') (tp u1 σ) es := fun σ hσ => e7 σ hσ
    refine ⟨τ, ⟨(a', L', u1), e2, e3, fun σ => ?_, hτ _ _ _ _ e1⟩, e5', fun σ hσ => e7' σ hσ⟩
    obtain ⟨n2, fr2, u2, k1, k2⟩ := hG fun k => if k < u1.drawn then τ k else σ k
    obtain ⟨m2, rfl⟩ : ∃ m, n2 = m + 1 := ⟨n2 - 1, by have := nz _ n2 fr2 u2 k1 k2; omega⟩
    obtain ⟨es2, hs⟩ : ∃ es, stepG P true (G a L) (tp u fun k => if k < u1.drawn then τ k else σ k) = .go (G a' L') (tp u1 fun k => if k < u1.drawn then τ k else σ k) es := e7' _ fun k _ hk => by simp only [if_pos hk]
    simp only [runN, lone_next hs] at k1
    obtain ⟨u3, k3, k4⟩ := run_agree hfns hw hF m2 e2 (u := tp u1 fun k => if k < u1.drawn then τ k else σ k) e3 (τ := σ) (fun k hk => by
      show σ k = if k < u1.drawn then τ k else σ k
      rw [if_neg (by have hk' : u1.drawn ≤ k := hk; omega)]) k1 k2
    exact ⟨m2, fr2, u3, k3, k4⟩
  let s0 : St := ⟨(a, L, u), hS, hn, hG, hno⟩
  let seq : Nat → St := fun k => Nat.rec s0 (fun _ s => (next s).choose_spec.choose) k
  let T : Nat → Nat → Question → Nat := fun k => (next (seq k)).choose
  have hseq : ∀ k, (seq k).1.2.2.drawn ≤ (seq (k + 1)).1.2.2.drawn ∧ ∀ σ, (∀ n, (seq k).1.2.2.drawn ≤ n → n < (seq (k + 1)).1.2.2.drawn → σ n = T k n) → ∃ es, stepG P true (G (seq k).1.1 (seq k).1.2.1) (tp (seq k).1.2.2 σ) = .go (G (seq (k + 1)).1.1 (seq (k + 1)).1.2.1) (tp (seq (k + 1)).1.2.2 σ) es :=
    fun k => (next (seq k)).choose_spec.choose_spec
  let D : Nat → Nat := fun k => (seq k).1.2.2.drawn
  have hmono : ∀ i j, i ≤ j → D i ≤ D j := by
    intro i j hij
    induction hij with
    | refl => exact Nat.le_refl _
    | step _ ih => exact Nat.le_trans ih (hseq _).1
  let τs : Nat → Question → Nat := fun n => open Classical in if h : ∃ k, D k ≤ n ∧ n < D (k + 1) then T h.choose n else fun _ => 0
  have hτs : ∀ k n, D k ≤ n → n < D (k + 1) → τs n = T k n := by
    intro k n h1 h2
    have hex : ∃ k, D k ≤ n ∧ n < D (k + 1) := ⟨k, h1, h2⟩
    have e : τs n = T hex.choose n := dif_pos hex
    have hc := hex.choose_spec
    have : hex.choose = k := by
      generalize hex.choose = j at hc
      rcases Nat.lt_trichotomy j k with h | h | h
      · have := hmono (j + 1) k h; omega
      · exact h
      · have := hmono (k + 1) j h; omega
    rw [e, this]
  have hrun : ∀ k, runN P k (lone a L (tp u τs)) = .next (lone (seq k).1.1 (seq k).1.2.1 (tp (seq k).1.2.2 τs)) := by
    intro k
    induction k with
    | zero => rfl
    | succ k ih =>
      obtain ⟨es, e⟩ := (hseq k).2 τs fun n h1 h2 => hτs k n h1 h2
      rw [runN_add P k 1, ih]
      simp only [runN, lone_next e]
  obtain ⟨n, fr, u', h1, h2⟩ := hG τs
  rw [hrun n] at h1
  have e : lone (seq n).1.1 (seq n).1.2.1 (tp (seq n).1.2.2 τs) = lone fr [wall] u' := by injection h1
  obtain ⟨e1, e2, e3⟩ := lone_inj e
  refine (seq n).2.2.2.2 ?_
  rw [e2, e1]
  refine .now ?_
  have : (seq n).1.2.2 = tp u' (seq n).1.2.2.tape := by rw [← e3]; rfl
  rw [this]
  exact hF _ _ _ h2
end
end Go.Proofs.Ytmkjoojoaldljaa.Tm
namespace Go.Proofs.Ytmkjoojoaldljaa.Tm
open Go.Conc
def ShL (Sh : Nat → Prop) (l : Loc) : Prop := ∃ a : Addr, l = .cell a ∧ Sh a.block
structure Fr (P : Program) (gs : Array Goroutine) (a : Goroutine) (w : World) (t : Trace) (Sh : Nat → Prop) : Prop where
  zero : gs[0]? = some a
  lv : ∃ q, Leavers P t gs q
  past : Past (ShL Sh) w.heap.size t
def Bs (P : Program) (K : (Nat → Prop) → Goroutine → World → Prop) (Sh : Nat → Prop) (a : Goroutine) (w : World) : Prop :=
  ∀ (d : Nat) (gs : Array Goroutine) (sl : Option (Nat × Nat)) (t : Trace), Fr P gs a (w.at d) t Sh →
    ∃ (N : Nat) (gs' : Array Goroutine) (sl' : Option (Nat × Nat)) (t' : Trace) (a' : Goroutine) (w' : World) (Sh' : Nat → Prop), runNT P N (crowd gs (w.at d) sl) t = (.next (crowd gs' w' sl'), t') ∧ Fr P gs' a' w' t' Sh' ∧ K Sh' a' w'
section
variable {P : Program} {K K' : (Nat → Prop) → Goroutine → World → Prop} {Sh : Nat → Prop} {a : Goroutine} {w : World}
theorem Bs.now (h : ∀ d, K Sh a (w.at d)) : Bs P K Sh a w := fun d gs sl t hF => ⟨0, gs, sl, t, a, w.at d, Sh, rfl, hF, h d⟩
theorem runNT_then {P : Program} {m m1 : Machine} {t t1 : Trace} {n k : Nat} {s : Stepped} {t2 : Trace} (h : runNT P n m t = (.next m1, t1)) (h2 : runNT P k m1 t1 = (s, t2)) : runNT P (n + k) m t = (s, t2) := by
  rw [runNT_add, h]; exact h2
theorem at_drawn (w : World) : w.at w.drawn = w := rfl
theorem Bs.then (h : Bs P K Sh a w) (k : ∀ Sh' a' w', K Sh' a' w' → Bs P K' Sh' a' w') : Bs P K' Sh a w := by
  intro d gs sl t hF
  obtain ⟨N, gs', sl', t', a', w', Sh', r1, F', hk⟩ := h d gs sl t hF
  obtain ⟨N2, gs2, sl2, t2, a2, w2, Sh2, r2, F2, k2⟩ := k Sh' a' w' hk w'.drawn gs' sl' t' F'
  rw [at_drawn] at r2
  exact ⟨N + N2, gs2, sl2, t2, a2, w2, Sh2, runNT_then r1 r2, F2, k2⟩
theorem Bs.mono (h : Bs P K Sh a w) (k : ∀ Sh' a' w', K Sh' a' w' → K' Sh' a' w') : Bs P K' Sh a w := fun d gs sl t hF => by
  obtain ⟨N, gs', sl', t', a', w', Sh', r1, F', hk⟩ := h d gs sl t hF
  exact ⟨N, gs', sl', t', a', w', Sh', r1, F', k _ _ _ hk⟩
theorem evL_of_evH {H : Nat → Prop} {hi : Nat} {e : Event} (hs : ∀ b, Sh b → H b) (h : EvH H hi e) : EvL (ShL Sh) hi e := by
  obtain ⟨loc, wr, sy⟩ := e
  rcases h with ⟨ad, hl, hn, hlt⟩ | ⟨r, hl, hlt⟩ | h
  · simp only at hl
    subst hl
    refine ⟨fun x hx hsh => ?_, by simp, by simp, hlt⟩
    simp only [MemAct.ofEvent, MemAct.touch?, Option.some.injEq] at hx
    subst hx
    obtain ⟨a', e1, e2⟩ := hsh
    injection e1 with e1
    rw [← e1] at e2
    exact absurd (hs _ e2) hn
  · simp only at hl
    subst hl
    refine ⟨fun x hx hsh => ?_, by simp, by simp, by cases wr <;> cases sy <;> exact hlt⟩
    have hl : x.loc = .obj r := by
      cases wr <;> cases sy <;> simp [MemAct.ofEvent, MemAct.touch?] at hx <;> first | (subst hx; rfl) | cases hx
    obtain ⟨a', e1, _⟩ := hsh
    rw [hl] at e1
    cases e1
  · injection h with h1 h2 h3
    subst h1 h2 h3
    exact ⟨fun x hx => by simp [MemAct.ofEvent, MemAct.touch?] at hx, by simp, by simp, trivial⟩
theorem Bs.step (hr : a.status = .running) (h : ∀ d, ∃ a' w' es, stepG P true a (w.at d) = .go a' w' es ∧ (∀ e ∈ es, EvL (ShL Sh) w.heap.size e) ∧ w.heap.size ≤ w'.heap.size ∧ Bs P K Sh a' w') : Bs P K Sh a w := by
  intro d gs sl t hF
  obtain ⟨q, hL⟩ := hF.lv
  have hg : Goes P true AtRel (fun _ _ es => ∀ e ∈ es, EvL (ShL Sh) w.heap.size e) (fun a' w' => w.heap.size ≤ w'.heap.size ∧ Bs P K Sh a' w') 1 a (w.at d) := by
    refine .inr ⟨hr, fun w₁ h₁ => ?_⟩
    obtain ⟨d1, rfl⟩ := h₁
    obtain ⟨a', w', es, e1, e2, e3, e4⟩ := h d1
    have e1' : stepG P true a ((w.at d).at d1) = .go a' w' es := e1
    rw [e1', goes_go]
    refine ⟨e2, fun w₂ h₂ => ?_⟩
    obtain ⟨d2, rfl⟩ := h₂
    exact ⟨e3, fun dd gs sl t F => e4 dd gs sl t F⟩
  obtain ⟨N, gs', a', w', sl', t', q', r1, _, h0, ⟨hs, hb⟩, hL', hP'⟩ := walk_beside (fun _ _ _ h => h) _ 1 gs a (w.at d) sl t q (Nat.le_refl _) hF.zero hL hF.past hg
  obtain ⟨N2, gs2, sl2, t2, a2, w2, Sh2, r2, F2, k2⟩ := hb w'.drawn gs' sl' t' ⟨h0, ⟨q', hL'⟩, hP'.mono hs⟩
  rw [at_drawn] at r2
  exact ⟨N + N2, gs2, sl2, t2, a2, w2, Sh2, runNT_then r1 r2, F2, k2⟩
theorem Bs.ctl {a' : Goroutine} (hr : a.status = .running) (hs : ∀ w, stepG P true a w = .go a' w #[]) (h : Bs P K Sh a' w) : Bs P K Sh a w :=
  Bs.step hr fun d => ⟨a', w.at d, #[], hs _, by simp, Nat.le_refl _, fun dd gs sl t F => h dd gs sl t F⟩
end
section
variable {P : Program} {FS : FuncId → Prop} {x y : List Item} {H Sh : Nat → Prop} {Fin : Frame → World → Prop}
theorem crel_callers {c0 : Frame} {cs : List Frame} {p q : Frame} {L M : List Frame} (h : CRel P FS x y c0 cs p L q M) : L ≠ [] := by cases h <;> simp
theorem inev_dead {a : Frame} (hd : ∀ u, ∃ o w es, stepG P true (G a []) u = .ended o w es) {u : World} (h : Inev P Fin a [] u) : False := by
  cases h with
  | step a' L' u' es h k =>
    obtain ⟨o, w, es', e⟩ := hd (tp u fun _ _ => 0)
    rw [h] at e
    cases e
theorem inev_beside (hfns : TameFns P FS) (hw : Walled x y) (hSh : ∀ b, Sh b → H b) {cs : List Frame} {a : Frame} {L : List Frame} {u : World} (hI : Inev P Fin a L u) : ∀ {b : Frame} {M : List Frame} {w : World}, SRel P FS x y wall cs a L b M → Hid H u w →
    Bs P (fun Sh' g' w' => Sh' = Sh ∧ ∃ fr u' fr', Fin fr u' ∧ TameF P FS fr ∧ Alike x y fr fr' ∧ g' = G fr' cs ∧ Hid H u' w' ∧ w.heap.size ≤ w'.heap.size ∧ (∀ c, H c → w'.heap[c]? = w.heap[c]?) ∧ w'.tape = w.tape) Sh (G b M) w := by
  induction hI with
  | @now a u h =>
    intro b M w hS hH
    refine Bs.now fun d => ⟨rfl, ?_⟩
    generalize hL : [wall] = L at hS
    cases hS with
    | bot h1 h2 =>
      exact ⟨a, u, b, h, h1, h2, rfl, ⟨hH.size, hH.os, hH.output, hH.blk, hH.hid, hH.npv⟩, Nat.le_refl _, fun _ _ => rfl, rfl⟩
    | over h1 h2 h4 =>
      injection hL with e1 e2
      subst e2
      exact absurd rfl (crel_callers h4)
  | @step a L u a' L' u' es h k ih =>
    intro b M w hS hH
    refine Bs.step rfl fun d => ?_
    have hHd : Hid H (tp u fun n => w.tape (d + (n - u.drawn))) (w.at d) := ⟨hH.size, hH.os, hH.output, hH.blk, hH.hid, hH.npv⟩
    have e0 := h fun n => w.tape (d + (n - u.drawn))
    have ih0 := @ih fun n => w.tape (d + (n - u.drawn))
    have k0 := k fun n => w.tape (d + (n - u.drawn))
    generalize (a' fun n => w.tape (d + (n - u.drawn))) = a1 at e0 ih0 k0
    generalize (L' fun n => w.tape (d + (n - u.drawn))) = L1 at e0 ih0 k0
    generalize (u' fun n => w.tape (d + (n - u.drawn))) = u1 at e0 ih0 k0
    rcases step_sim hfns hw hS hHd e0 with ⟨a2, L2, b2, M2, f1, f2, f3⟩ | ⟨v, f1⟩ | ⟨ch, f1⟩
    · have hb : a1 = a2 ∧ L1 = L2 := by injection f1 with p q; exact ⟨p, q⟩
      obtain ⟨rfl, rfl⟩ := hb
      have Q := f3 _ hHd
      obtain ⟨w', es2, q1, q2, q3⟩ := Q.go fun n _ _ => rfl
      refine ⟨_, w', _, q1, fun e he => evL_of_evH hSh ?_, ?_, ?_⟩
      · exact q3 e he
      · have h1 := Q.size
        have h2 := q2.hid.size
        have h3 : (tp u fun n => w.tape (d + (n - u.drawn))).heap.size = w.heap.size := hH.size
        omega
      · refine (ih0 f2 q2.hid).mono fun Sh' g' w2 hk => ?_
        obtain ⟨k1, fr, u2, fr', k2, k3, k4, k5, k6, k7, k8, k9⟩ := hk
        have h1 := Q.size
        have h2 := q2.hid.size
        have h3 : (tp u fun n => w.tape (d + (n - u.drawn))).heap.size = w.heap.size := hH.size
        exact ⟨k1, fr, u2, fr', k2, k3, k4, k5, k6, by omega, fun c hc => (k8 c hc).trans (q2.keep c hc), k9.trans q2.tape⟩
    · exfalso
      injection f1 with p q
      subst p q
      exact inev_dead (fun u => wall_finish v u) k0
    · exfalso
      injection f1 with p q
      subst p q
      exact inev_dead (fun u => wall_raise ch u) k0
theorem run_npv (hfns : TameFns P FS) (hw : Walled x x) : ∀ (n : Nat) {a : Frame} {L : List Frame} (_ : Self P FS x a L) {u : World} (_ : NoPV u) {fr : Frame} {u' : World}, runN P n (lone a L u) = .next (lone fr [wall] u') → NoPV u' := by
  intro n
  induction n with
  | zero =>
    intro a L _ u hn fr u' h
    have e : lone a L u = lone fr [wall] u' := by simpa [runN] using h
    obtain ⟨rfl, rfl, rfl⟩ := lone_inj e
    exact hn
  | succ n ih =>
    intro a L hS u hn fr u' h
    obtain ⟨a', L', u1, es, _, e2, e3, _, _, e6, _⟩ := run_step hfns hw hS hn h
    exact ih e2 e3 e6
theorem calls_beside (hfns : TameFns P FS) (hSh : ∀ b, Sh b → H b) {f : FuncId} (hf : FS f) {args : Array Value} {R : Value → World → Prop} {u w : World} (hR : ∀ v u τ, R v u → R v (tp u τ)) (hH : Hid H u w)
    (hc : ∀ τ, Calls P f args (tp u τ) fun e u' => ∃ v, e = .returned v ∧ R v u') (c : Frame) (cs : List Frame) :
    Bs P (fun Sh' g' w' => Sh' = Sh ∧ ∃ v u', R v u' ∧ g' = G (c.finish v) cs ∧ Hid H u' w' ∧ w.heap.size ≤ w'.heap.size ∧ (∀ c, H c → w'.heap[c]? = w.heap[c]?) ∧ w'.tape = w.tape) Sh (G (Frame.enter P f args .normal) (c :: cs)) w := by
  obtain ⟨fn, _, h1, _, _, h4⟩ := hfns f hf
  let Fin : Frame → World → Prop := fun fr u' => NoPV u' ∧ ∃ v, R v u' ∧ fr.mode = .returning ∧ fr.fn = f ∧ fr.kind = .normal ∧ fr.defers = [] ∧ (results fn fr.tmps).run P u' = .ok v u'
  have hself : Self P FS [] (Frame.enter P f args .normal) [wall] := .bot (enter_tame hfns hf args) (alike_self _)
  have hwal : Walled [] [] := .inl ⟨rfl, rfl⟩
  have hres : ∀ (T : Array Value) (v : Value) (u' : World) (τ : Nat → Question → Nat), NoPV u' → (results fn T).run P u' = .ok v u' → (results fn T).run P (tp u' τ) = .ok v (tp u' τ) := by
    intro T v u' τ hn hr
    obtain ⟨_, _, a3⟩ := h4 T _ u' (tp u' τ) (hid_self hn τ) _ hr
    obtain ⟨_, _, _, _, b5⟩ := a3 trivial
    obtain ⟨w', es2, c1, c2, _, _⟩ := b5 #[] fun n p q => by
      have hq : n < u'.drawn := q
      omega
    have e2 : ((results fn T).runT P (tp u' τ) #[]).1 = .ok v w' := by rw [c1]; rfl
    rw [Sem.runT_eq] at e2
    have e3 : (results fn T).run P (tp u' τ) = .ok v w' := e2
    rw [e3]
    have hd : w'.drawn = u'.drawn := by
      rw [c2.drawn]
      show u'.drawn + (u'.drawn - u'.drawn) = u'.drawn
      omega
    have := eq_tp (u := u') c2.hid hd
    rw [this, c2.tape]; rfl
  have hnp : NoPV u := hH.npv
  have hF : ∀ fr u τ, Fin fr u → Fin fr (tp u τ) := by
    rintro fr u τ ⟨hn, v, h1, h2, h3, h4, h5, h6⟩
    exact ⟨hn, v, hR _ _ _ h1, h2, h3, h4, h5, hres _ _ _ _ hn h6⟩
  have hG : Good P Fin (Frame.enter P f args .normal) [wall] u := by
    intro τ
    obtain ⟨e, w', fr, ⟨v, rfl, hv⟩, ⟨n, hn⟩, hfn, hl1, hl2, hl3, fn', hl4, hl5⟩ := hc τ [wall]
    rw [hfn, h1] at hl4
    obtain rfl := Option.some.inj hl4
    exact ⟨n, fr, w', hn, run_npv hfns hwal n hself (u := tp u τ) hnp hn, v, hv, hl1, hfn, hl3, hl2, hl5⟩
  have hI := bar hfns hwal hF hself hnp hG
  have hB := inev_beside (Sh := Sh) (cs := c :: cs) hfns hwal hSh hI (.bot (enter_tame hfns hf args) (alike_self _)) hH
  refine hB.then fun Sh' g' w' hk => ?_
  obtain ⟨rfl, fr, u', fr', ⟨hn, v, r1, r2, r3, r4, r5, r6⟩, k3, k4, rfl, k6, k7, k8, k9⟩ := hk
  have hmode : fr'.mode = .returning := k4.mode.trans r2
  refine Bs.step rfl fun d => ?_
  have hHd : Hid H u' (w'.at d) := ⟨k6.size, k6.os, k6.output, k6.blk, k6.hid, k6.npv⟩
  have e1 : ((results fn fr.tmps).runT P u' #[]).1 = .ok v u' := by rw [Sem.runT_eq]; exact r6
  have hlast : stepG P true (G fr [wall]) u' = .go (G (wall.finish v) []) u' (seen P f ((results fn fr.tmps).runT P u' #[]).2) := by
    cases hr : (results fn fr.tmps).runT P u' #[] with
    | mk r evs =>
      rw [hr] at e1
      simp only at e1
      subst e1
      simp only [stepG, G, r2, unwind, r5, r3, h1, hr, doReturn, r4, GStep.after, Array.append_empty]
  obtain ⟨v', ⟨fn2, evs2, g1, g2⟩, _, f2⟩ := ret_sim (b := fr') (d := c) (M := cs) k3 r2 k4.fn k4.tmps k4.defers k4.mode k4.kind hHd hlast
  have hvv : v' = v := by
    rw [r3, h1] at g1
    obtain rfl := Option.some.inj g1
    rw [g2] at e1
    injection e1
  subst hvv
  obtain ⟨w2, es2, q1, q2, q3⟩ := (f2 _ hHd).go fun n p q => by omega
  refine ⟨_, w2, _, q1, fun e he => evL_of_evH hSh (q3 e he), ?_, Bs.now fun d2 => ⟨rfl, v', u', r1, rfl, ⟨q2.hid.size, q2.hid.os, q2.hid.output, q2.hid.blk, q2.hid.hid, q2.hid.npv⟩, ?_, fun z hz => (q2.keep z hz).trans (k8 z hz), q2.tape.trans k9⟩⟩
  · have h1 := q2.hid.size
    have h2 := k6.size
    show w'.heap.size ≤ w2.heap.size
    omega
  · have h1 := q2.hid.size
    have h2 := k6.size
    show w.heap.size ≤ w2.heap.size
    omega
end
end Go.Proofs.Ytmkjoojoaldljaa.Tm
namespace Go.Proofs.Ytmkjoojoaldljaa.Tm
open Go.Conc
section
variable {P : Program} {FS : FuncId → Prop} {H Sh : Nat → Prop}
theorem frame_at {b : Frame} {a' : Act} {todo : List Item} {fr' : Frame} (h1 : fr'.fn = b.fn) (h2 : fr'.tmps = a'.tmps) (h3 : fr'.todo = todo) (h4 : fr'.defers = a'.defers) (h5 : fr'.mode = .run) (h6 : fr'.kind = b.kind) (h7 : fr'.roundOf = none) : fr' = b.at a' todo := by
  obtain ⟨fn, tmps, td, defers, mode, kind, rnd⟩ := fr'
  simp only at h1 h2 h3 h4 h5 h6 h7
  subst h1 h2 h3 h4 h5 h6 h7
  rfl
theorem frame_ret {b : Frame} {a' : Act} {fr' : Frame} (h1 : fr'.fn = b.fn) (h2 : fr'.tmps = a'.tmps) (h4 : fr'.defers = a'.defers) (h5 : fr'.mode = .returning) (h6 : fr'.kind = b.kind) (h7 : fr'.roundOf = none) : fr' = { b.at a' fr'.todo with mode := .returning } := by
  obtain ⟨fn, tmps, td, defers, mode, kind, rnd⟩ := fr'
  simp only at h1 h2 h4 h5 h6 h7
  subst h1 h2 h4 h5 h6 h7
  rfl
theorem code_beside (hfns : TameFns P FS) (hSh : ∀ b, Sh b → H b) {c : Code} (ht : TameCode P FS c) {a : Act} (had : a.defers = []) {b : Frame} (hbk : b.kind = .normal) (hbf : Known P b.fn) {R : Exit → Act → World → Prop} {u w : World} (hR : ∀ e a u τ, R e a u → R e a (tp u τ))
    (hH : Hid H u w) (hc : ∀ τ, c.wp P (fun e a' u' => (e = .normal ∨ e = .ret) ∧ R e a' u') a (tp u τ)) (k : List Item) (cs : List Frame) :
    Bs P (fun Sh' g' w' => Sh' = Sh ∧ ∃ e a' u', R e a' u' ∧ a'.defers = [] ∧ ((e = .normal ∧ g' = G (b.at a' k) cs) ∨ (e = .ret ∧ ∃ todo, g' = G { b.at a' todo with mode := .returning } cs)) ∧ Hid H u' w' ∧ w.heap.size ≤ w'.heap.size ∧ (∀ c, H c → w'.heap[c]? = w.heap[c]?) ∧ w'.tape = w.tape)
      Sh (G (b.at a (.code c :: k)) cs) w := by
  let Fin : Frame → World → Prop := fun fr u' => ∃ a', (fr = b.at a' [.code (.refuse "")] ∧ R .normal a' u') ∨ (∃ todo, fr = { b.at a' todo with mode := .returning } ∧ R .ret a' u')
  have hT : TameF P FS (b.at a [.code c, .code (.refuse "")]) := ⟨hbf, hbk, had, rfl, fun _ z hz => by
    rcases List.mem_cons.1 hz with rfl | hz
    · exact ht
    · rcases List.mem_cons.1 hz with rfl | hz
      · trivial
      · cases hz⟩
  have hwal : Walled [.code (.refuse "")] [.code (.refuse "")] := .inr rfl
  have hself : Self P FS [.code (.refuse "")] (b.at a [.code c, .code (.refuse "")]) [wall] := .bot hT ⟨rfl, rfl, rfl, rfl, rfl, rfl, fun _ => ⟨[.code c], rfl, rfl⟩⟩
  have hF : ∀ fr u τ, Fin fr u → Fin fr (tp u τ) := by
    rintro fr u τ ⟨a', h | ⟨todo, h1, h2⟩⟩
    · exact ⟨a', .inl ⟨h.1, hR _ _ _ _ h.2⟩⟩
    · exact ⟨a', .inr ⟨todo, h1, hR _ _ _ _ h2⟩⟩
  have hG : Good P Fin (b.at a [.code c, .code (.refuse "")]) [wall] u := by
    intro τ
    obtain ⟨e, a', w', ⟨he, hr⟩, harr⟩ := hc τ b [.code (.refuse "")] [wall]
    rcases he with rfl | rfl
    · obtain ⟨n, hn⟩ := harr
      exact ⟨n, _, w', hn, a', .inl ⟨rfl, hr⟩⟩
    · obtain ⟨todo, n, hn⟩ := harr
      exact ⟨n, _, w', hn, a', .inr ⟨todo, rfl, hr⟩⟩
  have hI := bar hfns hwal hF hself hH.npv hG
  have hB := inev_beside (Sh := Sh) (cs := cs) (x := [.code (.refuse "")]) (y := k) hfns (.inr rfl) hSh hI (b := b.at a (.code c :: k)) (.bot hT ⟨rfl, rfl, rfl, rfl, rfl, rfl, fun _ => ⟨[.code c], rfl, rfl⟩⟩) hH
  refine hB.mono fun Sh' g' w' hk => ?_
  obtain ⟨rfl, fr, u', fr', ⟨a', hfr⟩, k3, k4, rfl, k6, k7, k8, k9⟩ := hk
  refine ⟨rfl, ?_⟩
  rcases hfr with ⟨rfl, hr⟩ | ⟨todo, rfl, hr⟩
  · obtain ⟨T, t1, t2⟩ := k4.todo rfl
    have hT0 : T = [] := by
      have t1' : [Item.code (.refuse "")] = T ++ [Item.code (.refuse "")] := t1
      cases T with
      | nil => rfl
      | cons z T => have := congrArg List.length t1'; simp at this
    subst hT0
    exact ⟨.normal, a', u', hr, k3.defers, .inl ⟨rfl, by rw [frame_at (b := b) (a' := a') (todo := k) k4.fn k4.tmps t2 k4.defers k4.mode k4.kind k4.round]⟩, k6, k7, k8, k9⟩
  · exact ⟨.ret, a', u', hr, k3.defers, .inr ⟨rfl, fr'.todo, by rw [← frame_ret (b := b) (a' := a') k4.fn k4.tmps k4.defers k4.mode k4.kind k4.round]⟩, k6, k7, k8, k9⟩
end
section
variable {P : Program} {K : (Nat → Prop) → Goroutine → World → Prop} {Sh : Nat → Prop} {w : World}
variable {b : Frame} {a : Act} {k : List Item} {cs : List Frame} {ops : Array Oper} {i : Nat} {rest : List Nat} {o : Oper}
theorem evL_read {hi : Nat} {ad : Addr} (wr : Bool) (h : ¬ Sh ad.block) (hl : ad.block < hi) : EvL (ShL Sh) hi ⟨.cell ad, wr, false⟩ :=
  evL_of_evH (H := Sh) (fun _ h => h) (.inl ⟨ad, rfl, h, hl⟩)
theorem bs_op (v : Value) (f : World → World) (ho : ops[i]? = some o) (hw : Region.wanted o (yielded ops a.tmps) = true) (hk : b.kind ≠ .early)
    (hr : ∀ d, (execOp a.eval o).run P (w.at d) = .ok (.value v) ((f w).at d) ∧ ∀ e ∈ (execOp a.eval o).events P (w.at d) #[], EvL (ShL Sh) w.heap.size e) (hs : w.heap.size ≤ (f w).heap.size)
    (h : Bs P K Sh (G (b.at (a.put o.dst v) (.inRegion ops rest :: k)) cs) (f w)) : Bs P K Sh (G (b.at a (.inRegion ops (i :: rest) :: k)) cs) w := by
  refine Bs.step rfl fun d => ⟨_, (f w).at d, _, stepG_value ho hw hk (hr d).1, fun e he => (hr d).2 e (mem_listed he), hs, fun dd gs sl t F => h dd gs sl t F⟩
theorem bs_pure (v : Value) (ho : ops[i]? = some o) (hw : Region.wanted o (yielded ops a.tmps) = true) (hk : b.kind ≠ .early) (hr : ∀ w₁, (execOp a.eval o).run P w₁ = .ok (.value v) w₁) (he : ∀ w₁, (execOp a.eval o).events P w₁ #[] = #[])
    (h : Bs P K Sh (G (b.at (a.put o.dst v) (.inRegion ops rest :: k)) cs) w) : Bs P K Sh (G (b.at a (.inRegion ops (i :: rest) :: k)) cs) w :=
  bs_op v id ho hw hk (fun d => ⟨hr _, by rw [he]; simp⟩) (Nat.le_refl _) h
theorem bs_load {ad : Addr} {v : Value} (ho : ops[i]? = some o) (hw : Region.wanted o (yielded ops a.tmps) = true) (hk : b.kind ≠ .early) (hS : ¬ Sh ad.block) (hc : w.cell? ad = some v)
    (hr : ∀ w₁ : World, w₁.cell? ad = some v → (execOp a.eval o).run P w₁ = .ok (.value v) w₁ ∧ (execOp a.eval o).events P w₁ #[] = #[⟨.cell ad, false, false⟩])
    (h : Bs P K Sh (G (b.at (a.put o.dst v) (.inRegion ops rest :: k)) cs) w) : Bs P K Sh (G (b.at a (.inRegion ops (i :: rest) :: k)) cs) w :=
  bs_op v id ho hw hk (fun d => by
    obtain ⟨h1, h2⟩ := hr (w.at d) hc
    refine ⟨h1, ?_⟩
    rw [h2]
    intro e he
    simp at he
    subst he
    refine evL_read _ hS ?_
    unfold World.cell? at hc
    rcases Nat.lt_or_ge ad.block w.heap.size with hl | hl
    · exact hl
    · rw [Array.getElem?_eq_none hl] at hc; simp at hc) (Nat.le_refl _) h
theorem bs_new (v : Value) (ob : Obj) (ho : ops[i]? = some o) (hw : Region.wanted o (yielded ops a.tmps) = true) (hk : b.kind ≠ .early) (hr : ∀ d, (execOp a.eval o).run P (w.at d) = .ok (.value v) ((w.alloc ob).at d) ∧ (execOp a.eval o).events P (w.at d) #[] = #[])
    (h : Bs P K Sh (G (b.at (a.put o.dst v) (.inRegion ops rest :: k)) cs) (w.alloc ob)) : Bs P K Sh (G (b.at a (.inRegion ops (i :: rest) :: k)) cs) w :=
  bs_op v (fun w => w.alloc ob) ho hw hk (fun d => ⟨(hr d).1, by rw [(hr d).2]; simp⟩) (by simp) h
def CallsB (P : Program) (f : FuncId) (args : Array Value) (Sh : Nat → Prop) (w : World) (R : Value → (Nat → Prop) → World → Prop) : Prop :=
  ∀ (c : Frame) (cs : List Frame), Bs P (fun Sh' g' w' => ∃ v, g' = G (c.finish v) cs ∧ R v Sh' w') Sh (G (Frame.enter P f args .normal) (c :: cs)) w
theorem bs_call {f : FuncId} {fn : Func} {c : Code} {args : Array Operand} {ats : Array TypeId} {R : Value → (Nat → Prop) → World → Prop} (ho : ops[i]? = some o) (hw : Region.wanted o (yielded ops a.tmps) = true) (hk : b.kind ≠ .early) (hop : o.op = .call { callee := .value (.func f), args, argTypes := ats })
    (hf : P.funcs[f]? = some fn) (hname : (fn.name == "runtime.NumGoroutine") = false) (hb : fn.body = some c) (hc : CallsB P f (args.map a.eval) Sh w R)
    (h : ∀ v Sh' w', R v Sh' w' → Bs P K Sh' (G (b.at (a.put o.dst v) (.inRegion ops rest :: k)) cs) w') : Bs P K Sh (G (b.at a (.inRegion ops (i :: rest) :: k)) cs) w := by
  have h1 : ¬ fn.name = "runtime.NumGoroutine" := by simpa using hname
  have hrun : ∀ w, (execOp a.eval o).run P w = .ok (.enter f (args.map a.eval)) w := fun w => by
    unfold execOp
    simp [hop, resolve, Deferred.ofValue, invoke, callFunc, hf, h1, hb, Act.eval]
  have hev : ∀ w, (execOp a.eval o).events P w #[] = #[] := fun w => by
    unfold execOp
    simp [hop, resolve, Deferred.ofValue, invoke, callFunc, hf, h1, hb, Act.eval]
  refine Bs.ctl (a' := G (Frame.enter P f (args.map a.eval) .normal) (b.at a (.inRegion ops (i :: rest) :: k) :: cs)) rfl (fun w => ?_) ?_
  · rw [stepG_enter ho hw hk (hrun w), listed_nil (hev w)]
  · refine (hc _ cs).then fun Sh' g' w' hk => ?_
    obtain ⟨v, rfl, hr⟩ := hk
    rw [Frame.finish_at, ho]
    exact h v Sh' w' hr
theorem bs_ret {fn : Func} {todo : List Item} {c : Frame} {v : Value} (hn : b.kind = .normal) (hd : a.defers = []) (hf : P.funcs[b.fn]? = some fn) (hr : ∀ w, (results fn a.tmps).run P w = .ok v w ∧ (results fn a.tmps).events P w #[] = #[])
    (h : Bs P K Sh (G (c.finish v) cs) w) : Bs P K Sh (G { b.at a todo with mode := .returning } (c :: cs)) w :=
  Bs.ctl rfl (fun w => stepG_leave hn hd hf (hr w).1 (hr w).2) h
end
theorem callsB_of_calls {P : Program} {FS : FuncId → Prop} {H Sh : Nat → Prop} (hfns : TameFns P FS) (hSh : ∀ b, Sh b → H b) {f : FuncId} (hf : FS f) {args : Array Value} {R : Value → World → Prop} {u w : World} (hR : ∀ v u τ, R v u → R v (tp u τ)) (hH : Hid H u w)
    (hc : ∀ τ, Calls P f args (tp u τ) fun e u' => ∃ v, e = .returned v ∧ R v u') :
    CallsB P f args Sh w fun v Sh' w' => Sh' = Sh ∧ ∃ u', R v u' ∧ Hid H u' w' ∧ w.heap.size ≤ w'.heap.size ∧ (∀ c, H c → w'.heap[c]? = w.heap[c]?) ∧ w'.tape = w.tape := by
  intro c cs
  refine (calls_beside hfns hSh hf hR hH hc c cs).mono fun Sh' g' w' hk => ?_
  obtain ⟨rfl, v, u', h1, h2, h3⟩ := hk
  exact ⟨v, h2, rfl, u', h1, h3⟩
end Go.Proofs.Ytmkjoojoaldljaa.Tm
namespace Go.Proofs.Ytmkjoojoaldljaa.Tm
open Go.Conc
section
variable {α β : Type} {P : Program} {g t : Bool} {L : α → Prop}
theorem SimG.wk {s : Sem α} (h : SimG P g t L s) {g' t' : Bool} (hg : g = true → g' = true) (ht : t = true → t' = true) : SimG P g' t' (fun _ => True) s := fun H u w hH r hr => by
  obtain ⟨_, a2, a3⟩ := h H u w hH r hr
  refine ⟨fun _ _ _ => trivial, a2, fun hf => ?_⟩
  obtain ⟨b1, b2, b3, b4, b5⟩ := a3 hf
  refine ⟨b1, b2, b3, fun e => b4 (by cases g <;> first | rfl | (rw [hg rfl] at e; cases e)), fun es hal => ?_⟩
  obtain ⟨w', es2, c1, c2, c3, c4⟩ := b5 es hal
  exact ⟨w', es2, c1, c2, fun e => c3 (by cases t <;> first | rfl | (rw [ht rfl] at e; cases e)), c4⟩
abbrev SA (P : Program) (s : Sem α) : Prop := SimG P false true (fun _ => True) s
abbrev SN (P : Program) (s : Sem α) : Prop := SimG P true true (fun _ => True) s
abbrev SF (P : Program) (s : Sem α) : Prop := SimG P false false (fun _ => True) s
theorem sa_bind {s : Sem α} {f : α → Sem β} (h1 : SA P s) (h2 : ∀ a, SA P (f a)) : SA P (s >>= f) := simG_bind h1 (fun a _ => h2 a) (.inl rfl)
theorem sf_bind {s : Sem α} {f : α → Sem β} (h1 : SF P s) (h2 : ∀ a, SF P (f a)) : SF P (s >>= f) := simG_bind h1 (fun a _ => h2 a) (.inl rfl)
theorem sn_bind {s : Sem α} {f : α → Sem β} (h1 : SA P s) (h2 : ∀ a, SN P (f a)) : SN P (s >>= f) := simG_bind h1 (fun a _ => h2 a) (.inl rfl)
theorem sn_bind' {s : Sem α} {f : α → Sem β} (h1 : SN P s) (h2 : ∀ a, SF P (f a)) : SN P (s >>= f) := simG_bind h1 (fun a _ => h2 a) (.inr rfl)
theorem SimG.sn {s : Sem α} (h : SimG P g t L s) : SN P s := h.wk (fun _ => rfl) (fun _ => rfl)
theorem SimG.sa {s : Sem α} (h : SimG P false t L s) : SA P s := h.wk (fun h => h) (fun _ => rfl)
theorem s_pure (a : α) : SimG P g t (fun _ => True) (pure a) := simG_pure trivial
theorem s_pure' (a : α) : SimG P g t (fun _ => True) (Sem.pure a) := simG_pure trivial
theorem s_stuck (m : String) : SimG P g t L (stuck m) := simG_halt trivial
theorem s_halt_stuck (m : String) : SimG P g t L (.halt (.stuck m)) := simG_halt trivial
theorem s_unsup (m : Unsupported) (h : okHalt (.unsupported m)) : SimG P g t L (unsupported m) := simG_halt h
theorem s_panic (v : Value) : SimG P g t L (goPanic v) := simG_halt trivial
theorem s_program : SimG P g t (fun _ => True) program := simG_program (simG_pure trivial)
theorem s_load (a : Addr) (m : Mode) : SA P (load a m) := simG_load m a
theorem s_store (a : Addr) (v : Value) (m : Mode) : SA P (store a v m) := simG_store m a v
theorem s_choose (q : Question) : SimG P g t (fun _ => True) (choose q) := simG_choose q
theorem s_noRoom : SA P (mark .noRoom) := simG_noRoom
theorem s_newRow (e : TypeId) (cs : Array Value) : SN P (newRow e cs) := sn_bind' (SimG.sn (simG_new trivial)) fun _ => s_pure _
theorem s_newVar (e : TypeId) (v : Value) : SN P (newVar e v) := s_newRow e _
theorem sa_map {s : Sem α} (f : α → β) (h : SA P s) : SA P (f <$> s) := simG_bind h (fun a _ => simG_pure (L := fun _ => True) (g := false) (t := true) trivial) (.inl rfl)
theorem sf_map {s : Sem α} (f : α → β) (h : SF P s) : SF P (f <$> s) := simG_bind h (fun a _ => simG_pure (L := fun _ => True) (g := false) (t := false) trivial) (.inl rfl)
theorem simG_congr {s s' : Sem α} (h1 : ∀ w es, s.runT P w es = s'.runT P w es) (h : SimG P g t L s') : SimG P g t L s := fun H u w hH r hr => by
  have h2 : ∀ w, s.run P w = s'.run P w := fun w => by
    have := congrArg Prod.fst (h1 w #[])
    rwa [Sem.runT_eq, Sem.runT_eq] at this
  rw [h2] at hr
  obtain ⟨a1, a2, a3⟩ := h H u w hH r hr
  refine ⟨a1, a2, fun hf => ?_⟩
  obtain ⟨b1, b2, b3, b4, b5⟩ := a3 hf
  refine ⟨b1, b2, b3, b4, fun es hal => ?_⟩
  obtain ⟨w', es2, c1, c2⟩ := b5 es hal
  exact ⟨w', es2, by rw [h1]; exact c1, c2⟩
theorem s_und {T : TypeId} {d : TypeDesc} {k : TypeDesc → Sem α} (h : P.underlying T = some d) (hk : SimG P g t L (k d)) : SimG P g t L (underlying T >>= k) := simG_congr (s' := k d) (fun w es => by
  have : (underlying T >>= k).runT P w es = ((match P.underlying T with | some d => (pure d : Sem TypeDesc) | none => stuck "no such type") >>= k).runT P w es := rfl
  rw [this, h]
  rfl) hk
theorem simG_quiet {s : Sem α} (f : World → α) (hrun : ∀ w es, s.runT P w es = (.ok (f w) w, es)) (hf : ∀ H u w, Hid H u w → f w = f u) : SimG P g t (fun _ => True) s := fun H u w hH r hr => by
  have h1 : s.run P u = .ok (f u) u := by
    have := congrArg Prod.fst (hrun u #[])
    rwa [Sem.runT_eq] at this
  rw [h1] at hr
  subst hr
  exact ⟨fun _ _ _ => trivial, fun _ _ e => (by cases e), fun _ => ⟨rfl, Nat.le_refl _, Nat.le_refl _, fun _ => rfl, fun es _ => ⟨w, es, by rw [hrun, hf H u w hH]; rfl, .same hH, fun _ => rfl, fun e he => .inl he⟩⟩⟩
theorem Hid.shape {H : Nat → Prop} {u w : World} (h : Hid H u w) (r : Nat) : w.shape? r = u.shape? r ∨ (u.shape? r = none ∧ ∃ e n, 0 < n ∧ w.shape? r = some (e, n)) := by
  by_cases hb : H r
  · unfold World.shape?
    rcases h.hid _ hb with ⟨c, e, f, h0, e1, e2⟩ | ⟨a', t, e1, e2⟩ | ⟨c, e, e1, e2⟩ | ⟨o, _, e1, e2⟩ <;> rw [e1, e2]
    · exact .inr ⟨rfl, e, c.size, h0, rfl⟩
    · exact .inl rfl
    · exact .inl rfl
    · exact .inl rfl
  · left
    unfold World.shape?
    rw [h.blk _ hb]
def Doom (P : Program) (s : Sem α) : Prop := ∀ u, ∃ x u', s.run P u = .halt x u' ∧ okHalt x ∧ ¬ ∃ v, x = .panic v
theorem doom_stuck (m : String) : Doom P (stuck m : Sem α) := fun u => ⟨_, _, rfl, trivial, by simp⟩
theorem doom_unsup (m : Unsupported) (h : okHalt (.unsupported m)) : Doom P (unsupported m : Sem α) := fun u => ⟨_, _, rfl, h, by simp⟩
theorem simG_shape {k : Option (TypeId × Nat) → Sem α} (r : Nat) (h0 : Doom P (k none)) (h1 : ∀ x, SimG P g t L (k (some x))) : SimG P g t L (shape r >>= k) := fun H u w hH r' hr => by
  have hr' : (k (u.shape? r)).run P u = r' := hr
  cases hs : u.shape? r with
  | none =>
    rw [hs] at hr'
    obtain ⟨x, u', e, hx, hnp⟩ := h0 u
    rw [e] at hr'
    subst hr'
    refine ⟨fun a u1 e => (by cases e), fun h' u1 e => (by cases e; exact hx), fun hf => absurd hf ?_⟩
    cases x <;> first | exact id | exact absurd ⟨_, rfl⟩ hnp
  | some x =>
    rw [hs] at hr'
    obtain ⟨a1, a2, a3⟩ := h1 x H u w hH r' hr'
    have hw : w.shape? r = some x := by
      rcases hH.shape r with e | ⟨e, _⟩
      · rw [e, hs]
      · rw [e] at hs; cases hs
    refine ⟨a1, a2, fun hf => ?_⟩
    obtain ⟨b1, b2, b3, b4, b5⟩ := a3 hf
    refine ⟨b1, b2, b3, b4, fun es hal => ?_⟩
    obtain ⟨w', es2, c1, c2⟩ := b5 es hal
    refine ⟨w', es2, ?_, c2⟩
    have : (shape r >>= k).runT P w es = (k (w.shape? r)).runT P w es := rfl
    rw [this, hw]
    exact c1
def lookAt (r : Nat) (d : β) (f : Obj → β) : Sem β := do
  if (← shape r).isSome then return d
  let o ← getObj r
  pure (f o)
theorem s_look (r : Nat) (d : β) (f : Obj → β) (hc : f (.coro none) = d) (hv : ∀ a a' y, f (.view a y) = f (.view a' y)) (hp : ∀ c e, f (.pending c e) = d) : SA P (lookAt r d f) := fun H u w hH r' hr => by
  have run_ : ∀ v : World, (lookAt r d f).run P v = match v.shape? r with
      | some _ => .ok d v
      | none => match v.heap[r]? with
        | some (.cells ..) => .halt (.stuck "getObj: a row of cells") v
        | some o => .ok (f o) v
        | none => .halt (.stuck "getObj: no such block") v := fun v => by
    show (if (v.shape? r).isSome = true then (Sem.pure d : Sem β) else (getObj r).bind fun o => .pure (f o)).run P v = _
    cases v.shape? r with
    | some x => rfl
    | none =>
      show ((getObj r).bind fun o => Sem.pure (f o)).run P v = _
      show (Sem.getObj r fun o => Sem.pure (f o)).run P v = _
      simp only [Sem.run]
      cases v.heap[r]? with
      | none => rfl
      | some o => cases o <;> rfl
  have runT_ : ∀ (v : World) es, (lookAt r d f).runT P v es = match v.shape? r with
      | some _ => (.ok d v, es)
      | none => match v.heap[r]? with
        | some (.cells ..) => (.halt (.stuck "getObj: a row of cells") v, es)
        | some o => (.ok (f o) v, es.push ⟨.obj r, false, o.isChan⟩)
        | none => (.halt (.stuck "getObj: no such block") v, es) := fun v es => by
    show (if (v.shape? r).isSome = true then (Sem.pure d : Sem β) else (getObj r).bind fun o => .pure (f o)).runT P v es = _
    cases v.shape? r with
    | some x => rfl
    | none =>
      show (Sem.getObj r fun o => Sem.pure (f o)).runT P v es = _
      simp only [Sem.runT]
      cases v.heap[r]? with
      | none => rfl
      | some o => cases o <;> rfl
  have evo : ∀ (o : Obj) (b : Bool), w.heap[r]? = some o → ∀ es : Array Event, ∀ e ∈ es.push ⟨.obj r, false, b⟩, e ∈ es ∨ EvH H w.heap.size e := fun o b ho es e he => by
    rcases Array.mem_push.1 he with h | h
    · exact .inl h
    · exact .inr (.inr (.inl ⟨r, by rw [h], (Array.getElem?_eq_some_iff.1 ho).1⟩))
  rw [run_] at hr
  have done : ∀ (v : β) (es2 : Array Event → Array Event), (∀ es, (lookAt r d f).runT P w es = (.ok v w, es2 es)) → (∀ es, ∀ e ∈ es2 es, e ∈ es ∨ EvH H w.heap.size e) → r' = .ok v u → _ := fun v es2 h1 h2 h3 =>
    (show (∀ a u', r' = .ok a u' → True) ∧ (∀ h u', r' = .halt h u' → okHalt h) ∧ (Fine r' → (Tm.rw r').tape = u.tape ∧ u.drawn ≤ (Tm.rw r').drawn ∧ u.heap.size ≤ (Tm.rw r').heap.size ∧ (false = false → (Tm.rw r').heap.size = u.heap.size) ∧ ∀ es, Al u w (Tm.rw r') → ∃ w' es2, (lookAt r d f).runT P w es = (rput r' w', es2) ∧ Nx H u (Tm.rw r') w w' ∧ (true = false → es2 = es) ∧ ∀ e ∈ es2, e ∈ es ∨ EvH H w.heap.size e) by
      subst h3
      exact ⟨fun _ _ _ => trivial, fun _ _ e => (by cases e), fun _ => ⟨rfl, Nat.le_refl _, Nat.le_refl _, fun _ => rfl, fun es _ => ⟨w, es2 es, h1 es, .same hH, by simp, h2 es⟩⟩⟩)
  have halt : ∀ m : String, r' = .halt (.stuck m) u → _ := fun m h3 =>
    (show (∀ a u', r' = .ok a u' → True) ∧ (∀ h u', r' = .halt h u' → okHalt h) ∧ (Fine r' → (Tm.rw r').tape = u.tape ∧ u.drawn ≤ (Tm.rw r').drawn ∧ u.heap.size ≤ (Tm.rw r').heap.size ∧ (false = false → (Tm.rw r').heap.size = u.heap.size) ∧ ∀ es, Al u w (Tm.rw r') → ∃ w' es2, (lookAt r d f).runT P w es = (rput r' w', es2) ∧ Nx H u (Tm.rw r') w w' ∧ (true = false → es2 = es) ∧ ∀ e ∈ es2, e ∈ es ∨ EvH H w.heap.size e) by
      subst h3
      exact ⟨fun _ _ e => (by cases e), fun _ _ e => (by cases e; trivial), fun hf => hf.elim⟩)
  have alike : w.heap[r]? = u.heap[r]? → _ := fun e0 => (show (∀ a u', r' = .ok a u' → True) ∧ (∀ h u', r' = .halt h u' → okHalt h) ∧ (Fine r' → (Tm.rw r').tape = u.tape ∧ u.drawn ≤ (Tm.rw r').drawn ∧ u.heap.size ≤ (Tm.rw r').heap.size ∧ (false = false → (Tm.rw r').heap.size = u.heap.size) ∧ ∀ es, Al u w (Tm.rw r') → ∃ w' es2, (lookAt r d f).runT P w es = (rput r' w', es2) ∧ Nx H u (Tm.rw r') w w' ∧ (true = false → es2 = es) ∧ ∀ e ∈ es2, e ∈ es ∨ EvH H w.heap.size e) by
    have s0 : w.shape? r = u.shape? r := by unfold World.shape?; rw [e0]
    cases hs : u.shape? r with
    | some x =>
      rw [hs] at hr
      exact done d (fun es => es) (fun es => by rw [runT_, s0, hs]) (fun es e he => .inl he) hr.symm
    | none =>
      cases ho : u.heap[r]? with
      | none => rw [hs, ho] at hr; exact halt _ hr.symm
      | some o =>
        have ho' : w.heap[r]? = some o := by rw [e0, ho]
        rw [hs, ho] at hr
        cases o with
        | cells c e z => exact halt _ hr.symm
        | _ => exact done _ (fun es => es.push ⟨.obj r, false, _⟩) (fun es => by rw [runT_, s0, hs, ho']) (fun es => evo _ _ ho' es) hr.symm)
  by_cases hb : H r
  · rcases hH.hid _ hb with ⟨c, e, z, h0, e1, e2⟩ | ⟨a', y, e1, e2⟩ | ⟨c, e, e1, e2⟩ | ⟨o, _, e1, e2⟩
    · have s1 : u.shape? r = none := by unfold World.shape?; rw [e2]
      have s2 : w.shape? r = some (e, c.size) := by unfold World.shape?; rw [e1]
      rw [s1, e2] at hr
      exact done d (fun es => es) (fun es => by rw [runT_, s2]) (fun es e he => .inl he) (by rw [← hr]; simp only [hc])
    · have s1 : u.shape? r = none := by unfold World.shape?; rw [e2]
      have s2 : w.shape? r = none := by unfold World.shape?; rw [e1]
      rw [s1, e2] at hr
      exact done (f (.view a' y)) (fun es => es.push ⟨.obj r, false, _⟩) (fun es => by rw [runT_, s2, e1]) (fun es => evo _ _ e1 es) (by rw [← hr]; simp only [hv _ a' y])
    · have s1 : u.shape? r = none := by unfold World.shape?; rw [e2]
      have s2 : w.shape? r = none := by unfold World.shape?; rw [e1]
      rw [s1, e2] at hr
      exact done (f (.pending c e)) (fun es => es.push ⟨.obj r, false, _⟩) (fun es => by rw [runT_, s2, e1]) (fun es => evo _ _ e1 es) (by rw [← hr]; simp only [hc, hp])
    · exact alike (by rw [e1, e2])
  · exact alike (hH.blk _ hb).symm
end
end Go.Proofs.Ytmkjoojoaldljaa.Tm
namespace Go.Proofs.Ytmkjoojoaldljaa.Tm
open Go.Conc
section
variable {P : Program}
theorem s_typeInfo (t : TypeId) : SF P (typeInfo t) := by
  unfold typeInfo
  repeat' (first | (with_reducible first | exact s_pure _ | exact s_pure' _ | exact s_stuck _ | exact s_halt_stuck _ | exact s_panic _ | exact s_program | exact s_choose _) | (with_reducible refine sf_bind ?_ fun _ => ?_) | (with_reducible refine sf_map _ ?_) | ((with_reducible refine s_unsup _ ?_); exact trivial) | split | (dsimp only))
theorem s_underlying (t : TypeId) : SF P (underlying t) := by
  unfold underlying
  repeat' (first | (with_reducible first | exact s_pure _ | exact s_pure' _ | exact s_stuck _ | exact s_halt_stuck _ | exact s_panic _ | exact s_program | exact s_choose _) | (with_reducible refine sf_bind ?_ fun _ => ?_) | (with_reducible refine sf_map _ ?_) | ((with_reducible refine s_unsup _ ?_); exact trivial) | split | (dsimp only))
theorem s_zeroValue (t : TypeId) : SF P (zeroValue t) := by
  unfold zeroValue
  repeat' (first | (with_reducible first | exact s_typeInfo _ | exact s_pure _ | exact s_pure' _ | exact s_stuck _ | exact s_halt_stuck _ | exact s_panic _ | exact s_program | exact s_choose _) | (with_reducible refine sf_bind ?_ fun _ => ?_) | (with_reducible refine sf_map _ ?_) | ((with_reducible refine s_unsup _ ?_); exact trivial) | split | (dsimp only))
theorem s_sizeOf (t : TypeId) : SF P (sizeOf t) := by
  unfold sizeOf
  repeat' (first | (with_reducible first | exact s_typeInfo _ | exact s_pure _ | exact s_pure' _ | exact s_stuck _ | exact s_halt_stuck _ | exact s_panic _ | exact s_program | exact s_choose _) | (with_reducible refine sf_bind ?_ fun _ => ?_) | (with_reducible refine sf_map _ ?_) | ((with_reducible refine s_unsup _ ?_); exact trivial) | split | (dsimp only))
theorem s_isAgg (t : TypeId) : SF P (isAgg t) := by
  unfold isAgg
  repeat' (first | (with_reducible first | exact s_underlying _ | exact s_pure _ | exact s_pure' _ | exact s_stuck _ | exact s_halt_stuck _ | exact s_panic _ | exact s_program | exact s_choose _) | (with_reducible refine sf_bind ?_ fun _ => ?_) | (with_reducible refine sf_map _ ?_) | ((with_reducible refine s_unsup _ ?_); exact trivial) | split | (dsimp only))
theorem s_asIntOf (v : Value) : SF P (asIntOf v) := by
  unfold asIntOf
  repeat' (first | (with_reducible first | exact s_pure _ | exact s_pure' _ | exact s_stuck _ | exact s_halt_stuck _ | exact s_panic _ | exact s_program | exact s_choose _) | (with_reducible refine sf_bind ?_ fun _ => ?_) | (with_reducible refine sf_map _ ?_) | ((with_reducible refine s_unsup _ ?_); exact trivial) | split | (dsimp only))
theorem s_asInt (v : Value) : SF P (asInt v) := by
  unfold asInt
  repeat' (first | (with_reducible first | exact s_asIntOf _ | exact s_pure _ | exact s_pure' _ | exact s_stuck _ | exact s_halt_stuck _ | exact s_panic _ | exact s_program | exact s_choose _) | (with_reducible refine sf_bind ?_ fun _ => ?_) | (with_reducible refine sf_map _ ?_) | ((with_reducible refine s_unsup _ ?_); exact trivial) | split | (dsimp only))
theorem s_asBool (v : Value) : SF P (asBool v) := by
  unfold asBool
  repeat' (first | (with_reducible first | exact s_pure _ | exact s_pure' _ | exact s_stuck _ | exact s_halt_stuck _ | exact s_panic _ | exact s_program | exact s_choose _) | (with_reducible refine sf_bind ?_ fun _ => ?_) | (with_reducible refine sf_map _ ?_) | ((with_reducible refine s_unsup _ ?_); exact trivial) | split | (dsimp only))
theorem s_asAgg (v : Value) : SF P (asAgg v) := by
  unfold asAgg
  repeat' (first | (with_reducible first | exact s_pure _ | exact s_pure' _ | exact s_stuck _ | exact s_halt_stuck _ | exact s_panic _ | exact s_program | exact s_choose _) | (with_reducible refine sf_bind ?_ fun _ => ?_) | (with_reducible refine sf_map _ ?_) | ((with_reducible refine s_unsup _ ?_); exact trivial) | split | (dsimp only))
theorem s_part (t : TypeId) (cs : Array Value) (o : Nat) : SF P (part t cs o) := by
  unfold part
  repeat' (first | (with_reducible first | exact s_isAgg _ | exact s_sizeOf _ | exact s_pure _ | exact s_pure' _ | exact s_stuck _ | exact s_halt_stuck _ | exact s_panic _ | exact s_program | exact s_choose _) | (with_reducible refine sf_bind ?_ fun _ => ?_) | (with_reducible refine sf_map _ ?_) | ((with_reducible refine s_unsup _ ?_); exact trivial) | split | (dsimp only))
theorem s_sureAddr (v : Value) : SF P (Instr.sureAddr v) := by
  unfold Instr.sureAddr
  repeat' (first | (with_reducible first | exact s_pure _ | exact s_pure' _ | exact s_stuck _ | exact s_halt_stuck _ | exact s_panic _ | exact s_program | exact s_choose _) | (with_reducible refine sf_bind ?_ fun _ => ?_) | (with_reducible refine sf_map _ ?_) | ((with_reducible refine s_unsup _ ?_); exact trivial) | split | (dsimp only))
theorem s_extract (v : Value) (i : Nat) : SF P (Instr.extract v i) := by
  unfold Instr.extract
  repeat' (first | (with_reducible first | exact s_pure _ | exact s_pure' _ | exact s_stuck _ | exact s_halt_stuck _ | exact s_panic _ | exact s_program | exact s_choose _) | (with_reducible refine sf_bind ?_ fun _ => ?_) | (with_reducible refine sf_map _ ?_) | ((with_reducible refine s_unsup _ ?_); exact trivial) | split | (dsimp only))
theorem s_field (t : TypeId) (v : Value) (i : Nat) : SF P (Instr.field t v i) := by
  unfold Instr.field
  repeat' (first | (with_reducible first | exact s_underlying _ | exact s_asAgg _ | exact s_part _ _ _ | exact s_pure _ | exact s_pure' _ | exact s_stuck _ | exact s_halt_stuck _ | exact s_panic _ | exact s_program | exact s_choose _) | (with_reducible refine sf_bind ?_ fun _ => ?_) | (with_reducible refine sf_map _ ?_) | ((with_reducible refine s_unsup _ ?_); exact trivial) | split | (dsimp only))
theorem s_askRoom (n : Nat) : SA P (askRoom n) := by
  unfold askRoom
  repeat' (first | (with_reducible first | exact s_pure _ | exact s_pure' _ | exact s_stuck _ | exact s_halt_stuck _ | exact s_panic _ | exact s_program | exact s_choose _ | exact s_load _ _ | exact s_store _ _ _ | exact s_noRoom) | (with_reducible refine sa_bind ?_ fun _ => ?_) | (with_reducible refine sa_map _ ?_) | ((with_reducible refine s_unsup _ ?_); exact trivial) | split | (dsimp only))
theorem s_runtimePanic_bounds {α : Type} (x y : Int) (s : Bool) (c : BoundsCode) : SF P (runtimePanic (.bounds x y s c) : Sem α) := by
  unfold runtimePanic
  repeat' (first | (with_reducible first | exact s_pure _ | exact s_pure' _ | exact s_stuck _ | exact s_halt_stuck _ | exact s_panic _ | exact s_program | exact s_choose _) | (with_reducible refine sf_bind ?_ fun _ => ?_) | (with_reducible refine sf_map _ ?_) | ((with_reducible refine s_unsup _ ?_); exact trivial) | split | (dsimp only))
theorem s_runtimePanic_error {α : Type} (m : String) : SF P (runtimePanic (.error m) : Sem α) := by
  unfold runtimePanic
  repeat' (first | (with_reducible first | exact s_pure _ | exact s_pure' _ | exact s_stuck _ | exact s_halt_stuck _ | exact s_panic _ | exact s_program | exact s_choose _) | (with_reducible refine sf_bind ?_ fun _ => ?_) | (with_reducible refine sf_map _ ?_) | ((with_reducible refine s_unsup _ ?_); exact trivial) | split | (dsimp only))
theorem s_runtimePanic_nil {α : Type} : SF P (runtimePanic .nilDeref : Sem α) := by
  unfold runtimePanic
  repeat' (first | (with_reducible first | exact s_pure _ | exact s_pure' _ | exact s_stuck _ | exact s_halt_stuck _ | exact s_panic _ | exact s_program | exact s_choose _) | (with_reducible refine sf_bind ?_ fun _ => ?_) | (with_reducible refine sf_map _ ?_) | ((with_reducible refine s_unsup _ ?_); exact trivial) | split | (dsimp only))
theorem s_boundsPanic {α : Type} (k : IntKind) (x y : Int) (c : BoundsCode) : SF P (boundsPanic k x y c : Sem α) := by
  unfold boundsPanic
  repeat' (first | (with_reducible first | exact s_runtimePanic_bounds _ _ _ _ | exact s_pure _ | exact s_pure' _ | exact s_stuck _ | exact s_halt_stuck _ | exact s_panic _ | exact s_program | exact s_choose _) | (with_reducible refine sf_bind ?_ fun _ => ?_) | (with_reducible refine sf_map _ ?_) | ((with_reducible refine s_unsup _ ?_); exact trivial) | split | (dsimp only))
theorem s_asAddr (v : Value) : SF P (asAddr v) := by
  unfold asAddr
  repeat' (first | (with_reducible first | exact s_runtimePanic_nil | exact s_pure _ | exact s_pure' _ | exact s_stuck _ | exact s_halt_stuck _ | exact s_panic _ | exact s_program | exact s_choose _) | (with_reducible refine sf_bind ?_ fun _ => ?_) | (with_reducible refine sf_map _ ?_) | ((with_reducible refine s_unsup _ ?_); exact trivial) | split | (dsimp only))
theorem s_loadCellsFrom (a : Addr) : ∀ (n i : Nat) (acc : Array Value), SA P (loadCellsFrom a i n acc)
  | 0, i, acc => s_pure _
  | n + 1, i, acc => sa_bind (s_load _ _) fun _ => s_loadCellsFrom a n _ _
theorem s_loadCells (a : Addr) (n : Nat) : SA P (loadCells a n) := s_loadCellsFrom a n 0 #[]
theorem s_storeCells (a : Addr) : ∀ (vs : List Value) (i : Nat), SA P (storeCells a vs i)
  | [], i => s_pure _
  | v :: r, i => sa_bind (s_store _ _ _) fun _ => s_storeCells a r _
theorem s_loadVar (t : TypeId) (a : Addr) : SA P (loadVar t a) := by
  unfold loadVar
  repeat' (first | (with_reducible first | exact (s_isAgg _).sa | exact (s_sizeOf _).sa | exact s_loadCells _ _ | exact s_pure _ | exact s_pure' _ | exact s_stuck _ | exact s_halt_stuck _ | exact s_panic _ | exact s_program | exact s_choose _ | exact s_load _ _ | exact s_store _ _ _ | exact s_noRoom) | (with_reducible refine sa_bind ?_ fun _ => ?_) | (with_reducible refine sa_map _ ?_) | ((with_reducible refine s_unsup _ ?_); exact trivial) | split | (dsimp only))
theorem s_storeVar (t : TypeId) (a : Addr) (v : Value) : SA P (storeVar t a v) := by
  unfold storeVar
  repeat' (first | (with_reducible first | exact (s_sizeOf _).sa | exact s_storeCells _ _ _ | exact s_pure _ | exact s_pure' _ | exact s_stuck _ | exact s_halt_stuck _ | exact s_panic _ | exact s_program | exact s_choose _ | exact s_load _ _ | exact s_store _ _ _ | exact s_noRoom) | (with_reducible refine sa_bind ?_ fun _ => ?_) | (with_reducible refine sa_map _ ?_) | ((with_reducible refine s_unsup _ ?_); exact trivial) | split | (dsimp only))
theorem s_loadAt (t : TypeId) (v : Value) : SA P (Instr.loadAt t v) := by
  unfold Instr.loadAt
  repeat' (first | (with_reducible first | exact (s_sureAddr _).sa | exact s_loadVar _ _ | exact s_pure _ | exact s_pure' _ | exact s_stuck _ | exact s_halt_stuck _ | exact s_panic _ | exact s_program | exact s_choose _ | exact s_load _ _ | exact s_store _ _ _ | exact s_noRoom) | (with_reducible refine sa_bind ?_ fun _ => ?_) | (with_reducible refine sa_map _ ?_) | ((with_reducible refine s_unsup _ ?_); exact trivial) | split | (dsimp only))
theorem s_storeAt (t : TypeId) (a v : Value) : SA P (Instr.storeAt t a v) := by
  unfold Instr.storeAt
  repeat' (first | (with_reducible first | exact (s_sureAddr _).sa | exact s_storeVar _ _ _ | exact s_pure _ | exact s_pure' _ | exact s_stuck _ | exact s_halt_stuck _ | exact s_panic _ | exact s_program | exact s_choose _ | exact s_load _ _ | exact s_store _ _ _ | exact s_noRoom) | (with_reducible refine sa_bind ?_ fun _ => ?_) | (with_reducible refine sa_map _ ?_) | ((with_reducible refine s_unsup _ ?_); exact trivial) | split | (dsimp only))
theorem s_indexAt (t : TypeId) (x i : Value) : SF P (Instr.indexAt t x i) := by
  unfold Instr.indexAt
  repeat' (first | (with_reducible first | exact s_asIntOf _ | exact s_underlying _ | exact s_sureAddr _ | exact s_sizeOf _ | exact s_boundsPanic _ _ _ _ | exact s_pure _ | exact s_pure' _ | exact s_stuck _ | exact s_halt_stuck _ | exact s_panic _ | exact s_program | exact s_choose _) | (with_reducible refine sf_bind ?_ fun _ => ?_) | (with_reducible refine sf_map _ ?_) | ((with_reducible refine s_unsup _ ?_); exact trivial) | split | (dsimp only))
theorem s_index (t : TypeId) (x i : Value) : SF P (Instr.index t x i) := by
  unfold Instr.index
  repeat' (first | (with_reducible first | exact s_asIntOf _ | exact s_underlying _ | exact s_part _ _ _ | exact s_sizeOf _ | exact s_boundsPanic _ _ _ _ | exact s_pure _ | exact s_pure' _ | exact s_stuck _ | exact s_halt_stuck _ | exact s_panic _ | exact s_program | exact s_choose _) | (with_reducible refine sf_bind ?_ fun _ => ?_) | (with_reducible refine sf_map _ ?_) | ((with_reducible refine s_unsup _ ?_); exact trivial) | split | (dsimp only))
theorem s_sliceBound (x : Value) (y : Nat) (c : BoundsCode) : SF P (Instr.sliceBound x y c) := by
  unfold Instr.sliceBound
  repeat' (first | (with_reducible first | exact s_asIntOf _ | exact s_boundsPanic _ _ _ _ | exact s_pure _ | exact s_pure' _ | exact s_stuck _ | exact s_halt_stuck _ | exact s_panic _ | exact s_program | exact s_choose _) | (with_reducible refine sf_bind ?_ fun _ => ?_) | (with_reducible refine sf_map _ ?_) | ((with_reducible refine s_unsup _ ?_); exact trivial) | split | (dsimp only))
theorem s_sliceBounds (b : Bool) (l c : Nat) (x y z : Option Value) : SF P (Instr.sliceBounds b l c x y z) := by
  unfold Instr.sliceBounds
  repeat' (first | (with_reducible first | exact s_sliceBound _ _ _ | exact s_pure _ | exact s_pure' _ | exact s_stuck _ | exact s_halt_stuck _ | exact s_panic _ | exact s_program | exact s_choose _) | (with_reducible refine sf_bind ?_ fun _ => ?_) | (with_reducible refine sf_map _ ?_) | ((with_reducible refine s_unsup _ ?_); exact trivial) | split | (dsimp only))
theorem s_slice (t : TypeId) (v : Value) (x y z : Option Value) : SF P (Instr.slice t v x y z) := by
  unfold Instr.slice
  repeat' (first | (with_reducible first | exact s_underlying _ | exact s_sliceBounds _ _ _ _ _ _ | exact s_sizeOf _ | exact s_asAddr _ | exact s_pure _ | exact s_pure' _ | exact s_stuck _ | exact s_halt_stuck _ | exact s_panic _ | exact s_program | exact s_choose _) | (with_reducible refine sf_bind ?_ fun _ => ?_) | (with_reducible refine sf_map _ ?_) | ((with_reducible refine s_unsup _ ?_); exact trivial) | split | (dsimp only))
theorem s_sliceAt (t : TypeId) (v : Value) (x y z : Option Value) : SF P (Instr.sliceAt t v x y z) := by
  unfold Instr.sliceAt
  repeat' (first | (with_reducible first | exact s_underlying _ | exact s_sliceBounds _ _ _ _ _ _ | exact s_sizeOf _ | exact s_sureAddr _ | exact s_slice _ _ _ _ _ | exact s_pure _ | exact s_pure' _ | exact s_stuck _ | exact s_halt_stuck _ | exact s_panic _ | exact s_program | exact s_choose _) | (with_reducible refine sf_bind ?_ fun _ => ?_) | (with_reducible refine sf_map _ ?_) | ((with_reducible refine s_unsup _ ?_); exact trivial) | split | (dsimp only))
theorem s_viewIf {α : Type} (r : Nat) (x y : Sem α) (hx : SA P x) (hy : SA P y) : SA P (viewAt r >>= fun o => if o.isSome = true then x else y) := by
  have h : SA P (lookAt r false (fun o => match o with | .view .. => true | _ => false) >>= fun b => if b = true then x else y) := sa_bind (s_look _ _ _ rfl (fun _ _ _ => rfl) fun _ _ => rfl) fun b => by
    cases b
    · exact hy
    · exact hx
  have e : (viewAt r >>= fun o => if o.isSome = true then x else y) = (lookAt r false (fun o => match o with | .view .. => true | _ => false) >>= fun b => if b = true then x else y) := by
    show Sem.shape r _ = Sem.shape r _
    congr 1
    funext s
    cases s with
    | some z => rfl
    | none =>
      show Sem.getObj r _ = Sem.getObj r _
      congr 1
      funext o
      cases o <;> rfl
  rw [e]
  exact h
theorem s_noView (a : Addr) : SA P (noView a) := by
  unfold noView
  exact s_viewIf _ _ _ (s_unsup _ trivial) (s_pure _)
theorem s_numberAt (r : Nat) : SA P (numberAt r) := by
  have h : SA P (lookAt r none (fun o => match o with | .number a l => some (a, l) | _ => none)) := s_look _ _ _ rfl (fun _ _ _ => rfl) fun _ _ => rfl
  have e : numberAt r = lookAt r none (fun o => match o with | .number a l => some (a, l) | _ => none) := by
    show Sem.shape r _ = Sem.shape r _
    congr 1
    funext s
    cases s with
    | some z => rfl
    | none =>
      show Sem.getObj r _ = Sem.getObj r _
      congr 1
      funext o
      cases o <;> rfl
  rw [e]
  exact h
theorem s_behindNumber (n : Addr) : SA P (behindNumber n) := by
  unfold behindNumber
  repeat' (first | (with_reducible first | exact s_numberAt _ | exact s_pure _ | exact s_pure' _ | exact s_stuck _ | exact s_halt_stuck _ | exact s_panic _ | exact s_program | exact s_choose _ | exact s_load _ _ | exact s_store _ _ _ | exact s_noRoom) | (with_reducible refine sa_bind ?_ fun _ => ?_) | (with_reducible refine sa_map _ ?_) | ((with_reducible refine s_unsup _ ?_); exact trivial) | split | (dsimp only))
theorem s_byteOf (a : Addr) : SA P (byteOf a) := by
  unfold byteOf
  repeat' (first | ((with_reducible refine simG_shape _ ?_ fun _ => ?_); first | exact doom_stuck _ | exact doom_unsup _ trivial) | (with_reducible first | exact s_noView _ | exact s_pure _ | exact s_pure' _ | exact s_stuck _ | exact s_halt_stuck _ | exact s_panic _ | exact s_program | exact s_choose _ | exact s_load _ _ | exact s_store _ _ _ | exact s_noRoom) | (with_reducible refine sa_bind ?_ fun _ => ?_) | (with_reducible refine sa_map _ ?_) | ((with_reducible refine s_unsup _ ?_); exact trivial) | split | (dsimp only))
theorem s_fieldAt (t : TypeId) (a : Value) (i : Nat) : SA P (Instr.fieldAt t a i) := by
  unfold Instr.fieldAt fieldPlace partAt
  repeat' (first | (with_reducible first | exact (s_underlying _).sa | exact (s_sureAddr _).sa | exact (s_sizeOf _).sa | exact s_byteOf _ | exact s_pure _ | exact s_pure' _ | exact s_stuck _ | exact s_halt_stuck _ | exact s_panic _ | exact s_program | exact s_choose _ | exact s_load _ _ | exact s_store _ _ _ | exact s_noRoom) | (with_reducible refine sa_bind ?_ fun _ => ?_) | (with_reducible refine sa_map _ ?_) | ((with_reducible refine s_unsup _ ?_); exact trivial) | split | (dsimp only))
theorem s_typeStr (t : TypeId) : SF P (typeStr t) := by
  unfold typeStr
  repeat' (first | (with_reducible first | exact s_typeInfo _ | exact s_pure _ | exact s_pure' _ | exact s_stuck _ | exact s_halt_stuck _ | exact s_panic _ | exact s_program | exact s_choose _) | (with_reducible refine sf_bind ?_ fun _ => ?_) | (with_reducible refine sf_map _ ?_) | ((with_reducible refine s_unsup _ ?_); exact trivial) | split | (dsimp only))
theorem s_forInList {γ σ : Type} (f : γ → σ → Sem (ForInStep σ)) (h : ∀ x s, SA P (f x s)) : ∀ (l : List γ) (s : σ), SA P (forIn l s f)
  | [], s => by rw [List.forIn_nil]; exact s_pure _
  | x :: l, s => by
    rw [List.forIn_cons]
    refine sa_bind (h x s) fun y => ?_
    cases y with
    | done b => exact s_pure _
    | yield b => exact s_forInList f h l b
theorem s_forInArray {γ σ : Type} (f : γ → σ → Sem (ForInStep σ)) (h : ∀ x s, SA P (f x s)) (l : Array γ) (s : σ) : SA P (forIn l s f) := by
  rw [← Array.forIn_toList]
  exact s_forInList f h _ _
theorem s_forInRange {σ : Type} (f : Nat → σ → Sem (ForInStep σ)) (h : ∀ x s, SA P (f x s)) (n : Nat) (s : σ) : SA P (forIn [0:n] s f) := by
  rw [Std.Legacy.Range.forIn_eq_forIn_range']
  exact s_forInList f h _ _
theorem s_eqGuardIn : ∀ (d : Nat) (t : TypeId) (x y : Value), SA P (Op.eqGuardIn d t x y)
  | 0, t, x, y => by
    unfold Op.eqGuardIn
    exact s_unsup _ trivial
  | d + 1, t, x, y => by
    have ih := s_eqGuardIn d
    unfold Op.eqGuardIn
    repeat' (first | (refine s_forInArray _ (fun _ _ => ?_) _ _) | (refine s_forInRange _ (fun _ _ => ?_) _ _) | (with_reducible first | exact (s_underlying _).sa | exact (s_part _ _ _).sa | exact (s_sizeOf _).sa | exact ih _ _ _ | exact s_pure _ | exact s_pure' _ | exact s_stuck _ | exact s_halt_stuck _ | exact s_panic _ | exact s_program | exact s_choose _ | exact s_load _ _ | exact s_store _ _ _ | exact s_noRoom) | (with_reducible refine sa_bind ?_ fun _ => ?_) | (with_reducible refine sa_map _ ?_) | ((with_reducible refine s_unsup _ ?_); exact trivial) | split | (dsimp only))
def EqOk (P : Program) (t : TypeId) : Prop := ∀ d x y, SA P (Op.equalIn d t x y)
theorem eqOk_int {t : TypeId} {k : IntKind} (h : P.underlying t = some (.int k)) : EqOk P t := by
  intro d x y
  cases d with
  | zero => unfold Op.equalIn; exact s_unsup _ trivial
  | succ d =>
    unfold Op.equalIn
    refine s_und h ?_
    repeat' (first | (contradiction) | (with_reducible first | exact s_behindNumber _ | exact s_byteOf _ | exact (s_typeInfo _).sa | exact s_pure _ | exact s_pure' _ | exact s_stuck _ | exact s_halt_stuck _ | exact s_panic _ | exact s_program | exact s_choose _ | exact s_load _ _ | exact s_store _ _ _ | exact s_noRoom) | (with_reducible refine sa_bind ?_ fun _ => ?_) | (with_reducible refine sa_map _ ?_) | ((with_reducible refine s_unsup _ ?_); exact trivial) | split | (dsimp only))
theorem eqOk_bool {t : TypeId} (h : P.underlying t = some .bool) : EqOk P t := by
  intro d x y
  cases d with
  | zero => unfold Op.equalIn; exact s_unsup _ trivial
  | succ d =>
    unfold Op.equalIn
    refine s_und h ?_
    repeat' (first | (contradiction) | (with_reducible first | exact s_pure _ | exact s_pure' _ | exact s_stuck _ | exact s_halt_stuck _ | exact s_panic _ | exact s_program | exact s_choose _ | exact s_load _ _ | exact s_store _ _ _ | exact s_noRoom) | (with_reducible refine sa_bind ?_ fun _ => ?_) | (with_reducible refine sa_map _ ?_) | ((with_reducible refine s_unsup _ ?_); exact trivial) | split | (dsimp only))
theorem eqOk_string {t : TypeId} (h : P.underlying t = some .string) : EqOk P t := by
  intro d x y
  cases d with
  | zero => unfold Op.equalIn; exact s_unsup _ trivial
  | succ d =>
    unfold Op.equalIn
    refine s_und h ?_
    repeat' (first | (contradiction) | (with_reducible first | exact s_pure _ | exact s_pure' _ | exact s_stuck _ | exact s_halt_stuck _ | exact s_panic _ | exact s_program | exact s_choose _ | exact s_load _ _ | exact s_store _ _ _ | exact s_noRoom) | (with_reducible refine sa_bind ?_ fun _ => ?_) | (with_reducible refine sa_map _ ?_) | ((with_reducible refine s_unsup _ ?_); exact trivial) | split | (dsimp only))
theorem s_forInMem {γ σ : Type} (f : γ → σ → Sem (ForInStep σ)) : ∀ (l : List γ) (_ : ∀ x ∈ l, ∀ s, SA P (f x s)) (s : σ), SA P (forIn l s f)
  | [], _, s => by rw [List.forIn_nil]; exact s_pure _
  | x :: l, h, s => by
    rw [List.forIn_cons]
    refine sa_bind (h x (List.mem_cons_self ..) s) fun y => ?_
    cases y with
    | done b => exact s_pure _
    | yield b => exact s_forInMem f l (fun x hx => h x (List.mem_cons_of_mem _ hx)) b
theorem eqOk_struct {t : TypeId} {fs : Array Field} (h : P.underlying t = some (.struct fs)) (hf : ∀ f ∈ fs.toList, EqOk P f.type) : EqOk P t := by
  intro d x y
  cases d with
  | zero => unfold Op.equalIn; exact s_unsup _ trivial
  | succ d =>
    unfold Op.equalIn
    refine s_und h ?_
    cases x with
    | agg xs =>
      cases y with
      | agg ys =>
        have hl : ∀ {σ : Type} (b : σ) (g : Field → σ → Sem (ForInStep σ)), (∀ f ∈ fs.toList, ∀ s, SA P (g f s)) → SA P (forIn fs b g) := fun {σ} b g hg => by
          rw [← Array.forIn_toList]
          exact s_forInMem g _ hg b
        repeat' (first | (refine hl _ _ fun f hfm s => ?_) | (exact hf _ (by assumption) _ _ _) | (with_reducible first | exact (s_part _ _ _).sa | exact s_pure _ | exact s_pure' _ | exact s_stuck _ | exact s_halt_stuck _ | exact s_panic _ | exact s_program | exact s_choose _ | exact s_load _ _ | exact s_store _ _ _ | exact s_noRoom) | (with_reducible refine sa_bind ?_ fun _ => ?_) | (with_reducible refine sa_map _ ?_) | ((with_reducible refine s_unsup _ ?_); exact trivial) | split | (dsimp only))
      | _ => exact s_stuck _
    | _ => exact s_stuck _
theorem s_eqGuard (op : BinOp) (t : TypeId) (x y : Operand) (a b : Value) : SA P (eqGuard op t x y a b) := by
  unfold eqGuard
  repeat' (first | (with_reducible first | exact s_eqGuardIn _ _ _ _ | exact s_pure _ | exact s_pure' _ | exact s_stuck _ | exact s_halt_stuck _ | exact s_panic _ | exact s_program | exact s_choose _ | exact s_load _ _ | exact s_store _ _ _ | exact s_noRoom) | (with_reducible refine sa_bind ?_ fun _ => ?_) | (with_reducible refine sa_map _ ?_) | ((with_reducible refine s_unsup _ ?_); exact trivial) | split | (dsimp only))
theorem s_unsafeAdd (a : Array TypeId) (t : TypeId) (x y : Value) : SA P (Builtin.unsafeAdd_ a t #[x, y]) := by
  unfold Builtin.unsafeAdd_
  cases x with
  | pointer ptr =>
    refine sa_bind (s := asInt y) (s_asInt _).sa fun n => ?_
    repeat' (first | (with_reducible refine s_viewIf _ _ _ ?_ ?_) | ((with_reducible refine simG_shape _ ?_ fun _ => ?_); first | exact doom_stuck _ | exact doom_unsup _ trivial) | (with_reducible first | exact (s_asInt _).sa | exact s_pure _ | exact s_pure' _ | exact s_stuck _ | exact s_halt_stuck _ | exact s_panic _ | exact s_program | exact s_choose _ | exact s_load _ _ | exact s_store _ _ _ | exact s_noRoom) | (with_reducible refine sa_bind ?_ fun _ => ?_) | (with_reducible refine sa_map _ ?_) | ((with_reducible refine s_unsup _ ?_); exact trivial) | split | (dsimp only))
  | _ => exact s_stuck _
theorem s_asNumber (a : Addr) (l : Bool) : SN P (asNumber a l) := sn_bind' (simG_new (o := .number a l) trivial).sn fun _ => s_pure _
theorem s_movedNumber (t : TypeId) (x y : Value) : SN P (movedNumber t x y) := by
  unfold movedNumber
  repeat' (first | (with_reducible first | exact (s_underlying _).sa | exact s_unsafeAdd _ _ _ _ | exact (s_unsafeAdd _ _ _ _).sn | exact s_behindNumber _ | exact s_asNumber _ _ | exact s_pure _ | exact s_pure' _ | exact s_stuck _ | exact s_halt_stuck _ | exact s_panic _ | exact s_program | exact s_choose _) | (with_reducible refine sn_bind ?_ fun _ => ?_) | (with_reducible refine sa_bind ?_ fun _ => ?_) | ((with_reducible refine s_unsup _ ?_); exact trivial) | split | (dsimp only))
theorem s_movedPointer (t : TypeId) (x y : Value) : SA P (movedPointer t x y) := by
  unfold movedPointer
  repeat' (first | (with_reducible first | exact s_numberAt _ | exact s_unsafeAdd _ _ _ _ | exact s_pure _ | exact s_pure' _ | exact s_stuck _ | exact s_halt_stuck _ | exact s_panic _ | exact s_program | exact s_choose _ | exact s_load _ _ | exact s_store _ _ _ | exact s_noRoom) | (with_reducible refine sa_bind ?_ fun _ => ?_) | (with_reducible refine sa_map _ ?_) | ((with_reducible refine s_unsup _ ?_); exact trivial) | split | (dsimp only))
theorem s_floatArith (op : BinOp) (k : FloatKind) (x y : Nat) : SF P (Op.floatArith op k x y) := by
  unfold Op.floatArith
  repeat' (first | (with_reducible first | exact s_pure _ | exact s_pure' _ | exact s_stuck _ | exact s_halt_stuck _ | exact s_panic _ | exact s_program | exact s_choose _) | (with_reducible refine sf_bind ?_ fun _ => ?_) | (with_reducible refine sf_map _ ?_) | ((with_reducible refine s_unsup _ ?_); exact trivial) | split | (dsimp only))
theorem s_floatCmp (op : BinOp) (k : FloatKind) (x y : Nat) : SF P (Op.floatCmp op k x y) := by
  unfold Op.floatCmp
  repeat' (first | (with_reducible first | exact s_pure _ | exact s_pure' _ | exact s_stuck _ | exact s_halt_stuck _ | exact s_panic _ | exact s_program | exact s_choose _) | (with_reducible refine sf_bind ?_ fun _ => ?_) | (with_reducible refine sf_map _ ?_) | ((with_reducible refine s_unsup _ ?_); exact trivial) | split | (dsimp only))
theorem s_floatToFloat (k : FloatKind) (x : Nat) (d : FloatKind) : SF P (Conv.floatToFloat k x d) := by
  unfold Conv.floatToFloat
  repeat' (first | (with_reducible first | exact s_pure _ | exact s_pure' _ | exact s_stuck _ | exact s_halt_stuck _ | exact s_panic _ | exact s_program | exact s_choose _) | (with_reducible refine sf_bind ?_ fun _ => ?_) | (with_reducible refine sf_map _ ?_) | ((with_reducible refine s_unsup _ ?_); exact trivial) | split | (dsimp only))
theorem s_arith (op : BinOp) (k : FloatKind) (x y : Nat) : SF P (Op.Complex.arith op k x y) := by
  unfold Op.Complex.arith
  repeat' (first | (with_reducible first | exact s_floatArith _ _ _ _ | exact s_pure _ | exact s_pure' _ | exact s_stuck _ | exact s_halt_stuck _ | exact s_panic _ | exact s_program | exact s_choose _) | (with_reducible refine sf_bind ?_ fun _ => ?_) | (with_reducible refine sf_map _ ?_) | ((with_reducible refine s_unsup _ ?_); exact trivial) | split | (dsimp only))
theorem s_cmp (op : BinOp) (k : FloatKind) (x y : Nat) : SF P (Op.Complex.cmp op k x y) := by
  unfold Op.Complex.cmp
  repeat' (first | (with_reducible first | exact s_floatCmp _ _ _ _ | exact s_asBool _ | exact s_pure _ | exact s_pure' _ | exact s_stuck _ | exact s_halt_stuck _ | exact s_panic _ | exact s_program | exact s_choose _) | (with_reducible refine sf_bind ?_ fun _ => ?_) | (with_reducible refine sf_map _ ?_) | ((with_reducible refine s_unsup _ ?_); exact trivial) | split | (dsimp only))
theorem s_conv (k : FloatKind) (x : Nat) (d : FloatKind) : SF P (Op.Complex.conv k x d) := by
  unfold Op.Complex.conv
  repeat' (first | (with_reducible first | exact s_floatToFloat _ _ _ | exact s_pure _ | exact s_pure' _ | exact s_stuck _ | exact s_halt_stuck _ | exact s_panic _ | exact s_program | exact s_choose _) | (with_reducible refine sf_bind ?_ fun _ => ?_) | (with_reducible refine sf_map _ ?_) | ((with_reducible refine s_unsup _ ?_); exact trivial) | split | (dsimp only))
theorem s_add (x y : Nat) : SF P (Op.Complex.add x y) := s_arith _ _ _ _
theorem s_sub (x y : Nat) : SF P (Op.Complex.sub x y) := s_arith _ _ _ _
theorem s_mul (x y : Nat) : SF P (Op.Complex.mul x y) := s_arith _ _ _ _
theorem s_quo (x y : Nat) : SF P (Op.Complex.quo x y) := s_arith _ _ _ _
theorem s_product (a b c d : Nat) : SF P (Op.Complex.product a b c d) := by
  unfold Op.Complex.product
  repeat' (first | (with_reducible first | exact s_add _ _ | exact s_sub _ _ | exact s_mul _ _ | exact s_pure _ | exact s_pure' _ | exact s_stuck _ | exact s_halt_stuck _ | exact s_panic _ | exact s_program | exact s_choose _) | (with_reducible refine sf_bind ?_ fun _ => ?_) | (with_reducible refine sf_map _ ?_) | ((with_reducible refine s_unsup _ ?_); exact trivial) | split | (dsimp only))
theorem s_corrected (s a b c d : Nat) : SF P (Op.Complex.corrected s a b c d) := by
  unfold Op.Complex.corrected
  repeat' (first | (with_reducible first | exact s_add _ _ | exact s_sub _ _ | exact s_mul _ _ | exact s_pure _ | exact s_pure' _ | exact s_stuck _ | exact s_halt_stuck _ | exact s_panic _ | exact s_program | exact s_choose _) | (with_reducible refine sf_bind ?_ fun _ => ?_) | (with_reducible refine sf_map _ ?_) | ((with_reducible refine s_unsup _ ?_); exact trivial) | split | (dsimp only))
theorem s_quotient (a b c d : Nat) : SF P (Op.Complex.quotient a b c d) := by
  unfold Op.Complex.quotient
  repeat' (first | (with_reducible first | exact s_add _ _ | exact s_sub _ _ | exact s_mul _ _ | exact s_quo _ _ | exact s_cmp _ _ _ _ | exact s_corrected _ _ _ _ _ | exact s_pure _ | exact s_pure' _ | exact s_stuck _ | exact s_halt_stuck _ | exact s_panic _ | exact s_program | exact s_choose _) | (with_reducible refine sf_bind ?_ fun _ => ?_) | (with_reducible refine sf_map _ ?_) | ((with_reducible refine s_unsup _ ?_); exact trivial) | split | (dsimp only))
theorem s_complexOp (op : BinOp) (k : FloatKind) (a b c d : Nat) : SF P (Op.complexOp op k a b c d) := by
  unfold Op.complexOp
  repeat' (first | (with_reducible first | exact s_arith _ _ _ _ | exact s_cmp _ _ _ _ | exact s_conv _ _ _ | exact s_product _ _ _ _ | exact s_quotient _ _ _ _ | exact s_pure _ | exact s_pure' _ | exact s_stuck _ | exact s_halt_stuck _ | exact s_panic _ | exact s_program | exact s_choose _) | (with_reducible refine sf_bind ?_ fun _ => ?_) | (with_reducible refine sf_map _ ?_) | ((with_reducible refine s_unsup _ ?_); exact trivial) | split | (dsimp only))
theorem s_stringOp (op : BinOp) (a b : ByteArray) : SF P (Op.stringOp op a b) := by
  unfold Op.stringOp
  repeat' (first | (with_reducible first | exact s_pure _ | exact s_pure' _ | exact s_stuck _ | exact s_halt_stuck _ | exact s_panic _ | exact s_program | exact s_choose _) | (with_reducible refine sf_bind ?_ fun _ => ?_) | (with_reducible refine sf_map _ ?_) | ((with_reducible refine s_unsup _ ?_); exact trivial) | split | (dsimp only))
theorem s_shift (op : BinOp) (k : IntKind) (x : Int) (l : IntKind) (y : Int) : SF P (Op.shift op k x l y) := by
  unfold Op.shift
  repeat' (first | (with_reducible first | exact s_runtimePanic_error _ | exact s_pure _ | exact s_pure' _ | exact s_stuck _ | exact s_halt_stuck _ | exact s_panic _ | exact s_program | exact s_choose _) | (with_reducible refine sf_bind ?_ fun _ => ?_) | (with_reducible refine sf_map _ ?_) | ((with_reducible refine s_unsup _ ?_); exact trivial) | split | (dsimp only))
theorem s_intArith (op : BinOp) (k : IntKind) (x y : Int) : SF P (Op.intArith op k x y) := by
  unfold Op.intArith
  repeat' (first | (with_reducible first | exact s_pure _ | exact s_pure' _ | exact s_stuck _ | exact s_halt_stuck _ | exact s_panic _ | exact s_program | exact s_choose _) | (with_reducible refine sf_bind ?_ fun _ => ?_) | (with_reducible refine sf_map _ ?_) | ((with_reducible refine s_unsup _ ?_); exact trivial) | split | (dsimp only))
theorem s_intDiv (op : BinOp) (k : IntKind) (x y : Int) : SF P (Op.intDiv op k x y) := by
  unfold Op.intDiv
  repeat' (first | (with_reducible first | exact s_runtimePanic_error _ | exact s_pure _ | exact s_pure' _ | exact s_stuck _ | exact s_halt_stuck _ | exact s_panic _ | exact s_program | exact s_choose _) | (with_reducible refine sf_bind ?_ fun _ => ?_) | (with_reducible refine sf_map _ ?_) | ((with_reducible refine s_unsup _ ?_); exact trivial) | split | (dsimp only))
theorem s_intBits (op : BinOp) (k : IntKind) (x y : Int) : SF P (Op.intBits op k x y) := by
  unfold Op.intBits
  repeat' (first | (with_reducible first | exact s_pure _ | exact s_pure' _ | exact s_stuck _ | exact s_halt_stuck _ | exact s_panic _ | exact s_program | exact s_choose _) | (with_reducible refine sf_bind ?_ fun _ => ?_) | (with_reducible refine sf_map _ ?_) | ((with_reducible refine s_unsup _ ?_); exact trivial) | split | (dsimp only))
theorem s_intCmp (op : BinOp) (x y : Int) : SF P (Op.intCmp op x y) := by
  unfold Op.intCmp
  repeat' (first | (with_reducible first | exact s_pure _ | exact s_pure' _ | exact s_stuck _ | exact s_halt_stuck _ | exact s_panic _ | exact s_program | exact s_choose _) | (with_reducible refine sf_bind ?_ fun _ => ?_) | (with_reducible refine sf_map _ ?_) | ((with_reducible refine s_unsup _ ?_); exact trivial) | split | (dsimp only))
theorem s_twoPlaces (a b : Addr) : SA P (Op.twoPlaces a b) := by
  unfold Op.twoPlaces
  repeat' (first | (with_reducible first | exact s_byteOf _ | exact s_pure _ | exact s_pure' _ | exact s_stuck _ | exact s_halt_stuck _ | exact s_panic _ | exact s_program | exact s_choose _ | exact s_load _ _ | exact s_store _ _ _ | exact s_noRoom) | (with_reducible refine sa_bind ?_ fun _ => ?_) | (with_reducible refine sa_map _ ?_) | ((with_reducible refine s_unsup _ ?_); exact trivial) | split | (dsimp only))
theorem s_addrSub (k : IntKind) (a b : Addr) : SA P (Op.addrSub k a b) := by
  unfold Op.addrSub
  repeat' (first | (with_reducible first | exact s_twoPlaces _ _ | exact s_pure _ | exact s_pure' _ | exact s_stuck _ | exact s_halt_stuck _ | exact s_panic _ | exact s_program | exact s_choose _ | exact s_load _ _ | exact s_store _ _ _ | exact s_noRoom) | (with_reducible refine sa_bind ?_ fun _ => ?_) | (with_reducible refine sa_map _ ?_) | ((with_reducible refine s_unsup _ ?_); exact trivial) | split | (dsimp only))
theorem s_addrCmp (op : BinOp) (a b : Addr) : SA P (Op.addrCmp op a b) := by
  unfold Op.addrCmp
  repeat' (first | (with_reducible first | exact s_twoPlaces _ _ | exact s_pure _ | exact s_pure' _ | exact s_stuck _ | exact s_halt_stuck _ | exact s_panic _ | exact s_program | exact s_choose _ | exact s_load _ _ | exact s_store _ _ _ | exact s_noRoom) | (with_reducible refine sa_bind ?_ fun _ => ?_) | (with_reducible refine sa_map _ ?_) | ((with_reducible refine s_unsup _ ?_); exact trivial) | split | (dsimp only))
theorem s_addrMod (k : IntKind) (a : Addr) (n : Int) : SA P (Op.addrMod k a n) := by
  unfold Op.addrMod
  repeat' (first | ((with_reducible refine simG_shape _ ?_ fun _ => ?_); first | exact doom_stuck _ | exact doom_unsup _ trivial) | (with_reducible first | exact s_byteOf _ | exact (s_typeInfo _).sa | exact s_pure _ | exact s_pure' _ | exact s_stuck _ | exact s_halt_stuck _ | exact s_panic _ | exact s_program | exact s_choose _ | exact s_load _ _ | exact s_store _ _ _ | exact s_noRoom) | (with_reducible refine sa_bind ?_ fun _ => ?_) | (with_reducible refine sa_map _ ?_) | ((with_reducible refine s_unsup _ ?_); exact trivial) | split | (dsimp only))
set_option maxHeartbeats 2000000 in
theorem s_binOp_eq (op : BinOp) (t : TypeId) (x y : Value) (h : EqOk P t) : SN P (binOp op t x y) := by
  have he : ∀ x y, SA P (Op.equal t x y) := fun x y => h _ _ _
  unfold binOp
  repeat' (first | (with_reducible first | exact (s_shift _ _ _ _ _).sn | exact (s_intArith _ _ _ _).sn | exact (s_intDiv _ _ _ _).sn | exact (s_intBits _ _ _ _).sn | exact (s_intCmp _ _ _).sn | exact (s_floatArith _ _ _ _).sn | exact (s_floatCmp _ _ _ _).sn | exact (s_complexOp _ _ _ _ _ _).sn | exact (s_stringOp _ _ _).sn | exact he _ _ | exact (s_underlying _).sa | exact (s_movedPointer _ _ _).sn | exact s_movedNumber _ _ _ | exact (s_addrSub _ _ _).sn | exact (s_addrCmp _ _ _).sn | exact (s_addrMod _ _ _).sn | exact s_behindNumber _ | exact s_pure _ | exact s_pure' _ | exact s_stuck _ | exact s_halt_stuck _ | exact s_panic _ | exact s_program | exact s_choose _) | (with_reducible refine sn_bind ?_ fun _ => ?_) | (with_reducible refine sa_bind ?_ fun _ => ?_) | ((with_reducible refine s_unsup _ ?_); exact trivial) | split | (dsimp only))
set_option maxHeartbeats 2000000 in
theorem s_binOp_ne (op : BinOp) (t : TypeId) (x y : Value) (h1 : op ≠ .eql) (h2 : op ≠ .neq) : SN P (binOp op t x y) := by
  unfold binOp
  repeat' (first | (exact absurd rfl ‹BinOp.eql ≠ BinOp.eql›) | (exact absurd rfl ‹BinOp.neq ≠ BinOp.neq›) | (with_reducible first | exact (s_shift _ _ _ _ _).sn | exact (s_intArith _ _ _ _).sn | exact (s_intDiv _ _ _ _).sn | exact (s_intBits _ _ _ _).sn | exact (s_intCmp _ _ _).sn | exact (s_floatArith _ _ _ _).sn | exact (s_floatCmp _ _ _ _).sn | exact (s_complexOp _ _ _ _ _ _).sn | exact (s_stringOp _ _ _).sn | exact (s_underlying _).sa | exact (s_movedPointer _ _ _).sn | exact s_movedNumber _ _ _ | exact (s_addrSub _ _ _).sn | exact (s_addrCmp _ _ _).sn | exact (s_addrMod _ _ _).sn | exact s_behindNumber _ | exact s_pure _ | exact s_pure' _ | exact s_stuck _ | exact s_halt_stuck _ | exact s_panic _ | exact s_program | exact s_choose _) | (with_reducible refine sn_bind ?_ fun _ => ?_) | (with_reducible refine sa_bind ?_ fun _ => ?_) | ((with_reducible refine s_unsup _ ?_); exact trivial) | split | (dsimp only))
theorem s_unary (op : UnOp) (x : Value) : SF P (Op.unary op x) := by
  unfold Op.unary
  repeat' (first | (with_reducible first | exact s_intArith _ _ _ _ | exact s_intBits _ _ _ _ | exact s_pure _ | exact s_pure' _ | exact s_stuck _ | exact s_halt_stuck _ | exact s_panic _ | exact s_program | exact s_choose _) | (with_reducible refine sf_bind ?_ fun _ => ?_) | (with_reducible refine sf_map _ ?_) | ((with_reducible refine s_unsup _ ?_); exact trivial) | split | (dsimp only))
end
end Go.Proofs.Ytmkjoojoaldljaa.Tm
namespace Go.Proofs.Ytmkjoojoaldljaa.Tm
open Go.Conc
section
variable {P : Program}
theorem s_len (a : Array TypeId) (t : TypeId) (v : Array Value) (T : TypeId) (e : TypeId) (h0 : a[0]? = some T) (h : P.underlying T = some (.slice e)) : SF P (Builtin.len_ a t v) := by
  unfold Builtin.len_
  rw [h0]
  cases v[0]? with
  | none => exact s_stuck _
  | some x =>
    refine s_und h ?_
    cases x <;> first | exact s_pure _ | exact s_stuck _
theorem s_cap (a : Array TypeId) (t : TypeId) (v : Array Value) (T : TypeId) (e : TypeId) (h0 : a[0]? = some T) (h : P.underlying T = some (.slice e)) : SF P (Builtin.cap_ a t v) := by
  unfold Builtin.cap_
  rw [h0]
  cases v[0]? with
  | none => exact s_stuck _
  | some x =>
    refine s_und h ?_
    cases x <;> first | exact s_pure _ | exact s_stuck _
theorem s_lenOf (v : Value) : SF P (Builtin.lenOf v) := by
  unfold Builtin.lenOf
  repeat' (first | (with_reducible first | exact s_pure _ | exact s_pure' _ | exact s_stuck _ | exact s_halt_stuck _ | exact s_panic _ | exact s_program | exact s_choose _) | (with_reducible refine sf_bind ?_ fun _ => ?_) | (with_reducible refine sf_map _ ?_) | ((with_reducible refine s_unsup _ ?_); exact trivial) | split | (dsimp only))
theorem s_firstCells (s n : Nat) (v : Value) : SA P (Builtin.firstCells s n v) := by
  unfold Builtin.firstCells
  repeat' (first | (with_reducible first | exact s_loadCells _ _ | exact s_pure _ | exact s_pure' _ | exact s_stuck _ | exact s_halt_stuck _ | exact s_panic _ | exact s_program | exact s_choose _ | exact s_load _ _ | exact s_store _ _ _ | exact s_noRoom) | (with_reducible refine sa_bind ?_ fun _ => ?_) | (with_reducible refine sa_map _ ?_) | ((with_reducible refine s_unsup _ ?_); exact trivial) | split | (dsimp only))
theorem s_copy (a : Array TypeId) (t : TypeId) (v : Array Value) : SA P (Builtin.copy_ a t v) := by
  unfold Builtin.copy_
  repeat' (first | (with_reducible first | exact (s_underlying _).sa | exact (s_lenOf _).sa | exact (s_sizeOf _).sa | exact s_firstCells _ _ _ | exact s_storeCells _ _ _ | exact s_pure _ | exact s_pure' _ | exact s_stuck _ | exact s_halt_stuck _ | exact s_panic _ | exact s_program | exact s_choose _ | exact s_load _ _ | exact s_store _ _ _ | exact s_noRoom) | (with_reducible refine sa_bind ?_ fun _ => ?_) | (with_reducible refine sa_map _ ?_) | ((with_reducible refine s_unsup _ ?_); exact trivial) | split | (dsimp only))
theorem doom_bind {α β : Type} {s : Sem α} {f : α → Sem β} (h1 : ∀ u, (∃ a u', s.run P u = .ok a u') ∨ ∃ x u', s.run P u = .halt x u' ∧ okHalt x ∧ ¬ ∃ v, x = .panic v) (h2 : ∀ a, Doom P (f a)) : Doom P (s >>= f) := fun u => by
  have e : (s >>= f).run P u = (s.run P u).andThen fun a w' => (f a).run P w' := Sem.run_bind' P s f u
  rcases h1 u with ⟨a, u', h⟩ | ⟨x, u', h, hx⟩
  · obtain ⟨x, u2, h3, h4⟩ := h2 a u'
    exact ⟨x, u2, by rw [e, h]; exact h3, h4⟩
  · exact ⟨x, u', by rw [e, h]; rfl, hx⟩
theorem SimG.doom {α : Type} {g t : Bool} {L : α → Prop} {s : Sem α} (h : Doom P s) : SimG P g t L s := simG_doom fun _ u _ _ => h u
def Quiet {α : Type} (P : Program) (s : Sem α) : Prop := ∀ u, (∃ a u', s.run P u = .ok a u') ∨ ∃ x u', s.run P u = .halt x u' ∧ okHalt x ∧ ¬ ∃ v, x = .panic v
theorem q_pure {α : Type} (a : α) : Quiet P (pure a) := fun u => .inl ⟨a, u, rfl⟩
theorem q_bind {α β : Type} {s : Sem α} {f : α → Sem β} (h1 : Quiet P s) (h2 : ∀ a, Quiet P (f a)) : Quiet P (s >>= f) := fun u => by
  have e : (s >>= f).run P u = (s.run P u).andThen fun a w' => (f a).run P w' := Sem.run_bind' P s f u
  rcases h1 u with ⟨a, u', h⟩ | ⟨x, u', h, hx⟩
  · rcases h2 a u' with ⟨b, u2, h3⟩ | ⟨x, u2, h3, h4⟩
    · exact .inl ⟨b, u2, by rw [e, h]; exact h3⟩
    · exact .inr ⟨x, u2, by rw [e, h]; exact h3, h4⟩
  · exact .inr ⟨x, u', by rw [e, h]; rfl, hx⟩
theorem q_shape (r : Nat) : Quiet P (shape r) := fun u => .inl ⟨_, u, rfl⟩
theorem q_frozen (a : Addr) : Quiet P (frozen a) := fun u => .inl ⟨_, u, rfl⟩
theorem q_mark (m : Mark) : Quiet P (mark m) := fun u => .inl ⟨_, u, rfl⟩
theorem q_holdsCells (a : Addr) (n : Nat) : Quiet P (Builtin.holdsCells a n) := by
  unfold Builtin.holdsCells
  refine q_bind (q_shape _) fun o => ?_
  cases o <;> exact q_pure _
theorem q_mayShare (s l n : Nat) (b : Option Addr) (x : Value) : Quiet P (Builtin.mayShare s l n b x) := by
  unfold Builtin.mayShare
  repeat' (first | (with_reducible first | exact q_pure _ | exact q_shape _ | exact q_frozen _ | exact q_holdsCells _ _) | (with_reducible refine q_bind ?_ fun _ => ?_) | split | (dsimp only))
theorem s_shareDoom {α : Type} (s l n : Nat) (b : Option Addr) (x : Value) {f : Bool → Sem α} (h : ∀ c, Doom P (f c)) : SA P (Builtin.mayShare s l n b x >>= f) := SimG.doom (doom_bind (q_mayShare _ _ _ _ _) h)
theorem s_ite {α : Type} {g t : Bool} {L : α → Prop} {c : Prop} [Decidable c] {x y : Sem α} (h1 : c → SimG P g t L x) (h2 : ¬ c → SimG P g t L y) : SimG P g t L (if c then x else y) := by
  by_cases h : c
  · rw [if_pos h]; exact h1 h
  · rw [if_neg h]; exact h2 h
set_option maxHeartbeats 4000000 in
theorem s_append (a : Array TypeId) (t : TypeId) (v : Array Value) : SN P (Builtin.append_ a t v) := by
  unfold Builtin.append_
  repeat' (first | (with_reducible refine sn_bind' (s_newRow _ _) (fun _ => ?_)) | (((with_reducible refine s_shareDoom _ _ _ _ _ fun c => ?_); split); (exact doom_bind (q_mark _) fun _ => doom_unsup _ trivial); (exact doom_unsup _ trivial)) | (with_reducible refine s_ite (fun _ => ?_) (fun _ => ?_)) | (with_reducible first | exact (s_underlying _).sa | exact (s_sizeOf _).sa | exact (s_lenOf _).sa | exact (s_typeInfo _).sa | exact (s_asInt _).sa | exact (s_zeroValue _).sa | exact s_askRoom _ | exact s_firstCells _ _ _ | exact s_storeCells _ _ _ | exact (s_runtimePanic_error _).sa | exact (s_runtimePanic_error _).sn | exact s_newRow _ _ | exact s_pure _ | exact s_pure' _ | exact s_stuck _ | exact s_halt_stuck _ | exact s_panic _ | exact s_program | exact s_choose _) | (with_reducible refine sn_bind ?_ fun _ => ?_) | (with_reducible refine sa_bind ?_ fun _ => ?_) | ((with_reducible refine s_unsup _ ?_); exact trivial) | split | (dsimp only))
end
end Go.Proofs.Ytmkjoojoaldljaa.Tm
namespace Go.Proofs.Ytmkjoojoaldljaa.Tm
open Go.Conc
section
variable {P : Program}
theorem s_build (t : TypeId) (parts : Array (Nat × Value)) : SF P (Instr.build t parts) := by
  unfold Instr.build
  refine sf_bind (s_zeroValue _) fun z => ?_
  refine sf_bind (s_underlying _) fun d => ?_
  have h : ∀ (fs : List Field) , SF P (fs.mapM fun f => do pure (f.offset, ← sizeOf f.type)) := by
    intro fs
    induction fs with
    | nil => rw [List.mapM_nil]; exact s_pure _
    | cons f fs ih =>
      rw [List.mapM_cons]
      refine sf_bind (sf_bind (s_sizeOf _) fun _ => s_pure _) fun _ => sf_bind ih fun _ => s_pure _
  have h' : ∀ (fs : Array Field) , SF P (fs.mapM fun f => do pure (f.offset, ← sizeOf f.type)) := by
    intro fs
    rw [Array.mapM_eq_mapM_toList]
    exact sf_map _ (h _)
  split
  · refine sf_bind (h' _) fun _ => ?_
    repeat' (first | (with_reducible first | exact s_pure _ | exact s_pure' _ | exact s_stuck _ | exact s_halt_stuck _ | exact s_panic _ | exact s_program | exact s_choose _) | (with_reducible refine sf_bind ?_ fun _ => ?_) | (with_reducible refine sf_map _ ?_) | ((with_reducible refine s_unsup _ ?_); exact trivial) | split | (dsimp only))
  · repeat' (first | (with_reducible first | exact s_sizeOf _ | exact s_pure _ | exact s_pure' _ | exact s_stuck _ | exact s_halt_stuck _ | exact s_panic _ | exact s_program | exact s_choose _) | (with_reducible refine sf_bind ?_ fun _ => ?_) | (with_reducible refine sf_map _ ?_) | ((with_reducible refine s_unsup _ ?_); exact trivial) | split | (dsimp only))
  · exact s_stuck _
theorem s_buildSlice (t : TypeId) (n : Nat) (parts : Array (Nat × Value)) : SN P (Instr.buildSlice t n parts) := by
  unfold Instr.buildSlice
  repeat' (first | (with_reducible refine sn_bind' (s_newRow _ _) (fun _ => ?_)) | (with_reducible first | exact (s_underlying _).sa | exact (s_sizeOf _).sa | exact (s_zeroValue _).sa | exact s_pure _ | exact s_pure' _ | exact s_stuck _ | exact s_halt_stuck _ | exact s_panic _ | exact s_program | exact s_choose _) | (with_reducible refine sn_bind ?_ fun _ => ?_) | (with_reducible refine sa_bind ?_ fun _ => ?_) | ((with_reducible refine s_unsup _ ?_); exact trivial) | split | (dsimp only))
theorem s_makeSlice (t : TypeId) (l c : Value) : SN P (Instr.makeSlice t l c) := by
  unfold Instr.makeSlice
  repeat' (first | (with_reducible refine sn_bind' (s_newRow _ _) (fun _ => ?_)) | (with_reducible first | exact (s_underlying _).sa | exact (s_asInt _).sa | exact (s_typeInfo _).sa | exact (s_sizeOf _).sa | exact (s_zeroValue _).sa | exact s_askRoom _ | exact (s_runtimePanic_error _).sa | exact (s_runtimePanic_error _).sn | exact s_pure _ | exact s_pure' _ | exact s_stuck _ | exact s_halt_stuck _ | exact s_panic _ | exact s_program | exact s_choose _) | (with_reducible refine sn_bind ?_ fun _ => ?_) | (with_reducible refine sa_bind ?_ fun _ => ?_) | ((with_reducible refine s_unsup _ ?_); exact trivial) | split | (dsimp only))
theorem s_alloc (e : TypeId) (v : Value) : SN P (Instr.alloc e true v) := by
  unfold Instr.alloc
  refine sn_bind (s_zeroValue _).sa fun z => ?_
  exact sn_bind' (s_newVar _ _) fun _ => s_pure _
theorem s_box (e : TypeId) (v : Value) : SN P (Instr.box e v) := sn_bind' (s_newVar _ _) fun _ => s_pure _
variable {FS : FuncId → Prop}
theorem t_value {s : Sem Value} (h : SN P s) : SimG P true true (NextOk FS) (do pure (.value (← s))) := simG_bind (g2 := false) (t2 := false) h (fun _ _ => simG_pure trivial) (.inr rfl)
theorem t_skip {s : Sem Unit} (h : SN P s) : SimG P true true (NextOk FS) (do s; pure .skip) := simG_bind (g2 := false) (t2 := false) h (fun _ _ => simG_pure trivial) (.inr rfl)
def tameOp (fs : List FuncId) (ss es : List TypeId) (o : Oper) : Bool :=
  match o.op with
  | .move _ | .assign _ | .pick .. | .alloc _ | .box .. | .build .. | .buildSlice .. | .load .. | .store .. | .unOp .. | .makeFunc .. | .makeSlice .. | .slice .. | .fieldAddr .. | .field .. | .indexAddr .. | .index .. | .extract .. => true
  | .binOp .eql t .. => es.elem t
  | .binOp .neq t .. => es.elem t
  | .binOp .. => true
  | .call { callee := .value (.func f), .. } => fs.elem f
  | .call { callee := .builtin .len, argTypes, .. } => (argTypes[0]?).any ss.elem
  | .call { callee := .builtin .cap, argTypes, .. } => (argTypes[0]?).any ss.elem
  | .call { callee := .builtin .append, .. } => true
  | .call { callee := .builtin .copy, .. } => true
  | _ => false
def tameOps (fs : List FuncId) (ss es : List TypeId) (ops : Array Oper) : Bool := ops.all (tameOp fs ss es)
def tameCode (fs : List FuncId) (ss es : List TypeId) : Code → Bool
  | .seq a b => tameCode fs ss es a && tameCode fs ss es b
  | .cond _ a b => tameCode fs ss es a && tameCode fs ss es b
  | .block _ c => tameCode fs ss es c
  | .loop c => tameCode fs ss es c
  | .scope c => tameCode fs ss es c
  | .region _ ops _ => tameOps fs ss es ops
  | .rangeFunc .. => false
  | _ => true
structure TameBase (P : Program) (fs : List FuncId) (ss es : List TypeId) : Prop where
  fn : ∀ f ∈ fs, ∃ fn c, P.funcs[f]? = some fn ∧ (fn.name == "runtime.NumGoroutine") = false ∧ fn.body = some c
  sl : ∀ t ∈ ss, ∃ e, P.underlying t = some (.slice e)
  eq : ∀ t ∈ es, EqOk P t
theorem tameOp_ok {fs : List FuncId} {ss es : List TypeId} (B : TameBase P fs ss es) {o : Oper} (h : tameOp fs ss es o = true) : TameOp P (· ∈ fs) o := by
  intro ρ hρ
  obtain ⟨dst, op, ty, pos, after, guard⟩ := o
  have lenLike : ∀ (a : Array TypeId), (a[0]?).any ss.elem = true → ∃ T e, a[0]? = some T ∧ P.underlying T = some (.slice e) := fun a h => by
    cases h0 : a[0]? with
    | none => rw [h0] at h; cases h
    | some T =>
      rw [h0] at h
      obtain ⟨e, he⟩ := B.sl T (List.elem_iff.1 h)
      exact ⟨T, e, rfl, he⟩
  cases op with
  | move x => exact simG_pure trivial
  | assign x => exact simG_pure trivial
  | pick c a b => exact simG_bind (g1 := false) (t1 := false) (g2 := true) (t2 := true) (s_asBool _) (fun _ _ => by split <;> exact simG_pure trivial) (.inl rfl)
  | alloc e => exact t_value (s_alloc _ _)
  | box e x => exact t_value (s_box _ _)
  | build t p => exact t_value (s_build _ _).sn
  | buildSlice t n p => exact t_value (s_buildSlice _ _ _)
  | load t a => exact t_value (s_loadAt _ _).sn
  | store t a x => exact t_skip (s_storeAt _ _ _).sn
  | binOp p t x y _ =>
    refine t_value (sn_bind (s_eqGuard _ _ _ _ _ _) fun _ => ?_)
    by_cases h1 : p = .eql
    · subst h1; exact s_binOp_eq _ _ _ _ (B.eq t (List.elem_iff.1 h))
    · by_cases h2 : p = .neq
      · subst h2; exact s_binOp_eq _ _ _ _ (B.eq t (List.elem_iff.1 h))
      · exact s_binOp_ne _ _ _ _ h1 h2
  | unOp p t x => exact t_value (s_unary _ _).sn
  | makeFunc f a b => exact t_value (SimG.sn (s_pure (g := false) (t := false) _))
  | makeSlice t l c => exact t_value (s_makeSlice _ _ _)
  | slice t x lo hi mx => exact t_value (s_sliceAt _ _ _ _ _).sn
  | fieldAddr s x f => exact t_value (s_fieldAt _ _ _).sn
  | field t x f => exact t_value (s_field _ _ _).sn
  | indexAddr t x i => exact t_value (s_indexAt _ _ _).sn
  | index t x i => exact t_value (s_index _ _ _).sn
  | extract x i => exact t_value (s_extract _ _).sn
  | call c =>
    obtain ⟨callee, args, argTypes⟩ := c
    cases callee with
    | value f =>
      cases f with
      | func f =>
        have hf : f ∈ fs := List.elem_iff.1 h
        obtain ⟨fn, c, h1, h2, h3⟩ := B.fn f hf
        refine simG_congr (s' := pure (.enter f (args.map ρ))) (fun w es => ?_) (simG_pure hf)
        have e1 : (execOp ρ { dst, op := .call { callee := .value (.func f), args, argTypes }, type := ty, pos, after, guard }).runT P w es = (callFunc f (#[] ++ args.map ρ ++ #[])).runT P w es := by
          show (do let d ← Deferred.ofValue (ρ (.func f)) (args.map ρ); invoke d.target d.args).runT P w es = _
          rw [hρ]
          rfl
        rw [e1]
        have e2 : ∀ a, (callFunc f a).runT P w es = (match P.funcs[f]? with
          | none => stuck "call: no such function"
          | some fn => if fn.name == "runtime.NumGoroutine" then pure .numGoroutine
            else if fn.body.isNone then do
              mark (.extern f)
              if let some e := Extern.findNext fn then return ← e a
              match Extern.find fn with
              | some e => pure (.value (← e a))
              | none => if fn.name.endsWith ".init" && !fn.name.startsWith "(" && !fn.name.startsWith "gosem." then pure (.value (.tuple #[])) else unsupported (.extern fn.name)
            else pure (.enter f a) : Sem Next).runT P w es := fun a => rfl
        rw [e2, h1]
        simp only [h2, h3, Option.isNone_some, Bool.false_eq_true, if_false, Array.empty_append, Array.append_empty]
      | _ => cases h
    | builtin b =>
      cases b with
      | len =>
        obtain ⟨T, e, h0, h1⟩ := lenLike _ h
        exact t_value (s_len _ _ _ T e h0 h1).sn
      | cap =>
        obtain ⟨T, e, h0, h1⟩ := lenLike _ h
        exact t_value (s_cap _ _ _ T e h0 h1).sn
      | append => exact t_value (s_append _ _ _)
      | copy => exact t_value (s_copy _ _ _).sn
      | _ => cases h
    | _ => cases h
  | _ => cases h
theorem tameOps_ok {fs : List FuncId} {ss es : List TypeId} (B : TameBase P fs ss es) {ops : Array Oper} (h : tameOps fs ss es ops = true) : TameOps P (· ∈ fs) ops := fun i o ho => tameOp_ok B (by
  obtain ⟨hi, rfl⟩ := Array.getElem?_eq_some_iff.1 ho
  exact Array.all_eq_true.1 h i hi)
theorem tameCode_ok {fs : List FuncId} {ss es : List TypeId} (B : TameBase P fs ss es) : ∀ {c : Code}, tameCode fs ss es c = true → TameCode P (· ∈ fs) c := by
  intro c
  induction c with
  | seq a b iha ihb => intro h; simp only [tameCode, Bool.and_eq_true] at h; exact ⟨iha h.1, ihb h.2⟩
  | cond x a b iha ihb => intro h; simp only [tameCode, Bool.and_eq_true] at h; exact ⟨iha h.1, ihb h.2⟩
  | block i c ih => intro h; exact ih h
  | loop c ih => intro h; exact ih h
  | scope c ih => intro h; exact ih h
  | region i ops d => intro h; exact tameOps_ok B h
  | rangeFunc => intro h; cases h
  | _ => intro _; trivial
def plainResults (fn : Func) : Bool := fn.results.all fun | .tmp _ => true | _ => false
theorem s_results {fn : Func} (h : plainResults fn = true) (T : Array Value) : SF P (results fn T) := by
  unfold results
  have hl : ∀ (l : List ResultVar), (l.all fun | .tmp _ => true | _ => false) = true → SF P (l.mapM fun
    | .tmp t => pure (T.getD t undef)
    | .cell a t => do loadVar t (← asAddr (T.getD a undef))) := by
    intro l
    induction l with
    | nil => intro _; rw [List.mapM_nil]; exact s_pure _
    | cons x l ih =>
      intro h
      simp only [List.all_cons, Bool.and_eq_true] at h
      rw [List.mapM_cons]
      cases x with
      | tmp t => exact sf_bind (s_pure _) fun _ => sf_bind (ih h.2) fun _ => s_pure _
      | cell a t => cases h.1
  rw [Array.mapM_eq_mapM_toList]
  refine sf_bind (sf_map _ (hl _ ?_)) fun _ => s_pure _
  unfold plainResults at h
  rwa [← Array.all_toList] at h
theorem tameFns_ok {fs : List FuncId} {ss es : List TypeId} (B : TameBase P fs ss es) (h : ∀ f ∈ fs, ∃ fn c, P.funcs[f]? = some fn ∧ fn.body = some c ∧ tameCode fs ss es c = true ∧ plainResults fn = true) : TameFns P (· ∈ fs) := fun f hf => by
  obtain ⟨fn, c, h1, h2, h3, h4⟩ := h f hf
  exact ⟨fn, c, h1, h2, tameCode_ok B h3, fun T => (s_results h4 T).sn⟩
end
end Go.Proofs.Ytmkjoojoaldljaa.Tm
