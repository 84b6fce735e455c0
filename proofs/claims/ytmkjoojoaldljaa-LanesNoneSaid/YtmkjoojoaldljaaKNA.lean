/-
  A part of the proof of LanesNone: joined by a program out of: NetA NetT NetC NetB NetS NetI NetG NetD NetE NetF NetH NetR.
-/
import Derived.Conc.WgGenN3
import Derived.Conc.CrowdSel
import Derived.Conc.TokenWalk
import Derived.Conc.CompanyMem
namespace Go.Proofs.Ytmkjoojoaldljaa.Net
open Go.Conc
open Go.ConcN (WgLive)
open Go.ConcR (KK wgBlock WgAt stA smA rd wr mk DC0)
structure Ctx where
  P : Program
  ty : TypeId
  Wg : Nat → Prop
  Dead : Nat → Prop
  lo : Nat
  t0 : Nat
structure Agree (X : Ctx) (S : Nat → Prop) (w w' : World) : Prop where
  tape : w'.tape = w.tape
  os : w'.os = w.os
  output : w'.output = w.output
  size : w.heap.size ≤ w'.heap.size
  blk : ∀ b, S b → w'.heap[b]? = w.heap[b]?
  live : ∀ b, X.Wg b → WgLive X.ty b w → WgLive X.ty b w'
def EvD (O S : Nat → Prop) (lo hi : Nat) (e : Event) : Prop :=
  (∃ a, e.loc = .cell a ∧ e.sync = false ∧ (O a.block ∨ (lo ≤ a.block ∧ a.block < hi) ∨ (S a.block ∧ e.write = false))) ∨ (∃ m, e.loc = .mark m ∧ Neutral m)
structure Does (X : Ctx) (O S : Nat → Prop) (w w' : World) (es : Array Event) : Prop where
  tape : w'.tape = w.tape
  os : w'.os = w.os
  output : w'.output = w.output
  size : w.heap.size ≤ w'.heap.size
  blk : ∀ b, b < w.heap.size → ¬ O b → w'.heap[b]? = w.heap[b]?
  live : ∀ b, X.Wg b → w'.heap[b]? = w.heap[b]?
  evs : ∀ e ∈ es, EvD O S w.heap.size w'.heap.size e
def OS (O S : Nat → Prop) (b : Nat) : Prop := O b ∨ S b
def grow (O : Nat → Prop) (lo hi : Nat) (b : Nat) : Prop := O b ∨ (lo ≤ b ∧ b < hi)
theorem grow_same (O : Nat → Prop) (n : Nat) : grow O n n = O := by
  funext b
  simp only [grow, eq_iff_iff]
  constructor
  · rintro (h | ⟨h1, h2⟩)
    · exact h
    · omega
  · exact .inl
section
variable {X : Ctx} {S S' : Nat → Prop} {w w' w'' : World}
theorem Agree.refl (X : Ctx) (S : Nat → Prop) (w : World) : Agree X S w w := ⟨rfl, rfl, rfl, Nat.le_refl _, fun _ _ => rfl, fun _ _ h => h⟩
theorem Agree.trans (h : Agree X S w w') (k : Agree X S w' w'') : Agree X S w w'' :=
  ⟨k.tape.trans h.tape, k.os.trans h.os, k.output.trans h.output, Nat.le_trans h.size k.size, fun b hb => (k.blk b hb).trans (h.blk b hb), fun b hb x => k.live b hb (h.live b hb x)⟩
theorem Agree.mono (h : Agree X S w w') (hs : ∀ b, S' b → S b) : Agree X S' w w' := ⟨h.tape, h.os, h.output, h.size, fun b hb => h.blk b (hs b hb), h.live⟩
theorem Agree.at (X : Ctx) (S : Nat → Prop) (w : World) (d : Nat) : Agree X S w (w.at d) := ⟨rfl, rfl, rfl, Nat.le_refl _, fun _ _ => rfl, fun _ _ h => h⟩
theorem wgLive_of_heap {ty : TypeId} {b : Nat} (h : w'.heap[b]? = w.heap[b]?) (x : WgLive ty b w) : WgLive ty b w' := by
  obtain ⟨st, sm, e⟩ := x
  exact ⟨st, sm, h.trans e⟩
theorem Does.agree {O S₁ : Nat → Prop} {es : Array Event} (h : Does X O S₁ w w' es) (hs : ∀ b, S b → b < w.heap.size ∧ ¬ O b) : Agree X S w w' :=
  ⟨h.tape, h.os, h.output, h.size, fun b hb => h.blk b (hs b hb).1 (hs b hb).2, fun b hb x => wgLive_of_heap (h.live b hb) x⟩
theorem Does.idle (X : Ctx) (O S : Nat → Prop) (w : World) : Does X O S w w #[] := ⟨rfl, rfl, rfl, Nat.le_refl _, fun _ _ _ => rfl, fun _ _ => rfl, by simp⟩
theorem Does.of_dc0 {O S : Nat → Prop} {es : Array Event} (h : DC0 w w' es) : Does X O S w w' es ∧ w'.heap.size = w.heap.size := by
  obtain ⟨rfl, rfl⟩ := h
  exact ⟨Does.idle _ _ _ _, rfl⟩
end
def Seg (X : Ctx) (main : Bool) (S : Nat → Prop) (Stop : (Nat → Prop) → Goroutine → World → Prop) : Nat → (Nat → Prop) → Goroutine → World → Prop
  | 0, O, g, w => ∀ w₁, Agree X (OS O S) w w₁ → Stop O g w₁
  | n + 1, O, g, w => (∀ w₁, Agree X (OS O S) w w₁ → Stop O g w₁) ∨
      (g.status = .running ∧ ∀ w₁, Agree X (OS O S) w w₁ → (stepG X.P main g w₁).goes fun g' w' es => Does X O S w₁ w' es ∧ Seg X main S Stop n (grow O w₁.heap.size w'.heap.size) g' w')
section
variable {X : Ctx} {main : Bool} {S : Nat → Prop} {Stop Stop' : (Nat → Prop) → Goroutine → World → Prop}
theorem Seg.stop {n : Nat} {O : Nat → Prop} {g : Goroutine} {w : World} (h : ∀ w₁, Agree X (OS O S) w w₁ → Stop O g w₁) : Seg X main S Stop n O g w := by
  cases n with
  | zero => exact h
  | succ n => exact .inl h
theorem Seg.step {n : Nat} {O : Nat → Prop} {g : Goroutine} {w : World} (hs : g.status = .running)
    (h : ∀ w₁, Agree X (OS O S) w w₁ → (stepG X.P main g w₁).goes fun g' w' es => Does X O S w₁ w' es ∧ Seg X main S Stop n (grow O w₁.heap.size w'.heap.size) g' w') : Seg X main S Stop (n + 1) O g w := .inr ⟨hs, h⟩
theorem Seg.rely {n : Nat} {O : Nat → Prop} {g : Goroutine} {w w₁ : World} (h : Seg X main S Stop n O g w) (r : Agree X (OS O S) w w₁) : Seg X main S Stop n O g w₁ := by
  cases n with
  | zero => exact fun w₂ h₂ => h w₂ (r.trans h₂)
  | succ n =>
    rcases h with h | ⟨hs, h⟩
    · exact .inl fun w₂ h₂ => h w₂ (r.trans h₂)
    · exact .inr ⟨hs, fun w₂ h₂ => h w₂ (r.trans h₂)⟩
theorem goes_imp {s : GStep} {K K' : Goroutine → World → Array Event → Prop} (h : s.goes K) (hk : ∀ g w es, K g w es → K' g w es) : s.goes K' := by
  cases s <;> first | exact hk _ _ _ h | exact h.elim
theorem Seg.more {n : Nat} {O : Nat → Prop} {g : Goroutine} {w : World} (h : Seg X main S Stop n O g w) : Seg X main S Stop (n + 1) O g w := by
  induction n generalizing O g w with
  | zero => exact .inl h
  | succ n ih =>
    rcases h with h | ⟨hs, h⟩
    · exact .inl h
    · exact .inr ⟨hs, fun w₁ h₁ => goes_imp (h w₁ h₁) fun _ _ _ x => ⟨x.1, ih x.2⟩⟩
theorem Seg.le {n m : Nat} {O : Nat → Prop} {g : Goroutine} {w : World} (h : Seg X main S Stop n O g w) (hm : n ≤ m) : Seg X main S Stop m O g w := by
  induction hm with
  | refl => exact h
  | step _ ih => exact ih.more
theorem Seg.mono {n : Nat} {O : Nat → Prop} {g : Goroutine} {w : World} (h : Seg X main S Stop n O g w) (hs : ∀ O g w, Stop O g w → Stop' O g w) : Seg X main S Stop' n O g w := by
  induction n generalizing O g w with
  | zero => exact fun w₁ h₁ => hs _ _ _ (h w₁ h₁)
  | succ n ih =>
    rcases h with h | ⟨hr, h⟩
    · exact .inl fun w₁ h₁ => hs _ _ _ (h w₁ h₁)
    · exact .inr ⟨hr, fun w₁ h₁ => goes_imp (h w₁ h₁) fun _ _ _ x => ⟨x.1, ih x.2⟩⟩
theorem Seg.then {n m : Nat} {O : Nat → Prop} {g : Goroutine} {w : World} (h : Seg X main S Stop n O g w) (hs : ∀ O g w, Stop O g w → Seg X main S Stop' m O g w) : Seg X main S Stop' (n + m) O g w := by
  induction n generalizing O g w with
  | zero => rw [Nat.zero_add]; exact hs _ _ _ (h w (Agree.refl _ _ _))
  | succ n ih =>
    rcases h with h | ⟨hr, h⟩
    · exact (hs _ _ _ (h w (Agree.refl _ _ _))).le (by omega)
    · rw [Nat.add_right_comm]
      exact .inr ⟨hr, fun w₁ h₁ => goes_imp (h w₁ h₁) fun _ _ _ x => ⟨x.1, ih x.2⟩⟩
theorem Seg.of_goes {R : World → World → Prop} {D : World → World → Array Event → Prop} {StopG : Goroutine → World → Prop} {n m : Nat} {O : Nat → Prop} {g : Goroutine} {w : World}
    (h : Goes X.P main R D StopG n g w) (hR : ∀ w w₁, Agree X (OS O S) w w₁ → R w w₁) (hD : ∀ w w' es, D w w' es → Does X O S w w' es ∧ w'.heap.size = w.heap.size)
    (hS : ∀ g w, StopG g w → Seg X main S Stop m O g w) : Seg X main S Stop (n + m) O g w := by
  induction n generalizing g w with
  | zero => rw [Nat.zero_add]; exact hS _ _ (h w (hR _ _ (Agree.refl _ _ _)))
  | succ n ih =>
    rcases h with h | ⟨hr, h⟩
    · exact (hS _ _ (h w (hR _ _ (Agree.refl _ _ _)))).le (by omega)
    · rw [Nat.add_right_comm]
      refine .inr ⟨hr, fun w₁ h₁ => goes_imp (h w₁ (hR _ _ h₁)) fun g' w' es x => ?_⟩
      obtain ⟨hd, hsz⟩ := hD _ _ _ x.1
      refine ⟨hd, ?_⟩
      rw [hsz, grow_same]
      exact ih x.2
theorem Seg.of_dc0 {StopG : Goroutine → World → Prop} {n m : Nat} {O : Nat → Prop} {g : Goroutine} {w : World}
    (h : Goes X.P main (Agree X (OS O S)) DC0 StopG n g w) (hS : ∀ g w, StopG g w → Seg X main S Stop m O g w) : Seg X main S Stop (n + m) O g w :=
  Seg.of_goes h (fun _ _ x => x) (fun _ _ _ x => Does.of_dc0 x) hS
theorem Seg.running {n : Nat} {O : Nat → Prop} {g : Goroutine} {w : World} (h : Seg X main S Stop n O g w) (hs : ∀ O g w, Stop O g w → g.status = .running) : g.status = .running := by
  cases n with
  | zero => exact hs _ _ _ (h w (Agree.refl _ _ _))
  | succ n =>
    rcases h with h | ⟨hr, _⟩
    · exact hs _ _ _ (h w (Agree.refl _ _ _))
    · exact hr
end
theorem goes_then {P : Program} {main : Bool} {R : World → World → Prop} {D : World → World → Array Event → Prop} {Stop Stop' : Goroutine → World → Prop} {n m : Nat} {g : Goroutine} {w : World} (hr : ∀ w, R w w)
    (h : Goes P main R D Stop n g w) (hs : ∀ g w, Stop g w → Goes P main R D Stop' m g w) : Goes P main R D Stop' (n + m) g w := by
  induction n generalizing g w with
  | zero => rw [Nat.zero_add]; exact hs _ _ (h w (hr w))
  | succ n ih =>
    rcases h with h | ⟨hrun, h⟩
    · exact Goes.mono (hs _ _ (h w (hr w))) (by omega)
    · rw [Nat.add_right_comm]
      exact .inr ⟨hrun, fun w₁ h₁ => goes_imp (h w₁ h₁) fun _ _ _ x => ⟨x.1, ih x.2⟩⟩
section
variable (P : Program) (ty : TypeId) (main : Bool) (R : World → World → Prop) (wg : Nat)
def AtA3 (Next : Goroutine → World → Prop) (g : Goroutine) (w : World) : Prop :=
  g.status = .running ∧ ∃ g', stepG P main g w = .go g' w #[mk .enable] ∧ ∃ m, Goes P main R DC0 Next m g' w
def AtA2 (Next : Goroutine → World → Prop) (g : Goroutine) (w : World) : Prop :=
  g.status = .running ∧ ∃ g', stepG P main g w = .go g' w #[mk (.read (smA wg))] ∧ ∃ m, Goes P main R DC0 (AtA3 P main R Next) m g' w
def AtA1 (δ : Nat) (Next : Goroutine → World → Prop) (g : Goroutine) (w : World) : Prop :=
  g.status = .running ∧ ∀ v : Nat, v + δ < 2147483648 → WgAt ty wg w (v * KK) 0 →
    ∃ g', stepG P main g w = .go g' (w.setCell (stA wg) (.int .u64 ((v + δ : Nat) * KK))) #[rd (stA wg), wr (stA wg)] ∧
      (v = 0 → ∃ m, Goes P main R DC0 (AtA2 P main R wg Next) m g' (w.setCell (stA wg) (.int .u64 ((v + δ : Nat) * KK)))) ∧ (v ≠ 0 → ∃ m, Goes P main R DC0 (AtA3 P main R Next) m g' (w.setCell (stA wg) (.int .u64 ((v + δ : Nat) * KK))))
def AtA0 (δ : Nat) (Next : Goroutine → World → Prop) (g : Goroutine) (w : World) : Prop :=
  g.status = .running ∧ ∃ g', stepG P main g w = .go g' w #[mk .disable] ∧ ∃ m, Goes P main R DC0 (AtA1 P ty main R wg δ Next) m g' w
def AtAcq (Next : Goroutine → World → Prop) (g : Goroutine) (w : World) : Prop :=
  g.status = .running ∧ ∃ g', stepG P main g w = .go g' w #[mk (.acquire (stA wg))] ∧ ∃ m, Goes P main R DC0 Next m g' w
def AtKe (Next : Goroutine → World → Prop) (g : Goroutine) (w : World) : Prop :=
  g.status = .running ∧ ∃ g', stepG P main g w = .go g' w #[mk .enable] ∧ ∃ m, Goes P main R DC0 (AtAcq P main R wg Next) m g' w
def AtW4 (Next : Goroutine → World → Prop) (g : Goroutine) (w : World) : Prop :=
  g.status = .running ∧ (WgAt ty wg w 0 0 → ∃ g', stepG P main g w = .go g' w #[rd (stA wg)] ∧ ∃ m, Goes P main R DC0 (AtKe P main R wg Next) m g' w)
def AtW3 (Next : Goroutine → World → Prop) (g : Goroutine) (w : World) : Prop :=
  g.status = .running ∧ g.offers = none ∧
    ((∃ st, WgAt ty wg w st 0) → stepG P main g w = .go { g with status := .blocked } w #[]) ∧
    (WgAt ty wg w 0 1 → ∃ g', stepG P main g w = .go g' (w.setCell (smA wg) (.int .u32 0)) (semEvents (smA wg)) ∧ ∃ m, Goes P main R DC0 (AtW4 P ty main R wg Next) m g' (w.setCell (smA wg) (.int .u32 0)))
def AtWr (Next : Goroutine → World → Prop) (g : Goroutine) (w : World) : Prop :=
  g.status = .running ∧ ∃ g', stepG P main g w = .go g' w #[mk (.write (smA wg))] ∧ ∃ m, Goes P main R DC0 (AtW3 P ty main R wg Next) m g' w
def AtW2 (Anch Next : Goroutine → World → Prop) (vs : Nat) (g : Goroutine) (w : World) : Prop :=
  g.status = .running ∧ ∀ v : Nat, v < 2147483648 → WgAt ty wg w (v * KK) 0 →
    (v = vs → ∃ g', stepG P main g w = .go g' (w.setCell (stA wg) (.int .u64 (v * KK + 1))) #[rd (stA wg), wr (stA wg)] ∧ ∃ m, Goes P main R DC0 (AtWr P ty main R wg Next) m g' (w.setCell (stA wg) (.int .u64 (v * KK + 1)))) ∧
    (v ≠ vs → ∃ g', stepG P main g w = .go g' w #[rd (stA wg)] ∧ ∃ m, Goes P main R DC0 Anch m g' w)
def AtW1 (Anch Next : Goroutine → World → Prop) (g : Goroutine) (w : World) : Prop :=
  g.status = .running ∧ ∀ v : Nat, v < 2147483648 → WgAt ty wg w (v * KK) 0 → ∃ g', stepG P main g w = .go g' w #[rd (stA wg)] ∧
    (v = 0 → ∃ m, Goes P main R DC0 (AtKe P main R wg Next) m g' w) ∧ (v ≠ 0 → ∃ m, Goes P main R DC0 (AtW2 P ty main R wg Anch Next v) m g' w)
def AnchOk (Anch Next : Goroutine → World → Prop) : Prop := ∃ m, ∀ g w, Anch g w → Goes P main R DC0 (AtW1 P ty main R wg Anch Next) m g w
def AtKd (Next : Goroutine → World → Prop) (g : Goroutine) (w : World) : Prop :=
  ∃ Anch, AnchOk P ty main R wg Anch Next ∧ g.status = .running ∧ ∃ g', stepG P main g w = .go g' w #[mk .disable] ∧ ∃ m, Goes P main R DC0 Anch m g' w
end
section
variable (P : Program) (ty : TypeId) (R : World → World → Prop) (wg : Nat)
def AtD4 (g : Goroutine) (w : World) : Prop :=
  g.status = .running ∧ mayWake P g = true ∧ (WgAt ty wg w 0 0 → ∃ g', stepG P false g w = .go g' (w.setCell (smA wg) (.int .u32 1)) (semEvents (smA wg)) ∧ ∃ q, QuitsD P q 1 g')
def AtD3 (g : Goroutine) (w : World) : Prop :=
  g.status = .running ∧ (WgAt ty wg w 1 0 → ∃ g', stepG P false g w = .go g' (w.setCell (stA wg) (.int .u64 0)) #[wr (stA wg)] ∧ ∃ m, Goes P false R DC0 (AtD4 P ty wg) m g' (w.setCell (stA wg) (.int .u64 0)))
def AtD2 (g : Goroutine) (w : World) : Prop :=
  g.status = .running ∧ (WgAt ty wg w 1 0 → ∃ g', stepG P false g w = .go g' w #[rd (stA wg)] ∧ ∃ m, Goes P false R DC0 (AtD3 P ty R wg) m g' w)
def AtD1 (g : Goroutine) (w : World) : Prop :=
  g.status = .running ∧ ∀ v wt : Nat, wt ≤ 1 → v < 2147483647 → WgAt ty wg w ((v + 1 : Nat) * KK + wt) 0 →
    ∃ g', stepG P false g w = .go g' (w.setCell (stA wg) (.int .u64 (v * KK + wt))) #[rd (stA wg), wr (stA wg)] ∧
      ((v = 0 ∧ wt = 1) → ∃ m, Goes P false R DC0 (AtD2 P ty R wg) m g' (w.setCell (stA wg) (.int .u64 (v * KK + wt)))) ∧ (¬ (v = 0 ∧ wt = 1) → ∃ q, QuitsD P q 1 g')
def AtK1 (g : Goroutine) (w : World) : Prop :=
  g.status = .running ∧ ∃ g', stepG P false g w = .go g' w #[mk .disable] ∧ ∃ m, Goes P false R DC0 (AtD1 P ty R wg) m g' w
def AtR0 (g : Goroutine) (w : World) : Prop :=
  g.status = .running ∧ ∃ g', stepG P false g w = .go g' w #[mk (.releaseMerge (stA wg))] ∧ ∃ m, Goes P false R DC0 (AtK1 P ty R wg) m g' w
end
inductive Script : Type
  | snd (c : Nat) (v : Value) (k : Script)
  | rcv (c : Nat) (ok : Value → Prop) (k : Value → Script) (kc : Script)
  | cls (c : Nat) (k : Script)
  | add (wg δ : Nat) (k : Script)
  | don (wg : Nat)
  | wai (wg : Nat) (k : Script)
  | spw (cs ws : Nat → Prop) (child : Script) (k : Script)
  | ret (Fin : (Nat → Prop) → Goroutine → World → Prop)
def StopOf (X : Ctx) : Script → Bool → (Nat → Prop) → (Nat → Prop) → Goroutine → World → Prop
  | .snd c v k, main, S, O, g, w =>
    g.status = .running ∧ ∃ cases kk sh z, stepG X.P main g w = .comm (core g) cases true sh w #[] ∧ cases[kk]? = some (scase c v z) ∧
      (∀ (m : Nat) (cc : CommCase), m ≠ kk → cases[m]? = some cc → ∃ d z', X.Dead d ∧ cc = rcase d z') ∧
      ∀ w₂, Agree X (OS O S) w w₂ → ∃ n, Seg X main S (StopOf X k main S) n O ((core g).finishComm X.P cases sh kk undef false) w₂
  | .rcv c ok k kc, main, S, O, g, w =>
    g.status = .running ∧ ∃ z, stepG X.P main g w = .comm (core g) #[rcase c z] true (.recv true) w #[] ∧
      (∀ w₂ v, Agree X (OS O S) w w₂ → ok v → ∃ n, Seg X main S (StopOf X (k v) main S) n O (Conc.served (core g) (.tuple #[v, .bool true])) w₂) ∧
      ∀ w₂, Agree X (OS O S) w w₂ → ∃ n, Seg X main S (StopOf X kc main S) n O (Conc.served (core g) (.tuple #[z, .bool false])) w₂
  | .cls c k, main, S, O, g, w =>
    g.status = .running ∧ mayWake X.P g = true ∧ ∀ s r, w.heap[c]? = some (.chan 0 #[] false s r false) →
      ∃ g', stepG X.P main g w = .go g' (w.setChan c 0 #[] true s r false) (closeEvents c) ∧ g'.status = .running ∧ ∃ n, Seg X main S (StopOf X k main S) n O g' (w.setChan c 0 #[] true s r false)
  | .add wg δ k, main, S, O, g, w =>
    g.status = .running ∧ ∃ n, AtA0 X.P X.ty main (Agree X (OS O S)) wg δ (fun g w => Seg X main S (StopOf X k main S) n O g w) g w
  | .don wg, main, S, O, g, w => main = false ∧ AtR0 X.P X.ty (Agree X (OS O S)) wg g w
  | .wai wg k, main, S, O, g, w =>
    g.status = .running ∧ ∃ n, AtKd X.P X.ty main (Agree X (OS O S)) wg (fun g w => Seg X main S (StopOf X k main S) n O g w) g w
  | .spw cs _ s k, main, S, O, g, w =>
    g.status = .running ∧ main = true ∧ ∃ g' child, stepG X.P main g w = .spawn g' child w #[] ∧ ∃ O' Sc : Nat → Prop,
      (∀ b, O' b → O b) ∧ (∀ b, cs b → O b ∧ ¬ O' b ∧ ¬ Sc b ∧ X.lo ≤ b ∧ w.heap[b]? = some (.chan 0 #[] false 0 0 false)) ∧ (∀ b, Sc b → (O b ∨ S b) ∧ ¬ O' b) ∧
      (∃ n, Seg X false Sc (StopOf X s false Sc) n (fun _ => False) child w) ∧
      ∃ n, Seg X main (fun b => (O b ∨ S b) ∧ ¬ O' b ∧ ¬ cs b) (StopOf X k main (fun b => (O b ∨ S b) ∧ ¬ O' b ∧ ¬ cs b)) n O' g' w
  | .ret Fin, _, _, O, g, w => g.status = .running ∧ Fin O g w
theorem StopOf.running {X : Ctx} {s : Script} {main : Bool} {S O : Nat → Prop} {g : Goroutine} {w : World} (h : StopOf X s main S O g w) : g.status = .running := by
  cases s with
  | don wg => exact h.2.1
  | _ => exact h.1
end Go.Proofs.Ytmkjoojoaldljaa.Net
namespace Go.Proofs.Ytmkjoojoaldljaa.Net
open Go.Conc
open Go.ConcN (PermW fork_knows)
open Go.ConcR (stA smA)
structure Sep (X : Ctx) (n : Nat) (own fz : Nat → Nat → Prop) (ch : Nat → Prop) (hi : Nat) : Prop where
  ownOwn : ∀ i j b, i < n → j < n → own i b → own j b → i = j
  ownFz : ∀ i j b, i < n → j < n → own i b → ¬ fz j b
  ownWg : ∀ i b, i < n → own i b → ¬ X.Wg b
  fzWg : ∀ i b, i < n → fz i b → ¬ X.Wg b
  ownCh : ∀ i b, i < n → own i b → ¬ ch b
  fzCh : ∀ i b, i < n → fz i b → ¬ ch b
  wgCh : ∀ b, X.Wg b → ¬ ch b
  ownLt : ∀ i b, i < n → own i b → b < hi
  fzLt : ∀ i b, i < n → fz i b → b < hi
  wgLt : ∀ b, X.Wg b → b < hi
  chLt : ∀ b, ch b → b < hi
  chLo : ∀ b, ch b → X.lo ≤ b
def NoRel (X : Ctx) (wg : Nat) (t : Trace) : Prop := ∀ k, X.t0 ≤ k → t.act? k ≠ some (.mark (.release (stA wg)))
theorem NoRel.app {X : Ctx} {wg : Nat} {t u : Trace} (h : NoRel X wg t) (hu : ∀ op ∈ u, op.act ≠ .mark (.release (stA wg))) : NoRel X wg (t ++ u) := by
  intro k hk e
  obtain ⟨op, hop, e'⟩ := Option.map_eq_some_iff.1 e
  rcases getElem?_append_cases hop with ⟨_, h'⟩ | ⟨_, h'⟩
  · exact h k hk (by rw [act?_of h', e'])
  · exact hu op h' e'
structure TI (X : Ctx) (b0 n : Nat) (Shun : Loc → Prop) (own fz : Nat → Nat → Prop) (ch : Nat → Prop) (wtr : Nat → Nat) (hi : Nat) (t : Trace) : Prop where
  clean : ∀ said, ¬ Race said t
  own : ∀ i, i < n → ∀ a : Addr, own i a.block → Perm t i (.cell a)
  fz : ∀ i, i < n → ∀ a : Addr, fz i a.block → PermW t i (.cell a)
  wg : ∀ a : Addr, X.Wg a.block → ∀ i x, touchAt t i = some x → x.loc = .cell a → (x.kind = .plain → ∀ k, k < n → (k = 0 ∨ b0 ≤ k) → Knows t k i) ∧ (x.kind = .said → Knows t (wtr a.block) i)
  ch : ∀ c, X.lo ≤ c → ∀ i x, touchAt t i = some x → x.loc = .obj c → x.kind ≠ .atomic → ∀ k, k < n → (k = 0 ∨ b0 ≤ k) → Knows t k i
  low : ∀ op ∈ t, op.act.low hi
  gs : ∀ (k : Nat) (op : MemOp), X.t0 ≤ k → t[k]? = some op → op.g < n
  old : ∀ i x g, touchAt t i = some x → x.loc.isMemory = true → t.g? i = some g → (i < X.t0 ∨ g < b0) → Knows t 0 i ∨ (Shun x.loc ∧ x.kind = .atomic)
  over : ∀ i g, t.g? i = some g → g ≠ 0 → (i < X.t0 ∨ g < b0) → t.counts i → Knows t 0 i
  nor : ∀ b, X.Wg b → NoRel X b t
  t0 : X.t0 ≤ t.size
def OpOk (X : Ctx) (own fz : Nat → Nat → Prop) (ch : Nat → Prop) (wtr : Nat → Nat) (hi hi' i : Nat) (op : MemOp) : Prop :=
  op.g = i ∧ op.act.low hi' ∧ (∀ b, X.Wg b → op.act ≠ .mark (.release (stA b))) ∧ ∀ x, op.act.touch? = some x →
    (∃ a, x.loc = .cell a ∧ (own i a.block ∨ hi ≤ a.block)) ∨ (∃ a, x.loc = .cell a ∧ fz i a.block ∧ x.write = false) ∨
    (∃ a, x.loc = .cell a ∧ X.Wg a.block ∧ x.kind ≠ .plain ∧ (x.kind = .said → wtr a.block = i)) ∨ (∃ c, x.loc = .obj c ∧ ch c ∧ x.kind = .atomic)
section
variable {X : Ctx} {b0 n : Nat} {Shun : Loc → Prop} {own fz : Nat → Nat → Prop} {ch : Nat → Prop} {wtr : Nat → Nat} {hi hi' : Nat} {t u : Trace}
theorem low_of_touch {op : MemOp} {x : Touch} {a : Addr} {B : Nat} (hl : op.act.low B) (hx : op.act.touch? = some x) (ha : x.loc = .cell a) : a.block < B := by
  revert hl hx
  cases op.act with
  | access e =>
    intro hl hx
    simp only [MemAct.touch?, Option.some.injEq] at hx
    subst hx
    simp only at ha
    simp only [MemAct.low, ha] at hl
    exact hl
  | mark m =>
    intro hl hx
    cases m <;> simp only [MemAct.touch?] at hx
    case read b => simp only [Option.some.injEq] at hx; subst hx; cases ha; exact hl
    case write b => simp only [Option.some.injEq] at hx; subst hx; cases ha; exact hl
    all_goals cases hx
  | _ => intro _ hx; cases hx
theorem TI.low_touch (h : TI X b0 n Shun own fz ch wtr hi t) {i : Nat} {x : Touch} {a : Addr} (hx : touchAt t i = some x) (ha : x.loc = .cell a) : a.block < hi := by
  obtain ⟨op, hop, hox⟩ := touch_of hx
  exact low_of_touch (h.low op (mem_of_getElem? hop)) hox ha
theorem TI.low_obj (h : TI X b0 n Shun own fz ch wtr hi t) {i : Nat} {x : Touch} {c : Nat} (hx : touchAt t i = some x) (ha : x.loc = .obj c) : c < hi := by
  obtain ⟨op, hop, hox⟩ := touch_of hx
  have hl := h.low op (mem_of_getElem? hop)
  revert hl hox
  cases op.act with
  | access e =>
    intro hox hl
    simp only [MemAct.touch?, Option.some.injEq] at hox
    subst hox
    simp only at ha
    simp only [MemAct.low, ha] at hl
    exact hl
  | mark m =>
    intro hox hl
    cases m <;> simp only [MemAct.touch?] at hox
    case read b => simp only [Option.some.injEq] at hox; subst hox; cases ha
    case write b => simp only [Option.some.injEq] at hox; subst hox; cases ha
    all_goals cases hox
  | _ => intro hox _; cases hox
theorem getElem?_app {i : Nat} {op : MemOp} (h : (t ++ u)[i]? = some op) : (i < t.size ∧ t[i]? = some op) ∨ (t.size ≤ i ∧ op ∈ u) := getElem?_append_cases h
theorem touchAt_app {i : Nat} {x : Touch} (h : touchAt (t ++ u) i = some x) : (i < t.size ∧ touchAt t i = some x) ∨ (t.size ≤ i ∧ ∃ op ∈ u, (t ++ u)[i]? = some op ∧ op.act.touch? = some x) := by
  obtain ⟨op, hop, hox⟩ := touch_of h
  rcases getElem?_app hop with ⟨hi, h'⟩ | ⟨hi, hu⟩
  · exact .inl ⟨hi, by rw [touchAt_of h']; exact hox⟩
  · exact .inr ⟨hi, op, hu, hop, hox⟩
theorem TI.app (S : Sep X n own fz ch hi) (h : TI X b0 n Shun own fz ch wtr hi t) (hh : hi ≤ hi') {i : Nat} (hin : i < n) (hb : i = 0 ∨ b0 ≤ i)
    (hu : ∀ op ∈ u, OpOk X own fz ch wtr hi hi' i op) : TI X b0 n Shun (ConcN.upd own i (grow (own i) hi hi')) fz ch wtr hi' (t ++ u) := by
  have hg : ∀ op ∈ u, op.g = i := fun op hop => (hu op hop).1
  have nt : ∀ (j : Nat) (x : Touch), t.size ≤ j → (∃ op ∈ u, (t ++ u)[j]? = some op ∧ op.act.touch? = some x) → Knows (t ++ u) i j := by
    rintro j x _ ⟨op, hop, hj, _⟩
    have := knows_own hj
    rwa [hg op hop] at this
  refine ⟨fun said => ?_, fun k hk a ha => ?_, fun k hk a ha => ?_, fun a ha j x hx hl => ?_, fun c hc j x hx hl => ?_, fun op hop => ?_, fun k op hk hop => ?_, fun j x g hx hm hjg hgb => ?_, fun j g hjg hg0 hgb hc => ?_, fun b hb => ?_, ?_⟩
  ·
    refine noRace_append (h.clean said) hg fun j a ha op hop b hb' hc => ?_
    rcases (hu op hop).2.2.2 b hb' with ⟨ad, hl, ho⟩ | ⟨ad, hl, hf, hw⟩ | ⟨ad, hl, hw, hk, hs⟩ | ⟨c, hl, hch, hk⟩
    · rcases ho with ho | ho
      · exact h.own i hin ad ho j a ha (hc.1.trans hl)
      · have := h.low_touch ha (hc.1.trans hl)
        omega
    · exact h.fz i hin ad hf j a ha (hc.1.trans hl) (hc.2.2.1.resolve_right (by simp [hw]))
    · obtain ⟨h1, h2⟩ := h.wg ad hw j a ha (hc.1.trans hl)
      rcases hc.2.2.2 with x | x | ⟨_, x, y⟩
      · exact h1 x i hin hb
      · exact absurd x hk
      · have := h2 x
        rwa [hs y] at this
    · have h1 := h.ch c (S.chLo c hch) j a ha (hc.1.trans hl)
      rcases hc.2.2.2 with x | x | ⟨_, x, _⟩
      · exact h1 (by rw [x]; simp) i hin hb
      · rw [hk] at x; cases x
      · exact h1 (by rw [x]; simp) i hin hb
  ·
    by_cases hki : k = i
    · subst hki
      rw [ConcN.upd_same] at ha
      intro j x hx hl
      rcases touchAt_app hx with ⟨hj, hx'⟩ | ⟨hj, e⟩
      · rcases ha with ha | ⟨ha, _⟩
        · exact (h.own k hk a ha j x hx' hl).app u
        · have := h.low_touch hx' hl
          omega
      · exact nt j x hj e
    · rw [ConcN.upd_ne own (grow (own i) hi hi') hki] at ha
      intro j x hx hl
      rcases touchAt_app hx with ⟨hj, hx'⟩ | ⟨hj, op, hop, _, hox⟩
      · exact (h.own k hk a ha j x hx' hl).app u
      · exfalso
        rcases (hu op hop).2.2.2 x hox with ⟨ad, hl', ho⟩ | ⟨ad, hl', hf, _⟩ | ⟨ad, hl', hw, _⟩ | ⟨c, hl', _⟩
        · rw [hl] at hl'; cases hl'
          rcases ho with ho | ho
          · exact hki (S.ownOwn k i _ hk hin ha ho)
          · have := S.ownLt k _ hk ha
            omega
        · rw [hl] at hl'; cases hl'
          exact S.ownFz k i _ hk hin ha hf
        · rw [hl] at hl'; cases hl'
          exact S.ownWg k _ hk ha hw
        · rw [hl] at hl'; cases hl'
  ·
    intro j x hx hl hw
    rcases touchAt_app hx with ⟨hj, hx'⟩ | ⟨hj, op, hop, hjo, hox⟩
    · exact (h.fz k hk a ha j x hx' hl hw).app u
    · exfalso
      rcases (hu op hop).2.2.2 x hox with ⟨ad, hl', ho⟩ | ⟨ad, hl', hf, hw'⟩ | ⟨ad, hl', hw', _⟩ | ⟨c, hl', _⟩
      · rw [hl] at hl'; cases hl'
        rcases ho with ho | ho
        · exact S.ownFz i k _ hin hk ho ha
        · have := S.fzLt k _ hk ha
          omega
      · rw [hw'] at hw; cases hw
      · rw [hl] at hl'; cases hl'
        exact S.fzWg k _ hk ha hw'
      · rw [hl] at hl'; cases hl'
  ·
    rcases touchAt_app hx with ⟨hj, hx'⟩ | ⟨hj, op, hop, hjo, hox⟩
    · obtain ⟨h1, h2⟩ := h.wg a ha j x hx' hl
      exact ⟨fun e k hk hb' => (h1 e k hk hb').app u, fun e => (h2 e).app u⟩
    · rcases (hu op hop).2.2.2 x hox with ⟨ad, hl', ho⟩ | ⟨ad, hl', hf, _⟩ | ⟨ad, hl', _, hk, hs⟩ | ⟨c, hl', _⟩
      · rw [hl] at hl'; cases hl'
        rcases ho with ho | ho
        · exact absurd ha (S.ownWg i _ hin ho)
        · have := S.wgLt _ ha
          omega
      · rw [hl] at hl'; cases hl'
        exact absurd ha (S.fzWg i _ hin hf)
      · rw [hl] at hl'; cases hl'
        refine ⟨fun e => absurd e hk, fun e => ?_⟩
        rw [hs e]
        exact nt j x hj ⟨op, hop, hjo, hox⟩
      · rw [hl] at hl'; cases hl'
  ·
    rcases touchAt_app hx with ⟨hj, hx'⟩ | ⟨hj, op, hop, _, hox⟩
    · exact fun e k hk hb' => (h.ch c hc j x hx' hl e k hk hb').app u
    · rcases (hu op hop).2.2.2 x hox with ⟨ad, hl', _⟩ | ⟨ad, hl', _⟩ | ⟨ad, hl', _⟩ | ⟨c', hl', _, hk⟩
      · rw [hl] at hl'; cases hl'
      · rw [hl] at hl'; cases hl'
      · rw [hl] at hl'; cases hl'
      · exact fun e => absurd hk e
  · rcases Array.mem_append.1 hop with h' | h'
    · exact MemAct.low_mono hh (h.low op h')
    · exact (hu op h').2.1
  · rcases getElem?_app hop with ⟨_, h'⟩ | ⟨_, h'⟩
    · exact h.gs k op hk h'
    · rw [hg op h']; exact hin
  · rcases touchAt_app hx with ⟨hj, hx'⟩ | ⟨hj, op, hop, hjo, hox⟩
    · exact (h.old j x g hx' hm (by rw [← g?_old (u := u) hj]; exact hjg) hgb).imp (·.app u) id
    · have e : g = i := by simpa [Trace.g?, hjo, hg op hop] using hjg.symm
      subst e
      rcases hb with rfl | hb
      · exact .inl (nt j x hj ⟨op, hop, hjo, hox⟩)
      · have := h.t0; omega
  · obtain ⟨x, hx, hxx⟩ := hc
    rcases touchAt_app (show touchAt (t ++ u) j = some x from hx) with ⟨hj, hx'⟩ | ⟨hj, op, hop, hjo, hox⟩
    · exact (h.over j g (by rw [← g?_old (u := u) hj]; exact hjg) hg0 hgb ((counts_old hj).1 ⟨x, hx, hxx⟩)).app u
    · have e : g = i := by simpa [Trace.g?, hjo, hg op hop] using hjg.symm
      subst e
      rcases hb with rfl | hb
      · exact absurd rfl hg0
      · have := h.t0; omega
  · exact (h.nor b hb).app fun op hop => (hu op hop).2.2.1 b hb
  · have := h.t0; simp; omega
theorem TI.app_mute (h : TI X b0 n Shun own fz ch wtr hi t) (hg : ∀ op ∈ u, op.g < n) (ht : ∀ op ∈ u, op.act.touch? = none) (hl : ∀ op ∈ u, op.act.low hi)
    (hr : ∀ op ∈ u, ∀ b, X.Wg b → op.act ≠ .mark (.release (stA b))) : TI X b0 n Shun own fz ch wtr hi (t ++ u) := by
  have nt : ∀ {i : Nat} {x : Touch}, touchAt (t ++ u) i = some x → i < t.size ∧ touchAt t i = some x := by
    intro i x hx
    rcases touchAt_app hx with h' | ⟨_, op, hop, _, hox⟩
    · exact h'
    · rw [ht op hop] at hox; cases hox
  have key : ∀ (l : List MemOp) (t' : Trace), (∀ said, ¬ Race said t') → (∀ op ∈ l, op.act.touch? = none) → ∀ said, ¬ Race said (t' ++ l.toArray) := by
    intro l
    induction l with
    | nil => intro t' h' _ said; simpa using h' said
    | cons y l ih =>
      intro t' h' hl' said
      have e : t' ++ (y :: l).toArray = (t' ++ #[y]) ++ l.toArray := by apply Array.ext'; simp
      rw [e]
      exact ih _ (fun said' => noRace_append (g := y.g) (h' said') (fun op hop => by simp at hop; rw [hop]) fun i a _ op hop b hb _ => by
        simp at hop
        rw [hop, hl' y (by simp)] at hb
        cases hb) (fun op hop => hl' op (by simp [hop])) said
  refine ⟨fun said => by simpa using key u.toList t h.clean (fun op hop => ht op (by simpa using hop)) said, fun k hk a ha j x hx hl => ((h.own k hk a ha j x (nt hx).2 hl).app u), fun k hk a ha j x hx hl hw => ((h.fz k hk a ha j x (nt hx).2 hl hw).app u),
    fun a ha j x hx hl => ⟨fun e k hk hb => ((h.wg a ha j x (nt hx).2 hl).1 e k hk hb).app u, fun e => ((h.wg a ha j x (nt hx).2 hl).2 e).app u⟩, fun c hc j x hx hl e k hk hb => (h.ch c hc j x (nt hx).2 hl e k hk hb).app u, fun op hop => ?_, fun k op hk hop => ?_, fun j x g hx hm hjg hgb => ?_, fun j g hjg hg0 hgb hc => ?_, fun b hb => (h.nor b hb).app fun op hop => hr op hop b hb, by have := h.t0; simp; omega⟩
  · exact (Array.mem_append.1 hop).elim (h.low op) (hl op)
  · rcases getElem?_app hop with ⟨_, h'⟩ | ⟨_, h'⟩
    · exact h.gs k op hk h'
    · exact hg op h'
  · exact (h.old j x g (nt hx).2 hm (by rw [← g?_old (u := u) (nt hx).1]; exact hjg) hgb).imp (·.app u) id
  · obtain ⟨x, hx, hxx⟩ := hc
    have hj := (nt (show touchAt (t ++ u) j = some x from hx)).1
    exact (h.over j g (by rw [← g?_old (u := u) hj]; exact hjg) hg0 hgb ((counts_old hj).1 ⟨x, hx, hxx⟩)).app u
theorem TI.fork (h : TI X b0 n Shun own fz ch wtr hi t) {x y : MemOp} (hx : x.g = 0 ∧ x.act = .go n) (hy : y.g = n ∧ y.act = .start) (h0 : Deaf t 0 = 0) (hn : Deaf t n = 0) (n0 : 0 < n) (hb : b0 ≤ n)
    {own' fz' : Nat → Nat → Prop} {ch' : Nat → Prop} {wtr' : Nat → Nat} (hwt : ∀ b, X.Wg b → wtr' b = wtr b ∨ (wtr' b = n ∧ wtr b = 0))
    (ho : ∀ i, i < n → ∀ b, own' i b → own i b) (hon : ∀ b, own' n b → False) (hf : ∀ i, i < n → ∀ b, fz' i b → fz i b ∨ own i b) (hfn : ∀ b, fz' n b → fz 0 b ∨ own 0 b)
    (hlow : x.act.low hi ∧ y.act.low hi) :
    TI X b0 (n + 1) Shun own' fz' ch' wtr' hi (t ++ #[x, y]) := by
  have hm : ∀ op ∈ #[x, y], op.act.touch? = none := by
    intro op hop
    simp only [List.mem_toArray, List.mem_cons, List.not_mem_nil, or_false] at hop
    rcases hop with rfl | rfl
    · rw [hx.2]; rfl
    · rw [hy.2]; rfl
  have hr : ∀ op ∈ #[x, y], ∀ b, X.Wg b → op.act ≠ .mark (.release (stA b)) := by
    intro op hop b _
    simp only [List.mem_toArray, List.mem_cons, List.not_mem_nil, or_false] at hop
    rcases hop with rfl | rfl
    · rw [hx.2]; simp
    · rw [hy.2]; simp
  have nt : ∀ {i : Nat} {z : Touch}, touchAt (t ++ #[x, y]) i = some z → i < t.size ∧ touchAt t i = some z := by
    intro i z hz
    rcases touchAt_app hz with h' | ⟨_, op, hop, _, hox⟩
    · exact h'
    · rw [hm op hop] at hox; cases hox
  have h1 : TI { X with Wg := fun _ => False, lo := hi } b0 (n + 1) Shun (fun i b => i < n ∧ own i b) (fun i b => i < n ∧ fz i b) ch wtr hi t :=
    ⟨h.clean, fun i _ a ha => h.own i ha.1 a ha.2, fun i _ a ha => h.fz i ha.1 a ha.2, fun _ ha => ha.elim, fun c hc i x hx hl => absurd (h.low_obj hx hl) (Nat.not_lt.2 hc), h.low, fun k op hk hop => Nat.lt_succ_of_lt (h.gs k op hk hop), h.old, h.over, fun _ ha => ha.elim, h.t0⟩
  have h2 := h1.app_mute (u := #[x, y]) (by
    intro op hop
    simp only [List.mem_toArray, List.mem_cons, List.not_mem_nil, or_false] at hop
    rcases hop with rfl | rfl
    · rw [hx.1]; omega
    · rw [hy.1]; omega) hm (by
    intro op hop
    simp only [List.mem_toArray, List.mem_cons, List.not_mem_nil, or_false] at hop
    rcases hop with rfl | rfl
    · exact hlow.1
    · exact hlow.2) fun _ _ _ hb => hb.elim
  refine ⟨h2.clean, fun i hi' a ha => ?_, fun i hi' a ha => ?_, fun a ha j z hz hl => ⟨fun e k hk hkb => ?_, fun e => ?_⟩, fun c hc' j z hz hl e k hk hkb => ?_, h2.low, h2.gs, h2.old, h2.over, fun b hb' => (h.nor b hb').app fun op hop => hr op hop b hb', h2.t0⟩
  · rcases Nat.lt_succ_iff_lt_or_eq.1 hi' with hlt | rfl
    · exact h2.own i hi' a ⟨hlt, ho i hlt _ ha⟩
    · exact (hon _ ha).elim
  · rcases Nat.lt_succ_iff_lt_or_eq.1 hi' with hlt | rfl
    · rcases hf i hlt _ ha with h' | h'
      · exact h2.fz i hi' a ⟨hlt, h'⟩
      · exact PermW.of (h2.own i hi' a ⟨hlt, h'⟩)
    · intro j z hz hl hw
      refine fork_knows hx hy h0 hn ?_
      rcases hfn _ ha with h' | h'
      · exact h.fz 0 n0 a h' j z (nt hz).2 hl hw
      · exact h.own 0 n0 a h' j z (nt hz).2 hl
  · rcases Nat.lt_succ_iff_lt_or_eq.1 hk with hlt | rfl
    · exact ((h.wg a ha j z (nt hz).2 hl).1 e k hlt hkb).app _
    · exact fork_knows hx hy h0 hn ((h.wg a ha j z (nt hz).2 hl).1 e 0 n0 (.inl rfl))
  · rcases hwt _ ha with hw | ⟨hw, hw0⟩
    · rw [hw]
      exact ((h.wg a ha j z (nt hz).2 hl).2 e).app _
    · rw [hw]
      have := (h.wg a ha j z (nt hz).2 hl).2 e
      rw [hw0] at this
      exact fork_knows hx hy h0 hn this
  · rcases Nat.lt_succ_iff_lt_or_eq.1 hk with hlt | rfl
    · exact (h.ch c hc' j z (nt hz).2 hl e k hlt hkb).app _
    · exact fork_knows hx hy h0 hn (h.ch c hc' j z (nt hz).2 hl e 0 n0 (.inl rfl))
def Tail (X : Ctx) (t : Trace) (j r : Nat) : Prop := ∀ i, r < i → t.g? i = some j → ∀ x, touchAt t i = some x → (∃ a, x.loc = .cell a ∧ X.Wg a.block) ∧ x.kind = .atomic ∧ ¬ t.heard i
structure Pub (X : Ctx) (t : Trace) (wg j r : Nat) : Prop where
  wgx : X.Wg wg
  act : t.act? r = some (.mark (.releaseMerge (stA wg)))
  g : t.g? r = some j
  heard : t.heard r
  tail : Tail X t j r
  ge : X.t0 ≤ r
theorem Pub.lt {wg j r : Nat} (h : Pub X t wg j r) : r < t.size := lt_of_act? h.act
theorem Pub.app {wg j r : Nat} (h : Pub X t wg j r) (hu : ∀ i, t.size ≤ i → (t ++ u).g? i = some j → ∀ x, touchAt (t ++ u) i = some x → (∃ a, x.loc = .cell a ∧ X.Wg a.block) ∧ x.kind = .atomic ∧ ¬ (t ++ u).heard i) : Pub X (t ++ u) wg j r := by
  have hr := h.lt
  refine ⟨h.wgx, by rw [act?_old hr]; exact h.act, by rw [g?_old hr]; exact h.g, (heard_old hr).2 h.heard, fun i hi hg x hx => ?_, h.ge⟩
  rcases Nat.lt_or_ge i t.size with hlt | hge
  · rw [heard_old hlt]
    exact h.tail i hi (by rw [← g?_old (u := u) hlt]; exact hg) x (by rw [← touchAt_old (u := u) hlt]; exact hx)
  · exact hu i hge hg x hx
theorem Pub.other {wg j r : Nat} (h : Pub X t wg j r) (hu : ∀ op ∈ u, op.g ≠ j ∨ op.act.touch? = none) : Pub X (t ++ u) wg j r :=
  h.app fun i hi hg x hx => by
    exfalso
    rcases touchAt_app hx with ⟨hj, _⟩ | ⟨_, op, hop, hjo, hox⟩
    · omega
    · rcases hu op hop with h' | h'
      · exact h' (by simpa [Trace.g?, hjo] using hg)
      · rw [h'] at hox; cases hox
def Vou (X : Ctx) (t : Trace) (i j : Nat) : Prop := ∃ wg r, Pub X t wg j r ∧ Knows t i r
def Grp (X : Ctx) (t : Trace) (wg j : Nat) : Prop := ∃ jj r, Pub X t wg jj r ∧ ∃ wg' r', Pub X t wg' j r' ∧ Before t r' r
theorem Vou.other {i j : Nat} (h : Vou X t i j) (hu : ∀ op ∈ u, op.g ≠ j ∨ op.act.touch? = none) : Vou X (t ++ u) i j := by
  obtain ⟨wg, r, hp, hk⟩ := h
  exact ⟨wg, r, hp.other hu, hk.app u⟩
theorem Grp.acquire {wg i j : Nat} (h : Grp X t wg j) (hn : NoRel X wg t) {y : MemOp} (hy : y.g = i ∧ y.act = .mark (.acquire (stA wg))) (hd : Deaf t i = 0) : Vou X (t ++ #[y]) i j := by
  obtain ⟨jj, r, hp, wg', r', hp', hb⟩ := h
  have hyp : (t ++ #[y])[t.size]? = some y := by rw [Array.getElem?_append_right (Nat.le_refl _)]; simp
  have hm : ∀ op ∈ #[y], op.act.touch? = none := by
    intro op hop
    simp at hop
    rw [hop, hy.2]; rfl
  have hp2 := hp.other (u := #[y]) fun op hop => .inr (hm op hop)
  refine ⟨wg', r', hp'.other fun op hop => .inr (hm op hop), t.size, y, hyp, hy.1, ?_⟩
  have hh : (t ++ #[y]).heard t.size := ⟨i, by simp [Trace.g?, hy.1], by rw [deaf_old (Nat.le_refl _)]; exact hd⟩
  have edge : HappensBefore (t ++ #[y]) r t.size := .single (.inr ⟨.marked hp.lt (.inr hp2.act) (by rw [act?_of hyp, hy.2]) (fun k hk1 hk2 e => hn k (Nat.le_trans hp.ge (Nat.le_of_lt hk1)) (by rwa [act?_old hk2] at e)), hp2.heard, hh⟩)
  exact .inr ((hb.app #[y]).hb edge)
theorem Pub.release {wg j : Nat} (h0 : X.t0 ≤ t.size) (hx : X.Wg wg) {y : MemOp} (hy : y.g = j ∧ y.act = .mark (.releaseMerge (stA wg))) (hd : Deaf t j = 0) : Pub X (t ++ #[y]) wg j t.size := by
  have hyp : (t ++ #[y])[t.size]? = some y := by rw [Array.getElem?_append_right (Nat.le_refl _)]; simp
  refine ⟨hx, by rw [act?_of hyp, hy.2], by simp [Trace.g?, hy.1], ⟨j, by simp [Trace.g?, hy.1], by rw [deaf_old (Nat.le_refl _)]; exact hd⟩, fun i hi hg x _ => ?_, h0⟩
  exfalso
  unfold Trace.g? at hg
  obtain ⟨z, hz, _⟩ := Option.map_eq_some_iff.1 hg
  have := lt_size_of_getElem? hz
  simp at this
  omega
theorem Grp.release {wg j k : Nat} (h0 : X.t0 ≤ t.size) (hx : X.Wg wg) {y : MemOp} (hy : y.g = j ∧ y.act = .mark (.releaseMerge (stA wg))) (hd : Deaf t j = 0) (h : k = j ∨ Vou X t j k) : Grp X (t ++ #[y]) wg k := by
  have hyp : (t ++ #[y])[t.size]? = some y := by rw [Array.getElem?_append_right (Nat.le_refl _)]; simp
  refine ⟨j, t.size, Pub.release h0 hx hy hd, ?_⟩
  rcases h with rfl | ⟨wg', r', hp, hk⟩
  · exact ⟨wg, t.size, Pub.release h0 hx hy hd, .inl rfl⟩
  · exact ⟨wg', r', hp.other fun op hop => .inr (by simp at hop; rw [hop, hy.2]; rfl), .inr (hk.hb_new (Nat.le_refl _) hyp hy.1)⟩
theorem Grp.keep {wg j : Nat} (h : Grp X t wg j) (hp : ∀ wg j r, Pub X t wg j r → Pub X (t ++ u) wg j r) : Grp X (t ++ u) wg j := by
  obtain ⟨jj, r, h1, wg', r', h2, hb⟩ := h
  exact ⟨jj, r, hp _ _ _ h1, wg', r', hp _ _ _ h2, hb.app u⟩
theorem Vou.keep {i j : Nat} (h : Vou X t i j) (hp : ∀ wg j r, Pub X t wg j r → Pub X (t ++ u) wg j r) : Vou X (t ++ u) i j := by
  obtain ⟨wg, r, h1, hk⟩ := h
  exact ⟨wg, r, hp _ _ _ h1, hk.app u⟩
def Unsaid (X : Ctx) (t : Trace) (j : Nat) : Prop := ∀ wg r, X.Wg wg → X.t0 ≤ r → t.act? r = some (.mark (.releaseMerge (stA wg))) → t.g? r ≠ some j
theorem Unsaid.app {j : Nat} (h : Unsaid X t j) (hu : ∀ op ∈ u, op.g = j → ∀ wg, X.Wg wg → op.act ≠ .mark (.releaseMerge (stA wg))) : Unsaid X (t ++ u) j := by
  intro wg r hx h0 ha hg
  obtain ⟨op, ho, hoa⟩ := Option.map_eq_some_iff.1 ha
  rcases getElem?_app ho with ⟨hi, ho'⟩ | ⟨_, hou⟩
  · exact h wg r hx h0 (by rw [act?_of ho', hoa]) (by rw [← g?_old (u := u) hi]; exact hg)
  · exact hu op hou (by simpa [Trace.g?, ho] using hg) wg hx hoa
theorem Unsaid.pub {wg j r : Nat} (h : Unsaid X t j) (hp : Pub X t wg j r) : False := h wg r hp.wgx hp.ge hp.act hp.g
theorem Pub.keep {i : Nat} (hu : ∀ op ∈ u, op.g = i) (h : Unsaid X t i ∨ ∀ op ∈ u, op.act.touch? = none) : ∀ wg j r, Pub X t wg j r → Pub X (t ++ u) wg j r := by
  intro wg j r hp
  rcases h with h | h
  · refine hp.other fun op hop => .inl fun e => ?_
    have : j = i := e.symm.trans (hu op hop)
    subst this
    exact h.pub hp
  · exact hp.other fun op hop => .inr (h op hop)
end
end Go.Proofs.Ytmkjoojoaldljaa.Net
set_option linter.unusedSimpArgs false
namespace Go.Proofs.Ytmkjoojoaldljaa.Net
open Go.Conc
section
variable {P : Program} {gs : Array Goroutine} {w w₁ : World} {sl : Option (Nat × Nat)} {i kk : Nat} {g g₂ : Goroutine} {cases : Array CommCase} {sh : CommShape}
  {c s r : Nat} {closed tm : Bool} {v z : Value}
theorem pick_partner (w : World) (l : Nat) (hl : 0 < l) : ∃ b d, b < l ∧ (if (Question.extern "which waiting goroutine is the partner" l).forced = true then (b = 0 ∧ d = w.drawn)
    else (b = (Question.extern "which waiting goroutine is the partner" l).cut (w.tape w.drawn (.extern "which waiting goroutine is the partner" l)) ∧ d = w.drawn + 1)) := by
  by_cases hf : (Question.extern "which waiting goroutine is the partner" l).forced = true
  · exact ⟨0, w.drawn, hl, by rw [if_pos hf]; exact ⟨rfl, rfl⟩⟩
  · refine ⟨_, w.drawn + 1, ?_, by rw [if_neg hf]; exact ⟨rfl, rfl⟩⟩
    simp only [Question.cut]
    rw [if_neg (by omega)]
    exact Nat.mod_lt _ hl
theorem net_send_meets (hi : gs[i]? = some g) (h : stepG P (i == 0) g w = .comm g₂ cases true sh w₁ #[]) (hk : cases[kk]? = some (scase c v z))
    (ho : ∀ (m : Nat) (c' : CommCase), m ≠ kk → cases[m]? = some c' → NoWays w₁ (gs.setIfInBounds i ph) c')
    (hc : w₁.heap[c]? = some (.chan 0 #[] false s r tm)) (hne : partners (gs.setIfInBounds i ph) c false ≠ [])
    (hall : ∀ j k, (j, k) ∈ partners (gs.setIfInBounds i ph) c false → k = 0 ∧ j ≠ i ∧ ∃ gj zj, gs[j]? = some (parked gj #[rcase c zj] (.recv true))) :
    ∃ (j : Nat) (gj : Goroutine) (zj : Value) (d : Nat), j ≠ i ∧ gs[j]? = some (parked gj #[rcase c zj] (.recv true)) ∧
      runT P (crowd gs w sl) i = (.next (crowd ((gs.setIfInBounds j (Conc.served gj (.tuple #[v, .bool true]))).setIfInBounds i (g₂.finishComm P cases sh kk undef false)) ((w₁.at d).setChan c 0 #[] false (s + 1) (r + 1) tm) sl),
        #[{ g := i, fn := g₂.frame.fn, pos := g₂.frame.place, act := .send c s }, { g := j, fn := gj.frame.fn, pos := gj.frame.place, act := .recv c r 0 },
          { g := i, fn := g₂.frame.fn, pos := g₂.frame.place, act := .sendDone c s }, { g := j, fn := gj.frame.fn, pos := gj.frame.place, act := .recvDone c r }]) := by
  generalize hps : partners (gs.setIfInBounds i ph) c false = ps at hne hall
  have hlen : 0 < ps.length := List.length_pos_iff.2 hne
  obtain ⟨b, d, hb, hpick⟩ := pick_partner w₁ ps.length hlen
  obtain ⟨⟨j, k⟩, hjk⟩ : ∃ p, ps[b]? = some p := ⟨ps[b], List.getElem?_eq_getElem hb⟩
  obtain ⟨rfl, hij, gj, zj, hj⟩ := hall j k (List.mem_of_getElem? hjk)
  refine ⟨j, gj, zj, d, hij, hj, ?_⟩
  have hj' := stand_get (i := i) hij hj
  have hfp := finishPartner_at P (gs.setIfInBounds i ph) hj' (cs := #[rcase c zj]) (sh := .recv true) rfl 0 v
  have hgd : (gs.setIfInBounds i ph).getD j default = parked gj #[rcase c zj] (.recv true) := by rw [Array.getD_eq_getD_getElem?, hj']; rfl
  have hw : ways w₁ (gs.setIfInBounds i ph) (scase c v z) = ps.map fun (h, k) => Way.partner h k := by
    simp only [ways, scase, hc, hps]
    cases ps with
    | nil => exact absurd rfl hne
    | cons p ps => simp
  have hwne : ways w₁ (gs.setIfInBounds i ph) (scase c v z) ≠ [] := by
    rw [hw]
    cases ps with
    | nil => exact absurd rfl hne
    | cons p ps => simp
  have hgm := getD_map_partner ps b (j, 0) hjk
  have hill : ¬ (cases.any (illMade w₁) = true) := by rw [Bool.not_eq_true]; exact any_ill (made_of_one hk (made_send v z hc) ho)
  rw [runT_crowd_comm hi h]
  unfold communicate
  simp only [ready_one hk hwne ho, hw]
  rw [if_neg (by exact hill)]
  by_cases hf : (Question.extern "which waiting goroutine is the partner" ps.length).forced = true
  · rw [if_pos hf] at hpick
    obtain ⟨rfl, rfl⟩ := hpick
    have hf' : ps.length = 1 := by simpa [Question.forced] using hf
    have e0 : ps[0]'hlen = (j, 0) := (List.getElem?_eq_some_iff.1 hjk).2
    simp [choose, Sem.run, Question.forced, bind, Sem.bind, pure, hf', hgm, hjk, e0, hj', scase, hc, World.setChan, crowd, hfp, hgd, set_stand2, rcase, parked, World.at, finishComm_recv, recvd, MemOp.ofEvents]
    rfl
  · rw [if_neg hf] at hpick
    obtain ⟨rfl, rfl⟩ := hpick
    have hf' : ¬ ps.length = 1 := by simpa [Question.forced] using hf
    have hcd : w₁.drew.heap[c]? = some (.chan 0 #[] false s r tm) := hc
    simp [choose, Sem.run, Question.forced, bind, Sem.bind, pure, hf', hgm, hjk, hj', scase, hcd, World.setChan, crowd, hfp, hgd, set_stand2, rcase, parked, World.at, finishComm_recv, recvd, MemOp.ofEvents]
    rfl
theorem net_recv_meets (hi : gs[i]? = some g) (h : stepG P (i == 0) g w = .comm g₂ #[rcase c z] true (.recv true) w₁ #[]) (hc : w₁.heap[c]? = some (.chan 0 #[] closed s r tm))
    (hne : partners (gs.setIfInBounds i ph) c true ≠ [])
    (hall : ∀ j k, (j, k) ∈ partners (gs.setIfInBounds i ph) c true → j ≠ i ∧ ∃ gj cs shj vj zj, gs[j]? = some (parked gj cs shj) ∧ cs[k]? = some (scase c vj zj)) :
    ∃ (j k : Nat) (gj : Goroutine) (cs : Array CommCase) (shj : CommShape) (vj zj : Value) (d : Nat), j ≠ i ∧ gs[j]? = some (parked gj cs shj) ∧ cs[k]? = some (scase c vj zj) ∧
      runT P (crowd gs w sl) i = (.next (crowd ((gs.setIfInBounds j (gj.finishComm P cs shj k undef false)).setIfInBounds i (Conc.served g₂ (.tuple #[vj, .bool true]))) ((w₁.at d).setChan c 0 #[] closed (s + 1) (r + 1) tm) sl),
        #[{ g := j, fn := gj.frame.fn, pos := gj.frame.place, act := .send c s }, { g := i, fn := g₂.frame.fn, pos := g₂.frame.place, act := .recv c r 0 },
          { g := j, fn := gj.frame.fn, pos := gj.frame.place, act := .sendDone c s }, { g := i, fn := g₂.frame.fn, pos := g₂.frame.place, act := .recvDone c r }]) := by
  generalize hps : partners (gs.setIfInBounds i ph) c true = ps at hne hall
  have hlen : 0 < ps.length := List.length_pos_iff.2 hne
  obtain ⟨b, d, hb, hpick⟩ := pick_partner w₁ ps.length hlen
  obtain ⟨⟨j, k⟩, hjk⟩ : ∃ p, ps[b]? = some p := ⟨ps[b], List.getElem?_eq_getElem hb⟩
  obtain ⟨hij, gj, cs, shj, vj, zj, hj, hck⟩ := hall j k (List.mem_of_getElem? hjk)
  refine ⟨j, k, gj, cs, shj, vj, zj, d, hij, hj, hck, ?_⟩
  have hj' := stand_get (i := i) hij hj
  have hfp := finishPartner_at P (gs.setIfInBounds i ph) hj' (cs := cs) (sh := shj) rfl k undef
  have hgd : (gs.setIfInBounds i ph).getD j default = parked gj cs shj := by rw [Array.getD_eq_getD_getElem?, hj']; rfl
  have hov : offeredValue (gs.setIfInBounds i ph) j k = vj := by simp [offeredValue, hj', parked, scase, hck]
  have hw : ways w₁ (gs.setIfInBounds i ph) (rcase c z) = ps.map fun (h, k) => Way.partner h k := by
    simp only [ways, rcase, hc, hps]
    cases ps with
    | nil => exact absurd rfl hne
    | cons p ps => simp
  have hwne : ways w₁ (gs.setIfInBounds i ph) (rcase c z) ≠ [] := by
    rw [hw]
    cases ps with
    | nil => exact absurd rfl hne
    | cons p ps => simp
  have hgm := getD_map_partner ps b (j, k) hjk
  have ho : ∀ (m : Nat) (c' : CommCase), m ≠ 0 → (#[rcase c z] : Array CommCase)[m]? = some c' → NoWays w₁ (gs.setIfInBounds i ph) c' := by
    intro m c' hm hc'
    have : m < 1 := by simpa using (Array.getElem?_eq_some_iff.1 hc').1
    omega
  have hk : (#[rcase c z] : Array CommCase)[0]? = some (rcase c z) := rfl
  have hill : ¬ ((#[rcase c z] : Array CommCase).any (illMade w₁) = true) := by rw [Bool.not_eq_true]; exact any_ill (made_of_one (k := 0) hk (made_recv z hc) ho)
  rw [runT_crowd_comm hi h]
  generalize (#[rcase c z] : Array CommCase) = cases at hk ho hill ⊢
  unfold communicate
  simp only [ready_one hk hwne ho, hw]
  rw [if_neg (by exact hill)]
  by_cases hf : (Question.extern "which waiting goroutine is the partner" ps.length).forced = true
  · rw [if_pos hf] at hpick
    obtain ⟨rfl, rfl⟩ := hpick
    have hf' : ps.length = 1 := by simpa [Question.forced] using hf
    have e0 : ps[0]'hlen = (j, k) := (List.getElem?_eq_some_iff.1 hjk).2
    simp [choose, Sem.run, Question.forced, bind, Sem.bind, pure, hf', hgm, hjk, e0, hj', hov, hck, scase, hc, World.setChan, crowd, hfp, hgd, set_stand2, rcase, parked, World.at, finishComm_recv, recvd, MemOp.ofEvents]
    rfl
  · rw [if_neg hf] at hpick
    obtain ⟨rfl, rfl⟩ := hpick
    have hf' : ¬ ps.length = 1 := by simpa [Question.forced] using hf
    have hcd : w₁.drew.heap[c]? = some (.chan 0 #[] closed s r tm) := hc
    simp [choose, Sem.run, Question.forced, bind, Sem.bind, pure, hf', hgm, hjk, hj', hov, hck, scase, hcd, World.setChan, crowd, hfp, hgd, set_stand2, rcase, parked, World.at, finishComm_recv, recvd, MemOp.ofEvents]
    rfl
end
end Go.Proofs.Ytmkjoojoaldljaa.Net
namespace Go.Proofs.Ytmkjoojoaldljaa.Net
open Go.Conc
open Go.ConcN (WgLive sumTo upd upd_same upd_ne)
open Go.ConcR (KK wgBlock WgAt stA smA rd wr mk DC0)
inductive Proc
  | at (s : Script)
  | dead
inductive Stg
  | wk (s : Script) | pk (s : Script)
  | a1 (wg δ : Nat) (k : Script) | a2 (wg : Nat) (k : Script) | a3 (wg : Nat) (k : Script)
  | k1 (wg : Nat) | d1 (wg : Nat) | d2 (wg : Nat) | d3 (wg : Nat) | d4 (wg : Nat) | qt
  | w1 (wg : Nat) (k : Script) | w2 (wg : Nat) (k : Script) (vs : Nat) | wr (wg : Nat) (k : Script) | w3 (wg : Nat) (k : Script) | w4 (wg : Nat) (k : Script) | ke (wg : Nat) (k : Script) | aq (wg : Nat) (k : Script)
def Stg.abs : Stg → Proc
  | .wk s | .pk s => .at s
  | .a1 wg δ k => .at (.add wg δ k)
  | .a2 _ k | .a3 _ k => .at k
  | .k1 wg | .d1 wg => .at (.don wg)
  | .d2 _ | .d3 _ | .d4 _ | .qt => .dead
  | .w1 wg k | .w2 wg k _ | .wr wg k | .w3 wg k | .w4 wg k | .ke wg k | .aq wg k => .at (.wai wg k)
def Stg.Reg (wg : Nat) : Stg → Prop
  | .wr wg' _ | .w3 wg' _ => wg' = wg
  | _ => False
def Stg.Rel (wg : Nat) : Stg → Prop
  | .d2 wg' | .d3 wg' | .d4 wg' => wg' = wg
  | _ => False
def Stg.Thru (wg : Nat) : Stg → Prop
  | .w4 wg' _ | .ke wg' _ | .aq wg' _ => wg' = wg
  | _ => False
def Stg.Said (wg : Nat) : Stg → Prop
  | .k1 wg' | .d1 wg' => wg' = wg
  | _ => False
def Stg.Out : Stg → Prop
  | .k1 _ | .d1 _ | .d2 _ | .d3 _ | .d4 _ | .qt => True
  | _ => False
def NextOf (X : Ctx) (s : Script) (main : Bool) (S O : Nat → Prop) (g : Goroutine) (w : World) : Prop := ∃ n, Seg X main S (StopOf X s main S) n O g w
def NextN (X : Ctx) (s : Script) (main : Bool) (S O : Nat → Prop) (n : Nat) (g : Goroutine) (w : World) : Prop := Seg X main S (StopOf X s main S) n O g w
section
variable (X : Ctx) (i : Nat) (O S : Nat → Prop)
def Sit : Stg → Nat → Nat → Nat → Goroutine → World → Prop
  | .wk s, f, _, d, g, w => d = 0 ∧ Seg X (i == 0) S (StopOf X s (i == 0) S) f O g w
  | .pk (.snd c v k), f, _, d, g, w => d = 0 ∧ f = 0 ∧ ∃ g₀ cases kk sh z, g = parked g₀ cases sh ∧ cases[kk]? = some (scase c v z) ∧
      (∀ (m : Nat) (cc : CommCase), m ≠ kk → cases[m]? = some cc → ∃ d z', X.Dead d ∧ cc = rcase d z') ∧ ∀ w₂, Agree X (OS O S) w w₂ → NextOf X k (i == 0) S O (g₀.finishComm X.P cases sh kk undef false) w₂
  | .pk (.rcv c ok k kc), f, _, d, g, w => d = 0 ∧ f = 0 ∧ ∃ g₀ z, g = parked g₀ #[rcase c z] (.recv true) ∧ core g₀ = g₀ ∧ ∀ w₂, Agree X (OS O S) w w₂ → StopOf X (.rcv c ok k kc) (i == 0) S O g₀ w₂
  | .pk _, _, _, _, _, _ => False
  | .a1 wg δ k, f, _, d, g, w => d = 1 ∧ ∃ N, Goes X.P (i == 0) (Agree X (OS O S)) DC0 (AtA1 X.P X.ty (i == 0) (Agree X (OS O S)) wg δ (NextN X k (i == 0) S O N)) f g w
  | .a2 wg k, f, _, d, g, w => d = 1 ∧ ∃ N, Goes X.P (i == 0) (Agree X (OS O S)) DC0 (AtA2 X.P (i == 0) (Agree X (OS O S)) wg (NextN X k (i == 0) S O N)) f g w
  | .a3 _ k, f, _, d, g, w => d = 1 ∧ ∃ N, Goes X.P (i == 0) (Agree X (OS O S)) DC0 (AtA3 X.P (i == 0) (Agree X (OS O S)) (NextN X k (i == 0) S O N)) f g w
  | .k1 wg, f, _, d, g, w => (i == 0) = false ∧ d = 0 ∧ Goes X.P (i == 0) (Agree X (OS O S)) DC0 (AtK1 X.P X.ty (Agree X (OS O S)) wg) f g w
  | .d1 wg, f, _, d, g, w => (i == 0) = false ∧ d = 1 ∧ Goes X.P (i == 0) (Agree X (OS O S)) DC0 (AtD1 X.P X.ty (Agree X (OS O S)) wg) f g w
  | .d2 wg, f, _, d, g, w => (i == 0) = false ∧ d = 1 ∧ Goes X.P (i == 0) (Agree X (OS O S)) DC0 (AtD2 X.P X.ty (Agree X (OS O S)) wg) f g w
  | .d3 wg, f, _, d, g, w => (i == 0) = false ∧ d = 1 ∧ Goes X.P (i == 0) (Agree X (OS O S)) DC0 (AtD3 X.P X.ty (Agree X (OS O S)) wg) f g w
  | .d4 wg, f, _, d, g, w => (i == 0) = false ∧ d = 1 ∧ Goes X.P (i == 0) (Agree X (OS O S)) DC0 (AtD4 X.P X.ty wg) f g w
  | .qt, f, _, d, g, _ => (i == 0) = false ∧ QuitsD X.P f d g
  | .w1 wg k, f, _, d, g, w => d = 1 ∧ ∃ N Anch, AnchOk X.P X.ty (i == 0) (Agree X (OS O S)) wg Anch (NextN X k (i == 0) S O N) ∧ Goes X.P (i == 0) (Agree X (OS O S)) DC0 (AtW1 X.P X.ty (i == 0) (Agree X (OS O S)) wg Anch (NextN X k (i == 0) S O N)) f g w
  | .w2 wg k vs, f, _, d, g, w => d = 1 ∧ vs ≠ 0 ∧ ∃ N Anch, AnchOk X.P X.ty (i == 0) (Agree X (OS O S)) wg Anch (NextN X k (i == 0) S O N) ∧ Goes X.P (i == 0) (Agree X (OS O S)) DC0 (AtW2 X.P X.ty (i == 0) (Agree X (OS O S)) wg Anch (NextN X k (i == 0) S O N) vs) f g w
  | .wr wg k, f, _, d, g, w => d = 1 ∧ ∃ N, Goes X.P (i == 0) (Agree X (OS O S)) DC0 (AtWr X.P X.ty (i == 0) (Agree X (OS O S)) wg (NextN X k (i == 0) S O N)) f g w
  | .w3 wg k, f, fl, d, g, w => d = 1 ∧ ∃ N, ((fl = 1 ∧ Goes X.P (i == 0) (Agree X (OS O S)) DC0 (AtW3 X.P X.ty (i == 0) (Agree X (OS O S)) wg (NextN X k (i == 0) S O N)) f g w) ∨
      (fl = 0 ∧ f = 0 ∧ ∃ g₁, g = { g₁ with status := .blocked } ∧ g₁.status = .running ∧ g₁.offers = none ∧ ∀ w₂, Agree X (OS O S) w w₂ → AtW3 X.P X.ty (i == 0) (Agree X (OS O S)) wg (NextN X k (i == 0) S O N) g₁ w₂))
  | .w4 wg k, f, _, d, g, w => d = 1 ∧ ∃ N, Goes X.P (i == 0) (Agree X (OS O S)) DC0 (AtW4 X.P X.ty (i == 0) (Agree X (OS O S)) wg (NextN X k (i == 0) S O N)) f g w
  | .ke wg k, f, _, d, g, w => d = 1 ∧ ∃ N, Goes X.P (i == 0) (Agree X (OS O S)) DC0 (AtKe X.P (i == 0) (Agree X (OS O S)) wg (NextN X k (i == 0) S O N)) f g w
  | .aq wg k, f, _, d, g, w => d = 0 ∧ ∃ N, Goes X.P (i == 0) (Agree X (OS O S)) DC0 (AtAcq X.P (i == 0) (Agree X (OS O S)) wg (NextN X k (i == 0) S O N)) f g w
end
inductive WMode (ty : TypeId) (wg v : Nat) (sw : Stg) (stg : Nat → Stg) (n : Nat) (w : World) : Prop
  | opn (h : ¬ sw.Reg wg) (hr : ∀ j, j < n → ¬ (stg j).Rel wg) (hw : WgAt ty wg w (v * KK) 0)
  | reg (h : sw.Reg wg) (hr : ∀ j, j < n → ¬ (stg j).Rel wg) (hv : 1 ≤ v) (hw : WgAt ty wg w (v * KK + 1) 0)
  | lst (h : sw.Reg wg) (hv : v = 0) (j : Nat) (hj : j < n) (hs : stg j = .d2 wg ∨ stg j = .d3 wg) (hu : ∀ j', j' < n → (stg j').Rel wg → j' = j) (hw : WgAt ty wg w 1 0)
  | ls4 (h : sw.Reg wg) (hv : v = 0) (j : Nat) (hj : j < n) (hs : stg j = .d4 wg) (hu : ∀ j', j' < n → (stg j').Rel wg → j' = j) (hw : WgAt ty wg w 0 0)
  | fin (h : sw.Reg wg) (hv : v = 0) (hr : ∀ j, j < n → ¬ (stg j).Rel wg) (hw : WgAt ty wg w 0 1)
theorem WMode.live {ty : TypeId} {wg v : Nat} {sw : Stg} {stg : Nat → Stg} {n : Nat} {w : World} (h : WMode ty wg v sw stg n w) : WgLive ty wg w := by
  cases h <;> exact ⟨_, _, ‹WgAt _ _ _ _ _›⟩
structure Abs where
  n : Nat
  pr : Nat → Proc
  ch : Nat → Option Bool
  v : Nat → Nat
  sd : Nat → Nat
  grp : Nat → Nat → Prop
  vou : Nat → Nat → Prop
structure Gst where
  n : Nat
  stg : Nat → Stg
  ch : Nat → Option Bool
  v : Nat → Nat
  sd : Nat → Nat
  grp : Nat → Nat → Prop
  vou : Nat → Nat → Prop
  own : Nat → Nat → Prop
  fz : Nat → Nat → Prop
  f : Nat → Nat
  fl : Nat → Nat
def Gst.abs (σ : Gst) : Abs := { n := σ.n, pr := fun i => (σ.stg i).abs, ch := σ.ch, v := σ.v, sd := σ.sd, grp := σ.grp, vou := σ.vou }
open Classical in
inductive AStep (a : Abs) : Abs → Prop
  | comm (i j c : Nat) (v : Value) (ki : Script) (ok : Value → Prop) (kj : Value → Script) (kc : Script) (hij : i ≠ j) (hi : i < a.n) (hj : j < a.n)
      (h1 : a.pr i = .at (.snd c v ki)) (h2 : a.pr j = .at (.rcv c ok kj kc)) : AStep a { a with pr := upd (upd a.pr i (.at ki)) j (.at (kj v)) }
  | clsd (j c : Nat) (ok : Value → Prop) (kj : Value → Script) (kc : Script) (hj : j < a.n) (h1 : a.pr j = .at (.rcv c ok kj kc)) (h2 : a.ch c = some true) : AStep a { a with pr := upd a.pr j (.at kc) }
  | cls (i c : Nat) (k : Script) (hi : i < a.n) (h1 : a.pr i = .at (.cls c k)) : AStep a { a with pr := upd a.pr i (.at k), ch := upd a.ch c (some true) }
  | add (i wg δ : Nat) (k : Script) (hi : i < a.n) (h1 : a.pr i = .at (.add wg δ k)) : AStep a { a with pr := upd a.pr i (.at k), v := upd a.v wg (a.v wg + δ) }
  | don (i wg v : Nat) (hi : i < a.n) (h1 : a.pr i = .at (.don wg)) (hv : a.v wg = v + 1) : AStep a { a with pr := upd a.pr i .dead, v := upd a.v wg v, grp := upd a.grp wg fun k => a.grp wg k ∨ k = i ∨ a.vou i k }
  | wai (i wg : Nat) (k : Script) (hi : i < a.n) (h1 : a.pr i = .at (.wai wg k)) (hv : a.v wg = 0) : AStep a { a with pr := upd a.pr i (.at k), vou := upd a.vou i fun j => a.vou i j ∨ a.grp wg j }
  | spw (cs ws : Nat → Prop) (s k : Script) (h1 : a.pr 0 = .at (.spw cs ws s k)) :
      AStep a { a with n := a.n + 1, pr := upd (upd a.pr 0 (.at k)) a.n (.at s), ch := fun c => if cs c then some false else a.ch c, sd := fun b => if ws b then a.n else a.sd b, vou := upd a.vou a.n fun _ => False }
structure AOk (X : Ctx) (a : Abs) : Prop where
  add : ∀ i wg δ k, i < a.n → a.pr i = .at (.add wg δ k) → X.Wg wg ∧ a.sd wg = i ∧ a.v wg + δ < 2147483648
  wai : ∀ i wg k, i < a.n → a.pr i = .at (.wai wg k) → X.Wg wg ∧ a.sd wg = i ∧ a.v wg < 2147483648
  don : ∀ i wg, i < a.n → a.pr i = .at (.don wg) → X.Wg wg ∧ 1 ≤ a.v wg ∧ a.v wg < 2147483648
  snd : ∀ i c v k, i < a.n → a.pr i = .at (.snd c v k) → a.ch c = some false ∧ ¬ X.Dead c
  rcv : ∀ i c ok k kc, i < a.n → a.pr i = .at (.rcv c ok k kc) → a.ch c ≠ none ∧ ¬ X.Dead c
  fit : ∀ i j c v k ok kj kc, i < a.n → j < a.n → a.pr i = .at (.snd c v k) → a.pr j = .at (.rcv c ok kj kc) → ok v
  cls : ∀ i c k, i < a.n → a.pr i = .at (.cls c k) → a.ch c = some false ∧ ¬ X.Dead c ∧ ∀ j v k', j < a.n → a.pr j ≠ .at (.snd c v k')
  spw : ∀ cs ws s k, a.pr 0 = .at (.spw cs ws s k) → (∀ c, cs c → a.ch c = none) ∧ ∀ b, ws b → X.Wg b ∧ a.sd b = 0
  dead : ∀ d, X.Dead d → a.ch d = some false ∨ (a.ch d = none ∧ ∀ i c v k, i < a.n → a.pr i ≠ .at (.snd c v k))
structure Proto (X : Ctx) (b0 : Nat) where
  J : Abs → Prop
  A : Abs → Nat
  ok : ∀ a, J a → AOk X a
  step : ∀ a a', J a → AStep a a' → J a' ∧ A a' < A a
  live : ∀ a, J a → (∃ Fin, a.pr 0 = .at (.ret Fin)) ∨ ∃ a', AStep a a'
  fin : ∀ a Fin, J a → a.pr 0 = .at (.ret Fin) → ∀ j, b0 ≤ j → j < a.n → a.pr j = .dead ∧ a.vou 0 j
  noret : ∀ a i Fin, J a → i < a.n → a.pr i = .at (.ret Fin) → i = 0
structure Inv (X : Ctx) (b0 : Nat) (Shun : Loc → Prop) (σ : Gst) (gs : Array Goroutine) (w : World) (t : Trace) : Prop where
  size : gs.size = σ.n
  lo : 1 ≤ b0 ∧ b0 ≤ σ.n
  sit : ∀ i, i < σ.n → ∃ g, gs[i]? = some g ∧ Sit X i (σ.own i) (σ.fz i) (σ.stg i) (σ.f i) (σ.fl i) (Deaf t i) g w
  fl1 : ∀ i, i < σ.n → σ.fl i ≤ 1
  sep : Sep X σ.n σ.own σ.fz (fun c => σ.ch c ≠ none) w.heap.size
  ti : TI X b0 σ.n Shun σ.own σ.fz (fun c => σ.ch c ≠ none) σ.sd w.heap.size t
  chn : ∀ c cl, σ.ch c = some cl → ∃ s r, w.heap[c]? = some (.chan 0 #[] cl s r false)
  pko : ∀ i c ok k kc, i < σ.n → σ.stg i = .pk (.rcv c ok k kc) → σ.ch c = some false
  pkm : ∀ i j c v k ok kj kc, i < σ.n → j < σ.n → σ.stg i = .pk (.snd c v k) → σ.stg j = .pk (.rcv c ok kj kc) → False
  wgs : ∀ wg, X.Wg wg → WMode X.ty wg (σ.v wg) (σ.stg (σ.sd wg)) σ.stg σ.n w
  sdl : ∀ wg, X.Wg wg → σ.sd wg < σ.n
  thru : ∀ i wg, i < σ.n → (σ.stg i).Thru wg → σ.v wg = 0
  hear : ∀ j, σ.n ≤ j → Deaf t j = 0
  grp : ∀ wg j, σ.grp wg j → Grp X t wg j
  vou : ∀ i j, i < σ.n → σ.vou i j → Vou X t i j
  said : ∀ j wg, j < σ.n → (σ.stg j).Said wg → ∀ k, k = j ∨ σ.vou j k → Grp X t wg k
  tl : ∀ j, b0 ≤ j → j < σ.n → (σ.stg j).abs = .dead → ∃ wg r, Pub X t wg j r
  old : ∀ i, 0 < i → i < b0 → σ.stg i = .qt
  awk : ∀ wg k, X.Wg wg → WgAt X.ty wg w 0 1 → σ.stg (σ.sd wg) = .w3 wg k → σ.fl (σ.sd wg) = 1
  wgx : ∀ i wg, i < σ.n → ((σ.stg i).Rel wg → X.Wg wg) ∧ ∀ k, (σ.stg i = .a2 wg k ∨ σ.stg i = .a3 wg k) → X.Wg wg ∧ σ.sd wg = i
  uns : ∀ i, i < σ.n → ¬ (σ.stg i).Out → Unsaid X t i
def Stg.rank (v : Nat → Nat) : Stg → Nat
  | .wk (.snd ..) | .wk (.rcv ..) => 10
  | .wk _ => 10
  | .pk _ => 0
  | .a1 .. => 9 | .a2 .. => 14 | .a3 .. => 13
  | .k1 _ => 9 | .d1 _ => 8 | .d2 _ => 4 | .d3 _ => 3 | .d4 _ => 2 | .qt => 1
  | .w1 .. => 7 | .w2 wg _ vs => if vs = v wg then 6 else 8
  | .wr .. => 5 | .w3 .. => 4 | .w4 .. => 3 | .ke .. => 2 | .aq .. => 1
def Lt3 : Nat × Nat × Nat → Nat × Nat × Nat → Prop := Prod.Lex (· < ·) (Prod.Lex (· < ·) (· < ·))
theorem lt3_wf : WellFounded Lt3 := (Prod.lex Nat.lt_wfRel (Prod.lex Nat.lt_wfRel Nat.lt_wfRel)).wf
def Gst.mu (A : Abs → Nat) (σ : Gst) : Nat × Nat × Nat := (A σ.abs, sumTo σ.n (fun i => (σ.stg i).rank σ.v), (σ.n + 1) * sumTo σ.n σ.f + sumTo σ.n σ.fl)
section
variable {X : Ctx} {i : Nat} {O S : Nat → Prop} {w w' : World} {g : Goroutine} {f fl d : Nat}
theorem agree_trans3 {T : Nat → Prop} : ∀ a b c, Agree X T a b → Agree X T b c → Agree X T a c := fun _ _ _ => Agree.trans
theorem Sit.rely : ∀ {s : Stg}, Sit X i O S s f fl d g w → Agree X (OS O S) w w' → Sit X i O S s f fl d g w'
  | .wk _, h, r => ⟨h.1, h.2.rely r⟩
  | .pk (.snd ..), h, r => by
    obtain ⟨h1, h2, g₀, cases, kk, sh, z, h3, h4, h5, h6⟩ := h
    exact ⟨h1, h2, g₀, cases, kk, sh, z, h3, h4, h5, fun w₂ h₂ => h6 w₂ (r.trans h₂)⟩
  | .pk (.rcv ..), h, r => by
    obtain ⟨h1, h2, g₀, z, h3, h4, h5⟩ := h
    exact ⟨h1, h2, g₀, z, h3, h4, fun w₂ h₂ => h5 w₂ (r.trans h₂)⟩
  | .pk (.cls ..), h, _ | .pk (.add ..), h, _ | .pk (.don ..), h, _ | .pk (.wai ..), h, _ | .pk (.spw ..), h, _ | .pk (.ret ..), h, _ => h.elim
  | .a1 .., h, r | .a2 .., h, r | .a3 .., h, r | .wr .., h, r | .w4 .., h, r | .ke .., h, r | .aq .., h, r => by
    obtain ⟨h1, N, h2⟩ := h
    exact ⟨h1, N, h2.rely agree_trans3 r⟩
  | .k1 _, h, r | .d1 _, h, r | .d2 _, h, r | .d3 _, h, r | .d4 _, h, r => ⟨h.1, h.2.1, h.2.2.rely agree_trans3 r⟩
  | .qt, h, _ => h
  | .w1 .., h, r => by
    obtain ⟨h1, N, A, h2, h3⟩ := h
    exact ⟨h1, N, A, h2, h3.rely agree_trans3 r⟩
  | .w2 .., h, r => by
    obtain ⟨h1, h1', N, A, h2, h3⟩ := h
    exact ⟨h1, h1', N, A, h2, h3.rely agree_trans3 r⟩
  | .w3 .., h, r => by
    obtain ⟨h1, N, ⟨h2, h3⟩ | ⟨h2, h3, g₁, h4, h5, h6, h7⟩⟩ := h
    · exact ⟨h1, N, .inl ⟨h2, h3.rely agree_trans3 r⟩⟩
    · exact ⟨h1, N, .inr ⟨h2, h3, g₁, h4, h5, h6, fun w₂ h₂ => h7 w₂ (r.trans h₂)⟩⟩
theorem goes_running {P : Program} {main : Bool} {R : World → World → Prop} {D : World → World → Array Event → Prop} {Stop : Goroutine → World → Prop} {n : Nat} (hr : R w w) (h : Goes P main R D Stop n g w) (hs : ∀ g w, Stop g w → g.status = .running) : g.status = .running := by
  cases n with
  | zero => exact hs _ _ (h w hr)
  | succ n =>
    rcases h with h | ⟨h, _⟩
    · exact hs _ _ (h w hr)
    · exact h
theorem Sit.status : ∀ {s : Stg}, Sit X i O S s f fl d g w → g.status = .running ∨ (g.status = .finished ∧ s = .qt) ∨ (g.status = .blocked ∧ ((∃ s', s = .pk s') ∨ (∃ wg k, s = .w3 wg k ∧ fl = 0 ∧ g.offers = none)))
  | .wk _, h => .inl (h.2.running fun _ _ _ => StopOf.running)
  | .pk (.snd ..), h => by
    obtain ⟨_, _, g₀, cases, kk, sh, z, h3, _⟩ := h
    exact .inr (.inr ⟨by rw [h3]; rfl, .inl ⟨_, rfl⟩⟩)
  | .pk (.rcv ..), h => by
    obtain ⟨_, _, g₀, z, h3, _⟩ := h
    exact .inr (.inr ⟨by rw [h3]; rfl, .inl ⟨_, rfl⟩⟩)
  | .pk (.cls ..), h | .pk (.add ..), h | .pk (.don ..), h | .pk (.wai ..), h | .pk (.spw ..), h | .pk (.ret ..), h => h.elim
  | .a1 .., h | .a2 .., h | .a3 .., h | .wr .., h | .w4 .., h | .ke .., h | .aq .., h => by
    obtain ⟨_, N, h2⟩ := h
    exact .inl (goes_running (Agree.refl _ _ _) h2 fun _ _ x => x.1)
  | .k1 _, h | .d1 _, h | .d2 _, h | .d3 _, h | .d4 _, h => .inl (goes_running (Agree.refl _ _ _) h.2.2 fun _ _ x => x.1)
  | .qt, h => h.2.status.elim .inl fun e => .inr (.inl ⟨e, rfl⟩)
  | .w1 .., h => by
    obtain ⟨_, _, A, _, h3⟩ := h
    exact .inl (goes_running (Agree.refl _ _ _) h3 fun _ _ x => x.1)
  | .w2 .., h => by
    obtain ⟨_, _, _, A, _, h3⟩ := h
    exact .inl (goes_running (Agree.refl _ _ _) h3 fun _ _ x => x.1)
  | .w3 .., h => by
    obtain ⟨_, _, ⟨_, h3⟩ | ⟨h2, _, g₁, h4, h5, h6, _⟩⟩ := h
    · exact .inl (goes_running (Agree.refl _ _ _) h3 fun _ _ x => x.1)
    · exact .inr (.inr ⟨by rw [h4], .inr ⟨_, _, rfl, h2, by rw [h4]; exact h6⟩⟩)
theorem Sit.awake {s : Stg} (h : Sit X i O S s f fl d g w) : awake g := by
  intro tm
  rcases h.status with e | ⟨e, _⟩ | ⟨e, _⟩ <;> rw [e] <;> simp
theorem Sit.again {s : Stg} (h : Sit X i O S s f fl d g w) (hfl : fl ≤ 1) (hopen : ∀ c v k, s = .pk (.snd c v k) → ∃ s' r, w.heap[c]? = some (.chan 0 #[] false s' r false))
    (hdead : ∀ c, X.Dead c → (∃ c' v k, s = .pk (.snd c' v k)) → ∃ s' r, w.heap[c]? = some (.chan 0 #[] false s' r false)) (hk : ∀ c ok k kc, s = .pk (.rcv c ok k kc) → ∃ cl s' r, w.heap[c]? = some (.chan 0 #[] cl s' r false)) :
    ∃ s' fl', fl ≤ fl' ∧ fl' ≤ 1 ∧ Sit X i O S s' f fl' d (g.again w) w ∧ s'.abs = s.abs ∧ ((s' = s ∧ ∀ c ok k kc, s = .pk (.rcv c ok k kc) → ∃ s' r, w.heap[c]? = some (.chan 0 #[] false s' r false)) ∨ (∃ c ok k kc s' r, s = .pk (.rcv c ok k kc) ∧ w.heap[c]? = some (.chan 0 #[] true s' r false)) ∧ ∃ s₀, s' = .wk s₀ ∧ s = .pk s₀) := by
  have same : g.again w = g → (∀ c ok k kc, s = .pk (.rcv c ok k kc) → ∃ s' r, w.heap[c]? = some (.chan 0 #[] false s' r false)) →
      ∃ s' fl', fl ≤ fl' ∧ fl' ≤ 1 ∧ Sit X i O S s' f fl' d (g.again w) w ∧ s'.abs = s.abs ∧ ((s' = s ∧ ∀ c ok k kc, s = .pk (.rcv c ok k kc) → ∃ s' r, w.heap[c]? = some (.chan 0 #[] false s' r false)) ∨ (∃ c ok k kc s' r, s = .pk (.rcv c ok k kc) ∧ w.heap[c]? = some (.chan 0 #[] true s' r false)) ∧ ∃ s₀, s' = .wk s₀ ∧ s = .pk s₀) :=
    fun e hc => ⟨s, fl, Nat.le_refl _, hfl, by rw [e]; exact h, rfl, .inl ⟨rfl, hc⟩⟩
  rcases h.status with e | ⟨e, rfl⟩ | ⟨e, ⟨s₁, rfl⟩ | ⟨wg, k, rfl, hf0, ho⟩⟩
  · refine same (again_running w (.inl e)) fun c ok k kc hs => ?_
    subst hs
    obtain ⟨_, _, g₀, z, h3, _⟩ := h
    rw [h3] at e
    cases e
  · exact same (again_running w (.inr e)) fun _ _ _ _ hs => by cases hs
  · cases s₁ with
    | snd c v k =>
      refine same ?_ fun _ _ _ _ hs => by cases hs
      obtain ⟨_, _, g₀, cases, kk, sh, z, h3, h4, h5, _⟩ := h
      rw [h3]
      refine again_parked_all (fun cc hcc => ?_)
      obtain ⟨m, hm⟩ := Array.mem_iff_getElem?.1 hcc
      by_cases hmk : m = kk
      · subst hmk
        rw [h4] at hm
        obtain rfl := Option.some.inj hm
        obtain ⟨s', r, e'⟩ := hopen c v k rfl
        exact ⟨c, rfl, s', r, e'⟩
      · obtain ⟨dd, z', hd, rfl⟩ := h5 m cc hmk hm
        obtain ⟨s', r, e'⟩ := hdead dd hd ⟨_, _, _, rfl⟩
        exact ⟨dd, rfl, s', r, e'⟩
    | rcv c ok k kc =>
      obtain ⟨h1, h2, g₀, z, h3, h4, h5⟩ := id h
      obtain ⟨cl, s', r, hcl⟩ := hk c ok k kc rfl
      cases cl with
      | false => exact same (by rw [h3]; exact again_recv_open hcl) fun c' _ _ _ hs => by cases hs; exact ⟨s', r, hcl⟩
      | true =>
        refine ⟨.wk (.rcv c ok k kc), fl, Nat.le_refl _, hfl, ?_, rfl, .inr ⟨⟨c, ok, k, kc, s', r, rfl, hcl⟩, _, rfl, rfl⟩⟩
        rw [h3, again_recv_closed hcl]
        refine ⟨h1, ?_⟩
        rw [h2]
        refine fun w₁ h₁ => ?_
        obtain ⟨hs, z', hst, ha, hb⟩ := h5 w₁ h₁
        refine ⟨rfl, z', ?_, ?_, ?_⟩
        · exact (stepG_same rfl rfl rfl w₁).trans hst
        · exact ha
        · exact hb
    | _ => exact h.elim
  · obtain ⟨h1, N, ⟨h2, h3⟩ | ⟨h2, h3, g₁, h4, h5, h6, h7⟩⟩ := h
    · omega
    · have ea : g.again w = g₁ := by
        rw [h4]
        unfold Goroutine.again
        simp only [h6]
        obtain ⟨fr, cs, st, dy, of⟩ := g₁
        simp only at h5 h6
        subst h5 h6
        rfl
      refine ⟨.w3 wg k, 1, hfl, Nat.le_refl _, ?_, rfl, .inl ⟨rfl, fun _ _ _ _ hs => by cases hs⟩⟩
      rw [ea]
      refine ⟨h1, N, .inl ⟨rfl, ?_⟩⟩
      rw [h3]
      exact fun w₁ h₁ => h7 w₁ h₁
where
  again_parked_all {g₀ : Goroutine} {cases : Array CommCase} {sh : CommShape} (h : ∀ cc ∈ cases, ∃ c, cc.chan = .chan (some c) ∧ ∃ s r, w.heap[c]? = some (.chan 0 #[] false s r false)) : (parked g₀ cases sh).again w = parked g₀ cases sh := by
    unfold Goroutine.again
    simp only [parked]
    rw [if_neg]
    rw [Bool.not_eq_true, Array.any_eq_false]
    intro x hx
    obtain ⟨c, e, s, r, hc⟩ := h cases[x] (Array.getElem_mem hx)
    simp [e, hc]
theorem Sit.w3_fl {wg : Nat} {k : Script} (h : Sit X i O S (.w3 wg k) f fl d g w) (hs : g.status ≠ .blocked) : fl = 1 := by
  obtain ⟨_, _, ⟨h, _⟩ | ⟨_, _, g₁, e, _⟩⟩ := h
  · exact h
  · exact absurd (by rw [e]) hs
theorem Sit.w3_again {wg : Nat} {k : Script} (h : Sit X i O S (.w3 wg k) f fl d g w) : (g.again w).status ≠ .blocked := by
  rcases h.status with e | ⟨e, e'⟩ | ⟨e, ⟨s, e'⟩ | ⟨_, _, _, _, ho⟩⟩
  · rw [again_running w (.inl e), e]; simp
  · cases e'
  · cases e'
  · unfold Goroutine.again
    simp [e, ho]
end
end Go.Proofs.Ytmkjoojoaldljaa.Net
namespace Go.Proofs.Ytmkjoojoaldljaa.Net
open Go.Conc
open Go.ConcN (WgLive sumTo upd upd_same upd_ne sumTo_upd)
open Go.ConcR (KK wgBlock WgAt stA smA rd wr mk DC0)
inductive Stg.Up : Stg → Stg → Prop
  | same (s : Stg) : Up s s
  | up (c : Nat) (ok : Value → Prop) (k : Value → Script) (kc : Script) : Up (.pk (.rcv c ok k kc)) (.wk (.rcv c ok k kc))
theorem Stg.Up.abs {s s' : Stg} (h : Up s s') : s'.abs = s.abs := by cases h <;> rfl
theorem Stg.Up.reg {s s' : Stg} (h : Up s s') (wg : Nat) : s'.Reg wg ↔ s.Reg wg := by cases h <;> exact Iff.rfl
theorem Stg.Up.rel {s s' : Stg} (h : Up s s') (wg : Nat) : s'.Rel wg ↔ s.Rel wg := by cases h <;> exact Iff.rfl
theorem Stg.Up.thru {s s' : Stg} (h : Up s s') (wg : Nat) : s'.Thru wg ↔ s.Thru wg := by cases h <;> exact Iff.rfl
theorem Stg.Up.said {s s' : Stg} (h : Up s s') (wg : Nat) : s'.Said wg ↔ s.Said wg := by cases h <;> exact Iff.rfl
theorem Stg.Up.out {s s' : Stg} (h : Up s s') : s'.Out ↔ s.Out := by cases h <;> exact Iff.rfl
theorem Stg.Up.qt {s : Stg} (h : Up .qt s) : s = .qt := by cases h; rfl
theorem Stg.Up.w3 {s : Stg} {wg : Nat} {k : Script} (h : Up s (.w3 wg k)) : s = .w3 wg k := by cases h; rfl
theorem Stg.Up.a2 {s : Stg} {wg : Nat} {k : Script} (h : Up s (.a2 wg k)) : s = .a2 wg k := by cases h; rfl
theorem Stg.Up.a3 {s : Stg} {wg : Nat} {k : Script} (h : Up s (.a3 wg k)) : s = .a3 wg k := by cases h; rfl
theorem Stg.Up.d2 {s : Stg} {wg : Nat} (h : Up (.d2 wg) s) : s = .d2 wg := by cases h; rfl
theorem Stg.Up.d3 {s : Stg} {wg : Nat} (h : Up (.d3 wg) s) : s = .d3 wg := by cases h; rfl
theorem Stg.Up.d4 {s : Stg} {wg : Nat} (h : Up (.d4 wg) s) : s = .d4 wg := by cases h; rfl
theorem WMode.up {ty : TypeId} {wg v : Nat} {sw sw' : Stg} {stg stg' : Nat → Stg} {n : Nat} {w : World} (h : WMode ty wg v sw stg n w) (hs : Stg.Up sw sw') (hu : ∀ j, j < n → Stg.Up (stg j) (stg' j)) : WMode ty wg v sw' stg' n w := by
  cases h with
  | opn h hr hw => exact .opn (fun x => h ((hs.reg wg).1 x)) (fun j hj x => hr j hj (((hu j hj).rel wg).1 x)) hw
  | reg h hr hv hw => exact .reg ((hs.reg wg).2 h) (fun j hj x => hr j hj (((hu j hj).rel wg).1 x)) hv hw
  | lst h hv j hj hs' huq hw =>
    refine .lst ((hs.reg wg).2 h) hv j hj ?_ (fun j' hj' x => huq j' hj' (((hu j' hj').rel wg).1 x)) hw
    rcases hs' with e | e
    · exact .inl (by have := hu j hj; rw [e] at this; exact this.d2)
    · exact .inr (by have := hu j hj; rw [e] at this; exact this.d3)
  | ls4 h hv j hj e huq hw => exact .ls4 ((hs.reg wg).2 h) hv j hj (by have := hu j hj; rw [e] at this; exact this.d4) (fun j' hj' x => huq j' hj' (((hu j' hj').rel wg).1 x)) hw
  | fin h hv hr hw => exact .fin ((hs.reg wg).2 h) hv (fun j hj x => hr j hj (((hu j hj).rel wg).1 x)) hw
theorem WMode.world {ty : TypeId} {wg v : Nat} {sw : Stg} {stg : Nat → Stg} {n : Nat} {w w' : World} (h : WMode ty wg v sw stg n w) (hw' : w'.heap[wg]? = w.heap[wg]?) : WMode ty wg v sw stg n w' := by
  have e : ∀ st sm, WgAt ty wg w st sm → WgAt ty wg w' st sm := fun st sm x => hw'.trans x
  cases h with
  | opn h hr hw => exact .opn h hr (e _ _ hw)
  | reg h hr hv hw => exact .reg h hr hv (e _ _ hw)
  | lst h hv j hj hs' hu hw => exact .lst h hv j hj hs' hu (e _ _ hw)
  | ls4 h hv j hj hs' hu hw => exact .ls4 h hv j hj hs' hu (e _ _ hw)
  | fin h hv hr hw => exact .fin h hv hr (e _ _ hw)
section
variable {X : Ctx} {b0 : Nat} {Shun : Loc → Prop} {σ : Gst} {gs : Array Goroutine} {w w' : World} {t u : Trace} {i : Nat} {g g' : Goroutine}
theorem Inv.others (I : Inv X b0 Shun σ gs w t) (hu : ∀ op ∈ u, op.g = i) (hag : ∀ j, j < σ.n → j ≠ i → Agree X (OS (σ.own j) (σ.fz j)) w w')
    {ch' : Nat → Option Bool} (hch : ∀ c cl, ch' c = some cl → ∃ s r, w'.heap[c]? = some (.chan 0 #[] cl s r false)) (hcn : ∀ c, σ.ch c ≠ none → ch' c ≠ none)
    (hsnd : ∀ j c v k, j < σ.n → j ≠ i → σ.stg j = .pk (.snd c v k) → ch' c = some false ∧ ∀ d, X.Dead d → ch' d = some false)
    (hw : (∀ c, ch' c = σ.ch c) ∨ (mayWake X.P g = true ∧ g'.status = .running)) :
    ∃ (stg' : Nat → Stg) (fl' : Nat → Nat), ∀ j, j < σ.n → j ≠ i →
      Stg.Up (σ.stg j) (stg' j) ∧ (σ.fl j ≤ fl' j ∧ fl' j ≤ 1 ∧ ((mayWake X.P g && g'.status != .blocked && g'.status != .waiting) = true → ∀ wg k, σ.stg j = .w3 wg k → fl' j = 1)) ∧ ((∀ c, ch' c = σ.ch c) → stg' j = σ.stg j) ∧ (g'.status = .blocked → (∀ c, ch' c = σ.ch c) → fl' j = σ.fl j) ∧ (∀ c ok k kc, stg' j = .pk (.rcv c ok k kc) → ch' c = some false) ∧
      ∃ y, ((gs.map (woken X.P g g' w')).setIfInBounds i g')[j]? = some y ∧ Sit X j (σ.own j) (σ.fz j) (stg' j) (σ.f j) (fl' j) (Deaf (t ++ u) j) y w' := by
  have key : ∀ j, ∃ p : Stg × Nat, j < σ.n → j ≠ i →
      Stg.Up (σ.stg j) p.1 ∧ (σ.fl j ≤ p.2 ∧ p.2 ≤ 1 ∧ ((mayWake X.P g && g'.status != .blocked && g'.status != .waiting) = true → ∀ wg k, σ.stg j = .w3 wg k → p.2 = 1)) ∧ ((∀ c, ch' c = σ.ch c) → p.1 = σ.stg j) ∧ (g'.status = .blocked → (∀ c, ch' c = σ.ch c) → p.2 = σ.fl j) ∧ (∀ c ok k kc, p.1 = .pk (.rcv c ok k kc) → ch' c = some false) ∧
      ∃ y, ((gs.map (woken X.P g g' w')).setIfInBounds i g')[j]? = some y ∧ Sit X j (σ.own j) (σ.fz j) p.1 (σ.f j) p.2 (Deaf (t ++ u) j) y w' := by
    intro j
    by_cases hj : j < σ.n
    case neg => exact ⟨(.qt, 0), fun h => absurd h hj⟩
    by_cases hji : j = i
    · exact ⟨(.qt, 0), fun _ h => absurd hji h⟩
    obtain ⟨y, hy, hs⟩ := I.sit j hj
    have hs' := hs.rely (hag j hj hji)
    have hd : Deaf (t ++ u) j = Deaf t j := Deaf_other t (g' := i) (Ne.symm hji) u hu
    have hget : ((gs.map (woken X.P g g' w')).setIfInBounds i g')[j]? = some (woken X.P g g' w' y) := by
      rw [Array.getElem?_setIfInBounds_ne (Ne.symm hji), Array.getElem?_map, hy]
      rfl
    have stays : woken X.P g g' w' y = y → ((mayWake X.P g && g'.status != .blocked && g'.status != .waiting) = true → ∀ wg k, σ.stg j = .w3 wg k → σ.fl j = 1) → (∀ c ok k kc, σ.stg j = .pk (.rcv c ok k kc) → ch' c = some false) → ∃ p : Stg × Nat, j < σ.n → j ≠ i →
      Stg.Up (σ.stg j) p.1 ∧ (σ.fl j ≤ p.2 ∧ p.2 ≤ 1 ∧ ((mayWake X.P g && g'.status != .blocked && g'.status != .waiting) = true → ∀ wg k, σ.stg j = .w3 wg k → p.2 = 1)) ∧ ((∀ c, ch' c = σ.ch c) → p.1 = σ.stg j) ∧ (g'.status = .blocked → (∀ c, ch' c = σ.ch c) → p.2 = σ.fl j) ∧ (∀ c ok k kc, p.1 = .pk (.rcv c ok k kc) → ch' c = some false) ∧
      ∃ y, ((gs.map (woken X.P g g' w')).setIfInBounds i g')[j]? = some y ∧ Sit X j (σ.own j) (σ.fz j) p.1 (σ.f j) p.2 (Deaf (t ++ u) j) y w' := fun e hwk ho =>
      ⟨(σ.stg j, σ.fl j), fun _ _ => ⟨.same _, ⟨Nat.le_refl _, I.fl1 j hj, hwk⟩, fun _ => rfl, fun _ _ => rfl, ho, y, by rw [hget, e], by rw [hd]; exact hs'⟩⟩
    by_cases hwk : (mayWake X.P g && g'.status != .blocked && g'.status != .waiting) = true
    · have ew : woken X.P g g' w' y = y.again w' := by unfold woken; rw [if_pos hwk]
      have hpk : ∀ c ok k kc, σ.stg j = .pk (.rcv c ok k kc) → ∃ cl s r, ch' c = some cl ∧ w'.heap[c]? = some (.chan 0 #[] cl s r false) := fun c ok k kc e => by
        have := I.pko j c ok k kc hj e
        have hn := hcn c (by rw [this]; simp)
        obtain ⟨cl, hcl⟩ := Option.ne_none_iff_exists'.1 hn
        obtain ⟨s, r, h⟩ := hch c cl hcl
        exact ⟨cl, s, r, hcl, h⟩
      obtain ⟨s', fl', h0, h1, h2, h3, h4⟩ := hs'.again (I.fl1 j hj) (fun c v k e => hch c false (hsnd j c v k hj hji e).1)
        (fun c hc ⟨c', v, k, e⟩ => hch c false ((hsnd j c' v k hj hji e).2 c hc)) (fun c ok k kc e => by obtain ⟨cl, s, r, _, h⟩ := hpk c ok k kc e; exact ⟨cl, s, r, h⟩)
      rcases h4 with ⟨rfl, h4⟩ | ⟨⟨c, ok, k, kc, s₁, r₁, h4, h5⟩, s₀, h6, h7⟩
      · refine ⟨(σ.stg j, fl'), fun _ _ => ⟨.same _, ⟨h0, h1, fun _ wg k e => by have h2' := h2; have hs'' := hs'; rw [e] at h2' hs''; exact h2'.w3_fl hs''.w3_again⟩, fun _ => rfl, fun hb => ?_, fun c ok k kc e => ?_, _, hget, by rw [ew, hd]; exact h2⟩⟩
        · rw [hb] at hwk; simp at hwk
        · obtain ⟨cl, s, r, hcl, hh⟩ := hpk c ok k kc e
          obtain ⟨s₂, r₂, hh'⟩ := h4 c ok k kc e
          rw [hh] at hh'
          have : cl = false := by injection hh' with e'; injection e'
          rw [hcl, this]
      · rw [h7] at h4
        injection h4 with h4'
        subst h4'
        refine ⟨(s', fl'), fun _ _ => ⟨by rw [h6, h7]; exact .up _ _ _ _, ⟨h0, h1, fun _ wg k' e => by rw [h7] at e; cases e⟩, fun hc => ?_, fun hb => ?_, fun c' ok' k' kc' e => ?_, _, hget, by rw [ew, hd]; exact h2⟩⟩
        · exfalso
          have := I.pko j c ok k kc hj h7
          rw [← hc c] at this
          obtain ⟨s₂, r₂, hh⟩ := hch c false this
          rw [hh] at h5
          injection h5 with e'; injection e' with _ _ e3; cases e3
        · rw [hb] at hwk; simp at hwk
        · rw [h6] at e; cases e
    · have ew : woken X.P g g' w' y = y := by unfold woken; rw [if_neg hwk]
      refine stays ew (fun h => absurd h hwk) fun c ok k kc e => ?_
      rcases hw with hw | ⟨hm, hr⟩
      · rw [hw c]; exact I.pko j c ok k kc hj e
      · rw [hm, hr] at hwk; simp at hwk
  refine ⟨fun j => (Classical.choose (key j)).1, fun j => (Classical.choose (key j)).2, fun j hj hji => Classical.choose_spec (key j) hj hji⟩
theorem sumTo_le_one {h : Nat → Nat} : ∀ {n : Nat}, (∀ j, j < n → h j ≤ 1) → sumTo n h ≤ n
  | 0, _ => Nat.le_refl _
  | n + 1, hh => by
    have := sumTo_le_one (n := n) fun j hj => hh j (by omega)
    have := hh n (by omega)
    simp only [sumTo]
    omega
theorem Inv.move (I : Inv X b0 Shun σ gs w t) (hin : i < σ.n) (hu : ∀ op ∈ u, op.g = i) {s' : Stg} {f' fl' : Nat} {own' : Nat → Prop} {ch' : Nat → Option Bool} {v' : Nat → Nat} {grp' vou' : Nat → Nat → Prop}
    (hag : ∀ j, j < σ.n → j ≠ i → Agree X (OS (σ.own j) (σ.fz j)) w w')
    (hch : ∀ c cl, ch' c = some cl → ∃ s r, w'.heap[c]? = some (.chan 0 #[] cl s r false)) (hcn : ∀ c, ch' c ≠ none ↔ σ.ch c ≠ none)
    (hsnd : ∀ j c v k, j < σ.n → j ≠ i → σ.stg j = .pk (.snd c v k) → ch' c = some false ∧ ∀ d, X.Dead d → ch' d = some false)
    (hw : (∀ c, ch' c = σ.ch c) ∨ (mayWake X.P g = true ∧ g'.status = .running))
    (hsit : Sit X i own' (σ.fz i) s' f' fl' (Deaf (t ++ u) i) g' w') (hfl : fl' ≤ 1)
    (hsep : Sep X σ.n (upd σ.own i own') σ.fz (fun c => σ.ch c ≠ none) w'.heap.size) (hti : TI X b0 σ.n Shun (upd σ.own i own') σ.fz (fun c => σ.ch c ≠ none) σ.sd w'.heap.size (t ++ u))
    (hnp : ∀ s, s' ≠ .pk s)
    (hwg : ∀ wg, X.Wg wg → WMode X.ty wg (v' wg) (upd σ.stg i s' (σ.sd wg)) (upd σ.stg i s') σ.n w')
    (hthru : ∀ j wg, j < σ.n → (upd σ.stg i s' j).Thru wg → v' wg = 0)
    (hgrp : ∀ wg j, grp' wg j → Grp X (t ++ u) wg j) (hvou : ∀ k j, k < σ.n → vou' k j → Vou X (t ++ u) k j)
    (hsaid : ∀ j wg, j < σ.n → (upd σ.stg i s' j).Said wg → ∀ k, k = j ∨ vou' j k → Grp X (t ++ u) wg k)
    (htl : ∀ j, b0 ≤ j → j < σ.n → (upd σ.stg i s' j).abs = .dead → ∃ wg r, Pub X (t ++ u) wg j r)
    (hold : 0 < i → i < b0 → s' = .qt) (hawk : ∀ wg k, X.Wg wg → WgAt X.ty wg w' 0 1 → upd σ.stg i s' (σ.sd wg) = .w3 wg k → (σ.sd wg = i ∧ fl' = 1) ∨ (σ.sd wg ≠ i ∧ (σ.fl (σ.sd wg) = 1 ∨ (mayWake X.P g && g'.status != .blocked && g'.status != .waiting) = true))) (hwgx : ∀ wg, (s'.Rel wg → X.Wg wg) ∧ ∀ k, (s' = .a2 wg k ∨ s' = .a3 wg k) → X.Wg wg ∧ σ.sd wg = i) (huns : ∀ j, j < σ.n → ¬ (upd σ.stg i s' j).Out → Unsaid X (t ++ u) j) :
    ∃ σ' : Gst, Inv X b0 Shun σ' ((gs.map (woken X.P g g' w')).setIfInBounds i g') w' (t ++ u) ∧
      σ'.abs = { n := σ.n, pr := upd σ.abs.pr i s'.abs, ch := ch', v := v', sd := σ.sd, grp := grp', vou := vou' } ∧
      ((∀ c, ch' c = σ.ch c) → σ'.stg = upd σ.stg i s') ∧ σ'.n = σ.n ∧ σ'.f = upd σ.f i f' ∧ σ'.v = v' ∧ sumTo σ.n σ'.fl ≤ σ.n ∧ (g'.status = .blocked → (∀ c, ch' c = σ.ch c) → sumTo σ.n σ'.fl + σ.fl i = sumTo σ.n σ.fl + fl') := by
  obtain ⟨stg', flo, H⟩ := I.others (g := g) (g' := g') hu hag hch (fun c h => (hcn c).2 h) hsnd hw
  have hUp : ∀ j, j < σ.n → Stg.Up (upd σ.stg i s' j) (upd stg' i s' j) := by
    intro j hj
    by_cases hji : j = i
    · subst hji; rw [upd_same, upd_same]; exact .same _
    · rw [upd_ne _ _ hji, upd_ne _ _ hji]; exact (H j hj hji).1
  have hsz : ((gs.map (woken X.P g g' w')).setIfInBounds i g').size = σ.n := by simp [I.size]
  refine ⟨{ σ with stg := fun j => if j < σ.n then upd stg' i s' j else σ.stg j, ch := ch', v := v', grp := grp', vou := vou', own := upd σ.own i own', f := upd σ.f i f', fl := upd flo i fl' }, ?_, ?_, fun hc => ?_, rfl, rfl, rfl, ?_, fun hb hc => ?_⟩
  · have hstg : ∀ j, j < σ.n → (if j < σ.n then upd stg' i s' j else σ.stg j) = upd stg' i s' j := fun j hj => if_pos hj
    refine ⟨hsz, I.lo, fun j hj => ?_, fun j hj => ?_, ?_, ?_, hch, fun j c ok k kc hj e => ?_, fun a b c v k ok kj kc ha hb e1 e2 => ?_, fun wg hx => ?_, I.sdl, fun j wg hj hth => ?_, fun j hj => ?_, hgrp, hvou, fun j wg hj hs k hk => ?_, fun j hb hj hd => ?_, fun j h0 hb => ?_, fun wg k hx hw1 hs3 => ?_, fun j wg hj => ?_, fun j hj ho => ?_⟩
    · show ∃ x, _ ∧ Sit X j (upd σ.own i own' j) (σ.fz j) (if j < σ.n then upd stg' i s' j else σ.stg j) (upd σ.f i f' j) (upd flo i fl' j) _ x w'
      rw [hstg j hj]
      by_cases hji : j = i
      · subst hji
        refine ⟨g', Array.getElem?_setIfInBounds_self_of_lt (by simpa [I.size] using hj), ?_⟩
        simp only [upd_same]
        exact hsit
      · obtain ⟨_, _, _, _, _, y, hy, hs⟩ := H j hj hji
        refine ⟨y, hy, ?_⟩
        simp only [upd_ne _ _ hji]
        exact hs
    · show upd flo i fl' j ≤ 1
      by_cases hji : j = i
      · subst hji; rw [upd_same]; exact hfl
      · rw [upd_ne _ _ hji]; exact (H j hj hji).2.1.2.1
    · have e : (fun c => ch' c ≠ none) = fun c => σ.ch c ≠ none := by funext c; exact propext (hcn c)
      show Sep X σ.n _ σ.fz (fun c => ch' c ≠ none) _
      rw [e]; exact hsep
    · have e : (fun c => ch' c ≠ none) = fun c => σ.ch c ≠ none := by funext c; exact propext (hcn c)
      show TI X b0 σ.n Shun _ σ.fz (fun c => ch' c ≠ none) σ.sd _ _
      rw [e]; exact hti
    · have e' : upd stg' i s' j = .pk (.rcv c ok k kc) := by rw [← hstg j hj]; exact e
      by_cases hji : j = i
      · subst hji; rw [upd_same] at e'; exact absurd e' (hnp _)
      · rw [upd_ne _ _ hji] at e'; exact (H j hj hji).2.2.2.2.1 c ok k kc e'
    · have e1' : upd stg' i s' a = .pk (.snd c v k) := by rw [← hstg a ha]; exact e1
      have e2' : upd stg' i s' b = .pk (.rcv c ok kj kc) := by rw [← hstg b hb]; exact e2
      have ha' : a ≠ i := by rintro rfl; rw [upd_same] at e1'; exact absurd e1' (hnp _)
      have hb' : b ≠ i := by rintro rfl; rw [upd_same] at e2'; exact absurd e2' (hnp _)
      rw [upd_ne _ _ ha'] at e1'
      rw [upd_ne _ _ hb'] at e2'
      have u1 := (H a ha ha').1
      have u2 := (H b hb hb').1
      rw [e1'] at u1
      rw [e2'] at u2
      generalize hsa : σ.stg a = x at u1
      generalize hsb : σ.stg b = y at u2
      cases u1
      cases u2
      exact I.pkm a b c v k ok kj kc ha hb hsa hsb
    · have hsd := I.sdl wg hx
      show WMode X.ty wg (v' wg) (if σ.sd wg < σ.n then upd stg' i s' (σ.sd wg) else σ.stg (σ.sd wg)) (fun j => if j < σ.n then upd stg' i s' j else σ.stg j) σ.n w'
      rw [if_pos hsd]
      exact (hwg wg hx).up (hUp _ hsd) fun j hj => by rw [hstg j hj]; exact hUp j hj
    · have hth' : (upd stg' i s' j).Thru wg := by rw [← hstg j hj]; exact hth
      exact hthru j wg hj (((hUp j hj).thru wg).1 hth')
    · rw [Deaf_other t (g' := i) (by rintro rfl; exact absurd hin (Nat.not_lt.2 hj)) u hu]
      exact I.hear j hj
    · have hs' : (upd stg' i s' j).Said wg := by rw [← hstg j hj]; exact hs
      exact hsaid j wg hj (((hUp j hj).said wg).1 hs') k hk
    · have hd' : (upd stg' i s' j).abs = .dead := by rw [← hstg j hj]; exact hd
      exact htl j hb hj (by rw [← (hUp j hj).abs]; exact hd')
    · have hjn : j < σ.n := Nat.lt_of_lt_of_le hb I.lo.2
      show (if j < σ.n then upd stg' i s' j else σ.stg j) = .qt
      rw [hstg j hjn]
      by_cases hji : j = i
      · subst hji; rw [upd_same]; exact hold h0 hb
      · rw [upd_ne _ _ hji]
        have := (H j hjn hji).1
        rw [I.old j h0 hb] at this
        exact this.qt
    · have hsd := I.sdl wg hx
      have hs3' : upd stg' i s' (σ.sd wg) = .w3 wg k := by rw [← hstg _ hsd]; exact hs3
      have hs4 : upd σ.stg i s' (σ.sd wg) = .w3 wg k := by
        have := hUp _ hsd
        rw [hs3'] at this
        exact this.w3
      show upd flo i fl' (σ.sd wg) = 1
      rcases hawk wg k hx hw1 hs4 with ⟨e, h⟩ | ⟨e, h⟩
      · rw [e, upd_same]; exact h
      · rw [upd_ne _ _ e]
        rw [upd_ne _ _ e] at hs4
        obtain ⟨h1, h2, h3⟩ := (H _ hsd e).2.1
        rcases h with h | h
        · omega
        · exact h3 h wg k hs4
    · show ((if j < σ.n then upd stg' i s' j else σ.stg j).Rel wg → X.Wg wg) ∧ ∀ k, ((if j < σ.n then upd stg' i s' j else σ.stg j) = .a2 wg k ∨ (if j < σ.n then upd stg' i s' j else σ.stg j) = .a3 wg k) → X.Wg wg ∧ σ.sd wg = j
      rw [hstg j hj]
      by_cases hji : j = i
      · subst hji; rw [upd_same]; exact hwgx wg
      · rw [upd_ne _ _ hji]
        have hu := (H j hj hji).1
        refine ⟨fun h => (I.wgx j wg hj).1 ((hu.rel wg).1 h), fun k h => (I.wgx j wg hj).2 k ?_⟩
        rcases h with h | h <;> rw [h] at hu
        · exact .inl hu.a2
        · exact .inr hu.a3
    · have ho' : ¬ (upd stg' i s' j).Out := by rw [← hstg j hj]; exact ho
      exact huns j hj fun x => ho' (((hUp j hj).out).2 x)
  · simp only [Gst.abs, Abs.mk.injEq, and_true, true_and]
    funext j
    by_cases hj : j < σ.n
    · rw [if_pos hj, (hUp j hj).abs]
      by_cases hji : j = i
      · subst hji; rw [upd_same, upd_same]
      · rw [upd_ne _ _ hji, upd_ne _ _ hji]
    · rw [if_neg hj, upd_ne _ _ (by rintro rfl; exact hj hin)]
  · funext j
    by_cases hj : j < σ.n
    · show (if j < σ.n then upd stg' i s' j else σ.stg j) = _
      rw [if_pos hj]
      by_cases hji : j = i
      · subst hji; rw [upd_same, upd_same]
      · rw [upd_ne _ _ hji, upd_ne _ _ hji]; exact (H j hj hji).2.2.1 hc
    · show (if j < σ.n then upd stg' i s' j else σ.stg j) = _
      rw [if_neg hj, upd_ne _ _ (by rintro rfl; exact hj hin)]
  · refine sumTo_le_one fun j hj => ?_
    show upd flo i fl' j ≤ 1
    by_cases hji : j = i
    · subst hji; rw [upd_same]; exact hfl
    · rw [upd_ne _ _ hji]; exact (H j hj hji).2.1.2.1
  · have e1 := sumTo_upd flo fl' id hin
    have e2 := sumTo_upd σ.fl fl' id hin
    simp only [id] at e1 e2
    have e3 : sumTo σ.n (fun a => upd flo i fl' a) = sumTo σ.n (fun a => upd σ.fl i fl' a) := ConcN.sumTo_congr fun j hj => by
      by_cases hji : j = i
      · subst hji; rw [upd_same, upd_same]
      · rw [upd_ne _ _ hji, upd_ne _ _ hji]; exact (H j hj hji).2.2.2.1 hb hc
    show sumTo σ.n (fun a => upd flo i fl' a) + σ.fl i = sumTo σ.n σ.fl + fl'
    have e4 : sumTo σ.n (fun a => σ.fl a) = sumTo σ.n σ.fl := rfl
    omega
end
end Go.Proofs.Ytmkjoojoaldljaa.Net
namespace Go.Proofs.Ytmkjoojoaldljaa.Net
open Go.Conc
open Go.ConcN (WgLive sumTo upd upd_same upd_ne sumTo_upd)
open Go.ConcR (KK wgBlock WgAt stA smA rd wr mk DC0)
section
variable {X : Ctx} {n : Nat} {own fz : Nat → Nat → Prop} {ch : Nat → Prop} {hi hi' i : Nat}
theorem Sep.grow (S : Sep X n own fz ch hi) (hh : hi ≤ hi') (hin : i < n) : Sep X n (upd own i (grow (own i) hi hi')) fz ch hi' := by
  have split : ∀ k b, k < n → upd own i (Net.grow (own i) hi hi') k b → own k b ∨ (k = i ∧ hi ≤ b ∧ b < hi') := by
    intro k b _ h
    by_cases hki : k = i
    · subst hki
      rw [upd_same] at h
      exact h.imp id fun x => ⟨rfl, x⟩
    · rw [upd_ne _ _ hki] at h; exact .inl h
  refine ⟨fun k j b hk hj h1 h2 => ?_, fun k j b hk hj h1 h2 => ?_, fun k b hk h1 h2 => ?_, S.fzWg, fun k b hk h1 h2 => ?_, S.fzCh, S.wgCh, fun k b hk h1 => ?_, fun k b hk h => Nat.lt_of_lt_of_le (S.fzLt k b hk h) hh, fun b h => Nat.lt_of_lt_of_le (S.wgLt b h) hh, fun b h => Nat.lt_of_lt_of_le (S.chLt b h) hh, S.chLo⟩
  · rcases split k b hk h1 with p1 | ⟨e1, p1, _⟩ <;> rcases split j b hj h2 with p2 | ⟨e2, p2, _⟩
    · exact S.ownOwn k j b hk hj p1 p2
    · have := S.ownLt k b hk p1; omega
    · have := S.ownLt j b hj p2; omega
    · rw [e1, e2]
  · rcases split k b hk h1 with h1 | ⟨rfl, h1, _⟩
    · exact S.ownFz k j b hk hj h1 h2
    · have := S.fzLt j b hj h2; omega
  · rcases split k b hk h1 with h1 | ⟨rfl, h1, _⟩
    · exact S.ownWg k b hk h1 h2
    · have := S.wgLt b h2; omega
  · rcases split k b hk h1 with h1 | ⟨rfl, h1, _⟩
    · exact S.ownCh k b hk h1 h2
    · have := S.chLt b h2; omega
  · rcases split k b hk h1 with h1 | ⟨rfl, _, h1⟩
    · exact Nat.lt_of_lt_of_le (S.ownLt k b hk h1) hh
    · exact h1
theorem upd_self {α : Type} (f : Nat → α) (i : Nat) : upd f i (f i) = f := by
  funext a
  by_cases h : a = i
  · subst h; rw [upd_same]
  · rw [upd_ne _ _ h]
theorem ofEvent_mark (m : Mark) (a b : Bool) : MemAct.ofEvent ⟨.mark m, a, b⟩ = .mark m := by cases a <;> cases b <;> rfl
theorem opOk_of_evD (S : Sep X n own fz ch hi) (hin : i < n) {wtr : Nat → Nat} {fn : FuncId} {pos : String} {es : Array Event} (h : ∀ e ∈ es, EvD (own i) (fz i) hi hi' e) (hh : hi ≤ hi') :
    ∀ op ∈ MemOp.ofEvents i fn pos es, OpOk X own fz ch wtr hi hi' i op := by
  intro op hop
  obtain ⟨e, he, rfl⟩ := Conc.mem_ofEvents hop
  rcases h e he with ⟨a, hl, hs, ho⟩ | ⟨m, hl, hm⟩
  · obtain ⟨loc, wr', sy⟩ := e
    simp only at hl hs ho
    subst hl hs
    have hlt : a.block < hi' := by
      rcases ho with ho | ho | ⟨ho, _⟩
      · exact Nat.lt_of_lt_of_le (S.ownLt i _ hin ho) hh
      · exact ho.2
      · exact Nat.lt_of_lt_of_le (S.fzLt i _ hin ho) hh
    refine ⟨rfl, hlt, fun b _ => by simp [MemAct.ofEvent], fun x hx => ?_⟩
    simp only [MemAct.ofEvent, MemAct.touch?, Option.some.injEq] at hx
    subst hx
    rcases ho with ho | ho | ⟨ho, hw⟩
    · exact .inl ⟨a, rfl, .inl ho⟩
    · exact .inl ⟨a, rfl, .inr ho.1⟩
    · exact .inr (.inl ⟨a, rfl, ho, hw⟩)
  · obtain ⟨loc, wr', sy⟩ := e
    simp only at hl
    subst hl
    rw [ofEvent_mark]
    unfold Neutral at hm
    subst hm
    exact ⟨rfl, trivial, fun b _ => by simp, fun x hx => by cases hx⟩
theorem ofEvents_g {g : Nat} {fn : FuncId} {pos : String} {es : Array Event} : ∀ op ∈ MemOp.ofEvents g fn pos es, op.g = g := fun op hop => by obtain ⟨e, _, rfl⟩ := Conc.mem_ofEvents hop; rfl
theorem unsaid_evD {t : Trace} {j : Nat} {O S : Nat → Prop} {fn : FuncId} {pos : String} {es : Array Event} (h : Unsaid X t j) (he : ∀ e ∈ es, EvD O S hi hi' e) : Unsaid X (t ++ MemOp.ofEvents i fn pos es) j := by
  refine h.app fun op hop _ wg _ e => ?_
  obtain ⟨ev, hev, rfl⟩ := Conc.mem_ofEvents hop
  rcases he ev hev with ⟨a, hl, hs, _⟩ | ⟨m, hl, hm⟩
  · obtain ⟨loc, wr', sy⟩ := ev
    simp only at hl hs
    subst hl hs
    simp [MemAct.ofEvent] at e
  · obtain ⟨loc, wr', sy⟩ := ev
    simp only at hl
    subst hl
    unfold Neutral at hm
    subst hm
    rw [ofEvent_mark] at e
    cases e
end
theorem WMode.upd_other {ty : TypeId} {wg v sd : Nat} {stg : Nat → Stg} {n i : Nat} {w : World} {s' : Stg} (h : WMode ty wg v (stg sd) stg n w)
    (h1 : ¬ (stg i).Reg wg) (h2 : ¬ (stg i).Rel wg) (h1' : ¬ s'.Reg wg) (h2' : ¬ s'.Rel wg) : WMode ty wg v (upd stg i s' sd) (upd stg i s') n w := by
  have hsd : (stg sd).Reg wg → sd ≠ i := by rintro h rfl; exact h1 h
  have hrel : ∀ j, (upd stg i s' j).Rel wg → (stg j).Rel wg := by
    intro j hj
    by_cases hji : j = i
    · subst hji; rw [upd_same] at hj; exact absurd hj h2'
    · rwa [upd_ne _ _ hji] at hj
  cases h with
  | opn h hr hw =>
    refine .opn ?_ (fun j hj x => hr j hj (hrel j x)) hw
    by_cases hs : sd = i
    · subst hs; rw [upd_same]; exact h1'
    · rw [upd_ne _ _ hs]; exact h
  | reg h hr hv hw => exact .reg (by rw [upd_ne _ _ (hsd h)]; exact h) (fun j hj x => hr j hj (hrel j x)) hv hw
  | lst h hv j hj hs hu hw =>
    have hji : j ≠ i := by
      rintro rfl
      rcases hs with e | e <;> exact h2 (by rw [e]; rfl)
    exact .lst (by rw [upd_ne _ _ (hsd h)]; exact h) hv j hj (by rw [upd_ne _ _ hji]; exact hs) (fun j' hj' x => hu j' hj' (hrel j' x)) hw
  | ls4 h hv j hj hs hu hw =>
    have hji : j ≠ i := by
      rintro rfl
      exact h2 (by rw [hs]; rfl)
    exact .ls4 (by rw [upd_ne _ _ (hsd h)]; exact h) hv j hj (by rw [upd_ne _ _ hji]; exact hs) (fun j' hj' x => hu j' hj' (hrel j' x)) hw
  | fin h hv hr hw => exact .fin (by rw [upd_ne _ _ (hsd h)]; exact h) hv (fun j hj x => hr j hj (hrel j x)) hw
section
variable {A : Abs → Nat} {σ σ' : Gst} {i : Nat}
theorem mu_of_abs (h : A σ'.abs < A σ.abs) : Lt3 (σ'.mu A) (σ.mu A) := Prod.Lex.left _ _ h
theorem mu_of_rank (ha : σ'.abs = σ.abs) (hn : σ'.n = σ.n) (hin : i < σ.n) {s' : Stg} (hs : σ'.stg = upd σ.stg i s') (hv : σ'.v = σ.v) (hr : s'.rank σ.v < (σ.stg i).rank σ.v) : Lt3 (σ'.mu A) (σ.mu A) := by
  unfold Gst.mu
  rw [ha, hn, hs, hv]
  refine Prod.Lex.right _ (Prod.Lex.left _ _ ?_)
  have := sumTo_upd σ.stg s' (fun s => s.rank σ.v) hin
  omega
theorem mu_of_fuel (ha : σ'.abs = σ.abs) (hn : σ'.n = σ.n) (hin : i < σ.n) (hs : σ'.stg = σ.stg) (hv : σ'.v = σ.v) {f' : Nat} (hf : σ'.f = upd σ.f i f') (hlt : f' < σ.f i) (hfl : sumTo σ.n σ'.fl ≤ σ.n) : Lt3 (σ'.mu A) (σ.mu A) := by
  unfold Gst.mu
  rw [ha, hn, hs, hv, hf]
  refine Prod.Lex.right _ (Prod.Lex.right _ ?_)
  have h := sumTo_upd σ.f f' id hin
  simp only [id] at h
  have e1 : sumTo σ.n (fun a => upd σ.f i f' a) = sumTo σ.n (upd σ.f i f') := rfl
  have e2 : sumTo σ.n (fun a => σ.f a) = sumTo σ.n σ.f := rfl
  have h2 : sumTo σ.n (upd σ.f i f') + 1 ≤ sumTo σ.n σ.f := by omega
  have h3 := Nat.mul_le_mul_left (σ.n + 1) h2
  rw [Nat.mul_add] at h3
  show (σ.n + 1) * sumTo σ.n (upd σ.f i f') + sumTo σ.n σ'.fl < (σ.n + 1) * sumTo σ.n σ.f + sumTo σ.n σ.fl
  omega
end
section
variable {X : Ctx} {b0 : Nat} {Shun : Loc → Prop} {σ : Gst} {gs : Array Goroutine} {w w' : World} {t : Trace} {i : Nat} {g g' : Goroutine} {es : Array Event} {sl : Option (Nat × Nat)}
theorem Inv.lt (I : Inv X b0 Shun σ gs w t) (hg : gs[i]? = some g) : i < σ.n := by rw [← I.size]; exact (Array.getElem?_eq_some_iff.1 hg).1
theorem Inv.upto (I : Inv X b0 Shun σ gs w t) (hne : σ.stg i ≠ .qt) : i = 0 ∨ b0 ≤ i := by
  rcases Nat.eq_zero_or_pos i with h | h
  · exact .inl h
  · exact .inr (Nat.le_of_not_lt fun hlt => hne (I.old i h hlt))
theorem Inv.at (I : Inv X b0 Shun σ gs w t) (d : Nat) : Inv X b0 Shun σ gs (w.at d) t :=
  ⟨I.size, I.lo, fun j hj => by obtain ⟨y, hy, hs⟩ := I.sit j hj; exact ⟨y, hy, hs.rely (Agree.at _ _ _ _)⟩, I.fl1, I.sep, I.ti, I.chn, I.pko, I.pkm, fun wg hx => (I.wgs wg hx).world rfl, I.sdl, I.thru, I.hear, I.grp, I.vou, I.said, I.tl, I.old, I.awk, I.wgx, I.uns⟩
theorem Inv.idle (I : Inv X b0 Shun σ gs w t) (hok : AOk X σ.abs) (hg : gs[i]? = some g) (hst : stepG X.P (i == 0) g w = .go g' w' es) (hne : σ.stg i ≠ .qt) (hnpk : ∀ s, σ.stg i ≠ .pk s)
    (hdo : Does X (σ.own i) (σ.fz i) w w' es) (hsil : (σ.stg i).Out → es = #[]) {f' : Nat} (hlt : f' < σ.f i)
    (hsit : Sit X i (grow (σ.own i) w.heap.size w'.heap.size) (σ.fz i) (σ.stg i) f' (σ.fl i) (Deaf t i) g' w') (A : Abs → Nat) :
    ∃ m' ops σ', runT X.P (crowd gs w sl) i = (.next m', ops) ∧ (∃ gs' sl', m' = crowd gs' w' sl' ∧ Inv X b0 Shun σ' gs' w' (t ++ ops)) ∧ σ'.abs = σ.abs ∧ Lt3 (σ'.mu A) (σ.mu A) := by
  have hin := I.lt hg
  have hrun := runT_crowd_go (P := X.P) (sl := sl) hg hst
  generalize hops : MemOp.ofEvents i g.frame.fn g.frame.place es = u at hrun
  have hu : ∀ op ∈ u, op.g = i := by rw [← hops]; exact ofEvents_g
  have hdeaf : Deaf (t ++ u) i = Deaf t i := by
    rw [← hops, Deaf_own]
    refine deafBehind_still (fun e he => ?_) _
    rcases hdo.evs e he with ⟨a, hl, _⟩ | ⟨m, hl, hm⟩
    · rw [hl]; simp
    · rw [hl]; unfold Neutral at hm; subst hm; simp
  have hpub : ∀ wg j r, Pub X t wg j r → Pub X (t ++ u) wg j r := by
    by_cases ho : (σ.stg i).Out
    · have := hsil ho
      subst this
      have e : u = #[] := by rw [← hops]; rfl
      subst e
      simp
    · exact Pub.keep hu (.inl (I.uns i hin ho))
  have hcell : ∀ c, σ.ch c ≠ none → w'.heap[c]? = w.heap[c]? := fun c hc => hdo.blk c (I.sep.chLt c hc) fun ho => I.sep.ownCh i c hin ho hc
  obtain ⟨σ', I', ha, hs, hn, hf, hv, hfl, _⟩ := I.move (g := g) (g' := g') (w' := w') (u := u) (s' := σ.stg i) (f' := f') (fl' := σ.fl i) (own' := grow (σ.own i) w.heap.size w'.heap.size) (ch' := σ.ch) (v' := σ.v) (grp' := σ.grp) (vou' := σ.vou) hin hu
    (fun j hj hji => hdo.agree fun b hb => by
      rcases hb with hb | hb
      · exact ⟨I.sep.ownLt j b hj hb, fun ho => hji (I.sep.ownOwn j i b hj hin hb ho)⟩
      · exact ⟨I.sep.fzLt j b hj hb, fun ho => I.sep.ownFz i j b hin hj ho hb⟩)
    (fun c cl hc => by obtain ⟨s, r, h⟩ := I.chn c cl hc; exact ⟨s, r, (hcell c (by rw [hc]; simp)).trans h⟩) (fun _ => Iff.rfl)
    (fun j c v k hj _ hpk => by
      have e : σ.abs.pr j = .at (.snd c v k) := by simp only [Gst.abs, hpk, Stg.abs]
      refine ⟨(hok.snd j c v k hj e).1, fun d hd => ?_⟩
      rcases hok.dead d hd with h | h
      · exact h
      · exact absurd e (h.2 j c v k hj))
    (.inl fun _ => rfl) (by rw [hdeaf]; exact hsit) (I.fl1 i hin) (I.sep.grow hdo.size hin)
    (by rw [← hops]; exact I.ti.app I.sep hdo.size hin (I.upto hne) (opOk_of_evD I.sep hin hdo.evs hdo.size))
    hnpk
    (fun wg hx => by rw [upd_self]; exact (I.wgs wg hx).world (hdo.live wg hx))
    (fun j wg hj hth => by rw [upd_self] at hth; exact I.thru j wg hj hth)
    (fun wg j h => (I.grp wg j h).keep hpub) (fun k j hk h => (I.vou k j hk h).keep hpub)
    (fun j wg hj hs k hk => by rw [upd_self] at hs; exact (I.said j wg hj hs k hk).keep hpub)
    (fun j hb hj hd => by rw [upd_self] at hd; obtain ⟨wg, r, h⟩ := I.tl j hb hj hd; exact ⟨wg, r, hpub _ _ _ h⟩)
    (fun h0 hb => I.old i h0 hb) (fun wg k hx hw1 hs3 => by
      rw [upd_self] at hs3
      have h1 := I.awk wg k hx ((hdo.live wg hx).symm.trans hw1) hs3
      by_cases e : σ.sd wg = i
      · exact .inl ⟨e, by rw [← e]; exact h1⟩
      · exact .inr ⟨e, .inl h1⟩) (fun wg => I.wgx i wg hin)
    (fun j hj ho => by rw [upd_self] at ho; rw [← hops]; exact unsaid_evD (I.uns j hj ho) hdo.evs)
  have ha' : σ'.abs = σ.abs := by
    rw [ha]
    show _ = σ.abs
    have : upd σ.abs.pr i (σ.stg i).abs = σ.abs.pr := upd_self σ.abs.pr i
    rw [this]
    rfl
  exact ⟨_, _, σ', hrun, ⟨_, sl, rfl, I'⟩, ha', mu_of_fuel ha' hn hin (by rw [hs fun _ => rfl, upd_self]) hv hf hlt hfl⟩
end
end Go.Proofs.Ytmkjoojoaldljaa.Net
namespace Go.Proofs.Ytmkjoojoaldljaa.Net
open Go.Conc
open Go.ConcN (WgLive sumTo upd upd_same upd_ne sumTo_upd)
open Go.ConcR (KK wgBlock WgAt stA smA rd wr mk DC0)
def EvG (sd : Nat → Nat) (i wg : Nat) (e : Event) : Prop :=
  (∃ a wr', e = ⟨.cell a, wr', true⟩ ∧ a.block = wg) ∨ (∃ m, e = mk m ∧ (m = .disable ∨ m = .enable ∨ m = .releaseMerge (stA wg) ∨ m = .acquire (stA wg) ∨ ((m = .read (smA wg) ∨ m = .write (smA wg)) ∧ sd wg = i)))
theorem opOk_of_evG {X : Ctx} {own fz : Nat → Nat → Prop} {ch : Nat → Prop} {hi i wg : Nat} {sd : Nat → Nat} (hx : X.Wg wg) (hlt : wg < hi) {fn : FuncId} {pos : String} {es : Array Event} (h : ∀ e ∈ es, EvG sd i wg e) :
    ∀ op ∈ MemOp.ofEvents i fn pos es, OpOk X own fz ch sd hi hi i op := by
  intro op hop
  obtain ⟨e, he, rfl⟩ := Conc.mem_ofEvents hop
  rcases h e he with ⟨a, wr', rfl, ha⟩ | ⟨m, rfl, hm⟩
  · refine ⟨rfl, by show a.block < hi; omega, fun b _ => by simp [MemAct.ofEvent], fun x hx' => ?_⟩
    simp only [MemAct.ofEvent, MemAct.touch?, Option.some.injEq, if_true] at hx'
    subst hx'
    exact .inr (.inr (.inl ⟨a, rfl, by rw [ha]; exact hx, by simp, by simp⟩))
  · have e' : MemAct.ofEvent (mk m) = .mark m := ofEvent_mark m false true
    rw [e']
    have bst : (stA wg).block = wg := rfl
    have bsm : (smA wg).block = wg := rfl
    rcases hm with rfl | rfl | rfl | rfl | ⟨rfl | rfl, hs⟩
    · exact ⟨rfl, trivial, fun b _ => by simp, fun x hx' => by cases hx'⟩
    · exact ⟨rfl, trivial, fun b _ => by simp, fun x hx' => by cases hx'⟩
    · exact ⟨rfl, hlt, fun b _ => by simp, fun x hx' => by cases hx'⟩
    · exact ⟨rfl, hlt, fun b _ => by simp, fun x hx' => by cases hx'⟩
    · refine ⟨rfl, hlt, fun b _ => by simp, fun x hx' => ?_⟩
      simp only [MemAct.touch?, Option.some.injEq] at hx'
      subst hx'
      exact .inr (.inr (.inl ⟨smA wg, rfl, hx, by simp, fun _ => hs⟩))
    · refine ⟨rfl, hlt, fun b _ => by simp, fun x hx' => ?_⟩
      simp only [MemAct.touch?, Option.some.injEq] at hx'
      subst hx'
      exact .inr (.inr (.inl ⟨smA wg, rfl, hx, by simp, fun _ => hs⟩))
theorem unsaid_evG {X : Ctx} {t : Trace} {j i wg : Nat} {sd : Nat → Nat} {fn : FuncId} {pos : String} {es : Array Event} (h : Unsaid X t j) (he : ∀ e ∈ es, EvG sd i wg e) (hr : j = i → ∀ wg', mk (.releaseMerge (stA wg')) ∉ es) :
    Unsaid X (t ++ MemOp.ofEvents i fn pos es) j := by
  refine h.app fun op hop hj wg' _ e => ?_
  obtain ⟨ev, hev, rfl⟩ := Conc.mem_ofEvents hop
  rcases he ev hev with ⟨a, wr', rfl, _⟩ | ⟨m, rfl, _⟩
  · simp [MemAct.ofEvent] at e
  · have e' : MemAct.ofEvent (mk m) = .mark m := ofEvent_mark m false true
    simp only [e', MemAct.mark.injEq] at e
    subst e
    exact hr hj.symm wg' hev
section
variable {X : Ctx} {b0 : Nat} {Shun : Loc → Prop} {σ : Gst} {gs : Array Goroutine} {w w' : World} {t : Trace} {i : Nat} {g g' : Goroutine} {es : Array Event} {sl : Option (Nat × Nat)}
def OnWg (wg : Nat) (w w' : World) : Prop := w' = w ∨ ∃ a u, a.block = wg ∧ w' = w.setCell a u
theorem OnWg.blk {wg : Nat} (h : OnWg wg w w') {b : Nat} (hb : b ≠ wg) : w'.heap[b]? = w.heap[b]? := by
  rcases h with rfl | ⟨a, u, ha, rfl⟩
  · rfl
  · exact RowKit.Below.heap_setCell w a u b (by omega)
theorem OnWg.same {wg : Nat} (h : OnWg wg w w') : w'.tape = w.tape ∧ w'.os = w.os ∧ w'.output = w.output ∧ w'.heap.size = w.heap.size := by
  rcases h with rfl | ⟨a, u, ha, rfl⟩
  · exact ⟨rfl, rfl, rfl, rfl⟩
  · exact ⟨rfl, rfl, rfl, by simp [World.setCell]⟩
theorem OnWg.agree {wg : Nat} (h : OnWg wg w w') {T : Nat → Prop} (hT : ¬ T wg) (hl : WgLive X.ty wg w') : Agree X T w w' := by
  obtain ⟨h1, h2, h3, h4⟩ := h.same
  refine ⟨h1, h2, h3, by omega, fun b hb => h.blk (by rintro rfl; exact hT hb), fun b _ hb => ?_⟩
  by_cases e : b = wg
  · subst e; exact hl
  · exact wgLive_of_heap (h.blk e) hb
theorem Inv.osWg (I : Inv X b0 Shun σ gs w t) {j wg : Nat} (hj : j < σ.n) (hx : X.Wg wg) : ¬ OS (σ.own j) (σ.fz j) wg := by
  rintro (h | h)
  · exact I.sep.ownWg j wg hj h hx
  · exact I.sep.fzWg j wg hj h hx
theorem Inv.wgStep (I : Inv X b0 Shun σ gs w t) (hok : AOk X σ.abs) (hg : gs[i]? = some g) (hst : stepG X.P (i == 0) g w = .go g' w' es) (hne : σ.stg i ≠ .qt) {wg : Nat} (hx : X.Wg wg) (hw : OnWg wg w w')
    (hes : ∀ e ∈ es, EvG σ.sd i wg e) {s' : Stg} {f' fl' : Nat} {v' : Nat → Nat} {grp' vou' : Nat → Nat → Prop}
    (hsit : ∀ u, u = MemOp.ofEvents i g.frame.fn g.frame.place es → Sit X i (σ.own i) (σ.fz i) s' f' fl' (Deaf (t ++ u) i) g' w') (hfl : fl' ≤ 1) (hnp : ∀ s, s' ≠ .pk s)
    (hoth : ∀ wg', X.Wg wg' → wg' ≠ wg → ¬ (σ.stg i).Reg wg' ∧ ¬ (σ.stg i).Rel wg' ∧ ¬ s'.Reg wg' ∧ ¬ s'.Rel wg' ∧ v' wg' = σ.v wg')
    (hmode : WMode X.ty wg (v' wg) (upd σ.stg i s' (σ.sd wg)) (upd σ.stg i s') σ.n w')
    (hthru : ∀ j wg, j < σ.n → (upd σ.stg i s' j).Thru wg → v' wg = 0)
    (hrest : ∀ u, u = MemOp.ofEvents i g.frame.fn g.frame.place es → (∀ wg j, grp' wg j → Grp X (t ++ u) wg j) ∧ (∀ k j, k < σ.n → vou' k j → Vou X (t ++ u) k j) ∧
      (∀ j wg, j < σ.n → (upd σ.stg i s' j).Said wg → ∀ k, k = j ∨ vou' j k → Grp X (t ++ u) wg k) ∧ (∀ j, b0 ≤ j → j < σ.n → (upd σ.stg i s' j).abs = .dead → ∃ wg r, Pub X (t ++ u) wg j r))
    (hrel : ¬ s'.Out → ∀ wg', ConcR.mk (.releaseMerge (stA wg')) ∉ es) (hout : (σ.stg i).Out → s'.Out) (hawk : WgAt X.ty wg w' 0 1 → (WgAt X.ty wg w 0 1 ∧ ((∃ k, s' = .w3 wg k) → fl' = 1)) ∨ ((mayWake X.P g && g'.status != .blocked && g'.status != .waiting) = true ∧ σ.sd wg ≠ i)) (hwgx : ∀ wg, (s'.Rel wg → X.Wg wg) ∧ ∀ k, (s' = .a2 wg k ∨ s' = .a3 wg k) → X.Wg wg ∧ σ.sd wg = i) :
    ∃ m' ops σ', runT X.P (crowd gs w sl) i = (.next m', ops) ∧ (∃ gs' sl', m' = crowd gs' w' sl' ∧ Inv X b0 Shun σ' gs' w' (t ++ ops)) ∧
      σ'.abs = { n := σ.n, pr := upd σ.abs.pr i s'.abs, ch := σ.ch, v := v', sd := σ.sd, grp := grp', vou := vou' } ∧ σ'.stg = upd σ.stg i s' ∧ σ'.n = σ.n ∧ σ'.f = upd σ.f i f' ∧ σ'.v = v' ∧
      sumTo σ.n σ'.fl ≤ σ.n ∧ (g'.status = .blocked → sumTo σ.n σ'.fl + σ.fl i = sumTo σ.n σ.fl + fl') := by
  have hin := I.lt hg
  have hrun := runT_crowd_go (P := X.P) (sl := sl) hg hst
  generalize hops : MemOp.ofEvents i g.frame.fn g.frame.place es = u at hrun
  have hu : ∀ op ∈ u, op.g = i := by rw [← hops]; exact ofEvents_g
  obtain ⟨_, _, _, hsz⟩ := hw.same
  obtain ⟨r1, r2, r3, r4⟩ := hrest u hops.symm
  have hti : TI X b0 σ.n Shun (upd σ.own i (grow (σ.own i) w.heap.size w.heap.size)) σ.fz (fun c => σ.ch c ≠ none) σ.sd w.heap.size (t ++ u) := by
    rw [← hops]; exact I.ti.app I.sep (Nat.le_refl _) hin (I.upto hne) (opOk_of_evG hx (I.sep.wgLt wg hx) hes)
  rw [grow_same, upd_self] at hti
  obtain ⟨σ', I', ha, hs, hn, hf, hv, hfl', hflb⟩ := I.move (g := g) (g' := g') (w' := w') (u := u) (s' := s') (f' := f') (fl' := fl') (own' := σ.own i) (ch' := σ.ch) (v' := v') (grp' := grp') (vou' := vou') hin hu
    (fun j hj _ => hw.agree (I.osWg hj hx) hmode.live)
    (fun c cl hc => by
      obtain ⟨s, r, h⟩ := I.chn c cl hc
      exact ⟨s, r, (hw.blk (by rintro rfl; exact I.sep.wgCh c hx (by rw [hc]; simp))).trans h⟩) (fun _ => Iff.rfl)
    (fun j c v k hj _ hpk => by
      have e : σ.abs.pr j = .at (.snd c v k) := by simp only [Gst.abs, hpk, Stg.abs]
      refine ⟨(hok.snd j c v k hj e).1, fun d hd => ?_⟩
      rcases hok.dead d hd with h | h
      · exact h
      · exact absurd e (h.2 j c v k hj))
    (.inl fun _ => rfl) (hsit u hops.symm) hfl (by rw [upd_self, hsz]; exact I.sep) (by rw [upd_self, hsz]; exact hti) hnp
    (fun wg' hx' => by
      by_cases e : wg' = wg
      · subst e; exact hmode
      · obtain ⟨a1, a2, a3, a4, a5⟩ := hoth wg' hx' e
        rw [a5]
        exact ((I.wgs wg' hx').upd_other a1 a2 a3 a4).world (hw.blk e))
    hthru r1 r2 r3 r4
    (fun h0 hb => absurd (I.old i h0 hb) hne)
    (fun wg' k hx' hw1 hs3 => by
      by_cases e : σ.sd wg' = i
      · refine .inl ⟨e, ?_⟩
        rw [e, upd_same] at hs3
        by_cases e' : wg' = wg
        · subst e'
          rcases hawk hw1 with ⟨_, h⟩ | ⟨_, h⟩
          · exact h ⟨k, hs3⟩
          · exact absurd e h
        · exact absurd (by rw [hs3]; rfl : s'.Reg wg') (hoth wg' hx' e').2.2.1
      · refine .inr ⟨e, ?_⟩
        rw [upd_ne _ _ e] at hs3
        by_cases e' : wg' = wg
        · subst e'
          rcases hawk hw1 with ⟨h, _⟩ | ⟨h, _⟩
          · exact .inl (I.awk wg' k hx' h hs3)
          · exact .inr h
        · exact .inl (I.awk wg' k hx' ((hw.blk e').symm.trans hw1) hs3)) hwgx
    (fun j hj ho => by
      rw [← hops]
      by_cases hji : j = i
      · subst hji
        rw [upd_same] at ho
        exact unsaid_evG (I.uns j hj fun x => ho (hout x)) hes fun _ => hrel ho
      · rw [upd_ne _ _ hji] at ho
        exact unsaid_evG (I.uns j hj ho) hes fun e => absurd e hji)
  exact ⟨_, _, σ', hrun, ⟨_, sl, rfl, I'⟩, ha, hs fun _ => rfl, hn, hf, hv, hfl', fun hb => hflb hb fun _ => rfl⟩
end
end Go.Proofs.Ytmkjoojoaldljaa.Net
namespace Go.Proofs.Ytmkjoojoaldljaa.Net
open Go.Conc
open Go.ConcN (WgLive sumTo upd upd_same upd_ne sumTo_upd)
open Go.ConcR (KK wgBlock WgAt stA smA rd wr mk DC0)
def Goal (X : Ctx) (b0 : Nat) (Shun : Loc → Prop) (A : Abs → Nat) (σ : Gst) (gs : Array Goroutine) (w : World) (t : Trace) (i : Nat) (sl : Option (Nat × Nat)) : Prop :=
  ∃ m' ops σ', runT X.P (crowd gs w sl) i = (.next m', ops) ∧ (∃ gs' w' sl', m' = crowd gs' w' sl' ∧ Inv X b0 Shun σ' gs' w' (t ++ ops)) ∧ ((σ'.abs = σ.abs ∧ Lt3 (σ'.mu A) (σ.mu A)) ∨ AStep σ.abs σ'.abs)
theorem goes_now {P : Program} {main : Bool} {R : World → World → Prop} {D : World → World → Array Event → Prop} {Stop : Goroutine → World → Prop} {n : Nat} {g : Goroutine} {w : World} (h : Goes P main R D Stop n g w) (hr : R w w) :
    Stop g w ∨ ∃ m g' w' es, n = m + 1 ∧ stepG P main g w = .go g' w' es ∧ D w w' es ∧ Goes P main R D Stop m g' w' := by
  cases n with
  | zero => exact .inl (h w hr)
  | succ n =>
    rcases h with h | ⟨_, h⟩
    · exact .inl (h w hr)
    · obtain ⟨g', w', es, hs, hd, hg⟩ := goes_elim (h w hr)
      exact .inr ⟨n, g', w', es, rfl, hs, hd, hg⟩
theorem ofEvents_one (g : Nat) (fn : FuncId) (pos : String) (e : Event) : MemOp.ofEvents g fn pos #[e] = #[{ g, fn, pos, act := .ofEvent e }] := by rw [ofEvents_eq]; simp
theorem ofEvents_nil (g : Nat) (fn : FuncId) (pos : String) : MemOp.ofEvents g fn pos #[] = #[] := rfl
theorem ofEvent_mk (m : Mark) : MemAct.ofEvent (mk m) = .mark m := ofEvent_mark m false true
theorem deaf_mk (t : Trace) (g : Nat) (fn : FuncId) (pos : String) {m : Mark} (h1 : m ≠ .disable) (h2 : m ≠ .enable) : Deaf (t ++ MemOp.ofEvents g fn pos #[mk m]) g = Deaf t g := by
  rw [Deaf_own]; exact deafBehind_still (fun e he => by simp at he; subst he; exact ⟨by simpa [mk] using h1, by simpa [mk] using h2⟩) _
theorem deaf_disable (t : Trace) (g : Nat) (fn : FuncId) (pos : String) : Deaf (t ++ MemOp.ofEvents g fn pos #[mk .disable]) g = Deaf t g + 1 := by rw [Deaf_own]; rfl
theorem deaf_enable (t : Trace) (g : Nat) (fn : FuncId) (pos : String) : Deaf (t ++ MemOp.ofEvents g fn pos #[mk .enable]) g = Deaf t g - 1 := by rw [Deaf_own]; rfl
theorem deaf_sem (t : Trace) (g : Nat) (fn : FuncId) (pos : String) (a : Addr) : Deaf (t ++ MemOp.ofEvents g fn pos (semEvents a)) g = Deaf t g := by rw [Deaf_own]; rfl
theorem deaf_rd (t : Trace) (g : Nat) (fn : FuncId) (pos : String) (a : Addr) : Deaf (t ++ MemOp.ofEvents g fn pos #[rd a]) g = Deaf t g := by rw [Deaf_own]; rfl
theorem deaf_wr (t : Trace) (g : Nat) (fn : FuncId) (pos : String) (a : Addr) : Deaf (t ++ MemOp.ofEvents g fn pos #[wr a]) g = Deaf t g := by rw [Deaf_own]; rfl
theorem deaf_rw (t : Trace) (g : Nat) (fn : FuncId) (pos : String) (a : Addr) : Deaf (t ++ MemOp.ofEvents g fn pos #[rd a, wr a]) g = Deaf t g := by rw [Deaf_own]; rfl
section
variable {sd : Nat → Nat} {i wg : Nat}
theorem evG_rd (a : Addr) (ha : a.block = wg) : EvG sd i wg (rd a) := .inl ⟨a, false, rfl, ha⟩
theorem evG_wr (a : Addr) (ha : a.block = wg) : EvG sd i wg (wr a) := .inl ⟨a, true, rfl, ha⟩
theorem evG_disable : EvG sd i wg (mk .disable) := .inr ⟨_, rfl, .inl rfl⟩
theorem evG_enable : EvG sd i wg (mk .enable) := .inr ⟨_, rfl, .inr (.inl rfl)⟩
theorem evG_release : EvG sd i wg (mk (.releaseMerge (stA wg))) := .inr ⟨_, rfl, .inr (.inr (.inl rfl))⟩
theorem evG_acquire : EvG sd i wg (mk (.acquire (stA wg))) := .inr ⟨_, rfl, .inr (.inr (.inr (.inl rfl)))⟩
theorem evG_one {e : Event} (h : EvG sd i wg e) : ∀ x ∈ #[e], EvG sd i wg x := by intro x hx; simp at hx; subst hx; exact h
theorem evG_two {e e' : Event} (h : EvG sd i wg e) (h' : EvG sd i wg e') : ∀ x ∈ #[e, e'], EvG sd i wg x := by intro x hx; simp at hx; rcases hx with rfl | rfl <;> assumption
theorem evG_sem (a : Addr) (ha : a.block = wg) : ∀ x ∈ semEvents a, EvG sd i wg x := by
  intro x hx
  simp [semEvents] at hx
  rcases hx with rfl | rfl | rfl | rfl
  · exact evG_disable
  · exact evG_rd a ha
  · exact evG_wr a ha
  · exact evG_enable
end
section
variable {X : Ctx} {t : Trace} {i : Nat} {fn : FuncId} {pos : String} {es : Array Event}
theorem touchless_mk {m : Mark} (h : (MemAct.mark m).touch? = none) : ∀ op ∈ MemOp.ofEvents i fn pos #[mk m], op.act.touch? = none := by
  rw [ofEvents_one]
  intro op hop
  simp at hop
  rw [hop, ofEvent_mk]
  exact h
theorem Pub.keepDeaf (he : ∀ e ∈ es, (MemAct.ofEvent e).touch? = none ∨ ∃ a wr', e = ⟨.cell a, wr', true⟩ ∧ X.Wg a.block) (hd : ∀ j, (hj : j < es.size) → (MemAct.ofEvent es[j]).touch? ≠ none → deafBehind (Deaf t i) (es.extract 0 j) ≠ 0) :
    ∀ wg j r, Pub X t wg j r → Pub X (t ++ MemOp.ofEvents i fn pos es) wg j r := by
  intro wg j r hp
  by_cases hji : j = i
  · subst hji
    refine hp.app fun k hk hg x hx => ?_
    rcases touchAt_app hx with ⟨h, _⟩ | ⟨_, op, hop, hko, hox⟩
    · omega
    · obtain ⟨e, hee, rfl⟩ := Conc.mem_ofEvents hop
      rcases he e hee with h | ⟨a, wr', rfl, ha⟩
      · rw [h] at hox; cases hox
      · simp only [MemAct.ofEvent, MemAct.touch?, Option.some.injEq, if_true] at hox
        subst hox
        refine ⟨⟨a, rfl, ha⟩, rfl, ?_⟩
        rintro ⟨g', hg', hh⟩
        rw [hg] at hg'
        obtain rfl := Option.some.inj hg'
        obtain ⟨m, rfl⟩ : ∃ m, k = t.size + m := ⟨k - t.size, by omega⟩
        have hlt : t.size + m < (t ++ MemOp.ofEvents j fn pos es).size := lt_size_of_getElem? hko
        have hm : m < es.size := by simpa [ofEvents_eq] using hlt
        rw [deaf_inside t j fn pos es m (Nat.le_of_lt hm)] at hh
        refine hd m hm ?_ hh
        rw [Array.getElem?_append_right (by omega), ofEvents_eq] at hko
        have : (es.map fun e => ({ g := j, fn, pos, act := .ofEvent e } : MemOp))[m]? = some { g := j, fn, pos, act := .ofEvent es[m] } := by simp [hm]
        rw [show t.size + m - t.size = m from by omega, this] at hko
        have e2 := (MemOp.mk.inj (Option.some.inj hko)).2.2.2
        rw [e2]
        simp [MemAct.ofEvent, MemAct.touch?]
  · exact hp.other fun op hop => .inl (by rw [ofEvents_g op hop]; exact fun e => hji e.symm)
end
section
variable {X : Ctx} {b0 : Nat} {Shun : Loc → Prop} {σ : Gst} {gs : Array Goroutine} {w : World} {t : Trace} {i : Nat} {g : Goroutine} {sl : Option (Nat × Nat)} {A : Abs → Nat}
theorem Inv.silent (I : Inv X b0 Shun σ gs w t) (hok : AOk X σ.abs) (hg : gs[i]? = some g) (hne : σ.stg i ≠ .qt) (hnpk : ∀ s, σ.stg i ≠ .pk s) {n : Nat} {g' : Goroutine} {w' : World} {es : Array Event}
    (hst : stepG X.P (i == 0) g w = .go g' w' es) (hd : DC0 w w' es) (hlt : n < σ.f i) (hsit : w' = w → Sit X i (σ.own i) (σ.fz i) (σ.stg i) n (σ.fl i) (Deaf t i) g' w) : Goal X b0 Shun A σ gs w t i sl := by
  obtain ⟨rfl, rfl⟩ := hd
  obtain ⟨m', ops, σ', h1, ⟨gs', sl', h2, h3⟩, h4, h5⟩ := I.idle (sl := sl) hok hg hst hne hnpk (Does.idle _ _ _ _) (fun _ => rfl) hlt (by rw [grow_same]; exact hsit rfl) A
  exact ⟨m', ops, σ', h1, ⟨gs', _, sl', h2, h3⟩, .inl ⟨h4, h5⟩⟩
theorem Inv.sitOf (I : Inv X b0 Shun σ gs w t) (hg : gs[i]? = some g) : Sit X i (σ.own i) (σ.fz i) (σ.stg i) (σ.f i) (σ.fl i) (Deaf t i) g w := by
  obtain ⟨y, hy, hs⟩ := I.sit i (I.lt hg)
  rw [hg] at hy
  cases hy
  exact hs
theorem abs_upd_same {s' : Stg} (h : s'.abs = (σ.stg i).abs) : upd σ.abs.pr i s'.abs = σ.abs.pr := by
  rw [h]; exact upd_self σ.abs.pr i
theorem Inv.restMute (I : Inv X b0 Shun σ gs w t) {u : Trace} (hpub : ∀ wg j r, Pub X t wg j r → Pub X (t ++ u) wg j r) {s' : Stg} (hsd : ∀ wg, s'.Said wg → (σ.stg i).Said wg) (hab : s'.abs = .dead → (σ.stg i).abs = .dead) :
    (∀ wg j, σ.grp wg j → Grp X (t ++ u) wg j) ∧ (∀ k j, k < σ.n → σ.vou k j → Vou X (t ++ u) k j) ∧
      (∀ j wg, j < σ.n → (upd σ.stg i s' j).Said wg → ∀ k, k = j ∨ σ.vou j k → Grp X (t ++ u) wg k) ∧ (∀ j, b0 ≤ j → j < σ.n → (upd σ.stg i s' j).abs = .dead → ∃ wg r, Pub X (t ++ u) wg j r) := by
  refine ⟨fun wg j h => (I.grp wg j h).keep hpub, fun k j hk h => (I.vou k j hk h).keep hpub, fun j wg hj hs k hk => ?_, fun j hb hj hd => ?_⟩
  · refine (I.said j wg hj ?_ k hk).keep hpub
    by_cases e : j = i
    · subst e; rw [upd_same] at hs; exact hsd wg hs
    · rwa [upd_ne _ _ e] at hs
  · have : (σ.stg j).abs = .dead := by
      by_cases e : j = i
      · subst e; rw [upd_same] at hd; exact hab hd
      · rwa [upd_ne _ _ e] at hd
    obtain ⟨wg, r, h⟩ := I.tl j hb hj this
    exact ⟨wg, r, hpub _ _ _ h⟩
theorem Inv.thruMove (I : Inv X b0 Shun σ gs w t) {s' : Stg} (h : ∀ wg, s'.Thru wg → σ.v wg = 0) : ∀ j wg, j < σ.n → (upd σ.stg i s' j).Thru wg → σ.v wg = 0 := by
  intro j wg hj hth
  by_cases e : j = i
  · subst e; rw [upd_same] at hth; exact h wg hth
  · rw [upd_ne _ _ e] at hth; exact I.thru j wg hj hth
theorem only_wg {wg wg' : Nat} (h : wg' ≠ wg) : ¬ (Stg.k1 wg).Reg wg' ∧ ¬ (Stg.k1 wg).Rel wg' ∧ ¬ (Stg.d1 wg).Reg wg' ∧ ¬ (Stg.d1 wg).Rel wg' ∧ ¬ (Stg.d2 wg).Reg wg' ∧ ¬ (Stg.d2 wg).Rel wg' ∧
    ¬ (Stg.d3 wg).Reg wg' ∧ ¬ (Stg.d3 wg).Rel wg' ∧ ¬ (Stg.d4 wg).Reg wg' ∧ ¬ (Stg.d4 wg).Rel wg' := by
  simp only [Stg.Reg, Stg.Rel]
  refine ⟨fun h => h, fun h => h, fun h => h, fun h => h, fun h => h, ?_, fun h => h, ?_, fun h => h, ?_⟩ <;> exact fun e => h e.symm
theorem wgx_none {s' : Stg} (h : ∀ wg, ¬ s'.Rel wg) (h2 : ∀ wg k, s' ≠ .a2 wg k ∧ s' ≠ .a3 wg k := by simp) : ∀ wg, (s'.Rel wg → X.Wg wg) ∧ ∀ k, (s' = .a2 wg k ∨ s' = .a3 wg k) → X.Wg wg ∧ σ.sd wg = i :=
  fun wg => ⟨fun x => absurd x (h wg), fun k x => x.elim (fun e => absurd e (h2 wg k).1) fun e => absurd e (h2 wg k).2⟩
theorem wgx_wg {s' : Stg} {wg₀ : Nat} (hx : X.Wg wg₀) (h : ∀ wg, s'.Rel wg → wg = wg₀) (h2 : ∀ wg k, s' ≠ .a2 wg k ∧ s' ≠ .a3 wg k) : ∀ wg, (s'.Rel wg → X.Wg wg) ∧ ∀ k, (s' = .a2 wg k ∨ s' = .a3 wg k) → X.Wg wg ∧ σ.sd wg = i :=
  fun wg => ⟨fun x => by rw [h wg x]; exact hx, fun k x => x.elim (fun e => absurd e (h2 wg k).1) fun e => absurd e (h2 wg k).2⟩
theorem Inv.step_r0 (I : Inv X b0 Shun σ gs w t) (hok : AOk X σ.abs) (hg : gs[i]? = some g) {wg : Nat} (hs : σ.stg i = .wk (.don wg)) (hx : X.Wg wg) (hm : (i == 0) = false) (hstop : AtR0 X.P X.ty (Agree X (OS (σ.own i) (σ.fz i))) wg g w) : Goal X b0 Shun A σ gs w t i sl := by
  have hin := I.lt hg
  obtain ⟨_, g', hst, m, hgo⟩ := hstop
  have hsit := I.sitOf hg
  rw [hs] at hsit
  have hd0 : Deaf t i = 0 := hsit.1
  have hpub : ∀ wg' j r, Pub X t wg' j r → Pub X (t ++ MemOp.ofEvents i g.frame.fn g.frame.place #[ConcR.mk (.releaseMerge (stA wg))]) wg' j r := Pub.keep (i := i) ofEvents_g (.inr (touchless_mk rfl))
  obtain ⟨m', ops, σ', h1, ⟨gs', sl', h2, h3⟩, h4, h5, h6, _, h7, _⟩ := I.wgStep (sl := sl) (w' := w) (s' := .k1 wg) (f' := m) (fl' := σ.fl i) (v' := σ.v) (grp' := σ.grp) (vou' := σ.vou) hok hg (by rw [hm]; exact hst) (by rw [hs]; simp) hx (.inl rfl) (evG_one evG_release)
    (by rintro u rfl; exact ⟨hm, by rw [deaf_mk _ _ _ _ (by simp) (by simp)]; exact hd0, by rw [hm]; exact hgo⟩) (I.fl1 i hin) (by simp)
    (fun wg' _ hw' => by rw [hs]; exact ⟨fun h => h, fun h => h, fun h => h, fun h => h, rfl⟩)
    ((I.wgs wg hx).upd_other (by rw [hs]; exact fun h => h) (by rw [hs]; exact fun h => h) (fun h => h) (fun h => h))
    (I.thruMove fun wg' h => h.elim)
    (by
      rintro u rfl
      refine ⟨fun wg j h => (I.grp wg j h).keep hpub, fun k j hk h => (I.vou k j hk h).keep hpub, fun j wg' hj hsd k hk => ?_, fun j hb hj hd => ?_⟩
      · by_cases e : j = i
        · subst e
          rw [upd_same] at hsd
          obtain rfl : wg = wg' := hsd
          rw [ofEvents_one]
          exact Grp.release (j := j) I.ti.t0 hx ⟨rfl, ofEvent_mk _⟩ hd0 (hk.imp id fun h => I.vou j k hj h)
        · rw [upd_ne _ _ e] at hsd
          exact (I.said j wg' hj hsd k hk).keep hpub
      · by_cases e : j = i
        · subst e; rw [upd_same] at hd; cases hd
        · rw [upd_ne _ _ e] at hd
          obtain ⟨wg', r, h⟩ := I.tl j hb hj hd
          exact ⟨wg', r, hpub _ _ _ h⟩)
    (fun h => (h trivial).elim) (by rw [hs]; exact fun h => h.elim) (fun h => .inl ⟨h, fun ⟨_, e⟩ => by cases e⟩) (wgx_none fun _ h => h)
  have ha : σ'.abs = σ.abs := by rw [h4, abs_upd_same (by rw [hs]; rfl)]; rfl
  exact ⟨m', ops, σ', h1, ⟨gs', _, sl', h2, h3⟩, .inl ⟨ha, mu_of_rank ha h6 hin h5 h7 (by rw [hs]; show 9 < 10; omega)⟩⟩
theorem Inv.step_k1 (I : Inv X b0 Shun σ gs w t) (hok : AOk X σ.abs) (hg : gs[i]? = some g) {wg : Nat} (hs : σ.stg i = .k1 wg) (hx : X.Wg wg) : Goal X b0 Shun A σ gs w t i sl := by
  have hin := I.lt hg
  have hsit := I.sitOf hg
  rw [hs] at hsit
  obtain ⟨hm, hd0, hgo⟩ := hsit
  rw [hm] at hgo
  rcases goes_now hgo (Agree.refl _ _ _) with ⟨_, g', hst, m, hgo'⟩ | ⟨n, g', w', es, hn, hst, hd, hgo'⟩
  · have hpub : ∀ wg' j r, Pub X t wg' j r → Pub X (t ++ MemOp.ofEvents i g.frame.fn g.frame.place #[ConcR.mk .disable]) wg' j r := Pub.keep (i := i) ofEvents_g (.inr (touchless_mk rfl))
    obtain ⟨m', ops, σ', h1, ⟨gs', sl', h2, h3⟩, h4, h5, h6, _, h7, _⟩ := I.wgStep (sl := sl) (w' := w) (s' := .d1 wg) (f' := m) (fl' := σ.fl i) (v' := σ.v) (grp' := σ.grp) (vou' := σ.vou) hok hg (by rw [hm]; exact hst) (by rw [hs]; simp) hx (.inl rfl) (evG_one evG_disable)
      (by rintro u rfl; exact ⟨hm, by rw [deaf_disable, hd0], by rw [hm]; exact hgo'⟩) (I.fl1 i hin) (by simp)
      (fun wg' _ hw' => by rw [hs]; exact ⟨fun h => h, fun h => h, fun h => h, fun h => h, rfl⟩)
      ((I.wgs wg hx).upd_other (by rw [hs]; exact fun h => h) (by rw [hs]; exact fun h => h) (fun h => h) (fun h => h))
      (I.thruMove fun wg' h => h.elim)
      (by rintro u rfl; exact I.restMute hpub (fun wg' h => by rw [hs]; exact h) (fun h => by cases h))
      (fun h => (h trivial).elim) (fun _ => trivial) (fun h => .inl ⟨h, fun ⟨_, e⟩ => by cases e⟩) (wgx_none fun _ h => h)
    have ha : σ'.abs = σ.abs := by rw [h4, abs_upd_same (by rw [hs]; rfl)]; rfl
    exact ⟨m', ops, σ', h1, ⟨gs', _, sl', h2, h3⟩, .inl ⟨ha, mu_of_rank ha h6 hin h5 h7 (by rw [hs]; show 8 < 9; omega)⟩⟩
  · exact I.silent hok hg (by rw [hs]; simp) (by rw [hs]; simp) (by rw [hm]; exact hst) hd (by omega : n < σ.f i) (by rintro rfl; rw [hs]; exact ⟨hm, hd0, by rw [hm]; exact hgo'⟩)
theorem touch_rd {wg : Nat} (hx : X.Wg wg) (a : Addr) (ha : a.block = wg) : ∀ e ∈ #[rd a], (MemAct.ofEvent e).touch? = none ∨ ∃ a wr', e = ⟨.cell a, wr', true⟩ ∧ X.Wg a.block := by
  intro e he
  simp only [List.mem_toArray, List.mem_cons, List.not_mem_nil, or_false] at he
  exact .inr ⟨a, false, he, by rw [ha]; exact hx⟩
theorem touch_wr {wg : Nat} (hx : X.Wg wg) (a : Addr) (ha : a.block = wg) : ∀ e ∈ #[wr a], (MemAct.ofEvent e).touch? = none ∨ ∃ a wr', e = ⟨.cell a, wr', true⟩ ∧ X.Wg a.block := by
  intro e he
  simp only [List.mem_toArray, List.mem_cons, List.not_mem_nil, or_false] at he
  exact .inr ⟨a, true, he, by rw [ha]; exact hx⟩
theorem touch_rw {wg : Nat} (hx : X.Wg wg) (a : Addr) (ha : a.block = wg) : ∀ e ∈ #[rd a, wr a], (MemAct.ofEvent e).touch? = none ∨ ∃ a wr', e = ⟨.cell a, wr', true⟩ ∧ X.Wg a.block := by
  intro e he
  simp only [List.mem_toArray, List.mem_cons, List.not_mem_nil, or_false] at he
  rcases he with he | he
  · exact .inr ⟨a, false, he, by rw [ha]; exact hx⟩
  · exact .inr ⟨a, true, he, by rw [ha]; exact hx⟩
theorem touch_sem {wg : Nat} (hx : X.Wg wg) (a : Addr) (ha : a.block = wg) : ∀ e ∈ semEvents a, (MemAct.ofEvent e).touch? = none ∨ ∃ a wr', e = ⟨.cell a, wr', true⟩ ∧ X.Wg a.block := by
  intro e he
  simp only [semEvents, List.mem_toArray, List.mem_cons, List.not_mem_nil, or_false] at he
  rcases he with rfl | he | he | rfl
  · exact .inl rfl
  · exact .inr ⟨a, false, he, by rw [ha]; exact hx⟩
  · exact .inr ⟨a, true, he, by rw [ha]; exact hx⟩
  · exact .inl rfl
theorem deafPre_rw (a : Addr) (j : Nat) (hj : j < 2) : deafBehind 1 (#[rd a, wr a].extract 0 j) ≠ 0 := by
  rcases (by omega : j = 0 ∨ j = 1) with rfl | rfl <;> simp [deafBehind, rd]
theorem deafPre_one (e : Event) (j : Nat) (hj : j < 1) : deafBehind 1 (#[e].extract 0 j) ≠ 0 := by
  obtain rfl : j = 0 := by omega
  simp [deafBehind]
theorem deafPre_sem (a : Addr) (j : Nat) (hj : j < 4) : deafBehind 1 ((semEvents a).extract 0 j) ≠ 0 := by
  rcases (by omega : j = 0 ∨ j = 1 ∨ j = 2 ∨ j = 3) with rfl | rfl | rfl | rfl <;> simp [semEvents, deafBehind]
theorem mode_pos {ty : TypeId} {wg v : Nat} {sw : Stg} {stg : Nat → Stg} {n : Nat} {w : World} (h : WMode ty wg v sw stg n w) (hv : 1 ≤ v) : (∀ j, j < n → ¬ (stg j).Rel wg) ∧ ((¬ sw.Reg wg ∧ WgAt ty wg w (v * KK) 0) ∨ (sw.Reg wg ∧ WgAt ty wg w (v * KK + 1) 0)) := by
  cases h with
  | opn h hr hw => exact ⟨hr, .inl ⟨h, hw⟩⟩
  | reg h hr _ hw => exact ⟨hr, .inr ⟨h, hw⟩⟩
  | lst _ hv' => omega
  | ls4 _ hv' => omega
  | fin _ hv' => omega
theorem rel_upd {n : Nat} {stg : Nat → Stg} {i wg : Nat} {s' : Stg} (h : ∀ j, j < n → ¬ (stg j).Rel wg) (hs : ¬ s'.Rel wg) : ∀ j, j < n → ¬ (upd stg i s' j).Rel wg := by
  intro j hj
  by_cases e : j = i
  · subst e; rw [upd_same]; exact hs
  · rw [upd_ne _ _ e]; exact h j hj
theorem Inv.step_d1 (I : Inv X b0 Shun σ gs w t) (hok : AOk X σ.abs) (hg : gs[i]? = some g) {wg : Nat} (hs : σ.stg i = .d1 wg) : Goal X b0 Shun A σ gs w t i sl := by
  have hin := I.lt hg
  have hsit := I.sitOf hg
  rw [hs] at hsit
  obtain ⟨hm, hd0, hgo⟩ := hsit
  rw [hm] at hgo
  have hpr : σ.abs.pr i = .at (.don wg) := by simp only [Gst.abs, hs, Stg.abs]
  obtain ⟨hx, hv1, hvl⟩ := hok.don i wg hin hpr
  rcases goes_now hgo (Agree.refl _ _ _) with ⟨_, hstop⟩ | ⟨n, g', w', es, hn, hst, hd, hgo'⟩
  · have hv1' : 1 ≤ σ.v wg := hv1
    have hvl' : σ.v wg < 2147483648 := hvl
    obtain ⟨v, hv⟩ : ∃ v, σ.v wg = v + 1 := ⟨σ.v wg - 1, by omega⟩
    obtain ⟨hnr, hmode⟩ := mode_pos (I.wgs wg hx) hv1'
    obtain ⟨wt, hwt, hreg, hw⟩ : ∃ wt : Nat, wt ≤ 1 ∧ ((wt = 0 ∧ ¬ (σ.stg (σ.sd wg)).Reg wg) ∨ (wt = 1 ∧ (σ.stg (σ.sd wg)).Reg wg)) ∧ WgAt X.ty wg w ((v + 1 : Nat) * KK + wt) 0 := by
      rcases hmode with ⟨h1, h2⟩ | ⟨h1, h2⟩
      · exact ⟨0, by omega, .inl ⟨rfl, h1⟩, by rw [← hv]; simpa using h2⟩
      · exact ⟨1, by omega, .inr ⟨rfl, h1⟩, by rw [← hv]; simpa using h2⟩
    obtain ⟨g', hst, hlast, helse⟩ := hstop v wt hwt (by omega) hw
    have hw2 : WgAt X.ty wg (w.setCell (stA wg) (.int .u64 (v * KK + wt))) (v * KK + wt) 0 := hw.setSt _
    have hsdi : (σ.stg (σ.sd wg)).Reg wg → σ.sd wg ≠ i := by rintro h e; rw [e, hs] at h; exact h
    have hsdn : ∀ s', ¬ s'.Reg wg → ¬ (σ.stg (σ.sd wg)).Reg wg → ¬ (upd σ.stg i s' (σ.sd wg)).Reg wg := by
      intro s' h1 h2
      by_cases e : σ.sd wg = i
      · rw [e, upd_same]; exact h1
      · rw [upd_ne _ _ e]; exact h2
    have hpub : ∀ wg' j r, Pub X t wg' j r → Pub X (t ++ MemOp.ofEvents i g.frame.fn g.frame.place #[rd (stA wg), wr (stA wg)]) wg' j r := Pub.keepDeaf (touch_rw hx _ rfl) (by intro j hj _; rw [hd0]; exact deafPre_rw _ j (by simpa using hj))
    have hrest : ∀ s' : Stg, s'.abs = .dead → (∀ wg, ¬ s'.Said wg) → ∀ u, u = MemOp.ofEvents i g.frame.fn g.frame.place #[rd (stA wg), wr (stA wg)] →
        (∀ wg' j, upd σ.grp wg (fun k => σ.grp wg k ∨ k = i ∨ σ.vou i k) wg' j → Grp X (t ++ u) wg' j) ∧ (∀ k j, k < σ.n → σ.vou k j → Vou X (t ++ u) k j) ∧
        (∀ j wg, j < σ.n → (upd σ.stg i s' j).Said wg → ∀ k, k = j ∨ σ.vou j k → Grp X (t ++ u) wg k) ∧ (∀ j, b0 ≤ j → j < σ.n → (upd σ.stg i s' j).abs = .dead → ∃ wg r, Pub X (t ++ u) wg j r) := by
      rintro s' had hns u rfl
      refine ⟨fun wg' j h => ?_, fun k j hk h => (I.vou k j hk h).keep hpub, fun j wg' hj hsd k hk => ?_, fun j hb hj hd => ?_⟩
      · by_cases e : wg' = wg
        · subst e
          rw [upd_same] at h
          rcases h with h | h
          · exact (I.grp wg' j h).keep hpub
          · exact (I.said i wg' hin (by rw [hs]; rfl) j h).keep hpub
        · rw [upd_ne _ _ e] at h
          exact (I.grp wg' j h).keep hpub
      · by_cases e : j = i
        · subst e; rw [upd_same] at hsd; exact absurd hsd (hns _)
        · rw [upd_ne _ _ e] at hsd
          exact (I.said j wg' hj hsd k hk).keep hpub
      · by_cases e : j = i
        · subst e
          obtain ⟨_, _, _, wg', r', hp, _⟩ := I.said j wg hin (by rw [hs]; rfl) j (.inl rfl)
          exact ⟨wg', r', hpub _ _ _ hp⟩
        · rw [upd_ne _ _ e] at hd
          obtain ⟨wg', r, h⟩ := I.tl j hb hj hd
          exact ⟨wg', r, hpub _ _ _ h⟩
    have hthru : ∀ s' : Stg, (∀ wg, ¬ s'.Thru wg) → ∀ j wg', j < σ.n → (upd σ.stg i s' j).Thru wg' → upd σ.v wg v wg' = 0 := by
      intro s' hns j wg' hj hth
      have hth' : (σ.stg j).Thru wg' := by
        by_cases e : j = i
        · subst e; rw [upd_same] at hth; exact absurd hth (hns _)
        · rwa [upd_ne _ _ e] at hth
      have h0 := I.thru j wg' hj hth'
      by_cases e : wg' = wg
      · subst e; omega
      · rw [upd_ne _ _ e]; exact h0
    have fin : ∀ σ' : Gst, ∀ s' : Stg, s'.abs = .dead → σ'.abs = { n := σ.n, pr := upd σ.abs.pr i s'.abs, ch := σ.ch, v := upd σ.v wg v, sd := σ.sd, grp := upd σ.grp wg (fun k => σ.grp wg k ∨ k = i ∨ σ.vou i k), vou := σ.vou } → AStep σ.abs σ'.abs := by
      intro σ' s' had h
      rw [h, had]
      exact AStep.don i wg v hin hpr hv
    by_cases hl : v = 0 ∧ wt = 1
    ·
      obtain ⟨m, hgo'⟩ := hlast hl
      obtain ⟨rfl, rfl⟩ := hl
      have hrg : (σ.stg (σ.sd wg)).Reg wg := by rcases hreg with ⟨h, _⟩ | ⟨_, h⟩; cases h; exact h
      obtain ⟨m', ops, σ', h1, ⟨gs', sl', h2, h3⟩, h4, _⟩ := I.wgStep (sl := sl) (s' := .d2 wg) (f' := m) (fl' := σ.fl i) (v' := upd σ.v wg 0) (grp' := upd σ.grp wg (fun k => σ.grp wg k ∨ k = i ∨ σ.vou i k)) (vou' := σ.vou) hok hg (by rw [hm]; exact hst) (by rw [hs]; simp) hx (.inr ⟨_, _, rfl, rfl⟩)
        (evG_two (evG_rd _ rfl) (evG_wr _ rfl)) (by rintro u rfl; exact ⟨hm, by rw [deaf_rw, hd0], by rw [hm]; exact hgo'⟩) (I.fl1 i hin) (by simp)
        (fun wg' _ hw' => by rw [hs, upd_ne _ _ hw']; exact ⟨fun h => h, fun h => h, fun h => h, fun h => hw' h.symm, rfl⟩)
        (by
          rw [upd_same]
          refine .lst (by rw [upd_ne _ _ (hsdi hrg)]; exact hrg) rfl i hin (.inl (upd_same _ _ _)) (fun j hj hr => ?_) (by simpa using hw2)
          by_cases e : j = i
          · exact e
          · rw [upd_ne _ _ e] at hr; exact absurd hr (hnr j hj))
        (hthru _ fun _ h => h) (hrest _ rfl fun _ h => h) (fun h => (h trivial).elim) (fun _ => trivial) (fun h => absurd (h.unique hw2).2 (by omega)) (wgx_wg hx (fun _ h => h.symm) (by simp))
      exact ⟨m', ops, σ', h1, ⟨gs', _, sl', h2, h3⟩, .inr (fin σ' _ rfl h4)⟩
    · obtain ⟨q, hq⟩ := helse hl
      obtain ⟨m', ops, σ', h1, ⟨gs', sl', h2, h3⟩, h4, _⟩ := I.wgStep (sl := sl) (s' := .qt) (f' := q) (fl' := σ.fl i) (v' := upd σ.v wg v) (grp' := upd σ.grp wg (fun k => σ.grp wg k ∨ k = i ∨ σ.vou i k)) (vou' := σ.vou) hok hg (by rw [hm]; exact hst) (by rw [hs]; simp) hx (.inr ⟨_, _, rfl, rfl⟩)
        (evG_two (evG_rd _ rfl) (evG_wr _ rfl)) (by rintro u rfl; exact ⟨hm, by rw [deaf_rw, hd0]; exact hq⟩) (I.fl1 i hin) (by simp)
        (fun wg' _ hw' => by rw [hs, upd_ne _ _ hw']; exact ⟨fun h => h, fun h => h, fun h => h, fun h => h, rfl⟩)
        (by
          rw [upd_same]
          rcases hreg with ⟨rfl, hr⟩ | ⟨rfl, hr⟩
          · exact .opn (hsdn _ (fun h => h) hr) (rel_upd hnr fun h => h) (by simpa using hw2)
          · exact .reg (by rw [upd_ne _ _ (hsdi hr)]; exact hr) (rel_upd hnr fun h => h) (by omega) (by simpa using hw2))
        (hthru _ fun _ h => h) (hrest _ rfl fun _ h => h) (fun h => (h trivial).elim) (fun _ => trivial) (fun h => absurd (h.unique hw2).2 (by omega)) (wgx_none fun _ h => h)
      exact ⟨m', ops, σ', h1, ⟨gs', _, sl', h2, h3⟩, .inr (fin σ' _ rfl h4)⟩
  · exact I.silent hok hg (by rw [hs]; simp) (by rw [hs]; simp) (by rw [hm]; exact hst) hd (by omega : n < σ.f i) (by rintro rfl; rw [hs]; exact ⟨hm, hd0, by rw [hm]; exact hgo'⟩)
theorem mode_rel {ty : TypeId} {wg v sd : Nat} {stg : Nat → Stg} {n : Nat} {w : World} (h : WMode ty wg v (stg sd) stg n w) {i : Nat} (hi : i < n) (hr : (stg i).Rel wg) :
    (stg sd).Reg wg ∧ v = 0 ∧ (∀ j, j < n → (stg j).Rel wg → j = i) ∧ (((stg i = .d2 wg ∨ stg i = .d3 wg) ∧ WgAt ty wg w 1 0) ∨ (stg i = .d4 wg ∧ WgAt ty wg w 0 0)) := by
  cases h with
  | opn _ hn _ => exact absurd hr (hn i hi)
  | reg _ hn _ _ => exact absurd hr (hn i hi)
  | lst h hv j hj hs hu hw =>
    obtain rfl := hu i hi hr
    exact ⟨h, hv, hu, .inl ⟨hs, hw⟩⟩
  | ls4 h hv j hj hs hu hw =>
    obtain rfl := hu i hi hr
    exact ⟨h, hv, hu, .inr ⟨hs, hw⟩⟩
  | fin _ _ hn _ => exact absurd hr (hn i hi)
theorem Inv.step_d234 (I : Inv X b0 Shun σ gs w t) (hok : AOk X σ.abs) (hg : gs[i]? = some g) {wg : Nat} (hx : X.Wg wg) (hs : σ.stg i = .d2 wg ∨ σ.stg i = .d3 wg ∨ σ.stg i = .d4 wg) : Goal X b0 Shun A σ gs w t i sl := by
  have hin := I.lt hg
  have hsit := I.sitOf hg
  have hrel : (σ.stg i).Rel wg := by rcases hs with h | h | h <;> rw [h] <;> rfl
  obtain ⟨hreg, hv, huq, hmode⟩ := mode_rel (I.wgs wg hx) hin hrel
  have hsdi : σ.sd wg ≠ i := by
    intro e
    rw [e] at hreg
    rcases hs with h | h | h <;> rw [h] at hreg <;> exact hreg
  have hu2 : ∀ s' : Stg, ∀ j, j < σ.n → (upd σ.stg i s' j).Rel wg → j = i := by
    intro s' j hj hr
    by_cases e : j = i
    · exact e
    · rw [upd_ne _ _ e] at hr; exact huq j hj hr
  have noRel : ∀ j, j < σ.n → ¬ (upd σ.stg i .qt j).Rel wg := by
    intro j hj
    by_cases e : j = i
    · subst e; rw [upd_same]; exact fun h => h
    · rw [upd_ne _ _ e]; exact fun h => e (huq j hj h)
  rcases hs with hs | hs | hs
  · rw [hs] at hsit
    obtain ⟨hm, hd0, hgo⟩ := hsit
    rw [hm] at hgo
    rcases goes_now hgo (Agree.refl _ _ _) with ⟨_, hstop⟩ | ⟨n, g', w', es, hn, hst, hd, hgo'⟩
    · have hw : WgAt X.ty wg w 1 0 := by
        rcases hmode with ⟨_, h⟩ | ⟨h, _⟩
        · exact h
        · rw [hs] at h; cases h
      obtain ⟨g', hst, m, hgo'⟩ := hstop hw
      have hpub : ∀ wg' j r, Pub X t wg' j r → Pub X (t ++ MemOp.ofEvents i g.frame.fn g.frame.place #[rd (stA wg)]) wg' j r := Pub.keepDeaf (touch_rd hx _ rfl) (by intro j hj _; rw [hd0]; exact deafPre_one _ j (by simpa using hj))
      obtain ⟨m', ops, σ', h1, ⟨gs', sl', h2, h3⟩, h4, h5, h6, _, h7, _⟩ := I.wgStep (sl := sl) (w' := w) (s' := .d3 wg) (f' := m) (fl' := σ.fl i) (v' := σ.v) (grp' := σ.grp) (vou' := σ.vou) hok hg (by rw [hm]; exact hst) (by rw [hs]; simp) hx (.inl rfl) (evG_one (evG_rd _ rfl))
        (by rintro u rfl; exact ⟨hm, by rw [deaf_rd, hd0], by rw [hm]; exact hgo'⟩) (I.fl1 i hin) (by simp)
        (fun wg' _ hw' => by rw [hs]; exact ⟨fun h => h, fun h => hw' h.symm, fun h => h, fun h => hw' h.symm, rfl⟩)
        (.lst (by rw [upd_ne _ _ hsdi]; exact hreg) hv i hin (.inr (upd_same _ _ _)) (hu2 _) hw)
        (I.thruMove fun wg' h => h.elim)
        (by rintro u rfl; exact I.restMute hpub (fun wg' h => h.elim) (fun _ => by rw [hs]; rfl))
        (fun h => (h trivial).elim) (fun _ => trivial) (fun h => .inl ⟨h, fun ⟨_, e⟩ => by cases e⟩) (wgx_wg  hx (fun _ h => h.symm) (by simp))
      have ha : σ'.abs = σ.abs := by rw [h4, abs_upd_same (by rw [hs]; rfl)]; rfl
      exact ⟨m', ops, σ', h1, ⟨gs', _, sl', h2, h3⟩, .inl ⟨ha, mu_of_rank ha h6 hin h5 h7 (by rw [hs]; show 3 < 4; omega)⟩⟩
    · exact I.silent hok hg (by rw [hs]; simp) (by rw [hs]; simp) (by rw [hm]; exact hst) hd (by omega : n < σ.f i) (by rintro rfl; rw [hs]; exact ⟨hm, hd0, by rw [hm]; exact hgo'⟩)
  · rw [hs] at hsit
    obtain ⟨hm, hd0, hgo⟩ := hsit
    rw [hm] at hgo
    rcases goes_now hgo (Agree.refl _ _ _) with ⟨_, hstop⟩ | ⟨n, g', w', es, hn, hst, hd, hgo'⟩
    · have hw : WgAt X.ty wg w 1 0 := by
        rcases hmode with ⟨_, h⟩ | ⟨h, _⟩
        · exact h
        · rw [hs] at h; cases h
      obtain ⟨g', hst, m, hgo'⟩ := hstop hw
      have hpub : ∀ wg' j r, Pub X t wg' j r → Pub X (t ++ MemOp.ofEvents i g.frame.fn g.frame.place #[wr (stA wg)]) wg' j r := Pub.keepDeaf (touch_wr hx _ rfl) (by intro j hj _; rw [hd0]; exact deafPre_one _ j (by simpa using hj))
      obtain ⟨m', ops, σ', h1, ⟨gs', sl', h2, h3⟩, h4, h5, h6, _, h7, _⟩ := I.wgStep (sl := sl) (s' := .d4 wg) (f' := m) (fl' := σ.fl i) (v' := σ.v) (grp' := σ.grp) (vou' := σ.vou) hok hg (by rw [hm]; exact hst) (by rw [hs]; simp) hx (.inr ⟨_, _, rfl, rfl⟩) (evG_one (evG_wr _ rfl))
        (by rintro u rfl; exact ⟨hm, by rw [deaf_wr, hd0], by rw [hm]; exact hgo'⟩) (I.fl1 i hin) (by simp)
        (fun wg' _ hw' => by rw [hs]; exact ⟨fun h => h, fun h => hw' h.symm, fun h => h, fun h => hw' h.symm, rfl⟩)
        (.ls4 (by rw [upd_ne _ _ hsdi]; exact hreg) hv i hin (upd_same _ _ _) (hu2 _) (hw.setSt 0))
        (I.thruMove fun wg' h => h.elim)
        (by rintro u rfl; exact I.restMute hpub (fun wg' h => h.elim) (fun _ => by rw [hs]; rfl))
        (fun h => (h trivial).elim) (fun _ => trivial) (fun h => absurd (h.unique (hw.setSt 0)).2 (by omega)) (wgx_wg hx (fun _ h => h.symm) (by simp))
      have ha : σ'.abs = σ.abs := by rw [h4, abs_upd_same (by rw [hs]; rfl)]; rfl
      exact ⟨m', ops, σ', h1, ⟨gs', _, sl', h2, h3⟩, .inl ⟨ha, mu_of_rank ha h6 hin h5 h7 (by rw [hs]; show 2 < 3; omega)⟩⟩
    · exact I.silent hok hg (by rw [hs]; simp) (by rw [hs]; simp) (by rw [hm]; exact hst) hd (by omega : n < σ.f i) (by rintro rfl; rw [hs]; exact ⟨hm, hd0, by rw [hm]; exact hgo'⟩)
  · rw [hs] at hsit
    obtain ⟨hm, hd0, hgo⟩ := hsit
    rw [hm] at hgo
    rcases goes_now hgo (Agree.refl _ _ _) with ⟨_, hmw, hstop⟩ | ⟨n, g', w', es, hn, hst, hd, hgo'⟩
    · have hw : WgAt X.ty wg w 0 0 := by
        rcases hmode with ⟨h, _⟩ | ⟨_, h⟩
        · rw [hs] at h; rcases h with h | h <;> cases h
        · exact h
      obtain ⟨g', hst, q, hq⟩ := hstop hw
      have hpub : ∀ wg' j r, Pub X t wg' j r → Pub X (t ++ MemOp.ofEvents i g.frame.fn g.frame.place (semEvents (smA wg))) wg' j r := Pub.keepDeaf (touch_sem hx _ rfl) (by intro j hj _; rw [hd0]; exact deafPre_sem _ j (by simpa [semEvents] using hj))
      obtain ⟨m', ops, σ', h1, ⟨gs', sl', h2, h3⟩, h4, h5, h6, _, h7, _⟩ := I.wgStep (sl := sl) (s' := .qt) (f' := q) (fl' := σ.fl i) (v' := σ.v) (grp' := σ.grp) (vou' := σ.vou) hok hg (by rw [hm]; exact hst) (by rw [hs]; simp) hx (.inr ⟨_, _, rfl, rfl⟩) (evG_sem _ rfl)
        (by rintro u rfl; exact ⟨hm, by rw [deaf_sem, hd0]; exact hq⟩) (I.fl1 i hin) (by simp)
        (fun wg' _ hw' => by rw [hs]; exact ⟨fun h => h, fun h => hw' h.symm, fun h => h, fun h => h, rfl⟩)
        (.fin (by rw [upd_ne _ _ hsdi]; exact hreg) hv noRel (hw.setSm 1))
        (I.thruMove fun wg' h => h.elim)
        (by rintro u rfl; exact I.restMute hpub (fun wg' h => h.elim) (fun _ => by rw [hs]; rfl))
        (fun h => (h trivial).elim) (fun _ => trivial) (fun _ => .inr ⟨by rw [hmw]; rcases hq.status with e | e <;> rw [e] <;> rfl, hsdi⟩) (wgx_none fun _ h => h)
      have ha : σ'.abs = σ.abs := by rw [h4, abs_upd_same (by rw [hs]; rfl)]; rfl
      exact ⟨m', ops, σ', h1, ⟨gs', _, sl', h2, h3⟩, .inl ⟨ha, mu_of_rank ha h6 hin h5 h7 (by rw [hs]; show 1 < 2; omega)⟩⟩
    · exact I.silent hok hg (by rw [hs]; simp) (by rw [hs]; simp) (by rw [hm]; exact hst) hd (by omega : n < σ.f i) (by rintro rfl; rw [hs]; exact ⟨hm, hd0, by rw [hm]; exact hgo'⟩)
theorem Inv.step_qt (I : Inv X b0 Shun σ gs w t) (hok : AOk X σ.abs) (hg : gs[i]? = some g) (hs : σ.stg i = .qt) (hrun : g.status = .running) : Goal X b0 Shun A σ gs w t i sl := by
  have hin := I.lt hg
  have hsit := I.sitOf hg
  rw [hs] at hsit
  obtain ⟨hm, hq⟩ := hsit
  cases hf : σ.f i with
  | zero => rw [hf] at hq; exact absurd (hrun.symm.trans hq.1) (by simp)
  | succ n =>
    rw [hf] at hq
    rcases hq with ⟨h, _⟩ | ⟨_, g', es, hmu, hst, hq'⟩
    · exact absurd (hrun.symm.trans h) (by simp)
    have hrunT := runT_crowd_go (P := X.P) (sl := sl) hg (by rw [hm]; exact hst w)
    generalize hops : MemOp.ofEvents i g.frame.fn g.frame.place es = u at hrunT
    have hu : ∀ op ∈ u, op.g = i := by rw [← hops]; exact ofEvents_g
    have hmute : ∀ op ∈ u, op.act.touch? = none := by rw [← hops]; intro op hop; obtain ⟨e, he, rfl⟩ := Conc.mem_ofEvents hop; exact touch_mute (hmu e he)
    have hnorel : ∀ op ∈ u, ∀ a, op.act ≠ .mark (.release a) ∧ op.act ≠ .mark (.releaseMerge a) := by
      rw [← hops]
      intro op hop a
      obtain ⟨e, he, rfl⟩ := Conc.mem_ofEvents hop
      have := hmu e he
      obtain ⟨loc, wr', sy⟩ := e
      cases loc with
      | mark m =>
        rw [ofEvent_mark]
        cases m <;> first | (simp [Event.mute] at this; done) | (constructor <;> simp)
      | _ => exact absurd this (by simp [Event.mute])
    have hpub := Pub.keep (X := X) (t := t) (i := i) hu (.inr hmute)
    obtain ⟨σ', I', ha, hs', hn, hf', hv, hfl, _⟩ := I.move (g := g) (g' := g') (w' := w) (u := u) (s' := .qt) (f' := n) (fl' := σ.fl i) (own' := σ.own i) (ch' := σ.ch) (v' := σ.v) (grp' := σ.grp) (vou' := σ.vou) hin hu
      (fun j _ _ => Agree.refl _ _ _) I.chn (fun _ => Iff.rfl)
      (fun j c v k hj _ hpk => by
        have e : σ.abs.pr j = .at (.snd c v k) := by simp only [Gst.abs, hpk, Stg.abs]
        refine ⟨(hok.snd j c v k hj e).1, fun d hd => ?_⟩
        rcases hok.dead d hd with h | h
        · exact h
        · exact absurd e (h.2 j c v k hj))
      (.inl fun _ => rfl) ⟨hm, by rw [← hops, Deaf_own]; exact hq'⟩ (I.fl1 i hin) (by rw [upd_self]; exact I.sep)
      (by
        rw [upd_self]
        refine I.ti.app_mute (fun op hop => by rw [hu op hop]; exact hin) hmute (fun op hop => ?_) fun op hop b _ => (hnorel op hop _).1
        rw [← hops] at hop
        obtain ⟨e, he, rfl⟩ := Conc.mem_ofEvents hop
        exact low_mute (hmu e he) _)
      (by simp)
      (fun wg hx => by rw [show Stg.qt = σ.stg i from hs.symm, upd_self]; exact I.wgs wg hx)
      (fun j wg hj hth => by rw [show Stg.qt = σ.stg i from hs.symm, upd_self] at hth; exact I.thru j wg hj hth)
      (fun wg j h => (I.grp wg j h).keep hpub) (fun k j hk h => (I.vou k j hk h).keep hpub)
      (fun j wg hj hsd k hk => by rw [show Stg.qt = σ.stg i from hs.symm, upd_self] at hsd; exact (I.said j wg hj hsd k hk).keep hpub)
      (fun j hb hj hd => by rw [show Stg.qt = σ.stg i from hs.symm, upd_self] at hd; obtain ⟨wg, r, h⟩ := I.tl j hb hj hd; exact ⟨wg, r, hpub _ _ _ h⟩)
      (fun _ _ => rfl) (fun wg k hx hw1 hs3 => by
        rw [show Stg.qt = σ.stg i from hs.symm, upd_self] at hs3
        have h1 := I.awk wg k hx hw1 hs3
        by_cases e : σ.sd wg = i
        · exact .inl ⟨e, by rw [← e]; exact h1⟩
        · exact .inr ⟨e, .inl h1⟩) (wgx_none fun _ h => h)
      (fun j hj ho => by
        rw [show Stg.qt = σ.stg i from hs.symm, upd_self] at ho
        exact (I.uns j hj ho).app fun op hop _ wg _ => (hnorel op hop _).2)
    have ha' : σ'.abs = σ.abs := by rw [ha, abs_upd_same (by rw [hs])]; rfl
    exact ⟨_, _, σ', hrunT, ⟨_, _, sl, rfl, I'⟩, .inl ⟨ha', mu_of_fuel ha' hn hin (by rw [hs' fun _ => rfl, show Stg.qt = σ.stg i from hs.symm, upd_self]) hv hf' (by omega) hfl⟩⟩
end
end Go.Proofs.Ytmkjoojoaldljaa.Net
namespace Go.Proofs.Ytmkjoojoaldljaa.Net
open Go.Conc
open Go.ConcN (WgLive sumTo upd upd_same upd_ne sumTo_upd)
open Go.ConcR (KK wgBlock WgAt stA smA rd wr mk DC0)
section
variable {ty : TypeId} {wg v sd : Nat} {stg : Nat → Stg} {n i : Nat} {w w' : World} {s' : Stg}
theorem WMode.upd_reg (h : WMode ty wg v (stg sd) stg n w) (hs : sd = i) (h1 : (stg i).Reg wg) (h2 : ¬ (stg i).Rel wg) (h1' : s'.Reg wg) (h2' : ¬ s'.Rel wg) : WMode ty wg v (upd stg i s' sd) (upd stg i s') n w := by
  subst hs
  have hrel : ∀ j, (upd stg sd s' j).Rel wg → (stg j).Rel wg := by
    intro j hj
    by_cases hji : j = sd
    · subst hji; rw [upd_same] at hj; exact absurd hj h2'
    · rwa [upd_ne _ _ hji] at hj
  rw [upd_same]
  cases h with
  | opn h _ _ => exact absurd h1 h
  | reg _ hr hv hw => exact .reg h1' (fun j hj x => hr j hj (hrel j x)) hv hw
  | lst _ hv j hj hs hu hw =>
    have hji : j ≠ sd := by
      rintro rfl
      rcases hs with e | e <;> exact h2 (by rw [e]; rfl)
    exact .lst h1' hv j hj (by rw [upd_ne _ _ hji]; exact hs) (fun j' hj' x => hu j' hj' (hrel j' x)) hw
  | ls4 _ hv j hj hs hu hw =>
    have hji : j ≠ sd := by
      rintro rfl
      exact h2 (by rw [hs]; rfl)
    exact .ls4 h1' hv j hj (by rw [upd_ne _ _ hji]; exact hs) (fun j' hj' x => hu j' hj' (hrel j' x)) hw
  | fin _ hv hr hw => exact .fin h1' hv (fun j hj x => hr j hj (hrel j x)) hw
theorem mode_opn (h : WMode ty wg v (stg sd) stg n w) (h1 : ¬ (stg sd).Reg wg) : (∀ j, j < n → ¬ (stg j).Rel wg) ∧ WgAt ty wg w (v * KK) 0 := by
  cases h with
  | opn _ hr hw => exact ⟨hr, hw⟩
  | reg h => exact absurd h h1
  | lst h => exact absurd h h1
  | ls4 h => exact absurd h h1
  | fin h => exact absurd h h1
theorem mode_reg (h : WMode ty wg v (stg sd) stg n w) (h1 : (stg sd).Reg wg) : (∃ st, WgAt ty wg w st 0) ∨ (v = 0 ∧ (∀ j, j < n → ¬ (stg j).Rel wg) ∧ WgAt ty wg w 0 1) := by
  cases h with
  | opn h => exact absurd h1 h
  | reg _ _ _ hw => exact .inl ⟨_, hw⟩
  | lst _ _ _ _ _ _ hw => exact .inl ⟨_, hw⟩
  | ls4 _ _ _ _ _ _ hw => exact .inl ⟨_, hw⟩
  | fin _ hv hr hw => exact .inr ⟨hv, hr, hw⟩
end
section
variable {X : Ctx} {b0 : Nat} {Shun : Loc → Prop} {σ : Gst} {gs : Array Goroutine} {w : World} {t : Trace} {i : Nat} {g : Goroutine} {sl : Option (Nat × Nat)} {A : Abs → Nat}
theorem Inv.wgx_a {wg : Nat} (hx : X.Wg wg) (hsd : σ.sd wg = i) {s' : Stg} {k : Script} (h : s' = .a2 wg k ∨ s' = .a3 wg k) : ∀ wg', (s'.Rel wg' → X.Wg wg') ∧ ∀ k, (s' = .a2 wg' k ∨ s' = .a3 wg' k) → X.Wg wg' ∧ σ.sd wg' = i := by
  intro wg'
  rcases h with rfl | rfl
  · exact ⟨fun h => h.elim, fun k h => by rcases h with h | h <;> cases h; exact ⟨hx, hsd⟩⟩
  · exact ⟨fun h => h.elim, fun k h => by rcases h with h | h <;> cases h; exact ⟨hx, hsd⟩⟩
theorem Inv.markStep (I : Inv X b0 Shun σ gs w t) (hok : AOk X σ.abs) (hg : gs[i]? = some g) (hne : σ.stg i ≠ .qt) {wg : Nat} (hx : X.Wg wg) {m : Mark} {g' : Goroutine} (hst : stepG X.P (i == 0) g w = .go g' w #[ConcR.mk m])
    (he : EvG σ.sd i wg (ConcR.mk m)) (hnr : ∀ a, m ≠ .releaseMerge a) (hpub : ∀ wg' j r, Pub X t wg' j r → Pub X (t ++ MemOp.ofEvents i g.frame.fn g.frame.place #[ConcR.mk m]) wg' j r) {s' : Stg} {f' : Nat}
    (hsit : Sit X i (σ.own i) (σ.fz i) s' f' 1 (Deaf (t ++ MemOp.ofEvents i g.frame.fn g.frame.place #[ConcR.mk m]) i) g' w) (hnp : ∀ s, s' ≠ .pk s)
    (hoth : ∀ wg', wg' ≠ wg → ¬ (σ.stg i).Reg wg' ∧ ¬ (σ.stg i).Rel wg' ∧ ¬ s'.Reg wg' ∧ ¬ s'.Rel wg') (hmode : WMode X.ty wg (σ.v wg) (upd σ.stg i s' (σ.sd wg)) (upd σ.stg i s') σ.n w)
    (hth : ∀ wg, s'.Thru wg → σ.v wg = 0) (hsd : ∀ wg, ¬ s'.Said wg) (hab : s'.abs = (σ.stg i).abs) (hnd : s'.abs ≠ .dead) (ho : ¬ (σ.stg i).Out) (_ : ¬ s'.Out)
    (hwgx : ∀ wg, (s'.Rel wg → X.Wg wg) ∧ ∀ k, (s' = .a2 wg k ∨ s' = .a3 wg k) → X.Wg wg ∧ σ.sd wg = i) (hr : s'.rank σ.v < (σ.stg i).rank σ.v) : Goal X b0 Shun A σ gs w t i sl := by
  have hin := I.lt hg
  obtain ⟨m', ops, σ', h1, ⟨gs', sl', h2, h3⟩, h4, h5, h6, _, h7, _⟩ := I.wgStep (sl := sl) (w' := w) (s' := s') (f' := f') (fl' := 1) (v' := σ.v) (grp' := σ.grp) (vou' := σ.vou) hok hg hst hne hx (.inl rfl) (evG_one he)
    (by rintro u rfl; exact hsit) (Nat.le_refl _) hnp (fun wg' _ hw' => by obtain ⟨a, b, c, d⟩ := hoth wg' hw'; exact ⟨a, b, c, d, rfl⟩) hmode (I.thruMove hth)
    (by rintro u rfl; exact I.restMute hpub (fun wg' h => absurd h (hsd wg')) (fun h => absurd h hnd)) (fun _ wg' hm => by simp at hm; exact hnr _ (by simpa [ConcR.mk] using hm.symm)) (fun h => absurd h ho) (fun h => .inl ⟨h, fun _ => rfl⟩) hwgx
  have ha : σ'.abs = σ.abs := by rw [h4, abs_upd_same hab]; rfl
  exact ⟨m', ops, σ', h1, ⟨gs', _, sl', h2, h3⟩, .inl ⟨ha, mu_of_rank ha h6 hin h5 h7 hr⟩⟩
theorem Inv.step_a0 (I : Inv X b0 Shun σ gs w t) (hok : AOk X σ.abs) (hg : gs[i]? = some g) {wg δ : Nat} {k : Script} (hs : σ.stg i = .wk (.add wg δ k)) {N : Nat}
    (hstop : AtA0 X.P X.ty (i == 0) (Agree X (OS (σ.own i) (σ.fz i))) wg δ (NextN X k (i == 0) (σ.fz i) (σ.own i) N) g w) : Goal X b0 Shun A σ gs w t i sl := by
  have hin := I.lt hg
  obtain ⟨_, g', hst, m, hgo⟩ := hstop
  have hd0 : Deaf t i = 0 := by have := I.sitOf hg; rw [hs] at this; exact this.1
  obtain ⟨hx, hsd, hv⟩ := hok.add i wg δ k hin (by simp only [Gst.abs, hs, Stg.abs])
  exact I.markStep hok hg (by rw [hs]; simp) hx hst evG_disable (by simp) (Pub.keep (i := i) ofEvents_g (.inr (touchless_mk rfl))) (s' := .a1 wg δ k) (f' := m) ⟨by rw [deaf_disable, hd0], N, hgo⟩ (by simp)
    (fun wg' _ => by rw [hs]; exact ⟨fun h => h, fun h => h, fun h => h, fun h => h⟩) ((I.wgs wg hx).upd_other (by rw [hs]; exact fun h => h) (by rw [hs]; exact fun h => h) (fun h => h) (fun h => h))
    (fun _ h => h.elim) (fun _ h => h) (by rw [hs]; rfl) (by simp [Stg.abs]) (by rw [hs]; exact fun h => h) (fun h => h) (wgx_none fun _ h => h) (by rw [hs]; show 9 < 10; omega)
theorem Inv.step_a1 (I : Inv X b0 Shun σ gs w t) (hok : AOk X σ.abs) (hg : gs[i]? = some g) {wg δ : Nat} {k : Script} (hs : σ.stg i = .a1 wg δ k) : Goal X b0 Shun A σ gs w t i sl := by
  have hin := I.lt hg
  have hsit := I.sitOf hg
  rw [hs] at hsit
  obtain ⟨hd0, N, hgo⟩ := hsit
  have hpr : σ.abs.pr i = .at (.add wg δ k) := by simp only [Gst.abs, hs, Stg.abs]
  obtain ⟨hx, hsd, hv⟩ := hok.add i wg δ k hin hpr
  have hsd' : σ.sd wg = i := hsd
  rcases goes_now hgo (Agree.refl _ _ _) with ⟨_, hstop⟩ | ⟨n, g', w', es, hn, hst, hd, hgo'⟩
  · have hnreg : ¬ (σ.stg (σ.sd wg)).Reg wg := by rw [hsd', hs]; exact fun h => h
    obtain ⟨hnr, hw⟩ := mode_opn (I.wgs wg hx) hnreg
    obtain ⟨g', hst, h0, hne⟩ := hstop (σ.v wg) hv hw
    have hpub : ∀ wg' j r, Pub X t wg' j r → Pub X (t ++ MemOp.ofEvents i g.frame.fn g.frame.place #[rd (stA wg), wr (stA wg)]) wg' j r := Pub.keep (i := i) ofEvents_g (.inl (I.uns i hin (by rw [hs]; exact fun h => h)))
    have hw2 : WgAt X.ty wg (w.setCell (stA wg) (.int .u64 ((σ.v wg + δ : Nat) * KK))) ((σ.v wg + δ : Nat) * KK) 0 := hw.setSt _
    have fin : ∀ (s' : Stg) (f' : Nat), (s' = .a2 wg k ∨ s' = .a3 wg k) → Sit X i (σ.own i) (σ.fz i) s' f' 1 1 g' (w.setCell (stA wg) (.int .u64 ((σ.v wg + δ : Nat) * KK))) → Goal X b0 Shun A σ gs w t i sl := by
      intro s' f' hs' hsit'
      have q1 : ∀ wg', ¬ s'.Reg wg' := by rcases hs' with rfl | rfl <;> exact fun _ h => h
      have q2 : ∀ wg', ¬ s'.Rel wg' := by rcases hs' with rfl | rfl <;> exact fun _ h => h
      have q3 : ∀ wg', ¬ s'.Thru wg' := by rcases hs' with rfl | rfl <;> exact fun _ h => h
      have q4 : ∀ wg', ¬ s'.Said wg' := by rcases hs' with rfl | rfl <;> exact fun _ h => h
      have q5 : ¬ s'.Out := by rcases hs' with rfl | rfl <;> exact fun h => h
      have q6 : s'.abs = .at k := by rcases hs' with rfl | rfl <;> rfl
      obtain ⟨m', ops, σ', h1, ⟨gs', sl', h2, h3⟩, h4, _⟩ := I.wgStep (sl := sl) (s' := s') (f' := f') (fl' := 1) (v' := upd σ.v wg (σ.v wg + δ)) (grp' := σ.grp) (vou' := σ.vou) hok hg hst (by rw [hs]; simp) hx (.inr ⟨_, _, rfl, rfl⟩)
        (evG_two (evG_rd _ rfl) (evG_wr _ rfl)) (by rintro u rfl; rw [deaf_rw, hd0]; exact hsit') (Nat.le_refl _) (by rcases hs' with rfl | rfl <;> simp)
        (fun wg' _ hw' => by rw [hs, upd_ne _ _ hw']; exact ⟨fun h => h, fun h => h, q1 _, q2 _, rfl⟩)
        (by
          rw [upd_same, hsd', upd_same]
          exact .opn (q1 _) (rel_upd hnr (q2 _)) hw2)
        (fun j wg' hj hth => by
          by_cases e : j = i
          · subst e; rw [upd_same] at hth; exact absurd hth (q3 _)
          rw [upd_ne _ _ e] at hth
          by_cases e' : wg' = wg
          · subst e'
            exfalso
            have : ∃ k', (σ.stg j).abs = .at (.wai wg' k') := by
              revert hth
              cases σ.stg j <;> intro hth <;> first | exact hth.elim | (cases hth; exact ⟨_, rfl⟩)
            obtain ⟨k', hk'⟩ := this
            have := (hok.wai j wg' k' hj hk').2.1
            exact e (this.symm.trans hsd')
          · rw [upd_ne _ _ e']; exact I.thru j wg' hj hth)
        (by
          rintro u rfl
          refine ⟨fun wg j h => (I.grp wg j h).keep hpub, fun k j hk h => (I.vou k j hk h).keep hpub, fun j wg' hj hsd k hk => ?_, fun j hb hj hd => ?_⟩
          · by_cases e : j = i
            · subst e; rw [upd_same] at hsd; exact absurd hsd (q4 _)
            · rw [upd_ne _ _ e] at hsd; exact (I.said j wg' hj hsd k hk).keep hpub
          · by_cases e : j = i
            · subst e; rw [upd_same, q6] at hd; cases hd
            · rw [upd_ne _ _ e] at hd
              obtain ⟨wg', r, h⟩ := I.tl j hb hj hd
              exact ⟨wg', r, hpub _ _ _ h⟩)
        (fun _ wg' hm => by simp [rd, wr, ConcR.mk] at hm) (by rw [hs]; exact fun h => h.elim) (fun h => absurd (h.unique hw2).2 (by omega)) (Inv.wgx_a hx hsd' hs')
      refine ⟨m', ops, σ', h1, ⟨gs', _, sl', h2, h3⟩, .inr ?_⟩
      rw [h4, q6]
      exact AStep.add i wg δ k hin hpr
    by_cases hv0 : σ.v wg = 0
    · obtain ⟨m, hgo'⟩ := h0 hv0
      exact fin (.a2 wg k) m (.inl rfl) ⟨rfl, N, hgo'⟩
    · obtain ⟨m, hgo'⟩ := hne hv0
      exact fin (.a3 wg k) m (.inr rfl) ⟨rfl, N, hgo'⟩
  · exact I.silent hok hg (by rw [hs]; simp) (by rw [hs]; simp) hst hd (by omega : n < σ.f i) (by rintro rfl; rw [hs]; exact ⟨hd0, N, hgo'⟩)
theorem Inv.step_a2 (I : Inv X b0 Shun σ gs w t) (hok : AOk X σ.abs) (hg : gs[i]? = some g) {wg : Nat} {k : Script} (hs : σ.stg i = .a2 wg k) : Goal X b0 Shun A σ gs w t i sl := by
  have hin := I.lt hg
  have hsit := I.sitOf hg
  rw [hs] at hsit
  obtain ⟨hd0, N, hgo⟩ := hsit
  obtain ⟨hx, hsd⟩ := (I.wgx i wg hin).2 k (.inl hs)
  rcases goes_now hgo (Agree.refl _ _ _) with ⟨_, g', hst, m, hgo'⟩ | ⟨n, g', w', es, hn, hst, hd, hgo'⟩
  · exact I.markStep hok hg (by rw [hs]; simp) hx hst (.inr ⟨_, rfl, .inr (.inr (.inr (.inr ⟨.inl rfl, hsd⟩)))⟩) (by simp) (Pub.keep (i := i) ofEvents_g (.inl (I.uns i hin (by rw [hs]; exact fun h => h)))) (s' := .a3 wg k) (f' := m)
      ⟨by rw [deaf_mk _ _ _ _ (by simp) (by simp), hd0], N, hgo'⟩ (by simp)
      (fun wg' _ => by rw [hs]; exact ⟨fun h => h, fun h => h, fun h => h, fun h => h⟩) ((I.wgs wg hx).upd_other (by rw [hs]; exact fun h => h) (by rw [hs]; exact fun h => h) (fun h => h) (fun h => h))
      (fun _ h => h.elim) (fun _ h => h) (by rw [hs]; rfl) (by simp [Stg.abs]) (by rw [hs]; exact fun h => h) (fun h => h) (Inv.wgx_a hx hsd (.inr rfl)) (by rw [hs]; show 13 < 14; omega)
  · exact I.silent hok hg (by rw [hs]; simp) (by rw [hs]; simp) hst hd (by omega : n < σ.f i) (by rintro rfl; rw [hs]; exact ⟨hd0, N, hgo'⟩)
theorem rank_wk (v : Nat → Nat) (s : Script) : (Stg.wk s).rank v = 10 := by cases s <;> rfl
theorem Inv.step_a3 (I : Inv X b0 Shun σ gs w t) (hok : AOk X σ.abs) (hg : gs[i]? = some g) {wg : Nat} {k : Script} (hs : σ.stg i = .a3 wg k) : Goal X b0 Shun A σ gs w t i sl := by
  have hin := I.lt hg
  have hsit := I.sitOf hg
  rw [hs] at hsit
  obtain ⟨hd0, N, hgo⟩ := hsit
  obtain ⟨hx, hsd⟩ := (I.wgx i wg hin).2 k (.inr hs)
  rcases goes_now hgo (Agree.refl _ _ _) with ⟨_, g', hst, m, hgo'⟩ | ⟨n, g', w', es, hn, hst, hd, hgo'⟩
  · exact I.markStep hok hg (by rw [hs]; simp) hx hst evG_enable (by simp) (Pub.keep (i := i) ofEvents_g (.inr (touchless_mk rfl))) (s' := .wk k) (f' := m + N)
      ⟨by rw [deaf_enable, hd0], Seg.of_dc0 hgo' fun _ _ h => h⟩ (by simp)
      (fun wg' _ => by rw [hs]; exact ⟨fun h => h, fun h => h, fun h => h, fun h => h⟩) ((I.wgs wg hx).upd_other (by rw [hs]; exact fun h => h) (by rw [hs]; exact fun h => h) (fun h => h) (fun h => h))
      (fun _ h => h.elim) (fun _ h => h) (by rw [hs]; rfl) (by simp [Stg.abs]) (by rw [hs]; exact fun h => h) (fun h => h) (wgx_none fun _ h => h) (by rw [hs, rank_wk]; show 10 < 13; omega)
  · exact I.silent hok hg (by rw [hs]; simp) (by rw [hs]; simp) hst hd (by omega : n < σ.f i) (by rintro rfl; rw [hs]; exact ⟨hd0, N, hgo'⟩)
theorem Inv.step_kd (I : Inv X b0 Shun σ gs w t) (hok : AOk X σ.abs) (hg : gs[i]? = some g) {wg : Nat} {k : Script} (hs : σ.stg i = .wk (.wai wg k)) {N : Nat}
    (hstop : AtKd X.P X.ty (i == 0) (Agree X (OS (σ.own i) (σ.fz i))) wg (NextN X k (i == 0) (σ.fz i) (σ.own i) N) g w) : Goal X b0 Shun A σ gs w t i sl := by
  have hin := I.lt hg
  obtain ⟨Anch, hA, _, g', hst, m, hgo⟩ := hstop
  obtain ⟨m₀, hA'⟩ := id hA
  have hd0 : Deaf t i = 0 := by have := I.sitOf hg; rw [hs] at this; exact this.1
  obtain ⟨hx, hsd, hv⟩ := hok.wai i wg k hin (by simp only [Gst.abs, hs, Stg.abs])
  exact I.markStep hok hg (by rw [hs]; simp) hx hst evG_disable (by simp) (Pub.keep (i := i) ofEvents_g (.inr (touchless_mk rfl))) (s' := .w1 wg k) (f' := m + m₀) ⟨by rw [deaf_disable, hd0], N, Anch, hA, goes_then (Agree.refl _ _) hgo hA'⟩ (by simp)
    (fun wg' _ => by rw [hs]; exact ⟨fun h => h, fun h => h, fun h => h, fun h => h⟩) ((I.wgs wg hx).upd_other (by rw [hs]; exact fun h => h) (by rw [hs]; exact fun h => h) (fun h => h) (fun h => h))
    (fun _ h => h.elim) (fun _ h => h) (by rw [hs]; rfl) (by simp [Stg.abs]) (by rw [hs]; exact fun h => h) (fun h => h) (wgx_none fun _ h => h) (by rw [hs]; show 7 < 10; omega)
theorem Inv.lookStep (I : Inv X b0 Shun σ gs w t) (hok : AOk X σ.abs) (hg : gs[i]? = some g) (hne : σ.stg i ≠ .qt) {wg : Nat} (hx : X.Wg wg) {g' : Goroutine} (hst : stepG X.P (i == 0) g w = .go g' w #[rd (stA wg)]) {s' : Stg} {f' : Nat}
    (hd : Deaf t i = 1) (hsit : Sit X i (σ.own i) (σ.fz i) s' f' 1 1 g' w) (hnp : ∀ s, s' ≠ .pk s)
    (hreg : ∀ wg', ¬ (σ.stg i).Reg wg' ∧ ¬ (σ.stg i).Rel wg' ∧ ¬ s'.Reg wg' ∧ ¬ s'.Rel wg') (hth : ∀ wg, s'.Thru wg → σ.v wg = 0) (hsd : ∀ wg, ¬ s'.Said wg) (hab : s'.abs = (σ.stg i).abs) (hnd : s'.abs ≠ .dead) (ho : ¬ (σ.stg i).Out) (_ : ¬ s'.Out)
    (h2 : ∀ wg k, s' ≠ .a2 wg k ∧ s' ≠ .a3 wg k) (hr : s'.rank σ.v < (σ.stg i).rank σ.v) : Goal X b0 Shun A σ gs w t i sl := by
  have hin := I.lt hg
  have hpub : ∀ wg' j r, Pub X t wg' j r → Pub X (t ++ MemOp.ofEvents i g.frame.fn g.frame.place #[rd (stA wg)]) wg' j r := Pub.keep (i := i) ofEvents_g (.inl (I.uns i hin ho))
  obtain ⟨m', ops, σ', h1, ⟨gs', sl', h2', h3⟩, h4, h5, h6, _, h7, _⟩ := I.wgStep (sl := sl) (w' := w) (s' := s') (f' := f') (fl' := 1) (v' := σ.v) (grp' := σ.grp) (vou' := σ.vou) hok hg hst hne hx (.inl rfl) (evG_one (evG_rd _ rfl))
    (by rintro u rfl; rw [deaf_rd, hd]; exact hsit) (Nat.le_refl _) hnp (fun wg' _ hw' => by obtain ⟨a, b, c, d⟩ := hreg wg'; exact ⟨a, b, c, d, rfl⟩)
    ((I.wgs wg hx).upd_other (hreg wg).1 (hreg wg).2.1 (hreg wg).2.2.1 (hreg wg).2.2.2) (I.thruMove hth)
    (by rintro u rfl; exact I.restMute hpub (fun wg' h => absurd h (hsd wg')) (fun h => absurd h hnd)) (fun _ wg' hm => by simp [rd, ConcR.mk] at hm) (fun h => absurd h ho) (fun h => .inl ⟨h, fun _ => rfl⟩) (wgx_none (fun wg' => (hreg wg').2.2.2) h2)
  have ha : σ'.abs = σ.abs := by rw [h4, abs_upd_same hab]; rfl
  exact ⟨m', ops, σ', h1, ⟨gs', _, sl', h2', h3⟩, .inl ⟨ha, mu_of_rank ha h6 hin h5 h7 hr⟩⟩
theorem Inv.waiOf (I : Inv X b0 Shun σ gs w t) (hok : AOk X σ.abs) (hin : i < σ.n) {wg : Nat} {k : Script} (h : (σ.stg i).abs = .at (.wai wg k)) : X.Wg wg ∧ σ.sd wg = i ∧ σ.v wg < 2147483648 := by
  have := I.size
  exact hok.wai i wg k hin h
theorem Inv.step_w1 (I : Inv X b0 Shun σ gs w t) (hok : AOk X σ.abs) (hg : gs[i]? = some g) {wg : Nat} {k : Script} (hs : σ.stg i = .w1 wg k) : Goal X b0 Shun A σ gs w t i sl := by
  have hin := I.lt hg
  have hsit := I.sitOf hg
  rw [hs] at hsit
  obtain ⟨hd0, N, Anch, hA, hgo⟩ := hsit
  obtain ⟨hx, hsd, hv⟩ := I.waiOf hok hin (by rw [hs]; rfl)
  rcases goes_now hgo (Agree.refl _ _ _) with ⟨_, hstop⟩ | ⟨n, g', w', es, hn, hst, hd, hgo'⟩
  · obtain ⟨_, hw⟩ := mode_opn (I.wgs wg hx) (by rw [hsd, hs]; exact fun h => h)
    obtain ⟨g', hst, h0, hne⟩ := hstop (σ.v wg) hv hw
    by_cases hv0 : σ.v wg = 0
    · obtain ⟨m, hgo'⟩ := h0 hv0
      exact I.lookStep hok hg (by rw [hs]; simp) hx hst (s' := .ke wg k) (f' := m) hd0 ⟨rfl, N, hgo'⟩ (by simp) (fun wg' => by rw [hs]; exact ⟨fun h => h, fun h => h, fun h => h, fun h => h⟩)
        (fun wg' h => by cases h; exact hv0) (fun _ h => h) (by rw [hs]; rfl) (by simp [Stg.abs]) (by rw [hs]; exact fun h => h) (fun h => h) (by simp) (by rw [hs]; show 2 < 7; omega)
    · obtain ⟨m, hgo'⟩ := hne hv0
      exact I.lookStep hok hg (by rw [hs]; simp) hx hst (s' := .w2 wg k (σ.v wg)) (f' := m) hd0 ⟨rfl, hv0, N, Anch, hA, hgo'⟩ (by simp) (fun wg' => by rw [hs]; exact ⟨fun h => h, fun h => h, fun h => h, fun h => h⟩)
        (fun wg' h => h.elim) (fun _ h => h) (by rw [hs]; rfl) (by simp [Stg.abs]) (by rw [hs]; exact fun h => h) (fun h => h) (by simp) (by rw [hs]; show (if _ then 6 else 8) < 7; rw [if_pos rfl]; omega)
  · exact I.silent hok hg (by rw [hs]; simp) (by rw [hs]; simp) hst hd (by omega : n < σ.f i) (by rintro rfl; rw [hs]; exact ⟨hd0, N, Anch, hA, hgo'⟩)
theorem Inv.step_w2 (I : Inv X b0 Shun σ gs w t) (hok : AOk X σ.abs) (hg : gs[i]? = some g) {wg vs : Nat} {k : Script} (hs : σ.stg i = .w2 wg k vs) : Goal X b0 Shun A σ gs w t i sl := by
  have hin := I.lt hg
  have hsit := I.sitOf hg
  rw [hs] at hsit
  obtain ⟨hd0, hvs, N, Anch, hA, hgo⟩ := hsit
  obtain ⟨hx, hsd, hv⟩ := I.waiOf hok hin (by rw [hs]; rfl)
  rcases goes_now hgo (Agree.refl _ _ _) with ⟨_, hstop⟩ | ⟨n, g', w', es, hn, hst, hd, hgo'⟩
  · obtain ⟨hnr, hw⟩ := mode_opn (I.wgs wg hx) (by rw [hsd, hs]; exact fun h => h)
    obtain ⟨hhit, hmiss⟩ := hstop (σ.v wg) hv hw
    by_cases he : σ.v wg = vs
    · obtain ⟨g', hst, m, hgo'⟩ := hhit he
      have hpub : ∀ wg' j r, Pub X t wg' j r → Pub X (t ++ MemOp.ofEvents i g.frame.fn g.frame.place #[rd (stA wg), wr (stA wg)]) wg' j r := Pub.keep (i := i) ofEvents_g (.inl (I.uns i hin (by rw [hs]; exact fun h => h)))
      obtain ⟨m', ops, σ', h1, ⟨gs', sl', h2', h3⟩, h4, h5, h6, _, h7, _⟩ := I.wgStep (sl := sl) (s' := .wr wg k) (f' := m) (fl' := 1) (v' := σ.v) (grp' := σ.grp) (vou' := σ.vou) hok hg hst (by rw [hs]; simp) hx (.inr ⟨_, _, rfl, rfl⟩) (evG_two (evG_rd _ rfl) (evG_wr _ rfl))
        (by rintro u rfl; rw [deaf_rw, hd0]; exact ⟨rfl, N, hgo'⟩) (Nat.le_refl _) (by simp) (fun wg' _ hw' => by rw [hs]; exact ⟨fun h => h, fun h => h, fun h => hw' h.symm, fun h => h, rfl⟩)
        (by
          rw [hsd, upd_same]
          exact .reg rfl (rel_upd hnr fun h => h) (by omega) (hw.setSt _))
        (I.thruMove fun wg' h => h.elim) (by rintro u rfl; exact I.restMute hpub (fun wg' h => h.elim) (fun h => by cases h)) (fun _ wg' hm => by simp [rd, wr, ConcR.mk] at hm) (by rw [hs]; exact fun h => h.elim) (fun h => absurd (h.unique (hw.setSt _)).2 (by omega)) (wgx_none fun _ h => h)
      have ha : σ'.abs = σ.abs := by rw [h4, abs_upd_same (by rw [hs]; rfl)]; rfl
      exact ⟨m', ops, σ', h1, ⟨gs', _, sl', h2', h3⟩, .inl ⟨ha, mu_of_rank ha h6 hin h5 h7 (by rw [hs]; show 5 < (if _ then 6 else 8); rw [if_pos he.symm]; omega)⟩⟩
    · obtain ⟨g', hst, m, hgo'⟩ := hmiss he
      obtain ⟨m₀, hA'⟩ := id hA
      exact I.lookStep hok hg (by rw [hs]; simp) hx hst (s' := .w1 wg k) (f' := m + m₀) hd0 ⟨rfl, N, Anch, hA, goes_then (Agree.refl _ _) hgo' hA'⟩ (by simp) (fun wg' => by rw [hs]; exact ⟨fun h => h, fun h => h, fun h => h, fun h => h⟩)
        (fun wg' h => h.elim) (fun _ h => h) (by rw [hs]; rfl) (by simp [Stg.abs]) (by rw [hs]; exact fun h => h) (fun h => h) (by simp) (by rw [hs]; show 7 < (if _ then 6 else 8); rw [if_neg (Ne.symm he)]; omega)
  · exact I.silent hok hg (by rw [hs]; simp) (by rw [hs]; simp) hst hd (by omega : n < σ.f i) (by rintro rfl; rw [hs]; exact ⟨hd0, hvs, N, Anch, hA, hgo'⟩)
theorem Inv.step_wr (I : Inv X b0 Shun σ gs w t) (hok : AOk X σ.abs) (hg : gs[i]? = some g) {wg : Nat} {k : Script} (hs : σ.stg i = .wr wg k) : Goal X b0 Shun A σ gs w t i sl := by
  have hin := I.lt hg
  have hsit := I.sitOf hg
  rw [hs] at hsit
  obtain ⟨hd0, N, hgo⟩ := hsit
  obtain ⟨hx, hsd, hv⟩ := I.waiOf hok hin (by rw [hs]; rfl)
  rcases goes_now hgo (Agree.refl _ _ _) with ⟨_, g', hst, m, hgo'⟩ | ⟨n, g', w', es, hn, hst, hd, hgo'⟩
  · exact I.markStep hok hg (by rw [hs]; simp) hx hst (.inr ⟨_, rfl, .inr (.inr (.inr (.inr ⟨.inr rfl, hsd⟩)))⟩) (by simp) (Pub.keep (i := i) ofEvents_g (.inl (I.uns i hin (by rw [hs]; exact fun h => h)))) (s' := .w3 wg k) (f' := m)
      ⟨by rw [deaf_mk _ _ _ _ (by simp) (by simp), hd0], N, .inl ⟨rfl, hgo'⟩⟩ (by simp)
      (fun wg' hw' => by rw [hs]; exact ⟨fun h => hw' h.symm, fun h => h, fun h => hw' h.symm, fun h => h⟩) ((I.wgs wg hx).upd_reg hsd (by rw [hs]; rfl) (by rw [hs]; exact fun h => h) rfl (fun h => h))
      (fun _ h => h.elim) (fun _ h => h) (by rw [hs]; rfl) (by simp [Stg.abs]) (by rw [hs]; exact fun h => h) (fun h => h) (wgx_none fun _ h => h) (by rw [hs]; show 4 < 5; omega)
  · exact I.silent hok hg (by rw [hs]; simp) (by rw [hs]; simp) hst hd (by omega : n < σ.f i) (by rintro rfl; rw [hs]; exact ⟨hd0, N, hgo'⟩)
theorem Inv.step_w3 (I : Inv X b0 Shun σ gs w t) (hok : AOk X σ.abs) (hg : gs[i]? = some g) (hrun : g.status = .running) {wg : Nat} {k : Script} (hs : σ.stg i = .w3 wg k) : Goal X b0 Shun A σ gs w t i sl := by
  have hin := I.lt hg
  have hsit := I.sitOf hg
  rw [hs] at hsit
  obtain ⟨hd0, N, ⟨hfl, hgo⟩ | ⟨_, _, g₁, e, _⟩⟩ := hsit
  case inr => rw [e] at hrun; exact absurd hrun (by simp)
  obtain ⟨hx, hsd, hv⟩ := I.waiOf hok hin (by rw [hs]; rfl)
  rcases goes_now hgo (Agree.refl _ _ _) with hstop | ⟨n, g', w', es, hn, hst, hd, hgo'⟩
  · have hreg : (σ.stg (σ.sd wg)).Reg wg := by rw [hsd, hs]; rfl
    rcases mode_reg (I.wgs wg hx) hreg with hsm | ⟨hv0, hnr, hw⟩
    ·
      have hst := hstop.2.2.1 hsm
      have hoff := hstop.2.1
      obtain ⟨m', ops, σ', h1, ⟨gs', sl', h2', h3⟩, h4, h5, h6, h8, h7, _, h9⟩ := I.wgStep (sl := sl) (w' := w) (s' := .w3 wg k) (f' := 0) (fl' := 0) (v' := σ.v) (grp' := σ.grp) (vou' := σ.vou) hok hg hst (by rw [hs]; simp) hx (.inl rfl) (by simp)
        (by
          rintro u rfl
          refine ⟨by rw [ofEvents_nil]; simpa using hd0, N, .inr ⟨rfl, rfl, g, rfl, hrun, hoff, ?_⟩⟩
          cases hfn : σ.f i with
          | zero => rw [hfn] at hgo; exact hgo
          | succ n =>
            rw [hfn] at hgo
            rcases hgo with h | ⟨_, h⟩
            · exact h
            · exfalso
              have := h w (Agree.refl _ _ _)
              rw [hst] at this
              simp only [goes_go] at this
              have h' := goes_running (Agree.refl _ _ _) this.2 (fun _ _ x => x.1)
              exact absurd h' (by simp))
        (by omega) (by simp) (fun wg' _ hw' => by rw [hs]; exact ⟨fun h => hw' h.symm, fun h => h, fun h => hw' h.symm, fun h => h, rfl⟩)
        ((I.wgs wg hx).upd_reg hsd (by rw [hs]; rfl) (by rw [hs]; exact fun h => h) rfl (fun h => h))
        (I.thruMove fun wg' h => h.elim) (by rintro u rfl; exact I.restMute (by rw [ofEvents_nil]; simp) (fun wg' h => h.elim) (fun h => by cases h)) (fun _ wg' hm => by simp at hm) (by rw [hs]; exact fun h => h.elim) (fun h => by obtain ⟨st, h'⟩ := hsm; exact absurd (h.unique h').2 (by omega)) (wgx_none fun _ h => h)
      have ha : σ'.abs = σ.abs := by rw [h4, abs_upd_same (by rw [hs])]; rfl
      refine ⟨m', ops, σ', h1, ⟨gs', _, sl', h2', h3⟩, .inl ⟨ha, ?_⟩⟩
      unfold Gst.mu
      rw [ha, h6, h5, h7, h8, show Stg.w3 wg k = σ.stg i from hs.symm, upd_self]
      refine Prod.Lex.right _ (Prod.Lex.right _ ?_)
      have e1 := h9 rfl
      have e2 := sumTo_upd σ.f 0 id hin
      simp only [id] at e2
      have e3 : sumTo σ.n (fun a => upd σ.f i 0 a) = sumTo σ.n (upd σ.f i 0) := rfl
      have e4 : sumTo σ.n (fun a => σ.f a) = sumTo σ.n σ.f := rfl
      have h10 : sumTo σ.n (upd σ.f i 0) ≤ sumTo σ.n σ.f := by omega
      have h11 := Nat.mul_le_mul_left (σ.n + 1) h10
      show (σ.n + 1) * sumTo σ.n (upd σ.f i 0) + sumTo σ.n σ'.fl < (σ.n + 1) * sumTo σ.n σ.f + sumTo σ.n σ.fl
      omega
    ·
      obtain ⟨g', hst, m, hgo'⟩ := hstop.2.2.2 hw
      have hpub : ∀ wg' j r, Pub X t wg' j r → Pub X (t ++ MemOp.ofEvents i g.frame.fn g.frame.place (semEvents (smA wg))) wg' j r := Pub.keep (i := i) ofEvents_g (.inl (I.uns i hin (by rw [hs]; exact fun h => h)))
      obtain ⟨m', ops, σ', h1, ⟨gs', sl', h2', h3⟩, h4, h5, h6, _, h7, _⟩ := I.wgStep (sl := sl) (s' := .w4 wg k) (f' := m) (fl' := 1) (v' := σ.v) (grp' := σ.grp) (vou' := σ.vou) hok hg hst (by rw [hs]; simp) hx (.inr ⟨_, _, rfl, rfl⟩) (evG_sem _ rfl)
        (by rintro u rfl; rw [deaf_sem, hd0]; exact ⟨rfl, N, hgo'⟩) (Nat.le_refl _) (by simp) (fun wg' _ hw' => by rw [hs]; exact ⟨fun h => hw' h.symm, fun h => h, fun h => h, fun h => h, rfl⟩)
        (by
          rw [hsd, upd_same]
          exact .opn (fun h => h) (rel_upd hnr fun h => h) (by rw [hv0]; simpa using hw.setSm 0))
        (I.thruMove fun wg' h => by cases h; exact hv0) (by rintro u rfl; exact I.restMute hpub (fun wg' h => h.elim) (fun h => by cases h)) (fun _ wg' hm => by simp [semEvents, ConcR.mk] at hm) (by rw [hs]; exact fun h => h.elim) (fun h => absurd (h.unique (hw.setSm 0)).2 (by omega)) (wgx_none fun _ h => h)
      have ha : σ'.abs = σ.abs := by rw [h4, abs_upd_same (by rw [hs]; rfl)]; rfl
      exact ⟨m', ops, σ', h1, ⟨gs', _, sl', h2', h3⟩, .inl ⟨ha, mu_of_rank ha h6 hin h5 h7 (by rw [hs]; show 3 < 4; omega)⟩⟩
  · exact I.silent hok hg (by rw [hs]; simp) (by rw [hs]; simp) hst hd (by omega : n < σ.f i) (by rintro rfl; rw [hs]; exact ⟨hd0, N, .inl ⟨hfl, hgo'⟩⟩)
theorem Inv.step_w4 (I : Inv X b0 Shun σ gs w t) (hok : AOk X σ.abs) (hg : gs[i]? = some g) {wg : Nat} {k : Script} (hs : σ.stg i = .w4 wg k) : Goal X b0 Shun A σ gs w t i sl := by
  have hin := I.lt hg
  have hsit := I.sitOf hg
  rw [hs] at hsit
  obtain ⟨hd0, N, hgo⟩ := hsit
  obtain ⟨hx, hsd, hv⟩ := I.waiOf hok hin (by rw [hs]; rfl)
  have hv0 : σ.v wg = 0 := I.thru i wg hin (by rw [hs]; rfl)
  rcases goes_now hgo (Agree.refl _ _ _) with ⟨_, hstop⟩ | ⟨n, g', w', es, hn, hst, hd, hgo'⟩
  · obtain ⟨_, hw⟩ := mode_opn (I.wgs wg hx) (by rw [hsd, hs]; exact fun h => h)
    rw [hv0] at hw
    obtain ⟨g', hst, m, hgo'⟩ := hstop (by simpa using hw)
    exact I.lookStep hok hg (by rw [hs]; simp) hx hst (s' := .ke wg k) (f' := m) hd0 ⟨rfl, N, hgo'⟩ (by simp) (fun wg' => by rw [hs]; exact ⟨fun h => h, fun h => h, fun h => h, fun h => h⟩)
      (fun wg' h => by cases h; exact hv0) (fun _ h => h) (by rw [hs]; rfl) (by simp [Stg.abs]) (by rw [hs]; exact fun h => h) (fun h => h) (by simp) (by rw [hs]; show 2 < 3; omega)
  · exact I.silent hok hg (by rw [hs]; simp) (by rw [hs]; simp) hst hd (by omega : n < σ.f i) (by rintro rfl; rw [hs]; exact ⟨hd0, N, hgo'⟩)
theorem Inv.step_ke (I : Inv X b0 Shun σ gs w t) (hok : AOk X σ.abs) (hg : gs[i]? = some g) {wg : Nat} {k : Script} (hs : σ.stg i = .ke wg k) : Goal X b0 Shun A σ gs w t i sl := by
  have hin := I.lt hg
  have hsit := I.sitOf hg
  rw [hs] at hsit
  obtain ⟨hd0, N, hgo⟩ := hsit
  obtain ⟨hx, hsd, hv⟩ := I.waiOf hok hin (by rw [hs]; rfl)
  have hv0 : σ.v wg = 0 := I.thru i wg hin (by rw [hs]; rfl)
  rcases goes_now hgo (Agree.refl _ _ _) with ⟨_, g', hst, m, hgo'⟩ | ⟨n, g', w', es, hn, hst, hd, hgo'⟩
  · exact I.markStep hok hg (by rw [hs]; simp) hx hst evG_enable (by simp) (Pub.keep (i := i) ofEvents_g (.inr (touchless_mk rfl))) (s' := .aq wg k) (f' := m)
      ⟨by rw [deaf_enable, hd0], N, hgo'⟩ (by simp)
      (fun wg' _ => by rw [hs]; exact ⟨fun h => h, fun h => h, fun h => h, fun h => h⟩) ((I.wgs wg hx).upd_other (by rw [hs]; exact fun h => h) (by rw [hs]; exact fun h => h) (fun h => h) (fun h => h))
      (fun wg' h => by cases h; exact hv0) (fun _ h => h) (by rw [hs]; rfl) (by simp [Stg.abs]) (by rw [hs]; exact fun h => h) (fun h => h) (wgx_none fun _ h => h) (by rw [hs]; show 1 < 2; omega)
  · exact I.silent hok hg (by rw [hs]; simp) (by rw [hs]; simp) hst hd (by omega : n < σ.f i) (by rintro rfl; rw [hs]; exact ⟨hd0, N, hgo'⟩)
theorem Inv.step_aq (I : Inv X b0 Shun σ gs w t) (hok : AOk X σ.abs) (hg : gs[i]? = some g) {wg : Nat} {k : Script} (hs : σ.stg i = .aq wg k) : Goal X b0 Shun A σ gs w t i sl := by
  have hin := I.lt hg
  have hsit := I.sitOf hg
  rw [hs] at hsit
  obtain ⟨hd0, N, hgo⟩ := hsit
  have hpr : σ.abs.pr i = .at (.wai wg k) := by simp only [Gst.abs, hs, Stg.abs]
  obtain ⟨hx, hsd, hv⟩ := I.waiOf hok hin (by rw [hs]; rfl)
  have hv0 : σ.v wg = 0 := I.thru i wg hin (by rw [hs]; rfl)
  rcases goes_now hgo (Agree.refl _ _ _) with ⟨_, g', hst, m, hgo'⟩ | ⟨n, g', w', es, hn, hst, hd, hgo'⟩
  · have hpub : ∀ wg' j r, Pub X t wg' j r → Pub X (t ++ MemOp.ofEvents i g.frame.fn g.frame.place #[ConcR.mk (.acquire (stA wg))]) wg' j r := Pub.keep (i := i) ofEvents_g (.inr (touchless_mk rfl))
    obtain ⟨m', ops, σ', h1, ⟨gs', sl', h2', h3⟩, h4, _⟩ := I.wgStep (sl := sl) (w' := w) (s' := .wk k) (f' := m + N) (fl' := 1) (v' := σ.v) (grp' := σ.grp) (vou' := upd σ.vou i fun j => σ.vou i j ∨ σ.grp wg j) hok hg hst (by rw [hs]; simp) hx (.inl rfl) (evG_one evG_acquire)
      (by rintro u rfl; exact ⟨by rw [deaf_mk _ _ _ _ (by simp) (by simp)]; exact hd0, Seg.of_dc0 hgo' fun _ _ h => h⟩) (Nat.le_refl _) (by simp) (fun wg' _ hw' => by rw [hs]; exact ⟨fun h => h, fun h => h, fun h => h, fun h => h, rfl⟩)
      ((I.wgs wg hx).upd_other (by rw [hs]; exact fun h => h) (by rw [hs]; exact fun h => h) (fun h => h) (fun h => h)) (I.thruMove fun wg' h => h.elim)
      (by
        rintro u rfl
        obtain ⟨r1, r2, r3, r4⟩ := I.restMute (i := i) (s' := .wk k) hpub (fun wg' h => h.elim) (fun h => by cases h)
        refine ⟨r1, fun a j ha h => ?_, fun j wg' hj hsd' b hb => ?_, r4⟩
        · by_cases e : a = i
          · subst e
            rw [upd_same] at h
            rcases h with h | h
            · exact r2 a j ha h
            · rw [ofEvents_one]
              exact Grp.acquire (i := a) (I.grp wg j h) (I.ti.nor wg hx) ⟨rfl, ofEvent_mk _⟩ hd0
          · rw [upd_ne _ _ e] at h; exact r2 a j ha h
        · by_cases e : j = i
          · subst e; rw [upd_same] at hsd'; exact hsd'.elim
          · rw [upd_ne _ _ e] at hb; exact r3 j wg' hj hsd' b hb)
      (fun _ wg' hm => by simp [ConcR.mk] at hm) (by rw [hs]; exact fun h => h.elim) (fun h => .inl ⟨h, fun _ => rfl⟩) (wgx_none fun _ h => h)
    refine ⟨m', ops, σ', h1, ⟨gs', _, sl', h2', h3⟩, .inr ?_⟩
    rw [h4]
    exact AStep.wai i wg k hin hpr hv0
  · exact I.silent hok hg (by rw [hs]; simp) (by rw [hs]; simp) hst hd (by omega : n < σ.f i) (by rintro rfl; rw [hs]; exact ⟨hd0, N, hgo'⟩)
end
end Go.Proofs.Ytmkjoojoaldljaa.Net
namespace Go.Proofs.Ytmkjoojoaldljaa.Net
open Go.Conc
open Go.ConcN (WgLive sumTo upd upd_same upd_ne sumTo_upd)
open Go.ConcR (KK wgBlock WgAt stA smA rd wr mk DC0)
def Stg.Plain (s : Stg) : Prop := ∃ s₀, s = .wk s₀ ∨ s = .pk s₀
theorem Stg.Plain.no {s : Stg} (h : s.Plain) : (∀ wg, ¬ s.Reg wg) ∧ (∀ wg, ¬ s.Rel wg) ∧ (∀ wg, ¬ s.Thru wg) ∧ (∀ wg, ¬ s.Said wg) ∧ ¬ s.Out ∧ s.abs ≠ .dead ∧ s ≠ .qt ∧ (∀ wg k, s ≠ .a2 wg k ∧ s ≠ .a3 wg k ∧ s ≠ .w3 wg k) := by
  obtain ⟨s₀, rfl | rfl⟩ := h <;> exact ⟨fun _ h => h, fun _ h => h, fun _ h => h, fun _ h => h, fun h => h, by simp [Stg.abs], by simp, by simp⟩
theorem deaf_nomark {t : Trace} : ∀ (l : List MemOp), (∀ op ∈ l, ∀ m, op.act ≠ .mark m) → ∀ j, Deaf (t ++ l.toArray) j = Deaf t j := by
  intro l h j
  rw [Deaf_append]
  generalize Deaf t j = d
  induction l generalizing d with
  | nil => rfl
  | cons y l ih =>
    have hy : deafStep j d y = d := by
      unfold deafStep
      split
      · rename_i e; exact absurd e (h y (by simp) _)
      · rename_i e; exact absurd e (h y (by simp) _)
      · rfl
    rw [List.foldl_cons, hy]
    exact ih (fun op hop => h op (by simp [hop])) d
theorem mem_offers_parked {g : Goroutine} {cs : Array CommCase} {sh : CommShape} {r : Nat} {snd : Bool} {k : Nat} : k ∈ offersAt (parked g cs sh) r snd ↔ ∃ cc, cs[k]? = some cc ∧ cc.send.isSome = snd ∧ cc.chan = .chan (some r) := by
  simp only [offersAt, parked, List.mem_map, List.mem_filter, Prod.exists]
  constructor
  · rintro ⟨cc, k', ⟨hm, hp⟩, rfl⟩
    have := Array.mem_zipIdx_iff_getElem?.1 (Array.mem_toList_iff.1 hm)
    simp only [Bool.and_eq_true, beq_iff_eq] at hp
    refine ⟨cc, by simpa using this, hp.1, ?_⟩
    have h2 := hp.2
    revert h2
    cases cc.chan <;> simp
    rename_i o
    cases o <;> simp
  · rintro ⟨cc, hc, h1, h2⟩
    refine ⟨cc, k, ⟨Array.mem_toList_iff.2 (Array.mem_zipIdx_iff_getElem?.2 (by simpa using hc)), ?_⟩, rfl⟩
    simp [h1, h2]
section
variable {X : Ctx} {b0 : Nat} {Shun : Loc → Prop} {σ : Gst} {gs gs' : Array Goroutine} {w w' : World} {t u : Trace} {i : Nat} {g : Goroutine} {sl : Option (Nat × Nat)} {A : Abs → Nat}
theorem wmode_plain {ty : TypeId} {wg v sd : Nat} {stg stg' : Nat → Stg} {n : Nat} (h : WMode ty wg v (stg sd) stg n w) (hs : ∀ x, stg' x = stg x ∨ ((stg x).Plain ∧ (stg' x).Plain)) : WMode ty wg v (stg' sd) stg' n w := by
  have hreg : ∀ x, (stg' x).Reg wg ↔ (stg x).Reg wg := fun x => by
    rcases hs x with e | ⟨a, b⟩
    · rw [e]
    · exact ⟨fun h => absurd h (b.no.1 wg), fun h => absurd h (a.no.1 wg)⟩
  have hrel : ∀ x, (stg' x).Rel wg ↔ (stg x).Rel wg := fun x => by
    rcases hs x with e | ⟨a, b⟩
    · rw [e]
    · exact ⟨fun h => absurd h (b.no.2.1 wg), fun h => absurd h (a.no.2.1 wg)⟩
  have hkeep : ∀ x, (stg x).Rel wg → stg' x = stg x := fun x hx => by
    rcases hs x with e | ⟨a, _⟩
    · exact e
    · exact absurd hx (a.no.2.1 wg)
  cases h with
  | opn h hr hw => exact .opn (fun x => h ((hreg sd).1 x)) (fun j hj x => hr j hj ((hrel j).1 x)) hw
  | reg h hr hv hw => exact .reg ((hreg sd).2 h) (fun j hj x => hr j hj ((hrel j).1 x)) hv hw
  | lst h hv j hj hs' hu hw =>
    have e := hkeep j (by rcases hs' with e | e <;> rw [e] <;> rfl)
    exact .lst ((hreg sd).2 h) hv j hj (by rw [e]; exact hs') (fun j' hj' x => hu j' hj' ((hrel j').1 x)) hw
  | ls4 h hv j hj hs' hu hw =>
    have e := hkeep j (by rw [hs']; rfl)
    exact .ls4 ((hreg sd).2 h) hv j hj (by rw [e]; exact hs') (fun j' hj' x => hu j' hj' ((hrel j').1 x)) hw
  | fin h hv hr hw => exact .fin ((hreg sd).2 h) hv (fun j hj x => hr j hj ((hrel j).1 x)) hw
structure OnCh (X : Ctx) (σ : Gst) (w w' : World) : Prop where
  same : w'.tape = w.tape ∧ w'.os = w.os ∧ w'.output = w.output ∧ w'.heap.size = w.heap.size
  blk : ∀ b, σ.ch b = none → w'.heap[b]? = w.heap[b]?
  chn : ∀ c cl, σ.ch c = some cl → ∃ s r, w'.heap[c]? = some (.chan 0 #[] cl s r false)
theorem OnCh.agree (h : OnCh X σ w w') {T : Nat → Prop} (hT : ∀ b, T b → σ.ch b = none) (hW : ∀ b, X.Wg b → σ.ch b = none) : Agree X T w w' :=
  ⟨h.same.1, h.same.2.1, h.same.2.2.1, Nat.le_of_eq h.same.2.2.2.symm, fun b hb => h.blk b (hT b hb), fun b hb x => wgLive_of_heap (h.blk b (hW b hb)) x⟩
theorem Inv.notCh (I : Inv X b0 Shun σ gs w t) {j : Nat} (hj : j < σ.n) : ∀ b, OS (σ.own j) (σ.fz j) b → σ.ch b = none := by
  intro b hb
  by_cases h : σ.ch b = none
  · exact h
  · rcases hb with hb | hb
    · exact absurd h (I.sep.ownCh j b hj hb)
    · exact absurd h (I.sep.fzCh j b hj hb)
theorem Inv.wgNotCh (I : Inv X b0 Shun σ gs w t) : ∀ b, X.Wg b → σ.ch b = none := by
  intro b hb
  by_cases h : σ.ch b = none
  · exact h
  · exact absurd h (I.sep.wgCh b hb)
theorem OnCh.ag (h : OnCh X σ w w') (I : Inv X b0 Shun σ gs w t) {j : Nat} (hj : j < σ.n) : Agree X (OS (σ.own j) (σ.fz j)) w w' := h.agree (I.notCh hj) I.wgNotCh
theorem Inv.put (I : Inv X b0 Shun σ gs w t) (hsz : gs'.size = σ.n) (hw : OnCh X σ w w') {stg' : Nat → Stg} {f' : Nat → Nat} (hu : ∀ op ∈ u, op.g < σ.n ∧ op.act.touch? = none ∧ op.act.low w.heap.size ∧ ∀ m, op.act ≠ .mark m)
    (hsit : ∀ x, x < σ.n → ∃ y, gs'[x]? = some y ∧ Sit X x (σ.own x) (σ.fz x) (stg' x) (f' x) (σ.fl x) (Deaf t x) y w')
    (hst : ∀ x, stg' x = σ.stg x ∨ ((σ.stg x).Plain ∧ (stg' x).Plain))
    (hpko : ∀ x c ok k kc, x < σ.n → stg' x = .pk (.rcv c ok k kc) → σ.ch c = some false)
    (hpkm : ∀ a b c v k ok kj kc, a < σ.n → b < σ.n → stg' a = .pk (.snd c v k) → stg' b = .pk (.rcv c ok kj kc) → False) :
    Inv X b0 Shun { σ with stg := stg', f := f' } gs' w' (t ++ u) := by
  have hmute : ∀ op ∈ u, op.act.touch? = none := fun op hop => (hu op hop).2.1
  have hpub : ∀ wg j r, Pub X t wg j r → Pub X (t ++ u) wg j r := fun wg j r hp => hp.other fun op hop => .inr (hmute op hop)
  have hdf : ∀ j, Deaf (t ++ u) j = Deaf t j := fun j => by
    have := deaf_nomark (t := t) u.toList (fun op hop => (hu op (by simpa using hop)).2.2.2) j
    simpa using this
  have hnp : ∀ x, stg' x = σ.stg x ∨ ((σ.stg x).Plain ∧ (stg' x).Plain) := hst
  refine ⟨hsz, I.lo, fun x hx => ?_, I.fl1, by rw [hw.same.2.2.2]; exact I.sep, ?_, hw.chn, hpko, hpkm, fun wg hx => ?_, I.sdl, fun x wg hx hth => ?_, fun j hj => (hdf j).trans (I.hear j hj), fun wg j h => (I.grp wg j h).keep hpub, fun k j hk h => (I.vou k j hk h).keep hpub, fun j wg hj hs k hk => ?_, fun j hb hj hd => ?_, fun j h0 hb => ?_, fun wg k hx hw1 hs => ?_, fun j wg hj => ?_, fun j hj ho => ?_⟩
  · obtain ⟨y, hy, hs⟩ := hsit x hx
    exact ⟨y, hy, by rw [hdf]; exact hs⟩
  · rw [hw.same.2.2.2]
    exact I.ti.app_mute (fun op hop => (hu op hop).1) hmute (fun op hop => (hu op hop).2.2.1) fun op hop b _ => (hu op hop).2.2.2 _
  · exact (wmode_plain (I.wgs wg hx) hst).world (hw.blk wg (I.wgNotCh wg hx))
  · refine I.thru x wg hx ?_
    rcases hst x with e | ⟨_, b⟩
    · rw [← e]; exact hth
    · exact absurd hth (b.no.2.2.1 wg)
  · refine (I.said j wg hj ?_ k hk).keep hpub
    rcases hst j with e | ⟨_, b⟩
    · rw [← e]; exact hs
    · exact absurd hs (b.no.2.2.2.1 wg)
  · rcases hst j with e | ⟨_, b⟩
    · obtain ⟨wg, r, h⟩ := I.tl j hb hj (by rw [← e]; exact hd)
      exact ⟨wg, r, hpub _ _ _ h⟩
    · exact absurd hd b.no.2.2.2.2.2.1
  · rcases hst j with e | ⟨a, _⟩
    · exact e.trans (I.old j h0 hb)
    · exact absurd (I.old j h0 hb) a.no.2.2.2.2.2.2.1
  · refine I.awk wg k hx ((hw.blk wg (I.wgNotCh wg hx)).symm.trans hw1) ?_
    rcases hst (σ.sd wg) with e | ⟨_, b⟩
    · rw [← e]; exact hs
    · exact absurd hs (b.no.2.2.2.2.2.2.2 wg k).2.2
  · rcases hst j with e | ⟨_, b⟩
    · show ((stg' j).Rel wg → X.Wg wg) ∧ ∀ k, (stg' j = .a2 wg k ∨ stg' j = .a3 wg k) → X.Wg wg ∧ σ.sd wg = j
      rw [e]; exact I.wgx j wg hj
    · exact ⟨fun h => absurd h (b.no.2.1 wg), fun k h => h.elim (fun e => absurd e (b.no.2.2.2.2.2.2.2 wg k).1) fun e => absurd e (b.no.2.2.2.2.2.2.2 wg k).2.1⟩
  · refine (I.uns j hj ?_).app fun op hop _ wg _ => (hu op hop).2.2.2 _
    rcases hst j with e | ⟨a, _⟩
    · rw [← e]; exact ho
    · exact a.no.2.2.2.2.1
theorem Inv.offers (I : Inv X b0 Shun σ gs w t) {j r k : Nat} {snd : Bool} {y : Goroutine} (hy : gs[j]? = some y) (hk : k ∈ offersAt y r snd) :
    (∃ c v k', σ.stg j = .pk (.snd c v k') ∧ ∃ g₀ cases kk sh z, y = parked g₀ cases sh ∧ cases[kk]? = some (scase c v z) ∧ (∀ (m : Nat) (cc : CommCase), m ≠ kk → cases[m]? = some cc → ∃ d z', X.Dead d ∧ cc = rcase d z') ∧
        ((snd = true ∧ k = kk ∧ c = r) ∨ (snd = false ∧ X.Dead r))) ∨
    (∃ c ok kj kc, σ.stg j = .pk (.rcv c ok kj kc) ∧ snd = false ∧ k = 0 ∧ c = r ∧ ∃ g₀ z, y = parked g₀ #[rcase c z] (.recv true)) := by
  have hs := I.sitOf hy
  have hst := hs.status
  rcases hst with e | ⟨e, _⟩ | ⟨e, ⟨s, e'⟩ | ⟨wg, k', _, _, ho⟩⟩
  · rw [offersAt_of_not_blocked (by rw [e]; simp)] at hk; cases hk
  · rw [offersAt_of_not_blocked (by rw [e]; simp)] at hk; cases hk
  · rw [e'] at hs
    cases s with
    | snd c v k' =>
      obtain ⟨_, _, g₀, cases, kk, sh, z, h3, h4, h5, _⟩ := hs
      refine .inl ⟨c, v, k', e', g₀, cases, kk, sh, z, h3, h4, h5, ?_⟩
      rw [h3] at hk
      obtain ⟨cc, hcc, hs', hc⟩ := mem_offers_parked.1 hk
      by_cases hkk : k = kk
      · subst hkk
        rw [h4] at hcc
        obtain rfl := Option.some.inj hcc
        refine .inl ⟨by simpa [scase] using hs'.symm, rfl, ?_⟩
        simpa [scase] using hc
      · obtain ⟨d, z', hd, rfl⟩ := h5 k cc hkk hcc
        refine .inr ⟨by simpa [rcase] using hs'.symm, ?_⟩
        have : d = r := by simpa [rcase] using hc
        rw [← this]; exact hd
    | rcv c ok kj kc =>
      obtain ⟨_, _, g₀, z, h3, _⟩ := hs
      refine .inr ⟨c, ok, kj, kc, e', ?_⟩
      rw [h3] at hk
      obtain ⟨cc, hcc, hs', hc⟩ := mem_offers_parked.1 hk
      have hk0 : k < 1 := by simpa using (Array.getElem?_eq_some_iff.1 hcc).1
      obtain rfl : k = 0 := by omega
      simp at hcc
      subst hcc
      exact ⟨by simpa [rcase] using hs'.symm, rfl, by simpa [rcase] using hc, g₀, z, h3⟩
    | _ => exact hs.elim
  · unfold offersAt at hk
    rw [e, ho] at hk
    cases hk
theorem partner_of {r : Nat} {snd : Bool} {j k : Nat} (h : (j, k) ∈ partners (gs.setIfInBounds i ph) r snd) : j ≠ i ∧ ∃ y, gs[j]? = some y ∧ k ∈ offersAt y r snd := by
  obtain ⟨y, hy, hk⟩ := mem_partners.1 h
  rcases getElem?_stand gs i j y hy with ⟨_, rfl⟩ | ⟨hne, hy'⟩
  · rw [offersAt_ph] at hk; cases hk
  · exact ⟨hne, y, hy', hk⟩
theorem of_partner {r : Nat} {snd : Bool} {j k : Nat} {y : Goroutine} (hne : j ≠ i) (hy : gs[j]? = some y) (hk : k ∈ offersAt y r snd) : (j, k) ∈ partners (gs.setIfInBounds i ph) r snd :=
  mem_partners.2 ⟨y, by rw [Array.getElem?_setIfInBounds_ne (Ne.symm hne)]; exact hy, hk⟩
theorem Inv.noDeadSender (I : Inv X b0 Shun σ gs w t) (hok : AOk X σ.abs) {d : Nat} (hd : X.Dead d) : partners (gs.setIfInBounds i ph) d true = [] := by
  apply List.eq_nil_iff_forall_not_mem.2
  rintro ⟨j, k⟩ hm
  obtain ⟨_, y, hy, hk⟩ := partner_of hm
  rcases I.offers hy hk with ⟨c, v, k', hs, _, _, _, _, _, _, _, _, h⟩ | ⟨c, ok, kj, kc, hs, h, _⟩
  · rcases h with ⟨_, _, rfl⟩ | ⟨h, _⟩
    · exact (hok.snd j c v k' (I.lt hy) (by simp only [Gst.abs, hs, Stg.abs])).2 hd
    · cases h
  · cases h
theorem Inv.deadCases (I : Inv X b0 Shun σ gs w t) (hok : AOk X σ.abs) (hin : i < σ.n) {c : Nat} {v : Value} {k : Script} (hpr : σ.abs.pr i = .at (.snd c v k)) {cases : Array CommCase} {kk : Nat}
    (hd : ∀ (m : Nat) (cc : CommCase), m ≠ kk → cases[m]? = some cc → ∃ d z', X.Dead d ∧ cc = rcase d z') :
    ∀ (m : Nat) (c' : CommCase), m ≠ kk → cases[m]? = some c' → NoWays w (gs.setIfInBounds i ph) c' := by
  intro m cc hm hcc
  obtain ⟨d, z', hd', rfl⟩ := hd m cc hm hcc
  have hopen : σ.ch d = some false := by
    rcases hok.dead d hd' with h | h
    · exact h
    · exact absurd hpr (h.2 i c v k hin)
  obtain ⟨s, r, hc⟩ := I.chn d false hopen
  exact ways_recv_none hc (I.noDeadSender hok hd')
theorem served_parked {g₀ g₁ : Goroutine} {cs cs' : Array CommCase} {sh sh' : CommShape} (h : parked g₀ cs sh = parked g₁ cs' sh') (v : Value) : Conc.served g₀ v = Conc.served g₁ v ∧ cs = cs' ∧ sh = sh' := by
  obtain ⟨f, c, s, d, o⟩ := g₀
  obtain ⟨f', c', s', d', o'⟩ := g₁
  simp only [parked, Goroutine.mk.injEq, Option.some.injEq, Prod.mk.injEq, true_and] at h
  obtain ⟨rfl, rfl, rfl, rfl, rfl⟩ := h
  exact ⟨rfl, rfl, rfl⟩
theorem setChan_on (I : Inv X b0 Shun σ gs w t) {c s r : Nat} {cl : Bool} (hc : σ.ch c = some cl) (d : Nat) : OnCh X σ w ((w.at d).setChan c 0 #[] cl s r false) := by
  obtain ⟨s₀, r₀, h₀⟩ := I.chn c cl hc
  refine ⟨⟨rfl, rfl, rfl, by simp [World.setChan, World.at]⟩, fun b hb => ?_, fun c' cl' hc' => ?_⟩
  · exact heap_setChan_ne (w.at d) 0 #[] cl s r false (by rintro rfl; rw [hc] at hb; cases hb)
  · by_cases e : c' = c
    · subst e
      rw [hc] at hc'
      obtain rfl := Option.some.inj hc'
      exact ⟨s, r, heap_setChan_self (w.at d) (show (w.at d).heap[c']? = _ from h₀) 0 #[] cl s r false⟩
    · obtain ⟨s₁, r₁, h₁⟩ := I.chn c' cl' hc'
      exact ⟨s₁, r₁, (heap_setChan_ne (w.at d) 0 #[] cl s r false (Ne.symm e)).trans h₁⟩
theorem set2_get {x i j : Nat} {y z : Goroutine} (hx : x ≠ i) (hx' : x ≠ j) : ((gs.setIfInBounds j y).setIfInBounds i z)[x]? = gs[x]? := by
  rw [Array.getElem?_setIfInBounds_ne (Ne.symm hx), Array.getElem?_setIfInBounds_ne (Ne.symm hx')]
theorem Inv.met (I : Inv X b0 Shun σ gs w t) (hok : AOk X σ.abs) {a b c : Nat} {v : Value} {ka : Script} {ok : Value → Prop} {kb : Value → Script} {kc : Script} (hab : a ≠ b) (ha : a < σ.n) (hb : b < σ.n)
    (h1 : σ.abs.pr a = .at (.snd c v ka)) (h2 : σ.abs.pr b = .at (.rcv c ok kb kc)) (p1 : (σ.stg a).Plain) (p2 : (σ.stg b).Plain) (d1 : Deaf t a = 0) (d2 : Deaf t b = 0) {ga gb : Goroutine} (hw : OnCh X σ w w') (hsz : gs'.size = σ.n)
    (hga : gs'[a]? = some ga) (hgb : gs'[b]? = some gb) (hx : ∀ x, x ≠ a → x ≠ b → gs'[x]? = gs[x]?) (na : NextOf X ka (a == 0) (σ.fz a) (σ.own a) ga w') (nb : NextOf X (kb v) (b == 0) (σ.fz b) (σ.own b) gb w')
    (hu : ∀ op ∈ u, op.g < σ.n ∧ op.act.touch? = none ∧ op.act.low w.heap.size ∧ ∀ m, op.act ≠ .mark m) :
    ∃ σ', Inv X b0 Shun σ' gs' w' (t ++ u) ∧ AStep σ.abs σ'.abs := by
  obtain ⟨fa, na⟩ := na
  obtain ⟨fb, nb⟩ := nb
  refine ⟨{ σ with stg := upd (upd σ.stg a (.wk ka)) b (.wk (kb v)), f := upd (upd σ.f a fa) b fb }, I.put hsz hw hu (fun x hxn => ?_) (fun x => ?_) (fun x c' ok' k' kc' hxn e => ?_) (fun x y c' v' k' ok' kj' kc' hxn hyn e e' => ?_), ?_⟩
  · by_cases e : x = b
    · subst e
      exact ⟨gb, hgb, by simp only [upd_same]; exact ⟨d2, nb⟩⟩
    · by_cases e' : x = a
      · subst e'
        exact ⟨ga, hga, by simp only [upd_ne _ _ e, upd_same]; exact ⟨d1, na⟩⟩
      · obtain ⟨y, hy, hs⟩ := I.sit x hxn
        exact ⟨y, by rw [hx x e' e]; exact hy, by simp only [upd_ne _ _ e, upd_ne _ _ e']; exact hs.rely (hw.ag I hxn)⟩
  · by_cases e : x = b
    · subst e; rw [upd_same]; exact .inr ⟨p2, _, .inl rfl⟩
    · rw [upd_ne _ _ e]
      by_cases e' : x = a
      · subst e'; rw [upd_same]; exact .inr ⟨p1, _, .inl rfl⟩
      · rw [upd_ne _ _ e']; exact .inl rfl
  · by_cases e1 : x = b
    · subst e1; rw [upd_same] at e; cases e
    · rw [upd_ne _ _ e1] at e
      by_cases e2 : x = a
      · subst e2; rw [upd_same] at e; cases e
      · rw [upd_ne _ _ e2] at e; exact I.pko x c' ok' k' kc' hxn e
  · have f1 : σ.stg x = .pk (.snd c' v' k') := by
      by_cases e1 : x = b
      · subst e1; rw [upd_same] at e; cases e
      · rw [upd_ne _ _ e1] at e
        by_cases e2 : x = a
        · subst e2; rw [upd_same] at e; cases e
        · rwa [upd_ne _ _ e2] at e
    have f2 : σ.stg y = .pk (.rcv c' ok' kj' kc') := by
      by_cases e1 : y = b
      · subst e1; rw [upd_same] at e'; cases e'
      · rw [upd_ne _ _ e1] at e'
        by_cases e2 : y = a
        · subst e2; rw [upd_same] at e'; cases e'
        · rwa [upd_ne _ _ e2] at e'
    exact I.pkm x y c' v' k' ok' kj' kc' hxn hyn f1 f2
  · have e : ({ σ with stg := upd (upd σ.stg a (.wk ka)) b (.wk (kb v)), f := upd (upd σ.f a fa) b fb } : Gst).abs = { σ.abs with pr := upd (upd σ.abs.pr a (.at ka)) b (.at (kb v)) } := by
      simp only [Gst.abs, Abs.mk.injEq, and_true, true_and]
      funext x
      by_cases e1 : x = b
      · subst e1; simp only [upd_same, Stg.abs]
      · by_cases e2 : x = a
        · subst e2; simp only [upd_ne _ _ e1, upd_same, Stg.abs]
        · simp only [upd_ne _ _ e1, upd_ne _ _ e2]
    rw [e]
    have := hok
    exact AStep.comm a b c v ka ok kb kc hab ha hb h1 h2
theorem commOps_ok {n hi c s r a b : Nat} (ha : a < n) (hb : b < n) (hc : c < hi) {f1 f2 f3 f4 : FuncId} {p1 p2 p3 p4 : String} :
    ∀ op ∈ (#[{ g := a, fn := f1, pos := p1, act := .send c s }, { g := b, fn := f2, pos := p2, act := .recv c r 0 }, { g := a, fn := f3, pos := p3, act := .sendDone c s }, { g := b, fn := f4, pos := p4, act := .recvDone c r }] : Trace),
      op.g < n ∧ op.act.touch? = none ∧ op.act.low hi ∧ ∀ m, op.act ≠ .mark m := by
  intro op hop
  simp only [List.mem_toArray, List.mem_cons, List.not_mem_nil, or_false] at hop
  rcases hop with rfl | rfl | rfl | rfl
  · exact ⟨ha, rfl, hc, by simp⟩
  · exact ⟨hb, rfl, hc, by simp⟩
  · exact ⟨ha, rfl, hc, by simp⟩
  · exact ⟨hb, rfl, hc, by simp⟩
theorem Inv.park (I : Inv X b0 Shun σ gs w t) (hin : i < σ.n) {s : Script} (hs : σ.stg i = .wk s) {y : Goroutine} (hsit : Sit X i (σ.own i) (σ.fz i) (.pk s) 0 (σ.fl i) (Deaf t i) y w)
    (hko : ∀ c ok k kc, s = .rcv c ok k kc → σ.ch c = some false) (hkm : ∀ c v k, s = .snd c v k → ∀ j, j < σ.n → ∀ ok kj kc, σ.stg j ≠ .pk (.rcv c ok kj kc)) (hkm' : ∀ c ok kj kc, s = .rcv c ok kj kc → ∀ j, j < σ.n → ∀ v k, σ.stg j ≠ .pk (.snd c v k)) :
    ∃ σ', Inv X b0 Shun σ' (gs.setIfInBounds i y) w (t ++ #[]) ∧ σ'.abs = σ.abs ∧ Lt3 (σ'.mu A) (σ.mu A) := by
  refine ⟨{ σ with stg := upd σ.stg i (.pk s), f := upd σ.f i 0 }, I.put (by simp [I.size]) ⟨⟨rfl, rfl, rfl, rfl⟩, fun _ _ => rfl, I.chn⟩ (by simp) (fun x hxn => ?_) (fun x => ?_) (fun x c' ok' k' kc' hxn e => ?_) (fun x y c' v' k' ok' kj' kc' hxn hyn e e' => ?_), ?_, ?_⟩
  · by_cases e : x = i
    · subst e
      exact ⟨y, Array.getElem?_setIfInBounds_self_of_lt (by rw [I.size]; exact hxn), by simp only [upd_same]; exact hsit⟩
    · obtain ⟨y', hy, hs'⟩ := I.sit x hxn
      exact ⟨y', by rw [Array.getElem?_setIfInBounds_ne (Ne.symm e)]; exact hy, by simp only [upd_ne _ _ e]; exact hs'⟩
  · by_cases e : x = i
    · subst e; rw [upd_same]; exact .inr ⟨⟨s, .inl hs⟩, s, .inr rfl⟩
    · rw [upd_ne _ _ e]; exact .inl rfl
  · by_cases e1 : x = i
    · subst e1; rw [upd_same] at e; injection e with e; exact hko _ _ _ _ e
    · rw [upd_ne _ _ e1] at e; exact I.pko x c' ok' k' kc' hxn e
  · by_cases e1 : x = i
    · subst e1
      rw [upd_same] at e
      injection e with e
      by_cases e2 : y = x
      · subst e2; rw [upd_same, e] at e'; injection e' with e'; cases e'
      · rw [upd_ne _ _ e2] at e'; exact hkm _ _ _ e y hyn _ _ _ e'
    · rw [upd_ne _ _ e1] at e
      by_cases e2 : y = i
      · subst e2
        rw [upd_same] at e'
        injection e' with e'
        exact hkm' _ _ _ _ e' x hxn _ _ e
      · rw [upd_ne _ _ e2] at e'; exact I.pkm x y c' v' k' ok' kj' kc' hxn hyn e e'
  · simp only [Gst.abs, Abs.mk.injEq, and_true, true_and]
    funext x
    by_cases e : x = i
    · subst e; rw [upd_same, hs]; rfl
    · rw [upd_ne _ _ e]
  · refine mu_of_rank (i := i) (s' := .pk s) ?_ rfl hin rfl rfl (by rw [hs, rank_wk]; show 0 < 10; omega)
    simp only [Gst.abs, Abs.mk.injEq, and_true, true_and]
    funext x
    by_cases e : x = i
    · subst e; rw [upd_same, hs]; rfl
    · rw [upd_ne _ _ e]
theorem Inv.step_snd (I : Inv X b0 Shun σ gs w t) (hok : AOk X σ.abs) (hg : gs[i]? = some g) {c : Nat} {v : Value} {k : Script} (hs : σ.stg i = .wk (.snd c v k)) (hstop : StopOf X (.snd c v k) (i == 0) (σ.fz i) (σ.own i) g w) : Goal X b0 Shun A σ gs w t i sl := by
  have hin := I.lt hg
  have hd0 : Deaf t i = 0 := by have := I.sitOf hg; rw [hs] at this; exact this.1
  have hpr : σ.abs.pr i = .at (.snd c v k) := by simp only [Gst.abs, hs, Stg.abs]
  obtain ⟨hch, hnd⟩ := hok.snd i c v k hin hpr
  have hch' : σ.ch c = some false := hch
  obtain ⟨_, cases, kk, sh, z, hst, hk, hdead, hnext⟩ := hstop
  have hno := I.deadCases (i := i) hok hin hpr hdead
  obtain ⟨s, r, hc⟩ := I.chn c false hch'
  by_cases hp : partners (gs.setIfInBounds i ph) c false = []
  ·
    have hall : ∀ cc ∈ cases, NoWays w (gs.setIfInBounds i ph) cc := by
      intro cc hcc
      obtain ⟨m, hm⟩ := Array.mem_iff_getElem?.1 hcc
      by_cases e : m = kk
      · subst e
        rw [hk] at hm
        obtain rfl := Option.some.inj hm
        exact ways_send_none hc (by simp) hp
      · exact hno m cc e hm
    have hrun := crowd_waits (sl := sl) hg hst hall
    rw [ofEvents_nil] at hrun
    obtain ⟨σ', h1, h2, h3⟩ := I.park (A := A) hin hs (y := parked (core g) cases sh) ⟨hd0, rfl, core g, cases, kk, sh, z, rfl, hk, hdead, fun w₂ h₂ => hnext w₂ h₂⟩ (fun _ _ _ _ e => by cases e)
      (fun c' v' k' e j hj ok kj kc hsj => by
        cases e
        obtain ⟨y, hy, hsy⟩ := I.sit j hj
        rw [hsj] at hsy
        obtain ⟨_, _, g₀, z', h3, _⟩ := hsy
        have hji : j ≠ i := by rintro rfl; rw [hs] at hsj; cases hsj
        have : (j, 0) ∈ partners (gs.setIfInBounds i ph) c false := of_partner hji hy (by rw [h3]; exact mem_offers_parked.2 ⟨_, rfl, rfl, rfl⟩)
        rw [hp] at this
        cases this)
      (fun _ _ _ _ e => by cases e)
    exact ⟨_, _, σ', hrun, ⟨_, _, sl, rfl, h1⟩, .inl ⟨h2, h3⟩⟩
  · obtain ⟨j, gj, zj, d, hji, hj, hrun⟩ := net_send_meets (sl := sl) hg hst hk hno hc hp (fun j k' hm => by
      obtain ⟨hji, y, hy, hk'⟩ := partner_of hm
      rcases I.offers hy hk' with ⟨_, _, _, _, _, _, _, _, _, _, _, _, h⟩ | ⟨c', ok, kj, kc, _, _, rfl, rfl, g₀, z', h3⟩
      · rcases h with ⟨h, _⟩ | ⟨_, h⟩
        · cases h
        · exact absurd h hnd
      · exact ⟨rfl, hji, g₀, z', by rw [hy, h3]⟩)
    have hjn := I.lt hj
    obtain ⟨c', ok, kj, kc, hsj, _, _, rfl, g₀, z', h3⟩ : ∃ c' ok kj kc, σ.stg j = .pk (.rcv c' ok kj kc) ∧ true = true ∧ true = true ∧ c' = c ∧ ∃ g₀ z', parked gj #[rcase c zj] (.recv true) = parked g₀ #[rcase c' z'] (.recv true) := by
      rcases I.offers hj (mem_offers_parked.2 ⟨rcase c zj, rfl, rfl, rfl⟩ : 0 ∈ offersAt _ c false) with ⟨_, _, _, _, _, _, _, _, _, _, _, _, h⟩ | ⟨c', ok, kj, kc, h, _, _, rfl, g₀, z', h3⟩
      · rcases h with ⟨h, _⟩ | ⟨_, h⟩
        · cases h
        · exact absurd h hnd
      · exact ⟨c', ok, kj, kc, h, rfl, rfl, rfl, g₀, z', h3⟩
    have hsitj := I.sitOf hj
    rw [hsj] at hsitj
    obtain ⟨hdj, _, g₁, z₁, h4, h5, h6⟩ := hsitj
    have hw : OnCh X σ w ((w.at d).setChan c' 0 #[] false (s + 1) (r + 1) false) := setChan_on I hch' d
    have hprj : σ.abs.pr j = .at (.rcv c' ok kj kc) := by simp only [Gst.abs, hsj, Stg.abs]
    have hfit := hok.fit i j c' v k ok kj kc hin hjn hpr hprj
    obtain ⟨σ', h7, h8⟩ := I.met (gs' := (gs.setIfInBounds j (Conc.served gj (.tuple #[v, .bool true]))).setIfInBounds i ((core g).finishComm X.P cases sh kk undef false)) (u := #[{ g := i, fn := (core g).frame.fn, pos := (core g).frame.place, act := .send c' s }, { g := j, fn := gj.frame.fn, pos := gj.frame.place, act := .recv c' r 0 }, { g := i, fn := (core g).frame.fn, pos := (core g).frame.place, act := .sendDone c' s }, { g := j, fn := gj.frame.fn, pos := gj.frame.place, act := .recvDone c' r }])
      hok (Ne.symm hji) hin hjn hpr hprj ⟨_, .inl hs⟩ ⟨_, .inr hsj⟩ hd0 hdj hw (by simp [I.size])
      (Array.getElem?_setIfInBounds_self_of_lt (by simpa [I.size] using hin)) (by rw [Array.getElem?_setIfInBounds_ne (Ne.symm hji)]; exact Array.getElem?_setIfInBounds_self_of_lt (by simpa [I.size] using hjn))
      (fun x hx hx' => set2_get hx hx') (hnext _ (hw.ag I hin))
      (by
        obtain ⟨_, z₂, _, hh, _⟩ := h6 _ (hw.ag I hjn)
        have e := (served_parked h4 (.tuple #[v, .bool true])).1
        rw [e]
        have := hh _ v (Agree.refl _ _ _) hfit
        rw [h5] at this
        exact this)
      (commOps_ok hin hjn (I.sep.chLt c' (by rw [hch']; simp)))
    exact ⟨_, _, σ', hrun, ⟨_, _, sl, rfl, h7⟩, .inr h8⟩
theorem stop_core {c : Nat} {ok : Value → Prop} {k : Value → Script} {kc : Script} {main : Bool} {S O : Nat → Prop} (h : StopOf X (.rcv c ok k kc) main S O g w) : StopOf X (.rcv c ok k kc) main S O (core g) w := by
  obtain ⟨_, z, hst, ha, hb⟩ := h
  exact ⟨rfl, z, (stepG_same rfl rfl rfl w).trans hst, ha, hb⟩
theorem Inv.step_rcv (I : Inv X b0 Shun σ gs w t) (hok : AOk X σ.abs) (hg : gs[i]? = some g) {c : Nat} {ok : Value → Prop} {k : Value → Script} {kc : Script} (hs : σ.stg i = .wk (.rcv c ok k kc))
    (hstop : ∀ w₁, Agree X (OS (σ.own i) (σ.fz i)) w w₁ → StopOf X (.rcv c ok k kc) (i == 0) (σ.fz i) (σ.own i) g w₁) : Goal X b0 Shun A σ gs w t i sl := by
  have hin := I.lt hg
  have hd0 : Deaf t i = 0 := by have := I.sitOf hg; rw [hs] at this; exact this.1
  have hpr : σ.abs.pr i = .at (.rcv c ok k kc) := by simp only [Gst.abs, hs, Stg.abs]
  obtain ⟨hch, hnd⟩ := hok.rcv i c ok k kc hin hpr
  have hch' : σ.ch c ≠ none := hch
  obtain ⟨cl, hcl⟩ := Option.ne_none_iff_exists'.1 hch'
  obtain ⟨_, z, hst, hval, hclo⟩ := hstop w (Agree.refl _ _ _)
  obtain ⟨s, r, hc⟩ := I.chn c cl hcl
  by_cases hp : partners (gs.setIfInBounds i ph) c true = []
  · cases cl with
    | false =>
      have hrun := crowd_waits (sl := sl) hg hst (fun cc hcc => by simp at hcc; subst hcc; exact ways_recv_none hc hp)
      rw [ofEvents_nil] at hrun
      obtain ⟨σ', h1, h2, h3⟩ := I.park (A := A) hin hs (y := parked (core g) #[rcase c z] (.recv true)) ⟨hd0, rfl, core g, z, rfl, rfl, fun w₂ h₂ => stop_core (hstop w₂ h₂)⟩ (fun _ _ _ _ e => by cases e; exact hcl)
        (fun _ _ _ e => by cases e)
        (fun c' ok' kj' kc' e j hj v k' hsj => by
          cases e
          obtain ⟨y, hy, hsy⟩ := I.sit j hj
          rw [hsj] at hsy
          obtain ⟨_, _, g₀, cases, kk, sh, z', h3, h4, _⟩ := hsy
          have hji : j ≠ i := by rintro rfl; rw [hs] at hsj; cases hsj
          have : (j, kk) ∈ partners (gs.setIfInBounds i ph) c true := of_partner hji hy (by rw [h3]; exact mem_offers_parked.2 ⟨_, h4, rfl, rfl⟩)
          rw [hp] at this
          cases this)
      exact ⟨_, _, σ', hrun, ⟨_, _, sl, rfl, h1⟩, .inl ⟨h2, h3⟩⟩
    | true =>
      have hrun := crowd_recv_closed (sl := sl) hg hst hc hp
      rw [ofEvents_nil, finishComm_recv] at hrun
      obtain ⟨n, hn⟩ := hclo w (Agree.refl _ _ _)
      refine ⟨_, _, { σ with stg := upd σ.stg i (.wk kc), f := upd σ.f i n }, hrun, ⟨_, _, sl, rfl, I.put (by simp [I.size]) ⟨⟨rfl, rfl, rfl, rfl⟩, fun _ _ => rfl, I.chn⟩ ?_ (fun x hxn => ?_) (fun x => ?_) (fun x c' ok' k' kc' hxn e => ?_) (fun x y c' v' k' ok' kj' kc' hxn hyn e e' => ?_)⟩, .inr ?_⟩
      · intro op hop
        simp only [Array.empty_append, List.mem_toArray, List.mem_cons, List.not_mem_nil, or_false] at hop
        subst hop
        exact ⟨hin, rfl, I.sep.chLt c hch', by simp⟩
      · by_cases e : x = i
        · subst e
          exact ⟨_, Array.getElem?_setIfInBounds_self_of_lt (by simpa [I.size] using hxn), by simp only [upd_same]; exact ⟨hd0, hn⟩⟩
        · obtain ⟨y', hy, hs'⟩ := I.sit x hxn
          exact ⟨y', by rw [Array.getElem?_setIfInBounds_ne (Ne.symm e)]; exact hy, by simp only [upd_ne _ _ e]; exact hs'⟩
      · by_cases e : x = i
        · subst e; rw [upd_same]; exact .inr ⟨⟨_, .inl hs⟩, _, .inl rfl⟩
        · rw [upd_ne _ _ e]; exact .inl rfl
      · by_cases e1 : x = i
        · subst e1; rw [upd_same] at e; cases e
        · rw [upd_ne _ _ e1] at e; exact I.pko x c' ok' k' kc' hxn e
      · have e1 : x ≠ i := by rintro rfl; rw [upd_same] at e; cases e
        have e2 : y ≠ i := by rintro rfl; rw [upd_same] at e'; cases e'
        rw [upd_ne _ _ e1] at e
        rw [upd_ne _ _ e2] at e'
        exact I.pkm x y c' v' k' ok' kj' kc' hxn hyn e e'
      · have e : ({ σ with stg := upd σ.stg i (.wk kc), f := upd σ.f i n } : Gst).abs = { σ.abs with pr := upd σ.abs.pr i (.at kc) } := by
          simp only [Gst.abs, Abs.mk.injEq, and_true, true_and]
          funext x
          by_cases e : x = i
          · subst e; rw [upd_same, upd_same]; rfl
          · rw [upd_ne _ _ e, upd_ne _ _ e]
        rw [e]
        exact AStep.clsd i c ok k kc hin hpr hcl
  · obtain ⟨j, k', gj, cs, shj, vj, zj, d, hji, hj, hck, hrun⟩ := net_recv_meets (sl := sl) hg hst hc hp (fun j k' hm => by
      obtain ⟨hji, y, hy, hk'⟩ := partner_of hm
      rcases I.offers hy hk' with ⟨c', v', k'', _, g₀, cases, kk, sh, z', h3, h4, _, h⟩ | ⟨_, _, _, _, _, h, _⟩
      · rcases h with ⟨_, rfl, rfl⟩ | ⟨h, _⟩
        · exact ⟨hji, g₀, cases, sh, v', z', by rw [hy, h3], h4⟩
        · cases h
      · cases h)
    have hjn := I.lt hj
    obtain ⟨v', k'', hsj, hvj⟩ : ∃ v' k'', σ.stg j = .pk (.snd c v' k'') ∧ v' = vj := by
      rcases I.offers hj (mem_offers_parked.2 ⟨scase c vj zj, hck, rfl, rfl⟩ : k' ∈ offersAt _ c true) with ⟨c', v', k'', h, g₀, cases, kk, sh, z', h3, h4, _, h5⟩ | ⟨_, _, _, _, _, h, _⟩
      · rcases h5 with ⟨_, rfl, rfl⟩ | ⟨h, _⟩
        · obtain ⟨_, rfl, rfl⟩ := served_parked h3 undef
          rw [hck] at h4
          have := Option.some.inj h4
          simp only [scase, CommCase.mk.injEq, Option.some.injEq] at this
          exact ⟨v', k'', h, this.2.1.symm⟩
        · cases h
      · cases h
    subst hvj
    have hsitj := I.sitOf hj
    rw [hsj] at hsitj
    obtain ⟨hdj, _, g₁, cases₁, kk₁, sh₁, z₁, h4, h5, h5', h6⟩ := hsitj
    have hprj : σ.abs.pr j = .at (.snd c v' k'') := by simp only [Gst.abs, hsj, Stg.abs]
    have hopen := (hok.snd j c v' k'' hjn hprj).1
    have hopen' : σ.ch c = some false := hopen
    obtain rfl : cl = false := by rw [hcl] at hopen'; exact Option.some.inj hopen'
    have hw : OnCh X σ w ((w.at d).setChan c 0 #[] false (s + 1) (r + 1) false) := setChan_on I hcl d
    have hfit := hok.fit j i c v' k'' ok k kc hjn hin hprj hpr
    have hkk : k' = kk₁ := by
      obtain ⟨_, rfl, _⟩ := served_parked h4 undef
      by_cases e : k' = kk₁
      · exact e
      · obtain ⟨dd, z', _, e'⟩ := h5' k' _ e hck
        simp [scase, rcase] at e'
    subst hkk
    obtain ⟨σ', h7, h8⟩ := I.met (gs' := (gs.setIfInBounds j (gj.finishComm X.P cs shj k' undef false)).setIfInBounds i (Conc.served (core g) (.tuple #[v', .bool true]))) (u := #[{ g := j, fn := gj.frame.fn, pos := gj.frame.place, act := .send c s }, { g := i, fn := (core g).frame.fn, pos := (core g).frame.place, act := .recv c r 0 }, { g := j, fn := gj.frame.fn, pos := gj.frame.place, act := .sendDone c s }, { g := i, fn := (core g).frame.fn, pos := (core g).frame.place, act := .recvDone c r }])
      hok hji hjn hin hprj hpr ⟨_, .inr hsj⟩ ⟨_, .inl hs⟩ hdj hd0 hw (by simp [I.size])
      (by rw [Array.getElem?_setIfInBounds_ne (Ne.symm hji)]; exact Array.getElem?_setIfInBounds_self_of_lt (by simpa [I.size] using hjn)) (Array.getElem?_setIfInBounds_self_of_lt (by simpa [I.size] using hin))
      (fun x hx hx' => set2_get hx' hx)
      (by
        have hh := h6 _ (hw.ag I hjn)
        obtain ⟨_, rfl, rfl⟩ := served_parked h4 undef
        have e : gj.finishComm X.P cs shj k' undef false = g₁.finishComm X.P cs shj k' undef false := by
          simp only [finishComm_served]
          exact (served_parked h4 _).1
        rw [e]
        exact hh)
      (hval _ v' (hw.ag I hin) hfit) (commOps_ok hjn hin (I.sep.chLt c hch'))
    exact ⟨_, _, σ', hrun, ⟨_, _, sl, rfl, h7⟩, .inr h8⟩
theorem closeOps_ok {own fz : Nat → Nat → Prop} {ch : Nat → Prop} {wtr : Nat → Nat} {hi c i : Nat} {fn : FuncId} {pos : String} (hc : ch c) (hlt : c < hi) :
    ∀ op ∈ MemOp.ofEvents i fn pos (closeEvents c), OpOk X own fz ch wtr hi hi i op ∧ ∀ m, op.act ≠ .mark m := by
  rw [closeOps]
  intro op hop
  simp only [List.mem_toArray, List.mem_cons, List.not_mem_nil, or_false] at hop
  rcases hop with rfl | rfl
  · refine ⟨⟨rfl, hlt, fun _ _ => by simp, fun x hx => ?_⟩, by simp⟩
    simp only [MemAct.touch?, Option.some.injEq] at hx
    subst hx
    exact .inr (.inr (.inr ⟨c, rfl, hc, rfl⟩))
  · exact ⟨⟨rfl, hlt, fun _ _ => by simp, fun x hx => by cases hx⟩, by simp⟩
theorem Inv.step_cls (I : Inv X b0 Shun σ gs w t) (hok : AOk X σ.abs) (hg : gs[i]? = some g) {c : Nat} {k : Script} (hs : σ.stg i = .wk (.cls c k)) (hstop : StopOf X (.cls c k) (i == 0) (σ.fz i) (σ.own i) g w) : Goal X b0 Shun A σ gs w t i sl := by
  have hin := I.lt hg
  have hd0 : Deaf t i = 0 := by have := I.sitOf hg; rw [hs] at this; exact this.1
  have hpr : σ.abs.pr i = .at (.cls c k) := by simp only [Gst.abs, hs, Stg.abs]
  obtain ⟨hch, hnd, hns⟩ := hok.cls i c k hin hpr
  have hch' : σ.ch c = some false := hch
  obtain ⟨s, r, hc⟩ := I.chn c false hch'
  obtain ⟨_, hmw, hgo⟩ := hstop
  obtain ⟨g', hst, hrun', n, hseg⟩ := hgo s r hc
  have hrun := runT_crowd_go (P := X.P) (sl := sl) hg hst
  have hclt := I.sep.chLt c (by rw [hch']; simp)
  have hall := closeOps_ok (X := X) (own := σ.own) (fz := σ.fz) (ch := fun c => σ.ch c ≠ none) (wtr := σ.sd) (i := i) (fn := g.frame.fn) (pos := g.frame.place) (c := c) (by rw [hch']; simp) hclt
  generalize hops : MemOp.ofEvents i g.frame.fn g.frame.place (closeEvents c) = u at hrun hall
  have hu : ∀ op ∈ u, op.g = i := by rw [← hops]; exact ofEvents_g
  have hblk : ∀ b, b ≠ c → (w.setChan c 0 #[] true s r false).heap[b]? = w.heap[b]? := fun b hb => heap_setChan_ne w 0 #[] true s r false hb.symm
  have hsz : (w.setChan c 0 #[] true s r false).heap.size = w.heap.size := by simp [World.setChan]
  have hwc : ∀ b, X.Wg b → b ≠ c := by rintro b hb rfl; exact I.sep.wgCh b hb (by rw [hch']; simp)
  have hdf : ∀ j, Deaf (t ++ u) j = Deaf t j := fun j => by
    have := deaf_nomark (t := t) u.toList (fun op hop => (hall op (by simpa using hop)).2) j
    simpa using this
  have hti : TI X b0 σ.n Shun (upd σ.own i (grow (σ.own i) w.heap.size w.heap.size)) σ.fz (fun c => σ.ch c ≠ none) σ.sd w.heap.size (t ++ u) :=
    I.ti.app I.sep (Nat.le_refl _) hin (I.upto (by rw [hs]; simp)) fun op hop => (hall op hop).1
  rw [grow_same, upd_self] at hti
  have hpub : ∀ wg j r, Pub X t wg j r → Pub X (t ++ u) wg j r := Pub.keep hu (.inl (I.uns i hin (by rw [hs]; exact id)))
  obtain ⟨r1, r2, r3, r4⟩ := I.restMute (i := i) (s' := .wk k) hpub (fun _ h => h.elim) (fun h => by cases h)
  obtain ⟨σ', I', ha, _⟩ := I.move (g := g) (g' := g') (w' := w.setChan c 0 #[] true s r false) (u := u) (s' := .wk k) (f' := n) (fl' := σ.fl i) (own' := σ.own i) (ch' := upd σ.ch c (some true)) (v' := σ.v) (grp' := σ.grp) (vou' := σ.vou) hin hu
    (fun j hj hji => ⟨rfl, rfl, rfl, Nat.le_of_eq hsz.symm, fun b hb => hblk b (by rintro rfl; have := I.notCh hj b hb; rw [hch'] at this; cases this), fun b hb x => wgLive_of_heap (hblk b (hwc b hb)) x⟩)
    (fun c' cl hc' => by
      by_cases e : c' = c
      · subst e
        rw [upd_same] at hc'
        obtain rfl := Option.some.inj hc'
        exact ⟨s, r, heap_setChan_self w hc 0 #[] true s r false⟩
      · rw [upd_ne _ _ e] at hc'
        obtain ⟨s', r', h⟩ := I.chn c' cl hc'
        exact ⟨s', r', (hblk c' e).trans h⟩)
    (fun c' => by
      by_cases e : c' = c
      · subst e; rw [upd_same, hch']; simp
      · rw [upd_ne _ _ e])
    (fun j c' v k' hj hji hpk => by
      have e : σ.abs.pr j = .at (.snd c' v k') := by simp only [Gst.abs, hpk, Stg.abs]
      have hne : c' ≠ c := by rintro rfl; exact hns j v k' hj e
      refine ⟨by rw [upd_ne _ _ hne]; exact (hok.snd j c' v k' hj e).1, fun d hd => ?_⟩
      have hdc : d ≠ c := by rintro rfl; exact hnd hd
      rw [upd_ne _ _ hdc]
      rcases hok.dead d hd with h | h
      · exact h
      · exact absurd e (h.2 j c' v k' hj))
    (.inr ⟨hmw, hrun'⟩) ⟨by rw [hdf]; exact hd0, hseg⟩ (I.fl1 i hin) (by rw [upd_self, hsz]; exact I.sep) (by rw [upd_self, hsz]; exact hti) (by simp)
    (fun wg hx => ((I.wgs wg hx).upd_other (by rw [hs]; exact id) (by rw [hs]; exact id) id id).world (hblk wg (hwc wg hx)))
    (I.thruMove fun _ h => h.elim) r1 r2 r3 r4
    (fun h0 hb => by have := I.old i h0 hb; rw [hs] at this; cases this)
    (fun wg k' hx hw1 hs3 => by
      by_cases e : σ.sd wg = i
      · rw [e, upd_same] at hs3; cases hs3
      · rw [upd_ne _ _ e] at hs3
        exact .inr ⟨e, .inl (I.awk wg k' hx ((hblk wg (hwc wg hx)).symm.trans hw1) hs3)⟩)
    (fun wg => ⟨fun h => h.elim, fun k' h => by rcases h with h | h <;> cases h⟩)
    (fun j hj ho => (I.uns j hj fun x => ho (by
      by_cases e : j = i
      · subst e; rw [hs] at x; exact x.elim
      · rw [upd_ne _ _ e]; exact x)).app fun op hop _ wg _ => (hall op hop).2 _)
  refine ⟨_, _, σ', hrun, ⟨_, _, sl, rfl, I'⟩, .inr ?_⟩
  rw [ha]
  exact AStep.cls i c k hin hpr
end
end Go.Proofs.Ytmkjoojoaldljaa.Net
namespace Go.Proofs.Ytmkjoojoaldljaa.Net
open Go.Conc
open Go.ConcN (WgLive sumTo upd upd_same upd_ne sumTo_upd)
open Go.ConcR (KK wgBlock WgAt stA smA rd wr mk DC0)
section
variable {X : Ctx} {b0 : Nat} {Shun : Loc → Prop} {σ : Gst} {gs gs' : Array Goroutine} {w w' : World} {t u : Trace} {i : Nat} {g : Goroutine} {sl : Option (Nat × Nat)} {A : Abs → Nat}
open Classical in
theorem Inv.step_spw (I : Inv X b0 Shun σ gs w t) (hok : AOk X σ.abs) (hg : gs[0]? = some g) {cs ws : Nat → Prop} {s k : Script} (hs : σ.stg 0 = .wk (.spw cs ws s k)) (hstop : StopOf X (.spw cs ws s k) true (σ.fz 0) (σ.own 0) g w) : Goal X b0 Shun A σ gs w t 0 sl := by
  have hin := I.lt hg
  have hd0 : Deaf t 0 = 0 := by have := I.sitOf hg; rw [hs] at this; exact this.1
  have hpr : σ.abs.pr 0 = .at (.spw cs ws s k) := by simp only [Gst.abs, hs, Stg.abs]
  obtain ⟨hcsn, hws⟩ := hok.spw cs ws s k hpr
  obtain ⟨_, _, g', child, hst, O', Sc, hO', hcs, hSc, ⟨nc, hchild⟩, ⟨nm, hmain⟩⟩ := hstop
  have hrun := runT_crowd_spawn (P := X.P) (sl := sl) (i := 0) hg hst
  rw [I.size] at hrun
  have hnn : σ.n ≠ 0 := by omega
  have hn0 : (0 : Nat) ≠ σ.n := Ne.symm hnn
  have hbn := I.lo.2
  have hb1 := I.lo.1
  generalize hops : ((MemOp.ofEvents 0 g.frame.fn g.frame.place #[]).push { g := 0, fn := g.frame.fn, pos := g.frame.place, act := MemAct.go σ.n }).push { g := σ.n, fn := child.frame.fn, pos := g.frame.place, act := MemAct.start } = u at hrun
  have hu : u = #[{ g := 0, fn := g.frame.fn, pos := g.frame.place, act := MemAct.go σ.n }, { g := σ.n, fn := child.frame.fn, pos := g.frame.place, act := MemAct.start }] := by rw [← hops]; rfl
  have hmute : ∀ op ∈ u, op.act.touch? = none ∧ ∀ m, op.act ≠ .mark m := by
    rw [hu]
    intro op hop
    simp only [List.mem_toArray, List.mem_cons, List.not_mem_nil, or_false] at hop
    rcases hop with rfl | rfl <;> exact ⟨rfl, by simp⟩
  have hdf : ∀ j, Deaf (t ++ u) j = Deaf t j := fun j => by
    have := deaf_nomark (t := t) u.toList (fun op hop => (hmute op (by simpa using hop)).2) j
    simpa using this
  have hpub : ∀ wg j r, Pub X t wg j r → Pub X (t ++ u) wg j r := fun wg j r hp => hp.other fun op hop => .inr (hmute op hop).1
  let own' : Nat → Nat → Prop := upd (upd σ.own 0 O') σ.n fun _ => False
  let fz' : Nat → Nat → Prop := upd (upd σ.fz 0 fun b => (σ.own 0 b ∨ σ.fz 0 b) ∧ ¬ O' b ∧ ¬ cs b) σ.n Sc
  let ch' : Nat → Option Bool := fun c => if cs c then some false else σ.ch c
  let sd' : Nat → Nat := fun b => if ws b then σ.n else σ.sd b
  let stg' : Nat → Stg := upd (upd σ.stg 0 (.wk k)) σ.n (.wk s)
  have hown : ∀ j b, j < σ.n + 1 → own' j b → j < σ.n ∧ σ.own j b ∧ (j = 0 → O' b) := by
    intro j b hj h
    by_cases e : j = σ.n
    · subst e; simp only [own', upd_same] at h
    · by_cases e0 : j = 0
      · subst e0; simp only [own', upd_ne _ _ e, upd_same] at h; exact ⟨hin, hO' b h, fun _ => h⟩
      · simp only [own', upd_ne _ _ e, upd_ne _ _ e0] at h; exact ⟨by omega, h, fun x => absurd x e0⟩
  have hfz : ∀ j b, j < σ.n + 1 → fz' j b → (j ≠ 0 ∧ j < σ.n ∧ σ.fz j b) ∨ ((j = 0 ∨ j = σ.n) ∧ (σ.own 0 b ∨ σ.fz 0 b) ∧ ¬ O' b ∧ ¬ cs b) := by
    intro j b hj h
    by_cases e : j = σ.n
    · subst e
      simp only [fz', upd_same] at h
      exact .inr ⟨.inr rfl, (hSc b h).1, (hSc b h).2, fun hc => (hcs b hc).2.2.1 h⟩
    · by_cases e0 : j = 0
      · subst e0; simp only [fz', upd_ne _ _ e, upd_same] at h; exact .inr ⟨.inl rfl, h⟩
      · simp only [fz', upd_ne _ _ e, upd_ne _ _ e0] at h; exact .inl ⟨e0, by omega, h⟩
  have hch : ∀ c, ch' c ≠ none → cs c ∨ (¬ cs c ∧ σ.ch c ≠ none) := by
    intro c h
    by_cases hc : cs c
    · exact .inl hc
    · simp only [ch', if_neg hc] at h; exact .inr ⟨hc, h⟩
  have hsep : Sep X (σ.n + 1) own' fz' (fun c => ch' c ≠ none) w.heap.size := by
    refine ⟨fun i j b hi hj h1 h2 => ?_, fun i j b hi hj h1 h2 => ?_, fun i b hi h => ?_, fun i b hi h => ?_, fun i b hi h hc => ?_, fun i b hi h hc => ?_, fun b hb hc => ?_, fun i b hi h => ?_, fun i b hi h => ?_, I.sep.wgLt, fun b hc => ?_, fun b hc => ?_⟩
    · obtain ⟨a1, a2, _⟩ := hown i b hi h1
      obtain ⟨b1, b2, _⟩ := hown j b hj h2
      exact I.sep.ownOwn i j b a1 b1 a2 b2
    · obtain ⟨a1, a2, a3⟩ := hown i b hi h1
      rcases hfz j b hj h2 with ⟨_, c1, c2⟩ | ⟨_, c1 | c1, c2, _⟩
      · exact I.sep.ownFz i j b a1 c1 a2 c2
      · exact c2 (a3 (I.sep.ownOwn i 0 b a1 hin a2 c1))
      · exact I.sep.ownFz i 0 b a1 hin a2 c1
    · obtain ⟨a1, a2, _⟩ := hown i b hi h
      exact I.sep.ownWg i b a1 a2
    · rcases hfz i b hi h with ⟨_, c1, c2⟩ | ⟨_, c1 | c1, c2, _⟩
      · exact I.sep.fzWg i b c1 c2
      · exact I.sep.ownWg 0 b hin c1
      · exact I.sep.fzWg 0 b hin c1
    · obtain ⟨a1, a2, a3⟩ := hown i b hi h
      rcases hch b hc with hc | ⟨_, hc⟩
      · exact (hcs b hc).2.1 (a3 (I.sep.ownOwn i 0 b a1 hin a2 (hcs b hc).1))
      · exact I.sep.ownCh i b a1 a2 hc
    · rcases hch b hc with hc | ⟨_, hc⟩
      · rcases hfz i b hi h with ⟨_, c1, c2⟩ | ⟨_, _, _, c2⟩
        · exact I.sep.ownFz 0 i b hin c1 (hcs b hc).1 c2
        · exact c2 hc
      · rcases hfz i b hi h with ⟨_, c1, c2⟩ | ⟨_, c1 | c1, c2, _⟩
        · exact I.sep.fzCh i b c1 c2 hc
        · exact I.sep.ownCh 0 b hin c1 hc
        · exact I.sep.fzCh 0 b hin c1 hc
    · rcases hch b hc with hc | ⟨_, hc⟩
      · exact I.sep.ownWg 0 b hin (hcs b hc).1 hb
      · exact I.sep.wgCh b hb hc
    · obtain ⟨a1, a2, _⟩ := hown i b hi h
      exact I.sep.ownLt i b a1 a2
    · rcases hfz i b hi h with ⟨_, c1, c2⟩ | ⟨_, c1 | c1, c2, _⟩
      · exact I.sep.fzLt i b c1 c2
      · exact I.sep.ownLt 0 b hin c1
      · exact I.sep.fzLt 0 b hin c1
    · rcases hch b hc with hc | ⟨_, hc⟩
      · exact I.sep.ownLt 0 b hin (hcs b hc).1
      · exact I.sep.chLt b hc
    · rcases hch b hc with hc | ⟨_, hc⟩
      · exact (hcs b hc).2.2.2.1
      · exact I.sep.chLo b hc
  have hti : TI X b0 (σ.n + 1) Shun own' fz' (fun c => ch' c ≠ none) sd' w.heap.size (t ++ u) := by
    rw [hu]
    refine I.ti.fork ⟨rfl, rfl⟩ ⟨rfl, rfl⟩ hd0 (I.hear _ (Nat.le_refl _)) hin hbn (fun b hb => ?_) (fun i hi b h => (hown i b (by omega) h).2.1) (fun b h => ?_) (fun i hi b h => ?_) (fun b h => ?_) ⟨trivial, trivial⟩
    · by_cases h : ws b
      · exact .inr ⟨if_pos h, (hws b h).2⟩
      · exact .inl (if_neg h)
    · exact absurd (hown σ.n b (by omega) h).1 (by omega)
    · rcases hfz i b (by omega) h with ⟨_, _, c2⟩ | ⟨rfl | rfl, c1, _⟩
      · exact .inl c2
      · exact c1.symm
      · omega
    · rcases hfz σ.n b (by omega) h with ⟨_, c1, _⟩ | ⟨_, c1, _⟩
      · omega
      · exact c1.symm
  have hst0 : stg' 0 = .wk k := by simp only [stg', upd_ne _ _ hn0, upd_same]
  have hstn : stg' σ.n = .wk s := by simp only [stg', upd_same]
  have hsto : ∀ j, j ≠ 0 → j ≠ σ.n → stg' j = σ.stg j := fun j h0 hn => by simp only [stg', upd_ne _ _ hn, upd_ne _ _ h0]
  have hback : ∀ j, j < σ.n + 1 → (∀ s₀, stg' j ≠ .wk s₀) → j ≠ 0 ∧ j < σ.n ∧ stg' j = σ.stg j := by
    intro j hj h
    have h0 : j ≠ 0 := by rintro rfl; exact h _ hst0
    have hn : j ≠ σ.n := by rintro rfl; exact h _ hstn
    exact ⟨h0, by omega, hsto j h0 hn⟩
  refine ⟨_, _, { σ with n := σ.n + 1, stg := stg', ch := ch', sd := sd', vou := upd σ.vou σ.n fun _ => False, own := own', fz := fz', f := upd (upd σ.f 0 nm) σ.n nc, fl := upd σ.fl σ.n 0 }, hrun, ⟨_, _, sl, rfl, ?_⟩, .inr ?_⟩
  · refine ⟨by simp [I.size], ⟨hb1, by show b0 ≤ σ.n + 1; omega⟩, fun j hj => ?_, fun j hj => ?_, hsep, hti, fun c cl hc => ?_, fun j c ok kk kc hj e => ?_, fun a b c v kk ok kj kc ha hb e1 e2 => ?_, fun wg hx => ?_, fun wg hx => ?_, fun j wg hj hth => ?_, fun j hj => ?_, fun wg j h => (I.grp wg j h).keep hpub, fun j l hj h => ?_, fun j wg hj hsd l hl => ?_, fun j hb hj hd => ?_, fun j h0 hb => ?_, fun wg kk hx hw1 hs3 => ?_, fun j wg hj => ?_, fun j hj ho => ?_⟩
    · show ∃ y, ((gs.setIfInBounds 0 g').push child)[j]? = some y ∧ Sit X j (own' j) (fz' j) (stg' j) (upd (upd σ.f 0 nm) σ.n nc j) (upd σ.fl σ.n 0 j) (Deaf (t ++ u) j) y w
      rw [hdf]
      by_cases hn : j = σ.n
      · subst hn
        refine ⟨child, by rw [Array.getElem?_push, if_pos (by simp [I.size])], ?_⟩
        rw [hstn]
        simp only [own', fz', upd_same]
        refine ⟨I.hear _ (Nat.le_refl _), ?_⟩
        have e : (σ.n == 0) = false := by simpa using hnn
        rw [e]
        exact hchild
      · have hget : ((gs.setIfInBounds 0 g').push child)[j]? = (gs.setIfInBounds 0 g')[j]? := by rw [Array.getElem?_push, if_neg (by simpa [I.size] using hn)]
        rw [hget]
        by_cases h0 : j = 0
        · subst h0
          refine ⟨g', Array.getElem?_setIfInBounds_self_of_lt (by rw [I.size]; exact hin), ?_⟩
          rw [hst0]
          simp only [own', fz', upd_ne _ _ hn0, upd_same]
          exact ⟨hd0, hmain⟩
        · have hjn : j < σ.n := by have : j < σ.n + 1 := hj; omega
          obtain ⟨y, hy, hs'⟩ := I.sit j hjn
          refine ⟨y, by rw [Array.getElem?_setIfInBounds_ne (Ne.symm h0)]; exact hy, ?_⟩
          rw [hsto j h0 hn]
          simp only [own', fz', upd_ne _ _ hn, upd_ne _ _ h0]
          exact hs'
    · show upd σ.fl σ.n 0 j ≤ 1
      by_cases hn : j = σ.n
      · subst hn; rw [upd_same]; omega
      · rw [upd_ne _ _ hn]; exact I.fl1 j (by have : j < σ.n + 1 := hj; omega)
    · by_cases h : cs c
      · have e : ch' c = some false := if_pos h
        have hc' : ch' c = some cl := hc
        rw [e] at hc'
        obtain rfl := Option.some.inj hc'
        exact ⟨0, 0, (hcs c h).2.2.2.2⟩
      · have e : ch' c = σ.ch c := if_neg h
        have hc' : ch' c = some cl := hc
        rw [e] at hc'
        exact I.chn c cl hc'
    · have e' : stg' j = .pk (.rcv c ok kk kc) := e
      obtain ⟨_, hjn, e2⟩ := hback j hj (by rw [e']; simp)
      have h := I.pko j c ok kk kc hjn (by rw [← e2]; exact e')
      show (if cs c then some false else σ.ch c) = some false
      by_cases hc : cs c
      · rw [if_pos hc]
      · rw [if_neg hc]; exact h
    · have e1' : stg' a = .pk (.snd c v kk) := e1
      have e2' : stg' b = .pk (.rcv c ok kj kc) := e2
      obtain ⟨_, han, ea⟩ := hback a ha (by rw [e1']; simp)
      obtain ⟨_, hbn', eb⟩ := hback b hb (by rw [e2']; simp)
      exact I.pkm a b c v kk ok kj kc han hbn' (by rw [← ea]; exact e1') (by rw [← eb]; exact e2')
    · show WMode X.ty wg (σ.v wg) (stg' (sd' wg)) stg' (σ.n + 1) w
      have hrel : ∀ j, j < σ.n + 1 → (stg' j).Rel wg → j < σ.n ∧ stg' j = σ.stg j := fun j hj h => by
        obtain ⟨_, h1, h2⟩ := hback j hj (by intro s₀ e; rw [e] at h; exact h)
        exact ⟨h1, h2⟩
      have hreg : ¬ (σ.stg (σ.sd wg)).Reg wg ↔ ¬ (stg' (sd' wg)).Reg wg := by
        by_cases h : ws wg
        · have e : sd' wg = σ.n := if_pos h
          rw [e, hstn, show σ.sd wg = 0 from (hws wg h).2, hs]
          exact Iff.rfl
        · have e : sd' wg = σ.sd wg := if_neg h
          rw [e]
          by_cases h0 : σ.sd wg = 0
          · rw [h0, hst0, hs]; exact Iff.rfl
          · rw [hsto _ h0 (by have := I.sdl wg hx; omega)]
      have hreg' : (σ.stg (σ.sd wg)).Reg wg → (stg' (sd' wg)).Reg wg := fun h => Classical.not_not.1 fun h' => hreg.2 h' h
      have hkeep : ∀ j, j < σ.n → (σ.stg j).Rel wg → stg' j = σ.stg j := fun j hj h => hsto j (by rintro rfl; rw [hs] at h; exact h) (by omega)
      cases I.wgs wg hx with
      | opn h hr hw => exact .opn (hreg.1 h) (fun j hj x => by obtain ⟨h1, h2⟩ := hrel j hj x; rw [h2] at x; exact hr j h1 x) hw
      | reg h hr hv hw => exact .reg (hreg' h) (fun j hj x => by obtain ⟨h1, h2⟩ := hrel j hj x; rw [h2] at x; exact hr j h1 x) hv hw
      | lst h hv j hj hs' hu' hw => exact .lst (hreg' h) hv j (by omega) (by rw [hkeep j hj (by rcases hs' with e | e <;> rw [e] <;> rfl)]; exact hs') (fun j' hj' x => by obtain ⟨h1, h2⟩ := hrel j' hj' x; rw [h2] at x; exact hu' j' h1 x) hw
      | ls4 h hv j hj hs' hu' hw => exact .ls4 (hreg' h) hv j (by omega) (by rw [hkeep j hj (by rw [hs']; rfl)]; exact hs') (fun j' hj' x => by obtain ⟨h1, h2⟩ := hrel j' hj' x; rw [h2] at x; exact hu' j' h1 x) hw
      | fin h hv hr hw => exact .fin (hreg' h) hv (fun j hj x => by obtain ⟨h1, h2⟩ := hrel j hj x; rw [h2] at x; exact hr j h1 x) hw
    · show sd' wg < σ.n + 1
      by_cases h : ws wg
      · have e : sd' wg = σ.n := if_pos h
        omega
      · have e : sd' wg = σ.sd wg := if_neg h
        have := I.sdl wg hx
        omega
    · have hth' : (stg' j).Thru wg := hth
      obtain ⟨_, h1, h2⟩ := hback j hj (by intro s₀ e; rw [e] at hth'; exact hth')
      rw [h2] at hth'
      exact I.thru j wg h1 hth'
    · rw [hdf]; exact I.hear j (by have : σ.n + 1 ≤ j := hj; omega)
    · have h' : upd σ.vou σ.n (fun _ => False) j l := h
      by_cases hn : j = σ.n
      · subst hn; rw [upd_same] at h'; exact h'.elim
      · rw [upd_ne _ _ hn] at h'; exact (I.vou j l (by have : j < σ.n + 1 := hj; omega) h').keep hpub
    · have hsd' : (stg' j).Said wg := hsd
      obtain ⟨_, h1, h2⟩ := hback j hj (by intro s₀ e; rw [e] at hsd'; exact hsd')
      rw [h2] at hsd'
      have hl' : l = j ∨ upd σ.vou σ.n (fun _ => False) j l := hl
      rw [upd_ne _ _ (by omega)] at hl'
      exact (I.said j wg h1 hsd' l hl').keep hpub
    · have hd' : (stg' j).abs = .dead := hd
      obtain ⟨_, h1, h2⟩ := hback j hj (by intro s₀ e; rw [e] at hd'; cases hd')
      rw [h2] at hd'
      obtain ⟨wg, r, h⟩ := I.tl j hb h1 hd'
      exact ⟨wg, r, hpub _ _ _ h⟩
    · show stg' j = .qt
      rw [hsto j (by omega) (by omega)]
      exact I.old j h0 hb
    · have hs3' : stg' (sd' wg) = .w3 wg kk := hs3
      have hlt : sd' wg < σ.n + 1 := by
        by_cases h : ws wg
        · have e : sd' wg = σ.n := if_pos h
          omega
        · have e : sd' wg = σ.sd wg := if_neg h
          have := I.sdl wg hx
          omega
      obtain ⟨_, h1, h2⟩ := hback _ hlt (by rw [hs3']; simp)
      have e : sd' wg = σ.sd wg := by
        by_cases h : ws wg
        · have e : sd' wg = σ.n := if_pos h
          omega
        · exact if_neg h
      rw [h2, e] at hs3'
      show upd σ.fl σ.n 0 (sd' wg) = 1
      rw [upd_ne _ _ (by omega), e]
      exact I.awk wg kk hx hw1 hs3'
    · refine ⟨fun h => ?_, fun kk h => ?_⟩
      · have h' : (stg' j).Rel wg := h
        obtain ⟨_, h1, h2⟩ := hback j hj (by intro s₀ e; rw [e] at h'; exact h')
        rw [h2] at h'
        exact (I.wgx j wg h1).1 h'
      · have h' : stg' j = .a2 wg kk ∨ stg' j = .a3 wg kk := h
        obtain ⟨h0, h1, h2⟩ := hback j hj (by intro s₀ e; rw [e] at h'; rcases h' with h' | h' <;> cases h')
        rw [h2] at h'
        obtain ⟨a1, a2⟩ := (I.wgx j wg h1).2 kk h'
        refine ⟨a1, ?_⟩
        show (if ws wg then σ.n else σ.sd wg) = j
        rw [if_neg, a2]
        intro hw'
        have := (hws wg hw').2
        have e : σ.abs.sd wg = σ.sd wg := rfl
        omega
    · by_cases hn : j = σ.n
      · subst hn
        intro wg r hx ht0 ha hgr
        have hlt := lt_of_act? ha
        unfold Trace.act? at ha
        unfold Trace.g? at hgr
        obtain ⟨op, ho', hoa⟩ := Option.map_eq_some_iff.1 ha
        rw [ho'] at hgr
        simp only [Option.map_some, Option.some.injEq] at hgr
        rcases getElem?_app ho' with ⟨_, h⟩ | ⟨_, h⟩
        · have := I.ti.gs r op ht0 h
          omega
        · exact (hmute op h).2 _ hoa
      · have hjn : j < σ.n := by have : j < σ.n + 1 := hj; omega
        refine (I.uns j hjn fun x => ho ?_).app fun op hop _ wg _ => (hmute op hop).2 _
        show (stg' j).Out
        by_cases h0 : j = 0
        · subst h0; rw [hs] at x; exact x.elim
        · rw [hsto j h0 hn]; exact x
  · have e : ({ σ with n := σ.n + 1, stg := stg', ch := ch', sd := sd', vou := upd σ.vou σ.n fun _ => False, own := own', fz := fz', f := upd (upd σ.f 0 nm) σ.n nc, fl := upd σ.fl σ.n 0 } : Gst).abs =
        { σ.abs with n := σ.n + 1, pr := upd (upd σ.abs.pr 0 (.at k)) σ.n (.at s), ch := ch', sd := sd', vou := upd σ.abs.vou σ.n fun _ => False } := by
      simp only [Gst.abs, Abs.mk.injEq, and_true, true_and]
      funext j
      by_cases hn : j = σ.n
      · subst hn; rw [hstn, upd_same]; rfl
      · by_cases h0 : j = 0
        · subst h0; rw [hst0, upd_ne _ _ hn, upd_same]; rfl
        · rw [hsto j h0 hn, upd_ne _ _ hn, upd_ne _ _ h0]
    rw [e]
    exact AStep.spw cs ws s k hpr
end
end Go.Proofs.Ytmkjoojoaldljaa.Net
namespace Go.Proofs.Ytmkjoojoaldljaa.Net
open Go.Conc
open Go.ConcN (WgLive sumTo upd upd_same upd_ne sumTo_upd PermW)
open Go.ConcR (KK wgBlock WgAt stA smA rd wr mk DC0)
section
variable {X : Ctx} {b0 : Nat} {Shun : Loc → Prop} {σ : Gst} {gs gs' : Array Goroutine} {w w' : World} {t u : Trace} {i : Nat} {g : Goroutine} {sl : Option (Nat × Nat)} {A : Abs → Nat}
def AtRet (X : Ctx) (σ : Gst) (g : Goroutine) (w : World) (i : Nat) : Prop := ∃ Fin, σ.stg i = .wk (.ret Fin) ∧ ∀ w₁, Agree X (OS (σ.own i) (σ.fz i)) w w₁ → StopOf X (.ret Fin) (i == 0) (σ.fz i) (σ.own i) g w₁
theorem Inv.stepAny (I : Inv X b0 Shun σ gs w t) (hok : AOk X σ.abs) (hg : gs[i]? = some g) (hrun : g.status = .running) (hnr : ¬ AtRet X σ g w i) : Goal X b0 Shun A σ gs w t i sl := by
  have hin := I.lt hg
  have hsit := I.sitOf hg
  cases hs : σ.stg i with
  | wk s =>
    rw [hs] at hsit
    obtain ⟨hd, hseg⟩ := hsit
    have hcase : (∀ w₁, Agree X (OS (σ.own i) (σ.fz i)) w w₁ → StopOf X s (i == 0) (σ.fz i) (σ.own i) g w₁) ∨
        ∃ n, σ.f i = n + 1 ∧ (stepG X.P (i == 0) g w).goes fun g' w' es => Does X (σ.own i) (σ.fz i) w w' es ∧ Seg X (i == 0) (σ.fz i) (StopOf X s (i == 0) (σ.fz i)) n (grow (σ.own i) w.heap.size w'.heap.size) g' w' := by
      cases hf : σ.f i with
      | zero => rw [hf] at hseg; exact .inl hseg
      | succ n =>
        rw [hf] at hseg
        rcases hseg with h | ⟨_, h⟩
        · exact .inl h
        · exact .inr ⟨n, rfl, h w (Agree.refl _ _ _)⟩
    rcases hcase with hstop | ⟨n, hf, hgo⟩
    · have h0 := hstop w (Agree.refl _ _ _)
      cases s with
      | snd c v k => exact I.step_snd hok hg hs h0
      | rcv c ok k kc => exact I.step_rcv hok hg hs hstop
      | cls c k => exact I.step_cls hok hg hs h0
      | add wg δ k => obtain ⟨_, N, h⟩ := h0; exact I.step_a0 hok hg hs h
      | don wg =>
        obtain ⟨hm, h⟩ := h0
        exact I.step_r0 hok hg hs (hok.don i wg hin (by simp only [Gst.abs, hs, Stg.abs])).1 hm h
      | wai wg k => obtain ⟨_, N, h⟩ := h0; exact I.step_kd hok hg hs h
      | spw cs ws c k =>
        have hm := h0.2.1
        have hi0 : i = 0 := by simpa using hm
        subst hi0
        exact I.step_spw hok hg hs h0
      | ret Fin => exact absurd ⟨Fin, hs, hstop⟩ hnr
    · obtain ⟨g', w', es, hst, hdo, hseg'⟩ := goes_elim hgo
      obtain ⟨m', ops, σ', h1, ⟨gs', sl', h2, h3⟩, h4, h5⟩ := I.idle (sl := sl) hok hg hst (by rw [hs]; simp) (by rw [hs]; simp) hdo (by rw [hs]; exact fun h => h.elim) (f' := n) (by omega) (by rw [hs]; exact ⟨hd, hseg'⟩) A
      exact ⟨m', ops, σ', h1, ⟨gs', w', sl', h2, h3⟩, .inl ⟨h4, h5⟩⟩
  | pk s =>
    exfalso
    rw [hs] at hsit
    cases s with
    | snd c v k => obtain ⟨_, _, g₀, cases, kk, sh, z, h3, _⟩ := hsit; rw [h3] at hrun; cases hrun
    | rcv c ok k kc => obtain ⟨_, _, g₀, z, h3, _⟩ := hsit; rw [h3] at hrun; cases hrun
    | _ => exact hsit
  | a1 wg δ k => exact I.step_a1 hok hg hs
  | a2 wg k => exact I.step_a2 hok hg hs
  | a3 wg k => exact I.step_a3 hok hg hs
  | k1 wg => exact I.step_k1 hok hg hs (hok.don i wg hin (by simp only [Gst.abs, hs, Stg.abs])).1
  | d1 wg => exact I.step_d1 hok hg hs
  | d2 wg => exact I.step_d234 hok hg ((I.wgx i wg hin).1 (by rw [hs]; rfl)) (.inl hs)
  | d3 wg => exact I.step_d234 hok hg ((I.wgx i wg hin).1 (by rw [hs]; rfl)) (.inr (.inl hs))
  | d4 wg => exact I.step_d234 hok hg ((I.wgx i wg hin).1 (by rw [hs]; rfl)) (.inr (.inr hs))
  | qt => exact I.step_qt hok hg hs hrun
  | w1 wg k => exact I.step_w1 hok hg hs
  | w2 wg k vs => exact I.step_w2 hok hg hs
  | wr wg k => exact I.step_wr hok hg hs
  | w3 wg k => exact I.step_w3 hok hg hrun hs
  | w4 wg k => exact I.step_w4 hok hg hs
  | ke wg k => exact I.step_ke hok hg hs
  | aq wg k => exact I.step_aq hok hg hs
theorem Inv.someone (I : Inv X b0 Shun σ gs w t) (hok : AOk X σ.abs) (hlive : (∃ Fin, σ.abs.pr 0 = .at (.ret Fin)) ∨ ∃ a', AStep σ.abs a') : ∃ (i : Nat) (g : Goroutine), gs[i]? = some g ∧ g.status = .running := by
  refine Classical.byContradiction fun hno => ?_
  have hst : ∀ i, i < σ.n → σ.stg i = .qt ∨ (∃ s, σ.stg i = .pk s) ∨ ∃ wg k, σ.stg i = .w3 wg k ∧ σ.fl i = 0 := by
    intro i hi
    obtain ⟨g, hg, hs⟩ := I.sit i hi
    rcases hs.status with e | ⟨_, e⟩ | ⟨_, ⟨s, e⟩ | ⟨wg, k, e, h0, _⟩⟩
    · exact absurd ⟨i, g, hg, e⟩ hno
    · exact .inl e
    · exact .inr (.inl ⟨s, e⟩)
    · exact .inr (.inr ⟨wg, k, e, h0⟩)
  have hpk : ∀ i s, i < σ.n → σ.stg i = .pk s → (∃ c v k, s = .snd c v k) ∨ ∃ c ok k kc, s = .rcv c ok k kc := by
    intro i s hi e
    obtain ⟨g, hg, hs⟩ := I.sit i hi
    rw [e] at hs
    cases s with
    | snd c v k => exact .inl ⟨_, _, _, rfl⟩
    | rcv c ok k kc => exact .inr ⟨_, _, _, _, rfl⟩
    | _ => exact hs.elim
  have key : ∀ i s, i < σ.n → σ.abs.pr i = .at s → σ.stg i = .pk s ∨ ∃ wg k, s = .wai wg k ∧ σ.stg i = .w3 wg k ∧ σ.fl i = 0 := by
    intro i s hi e
    have e' : (σ.stg i).abs = .at s := e
    rcases hst i hi with h | ⟨s', h⟩ | ⟨wg, k, h, h0⟩
    · rw [h] at e'; cases e'
    · rw [h] at e'; cases e'; exact .inl h
    · rw [h] at e'; cases e'; exact .inr ⟨wg, k, rfl, h, h0⟩
  have h0n : 0 < σ.n := by have := I.lo; omega
  have bad : ∀ i s, i < σ.n → σ.abs.pr i = .at s → (∃ c v k, s = .snd c v k) ∨ (∃ c ok k kc, s = .rcv c ok k kc) ∨ ∃ wg k, s = .wai wg k ∧ σ.stg i = .w3 wg k ∧ σ.fl i = 0 := by
    intro i s hi e
    rcases key i s hi e with h | h
    · rcases hpk i s hi h with h' | h'
      · exact .inl h'
      · exact .inr (.inl h')
    · exact .inr (.inr h)
  rcases hlive with ⟨Fin, h⟩ | ⟨a', h⟩
  · rcases bad 0 _ h0n h with ⟨_, _, _, e⟩ | ⟨_, _, _, _, e⟩ | ⟨_, _, e, _⟩ <;> cases e
  · cases h with
    | comm i j c v ki ok kj kc hij hi hj h1 h2 =>
      rcases key i _ hi h1 with e1 | ⟨_, _, e, _⟩
      · rcases key j _ hj h2 with e2 | ⟨_, _, e, _⟩
        · exact I.pkm i j c v ki ok kj kc hi hj e1 e2
        · cases e
      · cases e
    | clsd j c ok kj kc hj h1 h2 =>
      rcases key j _ hj h1 with e1 | ⟨_, _, e, _⟩
      · have := I.pko j c ok kj kc hj e1
        have h2' : σ.ch c = some true := h2
        rw [this] at h2'
        cases h2'
      · cases e
    | cls i c k hi h1 => rcases bad i _ hi h1 with ⟨_, _, _, e⟩ | ⟨_, _, _, _, e⟩ | ⟨_, _, e, _⟩ <;> cases e
    | add i wg δ k hi h1 => rcases bad i _ hi h1 with ⟨_, _, _, e⟩ | ⟨_, _, _, _, e⟩ | ⟨_, _, e, _⟩ <;> cases e
    | don i wg v hi h1 hv => rcases bad i _ hi h1 with ⟨_, _, _, e⟩ | ⟨_, _, _, _, e⟩ | ⟨_, _, e, _⟩ <;> cases e
    | wai i wg k hi h1 hv =>
      rcases bad i _ hi h1 with ⟨_, _, _, e⟩ | ⟨_, _, _, _, e⟩ | ⟨wg', k', e, h2, h3⟩
      · cases e
      · cases e
      · cases e
        obtain ⟨hx, hsd, _⟩ := hok.wai i wg k hi h1
        have hsd' : σ.sd wg = i := hsd
        have hv' : σ.v wg = 0 := hv
        have hreg : (σ.stg (σ.sd wg)).Reg wg := by rw [hsd', h2]; rfl
        have nod : ∀ j, j < σ.n → ¬ (σ.stg j = .d2 wg ∨ σ.stg j = .d3 wg ∨ σ.stg j = .d4 wg) := by
          intro j hj h
          rcases hst j hj with e | ⟨_, e⟩ | ⟨_, _, e, _⟩ <;> rw [e] at h <;> rcases h with h | h | h <;> cases h
        cases I.wgs wg hx with
        | opn h _ _ => exact h hreg
        | reg _ _ hv2 _ => omega
        | lst _ _ j hj hs' _ _ => exact nod j hj (hs'.imp id .inl)
        | ls4 _ _ j hj hs' _ _ => exact nod j hj (.inr (.inr hs'))
        | fin _ _ _ hw =>
          have := I.awk wg k hx hw (by rw [hsd', h2])
          rw [hsd'] at this
          omega
    | spw cs ws s k h1 => rcases bad 0 _ h0n h1 with ⟨_, _, _, e⟩ | ⟨_, _, _, _, e⟩ | ⟨_, _, e, _⟩ <;> cases e
theorem net_run (Pr : Proto X b0) : ∀ (σ : Gst) (gs : Array Goroutine) (w : World) (sl : Option (Nat × Nat)) (t : Trace), Inv X b0 Shun σ gs w t → Pr.J σ.abs →
    ∃ (N : Nat) (gs' : Array Goroutine) (w' : World) (sl' : Option (Nat × Nat)) (t' : Trace) (σ' : Gst) (g' : Goroutine), runNT X.P N (crowd gs w sl) t = (.next (crowd gs' w' sl'), t') ∧ Inv X b0 Shun σ' gs' w' t' ∧ Pr.J σ'.abs ∧ gs'[0]? = some g' ∧ AtRet X σ' g' w' 0 := by
  intro σ
  induction h : σ.mu Pr.A using lt3_wf.induction generalizing σ with
  | _ m ih =>
    subst h
    intro gs w sl t I hJ
    have hok := Pr.ok _ hJ
    have h0n : 0 < σ.n := by have := I.lo; omega
    obtain ⟨g₀, hg₀, hs₀⟩ := I.sit 0 h0n
    by_cases hret : AtRet X σ g₀ w 0
    · exact ⟨0, gs, w, sl, t, σ, g₀, rfl, I, hJ, hg₀, hret⟩
    have haw : ∀ g ∈ gs, awake g := by
      intro g hg
      obtain ⟨i, hi, rfl⟩ := Array.mem_iff_getElem.1 hg
      exact (I.sitOf (Array.getElem?_eq_getElem hi)).awake
    obtain ⟨j, gj, hj, hjr⟩ := I.someone hok (Pr.live _ hJ)
    obtain ⟨i, g, d, sl', hi, hg, hst⟩ := crowd_pick (P := X.P) (w := w) (sl := sl) haw ⟨j, gj, hj, hjr⟩
    have I' := I.at d
    have hnr : ¬ AtRet X σ g (w.at d) i := by
      rintro ⟨Fin, h1, h2⟩
      have hi0 : i = 0 := Pr.noret _ i Fin hJ (I.lt hi) (by simp only [Gst.abs, h1, Stg.abs])
      subst hi0
      rw [hi] at hg₀
      obtain rfl := Option.some.inj hg₀
      refine hret ⟨Fin, h1, fun w₁ hw₁ => ?_⟩
      obtain ⟨hr, hf⟩ := h2 w₁ ⟨hw₁.tape, hw₁.os, hw₁.output, hw₁.size, hw₁.blk, hw₁.live⟩
      exact ⟨hr, hf⟩
    obtain ⟨m', ops, σ', h1, ⟨gs', w', sl'', rfl, I''⟩, h3⟩ := I'.stepAny (A := Pr.A) (sl := sl') hok hi hg hnr
    have hstep : stepT X.P (crowd gs w sl) = (.next (crowd gs' w' sl''), ops) := by rw [hst, h1]
    have hJ' : Pr.J σ'.abs ∧ Lt3 (σ'.mu Pr.A) (σ.mu Pr.A) := by
      rcases h3 with ⟨e, hl⟩ | ha
      · exact ⟨by rw [e]; exact hJ, hl⟩
      · obtain ⟨a, b⟩ := Pr.step _ _ hJ ha
        exact ⟨a, mu_of_abs b⟩
    obtain ⟨N, gs₂, w₂, sl₂, t₂, σ₂, g₂, r1, r2, r3, r4, r5⟩ := ih _ hJ'.2 σ' rfl gs' w' sl'' (t ++ ops) I'' hJ'.1
    exact ⟨N + 1, gs₂, w₂, sl₂, t₂, σ₂, g₂, by simp only [runNT, hstep]; exact r1, r2, r3, r4, r5⟩
def ShunWg (X : Ctx) (Shun : Loc → Prop) (l : Loc) : Prop := Shun l ∨ ∃ a : Addr, l = .cell a ∧ X.Wg a.block
theorem Inv.frame (I : Inv X b0 Shun σ gs w t) (Pr : Proto X b0) (hJ : Pr.J σ.abs) (hr : AtRet X σ g w 0) :
    Leavers X.P t gs σ.f ∧ Past (ShunWg X Shun) w.heap.size t ∧ ∃ Fin, σ.stg 0 = .wk (.ret Fin) ∧ Fin (σ.own 0) g w ∧ ∀ b, σ.own 0 b → b < w.heap.size := by
  obtain ⟨Fin, h1, h2⟩ := hr
  have h0n : 0 < σ.n := by have := I.lo; omega
  have hfin := Pr.fin _ Fin hJ (by simp only [Gst.abs, h1, Stg.abs])
  have hqt : ∀ j, 0 < j → j < σ.n → σ.stg j = .qt := by
    intro j hj hjn
    by_cases hjb : j < b0
    · exact I.old j hj hjb
    · obtain ⟨hd, _⟩ := hfin j (by omega) hjn
      have hd' : (σ.stg j).abs = .dead := hd
      have hrel : ∀ wg, ¬ (σ.stg j).Rel wg := by
        intro wg hR
        have hx := (I.wgx j wg hjn).1 hR
        have hreg : (σ.stg (σ.sd wg)).Reg wg := by
          cases I.wgs wg hx with
          | opn _ hr _ => exact absurd hR (hr j hjn)
          | reg _ hr _ _ => exact absurd hR (hr j hjn)
          | lst h _ _ _ _ _ _ => exact h
          | ls4 h _ _ _ _ _ _ => exact h
          | fin _ _ hr _ => exact absurd hR (hr j hjn)
        have hsn := I.sdl wg hx
        rcases Nat.eq_zero_or_pos (σ.sd wg) with e | hpos
        · rw [e, h1] at hreg; exact hreg
        · by_cases hb : σ.sd wg < b0
          · rw [I.old _ hpos hb] at hreg; exact hreg
          · obtain ⟨hd2, _⟩ := hfin (σ.sd wg) (by omega) hsn
            have hd2' : (σ.stg (σ.sd wg)).abs = .dead := hd2
            revert hreg hd2'
            cases σ.stg (σ.sd wg) <;> intro hreg hd2' <;> first | exact hreg.elim | cases hd2'
      revert hd' hrel
      cases σ.stg j with
      | d2 wg => intro _ h; exact absurd rfl (h wg)
      | d3 wg => intro _ h; exact absurd rfl (h wg)
      | d4 wg => intro _ h; exact absurd rfl (h wg)
      | qt => intro _ _; rfl
      | _ => intro h _; cases h
  have hknow : ∀ k j x, X.t0 ≤ k → t.g? k = some j → b0 ≤ j → touchAt t k = some x → Knows t 0 k ∨ ((∃ a, x.loc = .cell a ∧ X.Wg a.block) ∧ x.kind = .atomic ∧ ¬ t.heard k) := by
    intro k j x hkt hk hj hx
    have hjn : j < σ.n := by
      unfold Trace.g? at hk
      obtain ⟨op, hop, rfl⟩ := Option.map_eq_some_iff.1 hk
      exact I.ti.gs k op hkt hop
    obtain ⟨wg, r, hp, hkn⟩ := I.vou 0 j h0n (hfin j hj hjn).2
    rcases Nat.lt_or_ge r k with hlt | hge
    · exact .inr (hp.tail k hlt hk x hx)
    · refine .inl (Knows.of_before ?_ hkn)
      rcases Nat.lt_or_ge k r with hlt | hge'
      · have hg := hp.g
        unfold Trace.g? at hk hg
        obtain ⟨op, hop, e1⟩ := Option.map_eq_some_iff.1 hk
        obtain ⟨op', hop', e2⟩ := Option.map_eq_some_iff.1 hg
        exact .inr (hb_po hlt hop hop' (e1.trans e2.symm))
      · exact .inl (by omega)
  refine ⟨⟨fun j y hj hy => ?_, fun j hj => I.hear j (by rw [← I.size]; exact hj)⟩, ⟨I.ti.clean, fun k x hx hm => ?_, fun k j hk hne hc => ?_, ?_, I.ti.low⟩, Fin, h1, (h2 w (Agree.refl _ _ _)).2, fun b hb => I.sep.ownLt 0 b h0n hb⟩
  · have hs := I.sitOf hy
    rw [hqt j hj (I.lt hy)] at hs
    exact hs.2
  · obtain ⟨op, hop, hox⟩ := touch_of hx
    have hk : t.g? k = some op.g := by simp [Trace.g?, hop]
    by_cases hb : k < X.t0 ∨ op.g < b0
    · exact (I.ti.old k x op.g hx hm hk hb).imp id fun ⟨a, b⟩ => ⟨.inl a, b⟩
    · rcases hknow k op.g x (by omega) hk (by omega) hx with h | ⟨h, h', _⟩
      · exact .inl h
      · exact .inr ⟨.inr h, h'⟩
  · have hkn : Knows t 0 k := by
      by_cases hb : k < X.t0 ∨ j < b0
      · exact I.ti.over k j hk hne hb hc
      · obtain ⟨x, hx, hm, hor⟩ := hc
        rcases hknow k j x (by omega) hk (by omega) hx with h | ⟨_, h2, h3⟩
        · exact h
        · rcases hor with h | h
          · exact absurd h2 h
          · exact absurd h h3
    obtain ⟨q, z, hq, hz, hb⟩ := hkn
    rcases hb with rfl | hb
    · exfalso
      unfold Trace.g? at hk
      rw [hq] at hk
      simp only [Option.map_some, Option.some.injEq] at hk
      exact hne (hk.symm.trans hz)
    · exact ⟨q, by simp [Trace.g?, hq, hz], hb⟩
  · obtain ⟨y, hy, hs⟩ := I.sit 0 h0n
    rw [h1] at hs
    exact hs.1
def Gst.first (n : Nat) (s : Script) (f : Nat) (q : Nat → Nat) (O S : Nat → Prop) : Gst :=
  { n, stg := fun i => if i = 0 then .wk s else .qt, ch := fun _ => none, v := fun _ => 0, sd := fun _ => 0, grp := fun _ _ => False, vou := fun _ _ => False, own := fun i b => i = 0 ∧ O b, fz := fun i b => i = 0 ∧ S b, f := fun i => if i = 0 then f else q i, fl := fun _ => 0 }
theorem Inv.start {q : Nat → Nat} {B f : Nat} {s : Script} {O S : Nat → Prop} (hL : Leavers X.P t gs q) (hP : Past Shun B t) (hB : B ≤ w.heap.size) (h0 : gs[0]? = some g) (hseg : Seg X true S (StopOf X s true S) f O g w)
    (hO : ∀ b, O b → b < w.heap.size ∧ ¬ S b ∧ ¬ X.Wg b ∧ ∀ a : Addr, a.block = b → ¬ Shun (.cell a)) (hS : ∀ b, S b → b < w.heap.size ∧ ¬ X.Wg b ∧ ∀ a : Addr, a.block = b → ¬ Shun (.cell a))
    (hW : ∀ b, X.Wg b → b < w.heap.size ∧ WgAt X.ty b w 0 0 ∧ ∀ a : Addr, a.block = b → ¬ Shun (.cell a)) (hC : ∀ c, X.lo ≤ c → ¬ Shun (.obj c)) (ht0 : X.t0 = t.size) :
    Inv X gs.size Shun (Gst.first gs.size s f q O S) gs w t := by
  have hpos : 0 < gs.size := (Array.getElem?_eq_some_iff.1 h0).1
  have hst : ∀ i, (Gst.first gs.size s f q O S).stg i = if i = 0 then .wk s else .qt := fun _ => rfl
  have hst0 : (Gst.first gs.size s f q O S).stg 0 = .wk s := rfl
  have hsti : ∀ i, i ≠ 0 → (Gst.first gs.size s f q O S).stg i = .qt := fun i hi => if_neg hi
  have hkn : ∀ (x : Touch) (k : Nat), touchAt t k = some x → x.loc.isMemory = true → ¬ Shun x.loc → Knows t 0 k := fun x k hx hm hs => (hP.known k x hx hm).elim id fun h => absurd h.1 hs
  have hlive : ∀ k, k < gs.size → (k = 0 ∨ gs.size ≤ k) → k = 0 := fun k h h' => by omega
  have hlt : ∀ {k : Nat} {op : MemOp}, t[k]? = some op → k < X.t0 := fun h => by rw [ht0]; exact lt_size_of_getElem? h
  refine ⟨rfl, ⟨hpos, Nat.le_refl _⟩, fun i hi => ?_, fun _ _ => Nat.zero_le _, ?_, ?_, fun _ _ h => (by cases h), fun i c ok k kc _ e => ?_, fun i j c v k ok kj kc _ _ e _ => ?_, fun wg hx => ?_, fun _ _ => hpos, fun i wg hi h => ?_, fun j hj => hL.above j hj, fun _ _ h => h.elim, fun _ _ _ h => h.elim, fun j wg _ h => ?_, fun j hb hj _ => ?_, fun i hi _ => hsti i (by omega), fun wg k _ _ e => ?_, fun i wg _ => ?_, fun i hi ho => ?_⟩
  · have hi' : i < gs.size := hi
    refine ⟨gs[i], Array.getElem?_eq_getElem hi', ?_⟩
    by_cases e : i = 0
    · subst e
      have eg : gs[0] = g := by rw [Array.getElem?_eq_getElem hi'] at h0; exact Option.some.inj h0
      rw [hst0, eg]
      have e1 : (Gst.first gs.size s f q O S).own 0 = O := by funext b; simp [Gst.first]
      have e2 : (Gst.first gs.size s f q O S).fz 0 = S := by funext b; simp [Gst.first]
      rw [e1, e2]
      exact ⟨hP.hears, hseg⟩
    · rw [hsti i e]
      have e1 : (Gst.first gs.size s f q O S).f i = q i := if_neg e
      rw [e1]
      exact ⟨by simpa using e, hL.old i _ (by omega) (Array.getElem?_eq_getElem hi')⟩
  · refine ⟨fun i j b _ _ h1 h2 => h1.1.trans h2.1.symm, fun i j b _ _ h1 h2 => (hO b h1.2).2.1 h2.2, fun i b _ h => (hO b h.2).2.2.1, fun i b _ h => (hS b h.2).2.1, fun _ _ _ _ h => h rfl, fun _ _ _ _ h => h rfl, fun _ _ h => h rfl, fun i b _ h => (hO b h.2).1, fun i b _ h => (hS b h.2).1, fun b h => (hW b h).1, fun _ h => absurd rfl h, fun _ h => absurd rfl h⟩
  · refine ⟨hP.clean, fun i _ a ha k x hx hl => ?_, fun i _ a ha k x hx hl hw => ?_, fun a ha k x hx hl => ⟨fun _ j hj hj' => ?_, fun _ => ?_⟩, fun c hc k x hx hl _ j hj hj' => ?_, fun op hop => MemAct.low_mono hB (hP.seen op hop), fun k op hk hop => ?_, fun k x gg hx hm _ _ => hP.known k x hx hm, fun k gg hk hne _ hc => ?_, fun b hb k hk e => ?_, Nat.le_of_eq ht0⟩
    · rw [ha.1]; exact hkn x k hx (by rw [hl]; rfl) (by rw [hl]; exact (hO _ ha.2).2.2.2 a rfl)
    · rw [ha.1]; exact hkn x k hx (by rw [hl]; rfl) (by rw [hl]; exact (hS _ ha.2).2.2 a rfl)
    · rw [hlive j hj hj']; exact hkn x k hx (by rw [hl]; rfl) (by rw [hl]; exact (hW _ ha).2.2 a rfl)
    · exact hkn x k hx (by rw [hl]; rfl) (by rw [hl]; exact (hW _ ha).2.2 a rfl)
    · rw [hlive j hj hj']; exact hkn x k hx (by rw [hl]; rfl) (by rw [hl]; exact hC c hc)
    · have := hlt hop; omega
    · obtain ⟨j, hj, hb⟩ := hP.over k gg hk hne hc
      unfold Trace.g? at hj
      obtain ⟨op, hop, e⟩ := Option.map_eq_some_iff.1 hj
      exact ⟨j, op, hop, e, .inr hb⟩
    · obtain ⟨op, hop, _⟩ := Option.map_eq_some_iff.1 e
      have := hlt hop; omega
  · by_cases h : i = 0
    · subst h; rw [hst0] at e; cases e
    · rw [hsti i h] at e; cases e
  · by_cases h : i = 0
    · subst h; rw [hst0] at e; cases e
    · rw [hsti i h] at e; cases e
  · refine .opn (by rw [show (Gst.first gs.size s f q O S).sd wg = 0 from rfl, hst0]; exact id) (fun j _ h => ?_) (by have := (hW wg hx).2.1; simpa [Gst.first] using this)
    by_cases e : j = 0
    · subst e; rw [hst0] at h; exact h
    · rw [hsti j e] at h; exact h
  · by_cases e : i = 0
    · subst e; rw [hst0] at h; exact h.elim
    · rw [hsti i e] at h; exact h.elim
  · by_cases e : j = 0
    · subst e; rw [hst0] at h; exact h.elim
    · rw [hsti j e] at h; exact h.elim
  · have hj' : j < gs.size := hj
    omega
  · rw [show (Gst.first gs.size s f q O S).sd wg = 0 from rfl, hst0] at e; cases e
  · by_cases e : i = 0
    · subst e; rw [hst0]; exact ⟨fun h => h.elim, fun k h => by rcases h with h | h <;> cases h⟩
    · rw [hsti i e]; exact ⟨fun h => h.elim, fun k h => by rcases h with h | h <;> cases h⟩
  · intro wg r _ hr ha
    have := lt_of_act? ha
    omega
theorem phase (Pr : ∀ b0, Proto X b0) {q : Nat → Nat} {B f : Nat} {s : Script} {O S : Nat → Prop} (hL : Leavers X.P t gs q) (hP : Past Shun B t) (hB : B ≤ w.heap.size) (h0 : gs[0]? = some g) (hseg : Seg X true S (StopOf X s true S) f O g w)
    (hO : ∀ b, O b → b < w.heap.size ∧ ¬ S b ∧ ¬ X.Wg b ∧ ∀ a : Addr, a.block = b → ¬ Shun (.cell a)) (hS : ∀ b, S b → b < w.heap.size ∧ ¬ X.Wg b ∧ ∀ a : Addr, a.block = b → ¬ Shun (.cell a))
    (hW : ∀ b, X.Wg b → b < w.heap.size ∧ WgAt X.ty b w 0 0 ∧ ∀ a : Addr, a.block = b → ¬ Shun (.cell a)) (hC : ∀ c, X.lo ≤ c → ¬ Shun (.obj c)) (ht0 : X.t0 = t.size)
    (hJ : (Pr gs.size).J (Gst.first gs.size s f q O S).abs) :
    ∃ (N : Nat) (gs' : Array Goroutine) (w' : World) (sl' : Option (Nat × Nat)) (t' : Trace) (q' : Nat → Nat) (g' : Goroutine) (a : Abs) (Fin : (Nat → Prop) → Goroutine → World → Prop) (O' : Nat → Prop), runNT X.P N (crowd gs w sl) t = (.next (crowd gs' w' sl'), t') ∧ gs'[0]? = some g' ∧
      Leavers X.P t' gs' q' ∧ Past (ShunWg X Shun) w'.heap.size t' ∧ (Pr gs.size).J a ∧ a.pr 0 = .at (.ret Fin) ∧ g'.status = .running ∧ ∀ d, Fin O' g' (w'.at d) := by
  obtain ⟨N, gs', w', sl', t', σ', g', h1, I', h2, h3, h4⟩ := net_run (Pr gs.size) _ _ _ sl _ (Inv.start hL hP hB h0 hseg hO hS hW hC ht0) hJ
  obtain ⟨k1, k2, Fin, k3, _⟩ := I'.frame (Pr gs.size) h2 h4
  obtain ⟨Fin', k3', k4⟩ := h4
  rw [k3] at k3'
  cases k3'
  exact ⟨N, gs', w', sl', t', σ'.f, g', σ'.abs, Fin, σ'.own 0, h1, h3, k1, k2, h2, by simp only [Gst.abs, k3, Stg.abs], (k4 w' (Agree.refl _ _ _)).1, fun d => (k4 _ (Agree.at _ _ _ d)).2⟩
end
end Go.Proofs.Ytmkjoojoaldljaa.Net
