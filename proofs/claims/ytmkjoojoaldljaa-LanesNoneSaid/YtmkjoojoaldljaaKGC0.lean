/-
  A part of the proof of LanesNone: joined by a program out of: GwA GwB GwC GwD GwE GwF GpA GpB GpC GpD GpE GpF GpG GpH GpI GpJ GwG0 GwG GwH GwI GpK.
-/
import Derived.Test.YtmkjoojoaldljaaKWB
import Derived.Conc.BesideWords
import Derived.Laws.Tables
import Derived.Laws.Build
import Derived.Conc.AppendWalk
import Derived.Laws.MakeOwn
namespace Go.Proofs.Ytmkjoojoaldljaa.Net
open Go.Conc Go.RowKit Go.Conc.Lib Go.ConcR.Gen
open Go.ConcN (WgLive)
open Go.ConcR (KK wgBlock WgAt stA smA rd wr mk DC0)
section
variable {X : Ctx} {O S : Nat → Prop} {w w' : World} {es : Array Event}
def DN (X : Ctx) (O S : Nat → Prop) (w w' : World) (es : Array Event) : Prop := Does X O S w w' es ∧ w'.heap.size = w.heap.size
theorem dn_idle (w : World) : DN X O S w w #[] := ⟨Does.idle _ _ _ _, rfl⟩
theorem dn_none (h : ∀ e ∈ es, False) : DN X O S w w es := by
  have : es = #[] := by
    apply Array.eq_empty_of_size_eq_zero
    rcases Nat.eq_zero_or_pos es.size with h0 | h0
    · exact h0
    · exact (h es[0] (Array.getElem_mem h0)).elim
  rw [this]; exact dn_idle w
theorem dn_read (h : ∀ e ∈ es, ∃ a : Addr, e = ⟨.cell a, false, false⟩ ∧ OS O S a.block) : DN X O S w w es :=
  ⟨⟨rfl, rfl, rfl, Nat.le_refl _, fun _ _ _ => rfl, fun _ _ => rfl, fun e he => by
    obtain ⟨a, rfl, ho⟩ := h e he
    exact .inl ⟨a, rfl, rfl, ho.elim .inl fun x => .inr (.inr ⟨x, rfl⟩)⟩⟩, rfl⟩
theorem dn_terms : Terms (Agree X (OS O S)) (DN X O S) := ⟨agree_trans3', fun w => dn_idle w⟩
where
  agree_trans3' : ∀ a b c, Agree X (OS O S) a b → Agree X (OS O S) b c → Agree X (OS O S) a c := fun _ _ _ => Agree.trans
theorem dn_draw : LetsDraw (DN X O S) := fun w => ⟨⟨rfl, rfl, rfl, Nat.le_refl _, fun _ _ _ => rfl, fun _ _ => rfl, by simp⟩, rfl⟩
theorem agree_draw (w : World) : Agree X (OS O S) w { w with drawn := w.drawn + 1 } := ⟨rfl, rfl, rfl, Nat.le_refl _, fun _ _ => rfl, fun _ _ h => h⟩
theorem Agree.cell {T : Nat → Prop} (h : Agree X T w w') {a : Addr} (ha : T a.block) : w'.cell? a = w.cell? a := World.cell?_of_block (h.blk _ ha)
theorem Seg.of_dn {main : Bool} {Stop : (Nat → Prop) → Goroutine → World → Prop} {StopG : Goroutine → World → Prop} {n m : Nat} {g : Goroutine}
    (h : Goes X.P main (Agree X (OS O S)) (DN X O S) StopG n g w) (hS : ∀ g w, StopG g w → Seg X main S Stop m O g w) : Seg X main S Stop (n + m) O g w :=
  Seg.of_goes h (fun _ _ x => x) (fun _ _ _ x => x) hS
theorem Seg.of_dn0 {main : Bool} {Stop : (Nat → Prop) → Goroutine → World → Prop} {n : Nat} {g : Goroutine}
    (h : Goes X.P main (Agree X (OS O S)) (DN X O S) (fun g w => ∀ w₁, Agree X (OS O S) w w₁ → Stop O g w₁) n g w) : Seg X main S Stop n O g w :=
  Seg.of_dn (m := 0) h fun _ _ x => x
end
noncomputable def bot : Frame := { (default : Frame) with fn := Try.prog.funcs.size, defers := [], mode := .panicking [goexitEntry] }
theorem quits_tail {f : FuncId} {fn : Func} (hf : Try.prog.funcs[f]? = some fn) (hr : fn.results = #[]) (T : Array Value) : QuitsD Try.prog 2 0 (G { (baseD f).at ⟨T, []⟩ [] with mode := .returning } [bot]) := by
  refine QuitsD.ctl (g' := G bot []) rfl (fun w => ?_) ?_
  · simp [G, stepG, unwind, doReturn, results, Frame.at, baseD, bot, hf, hr, seen, GStep.after, goexitEntry]
  refine QuitsD.ctl (g' := { G bot [] with status := .finished }) rfl (fun w => ?_) ⟨rfl, rfl⟩
  simp [G, stepG, unwind, bot, goexitEntry, Frame.catches]
  rfl
theorem born_step {f : FuncId} {fn : Func} {c : Code} (hf : Try.prog.funcs[f]? = some fn) (hname : (fn.name == "runtime.NumGoroutine") = false) (hb : fn.body = some c) (cap : Array Value) (w : World) :
    stepG Try.prog false (born Try.prog { target := .fn (.func f) cap, args := #[] }) w =
      .go (G ((baseD f).at ⟨cap ++ Array.replicate (fn.ntmps - cap.size) undef, []⟩ [.code c]) [bot]) w #[] := by
  have h1 : fn.name ≠ "runtime.NumGoroutine" := by simpa using hname
  simp [born, stepG, unwind, callDeferred, invoke, callFunc, hf, h1, hb, seen, GStep.after, G, Frame.enter, Frame.at, baseD, bot]
section
variable {X : Ctx} {O S : Nat → Prop} {main : Bool} {Stop : Goroutine → World → Prop} {n : Nat} {g g' : Goroutine} {w : World}
theorem Seg.of_goes_stop {D : World → World → Array Event → Prop} {StopG : Goroutine → World → Prop} {StopS : (Nat → Prop) → Goroutine → World → Prop} (h : Goes X.P main (Agree X (OS O S)) D StopG n g w)
    (hD : ∀ w w' es, D w w' es → Does X O S w w' es ∧ w'.heap.size = w.heap.size) (hS : ∀ g w, StopG g w → StopS O g w) : Seg X main S StopS n O g w := by
  induction n generalizing g w with
  | zero => exact fun w₁ h₁ => hS _ _ (h w₁ h₁)
  | succ n ih =>
    rcases h with h | ⟨hr, h⟩
    · exact .inl fun w₁ h₁ => hS _ _ (h w₁ h₁)
    · refine .inr ⟨hr, fun w₁ h₁ => goes_imp (h w₁ h₁) fun g' w' es x => ?_⟩
      obtain ⟨hd, hsz⟩ := hD _ _ _ x.1
      refine ⟨hd, ?_⟩
      rw [hsz, grow_same]
      exact ih x.2
theorem Seg.of_dn_stop {StopG : Goroutine → World → Prop} {StopS : (Nat → Prop) → Goroutine → World → Prop} (h : Goes X.P main (Agree X (OS O S)) (DN X O S) StopG n g w) (hS : ∀ g w, StopG g w → StopS O g w) : Seg X main S StopS n O g w :=
  Seg.of_goes_stop h (fun _ _ _ x => x) hS
theorem goes_weaken {P : Program} {R : World → World → Prop} {D D' : World → World → Array Event → Prop} (h : Goes P main R D Stop n g w) (hd : ∀ w w' es, D w w' es → D' w w' es) : Goes P main R D' Stop n g w := by
  induction n generalizing g w with
  | zero => exact h
  | succ n ih =>
    rcases h with h | ⟨hr, h⟩
    · exact .inl h
    · exact .inr ⟨hr, fun w₁ h₁ => goes_imp (h w₁ h₁) fun _ _ _ x => ⟨hd _ _ _ x.1, ih x.2⟩⟩
theorem dn_of_dc0 {w w' : World} {es : Array Event} (h : DC0 w w' es) : DN X O S w w' es := Does.of_dc0 h
theorem Seg.gd {StopS : (Nat → Prop) → Goroutine → World → Prop} (hr : g.status = .running) (hs : ∀ w, stepG X.P main g w = .go g' w #[]) (h : Seg X main S StopS n O g' w) : Seg X main S StopS (n + 1) O g w :=
  Seg.step hr fun w₁ h₁ => by
    rw [hs, goes_go, grow_same]
    exact ⟨Does.idle _ _ _ _, h.rely h₁⟩
variable {P : Program}
theorem gd (hr : g.status = .running) (hs : ∀ w, stepG P main g w = .go g' w #[]) (h : Goes P main (Agree X (OS O S)) (DN X O S) Stop n g' w) : Goes P main (Agree X (OS O S)) (DN X O S) Stop (n + 1) g w :=
  Goes.step hr fun w₁ h₁ => by rw [hs]; exact ⟨dn_idle _, h.rely (dn_terms (X := X) (O := O) (S := S)).trans h₁⟩
variable {b : Frame} {a : Act} {k : List Item} {cs : List Frame} {ops : Array Oper} {i : Nat} {rest : List Nat} {o : Oper}
theorem gd_val (v : Value) (ho : ops[i]? = some o) (hw : Region.wanted o (yielded ops a.tmps) = true) (hk : b.kind ≠ .early) (hr : ∀ w₁, Agree X (OS O S) w w₁ → (execOp a.eval o).run P w₁ = .ok (.value v) w₁ ∧ DN X O S w₁ w₁ (listed P b.fn a o w₁))
    (h : Goes P main (Agree X (OS O S)) (DN X O S) Stop n (G (b.at (a.put o.dst v) (.inRegion ops rest :: k)) cs) w) : Goes P main (Agree X (OS O S)) (DN X O S) Stop (n + 1) (G (b.at a (.inRegion ops (i :: rest) :: k)) cs) w :=
  Goes.step rfl fun w₁ h₁ => goes_oper ho hw hk (by rw [(hr w₁ h₁).1]; exact ⟨(hr w₁ h₁).2, h.rely (dn_terms (X := X) (O := O) (S := S)).trans h₁⟩)
theorem gd_pure (v : Value) (ho : ops[i]? = some o) (hw : Region.wanted o (yielded ops a.tmps) = true) (hk : b.kind ≠ .early) (hr : ∀ w₁, (execOp a.eval o).run P w₁ = .ok (.value v) w₁) (he : ∀ w₁, (execOp a.eval o).events P w₁ #[] = #[])
    (h : Goes P main (Agree X (OS O S)) (DN X O S) Stop n (G (b.at (a.put o.dst v) (.inRegion ops rest :: k)) cs) w) : Goes P main (Agree X (OS O S)) (DN X O S) Stop (n + 1) (G (b.at a (.inRegion ops (i :: rest) :: k)) cs) w :=
  gd_val v ho hw hk (fun w₁ _ => ⟨hr w₁, by rw [listed_nil (he w₁)]; exact dn_idle _⟩) h
theorem gd_load {t : TypeId} {x : Operand} {ad : Addr} {v : Value} (ho : ops[i]? = some o) (hw : Region.wanted o (yielded ops a.tmps) = true) (hk : b.kind ≠ .early) (hop : o.op = .load t x) (hx : a.eval x = .pointer (some ad)) (hS : OS O S ad.block) (hc : w.cell? ad = some v)
    (hr : ∀ w₁ : World, w₁.cell? ad = some v → (execOp a.eval o).run P w₁ = .ok (.value v) w₁ ∧ (execOp a.eval o).events P w₁ #[] = #[⟨.cell ad, false, false⟩]) (hq : (P.funcs[b.fn]?).any (·.norace) = false)
    (h : Goes P main (Agree X (OS O S)) (DN X O S) Stop n (G (b.at (a.put o.dst v) (.inRegion ops rest :: k)) cs) w) : Goes P main (Agree X (OS O S)) (DN X O S) Stop (n + 1) (G (b.at a (.inRegion ops (i :: rest) :: k)) cs) w :=
  gd_val v ho hw hk (fun w₁ h₁ => by
    obtain ⟨h1, h2⟩ := hr w₁ ((h₁.cell hS).trans hc)
    refine ⟨h1, dn_read fun e he => ?_⟩
    unfold listed at he
    rw [h2, seen_eq hq (by simp)] at he
    simp at he
    exact ⟨ad, he, hS⟩) h
theorem gd_call {f : FuncId} {fn : Func} {c : Code} {args : Array Operand} {ats : Array TypeId} (ho : ops[i]? = some o) (hw : Region.wanted o (yielded ops a.tmps) = true) (hk : b.kind ≠ .early) (hop : o.op = .call { callee := .value (.func f), args, argTypes := ats })
    (hf : P.funcs[f]? = some fn) (hname : (fn.name == "runtime.NumGoroutine") = false) (hb : fn.body = some c)
    (h : Goes P main (Agree X (OS O S)) (DN X O S) Stop n (G ((base f).at { tmps := args.map a.eval ++ Array.replicate (fn.ntmps - (args.map a.eval).size) undef, defers := [] } [.code c]) (b.at a (.inRegion ops (i :: rest) :: k) :: cs)) w) :
    Goes P main (Agree X (OS O S)) (DN X O S) Stop (n + 1) (G (b.at a (.inRegion ops (i :: rest) :: k)) cs) w :=
  Goes.step rfl fun w₁ h₁ => goes_call ho hw hk hop hf hname hb ⟨dn_idle _, h.rely (dn_terms (X := X) (O := O) (S := S)).trans h₁⟩
end
end Go.Proofs.Ytmkjoojoaldljaa.Net
namespace Go.Proofs.Ytmkjoojoaldljaa.Net
open Go.Conc Go.RowKit Go.Conc.Lib Go.ConcR.Gen
open Go.ConcN (WgLive)
open Go.ConcR (KK wgBlock WgAt stA smA rd wr mk DC0)
structure Here (X : Ctx) : Prop where
  P : X.P = Try.prog
  ty : X.ty = 69
section
variable {X : Ctx} {S : Nat → Prop} {wh ww br rs : Nat} {w : World}
theorem loud (f : Nat) (fn : Func) (h : Try.prog.funcs[f]? = some fn) (hn : fn.norace = false) : (Try.prog.funcs[f]?).any (·.norace) = false := by rw [h]; simpa using hn
theorem done_stop (H : Here X) {O : Nat → Prop} (hx : X.Wg wh) {f : FuncId} {fn : Func} (hf : Try.prog.funcs[f]? = some fn) (hr : fn.results = #[]) (T : Array Value) (hw : WgLive 69 wh w) :
    Seg X false S (StopOf X (.don wh) false S) 24 O (G { (baseD f).at ⟨T, [dcall 36 #[.pointer (some ⟨wh, 0, none⟩)]]⟩ [] with mode := .returning } [bot]) w := by
  obtain ⟨P, ty, Wg, Dead, lo, t0⟩ := X
  obtain ⟨rfl, rfl⟩ : P = Try.prog ∧ ty = 69 := ⟨H.P, H.ty⟩
  refine Seg.of_dn_stop (StopG := AtR0 Try.prog 69 (Agree _ (OS O S)) wh) (gd (g' := G ((baseD 36).at ⟨#[.pointer (some ⟨wh, 0, none⟩), undef, undef, undef], []⟩ [.code ((doneFn Try.link).body.getD .skip)]) ({ (baseD f).at ⟨T, []⟩ [] with mode := .returning } :: [bot])) rfl (fun w => ?_) ?_) (fun g w h => ⟨rfl, h⟩)
  · rw [stepG_unwind_enter rfl Try.func36 (by kernel_rfl) rfl]
    rfl
  · exact goes_weaken (net_done (P := Try.prog) (L := Try.link) Try.wgLib (fun _ _ r h => r.live wh hx h) (c := { (baseD f).at ⟨T, []⟩ [] with mode := .returning }) rfl (quits_tail hf hr T) w hw) fun _ _ _ h => dn_of_dc0 h
def CloserK (wh ww br rs : Nat) (w : World) : Prop := w.cell? ⟨br, 0, none⟩ = some (.chan (some rs)) ∧ WgLive 69 wh w ∧ WgLive 69 ww w
noncomputable def closerCode : Code := Try.f50.body.getD .skip
set_option maxRecDepth 100000 in
theorem closer_tail (H : Here X) {O : Nat → Prop} (hh : X.Wg wh) (hb : S br) (hrh : wh ≠ rs) (w : World) (hc : w.cell? ⟨br, 0, none⟩ = some (.chan (some rs))) (hl : WgLive 69 wh w) (v0 v1 v3 v4 : Value) (ops1 : Array Oper) :
    Seg X false S (StopOf X (.cls rs (.don wh)) false S) 10 O
      (G ((baseD 50).at ⟨#[v0, v1, .pointer (some ⟨br, 0, none⟩), v3, v4], [dcall 36 #[.pointer (some ⟨wh, 0, none⟩)]]⟩ [.inRegion ops1 [], .code (match closerCode with | .seq _ (.seq _ c) => c | _ => .skip)]) [bot]) w := by
  obtain ⟨P, ty, Wg, Dead, lo, t0⟩ := X
  obtain ⟨rfl, rfl⟩ : P = Try.prog ∧ ty = 69 := ⟨H.P, H.ty⟩
  simp only [closerCode, Try.f50, Option.getD_some]
  refine Seg.of_dn0 ?_
  refine gd rfl (fun _ => stepG_region_end) ?_
  refine gd rfl (fun _ => stepG_region) ?_
  refine gd_load (ad := ⟨br, 0, none⟩) (v := .chan (some rs)) rfl rfl (by decide) rfl rfl (.inr hb) hc (fun w₁ h₁ => ?_) (loud 50 _ Try.func50 rfl) ?_
  · constructor
    · go_simp
    · simp [go_sem, h₁]
  refine Goes.stop fun w₁ h₁ w₂ h₂ => ⟨rfl, rfl, fun s r hr => ⟨_, stepG_close rfl rfl (by decide) rfl rfl hr (loud 50 _ Try.func50 rfl), rfl, 28, ?_⟩⟩
  have hl' : WgLive 69 wh (w₂.setChan rs 0 #[] true s r false) := wgLive_of_heap (heap_setChan_ne w₂ 0 #[] true s r false (Ne.symm hrh)) ((h₁.trans h₂).live wh hh hl)
  walk_nrm
  refine Seg.gd (n := 27) rfl (fun _ => stepG_region_end) (Seg.gd (n := 26) rfl (fun _ => stepG_end) ?_)
  exact (done_stop H hh Try.func50 rfl _ hl').le (by omega)
set_option maxRecDepth 100000 in
set_option maxHeartbeats 1000000 in
theorem closer_walk (H : Here X) (hh : X.Wg wh) (hw : X.Wg ww) (hb : S br) (hbw : br ≠ ww) (hhw : wh ≠ ww) (hrh : wh ≠ rs) {O : Nat → Prop} (w : World) (hK : CloserK wh ww br rs w) :
    ∃ n, Seg X false S (StopOf X (.wai ww (.cls rs (.don wh))) false S) n O (born Try.prog { target := .fn (.func 50) #[.pointer (some ⟨wh, 0, none⟩), .pointer (some ⟨ww, 0, none⟩), .pointer (some ⟨br, 0, none⟩)], args := #[] }) w := by
  have hnext : ∀ w v0 v1 v3 v4 ops1, w.cell? ⟨br, 0, none⟩ = some (.chan (some rs)) → WgLive 69 wh w → _ := fun w v0 v1 v3 v4 ops1 h1 h2 => closer_tail (S := S) (O := O) (w := w) H hh hb hrh h1 h2 v0 v1 v3 v4 ops1
  obtain ⟨P, ty, Wg, Dead, lo, t0⟩ := X
  obtain ⟨rfl, rfl⟩ : P = Try.prog ∧ ty = 69 := ⟨H.P, H.ty⟩
  simp only [closerCode, Try.f50, Option.getD_some] at hnext
  refine ⟨11, Seg.of_dn_stop (StopG := AtKd Try.prog 69 false (Agree _ (OS O S)) ww (fun g w => Seg _ false S (StopOf _ (.cls rs (.don wh)) false S) 10 O g w)) ?_ (fun g w h => ⟨by obtain ⟨_, _, h, _⟩ := h; exact h, 10, h⟩)⟩
  refine gd rfl (fun _ => born_step Try.func50 (by kernel_rfl) rfl _ _) ?_
  refine gd rfl (fun _ => stepG_seq) ?_
  refine gd rfl (fun _ => stepG_region) ?_
  refine gd rfl (fun _ => stepG_defer rfl rfl (by decide) rfl) ?_
  refine gd rfl (fun _ => stepG_region_end) ?_
  refine gd rfl (fun _ => stepG_seq) ?_
  refine gd rfl (fun _ => stepG_region) ?_
  refine gd_call (f := Try.link.wait) rfl rfl (by decide) rfl Try.wgLib.f_wait (nm_wait Try.link) rfl ?_
  have hA := @net_wait Try.link Try.prog (Agree { P := Try.prog, ty := 69, Wg := Wg, Dead := Dead, lo := lo, t0 := t0 } (OS O S)) ww (fun w => w.cell? ⟨br, 0, none⟩ = some (.chan (some rs)) ∧ WgLive 69 wh w) false (fun g w => Seg { P := Try.prog, ty := 69, Wg := Wg, Dead := Dead, lo := lo, t0 := t0 } false S (StopOf { P := Try.prog, ty := 69, Wg := Wg, Dead := Dead, lo := lo, t0 := t0 } (.cls rs (.don wh)) false S) 10 O g w)
  simp only [waitFn, Option.getD_some] at hA
  walk_nrmf Try.f50
  simp only [waitFn]
  walk_nrm
  refine goes_weaken (hA (mT := 0) Try.wgLib (fun _ _ r h => r.live ww hw h) (fun _ _ r h => ⟨(r.cell (.inr hb)).trans h.1, r.live wh hh h.2⟩) (fun w a u ha _ h => ⟨?_, ?_⟩) (fun w h _ => Goes.stop fun w₁ h₁ => ?_) w ⟨⟨hK.1, hK.2.1⟩, hK.2.2⟩) fun _ _ _ h => dn_of_dc0 h
  · exact (World.cell?_of_block (RowKit.Below.heap_setCell w a u br (by rw [ha]; exact hbw))).trans h.1
  · exact wgLive_of_heap (RowKit.Below.heap_setCell w a u wh (by rw [ha]; exact hhw)) h.2
  · exact hnext w₁ _ _ _ _ _ ((h₁.cell (.inr hb)).trans h.1) (h₁.live wh hh h.2)
end
end Go.Proofs.Ytmkjoojoaldljaa.Net
namespace Go.Proofs.Ytmkjoojoaldljaa.Net
open Go.Conc Go.RowKit Go.Conc.Lib Go.ConcR.Gen
open Go.ConcN (WgLive)
open Go.ConcR (KK wgBlock WgAt stA smA rd wr mk DC0)
noncomputable def handLoop : Code := match Try.f37.body with | some (.seq _ (.seq _ (.block _ (.loop c)))) => c | _ => .skip
def handS (wh pl : Nat) : Nat → Nat → Script
  | _, 0 => .cls pl (.don wh)
  | i, m + 1 => .snd pl (.int .i64 i) (handS wh pl (i + 1) m)
section
variable {X : Ctx} {S O : Nat → Prop} {wh bi bp be pl en : Nat} {w : World}
noncomputable def handCaller (wh : Nat) (x1 x2 x3 x4 x5 x6 x7 x8 : Value) : Frame := (baseD 48).at ⟨#[.pointer (some ⟨wh, 0, none⟩), x1, x2, x3, x4, x5, x6, x7, x8], [dcall 36 #[.pointer (some ⟨wh, 0, none⟩)]]⟩ [.inRegion (match Try.f48.body with | some (.seq _ (.region _ o _)) => o | _ => #[]) [4]]
theorem run_hand_select {o : Oper} (ho : o.op = .select #[{ chan := Operand.tmp 12, send := some (Operand.tmp 13), elem := 3 }, { chan := Operand.tmp 14, send := none, elem := 60 }] true) (a : Act) (w : World) {v : Value} (h1 : a.eval (.tmp 12) = .chan (some pl)) (h2 : a.eval (.tmp 13) = v) (h3 : a.eval (.tmp 14) = .chan (some en)) :
    (execOp a.eval o).run Try.prog w = .ok (.comm #[scase pl v (.int .i64 0), rcase en (.agg #[])] true .select) w ∧ (execOp a.eval o).events Try.prog w #[] = #[] := by
  have z3 := Try.zeroValue3
  have z60 := Try.zeroValue60
  simp only [Act.eval, Array.getD_eq_getD_getElem?] at h1 h2 h3
  unfold execOp
  simp only [ho]
  constructor
  · simp [go_sem, z3, z60, scase, rcase]
    exact ⟨⟨h1, h2⟩, h3⟩
  · simp [go_sem, z3]
def dclose (ats : Array TypeId) (ty : TypeId) (c : Nat) : Deferred := { target := .builtin .close ats ty #[false], args := #[.chan (some c)] }
theorem stepG_defer_close {P : Program} {main : Bool} {b : Frame} {a : Act} {k : List Item} {cs : List Frame} {ops : Array Oper} {i : Nat} {rest : List Nat} {o : Oper} {t : Tmp} {ats : Array TypeId} {c : Nat} (ho : ops[i]? = some o) (hw : Region.wanted o (yielded ops a.tmps) = true) (hk : b.kind ≠ .early)
    (hop : o.op = .defer { callee := .builtin .close, args := #[.tmp t], argTypes := ats }) (hx : a.eval (.tmp t) = .chan (some c)) (w : World) :
    stepG P main (G (b.at a (.inRegion ops (i :: rest) :: k)) cs) w = .go (G (b.at (Act.put ⟨a.tmps, dclose ats o.type c :: a.defers⟩ o.dst undef) (.inRegion ops rest :: k)) cs) w #[] := by
  have hr : (execOp a.eval o).run P w = .ok (.defer (dclose ats o.type c)) w := by
    unfold execOp
    simp [hop, resolve, dclose, hx]
  have he : (execOp a.eval o).events P w #[] = #[] := by
    unfold execOp
    simp [hop, resolve]
  have hfin : (b.at ⟨a.tmps, dclose ats o.type c :: a.defers⟩ (.inRegion ops (i :: rest) :: k)).finish undef = b.at (Act.put ⟨a.tmps, dclose ats o.type c :: a.defers⟩ o.dst undef) (.inRegion ops rest :: k) := by rw [Frame.finish_at, ho]; rfl
  have hk' : (b.kind == CallKind.early) = false := by simpa using hk
  rw [stepG_oper ho hw, ← hfin]
  simp [stepG.apply, hr, he, G, Frame.at, hk', GStep.after, seen_none]
theorem stepG_unwind_close {P : Program} {main : Bool} {b : Frame} {a : Act} {todo : List Item} {cs : List Frame} {ats : Array TypeId} {ty : TypeId} {c s r cap : Nat} {buf : Array Value} {tm : Bool} {ds : List Deferred} {w : World} (hd : a.defers = dclose ats ty c :: ds)
    (hc : w.heap[c]? = some (.chan cap buf false s r tm)) (hq : (P.funcs[b.fn]?).any (·.norace) = false) :
    stepG P main (G { b.at a todo with mode := .returning } cs) w = .go (G { b.at ⟨a.tmps, ds⟩ todo with mode := .returning } cs) (w.setChan c cap buf true s r tm) (closeEvents c) := by
  have hr : (invoke (dclose ats ty c).target (dclose ats ty c).args).run P w = .ok (.value (.tuple #[])) (w.setChan c cap buf true s r tm) := by
    simp [dclose, invoke, go_sem, run_close_open _ _ hc, World.setChan]
  have he : (invoke (dclose ats ty c).target (dclose ats ty c).args).events P w #[] = closeEvents c := by
    simp [dclose, invoke, go_sem, events_close_open _ _ hc, closeEvents]
  have hs : seen P b.fn (closeEvents c) = closeEvents c := seen_eq hq (by simp [closeEvents])
  have hr' : (invoke (.builtin .close ats ty #[false]) #[.chan (some c)]).run P w = .ok (.value (.tuple #[])) (w.setChan c cap buf true s r tm) := hr
  have he' : (invoke (.builtin .close ats ty #[false]) #[.chan (some c)]).events P w #[] = closeEvents c := he
  simp only [G, stepG, unwind, Frame.at, hd]
  simp [callDeferred, dclose, hr', he', hs, GStep.after]
theorem stepG_leave0 {P : Program} {main : Bool} {b b₀ : Frame} {a a₀ : Act} {todo k : List Item} {cs : List Frame} {fn : Func} {ops : Array Oper} {i : Nat} {rest : List Nat} {w : World} (hn : b.kind = .normal) (hd : a.defers = []) (hf : P.funcs[b.fn]? = some fn) (hr : fn.results = #[]) :
    stepG P main (G { b.at a todo with mode := .returning } (b₀.at a₀ (.inRegion ops (i :: rest) :: k) :: cs)) w = .go (G (b₀.at (a₀.put ((ops[i]?).bind (·.dst)) (.tuple #[])) (.inRegion ops rest :: k)) cs) w #[] := by
  rw [stepG_leave hn hd hf (results_none hr _ P w) (events_results_none hr _ _), Frame.finish_at]
set_option maxRecDepth 100000 in
set_option maxHeartbeats 1000000 in
theorem hand_loop (H : Here X) (hh : X.Wg wh) (hd : X.Dead en) (hrh : wh ≠ pl) {n : Nat} (hn : n ≤ 9223372036854775807) : ∀ (m i : Nat), i + m = n → ∀ (w : World) (v0 v3 v4 v5 v6 v7 v10 v11 v12 v13 v14 v15 v16 v17 v18 v19 x1 x2 x3 x4 x5 x6 x7 x8 : Value), WgLive 69 wh w →
    Seg X false S (StopOf X (handS wh pl i m) false S) 60 O
      (G ((base 37).at ⟨#[v0, .chan (some pl), .chan (some en), v3, v4, v5, v6, v7, .int .i64 n, .int .i64 i, v10, v11, v12, v13, v14, v15, v16, v17, v18, v19], [dclose #[106] 0 pl]⟩ [.code handLoop, .inLoop handLoop, .inBlock 0]) [handCaller wh x1 x2 x3 x4 x5 x6 x7 x8, bot]) w := by
  have hdone : ∀ T w, WgLive 69 wh w → _ := fun T w h => done_stop (S := S) (O := O) H hh Try.func48 rfl T h
  obtain ⟨P, ty, Wg, Dead, lo, t0⟩ := X
  obtain ⟨rfl, rfl⟩ : P = Try.prog ∧ ty = 69 := ⟨H.P, H.ty⟩
  intro m
  induction m with
  | zero =>
    intro i hi w v0 v3 v4 v5 v6 v7 v10 v11 v12 v13 v14 v15 v16 v17 v18 v19 x1 x2 x3 x4 x5 x6 x7 x8 hl
    obtain rfl : i = n := by omega
    simp only [handLoop, Try.f37, handCaller, Try.f48]
    refine Seg.gd (n := 59) rfl (fun _ => stepG_seq) ?_
    refine Seg.gd (n := 58) rfl (fun _ => stepG_region) ?_
    refine (Seg.of_dn_stop (n := 58) ?_ (fun _ _ h => h))
    refine gd_pure (.bool false) rfl rfl (by decide) (fun _ => by go_simp) (fun _ => by simp [go_sem]) ?_
    walk_nrm
    refine gd rfl (fun _ => stepG_region_end) ?_
    refine gd rfl (fun _ => stepG_seq) ?_
    refine gd rfl (fun _ => stepG_cond (t := false) rfl) ?_
    refine gd rfl (fun _ => stepG_exit rfl) ?_
    refine gd rfl (fun _ => stepG_end) ?_
    refine Goes.stop fun w₁ h₁ => ⟨rfl, rfl, fun s r hc => ⟨_, stepG_unwind_close rfl hc (loud 37 _ Try.func37 rfl), rfl, 30, ?_⟩⟩
    have hl' : WgLive 69 wh (w₁.setChan pl 0 #[] true s r false) := wgLive_of_heap (heap_setChan_ne w₁ 0 #[] true s r false (Ne.symm hrh)) (h₁.live wh hh hl)
    refine Seg.gd (n := 29) rfl (fun _ => stepG_leave0 rfl rfl Try.func37 rfl) ?_
    refine Seg.gd (n := 28) rfl (fun _ => stepG_region_end) ?_
    refine Seg.gd (n := 27) rfl (fun _ => stepG_end) ?_
    exact (hdone _ _ hl').le (by omega)
  | succ m ih =>
    intro i hi w v0 v3 v4 v5 v6 v7 v10 v11 v12 v13 v14 v15 v16 v17 v18 v19 x1 x2 x3 x4 x5 x6 x7 x8 hl
    have hlt : (i : Int) < (n : Int) := by omega
    have hi64 : IntKind.i64.wrap ((i : Int) + 1) = ((i + 1 : Nat) : Int) := by rw [IntKind.wrap_i64]; omega
    simp only [handLoop, Try.f37, handCaller, Try.f48] at ih ⊢
    refine (Seg.of_dn_stop (n := 60) ?_ (fun _ _ h => h))
    refine gd rfl (fun _ => stepG_seq) ?_
    refine gd rfl (fun _ => stepG_region) ?_
    refine gd_pure (.bool true) rfl rfl (by decide) (fun _ => by go_simp) (fun _ => by simp [go_sem]) ?_
    walk_nrm
    refine gd rfl (fun _ => stepG_region_end) ?_
    refine gd rfl (fun _ => stepG_seq) ?_
    refine gd rfl (fun _ => stepG_cond (t := true) rfl) ?_
    refine gd rfl (fun _ => stepG_skip) ?_
    refine gd rfl (fun _ => stepG_seq) ?_
    refine gd rfl (fun _ => stepG_block) ?_
    refine gd rfl (fun _ => stepG_seq) ?_
    refine gd rfl (fun _ => stepG_region) ?_
    refine gd_pure (.int .i64 i) rfl rfl (by decide) (fun _ => by go_simp) (fun _ => by simp [go_sem]) ?_
    walk_nrm
    refine gd_pure (.int .i64 i) rfl rfl (by decide) (fun _ => by go_simp) (fun _ => by simp [go_sem]) ?_
    walk_nrm
    refine gd rfl (fun _ => stepG_region_end) ?_
    refine gd rfl (fun _ => stepG_seq) ?_
    refine gd rfl (fun _ => stepG_seq) ?_
    refine gd rfl (fun _ => stepG_seq) ?_
    refine gd rfl (fun _ => stepG_region) ?_
    refine gd_pure (.chan (some pl)) rfl rfl (by decide) (fun _ => by go_simp) (fun _ => by simp [go_sem]) ?_
    walk_nrm
    refine gd rfl (fun _ => stepG_region_end) ?_
    refine gd rfl (fun _ => stepG_region) ?_
    refine gd_pure (.int .i64 i) rfl rfl (by decide) (fun _ => by go_simp) (fun _ => by simp [go_sem]) ?_
    walk_nrm
    refine gd rfl (fun _ => stepG_region_end) ?_
    refine gd rfl (fun _ => stepG_region) ?_
    refine gd_pure (.chan (some en)) rfl rfl (by decide) (fun _ => by go_simp) (fun _ => by simp [go_sem]) ?_
    walk_nrm
    refine gd rfl (fun _ => stepG_region_end) ?_
    refine gd rfl (fun _ => stepG_seq) ?_
    refine gd rfl (fun _ => stepG_region) ?_
    simp only [List.size_toArray, List.length_cons, List.length_nil, Nat.reduceAdd, Nat.zero_add, List.range, List.range.loop]
    refine Goes.stop fun w₁ h₁ => ?_
    have hcr : commResult #[scase pl (.int .i64 i) (.int .i64 0), rcase en (.agg #[])] .select ((0 : Nat) : Int) undef false = .tuple #[.int .i64 0, .bool false, .agg #[]] := by simp [commResult, scase, rcase, goInt]
    refine ⟨rfl, #[scase pl (.int .i64 i) (.int .i64 0), rcase en (.agg #[])], 0, .select, .int .i64 0, ?_, rfl, fun m cc hm hcc => ?_, fun w₂ h₂ => ⟨100, ?_⟩⟩
    · rw [stepG_comm rfl rfl (by decide) (run_hand_select rfl _ _ rfl rfl rfl).1, listed_nil (run_hand_select rfl _ _ rfl rfl rfl).2]
      rfl
    · rcases m with _ | _ | m
      · exact absurd rfl hm
      · simp at hcc; exact ⟨en, .agg #[], hd, hcc.symm⟩
      · simp at hcc
    rw [core_G, finishComm_served, served_G, hcr]
    refine Seg.of_dn (n := 40) (m := 60) ?_ (fun g w h => h)
    walk_nrm
    refine gd_pure (.int .i64 0) rfl rfl (by decide) (fun _ => by go_simp) (fun _ => by simp [go_sem]) ?_
    walk_nrm
    refine gd_pure (.bool true) rfl rfl (by decide) (fun _ => by go_simp) (fun _ => by simp [go_sem]) ?_
    walk_nrm
    refine gd_pure (.bool false) rfl rfl (by decide) (fun _ => by go_simp) (fun _ => by simp [go_sem]) ?_
    walk_nrm
    refine gd rfl (fun _ => stepG_region_end) ?_
    refine gd rfl (fun _ => stepG_block) ?_
    refine gd rfl (fun _ => stepG_cond (t := true) rfl) ?_
    refine gd rfl (fun _ => stepG_skip) ?_
    refine gd rfl (fun _ => stepG_inBlock) ?_
    refine gd rfl (fun _ => stepG_inBlock) ?_
    refine gd rfl (fun _ => stepG_region) ?_
    refine gd_pure (.int .i64 ((i + 1 : Nat) : Int)) rfl rfl (by decide) (fun _ => by go_simp) (fun _ => by simp [go_sem]) ?_
    walk_nrm
    refine gd_pure (.int .i64 ((i + 1 : Nat) : Int)) rfl rfl (by decide) (fun _ => by go_simp) (fun _ => by simp [go_sem]) ?_
    walk_nrm
    refine gd rfl (fun _ => stepG_region_end) ?_
    refine gd rfl (fun _ => stepG_inLoop) ?_
    refine Goes.stop fun w₃ h₃ => ?_
    exact ih (i + 1) (by omega) w₃ _ _ _ _ _ _ _ _ _ _ _ _ _ _ _ _ _ _ _ _ _ _ _ _ ((((h₁.trans h₂).trans h₃)).live wh hh hl)
set_option maxRecDepth 100000 in
set_option maxHeartbeats 1000000 in
theorem hand_walk (H : Here X) (hh : X.Wg wh) (hd : X.Dead en) (hrh : wh ≠ pl) (hbi : S bi) (hbp : S bp) (hbe : S be) {n cap : Nat} {a0 : Option Addr} (hn : n ≤ 9223372036854775807) (w : World) (h1 : w.cell? ⟨bi, 0, none⟩ = some (.slice a0 n cap)) (h2 : w.cell? ⟨bp, 0, none⟩ = some (.chan (some pl)))
    (h3 : w.cell? ⟨be, 0, none⟩ = some (.chan (some en))) (hl : WgLive 69 wh w) :
    ∃ f, Seg X false S (StopOf X (handS wh pl 0 n) false S) f O (born Try.prog { target := .fn (.func 48) #[.pointer (some ⟨wh, 0, none⟩), .pointer (some ⟨bi, 0, none⟩), .pointer (some ⟨bp, 0, none⟩), .pointer (some ⟨be, 0, none⟩)], args := #[] }) w := by
  have hloop : ∀ w, WgLive 69 wh w → _ := fun w h v0 v3 v4 v5 v6 v7 v10 v11 v12 v13 v14 v15 v16 v17 v18 v19 x1 x2 x3 x4 x5 x6 x7 x8 => hand_loop (S := S) (O := O) H hh hd hrh hn n 0 (Nat.zero_add n) w v0 v3 v4 v5 v6 v7 v10 v11 v12 v13 v14 v15 v16 v17 v18 v19 x1 x2 x3 x4 x5 x6 x7 x8 h
  obtain ⟨P, ty, Wg, Dead, lo, t0⟩ := X
  obtain ⟨rfl, rfl⟩ : P = Try.prog ∧ ty = 69 := ⟨H.P, H.ty⟩
  simp only [handLoop, Try.f37, handCaller, Try.f48] at hloop
  refine ⟨40 + 60, Seg.of_dn (n := 40) (m := 60) ?_ (fun g w h => h)⟩
  refine gd rfl (fun _ => born_step Try.func48 (by kernel_rfl) rfl _ _) ?_
  walk_nrmf Try.f48
  refine gd rfl (fun _ => stepG_seq) ?_
  refine gd rfl (fun _ => stepG_region) ?_
  refine gd rfl (fun _ => stepG_defer rfl rfl (by decide) rfl) ?_
  refine gd rfl (fun _ => stepG_region_end) ?_
  refine gd rfl (fun _ => stepG_region) ?_
  walk_nrm
  refine gd_load (ad := ⟨bi, 0, none⟩) (v := .slice a0 n cap) rfl rfl (by decide) rfl rfl (.inr hbi) h1 (fun w₁ h₁ => ⟨by go_simp, by simp [go_sem, h₁]⟩) (loud 48 _ Try.func48 rfl) ?_
  walk_nrm
  refine gd_pure (.int .i64 n) rfl rfl (by decide) (fun _ => by go_simp) (fun _ => by simp [go_sem]) ?_
  walk_nrm
  refine gd_load (ad := ⟨bp, 0, none⟩) (v := .chan (some pl)) rfl rfl (by decide) rfl rfl (.inr hbp) h2 (fun w₁ h₁ => ⟨by go_simp, by simp [go_sem, h₁]⟩) (loud 48 _ Try.func48 rfl) ?_
  walk_nrm
  refine gd_load (ad := ⟨be, 0, none⟩) (v := .chan (some en)) rfl rfl (by decide) rfl rfl (.inr hbe) h3 (fun w₁ h₁ => ⟨by go_simp, by simp [go_sem, h₁]⟩) (loud 48 _ Try.func48 rfl) ?_
  walk_nrm
  refine gd_call (f := 37) rfl rfl (by decide) rfl Try.func37 (by kernel_rfl) rfl ?_
  walk_nrmf Try.f37
  refine gd rfl (fun _ => stepG_seq) ?_
  refine gd rfl (fun _ => stepG_region) ?_
  refine gd_pure (.chan (some pl)) rfl rfl (by decide) (fun _ => by go_simp) (fun _ => by simp [go_sem]) ?_
  walk_nrm
  refine gd rfl (fun w => stepG_defer_close (c := pl) rfl rfl (by decide) rfl rfl w) ?_
  walk_nrm
  refine gd rfl (fun _ => stepG_region_end) ?_
  refine gd rfl (fun _ => stepG_seq) ?_
  refine gd rfl (fun _ => stepG_region) ?_
  refine gd_pure (.int .i64 n) rfl rfl (by decide) (fun _ => by go_simp) (fun _ => by simp [go_sem]) ?_
  walk_nrm
  refine gd_pure (.int .i64 0) rfl rfl (by decide) (fun _ => by go_simp) (fun _ => by simp [go_sem]) ?_
  walk_nrm
  refine gd rfl (fun _ => stepG_region_end) ?_
  refine gd rfl (fun _ => stepG_block) ?_
  refine gd rfl (fun _ => stepG_loop) ?_
  refine Goes.stop fun w₁ h₁ => ?_
  exact hloop w₁ (h₁.live wh hh hl) _ _ _ _ _ _ _ _ _ _ _ _ _ _ _ _ _ _ _ _ _ _ _ _
end
end Go.Proofs.Ytmkjoojoaldljaa.Net
namespace Go.Proofs.Ytmkjoojoaldljaa.Net
open Go.Conc Go.RowKit Go.Conc.Lib Go.ConcR.Gen
noncomputable def ops4 : Array Oper := match Try.f49.body with | some (.seq _ (.seq _ (.block _ (.loop (.seq _ (.seq _ (.block _ (.seq _ (.seq (.region _ o _) _))))))))) => o | _ => #[]
theorem addBlock (a : Addr) (n : Nat) : (a.add n).block = a.block := by unfold Addr.add; split <;> rfl
theorem lin_step {ops : Array Oper} {fuel t : Nat} {listed : Array Bool} {rs : List Nat} (hr : Region.ready .any ops listed = rs) (hne : rs ≠ []) :
    ∃ i ∈ rs, ∃ t', Region.linearise.go .any ops (fuel + 1) t listed [] = i :: Region.linearise.go .any ops fuel t' (listed.setIfInBounds i true) [] := by
  subst hr
  simp only [Region.linearise.go]
  have hlt : t % (Region.ready .any ops listed).length < (Region.ready .any ops listed).length := Nat.mod_lt _ (List.length_pos_iff.2 hne)
  refine ⟨(Region.ready .any ops listed)[t % (Region.ready .any ops listed).length], List.getElem_mem hlt, t / (Region.ready .any ops listed).length, ?_⟩
  change (match (Region.ready .any ops listed)[t % (Region.ready .any ops listed).length]? with
      | some i => Region.linearise.go .any ops fuel (t / (Region.ready .any ops listed).length) (listed.setIfInBounds i true) [i]
      | none => [].reverse) = _
  rw [List.getElem?_eq_getElem hlt]
  simp only []
  rw [linearise_go_acc, List.reverse_singleton, List.singleton_append]
structure WK (xa : Addr) (xv : Value) (bf bi : Nat) (fv : Value) (ad : Addr) (n cap : Nat) (zs : Nat → Int) (w : World) : Prop where
  f : w.cell? ⟨bf, 0, none⟩ = some fv
  it : 0 < n → w.cell? ⟨bi, 0, none⟩ = some (.slice (some ad) n cap)
  el : ∀ i, i < n → w.cell? (ad.add i) = some (.int .i64 (zs i))
  x : w.cell? xa = some xv
section
variable {X : Ctx} {S O : Nat → Prop} {bf bi : Nat} {fv xv : Value} {ad xa : Addr} {n cap i : Nat} {zs : Nat → Int} {main : Bool} {Stop : Goroutine → World → Prop} {k : List Item} {cs : List Frame} {ds : List Deferred} {m : Nat}
theorem WK.rely {w w₁ : World} (h : WK xa xv bf bi fv ad n cap zs w) (hf : OS O S bf) (hi : OS O S bi) (ha : OS O S ad.block ∧ OS O S xa.block) (r : Agree X (OS O S) w w₁) : WK xa xv bf bi fv ad n cap zs w₁ :=
  ⟨(r.cell hf).trans h.f, fun h0 => (r.cell hi).trans (h.it h0), fun j hj => (r.cell (by rw [addBlock]; exact ha.1)).trans (h.el j hj), (r.cell ha.2).trans h.x⟩
set_option maxRecDepth 100000 in
theorem d4_011111 (hf : OS O S bf) (hi : OS O S bi) (ha : OS O S ad.block ∧ OS O S xa.block) (hin : i < n) (hn : n ≤ 9223372036854775807) {v0 v1 v4 v6 v7 v8 v9 v10 v11 v12 v19 v20 v21 v22 v23 v24 v25 v26 : Value} {w : World} (hK : WK xa xv bf bi fv ad n cap zs w) (hcall : ∀ (t : Nat), Goes Try.prog main (Agree X (OS O S)) (DN X O S) Stop m (G ((baseD 49).at ⟨#[v0, v1, .pointer (some ⟨bf, 0, none⟩), .pointer (some ⟨bi, 0, none⟩), v4, .int .i64 i, v6, v7, v8, v9, v10, v11, v12, fv, .int .i64 i, .slice (some ad) n cap, .int .i64 i, .pointer (some (ad.add i)), .int .i64 (zs i), v19, v20, v21, v22, v23, v24, v25, v26], ds⟩ (.inRegion ops4 (Region.linearise.go .any ops4 6 t #[true, true, true, true, true, true, false, false, false, false, false, false] []) :: k)) cs) w) (t : Nat) (v13 : Value) : Goes Try.prog main (Agree X (OS O S)) (DN X O S) Stop (m + 1) (G ((baseD 49).at ⟨#[v0, v1, .pointer (some ⟨bf, 0, none⟩), .pointer (some ⟨bi, 0, none⟩), v4, .int .i64 i, v6, v7, v8, v9, v10, v11, v12, v13, .int .i64 i, .slice (some ad) n cap, .int .i64 i, .pointer (some (ad.add i)), .int .i64 (zs i), v19, v20, v21, v22, v23, v24, v25, v26], ds⟩ (.inRegion ops4 (Region.linearise.go .any ops4 7 t #[false, true, true, true, true, true, false, false, false, false, false, false] []) :: k)) cs) w := by
  obtain ⟨j, hj, t', e⟩ := lin_step (ops := ops4) (fuel := 6) (t := t) (listed := #[false, true, true, true, true, true, false, false, false, false, false, false]) (rs := [0]) (by kernel_rfl) (by simp)
  rw [e]
  clear e
  simp only [ops4, Try.f49]
  simp only [List.mem_cons, List.not_mem_nil, or_false] at hj
  have hi0 : (0 : Int) ≤ (i : Int) := by omega
  have hlt : (i : Int) < (n : Int) := by omega
  subst hj
  refine gd_load (ad := ⟨bf, 0, none⟩) (v := fv) rfl rfl (by decide) rfl rfl hf hK.f (fun w₁ h₁ => ⟨by go_simp, by simp [go_sem, h₁]⟩) (loud 49 _ Try.func49 rfl) ?_
  exact hcall t' 
set_option maxRecDepth 100000 in
theorem d4_101111 (hf : OS O S bf) (hi : OS O S bi) (ha : OS O S ad.block ∧ OS O S xa.block) (hin : i < n) (hn : n ≤ 9223372036854775807) {v0 v1 v4 v6 v7 v8 v9 v10 v11 v12 v19 v20 v21 v22 v23 v24 v25 v26 : Value} {w : World} (hK : WK xa xv bf bi fv ad n cap zs w) (hcall : ∀ (t : Nat), Goes Try.prog main (Agree X (OS O S)) (DN X O S) Stop m (G ((baseD 49).at ⟨#[v0, v1, .pointer (some ⟨bf, 0, none⟩), .pointer (some ⟨bi, 0, none⟩), v4, .int .i64 i, v6, v7, v8, v9, v10, v11, v12, fv, .int .i64 i, .slice (some ad) n cap, .int .i64 i, .pointer (some (ad.add i)), .int .i64 (zs i), v19, v20, v21, v22, v23, v24, v25, v26], ds⟩ (.inRegion ops4 (Region.linearise.go .any ops4 6 t #[true, true, true, true, true, true, false, false, false, false, false, false] []) :: k)) cs) w) (t : Nat) (v14 : Value) : Goes Try.prog main (Agree X (OS O S)) (DN X O S) Stop (m + 1) (G ((baseD 49).at ⟨#[v0, v1, .pointer (some ⟨bf, 0, none⟩), .pointer (some ⟨bi, 0, none⟩), v4, .int .i64 i, v6, v7, v8, v9, v10, v11, v12, fv, v14, .slice (some ad) n cap, .int .i64 i, .pointer (some (ad.add i)), .int .i64 (zs i), v19, v20, v21, v22, v23, v24, v25, v26], ds⟩ (.inRegion ops4 (Region.linearise.go .any ops4 7 t #[true, false, true, true, true, true, false, false, false, false, false, false] []) :: k)) cs) w := by
  obtain ⟨j, hj, t', e⟩ := lin_step (ops := ops4) (fuel := 6) (t := t) (listed := #[true, false, true, true, true, true, false, false, false, false, false, false]) (rs := [1]) (by kernel_rfl) (by simp)
  rw [e]
  clear e
  simp only [ops4, Try.f49]
  simp only [List.mem_cons, List.not_mem_nil, or_false] at hj
  have hi0 : (0 : Int) ≤ (i : Int) := by omega
  have hlt : (i : Int) < (n : Int) := by omega
  subst hj
  refine gd_pure (.int .i64 i) rfl rfl (by decide) (fun _ => by go_simp) (fun _ => by simp [go_sem]) ?_
  exact hcall t' 
set_option maxRecDepth 100000 in
theorem d4_111110 (hf : OS O S bf) (hi : OS O S bi) (ha : OS O S ad.block ∧ OS O S xa.block) (hin : i < n) (hn : n ≤ 9223372036854775807) {v0 v1 v4 v6 v7 v8 v9 v10 v11 v12 v19 v20 v21 v22 v23 v24 v25 v26 : Value} {w : World} (hK : WK xa xv bf bi fv ad n cap zs w) (hcall : ∀ (t : Nat), Goes Try.prog main (Agree X (OS O S)) (DN X O S) Stop m (G ((baseD 49).at ⟨#[v0, v1, .pointer (some ⟨bf, 0, none⟩), .pointer (some ⟨bi, 0, none⟩), v4, .int .i64 i, v6, v7, v8, v9, v10, v11, v12, fv, .int .i64 i, .slice (some ad) n cap, .int .i64 i, .pointer (some (ad.add i)), .int .i64 (zs i), v19, v20, v21, v22, v23, v24, v25, v26], ds⟩ (.inRegion ops4 (Region.linearise.go .any ops4 6 t #[true, true, true, true, true, true, false, false, false, false, false, false] []) :: k)) cs) w) (t : Nat) (v18 : Value) : Goes Try.prog main (Agree X (OS O S)) (DN X O S) Stop (m + 1) (G ((baseD 49).at ⟨#[v0, v1, .pointer (some ⟨bf, 0, none⟩), .pointer (some ⟨bi, 0, none⟩), v4, .int .i64 i, v6, v7, v8, v9, v10, v11, v12, fv, .int .i64 i, .slice (some ad) n cap, .int .i64 i, .pointer (some (ad.add i)), v18, v19, v20, v21, v22, v23, v24, v25, v26], ds⟩ (.inRegion ops4 (Region.linearise.go .any ops4 7 t #[true, true, true, true, true, false, false, false, false, false, false, false] []) :: k)) cs) w := by
  obtain ⟨j, hj, t', e⟩ := lin_step (ops := ops4) (fuel := 6) (t := t) (listed := #[true, true, true, true, true, false, false, false, false, false, false, false]) (rs := [5]) (by kernel_rfl) (by simp)
  rw [e]
  clear e
  simp only [ops4, Try.f49]
  simp only [List.mem_cons, List.not_mem_nil, or_false] at hj
  have hi0 : (0 : Int) ≤ (i : Int) := by omega
  have hlt : (i : Int) < (n : Int) := by omega
  subst hj
  refine gd_load (ad := ad.add i) (v := .int .i64 (zs i)) rfl rfl (by decide) rfl rfl (by rw [addBlock]; exact ha.1) (hK.el i hin) (fun w₁ h₁ => ⟨by go_simp, by simp [go_sem, h₁]⟩) (loud 49 _ Try.func49 rfl) ?_
  exact hcall t' 
set_option maxRecDepth 100000 in
theorem d4_001111 (hf : OS O S bf) (hi : OS O S bi) (ha : OS O S ad.block ∧ OS O S xa.block) (hin : i < n) (hn : n ≤ 9223372036854775807) {v0 v1 v4 v6 v7 v8 v9 v10 v11 v12 v19 v20 v21 v22 v23 v24 v25 v26 : Value} {w : World} (hK : WK xa xv bf bi fv ad n cap zs w) (hcall : ∀ (t : Nat), Goes Try.prog main (Agree X (OS O S)) (DN X O S) Stop m (G ((baseD 49).at ⟨#[v0, v1, .pointer (some ⟨bf, 0, none⟩), .pointer (some ⟨bi, 0, none⟩), v4, .int .i64 i, v6, v7, v8, v9, v10, v11, v12, fv, .int .i64 i, .slice (some ad) n cap, .int .i64 i, .pointer (some (ad.add i)), .int .i64 (zs i), v19, v20, v21, v22, v23, v24, v25, v26], ds⟩ (.inRegion ops4 (Region.linearise.go .any ops4 6 t #[true, true, true, true, true, true, false, false, false, false, false, false] []) :: k)) cs) w) (t : Nat) (v13 v14 : Value) : Goes Try.prog main (Agree X (OS O S)) (DN X O S) Stop (m + 2) (G ((baseD 49).at ⟨#[v0, v1, .pointer (some ⟨bf, 0, none⟩), .pointer (some ⟨bi, 0, none⟩), v4, .int .i64 i, v6, v7, v8, v9, v10, v11, v12, v13, v14, .slice (some ad) n cap, .int .i64 i, .pointer (some (ad.add i)), .int .i64 (zs i), v19, v20, v21, v22, v23, v24, v25, v26], ds⟩ (.inRegion ops4 (Region.linearise.go .any ops4 8 t #[false, false, true, true, true, true, false, false, false, false, false, false] []) :: k)) cs) w := by
  obtain ⟨j, hj, t', e⟩ := lin_step (ops := ops4) (fuel := 7) (t := t) (listed := #[false, false, true, true, true, true, false, false, false, false, false, false]) (rs := [0, 1]) (by kernel_rfl) (by simp)
  rw [e]
  clear e
  simp only [ops4, Try.f49]
  simp only [List.mem_cons, List.not_mem_nil, or_false] at hj
  have hi0 : (0 : Int) ≤ (i : Int) := by omega
  have hlt : (i : Int) < (n : Int) := by omega
  rcases hj with rfl | rfl
  · refine gd_load (ad := ⟨bf, 0, none⟩) (v := fv) rfl rfl (by decide) rfl rfl hf hK.f (fun w₁ h₁ => ⟨by go_simp, by simp [go_sem, h₁]⟩) (loud 49 _ Try.func49 rfl) ?_
    exact d4_101111 hf hi ha hin hn hK hcall t' _
  · refine gd_pure (.int .i64 i) rfl rfl (by decide) (fun _ => by go_simp) (fun _ => by simp [go_sem]) ?_
    exact d4_011111 hf hi ha hin hn hK hcall t' _
set_option maxRecDepth 100000 in
theorem d4_011110 (hf : OS O S bf) (hi : OS O S bi) (ha : OS O S ad.block ∧ OS O S xa.block) (hin : i < n) (hn : n ≤ 9223372036854775807) {v0 v1 v4 v6 v7 v8 v9 v10 v11 v12 v19 v20 v21 v22 v23 v24 v25 v26 : Value} {w : World} (hK : WK xa xv bf bi fv ad n cap zs w) (hcall : ∀ (t : Nat), Goes Try.prog main (Agree X (OS O S)) (DN X O S) Stop m (G ((baseD 49).at ⟨#[v0, v1, .pointer (some ⟨bf, 0, none⟩), .pointer (some ⟨bi, 0, none⟩), v4, .int .i64 i, v6, v7, v8, v9, v10, v11, v12, fv, .int .i64 i, .slice (some ad) n cap, .int .i64 i, .pointer (some (ad.add i)), .int .i64 (zs i), v19, v20, v21, v22, v23, v24, v25, v26], ds⟩ (.inRegion ops4 (Region.linearise.go .any ops4 6 t #[true, true, true, true, true, true, false, false, false, false, false, false] []) :: k)) cs) w) (t : Nat) (v13 v18 : Value) : Goes Try.prog main (Agree X (OS O S)) (DN X O S) Stop (m + 2) (G ((baseD 49).at ⟨#[v0, v1, .pointer (some ⟨bf, 0, none⟩), .pointer (some ⟨bi, 0, none⟩), v4, .int .i64 i, v6, v7, v8, v9, v10, v11, v12, v13, .int .i64 i, .slice (some ad) n cap, .int .i64 i, .pointer (some (ad.add i)), v18, v19, v20, v21, v22, v23, v24, v25, v26], ds⟩ (.inRegion ops4 (Region.linearise.go .any ops4 8 t #[false, true, true, true, true, false, false, false, false, false, false, false] []) :: k)) cs) w := by
  obtain ⟨j, hj, t', e⟩ := lin_step (ops := ops4) (fuel := 7) (t := t) (listed := #[false, true, true, true, true, false, false, false, false, false, false, false]) (rs := [0, 5]) (by kernel_rfl) (by simp)
  rw [e]
  clear e
  simp only [ops4, Try.f49]
  simp only [List.mem_cons, List.not_mem_nil, or_false] at hj
  have hi0 : (0 : Int) ≤ (i : Int) := by omega
  have hlt : (i : Int) < (n : Int) := by omega
  rcases hj with rfl | rfl
  · refine gd_load (ad := ⟨bf, 0, none⟩) (v := fv) rfl rfl (by decide) rfl rfl hf hK.f (fun w₁ h₁ => ⟨by go_simp, by simp [go_sem, h₁]⟩) (loud 49 _ Try.func49 rfl) ?_
    exact d4_111110 hf hi ha hin hn hK hcall t' _
  · refine gd_load (ad := ad.add i) (v := .int .i64 (zs i)) rfl rfl (by decide) rfl rfl (by rw [addBlock]; exact ha.1) (hK.el i hin) (fun w₁ h₁ => ⟨by go_simp, by simp [go_sem, h₁]⟩) (loud 49 _ Try.func49 rfl) ?_
    exact d4_011111 hf hi ha hin hn hK hcall t' _
set_option maxRecDepth 100000 in
theorem d4_101110 (hf : OS O S bf) (hi : OS O S bi) (ha : OS O S ad.block ∧ OS O S xa.block) (hin : i < n) (hn : n ≤ 9223372036854775807) {v0 v1 v4 v6 v7 v8 v9 v10 v11 v12 v19 v20 v21 v22 v23 v24 v25 v26 : Value} {w : World} (hK : WK xa xv bf bi fv ad n cap zs w) (hcall : ∀ (t : Nat), Goes Try.prog main (Agree X (OS O S)) (DN X O S) Stop m (G ((baseD 49).at ⟨#[v0, v1, .pointer (some ⟨bf, 0, none⟩), .pointer (some ⟨bi, 0, none⟩), v4, .int .i64 i, v6, v7, v8, v9, v10, v11, v12, fv, .int .i64 i, .slice (some ad) n cap, .int .i64 i, .pointer (some (ad.add i)), .int .i64 (zs i), v19, v20, v21, v22, v23, v24, v25, v26], ds⟩ (.inRegion ops4 (Region.linearise.go .any ops4 6 t #[true, true, true, true, true, true, false, false, false, false, false, false] []) :: k)) cs) w) (t : Nat) (v14 v18 : Value) : Goes Try.prog main (Agree X (OS O S)) (DN X O S) Stop (m + 2) (G ((baseD 49).at ⟨#[v0, v1, .pointer (some ⟨bf, 0, none⟩), .pointer (some ⟨bi, 0, none⟩), v4, .int .i64 i, v6, v7, v8, v9, v10, v11, v12, fv, v14, .slice (some ad) n cap, .int .i64 i, .pointer (some (ad.add i)), v18, v19, v20, v21, v22, v23, v24, v25, v26], ds⟩ (.inRegion ops4 (Region.linearise.go .any ops4 8 t #[true, false, true, true, true, false, false, false, false, false, false, false] []) :: k)) cs) w := by
  obtain ⟨j, hj, t', e⟩ := lin_step (ops := ops4) (fuel := 7) (t := t) (listed := #[true, false, true, true, true, false, false, false, false, false, false, false]) (rs := [1, 5]) (by kernel_rfl) (by simp)
  rw [e]
  clear e
  simp only [ops4, Try.f49]
  simp only [List.mem_cons, List.not_mem_nil, or_false] at hj
  have hi0 : (0 : Int) ≤ (i : Int) := by omega
  have hlt : (i : Int) < (n : Int) := by omega
  rcases hj with rfl | rfl
  · refine gd_pure (.int .i64 i) rfl rfl (by decide) (fun _ => by go_simp) (fun _ => by simp [go_sem]) ?_
    exact d4_111110 hf hi ha hin hn hK hcall t' _
  · refine gd_load (ad := ad.add i) (v := .int .i64 (zs i)) rfl rfl (by decide) rfl rfl (by rw [addBlock]; exact ha.1) (hK.el i hin) (fun w₁ h₁ => ⟨by go_simp, by simp [go_sem, h₁]⟩) (loud 49 _ Try.func49 rfl) ?_
    exact d4_101111 hf hi ha hin hn hK hcall t' _
set_option maxRecDepth 100000 in
theorem d4_111100 (hf : OS O S bf) (hi : OS O S bi) (ha : OS O S ad.block ∧ OS O S xa.block) (hin : i < n) (hn : n ≤ 9223372036854775807) {v0 v1 v4 v6 v7 v8 v9 v10 v11 v12 v19 v20 v21 v22 v23 v24 v25 v26 : Value} {w : World} (hK : WK xa xv bf bi fv ad n cap zs w) (hcall : ∀ (t : Nat), Goes Try.prog main (Agree X (OS O S)) (DN X O S) Stop m (G ((baseD 49).at ⟨#[v0, v1, .pointer (some ⟨bf, 0, none⟩), .pointer (some ⟨bi, 0, none⟩), v4, .int .i64 i, v6, v7, v8, v9, v10, v11, v12, fv, .int .i64 i, .slice (some ad) n cap, .int .i64 i, .pointer (some (ad.add i)), .int .i64 (zs i), v19, v20, v21, v22, v23, v24, v25, v26], ds⟩ (.inRegion ops4 (Region.linearise.go .any ops4 6 t #[true, true, true, true, true, true, false, false, false, false, false, false] []) :: k)) cs) w) (t : Nat) (v17 v18 : Value) : Goes Try.prog main (Agree X (OS O S)) (DN X O S) Stop (m + 2) (G ((baseD 49).at ⟨#[v0, v1, .pointer (some ⟨bf, 0, none⟩), .pointer (some ⟨bi, 0, none⟩), v4, .int .i64 i, v6, v7, v8, v9, v10, v11, v12, fv, .int .i64 i, .slice (some ad) n cap, .int .i64 i, v17, v18, v19, v20, v21, v22, v23, v24, v25, v26], ds⟩ (.inRegion ops4 (Region.linearise.go .any ops4 8 t #[true, true, true, true, false, false, false, false, false, false, false, false] []) :: k)) cs) w := by
  obtain ⟨j, hj, t', e⟩ := lin_step (ops := ops4) (fuel := 7) (t := t) (listed := #[true, true, true, true, false, false, false, false, false, false, false, false]) (rs := [4]) (by kernel_rfl) (by simp)
  rw [e]
  clear e
  simp only [ops4, Try.f49]
  simp only [List.mem_cons, List.not_mem_nil, or_false] at hj
  have hi0 : (0 : Int) ≤ (i : Int) := by omega
  have hlt : (i : Int) < (n : Int) := by omega
  subst hj
  refine gd_pure (.pointer (some (ad.add i))) rfl rfl (by decide) (fun _ => by go_simp) (fun _ => by simp [go_sem, *]) ?_
  exact d4_111110 hf hi ha hin hn hK hcall t' _
set_option maxRecDepth 100000 in
theorem d4_001110 (hf : OS O S bf) (hi : OS O S bi) (ha : OS O S ad.block ∧ OS O S xa.block) (hin : i < n) (hn : n ≤ 9223372036854775807) {v0 v1 v4 v6 v7 v8 v9 v10 v11 v12 v19 v20 v21 v22 v23 v24 v25 v26 : Value} {w : World} (hK : WK xa xv bf bi fv ad n cap zs w) (hcall : ∀ (t : Nat), Goes Try.prog main (Agree X (OS O S)) (DN X O S) Stop m (G ((baseD 49).at ⟨#[v0, v1, .pointer (some ⟨bf, 0, none⟩), .pointer (some ⟨bi, 0, none⟩), v4, .int .i64 i, v6, v7, v8, v9, v10, v11, v12, fv, .int .i64 i, .slice (some ad) n cap, .int .i64 i, .pointer (some (ad.add i)), .int .i64 (zs i), v19, v20, v21, v22, v23, v24, v25, v26], ds⟩ (.inRegion ops4 (Region.linearise.go .any ops4 6 t #[true, true, true, true, true, true, false, false, false, false, false, false] []) :: k)) cs) w) (t : Nat) (v13 v14 v18 : Value) : Goes Try.prog main (Agree X (OS O S)) (DN X O S) Stop (m + 3) (G ((baseD 49).at ⟨#[v0, v1, .pointer (some ⟨bf, 0, none⟩), .pointer (some ⟨bi, 0, none⟩), v4, .int .i64 i, v6, v7, v8, v9, v10, v11, v12, v13, v14, .slice (some ad) n cap, .int .i64 i, .pointer (some (ad.add i)), v18, v19, v20, v21, v22, v23, v24, v25, v26], ds⟩ (.inRegion ops4 (Region.linearise.go .any ops4 9 t #[false, false, true, true, true, false, false, false, false, false, false, false] []) :: k)) cs) w := by
  obtain ⟨j, hj, t', e⟩ := lin_step (ops := ops4) (fuel := 8) (t := t) (listed := #[false, false, true, true, true, false, false, false, false, false, false, false]) (rs := [0, 1, 5]) (by kernel_rfl) (by simp)
  rw [e]
  clear e
  simp only [ops4, Try.f49]
  simp only [List.mem_cons, List.not_mem_nil, or_false] at hj
  have hi0 : (0 : Int) ≤ (i : Int) := by omega
  have hlt : (i : Int) < (n : Int) := by omega
  rcases hj with rfl | rfl | rfl
  · refine gd_load (ad := ⟨bf, 0, none⟩) (v := fv) rfl rfl (by decide) rfl rfl hf hK.f (fun w₁ h₁ => ⟨by go_simp, by simp [go_sem, h₁]⟩) (loud 49 _ Try.func49 rfl) ?_
    exact d4_101110 hf hi ha hin hn hK hcall t' _ _
  · refine gd_pure (.int .i64 i) rfl rfl (by decide) (fun _ => by go_simp) (fun _ => by simp [go_sem]) ?_
    exact d4_011110 hf hi ha hin hn hK hcall t' _ _
  · refine gd_load (ad := ad.add i) (v := .int .i64 (zs i)) rfl rfl (by decide) rfl rfl (by rw [addBlock]; exact ha.1) (hK.el i hin) (fun w₁ h₁ => ⟨by go_simp, by simp [go_sem, h₁]⟩) (loud 49 _ Try.func49 rfl) ?_
    exact d4_001111 hf hi ha hin hn hK hcall t' _ _
set_option maxRecDepth 100000 in
theorem d4_011100 (hf : OS O S bf) (hi : OS O S bi) (ha : OS O S ad.block ∧ OS O S xa.block) (hin : i < n) (hn : n ≤ 9223372036854775807) {v0 v1 v4 v6 v7 v8 v9 v10 v11 v12 v19 v20 v21 v22 v23 v24 v25 v26 : Value} {w : World} (hK : WK xa xv bf bi fv ad n cap zs w) (hcall : ∀ (t : Nat), Goes Try.prog main (Agree X (OS O S)) (DN X O S) Stop m (G ((baseD 49).at ⟨#[v0, v1, .pointer (some ⟨bf, 0, none⟩), .pointer (some ⟨bi, 0, none⟩), v4, .int .i64 i, v6, v7, v8, v9, v10, v11, v12, fv, .int .i64 i, .slice (some ad) n cap, .int .i64 i, .pointer (some (ad.add i)), .int .i64 (zs i), v19, v20, v21, v22, v23, v24, v25, v26], ds⟩ (.inRegion ops4 (Region.linearise.go .any ops4 6 t #[true, true, true, true, true, true, false, false, false, false, false, false] []) :: k)) cs) w) (t : Nat) (v13 v17 v18 : Value) : Goes Try.prog main (Agree X (OS O S)) (DN X O S) Stop (m + 3) (G ((baseD 49).at ⟨#[v0, v1, .pointer (some ⟨bf, 0, none⟩), .pointer (some ⟨bi, 0, none⟩), v4, .int .i64 i, v6, v7, v8, v9, v10, v11, v12, v13, .int .i64 i, .slice (some ad) n cap, .int .i64 i, v17, v18, v19, v20, v21, v22, v23, v24, v25, v26], ds⟩ (.inRegion ops4 (Region.linearise.go .any ops4 9 t #[false, true, true, true, false, false, false, false, false, false, false, false] []) :: k)) cs) w := by
  obtain ⟨j, hj, t', e⟩ := lin_step (ops := ops4) (fuel := 8) (t := t) (listed := #[false, true, true, true, false, false, false, false, false, false, false, false]) (rs := [0, 4]) (by kernel_rfl) (by simp)
  rw [e]
  clear e
  simp only [ops4, Try.f49]
  simp only [List.mem_cons, List.not_mem_nil, or_false] at hj
  have hi0 : (0 : Int) ≤ (i : Int) := by omega
  have hlt : (i : Int) < (n : Int) := by omega
  rcases hj with rfl | rfl
  · refine gd_load (ad := ⟨bf, 0, none⟩) (v := fv) rfl rfl (by decide) rfl rfl hf hK.f (fun w₁ h₁ => ⟨by go_simp, by simp [go_sem, h₁]⟩) (loud 49 _ Try.func49 rfl) ?_
    exact d4_111100 hf hi ha hin hn hK hcall t' _ _
  · refine gd_pure (.pointer (some (ad.add i))) rfl rfl (by decide) (fun _ => by go_simp) (fun _ => by simp [go_sem, *]) ?_
    exact d4_011110 hf hi ha hin hn hK hcall t' _ _
set_option maxRecDepth 100000 in
theorem d4_101100 (hf : OS O S bf) (hi : OS O S bi) (ha : OS O S ad.block ∧ OS O S xa.block) (hin : i < n) (hn : n ≤ 9223372036854775807) {v0 v1 v4 v6 v7 v8 v9 v10 v11 v12 v19 v20 v21 v22 v23 v24 v25 v26 : Value} {w : World} (hK : WK xa xv bf bi fv ad n cap zs w) (hcall : ∀ (t : Nat), Goes Try.prog main (Agree X (OS O S)) (DN X O S) Stop m (G ((baseD 49).at ⟨#[v0, v1, .pointer (some ⟨bf, 0, none⟩), .pointer (some ⟨bi, 0, none⟩), v4, .int .i64 i, v6, v7, v8, v9, v10, v11, v12, fv, .int .i64 i, .slice (some ad) n cap, .int .i64 i, .pointer (some (ad.add i)), .int .i64 (zs i), v19, v20, v21, v22, v23, v24, v25, v26], ds⟩ (.inRegion ops4 (Region.linearise.go .any ops4 6 t #[true, true, true, true, true, true, false, false, false, false, false, false] []) :: k)) cs) w) (t : Nat) (v14 v17 v18 : Value) : Goes Try.prog main (Agree X (OS O S)) (DN X O S) Stop (m + 3) (G ((baseD 49).at ⟨#[v0, v1, .pointer (some ⟨bf, 0, none⟩), .pointer (some ⟨bi, 0, none⟩), v4, .int .i64 i, v6, v7, v8, v9, v10, v11, v12, fv, v14, .slice (some ad) n cap, .int .i64 i, v17, v18, v19, v20, v21, v22, v23, v24, v25, v26], ds⟩ (.inRegion ops4 (Region.linearise.go .any ops4 9 t #[true, false, true, true, false, false, false, false, false, false, false, false] []) :: k)) cs) w := by
  obtain ⟨j, hj, t', e⟩ := lin_step (ops := ops4) (fuel := 8) (t := t) (listed := #[true, false, true, true, false, false, false, false, false, false, false, false]) (rs := [1, 4]) (by kernel_rfl) (by simp)
  rw [e]
  clear e
  simp only [ops4, Try.f49]
  simp only [List.mem_cons, List.not_mem_nil, or_false] at hj
  have hi0 : (0 : Int) ≤ (i : Int) := by omega
  have hlt : (i : Int) < (n : Int) := by omega
  rcases hj with rfl | rfl
  · refine gd_pure (.int .i64 i) rfl rfl (by decide) (fun _ => by go_simp) (fun _ => by simp [go_sem]) ?_
    exact d4_111100 hf hi ha hin hn hK hcall t' _ _
  · refine gd_pure (.pointer (some (ad.add i))) rfl rfl (by decide) (fun _ => by go_simp) (fun _ => by simp [go_sem, *]) ?_
    exact d4_101110 hf hi ha hin hn hK hcall t' _ _
set_option maxRecDepth 100000 in
theorem d4_110100 (hf : OS O S bf) (hi : OS O S bi) (ha : OS O S ad.block ∧ OS O S xa.block) (hin : i < n) (hn : n ≤ 9223372036854775807) {v0 v1 v4 v6 v7 v8 v9 v10 v11 v12 v19 v20 v21 v22 v23 v24 v25 v26 : Value} {w : World} (hK : WK xa xv bf bi fv ad n cap zs w) (hcall : ∀ (t : Nat), Goes Try.prog main (Agree X (OS O S)) (DN X O S) Stop m (G ((baseD 49).at ⟨#[v0, v1, .pointer (some ⟨bf, 0, none⟩), .pointer (some ⟨bi, 0, none⟩), v4, .int .i64 i, v6, v7, v8, v9, v10, v11, v12, fv, .int .i64 i, .slice (some ad) n cap, .int .i64 i, .pointer (some (ad.add i)), .int .i64 (zs i), v19, v20, v21, v22, v23, v24, v25, v26], ds⟩ (.inRegion ops4 (Region.linearise.go .any ops4 6 t #[true, true, true, true, true, true, false, false, false, false, false, false] []) :: k)) cs) w) (t : Nat) (v15 v17 v18 : Value) : Goes Try.prog main (Agree X (OS O S)) (DN X O S) Stop (m + 3) (G ((baseD 49).at ⟨#[v0, v1, .pointer (some ⟨bf, 0, none⟩), .pointer (some ⟨bi, 0, none⟩), v4, .int .i64 i, v6, v7, v8, v9, v10, v11, v12, fv, .int .i64 i, v15, .int .i64 i, v17, v18, v19, v20, v21, v22, v23, v24, v25, v26], ds⟩ (.inRegion ops4 (Region.linearise.go .any ops4 9 t #[true, true, false, true, false, false, false, false, false, false, false, false] []) :: k)) cs) w := by
  obtain ⟨j, hj, t', e⟩ := lin_step (ops := ops4) (fuel := 8) (t := t) (listed := #[true, true, false, true, false, false, false, false, false, false, false, false]) (rs := [2]) (by kernel_rfl) (by simp)
  rw [e]
  clear e
  simp only [ops4, Try.f49]
  simp only [List.mem_cons, List.not_mem_nil, or_false] at hj
  have hi0 : (0 : Int) ≤ (i : Int) := by omega
  have hlt : (i : Int) < (n : Int) := by omega
  subst hj
  refine gd_load (ad := ⟨bi, 0, none⟩) (v := .slice (some ad) n cap) rfl rfl (by decide) rfl rfl hi (hK.it (Nat.lt_of_le_of_lt (Nat.zero_le _) hin)) (fun w₁ h₁ => ⟨by go_simp, by simp [go_sem, h₁]⟩) (loud 49 _ Try.func49 rfl) ?_
  exact d4_111100 hf hi ha hin hn hK hcall t' _ _
set_option maxRecDepth 100000 in
theorem d4_111000 (hf : OS O S bf) (hi : OS O S bi) (ha : OS O S ad.block ∧ OS O S xa.block) (hin : i < n) (hn : n ≤ 9223372036854775807) {v0 v1 v4 v6 v7 v8 v9 v10 v11 v12 v19 v20 v21 v22 v23 v24 v25 v26 : Value} {w : World} (hK : WK xa xv bf bi fv ad n cap zs w) (hcall : ∀ (t : Nat), Goes Try.prog main (Agree X (OS O S)) (DN X O S) Stop m (G ((baseD 49).at ⟨#[v0, v1, .pointer (some ⟨bf, 0, none⟩), .pointer (some ⟨bi, 0, none⟩), v4, .int .i64 i, v6, v7, v8, v9, v10, v11, v12, fv, .int .i64 i, .slice (some ad) n cap, .int .i64 i, .pointer (some (ad.add i)), .int .i64 (zs i), v19, v20, v21, v22, v23, v24, v25, v26], ds⟩ (.inRegion ops4 (Region.linearise.go .any ops4 6 t #[true, true, true, true, true, true, false, false, false, false, false, false] []) :: k)) cs) w) (t : Nat) (v16 v17 v18 : Value) : Goes Try.prog main (Agree X (OS O S)) (DN X O S) Stop (m + 3) (G ((baseD 49).at ⟨#[v0, v1, .pointer (some ⟨bf, 0, none⟩), .pointer (some ⟨bi, 0, none⟩), v4, .int .i64 i, v6, v7, v8, v9, v10, v11, v12, fv, .int .i64 i, .slice (some ad) n cap, v16, v17, v18, v19, v20, v21, v22, v23, v24, v25, v26], ds⟩ (.inRegion ops4 (Region.linearise.go .any ops4 9 t #[true, true, true, false, false, false, false, false, false, false, false, false] []) :: k)) cs) w := by
  obtain ⟨j, hj, t', e⟩ := lin_step (ops := ops4) (fuel := 8) (t := t) (listed := #[true, true, true, false, false, false, false, false, false, false, false, false]) (rs := [3]) (by kernel_rfl) (by simp)
  rw [e]
  clear e
  simp only [ops4, Try.f49]
  simp only [List.mem_cons, List.not_mem_nil, or_false] at hj
  have hi0 : (0 : Int) ≤ (i : Int) := by omega
  have hlt : (i : Int) < (n : Int) := by omega
  subst hj
  refine gd_pure (.int .i64 i) rfl rfl (by decide) (fun _ => by go_simp) (fun _ => by simp [go_sem]) ?_
  exact d4_111100 hf hi ha hin hn hK hcall t' _ _
set_option maxRecDepth 100000 in
theorem d4_001100 (hf : OS O S bf) (hi : OS O S bi) (ha : OS O S ad.block ∧ OS O S xa.block) (hin : i < n) (hn : n ≤ 9223372036854775807) {v0 v1 v4 v6 v7 v8 v9 v10 v11 v12 v19 v20 v21 v22 v23 v24 v25 v26 : Value} {w : World} (hK : WK xa xv bf bi fv ad n cap zs w) (hcall : ∀ (t : Nat), Goes Try.prog main (Agree X (OS O S)) (DN X O S) Stop m (G ((baseD 49).at ⟨#[v0, v1, .pointer (some ⟨bf, 0, none⟩), .pointer (some ⟨bi, 0, none⟩), v4, .int .i64 i, v6, v7, v8, v9, v10, v11, v12, fv, .int .i64 i, .slice (some ad) n cap, .int .i64 i, .pointer (some (ad.add i)), .int .i64 (zs i), v19, v20, v21, v22, v23, v24, v25, v26], ds⟩ (.inRegion ops4 (Region.linearise.go .any ops4 6 t #[true, true, true, true, true, true, false, false, false, false, false, false] []) :: k)) cs) w) (t : Nat) (v13 v14 v17 v18 : Value) : Goes Try.prog main (Agree X (OS O S)) (DN X O S) Stop (m + 4) (G ((baseD 49).at ⟨#[v0, v1, .pointer (some ⟨bf, 0, none⟩), .pointer (some ⟨bi, 0, none⟩), v4, .int .i64 i, v6, v7, v8, v9, v10, v11, v12, v13, v14, .slice (some ad) n cap, .int .i64 i, v17, v18, v19, v20, v21, v22, v23, v24, v25, v26], ds⟩ (.inRegion ops4 (Region.linearise.go .any ops4 10 t #[false, false, true, true, false, false, false, false, false, false, false, false] []) :: k)) cs) w := by
  obtain ⟨j, hj, t', e⟩ := lin_step (ops := ops4) (fuel := 9) (t := t) (listed := #[false, false, true, true, false, false, false, false, false, false, false, false]) (rs := [0, 1, 4]) (by kernel_rfl) (by simp)
  rw [e]
  clear e
  simp only [ops4, Try.f49]
  simp only [List.mem_cons, List.not_mem_nil, or_false] at hj
  have hi0 : (0 : Int) ≤ (i : Int) := by omega
  have hlt : (i : Int) < (n : Int) := by omega
  rcases hj with rfl | rfl | rfl
  · refine gd_load (ad := ⟨bf, 0, none⟩) (v := fv) rfl rfl (by decide) rfl rfl hf hK.f (fun w₁ h₁ => ⟨by go_simp, by simp [go_sem, h₁]⟩) (loud 49 _ Try.func49 rfl) ?_
    exact d4_101100 hf hi ha hin hn hK hcall t' _ _ _
  · refine gd_pure (.int .i64 i) rfl rfl (by decide) (fun _ => by go_simp) (fun _ => by simp [go_sem]) ?_
    exact d4_011100 hf hi ha hin hn hK hcall t' _ _ _
  · refine gd_pure (.pointer (some (ad.add i))) rfl rfl (by decide) (fun _ => by go_simp) (fun _ => by simp [go_sem, *]) ?_
    exact d4_001110 hf hi ha hin hn hK hcall t' _ _ _
set_option maxRecDepth 100000 in
theorem d4_010100 (hf : OS O S bf) (hi : OS O S bi) (ha : OS O S ad.block ∧ OS O S xa.block) (hin : i < n) (hn : n ≤ 9223372036854775807) {v0 v1 v4 v6 v7 v8 v9 v10 v11 v12 v19 v20 v21 v22 v23 v24 v25 v26 : Value} {w : World} (hK : WK xa xv bf bi fv ad n cap zs w) (hcall : ∀ (t : Nat), Goes Try.prog main (Agree X (OS O S)) (DN X O S) Stop m (G ((baseD 49).at ⟨#[v0, v1, .pointer (some ⟨bf, 0, none⟩), .pointer (some ⟨bi, 0, none⟩), v4, .int .i64 i, v6, v7, v8, v9, v10, v11, v12, fv, .int .i64 i, .slice (some ad) n cap, .int .i64 i, .pointer (some (ad.add i)), .int .i64 (zs i), v19, v20, v21, v22, v23, v24, v25, v26], ds⟩ (.inRegion ops4 (Region.linearise.go .any ops4 6 t #[true, true, true, true, true, true, false, false, false, false, false, false] []) :: k)) cs) w) (t : Nat) (v13 v15 v17 v18 : Value) : Goes Try.prog main (Agree X (OS O S)) (DN X O S) Stop (m + 4) (G ((baseD 49).at ⟨#[v0, v1, .pointer (some ⟨bf, 0, none⟩), .pointer (some ⟨bi, 0, none⟩), v4, .int .i64 i, v6, v7, v8, v9, v10, v11, v12, v13, .int .i64 i, v15, .int .i64 i, v17, v18, v19, v20, v21, v22, v23, v24, v25, v26], ds⟩ (.inRegion ops4 (Region.linearise.go .any ops4 10 t #[false, true, false, true, false, false, false, false, false, false, false, false] []) :: k)) cs) w := by
  obtain ⟨j, hj, t', e⟩ := lin_step (ops := ops4) (fuel := 9) (t := t) (listed := #[false, true, false, true, false, false, false, false, false, false, false, false]) (rs := [0, 2]) (by kernel_rfl) (by simp)
  rw [e]
  clear e
  simp only [ops4, Try.f49]
  simp only [List.mem_cons, List.not_mem_nil, or_false] at hj
  have hi0 : (0 : Int) ≤ (i : Int) := by omega
  have hlt : (i : Int) < (n : Int) := by omega
  rcases hj with rfl | rfl
  · refine gd_load (ad := ⟨bf, 0, none⟩) (v := fv) rfl rfl (by decide) rfl rfl hf hK.f (fun w₁ h₁ => ⟨by go_simp, by simp [go_sem, h₁]⟩) (loud 49 _ Try.func49 rfl) ?_
    exact d4_110100 hf hi ha hin hn hK hcall t' _ _ _
  · refine gd_load (ad := ⟨bi, 0, none⟩) (v := .slice (some ad) n cap) rfl rfl (by decide) rfl rfl hi (hK.it (Nat.lt_of_le_of_lt (Nat.zero_le _) hin)) (fun w₁ h₁ => ⟨by go_simp, by simp [go_sem, h₁]⟩) (loud 49 _ Try.func49 rfl) ?_
    exact d4_011100 hf hi ha hin hn hK hcall t' _ _ _
set_option maxRecDepth 100000 in
theorem d4_011000 (hf : OS O S bf) (hi : OS O S bi) (ha : OS O S ad.block ∧ OS O S xa.block) (hin : i < n) (hn : n ≤ 9223372036854775807) {v0 v1 v4 v6 v7 v8 v9 v10 v11 v12 v19 v20 v21 v22 v23 v24 v25 v26 : Value} {w : World} (hK : WK xa xv bf bi fv ad n cap zs w) (hcall : ∀ (t : Nat), Goes Try.prog main (Agree X (OS O S)) (DN X O S) Stop m (G ((baseD 49).at ⟨#[v0, v1, .pointer (some ⟨bf, 0, none⟩), .pointer (some ⟨bi, 0, none⟩), v4, .int .i64 i, v6, v7, v8, v9, v10, v11, v12, fv, .int .i64 i, .slice (some ad) n cap, .int .i64 i, .pointer (some (ad.add i)), .int .i64 (zs i), v19, v20, v21, v22, v23, v24, v25, v26], ds⟩ (.inRegion ops4 (Region.linearise.go .any ops4 6 t #[true, true, true, true, true, true, false, false, false, false, false, false] []) :: k)) cs) w) (t : Nat) (v13 v16 v17 v18 : Value) : Goes Try.prog main (Agree X (OS O S)) (DN X O S) Stop (m + 4) (G ((baseD 49).at ⟨#[v0, v1, .pointer (some ⟨bf, 0, none⟩), .pointer (some ⟨bi, 0, none⟩), v4, .int .i64 i, v6, v7, v8, v9, v10, v11, v12, v13, .int .i64 i, .slice (some ad) n cap, v16, v17, v18, v19, v20, v21, v22, v23, v24, v25, v26], ds⟩ (.inRegion ops4 (Region.linearise.go .any ops4 10 t #[false, true, true, false, false, false, false, false, false, false, false, false] []) :: k)) cs) w := by
  obtain ⟨j, hj, t', e⟩ := lin_step (ops := ops4) (fuel := 9) (t := t) (listed := #[false, true, true, false, false, false, false, false, false, false, false, false]) (rs := [0, 3]) (by kernel_rfl) (by simp)
  rw [e]
  clear e
  simp only [ops4, Try.f49]
  simp only [List.mem_cons, List.not_mem_nil, or_false] at hj
  have hi0 : (0 : Int) ≤ (i : Int) := by omega
  have hlt : (i : Int) < (n : Int) := by omega
  rcases hj with rfl | rfl
  · refine gd_load (ad := ⟨bf, 0, none⟩) (v := fv) rfl rfl (by decide) rfl rfl hf hK.f (fun w₁ h₁ => ⟨by go_simp, by simp [go_sem, h₁]⟩) (loud 49 _ Try.func49 rfl) ?_
    exact d4_111000 hf hi ha hin hn hK hcall t' _ _ _
  · refine gd_pure (.int .i64 i) rfl rfl (by decide) (fun _ => by go_simp) (fun _ => by simp [go_sem]) ?_
    exact d4_011100 hf hi ha hin hn hK hcall t' _ _ _
set_option maxRecDepth 100000 in
theorem d4_100100 (hf : OS O S bf) (hi : OS O S bi) (ha : OS O S ad.block ∧ OS O S xa.block) (hin : i < n) (hn : n ≤ 9223372036854775807) {v0 v1 v4 v6 v7 v8 v9 v10 v11 v12 v19 v20 v21 v22 v23 v24 v25 v26 : Value} {w : World} (hK : WK xa xv bf bi fv ad n cap zs w) (hcall : ∀ (t : Nat), Goes Try.prog main (Agree X (OS O S)) (DN X O S) Stop m (G ((baseD 49).at ⟨#[v0, v1, .pointer (some ⟨bf, 0, none⟩), .pointer (some ⟨bi, 0, none⟩), v4, .int .i64 i, v6, v7, v8, v9, v10, v11, v12, fv, .int .i64 i, .slice (some ad) n cap, .int .i64 i, .pointer (some (ad.add i)), .int .i64 (zs i), v19, v20, v21, v22, v23, v24, v25, v26], ds⟩ (.inRegion ops4 (Region.linearise.go .any ops4 6 t #[true, true, true, true, true, true, false, false, false, false, false, false] []) :: k)) cs) w) (t : Nat) (v14 v15 v17 v18 : Value) : Goes Try.prog main (Agree X (OS O S)) (DN X O S) Stop (m + 4) (G ((baseD 49).at ⟨#[v0, v1, .pointer (some ⟨bf, 0, none⟩), .pointer (some ⟨bi, 0, none⟩), v4, .int .i64 i, v6, v7, v8, v9, v10, v11, v12, fv, v14, v15, .int .i64 i, v17, v18, v19, v20, v21, v22, v23, v24, v25, v26], ds⟩ (.inRegion ops4 (Region.linearise.go .any ops4 10 t #[true, false, false, true, false, false, false, false, false, false, false, false] []) :: k)) cs) w := by
  obtain ⟨j, hj, t', e⟩ := lin_step (ops := ops4) (fuel := 9) (t := t) (listed := #[true, false, false, true, false, false, false, false, false, false, false, false]) (rs := [1, 2]) (by kernel_rfl) (by simp)
  rw [e]
  clear e
  simp only [ops4, Try.f49]
  simp only [List.mem_cons, List.not_mem_nil, or_false] at hj
  have hi0 : (0 : Int) ≤ (i : Int) := by omega
  have hlt : (i : Int) < (n : Int) := by omega
  rcases hj with rfl | rfl
  · refine gd_pure (.int .i64 i) rfl rfl (by decide) (fun _ => by go_simp) (fun _ => by simp [go_sem]) ?_
    exact d4_110100 hf hi ha hin hn hK hcall t' _ _ _
  · refine gd_load (ad := ⟨bi, 0, none⟩) (v := .slice (some ad) n cap) rfl rfl (by decide) rfl rfl hi (hK.it (Nat.lt_of_le_of_lt (Nat.zero_le _) hin)) (fun w₁ h₁ => ⟨by go_simp, by simp [go_sem, h₁]⟩) (loud 49 _ Try.func49 rfl) ?_
    exact d4_101100 hf hi ha hin hn hK hcall t' _ _ _
set_option maxRecDepth 100000 in
theorem d4_101000 (hf : OS O S bf) (hi : OS O S bi) (ha : OS O S ad.block ∧ OS O S xa.block) (hin : i < n) (hn : n ≤ 9223372036854775807) {v0 v1 v4 v6 v7 v8 v9 v10 v11 v12 v19 v20 v21 v22 v23 v24 v25 v26 : Value} {w : World} (hK : WK xa xv bf bi fv ad n cap zs w) (hcall : ∀ (t : Nat), Goes Try.prog main (Agree X (OS O S)) (DN X O S) Stop m (G ((baseD 49).at ⟨#[v0, v1, .pointer (some ⟨bf, 0, none⟩), .pointer (some ⟨bi, 0, none⟩), v4, .int .i64 i, v6, v7, v8, v9, v10, v11, v12, fv, .int .i64 i, .slice (some ad) n cap, .int .i64 i, .pointer (some (ad.add i)), .int .i64 (zs i), v19, v20, v21, v22, v23, v24, v25, v26], ds⟩ (.inRegion ops4 (Region.linearise.go .any ops4 6 t #[true, true, true, true, true, true, false, false, false, false, false, false] []) :: k)) cs) w) (t : Nat) (v14 v16 v17 v18 : Value) : Goes Try.prog main (Agree X (OS O S)) (DN X O S) Stop (m + 4) (G ((baseD 49).at ⟨#[v0, v1, .pointer (some ⟨bf, 0, none⟩), .pointer (some ⟨bi, 0, none⟩), v4, .int .i64 i, v6, v7, v8, v9, v10, v11, v12, fv, v14, .slice (some ad) n cap, v16, v17, v18, v19, v20, v21, v22, v23, v24, v25, v26], ds⟩ (.inRegion ops4 (Region.linearise.go .any ops4 10 t #[true, false, true, false, false, false, false, false, false, false, false, false] []) :: k)) cs) w := by
  obtain ⟨j, hj, t', e⟩ := lin_step (ops := ops4) (fuel := 9) (t := t) (listed := #[true, false, true, false, false, false, false, false, false, false, false, false]) (rs := [1, 3]) (by kernel_rfl) (by simp)
  rw [e]
  clear e
  simp only [ops4, Try.f49]
  simp only [List.mem_cons, List.not_mem_nil, or_false] at hj
  have hi0 : (0 : Int) ≤ (i : Int) := by omega
  have hlt : (i : Int) < (n : Int) := by omega
  rcases hj with rfl | rfl
  · refine gd_pure (.int .i64 i) rfl rfl (by decide) (fun _ => by go_simp) (fun _ => by simp [go_sem]) ?_
    exact d4_111000 hf hi ha hin hn hK hcall t' _ _ _
  · refine gd_pure (.int .i64 i) rfl rfl (by decide) (fun _ => by go_simp) (fun _ => by simp [go_sem]) ?_
    exact d4_101100 hf hi ha hin hn hK hcall t' _ _ _
set_option maxRecDepth 100000 in
theorem d4_110000 (hf : OS O S bf) (hi : OS O S bi) (ha : OS O S ad.block ∧ OS O S xa.block) (hin : i < n) (hn : n ≤ 9223372036854775807) {v0 v1 v4 v6 v7 v8 v9 v10 v11 v12 v19 v20 v21 v22 v23 v24 v25 v26 : Value} {w : World} (hK : WK xa xv bf bi fv ad n cap zs w) (hcall : ∀ (t : Nat), Goes Try.prog main (Agree X (OS O S)) (DN X O S) Stop m (G ((baseD 49).at ⟨#[v0, v1, .pointer (some ⟨bf, 0, none⟩), .pointer (some ⟨bi, 0, none⟩), v4, .int .i64 i, v6, v7, v8, v9, v10, v11, v12, fv, .int .i64 i, .slice (some ad) n cap, .int .i64 i, .pointer (some (ad.add i)), .int .i64 (zs i), v19, v20, v21, v22, v23, v24, v25, v26], ds⟩ (.inRegion ops4 (Region.linearise.go .any ops4 6 t #[true, true, true, true, true, true, false, false, false, false, false, false] []) :: k)) cs) w) (t : Nat) (v15 v16 v17 v18 : Value) : Goes Try.prog main (Agree X (OS O S)) (DN X O S) Stop (m + 4) (G ((baseD 49).at ⟨#[v0, v1, .pointer (some ⟨bf, 0, none⟩), .pointer (some ⟨bi, 0, none⟩), v4, .int .i64 i, v6, v7, v8, v9, v10, v11, v12, fv, .int .i64 i, v15, v16, v17, v18, v19, v20, v21, v22, v23, v24, v25, v26], ds⟩ (.inRegion ops4 (Region.linearise.go .any ops4 10 t #[true, true, false, false, false, false, false, false, false, false, false, false] []) :: k)) cs) w := by
  obtain ⟨j, hj, t', e⟩ := lin_step (ops := ops4) (fuel := 9) (t := t) (listed := #[true, true, false, false, false, false, false, false, false, false, false, false]) (rs := [2, 3]) (by kernel_rfl) (by simp)
  rw [e]
  clear e
  simp only [ops4, Try.f49]
  simp only [List.mem_cons, List.not_mem_nil, or_false] at hj
  have hi0 : (0 : Int) ≤ (i : Int) := by omega
  have hlt : (i : Int) < (n : Int) := by omega
  rcases hj with rfl | rfl
  · refine gd_load (ad := ⟨bi, 0, none⟩) (v := .slice (some ad) n cap) rfl rfl (by decide) rfl rfl hi (hK.it (Nat.lt_of_le_of_lt (Nat.zero_le _) hin)) (fun w₁ h₁ => ⟨by go_simp, by simp [go_sem, h₁]⟩) (loud 49 _ Try.func49 rfl) ?_
    exact d4_111000 hf hi ha hin hn hK hcall t' _ _ _
  · refine gd_pure (.int .i64 i) rfl rfl (by decide) (fun _ => by go_simp) (fun _ => by simp [go_sem]) ?_
    exact d4_110100 hf hi ha hin hn hK hcall t' _ _ _
set_option maxRecDepth 100000 in
theorem d4_000100 (hf : OS O S bf) (hi : OS O S bi) (ha : OS O S ad.block ∧ OS O S xa.block) (hin : i < n) (hn : n ≤ 9223372036854775807) {v0 v1 v4 v6 v7 v8 v9 v10 v11 v12 v19 v20 v21 v22 v23 v24 v25 v26 : Value} {w : World} (hK : WK xa xv bf bi fv ad n cap zs w) (hcall : ∀ (t : Nat), Goes Try.prog main (Agree X (OS O S)) (DN X O S) Stop m (G ((baseD 49).at ⟨#[v0, v1, .pointer (some ⟨bf, 0, none⟩), .pointer (some ⟨bi, 0, none⟩), v4, .int .i64 i, v6, v7, v8, v9, v10, v11, v12, fv, .int .i64 i, .slice (some ad) n cap, .int .i64 i, .pointer (some (ad.add i)), .int .i64 (zs i), v19, v20, v21, v22, v23, v24, v25, v26], ds⟩ (.inRegion ops4 (Region.linearise.go .any ops4 6 t #[true, true, true, true, true, true, false, false, false, false, false, false] []) :: k)) cs) w) (t : Nat) (v13 v14 v15 v17 v18 : Value) : Goes Try.prog main (Agree X (OS O S)) (DN X O S) Stop (m + 5) (G ((baseD 49).at ⟨#[v0, v1, .pointer (some ⟨bf, 0, none⟩), .pointer (some ⟨bi, 0, none⟩), v4, .int .i64 i, v6, v7, v8, v9, v10, v11, v12, v13, v14, v15, .int .i64 i, v17, v18, v19, v20, v21, v22, v23, v24, v25, v26], ds⟩ (.inRegion ops4 (Region.linearise.go .any ops4 11 t #[false, false, false, true, false, false, false, false, false, false, false, false] []) :: k)) cs) w := by
  obtain ⟨j, hj, t', e⟩ := lin_step (ops := ops4) (fuel := 10) (t := t) (listed := #[false, false, false, true, false, false, false, false, false, false, false, false]) (rs := [0, 1, 2]) (by kernel_rfl) (by simp)
  rw [e]
  clear e
  simp only [ops4, Try.f49]
  simp only [List.mem_cons, List.not_mem_nil, or_false] at hj
  have hi0 : (0 : Int) ≤ (i : Int) := by omega
  have hlt : (i : Int) < (n : Int) := by omega
  rcases hj with rfl | rfl | rfl
  · refine gd_load (ad := ⟨bf, 0, none⟩) (v := fv) rfl rfl (by decide) rfl rfl hf hK.f (fun w₁ h₁ => ⟨by go_simp, by simp [go_sem, h₁]⟩) (loud 49 _ Try.func49 rfl) ?_
    exact d4_100100 hf hi ha hin hn hK hcall t' _ _ _ _
  · refine gd_pure (.int .i64 i) rfl rfl (by decide) (fun _ => by go_simp) (fun _ => by simp [go_sem]) ?_
    exact d4_010100 hf hi ha hin hn hK hcall t' _ _ _ _
  · refine gd_load (ad := ⟨bi, 0, none⟩) (v := .slice (some ad) n cap) rfl rfl (by decide) rfl rfl hi (hK.it (Nat.lt_of_le_of_lt (Nat.zero_le _) hin)) (fun w₁ h₁ => ⟨by go_simp, by simp [go_sem, h₁]⟩) (loud 49 _ Try.func49 rfl) ?_
    exact d4_001100 hf hi ha hin hn hK hcall t' _ _ _ _
set_option maxRecDepth 100000 in
theorem d4_001000 (hf : OS O S bf) (hi : OS O S bi) (ha : OS O S ad.block ∧ OS O S xa.block) (hin : i < n) (hn : n ≤ 9223372036854775807) {v0 v1 v4 v6 v7 v8 v9 v10 v11 v12 v19 v20 v21 v22 v23 v24 v25 v26 : Value} {w : World} (hK : WK xa xv bf bi fv ad n cap zs w) (hcall : ∀ (t : Nat), Goes Try.prog main (Agree X (OS O S)) (DN X O S) Stop m (G ((baseD 49).at ⟨#[v0, v1, .pointer (some ⟨bf, 0, none⟩), .pointer (some ⟨bi, 0, none⟩), v4, .int .i64 i, v6, v7, v8, v9, v10, v11, v12, fv, .int .i64 i, .slice (some ad) n cap, .int .i64 i, .pointer (some (ad.add i)), .int .i64 (zs i), v19, v20, v21, v22, v23, v24, v25, v26], ds⟩ (.inRegion ops4 (Region.linearise.go .any ops4 6 t #[true, true, true, true, true, true, false, false, false, false, false, false] []) :: k)) cs) w) (t : Nat) (v13 v14 v16 v17 v18 : Value) : Goes Try.prog main (Agree X (OS O S)) (DN X O S) Stop (m + 5) (G ((baseD 49).at ⟨#[v0, v1, .pointer (some ⟨bf, 0, none⟩), .pointer (some ⟨bi, 0, none⟩), v4, .int .i64 i, v6, v7, v8, v9, v10, v11, v12, v13, v14, .slice (some ad) n cap, v16, v17, v18, v19, v20, v21, v22, v23, v24, v25, v26], ds⟩ (.inRegion ops4 (Region.linearise.go .any ops4 11 t #[false, false, true, false, false, false, false, false, false, false, false, false] []) :: k)) cs) w := by
  obtain ⟨j, hj, t', e⟩ := lin_step (ops := ops4) (fuel := 10) (t := t) (listed := #[false, false, true, false, false, false, false, false, false, false, false, false]) (rs := [0, 1, 3]) (by kernel_rfl) (by simp)
  rw [e]
  clear e
  simp only [ops4, Try.f49]
  simp only [List.mem_cons, List.not_mem_nil, or_false] at hj
  have hi0 : (0 : Int) ≤ (i : Int) := by omega
  have hlt : (i : Int) < (n : Int) := by omega
  rcases hj with rfl | rfl | rfl
  · refine gd_load (ad := ⟨bf, 0, none⟩) (v := fv) rfl rfl (by decide) rfl rfl hf hK.f (fun w₁ h₁ => ⟨by go_simp, by simp [go_sem, h₁]⟩) (loud 49 _ Try.func49 rfl) ?_
    exact d4_101000 hf hi ha hin hn hK hcall t' _ _ _ _
  · refine gd_pure (.int .i64 i) rfl rfl (by decide) (fun _ => by go_simp) (fun _ => by simp [go_sem]) ?_
    exact d4_011000 hf hi ha hin hn hK hcall t' _ _ _ _
  · refine gd_pure (.int .i64 i) rfl rfl (by decide) (fun _ => by go_simp) (fun _ => by simp [go_sem]) ?_
    exact d4_001100 hf hi ha hin hn hK hcall t' _ _ _ _
set_option maxRecDepth 100000 in
theorem d4_010000 (hf : OS O S bf) (hi : OS O S bi) (ha : OS O S ad.block ∧ OS O S xa.block) (hin : i < n) (hn : n ≤ 9223372036854775807) {v0 v1 v4 v6 v7 v8 v9 v10 v11 v12 v19 v20 v21 v22 v23 v24 v25 v26 : Value} {w : World} (hK : WK xa xv bf bi fv ad n cap zs w) (hcall : ∀ (t : Nat), Goes Try.prog main (Agree X (OS O S)) (DN X O S) Stop m (G ((baseD 49).at ⟨#[v0, v1, .pointer (some ⟨bf, 0, none⟩), .pointer (some ⟨bi, 0, none⟩), v4, .int .i64 i, v6, v7, v8, v9, v10, v11, v12, fv, .int .i64 i, .slice (some ad) n cap, .int .i64 i, .pointer (some (ad.add i)), .int .i64 (zs i), v19, v20, v21, v22, v23, v24, v25, v26], ds⟩ (.inRegion ops4 (Region.linearise.go .any ops4 6 t #[true, true, true, true, true, true, false, false, false, false, false, false] []) :: k)) cs) w) (t : Nat) (v13 v15 v16 v17 v18 : Value) : Goes Try.prog main (Agree X (OS O S)) (DN X O S) Stop (m + 5) (G ((baseD 49).at ⟨#[v0, v1, .pointer (some ⟨bf, 0, none⟩), .pointer (some ⟨bi, 0, none⟩), v4, .int .i64 i, v6, v7, v8, v9, v10, v11, v12, v13, .int .i64 i, v15, v16, v17, v18, v19, v20, v21, v22, v23, v24, v25, v26], ds⟩ (.inRegion ops4 (Region.linearise.go .any ops4 11 t #[false, true, false, false, false, false, false, false, false, false, false, false] []) :: k)) cs) w := by
  obtain ⟨j, hj, t', e⟩ := lin_step (ops := ops4) (fuel := 10) (t := t) (listed := #[false, true, false, false, false, false, false, false, false, false, false, false]) (rs := [0, 2, 3]) (by kernel_rfl) (by simp)
  rw [e]
  clear e
  simp only [ops4, Try.f49]
  simp only [List.mem_cons, List.not_mem_nil, or_false] at hj
  have hi0 : (0 : Int) ≤ (i : Int) := by omega
  have hlt : (i : Int) < (n : Int) := by omega
  rcases hj with rfl | rfl | rfl
  · refine gd_load (ad := ⟨bf, 0, none⟩) (v := fv) rfl rfl (by decide) rfl rfl hf hK.f (fun w₁ h₁ => ⟨by go_simp, by simp [go_sem, h₁]⟩) (loud 49 _ Try.func49 rfl) ?_
    exact d4_110000 hf hi ha hin hn hK hcall t' _ _ _ _
  · refine gd_load (ad := ⟨bi, 0, none⟩) (v := .slice (some ad) n cap) rfl rfl (by decide) rfl rfl hi (hK.it (Nat.lt_of_le_of_lt (Nat.zero_le _) hin)) (fun w₁ h₁ => ⟨by go_simp, by simp [go_sem, h₁]⟩) (loud 49 _ Try.func49 rfl) ?_
    exact d4_011000 hf hi ha hin hn hK hcall t' _ _ _ _
  · refine gd_pure (.int .i64 i) rfl rfl (by decide) (fun _ => by go_simp) (fun _ => by simp [go_sem]) ?_
    exact d4_010100 hf hi ha hin hn hK hcall t' _ _ _ _
set_option maxRecDepth 100000 in
theorem d4_100000 (hf : OS O S bf) (hi : OS O S bi) (ha : OS O S ad.block ∧ OS O S xa.block) (hin : i < n) (hn : n ≤ 9223372036854775807) {v0 v1 v4 v6 v7 v8 v9 v10 v11 v12 v19 v20 v21 v22 v23 v24 v25 v26 : Value} {w : World} (hK : WK xa xv bf bi fv ad n cap zs w) (hcall : ∀ (t : Nat), Goes Try.prog main (Agree X (OS O S)) (DN X O S) Stop m (G ((baseD 49).at ⟨#[v0, v1, .pointer (some ⟨bf, 0, none⟩), .pointer (some ⟨bi, 0, none⟩), v4, .int .i64 i, v6, v7, v8, v9, v10, v11, v12, fv, .int .i64 i, .slice (some ad) n cap, .int .i64 i, .pointer (some (ad.add i)), .int .i64 (zs i), v19, v20, v21, v22, v23, v24, v25, v26], ds⟩ (.inRegion ops4 (Region.linearise.go .any ops4 6 t #[true, true, true, true, true, true, false, false, false, false, false, false] []) :: k)) cs) w) (t : Nat) (v14 v15 v16 v17 v18 : Value) : Goes Try.prog main (Agree X (OS O S)) (DN X O S) Stop (m + 5) (G ((baseD 49).at ⟨#[v0, v1, .pointer (some ⟨bf, 0, none⟩), .pointer (some ⟨bi, 0, none⟩), v4, .int .i64 i, v6, v7, v8, v9, v10, v11, v12, fv, v14, v15, v16, v17, v18, v19, v20, v21, v22, v23, v24, v25, v26], ds⟩ (.inRegion ops4 (Region.linearise.go .any ops4 11 t #[true, false, false, false, false, false, false, false, false, false, false, false] []) :: k)) cs) w := by
  obtain ⟨j, hj, t', e⟩ := lin_step (ops := ops4) (fuel := 10) (t := t) (listed := #[true, false, false, false, false, false, false, false, false, false, false, false]) (rs := [1, 2, 3]) (by kernel_rfl) (by simp)
  rw [e]
  clear e
  simp only [ops4, Try.f49]
  simp only [List.mem_cons, List.not_mem_nil, or_false] at hj
  have hi0 : (0 : Int) ≤ (i : Int) := by omega
  have hlt : (i : Int) < (n : Int) := by omega
  rcases hj with rfl | rfl | rfl
  · refine gd_pure (.int .i64 i) rfl rfl (by decide) (fun _ => by go_simp) (fun _ => by simp [go_sem]) ?_
    exact d4_110000 hf hi ha hin hn hK hcall t' _ _ _ _
  · refine gd_load (ad := ⟨bi, 0, none⟩) (v := .slice (some ad) n cap) rfl rfl (by decide) rfl rfl hi (hK.it (Nat.lt_of_le_of_lt (Nat.zero_le _) hin)) (fun w₁ h₁ => ⟨by go_simp, by simp [go_sem, h₁]⟩) (loud 49 _ Try.func49 rfl) ?_
    exact d4_101000 hf hi ha hin hn hK hcall t' _ _ _ _
  · refine gd_pure (.int .i64 i) rfl rfl (by decide) (fun _ => by go_simp) (fun _ => by simp [go_sem]) ?_
    exact d4_100100 hf hi ha hin hn hK hcall t' _ _ _ _
set_option maxRecDepth 100000 in
theorem d4_000000 (hf : OS O S bf) (hi : OS O S bi) (ha : OS O S ad.block ∧ OS O S xa.block) (hin : i < n) (hn : n ≤ 9223372036854775807) {v0 v1 v4 v6 v7 v8 v9 v10 v11 v12 v19 v20 v21 v22 v23 v24 v25 v26 : Value} {w : World} (hK : WK xa xv bf bi fv ad n cap zs w) (hcall : ∀ (t : Nat), Goes Try.prog main (Agree X (OS O S)) (DN X O S) Stop m (G ((baseD 49).at ⟨#[v0, v1, .pointer (some ⟨bf, 0, none⟩), .pointer (some ⟨bi, 0, none⟩), v4, .int .i64 i, v6, v7, v8, v9, v10, v11, v12, fv, .int .i64 i, .slice (some ad) n cap, .int .i64 i, .pointer (some (ad.add i)), .int .i64 (zs i), v19, v20, v21, v22, v23, v24, v25, v26], ds⟩ (.inRegion ops4 (Region.linearise.go .any ops4 6 t #[true, true, true, true, true, true, false, false, false, false, false, false] []) :: k)) cs) w) (t : Nat) (v13 v14 v15 v16 v17 v18 : Value) : Goes Try.prog main (Agree X (OS O S)) (DN X O S) Stop (m + 6) (G ((baseD 49).at ⟨#[v0, v1, .pointer (some ⟨bf, 0, none⟩), .pointer (some ⟨bi, 0, none⟩), v4, .int .i64 i, v6, v7, v8, v9, v10, v11, v12, v13, v14, v15, v16, v17, v18, v19, v20, v21, v22, v23, v24, v25, v26], ds⟩ (.inRegion ops4 (Region.linearise.go .any ops4 12 t #[false, false, false, false, false, false, false, false, false, false, false, false] []) :: k)) cs) w := by
  obtain ⟨j, hj, t', e⟩ := lin_step (ops := ops4) (fuel := 11) (t := t) (listed := #[false, false, false, false, false, false, false, false, false, false, false, false]) (rs := [0, 1, 2, 3]) (by kernel_rfl) (by simp)
  rw [e]
  clear e
  simp only [ops4, Try.f49]
  simp only [List.mem_cons, List.not_mem_nil, or_false] at hj
  have hi0 : (0 : Int) ≤ (i : Int) := by omega
  have hlt : (i : Int) < (n : Int) := by omega
  rcases hj with rfl | rfl | rfl | rfl
  · refine gd_load (ad := ⟨bf, 0, none⟩) (v := fv) rfl rfl (by decide) rfl rfl hf hK.f (fun w₁ h₁ => ⟨by go_simp, by simp [go_sem, h₁]⟩) (loud 49 _ Try.func49 rfl) ?_
    exact d4_100000 hf hi ha hin hn hK hcall t' _ _ _ _ _
  · refine gd_pure (.int .i64 i) rfl rfl (by decide) (fun _ => by go_simp) (fun _ => by simp [go_sem]) ?_
    exact d4_010000 hf hi ha hin hn hK hcall t' _ _ _ _ _
  · refine gd_load (ad := ⟨bi, 0, none⟩) (v := .slice (some ad) n cap) rfl rfl (by decide) rfl rfl hi (hK.it (Nat.lt_of_le_of_lt (Nat.zero_le _) hin)) (fun w₁ h₁ => ⟨by go_simp, by simp [go_sem, h₁]⟩) (loud 49 _ Try.func49 rfl) ?_
    exact d4_001000 hf hi ha hin hn hK hcall t' _ _ _ _ _
  · refine gd_pure (.int .i64 i) rfl rfl (by decide) (fun _ => by go_simp) (fun _ => by simp [go_sem]) ?_
    exact d4_000100 hf hi ha hin hn hK hcall t' _ _ _ _ _
end
section
set_option maxRecDepth 100000 in
theorem d5_11111 {X : Ctx} {S O : Nat → Prop} {main : Bool} {Stop : Goroutine → World → Prop} {k : List Item} {cs : List Frame} {ds : List Deferred} {m : Nat} {bv ev : Value} {v0 v1 v2 v3 v4 v5 v8 v9 v10 v11 v13 v14 v15 v16 v17 v18 v22 v23 v24 v25 v26 : Value} {w : World} (hdone : Goes Try.prog main (Agree X (OS O S)) (DN X O S) Stop m (G ((baseD 49).at ⟨#[v0, v1, v2, v3, v4, v5, bv, ev, v8, v9, v10, v11, .tuple #[bv, ev], v13, v14, v15, v16, v17, v18, .tuple #[bv, ev], bv, ev, v22, v23, v24, v25, v26], ds⟩ (.inRegion ops4 [] :: k)) cs) w) (t : Nat) : Goes Try.prog main (Agree X (OS O S)) (DN X O S) Stop (m + 0) (G ((baseD 49).at ⟨#[v0, v1, v2, v3, v4, v5, bv, ev, v8, v9, v10, v11, .tuple #[bv, ev], v13, v14, v15, v16, v17, v18, .tuple #[bv, ev], bv, ev, v22, v23, v24, v25, v26], ds⟩ (.inRegion ops4 (Region.linearise.go .any ops4 0 t #[true, true, true, true, true, true, true, true, true, true, true, true] []) :: k)) cs) w := by
  exact hdone
set_option maxRecDepth 100000 in
theorem d5_11110 {X : Ctx} {S O : Nat → Prop} {main : Bool} {Stop : Goroutine → World → Prop} {k : List Item} {cs : List Frame} {ds : List Deferred} {m : Nat} {bv ev : Value} {v0 v1 v2 v3 v4 v5 v8 v9 v10 v11 v13 v14 v15 v16 v17 v18 v22 v23 v24 v25 v26 : Value} {w : World} (hdone : Goes Try.prog main (Agree X (OS O S)) (DN X O S) Stop m (G ((baseD 49).at ⟨#[v0, v1, v2, v3, v4, v5, bv, ev, v8, v9, v10, v11, .tuple #[bv, ev], v13, v14, v15, v16, v17, v18, .tuple #[bv, ev], bv, ev, v22, v23, v24, v25, v26], ds⟩ (.inRegion ops4 [] :: k)) cs) w) (t : Nat) (v7 : Value) : Goes Try.prog main (Agree X (OS O S)) (DN X O S) Stop (m + 1) (G ((baseD 49).at ⟨#[v0, v1, v2, v3, v4, v5, bv, v7, v8, v9, v10, v11, .tuple #[bv, ev], v13, v14, v15, v16, v17, v18, .tuple #[bv, ev], bv, ev, v22, v23, v24, v25, v26], ds⟩ (.inRegion ops4 (Region.linearise.go .any ops4 1 t #[true, true, true, true, true, true, true, true, true, true, true, false] []) :: k)) cs) w := by
  obtain ⟨j, hj, t', e⟩ := lin_step (ops := ops4) (fuel := 0) (t := t) (listed := #[true, true, true, true, true, true, true, true, true, true, true, false]) (rs := [11]) (by kernel_rfl) (by simp)
  rw [e]
  clear e
  simp only [ops4, Try.f49]
  simp only [List.mem_cons, List.not_mem_nil, or_false] at hj
  subst hj
  refine gd_pure (ev) rfl rfl (by decide) (fun _ => by go_simp) (fun _ => by simp [go_sem]) ?_
  exact d5_11111 hdone t' 
set_option maxRecDepth 100000 in
theorem d5_11010 {X : Ctx} {S O : Nat → Prop} {main : Bool} {Stop : Goroutine → World → Prop} {k : List Item} {cs : List Frame} {ds : List Deferred} {m : Nat} {bv ev : Value} {v0 v1 v2 v3 v4 v5 v8 v9 v10 v11 v13 v14 v15 v16 v17 v18 v22 v23 v24 v25 v26 : Value} {w : World} (hdone : Goes Try.prog main (Agree X (OS O S)) (DN X O S) Stop m (G ((baseD 49).at ⟨#[v0, v1, v2, v3, v4, v5, bv, ev, v8, v9, v10, v11, .tuple #[bv, ev], v13, v14, v15, v16, v17, v18, .tuple #[bv, ev], bv, ev, v22, v23, v24, v25, v26], ds⟩ (.inRegion ops4 [] :: k)) cs) w) (t : Nat) (v7 v21 : Value) : Goes Try.prog main (Agree X (OS O S)) (DN X O S) Stop (m + 2) (G ((baseD 49).at ⟨#[v0, v1, v2, v3, v4, v5, bv, v7, v8, v9, v10, v11, .tuple #[bv, ev], v13, v14, v15, v16, v17, v18, .tuple #[bv, ev], bv, v21, v22, v23, v24, v25, v26], ds⟩ (.inRegion ops4 (Region.linearise.go .any ops4 2 t #[true, true, true, true, true, true, true, true, true, false, true, false] []) :: k)) cs) w := by
  obtain ⟨j, hj, t', e⟩ := lin_step (ops := ops4) (fuel := 1) (t := t) (listed := #[true, true, true, true, true, true, true, true, true, false, true, false]) (rs := [9]) (by kernel_rfl) (by simp)
  rw [e]
  clear e
  simp only [ops4, Try.f49]
  simp only [List.mem_cons, List.not_mem_nil, or_false] at hj
  subst hj
  refine gd_pure (ev) rfl rfl (by decide) (fun _ => by go_simp) (fun _ => by simp [go_sem]) ?_
  exact d5_11110 hdone t' _
set_option maxRecDepth 100000 in
theorem d5_11100 {X : Ctx} {S O : Nat → Prop} {main : Bool} {Stop : Goroutine → World → Prop} {k : List Item} {cs : List Frame} {ds : List Deferred} {m : Nat} {bv ev : Value} {v0 v1 v2 v3 v4 v5 v8 v9 v10 v11 v13 v14 v15 v16 v17 v18 v22 v23 v24 v25 v26 : Value} {w : World} (hdone : Goes Try.prog main (Agree X (OS O S)) (DN X O S) Stop m (G ((baseD 49).at ⟨#[v0, v1, v2, v3, v4, v5, bv, ev, v8, v9, v10, v11, .tuple #[bv, ev], v13, v14, v15, v16, v17, v18, .tuple #[bv, ev], bv, ev, v22, v23, v24, v25, v26], ds⟩ (.inRegion ops4 [] :: k)) cs) w) (t : Nat) (v6 v7 : Value) : Goes Try.prog main (Agree X (OS O S)) (DN X O S) Stop (m + 2) (G ((baseD 49).at ⟨#[v0, v1, v2, v3, v4, v5, v6, v7, v8, v9, v10, v11, .tuple #[bv, ev], v13, v14, v15, v16, v17, v18, .tuple #[bv, ev], bv, ev, v22, v23, v24, v25, v26], ds⟩ (.inRegion ops4 (Region.linearise.go .any ops4 2 t #[true, true, true, true, true, true, true, true, true, true, false, false] []) :: k)) cs) w := by
  obtain ⟨j, hj, t', e⟩ := lin_step (ops := ops4) (fuel := 1) (t := t) (listed := #[true, true, true, true, true, true, true, true, true, true, false, false]) (rs := [10]) (by kernel_rfl) (by simp)
  rw [e]
  clear e
  simp only [ops4, Try.f49]
  simp only [List.mem_cons, List.not_mem_nil, or_false] at hj
  subst hj
  refine gd_pure (bv) rfl rfl (by decide) (fun _ => by go_simp) (fun _ => by simp [go_sem]) ?_
  exact d5_11110 hdone t' _
set_option maxRecDepth 100000 in
theorem d5_11000 {X : Ctx} {S O : Nat → Prop} {main : Bool} {Stop : Goroutine → World → Prop} {k : List Item} {cs : List Frame} {ds : List Deferred} {m : Nat} {bv ev : Value} {v0 v1 v2 v3 v4 v5 v8 v9 v10 v11 v13 v14 v15 v16 v17 v18 v22 v23 v24 v25 v26 : Value} {w : World} (hdone : Goes Try.prog main (Agree X (OS O S)) (DN X O S) Stop m (G ((baseD 49).at ⟨#[v0, v1, v2, v3, v4, v5, bv, ev, v8, v9, v10, v11, .tuple #[bv, ev], v13, v14, v15, v16, v17, v18, .tuple #[bv, ev], bv, ev, v22, v23, v24, v25, v26], ds⟩ (.inRegion ops4 [] :: k)) cs) w) (t : Nat) (v6 v7 v21 : Value) : Goes Try.prog main (Agree X (OS O S)) (DN X O S) Stop (m + 3) (G ((baseD 49).at ⟨#[v0, v1, v2, v3, v4, v5, v6, v7, v8, v9, v10, v11, .tuple #[bv, ev], v13, v14, v15, v16, v17, v18, .tuple #[bv, ev], bv, v21, v22, v23, v24, v25, v26], ds⟩ (.inRegion ops4 (Region.linearise.go .any ops4 3 t #[true, true, true, true, true, true, true, true, true, false, false, false] []) :: k)) cs) w := by
  obtain ⟨j, hj, t', e⟩ := lin_step (ops := ops4) (fuel := 2) (t := t) (listed := #[true, true, true, true, true, true, true, true, true, false, false, false]) (rs := [9, 10]) (by kernel_rfl) (by simp)
  rw [e]
  clear e
  simp only [ops4, Try.f49]
  simp only [List.mem_cons, List.not_mem_nil, or_false] at hj
  rcases hj with rfl | rfl
  · refine gd_pure (ev) rfl rfl (by decide) (fun _ => by go_simp) (fun _ => by simp [go_sem]) ?_
    exact d5_11100 hdone t' _ _
  · refine gd_pure (bv) rfl rfl (by decide) (fun _ => by go_simp) (fun _ => by simp [go_sem]) ?_
    exact d5_11010 hdone t' _ _
set_option maxRecDepth 100000 in
theorem d5_10100 {X : Ctx} {S O : Nat → Prop} {main : Bool} {Stop : Goroutine → World → Prop} {k : List Item} {cs : List Frame} {ds : List Deferred} {m : Nat} {bv ev : Value} {v0 v1 v2 v3 v4 v5 v8 v9 v10 v11 v13 v14 v15 v16 v17 v18 v22 v23 v24 v25 v26 : Value} {w : World} (hdone : Goes Try.prog main (Agree X (OS O S)) (DN X O S) Stop m (G ((baseD 49).at ⟨#[v0, v1, v2, v3, v4, v5, bv, ev, v8, v9, v10, v11, .tuple #[bv, ev], v13, v14, v15, v16, v17, v18, .tuple #[bv, ev], bv, ev, v22, v23, v24, v25, v26], ds⟩ (.inRegion ops4 [] :: k)) cs) w) (t : Nat) (v6 v7 v20 : Value) : Goes Try.prog main (Agree X (OS O S)) (DN X O S) Stop (m + 3) (G ((baseD 49).at ⟨#[v0, v1, v2, v3, v4, v5, v6, v7, v8, v9, v10, v11, .tuple #[bv, ev], v13, v14, v15, v16, v17, v18, .tuple #[bv, ev], v20, ev, v22, v23, v24, v25, v26], ds⟩ (.inRegion ops4 (Region.linearise.go .any ops4 3 t #[true, true, true, true, true, true, true, true, false, true, false, false] []) :: k)) cs) w := by
  obtain ⟨j, hj, t', e⟩ := lin_step (ops := ops4) (fuel := 2) (t := t) (listed := #[true, true, true, true, true, true, true, true, false, true, false, false]) (rs := [8]) (by kernel_rfl) (by simp)
  rw [e]
  clear e
  simp only [ops4, Try.f49]
  simp only [List.mem_cons, List.not_mem_nil, or_false] at hj
  subst hj
  refine gd_pure (bv) rfl rfl (by decide) (fun _ => by go_simp) (fun _ => by simp [go_sem]) ?_
  exact d5_11100 hdone t' _ _
set_option maxRecDepth 100000 in
theorem d5_10000 {X : Ctx} {S O : Nat → Prop} {main : Bool} {Stop : Goroutine → World → Prop} {k : List Item} {cs : List Frame} {ds : List Deferred} {m : Nat} {bv ev : Value} {v0 v1 v2 v3 v4 v5 v8 v9 v10 v11 v13 v14 v15 v16 v17 v18 v22 v23 v24 v25 v26 : Value} {w : World} (hdone : Goes Try.prog main (Agree X (OS O S)) (DN X O S) Stop m (G ((baseD 49).at ⟨#[v0, v1, v2, v3, v4, v5, bv, ev, v8, v9, v10, v11, .tuple #[bv, ev], v13, v14, v15, v16, v17, v18, .tuple #[bv, ev], bv, ev, v22, v23, v24, v25, v26], ds⟩ (.inRegion ops4 [] :: k)) cs) w) (t : Nat) (v6 v7 v20 v21 : Value) : Goes Try.prog main (Agree X (OS O S)) (DN X O S) Stop (m + 4) (G ((baseD 49).at ⟨#[v0, v1, v2, v3, v4, v5, v6, v7, v8, v9, v10, v11, .tuple #[bv, ev], v13, v14, v15, v16, v17, v18, .tuple #[bv, ev], v20, v21, v22, v23, v24, v25, v26], ds⟩ (.inRegion ops4 (Region.linearise.go .any ops4 4 t #[true, true, true, true, true, true, true, true, false, false, false, false] []) :: k)) cs) w := by
  obtain ⟨j, hj, t', e⟩ := lin_step (ops := ops4) (fuel := 3) (t := t) (listed := #[true, true, true, true, true, true, true, true, false, false, false, false]) (rs := [8, 9]) (by kernel_rfl) (by simp)
  rw [e]
  clear e
  simp only [ops4, Try.f49]
  simp only [List.mem_cons, List.not_mem_nil, or_false] at hj
  rcases hj with rfl | rfl
  · refine gd_pure (bv) rfl rfl (by decide) (fun _ => by go_simp) (fun _ => by simp [go_sem]) ?_
    exact d5_11000 hdone t' _ _ _
  · refine gd_pure (ev) rfl rfl (by decide) (fun _ => by go_simp) (fun _ => by simp [go_sem]) ?_
    exact d5_10100 hdone t' _ _ _
set_option maxRecDepth 100000 in
theorem d5_00000 {X : Ctx} {S O : Nat → Prop} {main : Bool} {Stop : Goroutine → World → Prop} {k : List Item} {cs : List Frame} {ds : List Deferred} {m : Nat} {bv ev : Value} {v0 v1 v2 v3 v4 v5 v8 v9 v10 v11 v13 v14 v15 v16 v17 v18 v22 v23 v24 v25 v26 : Value} {w : World} (hdone : Goes Try.prog main (Agree X (OS O S)) (DN X O S) Stop m (G ((baseD 49).at ⟨#[v0, v1, v2, v3, v4, v5, bv, ev, v8, v9, v10, v11, .tuple #[bv, ev], v13, v14, v15, v16, v17, v18, .tuple #[bv, ev], bv, ev, v22, v23, v24, v25, v26], ds⟩ (.inRegion ops4 [] :: k)) cs) w) (t : Nat) (v6 v7 v12 v20 v21 : Value) : Goes Try.prog main (Agree X (OS O S)) (DN X O S) Stop (m + 5) (G ((baseD 49).at ⟨#[v0, v1, v2, v3, v4, v5, v6, v7, v8, v9, v10, v11, v12, v13, v14, v15, v16, v17, v18, .tuple #[bv, ev], v20, v21, v22, v23, v24, v25, v26], ds⟩ (.inRegion ops4 (Region.linearise.go .any ops4 5 t #[true, true, true, true, true, true, true, false, false, false, false, false] []) :: k)) cs) w := by
  obtain ⟨j, hj, t', e⟩ := lin_step (ops := ops4) (fuel := 4) (t := t) (listed := #[true, true, true, true, true, true, true, false, false, false, false, false]) (rs := [7]) (by kernel_rfl) (by simp)
  rw [e]
  clear e
  simp only [ops4, Try.f49]
  simp only [List.mem_cons, List.not_mem_nil, or_false] at hj
  subst hj
  refine gd_pure (.tuple #[bv, ev]) rfl rfl (by decide) (fun _ => by go_simp) (fun _ => by simp [go_sem]) ?_
  exact d5_10000 hdone t' _ _ _ _
end
end Go.Proofs.Ytmkjoojoaldljaa.Net
namespace Go.Proofs.Ytmkjoojoaldljaa.Net
open Go.Conc Go.RowKit Go.Conc.Lib Go.ConcR.Gen
section
variable {P : Program} {main : Bool} {R : World → World → Prop} {D : World → World → Array Event → Prop} {Stop : Goroutine → World → Prop} {b : Frame} {a : Act} {k : List Item} {cs : List Frame} {w : World} {ops : Array Oper} {i : Nat} {rest : List Nat} {o : Oper}
theorem run_call_value {F : FuncId} {fn : Func} {cap : Array Value} {x : Operand} {args : Array Operand} {ats : Array TypeId} (hop : o.op = .call { callee := .value x, args, argTypes := ats }) (hx : a.eval x = .func (.func F) #[] cap)
    (hf : P.funcs[F]? = some fn) (hname : (fn.name == "runtime.NumGoroutine") = false) (hb : fn.body.isNone = false) :
    (execOp a.eval o).run P w = .ok (.enter F (args.map a.eval ++ cap)) w ∧ (execOp a.eval o).events P w #[] = #[] := by
  have h1 : ¬ fn.name = "runtime.NumGoroutine" := by simpa using hname
  have h2 : ¬ fn.body = none := by cases hx : fn.body <;> simp_all
  unfold execOp
  constructor <;> simp [hop, resolve, Deferred.ofValue, invoke, callFunc, hf, h1, h2, hx]
theorem goes_call_fv (T : Terms R D) {F : FuncId} {cap : Array Value} {x : Operand} {args : Array Operand} {ats : Array TypeId} {nf m : Nat} {Post : Value → World → Prop}
    (ho : ops[i]? = some o) (hw : Region.wanted o (yielded ops a.tmps) = true) (hk : b.kind ≠ .early) (hop : o.op = .call { callee := .value x, args, argTypes := ats }) (hx : a.eval x = .func (.func F) #[] cap)
    (hcall : CallsC P main R D F (args.map a.eval ++ cap) nf w Post) (hnext : ∀ v w', Post v w' → Goes P main R D Stop m (G (b.at (a.put o.dst v) (.inRegion ops rest :: k)) cs) w') :
    Goes P main R D Stop (m + nf + 3) (G (b.at a (.inRegion ops (i :: rest) :: k)) cs) w := by
  obtain ⟨fn, c, hf, hname, hbody, hwp⟩ := hcall
  have hb' : fn.body.isNone = false := by rw [hbody]; rfl
  have hleave : ∀ (a' : Act) (w' : World) (todo : List Item), (a'.defers = [] ∧ ∃ v, ResultsC P fn a'.tmps v ∧ Post v w') →
      Goes P main R D Stop (m + 1) (G { (base F).at a' todo with mode := .returning } (b.at a (.inRegion ops (i :: rest) :: k) :: cs)) w' := by
    rintro a' w' todo ⟨hd, v, hr, hp⟩
    refine Goes.step rfl fun w₁ h₁ => ?_
    rw [stepG_leave (b := base F) rfl hd hf (hr w₁).1 (hr w₁).2, Frame.finish_at, ho]
    exact ⟨T.idle _, (hnext v w' hp).rely T.trans h₁⟩
  have hbodyG : Goes P main R D Stop (m + 2 + nf) (G ((base F).at { tmps := (args.map a.eval ++ cap) ++ Array.replicate (fn.ntmps - (args.map a.eval ++ cap).size) undef, defers := [] } [.code c]) (b.at a (.inRegion ops (i :: rest) :: k) :: cs)) w := by
    refine hwp (base F) [] _ Stop (m + 2) rfl (by simp [base]) fun e a' w' q => ?_
    cases e with
    | normal => exact Goes.step rfl fun w₁ h₁ => by rw [stepG_end]; exact ⟨T.idle _, (hleave a' w' [] q).rely T.trans h₁⟩
    | ret => exact fun todo => (hleave a' w' todo q).more
    | _ => exact q.elim
  have e : m + nf + 3 = (m + 2 + nf) + 1 := by omega
  rw [e]
  refine Goes.step rfl fun w₁ h₁ => ?_
  obtain ⟨r1, r2⟩ := run_call_value (a := a) (w := w₁) hop hx hf hname hb'
  rw [stepG_enter ho hw hk r1, enter_at _ hf hbody, listed_nil r2]
  exact ⟨T.idle _, hbodyG.rely T.trans h₁⟩
end
end Go.Proofs.Ytmkjoojoaldljaa.Net
namespace Go.Proofs.Ytmkjoojoaldljaa.Net
open Go.Conc Go.RowKit Go.Conc.Lib Go.ConcR.Gen
open Go.ConcN (WgLive)
open Go.ConcR (KK wgBlock WgAt stA smA rd wr mk DC0)
noncomputable def workLoop : Code := match Try.f49.body with | some (.seq _ (.seq _ (.block _ (.loop c)))) => c | _ => .skip
def resOf (ph : Nat → Int) : Value → Value
  | .int _ i => .agg #[.int .i64 i, .int .i64 (ph i.toNat), .int .i64 0]
  | _ => undef
def workS (ww pl rs n : Nat) (ph : Nat → Int) : Nat → Script
  | 0 => .rcv pl (fun _ => False) (fun _ => .don ww) (.don ww)
  | j + 1 => .rcv pl (fun v => ∃ i : Nat, i < n ∧ v = .int .i64 i) (fun v => .snd rs (resOf ph v) (workS ww pl rs n ph j)) (.don ww)
theorem run_recv57 {o : Oper} {t : Tmp} (ho : o.op = .recv 57 (.tmp t) true) (a : Act) (w : World) {c : Nat} (h : a.eval (.tmp t) = .chan (some c)) :
    (execOp a.eval o).run Try.prog w = .ok (.comm #[rcase c (.int .i64 0)] true (.recv true)) w ∧ (execOp a.eval o).events Try.prog w #[] = #[] := by
  have z3 := Try.zeroValue3
  have u := Try.runUnderlying57
  simp only [Act.eval, Array.getD_eq_getD_getElem?] at h
  unfold execOp
  simp only [ho]
  constructor
  · simp [go_sem, z3, u, rcase]
    exact h
  · simp [go_sem, z3, u]
theorem run_send_t {o : Oper} {t u : Tmp} (ho : o.op = .send (.tmp t) (.tmp u)) (a : Act) (w : World) {c : Nat} {v : Value} (h : a.eval (.tmp t) = .chan (some c)) (h' : a.eval (.tmp u) = v) :
    (execOp a.eval o).run Try.prog w = .ok (.comm #[scase c v (.tuple #[])] true .send) w ∧ (execOp a.eval o).events Try.prog w #[] = #[] := by
  simp only [Act.eval, Array.getD_eq_getD_getElem?] at h h'
  unfold execOp
  simp only [ho]
  refine ⟨?_, ?_⟩
  · simp [go_sem, scase]
    exact ⟨h, h'⟩
  · simp [go_sem]
theorem run_build92 {o : Oper} {x y z : Operand} (ho : o.op = .build 92 #[(0, x), (1, y), (2, z)]) (a : Act) (w : World) {i j e : Int} (h1 : a.eval x = .int .i64 i) (h2 : a.eval y = .int .i64 j) (h3 : a.eval z = .int .i64 e) :
    (execOp a.eval o).run Try.prog w = .ok (.value (.agg #[.int .i64 i, .int .i64 j, .int .i64 e])) w ∧ (execOp a.eval o).events Try.prog w #[] = #[] := by
  have u := Try.runUnderlying92
  have z92 := Try.zeroValue92
  have s3 := Try.sizeOf3
  have s24 := Try.sizeOf24
  have hb : Try.prog.built 92 [(0, .int .i64 i), (1, .int .i64 j), (2, .int .i64 e)] = some #[.int .i64 i, .int .i64 j, .int .i64 e] := by kernel_rfl
  have hr := run_build w 92 #[(0, .int .i64 i), (1, .int .i64 j), (2, .int .i64 e)] _ hb
  unfold execOp
  simp only [ho, List.map_toArray, List.map_cons, List.map_nil, h1, h2, h3]
  constructor
  · simp [hr]
  · simp [Instr.build, Instr.fill, go_sem, u, z92, s3, s24]
section
variable {X : Ctx} {S O : Nat → Prop} {ww bf bi br pl rs : Nat} {F : FuncId} {cap' : Array Value} {ad xa : Addr} {xv : Value} {n cap : Nat} {zs ph : Nat → Int} {nf : Nat}
set_option maxRecDepth 100000 in
set_option maxHeartbeats 2000000 in
theorem work_loop (H : Here X) (hh : X.Wg ww) (hf : OS O S bf) (hi : OS O S bi) (hb : OS O S br) (ha : OS O S ad.block ∧ OS O S xa.block) (hn : n ≤ 9223372036854775807)
    (hF : ∀ (i : Nat) (w : World), i < n → WK xa xv bf bi (.func (.func F) #[] cap') ad n cap zs w → CallsC Try.prog false (Agree X (OS O S)) (DN X O S) F (#[.int .i64 i, .int .i64 (zs i)] ++ cap') nf w (fun v w' => v = .tuple #[.int .i64 (ph i), .int .i64 0] ∧ Agree X (OS O S) w w')) :
    ∀ (j : Nat) (w : World) (v0 v1 v5 v6 v7 v9 v10 v11 v12 v13 v14 v15 v16 v17 v18 v19 v20 v21 v22 v23 v24 v25 v26 : Value), WgLive 69 ww w → WK xa xv bf bi (.func (.func F) #[] cap') ad n cap zs w → w.cell? ⟨br, 0, none⟩ = some (.chan (some rs)) →
    Seg X false S (StopOf X (workS ww pl rs n ph j) false S) 60 O
      (G ((baseD 49).at ⟨#[v0, v1, .pointer (some ⟨bf, 0, none⟩), .pointer (some ⟨bi, 0, none⟩), .pointer (some ⟨br, 0, none⟩), v5, v6, v7, .chan (some pl), v9, v10, v11, v12, v13, v14, v15, v16, v17, v18, v19, v20, v21, v22, v23, v24, v25, v26], [dcall 36 #[.pointer (some ⟨ww, 0, none⟩)]]⟩ [.code workLoop, .inLoop workLoop, .inBlock 0]) [bot]) w := by
  have hdone : ∀ T w, WgLive 69 ww w → _ := fun T w h => done_stop (S := S) (O := O) H hh Try.func49 rfl T h
  obtain ⟨P, ty, Wg, Dead, lo, t0⟩ := X
  obtain ⟨rfl, rfl⟩ : P = Try.prog ∧ ty = 69 := ⟨H.P, H.ty⟩
  intro j
  induction j with
  | zero =>
    intro w v0 v1 v5 v6 v7 v9 v10 v11 v12 v13 v14 v15 v16 v17 v18 v19 v20 v21 v22 v23 v24 v25 v26 hl hK hc
    simp only [workLoop, Try.f49]
    refine (Seg.of_dn_stop (n := 60) ?_ (fun _ _ h => h))
    refine gd rfl (fun _ => stepG_seq) ?_
    refine gd rfl (fun _ => stepG_region) ?_
    simp only [List.size_toArray, List.length_cons, List.length_nil, Nat.reduceAdd, Nat.zero_add, List.range, List.range.loop]
    refine Goes.stop fun w₁ h₁ => ?_
    refine ⟨rfl, .int .i64 0, ?_, fun w₂ v h₂ hv => hv.elim, fun w₂ h₂ => ⟨100, ?_⟩⟩
    · rw [stepG_comm rfl rfl (by decide) (run_recv57 rfl _ _ rfl).1, listed_nil (run_recv57 rfl _ _ rfl).2]
      rfl
    rw [core_G, served_G]
    walk_nrm
    refine Seg.of_dn (n := 20) (m := 80) ?_ (fun g w h => h)
    refine gd_pure (.bool false) rfl rfl (by decide) (fun _ => by go_simp) (fun _ => by simp [go_sem]) ?_
    walk_nrm
    refine gd rfl (fun _ => stepG_region_end) ?_
    refine gd rfl (fun _ => stepG_seq) ?_
    refine gd rfl (fun _ => stepG_cond (t := false) rfl) ?_
    refine gd rfl (fun _ => stepG_exit rfl) ?_
    refine gd rfl (fun _ => stepG_end) ?_
    exact Goes.stop fun w₃ h₃ => (hdone _ w₃ (((h₁.trans h₂).trans h₃).live ww hh hl)).le (by omega)
  | succ j ih =>
    intro w v0 v1 v5 v6 v7 v9 v10 v11 v12 v13 v14 v15 v16 v17 v18 v19 v20 v21 v22 v23 v24 v25 v26 hl hK hc
    simp only [workLoop, Try.f49] at ih ⊢
    refine (Seg.of_dn_stop (n := 60) ?_ (fun _ _ h => h))
    refine gd rfl (fun _ => stepG_seq) ?_
    refine gd rfl (fun _ => stepG_region) ?_
    simp only [List.size_toArray, List.length_cons, List.length_nil, Nat.reduceAdd, Nat.zero_add, List.range, List.range.loop]
    refine Goes.stop fun w₁ h₁ => ?_
    refine ⟨rfl, .int .i64 0, ?_, fun w₂ v h₂ hv => ⟨100 + nf, ?_⟩, fun w₂ h₂ => ⟨100, ?_⟩⟩
    · rw [stepG_comm rfl rfl (by decide) (run_recv57 rfl _ _ rfl).1, listed_nil (run_recv57 rfl _ _ rfl).2]
      rfl
    · obtain ⟨i, hin, rfl⟩ := hv
      have hfl : Try.prog.follows .mixedOrders = true := by kernel_rfl
      rw [core_G, served_G]
      walk_nrm
      refine (Seg.of_dn_stop (n := 100 + nf) ?_ (fun _ _ h => h))
      refine Goes.mono (n := (((((20 + 5) + nf + 3) + 6) + 1) + 20)) ?_ (by omega)
      refine gd_pure (.bool true) rfl rfl (by decide) (fun _ => by go_simp) (fun _ => by simp [go_sem]) ?_
      walk_nrm
      refine gd rfl (fun _ => stepG_region_end) ?_
      refine gd rfl (fun _ => stepG_seq) ?_
      refine gd rfl (fun _ => stepG_cond (t := true) rfl) ?_
      refine gd rfl (fun _ => stepG_skip) ?_
      refine gd rfl (fun _ => stepG_block) ?_
      refine gd rfl (fun _ => stepG_seq) ?_
      refine gd rfl (fun _ => stepG_region) ?_
      refine gd_pure (.int .i64 i) rfl rfl (by decide) (fun _ => by go_simp) (fun _ => by simp [go_sem]) ?_
      walk_nrm
      refine gd_pure (.int .i64 i) rfl rfl (by decide) (fun _ => by go_simp) (fun _ => by simp [go_sem]) ?_
      walk_nrm
      refine gd rfl (fun _ => stepG_region_end) ?_
      refine gd rfl (fun _ => stepG_seq) ?_
      refine Goes.mono (n := ((((20 + 5) + nf + 3) + 6) + 1)) ?_ (by omega)
      refine Goes.step rfl fun w₃ h₃ => ?_
      rw [stepG_region_draw, goes_go]
      refine ⟨dn_draw w₃, ?_⟩
      simp only [Region.schedule, hfl, Bool.true_or, if_true, Region.linearise]
      have hK3 : WK xa xv bf bi (.func (.func F) #[] cap') ad n cap zs { w₃ with drawn := w₃.drawn + 1 } := hK.rely hf hi ha (((h₁.trans h₂).trans h₃).trans (agree_draw w₃))
      have hl3 : WgLive 69 ww { w₃ with drawn := w₃.drawn + 1 } := (((h₁.trans h₂).trans h₃).trans (agree_draw w₃)).live ww hh hl
      have hc3 : World.cell? { w₃ with drawn := w₃.drawn + 1 } ⟨br, 0, none⟩ = some (.chan (some rs)) := ((((h₁.trans h₂).trans h₃).trans (agree_draw w₃)).cell hb).trans hc
      generalize { w₃ with drawn := w₃.drawn + 1 } = w₄ at hK3 hl3 hc3 ⊢
      clear h₃ h₂ h₁ hK hl hc
      refine d4_000000 hf hi ha hin hn hK3 (fun t => ?_) _ _ _ _ _ _ _
      obtain ⟨q, hq, t', e⟩ := lin_step (ops := ops4) (fuel := 5) (t := t) (listed := #[true, true, true, true, true, true, false, false, false, false, false, false]) (rs := [6]) (by kernel_rfl) (by simp)
      rw [e]
      clear e
      simp only [List.mem_cons, List.not_mem_nil, or_false] at hq
      subst hq
      refine goes_call_fv (F := F) (cap := cap') (Post := fun v w' => v = .tuple #[.int .i64 (ph i), .int .i64 0] ∧ Agree { P := Try.prog, ty := 69, Wg := Wg, Dead := Dead, lo := lo, t0 := t0 } (OS O S) w₄ w') dn_terms rfl rfl (by decide) rfl rfl ?_ (fun v w₅ hv => ?_)
      · walk_nrm
        exact hF i w₄ hin hK3
      obtain ⟨rfl, h₅⟩ := hv
      have hc5 := (h₅.cell hb).trans hc3
      have hl5 := h₅.live ww hh hl3
      have hK5 := hK3.rely hf hi ha h₅
      clear hc3 hl3 hK3 h₅
      refine d5_00000 ?_ _ _ _ _ _ _
      refine gd rfl (fun _ => stepG_region_end) ?_
      refine gd rfl (fun _ => stepG_region) ?_
      refine gd_load (ad := ⟨br, 0, none⟩) (v := .chan (some rs)) rfl rfl (by decide) rfl rfl hb hc5 (fun w₁ h₁ => ⟨by go_simp, by simp [go_sem, h₁]⟩) (loud 49 _ Try.func49 rfl) ?_
      walk_nrm
      refine gd_pure (.int .i64 i) rfl rfl (by decide) (fun _ => by go_simp) (fun _ => by simp [go_sem]) ?_
      walk_nrm
      refine gd_pure (.int .i64 (ph i)) rfl rfl (by decide) (fun _ => by go_simp) (fun _ => by simp [go_sem]) ?_
      walk_nrm
      refine gd_pure (.int .i64 0) rfl rfl (by decide) (fun _ => by go_simp) (fun _ => by simp [go_sem]) ?_
      walk_nrm
      refine gd_pure (.agg #[.int .i64 i, .int .i64 (ph i), .int .i64 0]) rfl rfl (by decide) (fun w => (run_build92 rfl _ w rfl rfl rfl).1) (fun w => (run_build92 rfl _ w rfl rfl rfl).2) ?_
      walk_nrm
      refine Goes.stop fun w₆ h₆ => ?_
      have hro : resOf ph (.int .i64 (i : Int)) = .agg #[.int .i64 i, .int .i64 (ph i), .int .i64 0] := by simp [resOf]
      refine ⟨rfl, #[scase rs (resOf ph (.int .i64 (i : Int))) (.tuple #[])], 0, .send, .tuple #[], ?_, rfl, fun m cc hm hcc => ?_, fun w₇ h₇ => ⟨80, ?_⟩⟩
      · rw [hro, stepG_comm rfl rfl (by decide) (run_send_t rfl _ _ rfl rfl).1, listed_nil (run_send_t rfl _ _ rfl rfl).2]
        rfl
      · rcases m with _ | m
        · exact absurd rfl hm
        · simp at hcc
      rw [core_G, finishComm_served, served_G]
      refine Seg.of_dn (n := 20) (m := 60) ?_ (fun g w h => h)
      walk_nrm
      refine gd rfl (fun _ => stepG_region_end) ?_
      refine gd rfl (fun _ => stepG_inBlock) ?_
      refine gd rfl (fun _ => stepG_inLoop) ?_
      refine Goes.stop fun w₈ h₈ => ?_
      have hr := (h₆.trans h₇).trans h₈
      exact ih w₈ _ _ _ _ _ _ _ _ _ _ _ _ _ _ _ _ _ _ _ _ _ _ _ (hr.live ww hh hl5) (hK5.rely hf hi ha hr) ((hr.cell hb).trans hc5)
    rw [core_G, served_G]
    walk_nrm
    refine Seg.of_dn (n := 20) (m := 80) ?_ (fun g w h => h)
    refine gd_pure (.bool false) rfl rfl (by decide) (fun _ => by go_simp) (fun _ => by simp [go_sem]) ?_
    walk_nrm
    refine gd rfl (fun _ => stepG_region_end) ?_
    refine gd rfl (fun _ => stepG_seq) ?_
    refine gd rfl (fun _ => stepG_cond (t := false) rfl) ?_
    refine gd rfl (fun _ => stepG_exit rfl) ?_
    refine gd rfl (fun _ => stepG_end) ?_
    exact Goes.stop fun w₃ h₃ => (hdone _ w₃ (((h₁.trans h₂).trans h₃).live ww hh hl)).le (by omega)
set_option maxRecDepth 100000 in
set_option maxHeartbeats 1000000 in
theorem work_walk (H : Here X) (hh : X.Wg ww) {bp : Nat} (hf : OS O S bf) (hi : OS O S bi) (hb : OS O S br) (hp : OS O S bp) (ha : OS O S ad.block ∧ OS O S xa.block) (hn : n ≤ 9223372036854775807)
    (hF : ∀ (i : Nat) (w : World), i < n → WK xa xv bf bi (.func (.func F) #[] cap') ad n cap zs w → CallsC Try.prog false (Agree X (OS O S)) (DN X O S) F (#[.int .i64 i, .int .i64 (zs i)] ++ cap') nf w (fun v w' => v = .tuple #[.int .i64 (ph i), .int .i64 0] ∧ Agree X (OS O S) w w'))
    (j : Nat) (w : World) (hl : WgLive 69 ww w) (hK : WK xa xv bf bi (.func (.func F) #[] cap') ad n cap zs w) (hc : w.cell? ⟨br, 0, none⟩ = some (.chan (some rs))) (hpl : w.cell? ⟨bp, 0, none⟩ = some (.chan (some pl))) :
    ∃ f, Seg X false S (StopOf X (workS ww pl rs n ph j) false S) f O (born Try.prog { target := .fn (.func 49) #[.pointer (some ⟨ww, 0, none⟩), .pointer (some ⟨bp, 0, none⟩), .pointer (some ⟨bf, 0, none⟩), .pointer (some ⟨bi, 0, none⟩), .pointer (some ⟨br, 0, none⟩)], args := #[] }) w := by
  have hloop : ∀ w, WgLive 69 ww w → WK xa xv bf bi (.func (.func F) #[] cap') ad n cap zs w → w.cell? ⟨br, 0, none⟩ = some (.chan (some rs)) → _ := fun w h1 h2 h3 v0 v1 v5 v6 v7 v9 v10 v11 v12 v13 v14 v15 v16 v17 v18 v19 v20 v21 v22 v23 v24 v25 v26 => work_loop (pl := pl) H hh hf hi hb ha hn hF j w v0 v1 v5 v6 v7 v9 v10 v11 v12 v13 v14 v15 v16 v17 v18 v19 v20 v21 v22 v23 v24 v25 v26 h1 h2 h3
  obtain ⟨P, ty, Wg, Dead, lo, t0⟩ := X
  obtain ⟨rfl, rfl⟩ : P = Try.prog ∧ ty = 69 := ⟨H.P, H.ty⟩
  simp only [workLoop, Try.f49] at hloop
  refine ⟨20 + 60, Seg.of_dn (n := 20) (m := 60) ?_ (fun g w h => h)⟩
  refine gd rfl (fun _ => born_step Try.func49 (by kernel_rfl) rfl _ _) ?_
  walk_nrmf Try.f49
  refine gd rfl (fun _ => stepG_seq) ?_
  refine gd rfl (fun _ => stepG_region) ?_
  refine gd rfl (fun _ => stepG_defer rfl rfl (by decide) rfl) ?_
  refine gd rfl (fun _ => stepG_region_end) ?_
  refine gd rfl (fun _ => stepG_seq) ?_
  refine gd rfl (fun _ => stepG_region) ?_
  walk_nrm
  refine gd_load (ad := ⟨bp, 0, none⟩) (v := .chan (some pl)) rfl rfl (by decide) rfl rfl hp hpl (fun w₁ h₁ => ⟨by go_simp, by simp [go_sem, h₁]⟩) (loud 49 _ Try.func49 rfl) ?_
  walk_nrm
  refine gd rfl (fun _ => stepG_region_end) ?_
  refine gd rfl (fun _ => stepG_block) ?_
  refine gd rfl (fun _ => stepG_loop) ?_
  refine Goes.stop fun w₁ h₁ => ?_
  exact hloop w₁ (h₁.live ww hh hl) (hK.rely hf hi ha h₁) ((h₁.cell hb).trans hc) _ _ _ _ _ _ _ _ _ _ _ _ _ _ _ _ _ _ _ _ _ _ _
end
end Go.Proofs.Ytmkjoojoaldljaa.Net
namespace Go.Proofs.Ytmkjoojoaldljaa.Net
open Go.Conc
open Go.ConcN (sumTo upd upd_same upd_ne sumTo_upd)
inductive MSt
  | add1 | spwH | add2 | spwW (k : Nat) | rcv | wai | ret
  deriving DecidableEq
inductive HSt
  | unb | run | don | dead
  deriving DecidableEq
inductive WSt
  | unb | rcv | snd (p : Nat) | don | dead
  deriving DecidableEq
inductive CSt
  | unb | wai | cls | don | dead
  deriving DecidableEq
structure GCtx where
  b0 : Nat
  n : Nat
  W : Nat
  pl : Nat
  rs : Nat
  en : Nat
  wh : Nat
  ww : Nat
  ph : Nat → Int
  Fin : List Nat → (Nat → Prop) → Goroutine → World → Prop
namespace GCtx
variable (C : GCtx)
def placeOf : Value → Nat
  | .agg cs => match (cs[0]? : Option Value) with | some (.int _ i) => i.toNat | _ => 0
  | _ => 0
def mWai (R : List Nat) : Script := .wai C.wh (.ret (C.Fin R))
def mRcv : Nat → List Nat → Script
  | 0, R => .rcv C.rs (fun _ => False) (fun _ => C.mWai R) (C.mWai R)
  | j + 1, R => .rcv C.rs (fun v => ∃ i : Nat, i < C.n ∧ v = resOf C.ph (.int .i64 i)) (fun v => mRcv j (placeOf v :: R)) (C.mWai R)
def closerS : Script := .wai C.ww (.cls C.rs (.don C.wh))
def workerS (j : Nat) : Script := workS C.ww C.pl C.rs C.n C.ph j
def mSpwC : Script := .spw (fun _ => False) (fun b => b = C.ww) C.closerS (C.mRcv C.n [])
def mSpwW : Nat → Script
  | 0 => C.mSpwC
  | k + 1 => .spw (fun _ => False) (fun _ => False) (C.workerS C.n) (mSpwW k)
def mAdd2 : Script := .add C.ww C.W (C.mSpwW C.W)
def mSpwH : Script := .spw (fun c => c = C.pl ∨ c = C.rs ∨ c = C.en) (fun _ => False) (handS C.wh C.pl 0 C.n) C.mAdd2
def mAdd1 : Script := .add C.wh 2 C.mSpwH
structure St where
  m : MSt
  R : List Nat
  h : HSt
  i : Nat
  ws : Nat → WSt
  f : Nat → Nat
  c : CSt
def main (s : St) : Script :=
  match s.m with
  | .add1 => C.mAdd1 | .spwH => C.mSpwH | .add2 => C.mAdd2
  | .spwW k => C.mSpwW (C.W - k)
  | .rcv => C.mRcv (C.n - s.R.length) s.R
  | .wai => C.mWai s.R
  | .ret => .ret (C.Fin s.R)
def hand (s : St) : Proc :=
  match s.h with
  | .unb => .dead
  | .run => .at (handS C.wh C.pl s.i (C.n - s.i))
  | .don => .at (.don C.wh)
  | .dead => .dead
def work (s : St) (q : Nat) : Proc :=
  match s.ws q with
  | .unb => .dead
  | .rcv => .at (C.workerS (s.f q))
  | .snd p => .at (.snd C.rs (resOf C.ph (.int .i64 (p : Nat))) (C.workerS (s.f q)))
  | .don => .at (.don C.ww)
  | .dead => .dead
def closer (s : St) : Proc :=
  match s.c with
  | .unb => .dead
  | .wai => .at C.closerS
  | .cls => .at (.cls C.rs (.don C.wh))
  | .don => .at (.don C.wh)
  | .dead => .dead
def born (s : St) : Nat :=
  match s.m with
  | .add1 | .spwH => C.b0
  | .add2 => C.b0 + 1
  | .spwW k => C.b0 + 1 + k
  | _ => C.b0 + 2 + C.W
def holds : WSt → Nat
  | .snd _ => 1
  | _ => 0
def lives : WSt → Nat
  | .dead => 0
  | _ => 1
def MSt.early : MSt → Prop
  | .rcv | .wai | .ret => False
  | _ => True
structure Good (s : St) : Prop where
  hi : s.i ≤ C.n
  cnt : s.R.length + sumTo C.W (fun q => holds (s.ws q)) = s.i
  mem : ∀ k, k < s.i → k ∈ s.R ∨ ∃ q, q < C.W ∧ s.ws q = .snd k
  plt : ∀ q p, q < C.W → s.ws q = .snd p → p < C.n
  fl : ∀ q, q < C.W → s.f q ≤ C.n
  fsum : sumTo C.W (fun q => C.n - s.f q) = s.i
  past : ∀ q, q < C.W → s.ws q = .don ∨ s.ws q = .dead → s.h = .don ∨ s.h = .dead
  hn : s.h = .don ∨ s.h = .dead → s.i = C.n
  clo : s.c = .cls ∨ s.c = .don ∨ s.c = .dead → ∀ q, q < C.W → s.ws q = .dead
  mwai : s.m = .wai ∨ s.m = .ret → s.c = .don ∨ s.c = .dead
  mret : s.m = .ret → s.h = .dead ∧ s.c = .dead
  hub : s.h = .unb ↔ s.m = .add1 ∨ s.m = .spwH
  hub0 : s.h = .unb → s.i = 0
  wub : ∀ q, q < C.W → (s.ws q = .unb ↔ s.m = .add1 ∨ s.m = .spwH ∨ s.m = .add2 ∨ ∃ k, s.m = .spwW k ∧ k ≤ q)
  cub : s.c = .unb ↔ GCtx.MSt.early s.m
  kW : ∀ k, s.m = .spwW k → k ≤ C.W
  Rub : GCtx.MSt.early s.m → s.R = []
  fub : ∀ q, q < C.W → s.ws q = .unb → s.f q = C.n
open Classical in
structure Rep (a : Abs) (s : St) : Prop where
  n : a.n = C.born s
  p0 : a.pr 0 = .at (C.main s)
  ph : s.h ≠ .unb → a.pr C.b0 = C.hand s
  pw : ∀ q, q < C.W → s.ws q ≠ .unb → a.pr (C.b0 + 1 + q) = C.work s q
  pc : s.c ≠ .unb → a.pr (C.b0 + 1 + C.W) = C.closer s
  old : ∀ i, 0 < i → i < C.b0 → a.pr i = .dead
  chp : a.ch C.pl = if s.h = .unb then none else some (decide (s.h = .don ∨ s.h = .dead))
  chr : a.ch C.rs = if s.h = .unb then none else some (decide (s.c = .don ∨ s.c = .dead))
  che : a.ch C.en = if s.h = .unb then none else some false
  vh : a.v C.wh = if s.m = .add1 then 0 else (if s.h = .dead then 0 else 1) + (if s.c = .dead then 0 else 1)
  vw : a.v C.ww = if s.m = .add1 ∨ s.m = .spwH ∨ s.m = .add2 then 0 else sumTo C.W fun q => lives (s.ws q)
  sdh : a.sd C.wh = 0
  sdw : a.sd C.ww = if s.c = .unb then 0 else C.b0 + 1 + C.W
  gw : ∀ q, q < C.W → s.ws q = .dead → a.grp C.ww (C.b0 + 1 + q)
  vc : s.c = .cls ∨ s.c = .don ∨ s.c = .dead → ∀ q, q < C.W → a.vou (C.b0 + 1 + C.W) (C.b0 + 1 + q)
  gh : s.h = .dead → a.grp C.wh C.b0
  gc : s.c = .dead → a.grp C.wh (C.b0 + 1 + C.W) ∧ ∀ q, q < C.W → a.grp C.wh (C.b0 + 1 + q)
  v0 : s.m = .ret → ∀ j, C.b0 ≤ j → j < C.b0 + 2 + C.W → a.vou 0 j
structure Ok (X : Ctx) : Prop where
  b0 : 1 ≤ C.b0
  n : C.n < 9223372036854775808
  W : 1 ≤ C.W
  W' : C.W < 2147483648
  ps : C.pl ≠ C.rs
  pe : C.pl ≠ C.en
  re : C.rs ≠ C.en
  gg : C.wh ≠ C.ww
  wg : ∀ b, X.Wg b ↔ b = C.wh ∨ b = C.ww
  dead : ∀ d, X.Dead d ↔ d = C.en
end GCtx
end Go.Proofs.Ytmkjoojoaldljaa.Net
namespace Go.Proofs.Ytmkjoojoaldljaa.Net
open Go.Conc
open Go.ConcN (sumTo upd upd_same upd_ne sumTo_upd)
namespace GCtx
variable {C : GCtx} {X : Ctx} {s : St} {a : Abs}
theorem who (G : C.Good s) (R : C.Rep a s) {i : Nat} (hi : i < a.n) : i = 0 ∨ (0 < i ∧ i < C.b0) ∨ (i = C.b0 ∧ s.h ≠ .unb) ∨ (∃ q, q < C.W ∧ i = C.b0 + 1 + q ∧ s.ws q ≠ .unb) ∨ (i = C.b0 + 1 + C.W ∧ s.c ≠ .unb) := by
  rw [R.n] at hi
  by_cases h0 : i = 0
  · exact .inl h0
  by_cases hb : i < C.b0
  · exact .inr (.inl ⟨by omega, hb⟩)
  have hh := G.hub
  have hc := G.cub
  by_cases hib : i = C.b0
  · refine .inr (.inr (.inl ⟨hib, fun e => ?_⟩))
    rcases hh.1 e with e | e <;> rw [born, e] at hi <;> simp only at hi <;> omega
  by_cases hiw : i < C.b0 + 1 + C.W
  · refine .inr (.inr (.inr (.inl ⟨i - (C.b0 + 1), by omega, by omega, fun e => ?_⟩)))
    rcases (G.wub _ (by omega)).1 e with e | e | e | ⟨k, e, hk⟩ <;> rw [born, e] at hi <;> simp only at hi <;> omega
  · have hle : i = C.b0 + 1 + C.W := by
      revert hi
      unfold born
      have hk := G.kW
      cases hm : s.m with
      | spwW k => have := hk k hm; intro hi; simp only at hi; omega
      | _ => intro hi; simp only at hi; omega
    refine .inr (.inr (.inr (.inr ⟨hle, fun e => ?_⟩)))
    have := hc.1 e
    revert hi this
    unfold born
    have hk := G.kW
    cases hm : s.m with
    | spwW k => have := hk k hm; intro hi _; simp only at hi; omega
    | rcv => intro _ h; exact h
    | wai => intro _ h; exact h
    | ret => intro _ h; exact h
    | _ => intro hi _; simp only at hi; omega
theorem mSpwW_head (k : Nat) : ∃ cs ws c K, C.mSpwW k = .spw cs ws c K := by cases k <;> exact ⟨_, _, _, _, rfl⟩
theorem mRcv_head (j : Nat) (R : List Nat) : ∃ ok K, C.mRcv j R = .rcv C.rs ok K (C.mWai R) := by cases j <;> exact ⟨_, _, rfl⟩
theorem handS_head (i m : Nat) : (m = 0 ∧ handS C.wh C.pl i m = .cls C.pl (.don C.wh)) ∨ (0 < m ∧ ∃ m', m = m' + 1 ∧ handS C.wh C.pl i m = .snd C.pl (.int .i64 i) (handS C.wh C.pl (i + 1) m')) := by
  cases m with
  | zero => exact .inl ⟨rfl, rfl⟩
  | succ m => exact .inr ⟨Nat.succ_pos _, m, rfl, rfl⟩
theorem workS_head (j : Nat) : ∃ ok K, C.workerS j = .rcv C.pl ok K (.don C.ww) := by cases j <;> exact ⟨_, _, rfl⟩
inductive At (C : GCtx) (s : St) (i : Nat) (p : Script) : Prop
  | main (h : i = 0) (e : p = C.main s)
  | hcls (h : i = C.b0) (e1 : s.h = .run) (e2 : s.i = C.n) (e : p = .cls C.pl (.don C.wh))
  | hsnd (h : i = C.b0) (e1 : s.h = .run) (e2 : s.i < C.n) (m' : Nat) (e3 : C.n - s.i = m' + 1) (e : p = .snd C.pl (.int .i64 s.i) (handS C.wh C.pl (s.i + 1) m'))
  | hdon (h : i = C.b0) (e1 : s.h = .don) (e : p = .don C.wh)
  | wrcv (q : Nat) (hq : q < C.W) (h : i = C.b0 + 1 + q) (e1 : s.ws q = .rcv) (e : p = C.workerS (s.f q))
  | wsnd (q pp : Nat) (hq : q < C.W) (h : i = C.b0 + 1 + q) (e1 : s.ws q = .snd pp) (e : p = .snd C.rs (resOf C.ph (.int .i64 (pp : Nat))) (C.workerS (s.f q)))
  | wdon (q : Nat) (hq : q < C.W) (h : i = C.b0 + 1 + q) (e1 : s.ws q = .don) (e : p = .don C.ww)
  | cwai (h : i = C.b0 + 1 + C.W) (e1 : s.c = .wai) (e : p = C.closerS)
  | ccls (h : i = C.b0 + 1 + C.W) (e1 : s.c = .cls) (e : p = .cls C.rs (.don C.wh))
  | cdon (h : i = C.b0 + 1 + C.W) (e1 : s.c = .don) (e : p = .don C.wh)
theorem at_of (G : C.Good s) (R : C.Rep a s) {i : Nat} (hi : i < a.n) {p : Script} (e : a.pr i = .at p) : At C s i p := by
  rcases who G R hi with rfl | ⟨h0, hb⟩ | ⟨rfl, hh⟩ | ⟨q, hq, rfl, hw⟩ | ⟨rfl, hc⟩
  · rw [R.p0] at e; injection e with e; exact .main rfl e.symm
  · rw [R.old i h0 hb] at e; cases e
  · rw [R.ph hh] at e
    unfold hand at e
    cases hs : s.h with
    | unb => exact absurd hs hh
    | run =>
      rw [hs] at e
      injection e with e
      rcases handS_head (C := C) s.i (C.n - s.i) with ⟨h0, h1⟩ | ⟨h0, m', h1, h2⟩
      · exact .hcls rfl hs (by have := G.hi; omega) (e.symm.trans h1)
      · exact .hsnd rfl hs (by omega) m' h1 (e.symm.trans h2)
    | don => rw [hs] at e; injection e with e; exact .hdon rfl hs e.symm
    | dead => rw [hs] at e; cases e
  · rw [R.pw q hq hw] at e
    unfold work at e
    cases hs : s.ws q with
    | unb => exact absurd hs hw
    | rcv => rw [hs] at e; injection e with e; exact .wrcv q hq rfl hs e.symm
    | snd pp => rw [hs] at e; injection e with e; exact .wsnd q pp hq rfl hs e.symm
    | don => rw [hs] at e; injection e with e; exact .wdon q hq rfl hs e.symm
    | dead => rw [hs] at e; cases e
  · rw [R.pc hc] at e
    unfold closer at e
    cases hs : s.c with
    | unb => exact absurd hs hc
    | wai => rw [hs] at e; injection e with e; exact .cwai rfl hs e.symm
    | cls => rw [hs] at e; injection e with e; exact .ccls rfl hs e.symm
    | don => rw [hs] at e; injection e with e; exact .cdon rfl hs e.symm
    | dead => rw [hs] at e; cases e
theorem main_head (C : GCtx) (s : St) : (s.m = .add1 ∧ C.main s = .add C.wh 2 C.mSpwH) ∨ (s.m = .spwH ∧ C.main s = C.mSpwH) ∨ (s.m = .add2 ∧ C.main s = .add C.ww C.W (C.mSpwW C.W)) ∨ (∃ k cs ws c K, s.m = .spwW k ∧ C.main s = .spw cs ws c K) ∨
    (∃ ok K, s.m = .rcv ∧ C.main s = .rcv C.rs ok K (C.mWai s.R)) ∨ (s.m = .wai ∧ C.main s = .wai C.wh (.ret (C.Fin s.R))) ∨ (s.m = .ret ∧ C.main s = .ret (C.Fin s.R)) := by
  unfold GCtx.main
  cases hm : s.m with
  | add1 => exact .inl ⟨rfl, rfl⟩
  | spwH => exact .inr (.inl ⟨rfl, rfl⟩)
  | add2 => exact .inr (.inr (.inl ⟨rfl, rfl⟩))
  | spwW k =>
    obtain ⟨cs, ws, c, K, e⟩ := mSpwW_head (C := C) (C.W - k)
    exact .inr (.inr (.inr (.inl ⟨k, cs, ws, c, K, rfl, e⟩)))
  | rcv =>
    obtain ⟨ok, K, e⟩ := mRcv_head (C := C) (C.n - s.R.length) s.R
    exact .inr (.inr (.inr (.inr (.inl ⟨ok, K, rfl, e⟩))))
  | wai => exact .inr (.inr (.inr (.inr (.inr (.inl ⟨rfl, rfl⟩)))))
  | ret => exact .inr (.inr (.inr (.inr (.inr (.inr ⟨rfl, rfl⟩)))))
end GCtx
end Go.Proofs.Ytmkjoojoaldljaa.Net
namespace Go.Proofs.Ytmkjoojoaldljaa.Net
open Go.Conc
open Go.ConcN (sumTo upd upd_same upd_ne sumTo_upd)
namespace GCtx
variable {C : GCtx} {X : Ctx} {s : St} {a : Abs}
theorem sum_le {h : Nat → Nat} : ∀ {n : Nat}, (∀ j, j < n → h j ≤ 1) → sumTo n h ≤ n := sumTo_le_one
theorem sum_pos {h : Nat → Nat} : ∀ {n q : Nat}, q < n → 1 ≤ h q → 1 ≤ sumTo n h
  | n + 1, q, hq, h1 => by
    simp only [sumTo]
    rcases Nat.lt_succ_iff_lt_or_eq.1 hq with h | rfl
    · have := sum_pos h h1; omega
    · omega
theorem lives_le (w : WSt) : lives w ≤ 1 := by cases w <;> simp [lives]
theorem run_open (R : C.Rep a s) {h : HSt} (e : s.h = h) (hr : h = .run) : a.ch C.pl = some false := by
  rw [R.chp, e, hr]; simp
theorem notUnb_of (G : C.Good s) {q : Nat} (hq : q < C.W) (h : s.ws q ≠ .unb) : s.h ≠ .unb := by
  intro e
  rcases G.hub.1 e with e | e
  · exact h ((G.wub q hq).2 (.inl e))
  · exact h ((G.wub q hq).2 (.inr (.inl e)))
theorem snd_of (G : C.Good s) (R : C.Rep a s) {i c : Nat} {v : Value} {k : Script} (hi : i < a.n) (e : a.pr i = .at (.snd c v k)) :
    (i = C.b0 ∧ s.h = .run ∧ s.i < C.n ∧ c = C.pl ∧ v = .int .i64 s.i ∧ ∃ m', C.n - s.i = m' + 1 ∧ k = handS C.wh C.pl (s.i + 1) m') ∨
    (∃ q pp, q < C.W ∧ i = C.b0 + 1 + q ∧ s.ws q = .snd pp ∧ c = C.rs ∧ v = resOf C.ph (.int .i64 (pp : Nat)) ∧ k = C.workerS (s.f q)) := by
  cases at_of G R hi e with
  | main _ e' => rcases main_head C s with ⟨_, h⟩ | ⟨_, h⟩ | ⟨_, h⟩ | ⟨_, _, _, _, _, _, h⟩ | ⟨_, _, _, h⟩ | ⟨_, h⟩ | ⟨_, h⟩ <;> rw [h] at e' <;> cases e'
  | hcls _ _ _ e' => cases e'
  | hsnd h e1 e2 m' e3 e' => cases e'; exact .inl ⟨h, e1, e2, rfl, rfl, m', e3, rfl⟩
  | hdon _ _ e' => cases e'
  | wrcv q hq h e1 e' => obtain ⟨_, _, hw⟩ := workS_head (C := C) (s.f q); rw [hw] at e'; cases e'
  | wsnd q pp hq h e1 e' => cases e'; exact .inr ⟨q, pp, hq, h, e1, rfl, rfl, rfl⟩
  | wdon _ _ _ _ e' => cases e'
  | cwai _ _ e' => cases e'
  | ccls _ _ e' => cases e'
  | cdon _ _ e' => cases e'
theorem rcv_of (G : C.Good s) (R : C.Rep a s) {i c : Nat} {ok : Value → Prop} {k : Value → Script} {kc : Script} (hi : i < a.n) (e : a.pr i = .at (.rcv c ok k kc)) :
    (i = 0 ∧ s.m = .rcv ∧ .rcv c ok k kc = C.mRcv (C.n - s.R.length) s.R ∧ c = C.rs ∧ kc = C.mWai s.R) ∨ (∃ q, q < C.W ∧ i = C.b0 + 1 + q ∧ s.ws q = .rcv ∧ .rcv c ok k kc = C.workerS (s.f q) ∧ c = C.pl ∧ kc = .don C.ww) := by
  cases at_of G R hi e with
  | main h e' =>
    rcases main_head C s with ⟨_, h'⟩ | ⟨_, h'⟩ | ⟨_, h'⟩ | ⟨_, _, _, _, _, _, h'⟩ | ⟨_, _, hm, h'⟩ | ⟨_, h'⟩ | ⟨_, h'⟩
    case inr.inr.inr.inr.inl =>
      have e2 : Script.rcv c ok k kc = C.mRcv (C.n - s.R.length) s.R := by rw [e']; unfold GCtx.main; rw [hm]
      rw [h'] at e'
      injection e' with e3 _ _ e4
      exact .inl ⟨h, hm, e2, e3, e4⟩
    all_goals rw [h'] at e'; cases e'
  | hcls _ _ _ e' => cases e'
  | hsnd h e1 e2 m' e3 e' => cases e'
  | hdon _ _ e' => cases e'
  | wrcv q hq h e1 e' =>
    obtain ⟨_, _, hw⟩ := workS_head (C := C) (s.f q)
    have e2 := e'
    rw [hw] at e'
    injection e' with e3 _ _ e4
    exact .inr ⟨q, hq, h, e1, e2, e3, e4⟩
  | wsnd q pp hq h e1 e' => cases e'
  | wdon _ _ _ _ e' => cases e'
  | cwai _ _ e' => cases e'
  | ccls _ _ e' => cases e'
  | cdon _ _ e' => cases e'
theorem vh_of (R : C.Rep a s) (h : s.m ≠ .add1) : a.v C.wh = (if s.h = .dead then 0 else 1) + (if s.c = .dead then 0 else 1) := by rw [R.vh, if_neg h]
theorem vw_of (R : C.Rep a s) (h : ¬ (s.m = .add1 ∨ s.m = .spwH ∨ s.m = .add2)) : a.v C.ww = sumTo C.W fun q => lives (s.ws q) := by rw [R.vw, if_neg h]
theorem fuel_pos (G : C.Good s) {q : Nat} (hq : q < C.W) (hi : s.i < C.n) : ∃ j, s.f q = j + 1 := by
  have h1 : C.n - s.f q ≤ sumTo C.W fun q => C.n - s.f q := sumTo_ge (fun q => C.n - s.f q) hq
  rw [G.fsum] at h1
  exact ⟨s.f q - 1, by omega⟩
where
  sumTo_ge (h : Nat → Nat) : ∀ {n q : Nat}, q < n → h q ≤ sumTo n h
    | n + 1, q, hq => by
      simp only [sumTo]
      rcases Nat.lt_succ_iff_lt_or_eq.1 hq with h' | rfl
      · have := sumTo_ge h h'; omega
      · omega
theorem room (G : C.Good s) {q pp : Nat} (hq : q < C.W) (hs : s.ws q = .snd pp) : s.R.length < C.n := by
  have h1 := sum_pos (h := fun q => holds (s.ws q)) hq (by rw [hs]; exact Nat.le_refl _)
  have := G.cnt
  have := G.hi
  omega
theorem rs_open (G : C.Good s) (R : C.Rep a s) {q pp : Nat} (hq : q < C.W) (hs : s.ws q = .snd pp) : a.ch C.rs = some false := by
  have hu := notUnb_of G hq (by rw [hs]; simp)
  rw [R.chr, if_neg hu]
  have : ¬ (s.c = .don ∨ s.c = .dead) := fun h => by
    have := G.clo (.inr h) q hq
    rw [hs] at this; cases this
  simp [this]
theorem ok (K : C.Ok X) (G : C.Good s) (R : C.Rep a s) : AOk X a := by
  have nd : ∀ c, c ≠ C.en → ¬ X.Dead c := fun c h hd => h ((K.dead c).1 hd)
  refine ⟨fun i wg δ k hi e => ?_, fun i wg k hi e => ?_, fun i wg hi e => ?_, fun i c v k hi e => ?_, fun i c ok k kc hi e => ?_, fun i j c v k ok kj kc hi hj e1 e2 => ?_, fun i c k hi e => ?_, fun cs ws c k e => ?_, fun d hd => ?_⟩
  · cases at_of G R hi e with
    | main h e' =>
      rcases main_head C s with ⟨hm, h'⟩ | ⟨_, h'⟩ | ⟨hm, h'⟩ | ⟨_, _, _, _, _, _, h'⟩ | ⟨_, _, _, h'⟩ | ⟨_, h'⟩ | ⟨_, h'⟩ <;> rw [h'] at e' <;> cases e'
      · exact ⟨(K.wg _).2 (.inl rfl), R.sdh.trans h.symm, by rw [R.vh, if_pos hm]; omega⟩
      · refine ⟨(K.wg _).2 (.inr rfl), ?_, ?_⟩
        · rw [R.sdw, if_pos (G.cub.2 (by rw [hm]; trivial)), h]
        · rw [R.vw, if_pos (.inr (.inr hm))]; have := K.W'; omega
    | wrcv q hq h e1 e' => obtain ⟨_, _, hw⟩ := workS_head (C := C) (s.f q); rw [hw] at e'; cases e'
    | cwai _ _ e' => cases e'
    | _ => rename_i e'; cases e'
  · cases at_of G R hi e with
    | main h e' =>
      rcases main_head C s with ⟨hm, h'⟩ | ⟨_, h'⟩ | ⟨hm, h'⟩ | ⟨_, _, _, _, _, _, h'⟩ | ⟨_, _, _, h'⟩ | ⟨hm, h'⟩ | ⟨_, h'⟩ <;> rw [h'] at e' <;> cases e'
      refine ⟨(K.wg _).2 (.inl rfl), R.sdh.trans h.symm, ?_⟩
      rw [vh_of R (by rw [hm]; simp)]
      split <;> split <;> omega
    | wrcv q hq h e1 e' => obtain ⟨_, _, hw⟩ := workS_head (C := C) (s.f q); rw [hw] at e'; cases e'
    | cwai h e1 e' =>
      cases e'
      refine ⟨(K.wg _).2 (.inr rfl), ?_, ?_⟩
      · rw [R.sdw, if_neg (by rw [e1]; simp), h]
      · have hm : ¬ GCtx.MSt.early s.m := fun x => by have := G.cub.2 x; rw [e1] at this; cases this
        rw [vw_of R (by rintro (h | h | h) <;> rw [h] at hm <;> exact hm trivial)]
        have := sum_le (n := C.W) (h := fun q => lives (s.ws q)) fun q _ => lives_le _
        have := K.W'
        omega
    | _ => rename_i e'; cases e'
  · cases at_of G R hi e with
    | main h e' => rcases main_head C s with ⟨hm, h'⟩ | ⟨_, h'⟩ | ⟨hm, h'⟩ | ⟨_, _, _, _, _, _, h'⟩ | ⟨_, _, _, h'⟩ | ⟨hm, h'⟩ | ⟨_, h'⟩ <;> rw [h'] at e' <;> cases e'
    | wrcv q hq h e1 e' => obtain ⟨_, _, hw⟩ := workS_head (C := C) (s.f q); rw [hw] at e'; cases e'
    | hdon h e1 e' =>
      cases e'
      refine ⟨(K.wg _).2 (.inl rfl), ?_⟩
      rw [vh_of R (fun hm => by have := G.hub.2 (.inl hm); rw [e1] at this; cases this), if_neg (by rw [e1]; simp)]
      split <;> omega
    | wdon q hq h e1 e' =>
      cases e'
      refine ⟨(K.wg _).2 (.inr rfl), ?_⟩
      have hu : ¬ (s.m = .add1 ∨ s.m = .spwH ∨ s.m = .add2) := fun hm => by
        have := (G.wub q hq).2 (by rcases hm with h | h | h
                                   · exact .inl h
                                   · exact .inr (.inl h)
                                   · exact .inr (.inr (.inl h)))
        rw [e1] at this; cases this
      rw [vw_of R hu]
      have h1 := sum_le (n := C.W) (h := fun q => lives (s.ws q)) fun q _ => lives_le _
      have h2 := sum_pos (h := fun q => lives (s.ws q)) hq (by rw [e1]; exact Nat.le_refl _)
      have := K.W'
      omega
    | cdon h e1 e' =>
      cases e'
      refine ⟨(K.wg _).2 (.inl rfl), ?_⟩
      rw [vh_of R (fun hm => by have := G.cub.2 (by rw [hm]; trivial); rw [e1] at this; cases this), if_neg (c := s.c = .dead) (by rw [e1]; simp)]
      split <;> omega
    | _ => rename_i e'; cases e'
  · rcases snd_of G R hi e with ⟨_, hs, _, rfl, _⟩ | ⟨q, pp, hq, _, hs, rfl, _⟩
    · exact ⟨run_open R rfl hs, nd _ K.pe⟩
    · exact ⟨rs_open G R hq hs, nd _ K.re⟩
  · rcases rcv_of G R hi e with ⟨_, hm, _, rfl, _⟩ | ⟨q, hq, _, hs, _, rfl, _⟩
    · refine ⟨?_, nd _ K.re⟩
      rw [R.chr, if_neg (fun h => by rcases G.hub.1 h with h | h <;> rw [hm] at h <;> cases h)]
      simp
    · refine ⟨?_, nd _ K.pe⟩
      rw [R.chp, if_neg (notUnb_of G hq (by rw [hs]; simp))]
      simp
  · rcases snd_of G R hi e1 with ⟨_, hs, hlt, rfl, rfl, _⟩ | ⟨q, pp, hq, _, hs, rfl, rfl, _⟩
    · rcases rcv_of G R hj e2 with ⟨_, _, _, h, _⟩ | ⟨q, hq, _, hs', h, _⟩
      · exact absurd h K.ps
      · obtain ⟨j', hj'⟩ := fuel_pos G hq hlt
        rw [hj'] at h
        injection h with _ h
        rw [h]
        exact ⟨s.i, hlt, rfl⟩
    · rcases rcv_of G R hj e2 with ⟨_, _, h, _⟩ | ⟨q', hq', _, _, _, h, _⟩
      · have hr := room G hq hs
        obtain ⟨j', hj'⟩ : ∃ j', C.n - s.R.length = j' + 1 := ⟨C.n - s.R.length - 1, by omega⟩
        rw [hj'] at h
        injection h with _ h
        rw [h]
        exact ⟨pp, G.plt q pp hq hs, rfl⟩
      · exact absurd h.symm K.ps
  · cases at_of G R hi e with
    | main h e' => rcases main_head C s with ⟨hm, h'⟩ | ⟨_, h'⟩ | ⟨hm, h'⟩ | ⟨_, _, _, _, _, _, h'⟩ | ⟨_, _, _, h'⟩ | ⟨hm, h'⟩ | ⟨_, h'⟩ <;> rw [h'] at e' <;> cases e'
    | wrcv q hq h e1 e' => obtain ⟨_, _, hw⟩ := workS_head (C := C) (s.f q); rw [hw] at e'; cases e'
    | hcls h e1 e2 e' =>
      cases e'
      refine ⟨run_open R rfl e1, nd _ K.pe, fun j v k' hj he => ?_⟩
      rcases snd_of G R hj he with ⟨_, _, hlt, _⟩ | ⟨_, _, _, _, _, h, _⟩
      · omega
      · exact absurd h K.ps
    | ccls h e1 e' =>
      cases e'
      have hu : s.h ≠ .unb := fun hh => by
        have := G.cub.2 (by rcases G.hub.1 hh with h | h <;> rw [h] <;> trivial)
        rw [e1] at this; cases this
      refine ⟨by rw [R.chr, if_neg hu]; simp [e1], nd _ K.re, fun j v k' hj he => ?_⟩
      rcases snd_of G R hj he with ⟨_, _, _, h, _⟩ | ⟨q, pp, hq, _, hs, _⟩
      · exact absurd h.symm K.ps
      · have := G.clo (.inl e1) q hq
        rw [hs] at this; cases this
    | _ => rename_i e'; cases e'
  · rw [R.p0] at e
    injection e with e
    rcases main_head C s with ⟨hm, h'⟩ | ⟨hm, h'⟩ | ⟨hm, h'⟩ | ⟨kk, _, _, _, _, hm, h'⟩ | ⟨_, _, _, h'⟩ | ⟨hm, h'⟩ | ⟨_, h'⟩
    · rw [h'] at e; cases e
    · rw [h'] at e
      cases e
      have hu : s.h = .unb := G.hub.2 (.inr hm)
      refine ⟨fun c hc => ?_, fun _ h => h.elim⟩
      rcases hc with rfl | rfl | rfl
      · exact R.chp.trans (if_pos hu)
      · exact R.chr.trans (if_pos hu)
      · exact R.che.trans (if_pos hu)
    · rw [h'] at e; cases e
    · unfold GCtx.main at e
      rw [hm] at e
      simp only at e
      cases hk : C.W - kk with
      | zero =>
        rw [hk] at e
        cases e
        refine ⟨fun _ h => h.elim, fun b hb => ?_⟩
        subst hb
        exact ⟨(K.wg _).2 (.inr rfl), by rw [R.sdw, if_pos (G.cub.2 (by rw [hm]; trivial))]⟩
      | succ k' => rw [hk] at e; cases e; exact ⟨fun _ h => h.elim, fun _ h => h.elim⟩
    · rw [h'] at e; cases e
    · rw [h'] at e; cases e
    · rw [h'] at e; cases e
  · obtain rfl := (K.dead d).1 hd
    rw [R.che]
    by_cases hu : s.h = .unb
    · rw [if_pos hu]
      refine .inr ⟨rfl, fun i c v k hi he => ?_⟩
      rcases snd_of G R hi he with ⟨_, hs, _⟩ | ⟨q, pp, hq, _, hs, _⟩
      · rw [hu] at hs; cases hs
      · exact notUnb_of G hq (by rw [hs]; simp) hu
    · rw [if_neg hu]; exact .inl rfl
end GCtx
end Go.Proofs.Ytmkjoojoaldljaa.Net
namespace Go.Proofs.Ytmkjoojoaldljaa.Net
open Go.Conc
open Go.ConcN (sumTo upd upd_same upd_ne sumTo_upd)
namespace GCtx
variable {C : GCtx} {X : Ctx} {s : St} {a : Abs}
theorem sum_zero {h : Nat → Nat} : ∀ {n : Nat}, (∀ q, q < n → h q = 0) → sumTo n h = 0
  | 0, _ => rfl
  | n + 1, hh => by simp only [sumTo]; rw [sum_zero fun q hq => hh q (by omega), hh n (by omega)]
theorem live (K : C.Ok X) (G : C.Good s) (R : C.Rep a s) : (∃ Fin, a.pr 0 = .at (.ret Fin)) ∨ ∃ a', AStep a a' := by
  have hn0 : 0 < a.n := by
    rw [R.n]; have := K.b0; unfold born
    cases s.m <;> simp only <;> omega
  have p0 := R.p0
  have late : ¬ GCtx.MSt.early s.m → (∃ a', AStep a a') ∨ (s.h = .dead ∧ s.c = .dead) := by
    intro hm
    have hn : a.n = C.b0 + 2 + C.W := by
      rw [R.n]; unfold born
      revert hm
      cases s.m <;> intro hm <;> first | rfl | exact absurd trivial hm
    have hne : ∀ x, GCtx.MSt.early x → s.m ≠ x := fun x hx e => hm (by rw [e]; exact hx)
    have hu : s.h ≠ .unb := fun e => by rcases G.hub.1 e with h | h <;> exact hm (by rw [h]; trivial)
    have cu : s.c ≠ .unb := fun e => hm (G.cub.1 e)
    have wu : ∀ q, q < C.W → s.ws q ≠ .unb := fun q hq e => by
      rcases (G.wub q hq).1 e with h | h | h | ⟨k, h, _⟩ <;> exact hm (by rw [h]; trivial)
    have ph := R.ph hu
    have pc := R.pc cu
    have pw := fun q hq => R.pw q hq (wu q hq)
    by_cases h1 : ∃ q pp, q < C.W ∧ s.ws q = .snd pp
    · obtain ⟨q, pp, hq, hs⟩ := h1
      have hmr : s.m = .rcv := by
        cases hm' : s.m with
        | rcv => rfl
        | wai => have := G.clo (.inr (G.mwai (.inl hm'))) q hq; rw [hs] at this; cases this
        | ret => have := G.clo (.inr (G.mwai (.inr hm'))) q hq; rw [hs] at this; cases this
        | _ => exact absurd (by rw [hm']; trivial) hm
      obtain ⟨ok, Kk, e⟩ := mRcv_head (C := C) (C.n - s.R.length) s.R
      have p0' : a.pr 0 = .at (.rcv C.rs ok Kk (C.mWai s.R)) := by rw [p0, ← e]; unfold GCtx.main; rw [hmr]
      have pq := pw q hq
      unfold GCtx.work at pq
      rw [hs] at pq
      exact .inl ⟨_, .comm (C.b0 + 1 + q) 0 C.rs _ _ _ _ _ (by omega) (by omega) hn0 pq p0'⟩
    by_cases h2 : ∃ q, q < C.W ∧ s.ws q = .don
    · obtain ⟨q, hq, hs⟩ := h2
      have pq := pw q hq
      unfold GCtx.work at pq
      rw [hs] at pq
      have hv := ((ok K G R).don (C.b0 + 1 + q) C.ww (by omega) pq).2.1
      exact .inl ⟨_, .don (C.b0 + 1 + q) C.ww (a.v C.ww - 1) (by omega) pq (by omega)⟩
    have h3 : ∀ q, q < C.W → s.ws q = .rcv ∨ s.ws q = .dead := fun q hq => by
      cases hs : s.ws q with
      | unb => exact absurd hs (wu q hq)
      | rcv => exact .inl rfl
      | snd pp => exact absurd ⟨q, pp, hq, hs⟩ h1
      | don => exact absurd ⟨q, hq, hs⟩ h2
      | dead => exact .inr rfl
    have h0W := K.W
    by_cases h4 : ∃ q, q < C.W ∧ s.ws q = .rcv
    · obtain ⟨q, hq, hs⟩ := h4
      have pq := pw q hq
      unfold GCtx.work at pq
      rw [hs] at pq
      obtain ⟨ok', K', e⟩ := workS_head (C := C) (s.f q)
      simp only at pq
      rw [e] at pq
      unfold GCtx.hand at ph
      cases hs' : s.h with
      | unb => exact absurd hs' hu
      | run =>
        rw [hs'] at ph
        simp only at ph
        rcases handS_head (C := C) s.i (C.n - s.i) with ⟨_, e'⟩ | ⟨_, m', _, e'⟩
        · rw [e'] at ph; exact .inl ⟨_, .cls C.b0 C.pl _ (by omega) ph⟩
        · rw [e'] at ph; exact .inl ⟨_, .comm C.b0 (C.b0 + 1 + q) C.pl _ _ _ _ _ (by omega) (by omega) (by omega) ph pq⟩
      | don => exact .inl ⟨_, .clsd (C.b0 + 1 + q) C.pl _ _ _ (by omega) pq (by rw [R.chp, if_neg hu]; simp [hs'])⟩
      | dead => exact .inl ⟨_, .clsd (C.b0 + 1 + q) C.pl _ _ _ (by omega) pq (by rw [R.chp, if_neg hu]; simp [hs'])⟩
    have h5 : ∀ q, q < C.W → s.ws q = .dead := fun q hq => (h3 q hq).resolve_left fun e => h4 ⟨q, hq, e⟩
    unfold GCtx.hand at ph
    rcases G.past 0 h0W (.inr (h5 0 h0W)) with hs' | hs'
    · rw [hs'] at ph
      have hv := ((ok K G R).don C.b0 C.wh (by omega) ph).2.1
      exact .inl ⟨_, .don C.b0 C.wh (a.v C.wh - 1) (by omega) ph (by omega)⟩
    unfold GCtx.closer at pc
    cases hc : s.c with
    | unb => exact absurd hc cu
    | wai =>
      rw [hc] at pc
      refine .inl ⟨_, .wai (C.b0 + 1 + C.W) C.ww _ (by omega) pc ?_⟩
      rw [vw_of R (by rintro (h | h | h) <;> exact hm (by rw [h]; trivial))]
      exact sum_zero fun q hq => by rw [h5 q hq]; rfl
    | cls => rw [hc] at pc; exact .inl ⟨_, .cls (C.b0 + 1 + C.W) C.rs _ (by omega) pc⟩
    | don =>
      rw [hc] at pc
      have hv := ((ok K G R).don (C.b0 + 1 + C.W) C.wh (by omega) pc).2.1
      exact .inl ⟨_, .don (C.b0 + 1 + C.W) C.wh (a.v C.wh - 1) (by omega) pc (by omega)⟩
    | dead => exact .inr ⟨hs', rfl⟩
  rcases main_head C s with ⟨hm, h'⟩ | ⟨hm, h'⟩ | ⟨hm, h'⟩ | ⟨_, _, _, _, _, hm, h'⟩ | ⟨_, _, hm, h'⟩ | ⟨hm, h'⟩ | ⟨hm, h'⟩ <;> rw [h'] at p0
  · exact .inr ⟨_, .add 0 _ _ _ hn0 p0⟩
  · exact .inr ⟨_, .spw _ _ _ _ p0⟩
  · exact .inr ⟨_, .add 0 _ _ _ hn0 p0⟩
  · exact .inr ⟨_, .spw _ _ _ _ p0⟩
  · rcases late (by rw [hm]; exact id) with h | ⟨h1, h2⟩
    · exact .inr h
    · refine .inr ⟨_, .clsd 0 C.rs _ _ _ hn0 p0 ?_⟩
      rw [R.chr, if_neg (by rw [h1]; simp)]; simp [h2]
  · rcases late (by rw [hm]; exact id) with h | ⟨h1, h2⟩
    · exact .inr h
    · exact .inr ⟨_, .wai 0 _ _ hn0 p0 (by rw [vh_of R (by rw [hm]; simp), if_pos h1, if_pos h2])⟩
  · exact .inl ⟨_, p0⟩
end GCtx
end Go.Proofs.Ytmkjoojoaldljaa.Net
namespace Go.Proofs.Ytmkjoojoaldljaa.Net
open Go.Conc
open Go.ConcN (sumTo upd upd_same upd_ne sumTo_upd)
namespace GCtx
variable {C : GCtx} {X : Ctx} {s : St} {a : Abs}
def mr (C : GCtx) (s : St) : Nat :=
  match s.m with
  | .add1 => C.W + C.n + 8 | .spwH => C.W + C.n + 7 | .add2 => C.W + C.n + 6 | .spwW k => (C.W - k) + C.n + 5
  | .rcv => (C.n - s.R.length) + 3 | .wai => 2 | .ret => 1
def hr (C : GCtx) (s : St) : Nat :=
  match s.h with
  | .unb => C.n + 3 | .run => (C.n - s.i) + 3 | .don => 2 | .dead => 1
def wr (C : GCtx) (w : WSt) (f : Nat) : Nat :=
  match w with
  | .unb => 2 * C.n + 3 | .rcv => 2 * f + 3 | .snd _ => 2 * f + 4 | .don => 2 | .dead => 1
def cr (c : CSt) : Nat :=
  match c with
  | .unb => 4 | .wai => 4 | .cls => 3 | .don => 2 | .dead => 1
def rank (C : GCtx) (s : St) : Nat := C.mr s + C.hr s + sumTo C.W (fun q => C.wr (s.ws q) (s.f q)) + cr s.c
theorem least {p : Nat → Prop} (h : ∃ n, p n) : ∃ n, p n ∧ ∀ m, p m → n ≤ m := by
  obtain ⟨n, hn⟩ := h
  induction n using Nat.strongRecOn with
  | _ n ih =>
    by_cases hx : ∃ m, m < n ∧ p m
    · obtain ⟨m, hm, hp⟩ := hx; exact ih m hm hp
    · exact ⟨n, hn, fun m hm => Nat.le_of_not_lt fun hlt => hx ⟨m, hlt, hm⟩⟩
open Classical in
noncomputable def A (C : GCtx) (a : Abs) : Nat := if h : ∃ r, ∃ s, C.Good s ∧ C.Rep a s ∧ C.rank s = r then Classical.choose (least h) else 0
theorem A_spec (h : ∃ s, C.Good s ∧ C.Rep a s) : (∃ s, C.Good s ∧ C.Rep a s ∧ C.rank s = C.A a) ∧ ∀ s, C.Good s → C.Rep a s → C.A a ≤ C.rank s := by
  have h' : ∃ r, ∃ s, C.Good s ∧ C.Rep a s ∧ C.rank s = r := by obtain ⟨s, h1, h2⟩ := h; exact ⟨_, s, h1, h2, rfl⟩
  have e : C.A a = Classical.choose (least h') := by unfold A; rw [dif_pos h']
  obtain ⟨h1, h2⟩ := Classical.choose_spec (least h')
  rw [← e] at h1 h2
  exact ⟨h1, fun s hs hr => h2 _ ⟨s, hs, hr, rfl⟩⟩
end GCtx
end Go.Proofs.Ytmkjoojoaldljaa.Net
namespace Go.Proofs.Ytmkjoojoaldljaa.Net
open Go.Conc
open Go.ConcN (sumTo upd upd_same upd_ne sumTo_upd)
namespace GCtx
variable {C : GCtx} {X : Ctx} {s : St} {a : Abs}
theorem step_add1 (K : C.Ok X) (G : C.Good s) (R : C.Rep a s) (hm : s.m = .add1) :
    ∃ s', C.Good s' ∧ C.Rep { a with pr := upd a.pr 0 (.at C.mSpwH), v := upd a.v C.wh (a.v C.wh + 2) } s' ∧ C.rank s' < C.rank s := by
  have hu : s.h = .unb := G.hub.2 (.inl hm)
  have cu : s.c = .unb := G.cub.2 (by rw [hm]; trivial)
  have wu : ∀ q, q < C.W → s.ws q = .unb := fun q hq => (G.wub q hq).2 (.inl hm)
  refine ⟨{ s with m := .spwH }, ⟨G.hi, G.cnt, G.mem, G.plt, G.fl, G.fsum, G.past, G.hn, G.clo, ?_, ?_, ?_, G.hub0, ?_, ?_, ?_, fun _ => G.Rub (by rw [hm]; trivial), G.fub⟩, ⟨?_, ?_, ?_, ?_, ?_, ?_, R.chp, R.chr, R.che, ?_, ?_, R.sdh, R.sdw, R.gw, R.vc, R.gh, R.gc, ?_⟩, ?_⟩
  · rintro (h | h) <;> cases h
  · intro h; cases h
  · exact ⟨fun _ => .inr rfl, fun _ => hu⟩
  · exact fun q hq => ⟨fun _ => .inr (.inl rfl), fun _ => wu q hq⟩
  · exact ⟨fun _ => trivial, fun _ => cu⟩
  · intro k h; cases h
  · have := R.n; unfold born at this ⊢; rw [hm] at this; exact this
  · exact upd_same a.pr 0 _
  · exact fun h => absurd hu h
  · exact fun q hq h => absurd (wu q hq) h
  · exact fun h => absurd cu h
  · exact fun i h0 hb => (upd_ne _ _ (by omega)).trans (R.old i h0 hb)
  · show upd a.v C.wh (a.v C.wh + 2) C.wh = _
    rw [upd_same, R.vh, if_pos hm, if_neg (by simp)]
    simp [hu, cu]
  · show upd a.v C.wh (a.v C.wh + 2) C.ww = _
    rw [upd_ne _ _ (Ne.symm K.gg), R.vw, if_pos (.inl hm)]
    simp
  · intro h; cases h
  · unfold rank mr hr; rw [hm]; simp only; omega
theorem step_add2 (K : C.Ok X) (G : C.Good s) (R : C.Rep a s) (hm : s.m = .add2) :
    ∃ s', C.Good s' ∧ C.Rep { a with pr := upd a.pr 0 (.at (C.mSpwW C.W)), v := upd a.v C.ww (a.v C.ww + C.W) } s' ∧ C.rank s' < C.rank s := by
  have hu : s.h ≠ .unb := fun e => by rcases G.hub.1 e with h | h <;> rw [hm] at h <;> cases h
  have cu : s.c = .unb := G.cub.2 (by rw [hm]; trivial)
  have wu : ∀ q, q < C.W → s.ws q = .unb := fun q hq => (G.wub q hq).2 (.inr (.inr (.inl hm)))
  have hsum : sumTo C.W (fun q => lives (s.ws q)) = C.W := by
    have : ∀ n, n ≤ C.W → sumTo n (fun q => lives (s.ws q)) = n := by
      intro n
      induction n with
      | zero => intro _; rfl
      | succ n ih => intro h; simp only [sumTo]; rw [ih (by omega), wu n (by omega)]; rfl
    exact this C.W (Nat.le_refl _)
  refine ⟨{ s with m := .spwW 0 }, ⟨G.hi, G.cnt, G.mem, G.plt, G.fl, G.fsum, G.past, G.hn, G.clo, ?_, ?_, ?_, G.hub0, ?_, ?_, ?_, fun _ => G.Rub (by rw [hm]; trivial), G.fub⟩, ⟨?_, ?_, ?_, ?_, ?_, ?_, R.chp, R.chr, R.che, ?_, ?_, R.sdh, R.sdw, R.gw, R.vc, R.gh, R.gc, ?_⟩, ?_⟩
  · rintro (h | h) <;> cases h
  · intro h; cases h
  · exact ⟨fun h => absurd h hu, fun h => by rcases h with h | h <;> cases h⟩
  · exact fun q hq => ⟨fun _ => .inr (.inr (.inr ⟨0, rfl, Nat.zero_le _⟩)), fun _ => wu q hq⟩
  · exact ⟨fun _ => trivial, fun _ => cu⟩
  · intro k h; cases h; exact Nat.zero_le _
  · have := R.n; unfold born at this ⊢; rw [hm] at this; exact this
  · exact upd_same a.pr 0 _
  · exact fun h => (upd_ne _ _ (by have := K.b0; omega)).trans (R.ph h)
  · exact fun q hq h => absurd (wu q hq) h
  · exact fun h => absurd cu h
  · exact fun i h0 hb => (upd_ne _ _ (by omega)).trans (R.old i h0 hb)
  · show upd a.v C.ww (a.v C.ww + C.W) C.wh = _
    rw [upd_ne _ _ K.gg, vh_of R (by rw [hm]; simp)]
    simp
  · show upd a.v C.ww (a.v C.ww + C.W) C.ww = _
    rw [upd_same, R.vw, if_pos (.inr (.inr hm)), if_neg (by simp), hsum]; omega
  · intro h; cases h
  · unfold rank mr hr; rw [hm]; simp only; omega
open Classical in
theorem step_spwH (K : C.Ok X) (G : C.Good s) (R : C.Rep a s) (hm : s.m = .spwH) :
    ∃ s', C.Good s' ∧ C.Rep { a with n := a.n + 1, pr := upd (upd a.pr 0 (.at C.mAdd2)) a.n (.at (handS C.wh C.pl 0 C.n)), ch := fun c => if c = C.pl ∨ c = C.rs ∨ c = C.en then some false else a.ch c, sd := fun b => if False then a.n else a.sd b, vou := upd a.vou a.n fun _ => False } s' ∧ C.rank s' < C.rank s := by
  have hu : s.h = .unb := G.hub.2 (.inr hm)
  have hi0 : s.i = 0 := G.hub0 hu
  have cu : s.c = .unb := G.cub.2 (by rw [hm]; trivial)
  have wu : ∀ q, q < C.W → s.ws q = .unb := fun q hq => (G.wub q hq).2 (.inr (.inl hm))
  have hn : a.n = C.b0 := by have := R.n; unfold born at this; rw [hm] at this; exact this
  have hb0 := K.b0
  refine ⟨{ s with m := .add2, h := .run }, ⟨G.hi, G.cnt, G.mem, G.plt, G.fl, G.fsum, fun q hq h => ?_, ?_, G.clo, ?_, ?_, ?_, ?_, ?_, ?_, ?_, fun _ => G.Rub (by rw [hm]; trivial), G.fub⟩, ⟨?_, ?_, ?_, ?_, ?_, ?_, ?_, ?_, ?_, ?_, ?_, ?_, ?_, R.gw, ?_, ?_, R.gc, ?_⟩, ?_⟩
  · rcases h with h | h <;> rw [show s.ws q = .unb from wu q hq] at h <;> cases h
  · rintro (h | h) <;> cases h
  · rintro (h | h) <;> cases h
  · intro h; cases h
  · exact ⟨fun h => (by cases h), fun h => (by rcases h with h | h <;> cases h)⟩
  · intro h; cases h
  · exact fun q hq => ⟨fun _ => .inr (.inr (.inl rfl)), fun _ => wu q hq⟩
  · exact ⟨fun _ => trivial, fun _ => cu⟩
  · intro k h; cases h
  · show a.n + 1 = C.b0 + 1
    omega
  · show upd (upd a.pr 0 _) a.n _ 0 = _
    rw [upd_ne _ _ (by omega), upd_same]; rfl
  · intro _
    show upd (upd a.pr 0 _) a.n _ C.b0 = _
    rw [← hn, upd_same]
    show _ = Proc.at (handS C.wh C.pl s.i (C.n - s.i))
    rw [hi0]; rfl
  · exact fun q hq h => absurd (wu q hq) h
  · exact fun h => absurd cu h
  · intro i h0 hb
    show upd (upd a.pr 0 _) a.n _ i = _
    rw [upd_ne _ _ (by omega), upd_ne _ _ (by omega)]; exact R.old i h0 hb
  · simp
  · simp [cu]
  · simp
  · show a.v C.wh = _
    rw [vh_of R (by rw [hm]; simp)]; simp [hu, cu]
  · show a.v C.ww = _
    rw [R.vw, if_pos (.inr (.inl hm))]; simp
  · simp [R.sdh]
  · show (if False then a.n else a.sd C.ww) = _
    rw [if_neg id, R.sdw]
  · rintro (h | h | h) <;> rw [show s.c = .unb from cu] at h <;> cases h
  · intro h; cases h
  · intro h; cases h
  · unfold rank mr hr; rw [hm, hu, hi0]; simp only; omega
theorem sum_upd_same {h : WSt → Nat → Nat} {ws : Nat → WSt} {f : Nat → Nat} {k : Nat} {x : WSt} : ∀ {n : Nat}, (h x (f k) = h (ws k) (f k)) → sumTo n (fun q => h (upd ws k x q) (f q)) = sumTo n (fun q => h (ws q) (f q))
  | 0, _ => rfl
  | n + 1, e => by
    simp only [sumTo]
    rw [sum_upd_same e]
    by_cases hk : n = k
    · subst hk; rw [upd_same, e]
    · rw [upd_ne _ _ hk]
open Classical in
theorem step_spwW (K : C.Ok X) (G : C.Good s) (R : C.Rep a s) {k : Nat} (hm : s.m = .spwW k) (hk : k < C.W) :
    ∃ s', C.Good s' ∧ C.Rep { a with n := a.n + 1, pr := upd (upd a.pr 0 (.at (C.mSpwW (C.W - (k + 1))))) a.n (.at (C.workerS C.n)), ch := fun c => if False then some false else a.ch c, sd := fun b => if False then a.n else a.sd b, vou := upd a.vou a.n fun _ => False } s' ∧ C.rank s' < C.rank s := by
  have hu : s.h ≠ .unb := fun e => by rcases G.hub.1 e with h | h <;> rw [hm] at h <;> cases h
  have cu : s.c = .unb := G.cub.2 (by rw [hm]; trivial)
  have hwk : s.ws k = .unb := (G.wub k hk).2 (.inr (.inr (.inr ⟨k, hm, Nat.le_refl _⟩)))
  have hfk := G.fub k hk hwk
  have hn : a.n = C.b0 + 1 + k := by have := R.n; unfold born at this; rw [hm] at this; exact this
  have hb0 := K.b0
  refine ⟨{ s with m := .spwW (k + 1), ws := upd s.ws k .rcv }, ?_, ?_, ?_⟩
  · have hold := sum_upd_same (h := fun w _ => holds w) (ws := s.ws) (f := s.f) (k := k) (x := .rcv) (n := C.W) (by rw [hwk]; rfl)
    refine ⟨G.hi, by have := G.cnt; rw [← hold] at this; exact this, fun p hp => ?_, fun q p hq h => ?_, G.fl, G.fsum, fun q hq h => ?_, G.hn, fun h => ?_, ?_, ?_, ?_, G.hub0, fun q hq => ?_, ?_, ?_, fun _ => G.Rub (by rw [hm]; trivial), fun q hq h => ?_⟩
    · rcases G.mem p hp with h | ⟨q, hq, h⟩
      · exact .inl h
      · refine .inr ⟨q, hq, ?_⟩
        show upd s.ws k .rcv q = _
        rw [upd_ne _ _ (by rintro rfl; rw [hwk] at h; cases h)]; exact h
    · have h' : upd s.ws k .rcv q = .snd p := h
      by_cases e : q = k
      · subst e; rw [upd_same] at h'; cases h'
      · rw [upd_ne _ _ e] at h'; exact G.plt q p hq h'
    · have h' : upd s.ws k .rcv q = .don ∨ upd s.ws k .rcv q = .dead := h
      by_cases e : q = k
      · subst e; rw [upd_same] at h'; rcases h' with h' | h' <;> cases h'
      · rw [upd_ne _ _ e] at h'; exact G.past q hq h'
    · rcases h with h | h | h <;> rw [show s.c = .unb from cu] at h <;> cases h
    · rintro (h | h) <;> cases h
    · intro h; cases h
    · exact ⟨fun h => absurd h hu, fun h => by rcases h with h | h <;> cases h⟩
    · show upd s.ws k .rcv q = .unb ↔ _
      by_cases e : q = k
      · subst e
        rw [upd_same]
        refine ⟨fun h => (by cases h), fun h => ?_⟩
        rcases h with h | h | h | ⟨k', h, h2⟩ <;> cases h
        omega
      · rw [upd_ne _ _ e, G.wub q hq]
        constructor
        · rintro (h | h | h | ⟨k', h, h2⟩)
          · rw [hm] at h; cases h
          · rw [hm] at h; cases h
          · rw [hm] at h; cases h
          · rw [hm] at h; cases h; exact .inr (.inr (.inr ⟨k + 1, rfl, by omega⟩))
        · rintro (h | h | h | ⟨k', h, h2⟩) <;> cases h
          exact .inr (.inr (.inr ⟨k, hm, by omega⟩))
    · exact ⟨fun _ => trivial, fun _ => cu⟩
    · intro k' h; cases h; omega
    · have h' : upd s.ws k .rcv q = .unb := h
      by_cases e : q = k
      · subst e; rw [upd_same] at h'; cases h'
      · rw [upd_ne _ _ e] at h'; exact G.fub q hq h'
  · have hliv := sum_upd_same (h := fun w _ => lives w) (ws := s.ws) (f := s.f) (k := k) (x := .rcv) (n := C.W) (by rw [hwk]; rfl)
    refine ⟨?_, ?_, fun _ => ?_, fun q hq h => ?_, fun h => absurd cu h, fun i h0 hb => ?_, ?_, ?_, ?_, ?_, ?_, ?_, ?_, fun q hq h => ?_, ?_, R.gh, R.gc, ?_⟩
    · show a.n + 1 = C.b0 + 1 + (k + 1)
      omega
    · show upd (upd a.pr 0 _) a.n _ 0 = _
      rw [upd_ne _ _ (by omega), upd_same]; rfl
    · show upd (upd a.pr 0 _) a.n _ C.b0 = _
      rw [upd_ne _ _ (by omega), upd_ne _ _ (by omega)]; exact R.ph hu
    · show upd (upd a.pr 0 _) a.n _ (C.b0 + 1 + q) = _
      by_cases e : q = k
      · subst e
        rw [← hn, upd_same]
        unfold GCtx.work
        simp only [upd_same, hfk]
      · rw [upd_ne _ _ (by omega), upd_ne _ _ (by omega), R.pw q hq (by have h' : upd s.ws k .rcv q ≠ .unb := h; rwa [upd_ne _ _ e] at h')]
        unfold GCtx.work
        simp only [upd_ne _ _ e]
    · show upd (upd a.pr 0 _) a.n _ i = _
      rw [upd_ne _ _ (by omega), upd_ne _ _ (by omega)]; exact R.old i h0 hb
    · simp [R.chp]
    · simp [R.chr]
    · simp [R.che]
    · show a.v C.wh = _
      rw [vh_of R (by rw [hm]; simp)]; simp
    · show a.v C.ww = _
      rw [vw_of R (by rw [hm]; simp), ← hliv]; simp
    · simp [R.sdh]
    · simp [R.sdw]
    · have h' : upd s.ws k .rcv q = .dead := h
      have e : q ≠ k := by rintro rfl; rw [upd_same] at h'; cases h'
      rw [upd_ne _ _ e] at h'
      exact R.gw q hq h'
    · rintro (h | h | h) <;> rw [show s.c = .unb from cu] at h <;> cases h
    · intro h; cases h
  · have e := sum_upd_same (h := C.wr) (ws := s.ws) (f := s.f) (k := k) (x := .rcv) (n := C.W) (by rw [hwk, hfk]; rfl)
    unfold rank mr hr
    simp only [hm]
    rw [e]
    omega
open Classical in
theorem step_spwC (K : C.Ok X) (G : C.Good s) (R : C.Rep a s) (hm : s.m = .spwW C.W) :
    ∃ s', C.Good s' ∧ C.Rep { a with n := a.n + 1, pr := upd (upd a.pr 0 (.at (C.mRcv C.n []))) a.n (.at C.closerS), ch := fun c => if False then some false else a.ch c, sd := fun b => if b = C.ww then a.n else a.sd b, vou := upd a.vou a.n fun _ => False } s' ∧ C.rank s' < C.rank s := by
  have hu : s.h ≠ .unb := fun e => by rcases G.hub.1 e with h | h <;> rw [hm] at h <;> cases h
  have cu : s.c = .unb := G.cub.2 (by rw [hm]; trivial)
  have hR : s.R = [] := G.Rub (by rw [hm]; trivial)
  have hn : a.n = C.b0 + 1 + C.W := by have := R.n; unfold born at this; rw [hm] at this; exact this
  have hb0 := K.b0
  refine ⟨{ s with m := .rcv, c := .wai }, ⟨G.hi, G.cnt, G.mem, G.plt, G.fl, G.fsum, G.past, G.hn, ?_, ?_, ?_, ?_, G.hub0, fun q hq => ?_, ?_, ?_, ?_, G.fub⟩, ⟨?_, ?_, fun _ => ?_, fun q hq h => ?_, fun _ => ?_, fun i h0 hb => ?_, ?_, ?_, ?_, ?_, ?_, ?_, ?_, R.gw, ?_, R.gh, ?_, ?_⟩, ?_⟩
  · rintro (h | h | h) <;> cases h
  · rintro (h | h) <;> cases h
  · intro h; cases h
  · exact ⟨fun h => absurd h hu, fun h => (by rcases h with h | h <;> cases h)⟩
  · refine ⟨fun h => ?_, fun h => (by rcases h with h | h | h | ⟨_, h, _⟩ <;> cases h)⟩
    rcases (G.wub q hq).1 h with h | h | h | ⟨k', h, h2⟩ <;> rw [hm] at h <;> cases h
    omega
  · exact ⟨fun h => (by cases h), fun h => h.elim⟩
  · intro k h; cases h
  · exact fun h => h.elim
  · show a.n + 1 = C.b0 + 2 + C.W
    omega
  · show upd (upd a.pr 0 _) a.n _ 0 = _
    rw [upd_ne _ _ (by omega), upd_same]
    show _ = Proc.at (C.mRcv (C.n - s.R.length) s.R)
    rw [hR]; rfl
  · show upd (upd a.pr 0 _) a.n _ C.b0 = _
    rw [upd_ne _ _ (by omega), upd_ne _ _ (by omega)]; exact R.ph hu
  · show upd (upd a.pr 0 _) a.n _ (C.b0 + 1 + q) = _
    rw [upd_ne _ _ (by omega), upd_ne _ _ (by omega)]; exact R.pw q hq h
  · show upd (upd a.pr 0 _) a.n _ (C.b0 + 1 + C.W) = _
    rw [← hn, upd_same]; rfl
  · show upd (upd a.pr 0 _) a.n _ i = _
    rw [upd_ne _ _ (by omega), upd_ne _ _ (by omega)]; exact R.old i h0 hb
  · simp [R.chp]
  · simp [R.chr, cu]
  · simp [R.che]
  · show a.v C.wh = _
    rw [vh_of R (by rw [hm]; simp)]; simp [cu]
  · show a.v C.ww = _
    rw [vw_of R (by rw [hm]; simp)]; simp
  · show (if C.wh = C.ww then a.n else a.sd C.wh) = 0
    rw [if_neg K.gg]; exact R.sdh
  · show (if C.ww = C.ww then a.n else a.sd C.ww) = _
    rw [if_pos rfl, hn]; simp
  · rintro (h | h | h) <;> cases h
  · intro h; cases h
  · intro h; cases h
  · unfold rank mr hr cr; rw [hm, cu, hR]; simp
end GCtx
end Go.Proofs.Ytmkjoojoaldljaa.Net
namespace Go.Proofs.Ytmkjoojoaldljaa.Net
open Go.Conc
open Go.ConcN (sumTo upd upd_same upd_ne sumTo_upd)
namespace GCtx
variable {C : GCtx} {X : Ctx} {s : St} {a : Abs}
theorem step_wai0 (K : C.Ok X) (G : C.Good s) (R : C.Rep a s) (hm : s.m = .wai) (hv : a.v C.wh = 0) :
    ∃ s', C.Good s' ∧ C.Rep { a with pr := upd a.pr 0 (.at (.ret (C.Fin s.R))), vou := upd a.vou 0 fun j => a.vou 0 j ∨ a.grp C.wh j } s' ∧ C.rank s' < C.rank s := by
  have hb0 := K.b0
  rw [vh_of R (by rw [hm]; simp)] at hv
  have hd : s.h = .dead := Classical.byContradiction fun h => by rw [if_neg h] at hv; omega
  have cd : s.c = .dead := Classical.byContradiction fun h => by rw [if_neg (c := s.c = .dead) h] at hv; omega
  refine ⟨{ s with m := .ret }, ⟨G.hi, G.cnt, G.mem, G.plt, G.fl, G.fsum, G.past, G.hn, G.clo, fun _ => .inr cd, fun _ => ⟨hd, cd⟩, ?_, G.hub0, fun q hq => ?_, ?_, ?_, fun h => h.elim, G.fub⟩, ⟨?_, ?_, fun h => ?_, fun q hq h => ?_, fun h => ?_, fun i h0 hb => ?_, R.chp, R.chr, R.che, ?_, ?_, R.sdh, R.sdw, R.gw, fun h q hq => ?_, R.gh, R.gc, fun _ j h1 h2 => ?_⟩, ?_⟩
  · exact ⟨fun h => (by rw [show s.h = .dead from hd] at h; cases h), fun h => (by rcases h with h | h <;> cases h)⟩
  · refine ⟨fun h => ?_, fun h => (by rcases h with h | h | h | ⟨_, h, _⟩ <;> cases h)⟩
    rcases (G.wub q hq).1 h with h | h | h | ⟨k', h, h2⟩ <;> rw [hm] at h <;> cases h
  · exact ⟨fun h => (by rw [show s.c = .dead from cd] at h; cases h), fun h => h.elim⟩
  · intro k h; cases h
  · have := R.n; unfold born at this ⊢; rw [hm] at this; exact this
  · exact upd_same a.pr 0 _
  · exact (upd_ne _ _ (by omega)).trans (R.ph h)
  · exact (upd_ne _ _ (by omega)).trans (R.pw q hq h)
  · exact (upd_ne _ _ (by omega)).trans (R.pc h)
  · exact (upd_ne _ _ (by omega)).trans (R.old i h0 hb)
  · have := R.vh; rw [if_neg (by rw [hm]; simp)] at this; rw [if_neg (by simp)]; exact this
  · have := R.vw; rw [if_neg (by rw [hm]; simp)] at this; rw [if_neg (by simp)]; exact this
  · show upd a.vou 0 _ (C.b0 + 1 + C.W) _
    rw [upd_ne _ _ (by omega)]; exact R.vc h q hq
  · show upd a.vou 0 _ 0 j
    rw [upd_same]
    refine .inr ?_
    by_cases e : j = C.b0
    · rw [e]; exact R.gh hd
    · by_cases e' : j = C.b0 + 1 + C.W
      · rw [e']; exact (R.gc cd).1
      · have := (R.gc cd).2 (j - (C.b0 + 1)) (by omega)
        rwa [show C.b0 + 1 + (j - (C.b0 + 1)) = j by omega] at this
  · unfold rank mr hr cr; rw [hm]; simp
theorem sum_zero_inv {h : Nat → Nat} : ∀ {n : Nat}, sumTo n h = 0 → ∀ q, q < n → h q = 0
  | n + 1, e, q, hq => by
    simp only [sumTo] at e
    rcases Nat.lt_succ_iff_lt_or_eq.1 hq with h' | rfl
    · exact sum_zero_inv (by omega) q h'
    · omega
theorem late_of (G : C.Good s) (h : s.c ≠ .unb) : s.m ≠ .add1 ∧ s.m ≠ .spwH ∧ s.m ≠ .add2 ∧ (∀ k, s.m ≠ .spwW k) ∧ s.h ≠ .unb ∧ ∀ q, q < C.W → s.ws q ≠ .unb := by
  have hm : ¬ GCtx.MSt.early s.m := fun x => h (G.cub.2 x)
  have h1 : ∀ x, GCtx.MSt.early x → s.m ≠ x := fun x hx e => hm (by rw [e]; exact hx)
  exact ⟨h1 _ trivial, h1 _ trivial, h1 _ trivial, fun k => h1 (.spwW k) trivial, fun e => by rcases G.hub.1 e with h | h <;> exact hm (by rw [h]; trivial), fun q hq e => by
    rcases (G.wub q hq).1 e with h | h | h | ⟨k, h, _⟩ <;> exact hm (by rw [h]; trivial)⟩
theorem step_waiC (K : C.Ok X) (G : C.Good s) (R : C.Rep a s) (hc : s.c = .wai) (hv : a.v C.ww = 0) :
    ∃ s', C.Good s' ∧ C.Rep { a with pr := upd a.pr (C.b0 + 1 + C.W) (.at (.cls C.rs (.don C.wh))), vou := upd a.vou (C.b0 + 1 + C.W) fun j => a.vou (C.b0 + 1 + C.W) j ∨ a.grp C.ww j } s' ∧ C.rank s' < C.rank s := by
  have hb0 := K.b0
  obtain ⟨m1, m2, m3, m4, hu, wu⟩ := late_of G (by rw [hc]; simp)
  rw [vw_of R (by rintro (h | h | h) <;> contradiction)] at hv
  have wd : ∀ q, q < C.W → s.ws q = .dead := fun q hq => by
    have := sum_zero_inv hv q hq
    revert this
    cases s.ws q <;> simp [lives]
  have mr' : ¬ (s.m = .wai ∨ s.m = .ret) := fun h => by have := G.mwai h; rw [hc] at this; rcases this with h | h <;> cases h
  refine ⟨{ s with c := .cls }, ⟨G.hi, G.cnt, G.mem, G.plt, G.fl, G.fsum, G.past, G.hn, fun _ => wd, fun h => absurd h mr', fun h => absurd (.inr h) mr', G.hub, G.hub0, G.wub, ⟨fun h => (by cases h), fun h => absurd (G.cub.2 h) (by rw [hc]; simp)⟩, G.kW, G.Rub, G.fub⟩,
    ⟨?_, ?_, fun h => ?_, fun q hq h => ?_, fun _ => ?_, fun i h0 hb => ?_, R.chp, ?_, R.che, ?_, R.vw, R.sdh, ?_, R.gw, fun _ q hq => ?_, R.gh, ?_, fun h => absurd (.inr h) mr'⟩, ?_⟩
  · have := R.n; unfold born at this ⊢; exact this
  · exact (upd_ne _ _ (by omega)).trans R.p0
  · exact (upd_ne _ _ (by omega)).trans (R.ph h)
  · exact (upd_ne _ _ (by omega)).trans (R.pw q hq h)
  · exact upd_same a.pr _ _
  · exact (upd_ne _ _ (by omega)).trans (R.old i h0 hb)
  · rw [R.chr, hc]; simp
  · rw [R.vh, hc]; simp
  · rw [R.sdw, hc]; simp
  · show upd a.vou _ _ (C.b0 + 1 + C.W) _
    rw [upd_same]; exact .inr (R.gw q hq (wd q hq))
  · intro h; cases h
  · unfold rank mr hr cr; rw [hc]; simp
theorem step_clsC (K : C.Ok X) (G : C.Good s) (R : C.Rep a s) (hc : s.c = .cls) :
    ∃ s', C.Good s' ∧ C.Rep { a with pr := upd a.pr (C.b0 + 1 + C.W) (.at (.don C.wh)), ch := upd a.ch C.rs (some true) } s' ∧ C.rank s' < C.rank s := by
  have hb0 := K.b0
  obtain ⟨m1, m2, m3, m4, hu, wu⟩ := late_of G (by rw [hc]; simp)
  have mr' : ¬ (s.m = .wai ∨ s.m = .ret) := fun h => by have := G.mwai h; rw [hc] at this; rcases this with h | h <;> cases h
  refine ⟨{ s with c := .don }, ⟨G.hi, G.cnt, G.mem, G.plt, G.fl, G.fsum, G.past, G.hn, fun _ => G.clo (.inl hc), fun _ => .inl rfl, fun h => absurd (.inr h) mr', G.hub, G.hub0, G.wub, ⟨fun h => (by cases h), fun h => absurd (G.cub.2 h) (by rw [hc]; simp)⟩, G.kW, G.Rub, G.fub⟩,
    ⟨?_, ?_, fun h => ?_, fun q hq h => ?_, fun _ => ?_, fun i h0 hb => ?_, ?_, ?_, ?_, ?_, R.vw, R.sdh, ?_, R.gw, fun _ q hq => R.vc (.inl hc) q hq, R.gh, ?_, fun h => absurd (.inr h) mr'⟩, ?_⟩
  · have := R.n; unfold born at this ⊢; exact this
  · exact (upd_ne _ _ (by omega)).trans R.p0
  · exact (upd_ne _ _ (by omega)).trans (R.ph h)
  · exact (upd_ne _ _ (by omega)).trans (R.pw q hq h)
  · exact upd_same a.pr _ _
  · exact (upd_ne _ _ (by omega)).trans (R.old i h0 hb)
  · exact (upd_ne _ _ K.ps).trans R.chp
  · show upd a.ch C.rs (some true) C.rs = _
    rw [upd_same, if_neg hu]; simp
  · exact (upd_ne _ _ (Ne.symm K.re)).trans R.che
  · rw [R.vh, hc]; simp
  · rw [R.sdw, hc]; simp
  · intro h; cases h
  · unfold rank mr hr cr; rw [hc]; simp
theorem step_donC (K : C.Ok X) (G : C.Good s) (R : C.Rep a s) (hc : s.c = .don) {v : Nat} (hv : a.v C.wh = v + 1) :
    ∃ s', C.Good s' ∧ C.Rep { a with pr := upd a.pr (C.b0 + 1 + C.W) .dead, v := upd a.v C.wh v, grp := upd a.grp C.wh fun k => a.grp C.wh k ∨ k = C.b0 + 1 + C.W ∨ a.vou (C.b0 + 1 + C.W) k } s' ∧ C.rank s' < C.rank s := by
  have hb0 := K.b0
  obtain ⟨m1, m2, m3, m4, hu, wu⟩ := late_of G (by rw [hc]; simp)
  have mret : s.m ≠ .ret := fun h => by have := (G.mret h).2; rw [hc] at this; cases this
  rw [vh_of R m1, if_neg (c := s.c = .dead) (by rw [hc]; simp)] at hv
  refine ⟨{ s with c := .dead }, ⟨G.hi, G.cnt, G.mem, G.plt, G.fl, G.fsum, G.past, G.hn, fun _ => G.clo (.inr (.inl hc)), fun _ => .inr rfl, fun h => absurd h mret, G.hub, G.hub0, G.wub, ⟨fun h => (by cases h), fun h => absurd (G.cub.2 h) (by rw [hc]; simp)⟩, G.kW, G.Rub, G.fub⟩,
    ⟨?_, ?_, fun h => ?_, fun q hq h => ?_, fun _ => ?_, fun i h0 hb => ?_, R.chp, ?_, R.che, ?_, ?_, R.sdh, ?_, fun q hq h => ?_, fun _ q hq => R.vc (.inr (.inl hc)) q hq, fun h => ?_, fun _ => ?_, fun h => absurd h mret⟩, ?_⟩
  · have := R.n; unfold born at this ⊢; exact this
  · exact (upd_ne _ _ (by omega)).trans R.p0
  · exact (upd_ne _ _ (by omega)).trans (R.ph h)
  · exact (upd_ne _ _ (by omega)).trans (R.pw q hq h)
  · exact upd_same a.pr _ _
  · exact (upd_ne _ _ (by omega)).trans (R.old i h0 hb)
  · rw [R.chr, hc]; simp
  · show upd a.v C.wh v C.wh = _
    rw [upd_same, if_neg m1]; simp; omega
  · exact (upd_ne _ _ (Ne.symm K.gg)).trans R.vw
  · rw [R.sdw, hc]; simp
  · show upd a.grp C.wh _ C.ww _
    rw [upd_ne _ _ (Ne.symm K.gg)]; exact R.gw q hq h
  · show upd a.grp C.wh _ C.wh _
    rw [upd_same]; exact .inl (R.gh h)
  · show upd a.grp C.wh _ C.wh _ ∧ ∀ q, q < C.W → upd a.grp C.wh _ C.wh _
    rw [upd_same]
    exact ⟨.inr (.inl rfl), fun q hq => .inr (.inr (R.vc (.inr (.inl hc)) q hq))⟩
  · unfold rank mr hr cr; rw [hc]; simp
end GCtx
end Go.Proofs.Ytmkjoojoaldljaa.Net
namespace Go.Proofs.Ytmkjoojoaldljaa.Net
open Go.Conc
open Go.ConcN (sumTo upd upd_same upd_ne sumTo_upd)
namespace GCtx
variable {C : GCtx} {X : Ctx} {s : St} {a : Abs}
theorem step_clsH (K : C.Ok X) (G : C.Good s) (R : C.Rep a s) (hh : s.h = .run) (hi : s.i = C.n) :
    ∃ s', C.Good s' ∧ C.Rep { a with pr := upd a.pr C.b0 (.at (.don C.wh)), ch := upd a.ch C.pl (some true) } s' ∧ C.rank s' < C.rank s := by
  have hb0 := K.b0
  have hu : s.h ≠ .unb := by rw [hh]; simp
  have hm1 : s.m ≠ .add1 ∧ s.m ≠ .spwH := ⟨fun h => hu (G.hub.2 (.inl h)), fun h => hu (G.hub.2 (.inr h))⟩
  have mret : s.m ≠ .ret := fun h => by have := (G.mret h).1; rw [hh] at this; cases this
  refine ⟨{ s with h := .don }, ⟨G.hi, G.cnt, G.mem, G.plt, G.fl, G.fsum, fun _ _ _ => .inl rfl, fun _ => hi, G.clo, G.mwai, fun h => absurd h mret, ⟨fun h => (by cases h), fun h => (h.elim hm1.1 hm1.2).elim⟩, fun h => (by cases h), G.wub, G.cub, G.kW, G.Rub, G.fub⟩,
    ⟨?_, ?_, fun _ => ?_, fun q hq h => ?_, fun h => ?_, fun i h0 hb => ?_, ?_, ?_, ?_, ?_, R.vw, R.sdh, R.sdw, R.gw, R.vc, ?_, R.gc, fun h => absurd h mret⟩, ?_⟩
  · have := R.n; unfold born at this ⊢; exact this
  · exact (upd_ne _ _ (by omega)).trans R.p0
  · exact upd_same a.pr _ _
  · exact (upd_ne _ _ (by omega)).trans (R.pw q hq h)
  · exact (upd_ne _ _ (by omega)).trans (R.pc h)
  · exact (upd_ne _ _ (by omega)).trans (R.old i h0 hb)
  · show upd a.ch C.pl (some true) C.pl = _
    rw [upd_same]; simp
  · show upd a.ch C.pl (some true) C.rs = _
    rw [upd_ne _ _ (Ne.symm K.ps), R.chr, if_neg hu]; simp
  · show upd a.ch C.pl (some true) C.en = _
    rw [upd_ne _ _ (Ne.symm K.pe), R.che, if_neg hu]; simp
  · rw [R.vh, hh]; simp
  · intro h; cases h
  · unfold rank hr mr; rw [hh]; simp only; omega
theorem step_donH (K : C.Ok X) (G : C.Good s) (R : C.Rep a s) (hh : s.h = .don) {v : Nat} (hv : a.v C.wh = v + 1) :
    ∃ s', C.Good s' ∧ C.Rep { a with pr := upd a.pr C.b0 .dead, v := upd a.v C.wh v, grp := upd a.grp C.wh fun k => a.grp C.wh k ∨ k = C.b0 ∨ a.vou C.b0 k } s' ∧ C.rank s' < C.rank s := by
  have hb0 := K.b0
  have hu : s.h ≠ .unb := by rw [hh]; simp
  have hm1 : s.m ≠ .add1 ∧ s.m ≠ .spwH := ⟨fun h => hu (G.hub.2 (.inl h)), fun h => hu (G.hub.2 (.inr h))⟩
  have mret : s.m ≠ .ret := fun h => by have := (G.mret h).1; rw [hh] at this; cases this
  rw [vh_of R hm1.1, if_neg (c := s.h = .dead) (by rw [hh]; simp)] at hv
  refine ⟨{ s with h := .dead }, ⟨G.hi, G.cnt, G.mem, G.plt, G.fl, G.fsum, fun _ _ _ => .inr rfl, fun _ => G.hn (.inl hh), G.clo, G.mwai, fun h => absurd h mret, ⟨fun h => (by cases h), fun h => (h.elim hm1.1 hm1.2).elim⟩, fun h => (by cases h), G.wub, G.cub, G.kW, G.Rub, G.fub⟩,
    ⟨?_, ?_, fun _ => ?_, fun q hq h => ?_, fun h => ?_, fun i h0 hb => ?_, ?_, ?_, ?_, ?_, ?_, R.sdh, R.sdw, fun q hq h => ?_, R.vc, fun _ => ?_, fun h => ?_, fun h => absurd h mret⟩, ?_⟩
  · have := R.n; unfold born at this ⊢; exact this
  · exact (upd_ne _ _ (by omega)).trans R.p0
  · exact upd_same a.pr _ _
  · exact (upd_ne _ _ (by omega)).trans (R.pw q hq h)
  · exact (upd_ne _ _ (by omega)).trans (R.pc h)
  · exact (upd_ne _ _ (by omega)).trans (R.old i h0 hb)
  · rw [R.chp, hh]; simp
  · rw [R.chr, if_neg hu]; simp
  · rw [R.che, if_neg hu]; simp
  · show upd a.v C.wh v C.wh = _
    rw [upd_same, if_neg hm1.1]; simp; omega
  · exact (upd_ne _ _ (Ne.symm K.gg)).trans R.vw
  · show upd a.grp C.wh _ C.ww _
    rw [upd_ne _ _ (Ne.symm K.gg)]; exact R.gw q hq h
  · show upd a.grp C.wh _ C.wh _
    rw [upd_same]; exact .inr (.inl rfl)
  · obtain ⟨g1, g2⟩ := R.gc h
    show upd a.grp C.wh _ C.wh _ ∧ ∀ q, q < C.W → upd a.grp C.wh _ C.wh _
    rw [upd_same]
    exact ⟨.inl g1, fun q hq => .inl (g2 q hq)⟩
  · unfold rank hr mr; rw [hh]; simp only; omega
theorem notUnbM (G : C.Good s) {q : Nat} (hq : q < C.W) (h : s.ws q ≠ .unb) : ¬ (s.m = .add1 ∨ s.m = .spwH ∨ s.m = .add2) := fun hm =>
  h ((G.wub q hq).2 (hm.elim .inl fun x => x.elim (fun y => .inr (.inl y)) fun y => .inr (.inr (.inl y))))
theorem sum_upd_lt {h : WSt → Nat → Nat} {ws : Nat → WSt} {f f' : Nat → Nat} {k : Nat} {x : WSt} (hf : ∀ q, q ≠ k → f' q = f q) : ∀ {n : Nat}, k < n → sumTo n (fun q => h (upd ws k x q) (f' q)) + h (ws k) (f k) = sumTo n (fun q => h (ws q) (f q)) + h x (f' k)
  | n + 1, hk => by
    simp only [sumTo]
    by_cases e : n = k
    · subst e
      have : sumTo n (fun q => h (upd ws n x q) (f' q)) = sumTo n (fun q => h (ws q) (f q)) := ConcN.sumTo_congr fun q hq => by rw [upd_ne _ _ (by omega), hf q (by omega)]
      rw [this, upd_same]; omega
    · rw [upd_ne _ _ e, hf n e]
      have := sum_upd_lt (h := h) (ws := ws) (x := x) hf (n := n) (by omega)
      omega
theorem step_donW (K : C.Ok X) (G : C.Good s) (R : C.Rep a s) {k : Nat} (hk : k < C.W) (hw : s.ws k = .don) {v : Nat} (hv : a.v C.ww = v + 1) :
    ∃ s', C.Good s' ∧ C.Rep { a with pr := upd a.pr (C.b0 + 1 + k) .dead, v := upd a.v C.ww v, grp := upd a.grp C.ww fun j => a.grp C.ww j ∨ j = C.b0 + 1 + k ∨ a.vou (C.b0 + 1 + k) j } s' ∧ C.rank s' < C.rank s := by
  have hb0 := K.b0
  have hnm := notUnbM G hk (by rw [hw]; simp)
  have hnu := notUnb_of G hk (by rw [hw]; simp)
  have hpast := G.past k hk (.inl hw)
  have hncl : ¬ (s.c = .cls ∨ s.c = .don ∨ s.c = .dead) := fun h => by have := G.clo h k hk; rw [hw] at this; cases this
  have hold := sum_upd_lt (h := fun w _ => holds w) (ws := s.ws) (f := s.f) (f' := s.f) (x := .dead) (fun _ _ => rfl) hk
  have hliv := sum_upd_lt (h := fun w _ => lives w) (ws := s.ws) (f := s.f) (f' := s.f) (x := .dead) (fun _ _ => rfl) hk
  have hrk := sum_upd_lt (h := C.wr) (ws := s.ws) (f := s.f) (f' := s.f) (x := .dead) (fun _ _ => rfl) hk
  rw [hw] at hold hliv hrk
  change _ + 0 = _ + 0 at hold
  change _ + 1 = _ + 0 at hliv
  change _ + 2 = _ + 1 at hrk
  rw [vw_of R hnm] at hv
  have split : ∀ q, upd s.ws k .dead q = if q = k then .dead else s.ws q := fun q => by
    by_cases e : q = k
    · subst e; rw [upd_same, if_pos rfl]
    · rw [upd_ne _ _ e, if_neg e]
  refine ⟨{ s with ws := upd s.ws k .dead }, ⟨G.hi, ?_, fun p hp => ?_, fun q p hq h => ?_, G.fl, G.fsum, fun q hq h => ?_, G.hn, fun h => absurd h hncl, G.mwai, G.mret, G.hub, G.hub0, fun q hq => ?_, G.cub, G.kW, G.Rub, fun q hq h => ?_⟩,
    ⟨R.n, ?_, fun h => ?_, fun q hq h => ?_, fun h => ?_, fun i h0 hb => ?_, R.chp, R.chr, R.che, ?_, ?_, R.sdh, R.sdw, fun q hq h => ?_, R.vc, fun h => ?_, fun h => absurd (.inr (.inr h)) hncl, fun h => absurd (.inr (.inr (G.mret h).2)) hncl⟩, ?_⟩
  · show s.R.length + sumTo C.W (fun q => holds (upd s.ws k .dead q)) = s.i
    have := G.cnt; omega
  · rcases G.mem p hp with h | ⟨q, hq, h⟩
    · exact .inl h
    · refine .inr ⟨q, hq, ?_⟩
      show upd s.ws k .dead q = _
      rw [upd_ne _ _ (by rintro rfl; rw [hw] at h; cases h)]; exact h
  · have h' : upd s.ws k .dead q = .snd p := h
    rw [split] at h'
    split at h'
    · cases h'
    · exact G.plt q p hq h'
  · have h' : upd s.ws k .dead q = .don ∨ upd s.ws k .dead q = .dead := h
    rw [split] at h'
    split at h'
    · exact hpast
    · exact G.past q hq h'
  · show upd s.ws k .dead q = .unb ↔ _
    rw [← G.wub q hq, split]
    split
    · subst_vars; rw [hw]; simp
    · exact Iff.rfl
  · have h' : upd s.ws k .dead q = .unb := h
    rw [split] at h'
    split at h'
    · cases h'
    · exact G.fub q hq h'
  · exact (upd_ne _ _ (by omega)).trans R.p0
  · exact (upd_ne _ _ (by omega)).trans (R.ph h)
  · show upd a.pr (C.b0 + 1 + k) .dead (C.b0 + 1 + q) = _
    by_cases e : q = k
    · subst e
      rw [upd_same]; unfold GCtx.work; simp only [upd_same]
    · have h' : upd s.ws k .dead q ≠ .unb := h
      rw [upd_ne _ _ e] at h'
      rw [upd_ne _ _ (by omega), R.pw q hq h']
      unfold GCtx.work; simp only [upd_ne _ _ e]
  · exact (upd_ne _ _ (by omega)).trans (R.pc h)
  · exact (upd_ne _ _ (by omega)).trans (R.old i h0 hb)
  · exact (upd_ne _ _ K.gg).trans R.vh
  · show upd a.v C.ww v C.ww = _
    rw [upd_same, if_neg hnm]
    show v = sumTo C.W fun q => lives (upd s.ws k .dead q)
    omega
  · show upd a.grp C.ww _ C.ww _
    rw [upd_same]
    by_cases e : q = k
    · subst e; exact .inr (.inl rfl)
    · have h' : upd s.ws k .dead q = .dead := h
      rw [upd_ne _ _ e] at h'
      exact .inl (R.gw q hq h')
  · show upd a.grp C.ww _ C.wh _
    rw [upd_ne _ _ K.gg]; exact R.gh h
  · show C.mr s + C.hr s + sumTo C.W (fun q => C.wr (upd s.ws k .dead q) (s.f q)) + cr s.c < C.rank s
    unfold rank; omega
end GCtx
end Go.Proofs.Ytmkjoojoaldljaa.Net
namespace Go.Proofs.Ytmkjoojoaldljaa.Net
open Go.Conc
open Go.ConcN (sumTo upd upd_same upd_ne sumTo_upd)
namespace GCtx
variable {C : GCtx} {X : Ctx} {s : St} {a : Abs}
theorem usplit (ws : Nat → WSt) (k : Nat) (x : WSt) (q : Nat) : upd ws k x q = if q = k then x else ws q := by
  by_cases e : q = k
  · subst e; rw [upd_same, if_pos rfl]
  · rw [upd_ne _ _ e, if_neg e]
theorem step_clsdW (K : C.Ok X) (G : C.Good s) (R : C.Rep a s) {k : Nat} (hk : k < C.W) (hw : s.ws k = .rcv) (hc : a.ch C.pl = some true) :
    ∃ s', C.Good s' ∧ C.Rep { a with pr := upd a.pr (C.b0 + 1 + k) (.at (.don C.ww)) } s' ∧ C.rank s' < C.rank s := by
  have hb0 := K.b0
  have hnm := notUnbM G hk (by rw [hw]; simp)
  have hnu := notUnb_of G hk (by rw [hw]; simp)
  have hpast : s.h = .don ∨ s.h = .dead := by
    rw [R.chp, if_neg hnu] at hc
    simpa using hc
  have hncl : ¬ (s.c = .cls ∨ s.c = .don ∨ s.c = .dead) := fun h => by have := G.clo h k hk; rw [hw] at this; cases this
  have hold := sum_upd_lt (h := fun w _ => holds w) (ws := s.ws) (f := s.f) (f' := s.f) (x := .don) (fun _ _ => rfl) hk
  have hliv := sum_upd_lt (h := fun w _ => lives w) (ws := s.ws) (f := s.f) (f' := s.f) (x := .don) (fun _ _ => rfl) hk
  have hrk := sum_upd_lt (h := C.wr) (ws := s.ws) (f := s.f) (f' := s.f) (x := .don) (fun _ _ => rfl) hk
  rw [hw] at hold hliv hrk
  change _ + 0 = _ + 0 at hold
  change _ + 1 = _ + 1 at hliv
  change _ + (2 * s.f k + 3) = _ + 2 at hrk
  refine ⟨{ s with ws := upd s.ws k .don }, ⟨G.hi, ?_, fun p hp => ?_, fun q p hq h => ?_, G.fl, G.fsum, fun q hq h => ?_, G.hn, fun h => absurd h hncl, G.mwai, G.mret, G.hub, G.hub0, fun q hq => ?_, G.cub, G.kW, G.Rub, fun q hq h => ?_⟩,
    ⟨R.n, ?_, fun h => ?_, fun q hq h => ?_, fun h => ?_, fun i h0 hb => ?_, R.chp, R.chr, R.che, R.vh, ?_, R.sdh, R.sdw, fun q hq h => ?_, R.vc, R.gh, R.gc, R.v0⟩, ?_⟩
  · show s.R.length + sumTo C.W (fun q => holds (upd s.ws k .don q)) = s.i
    have := G.cnt; omega
  · rcases G.mem p hp with h | ⟨q, hq, h⟩
    · exact .inl h
    · refine .inr ⟨q, hq, ?_⟩
      show upd s.ws k .don q = _
      rw [upd_ne _ _ (by rintro rfl; rw [hw] at h; cases h)]; exact h
  · have h' : upd s.ws k .don q = .snd p := h
    rw [usplit] at h'
    split at h'
    · cases h'
    · exact G.plt q p hq h'
  · exact hpast
  · show upd s.ws k .don q = .unb ↔ _
    rw [← G.wub q hq, usplit]
    split
    · subst_vars; rw [hw]; simp
    · exact Iff.rfl
  · have h' : upd s.ws k .don q = .unb := h
    rw [usplit] at h'
    split at h'
    · cases h'
    · exact G.fub q hq h'
  · exact (upd_ne _ _ (by omega)).trans R.p0
  · exact (upd_ne _ _ (by omega)).trans (R.ph h)
  · show upd a.pr (C.b0 + 1 + k) _ (C.b0 + 1 + q) = _
    by_cases e : q = k
    · subst e
      rw [upd_same]; unfold GCtx.work; simp only [upd_same]
    · have h' : upd s.ws k .don q ≠ .unb := h
      rw [upd_ne _ _ e] at h'
      rw [upd_ne _ _ (by omega), R.pw q hq h']
      unfold GCtx.work; simp only [upd_ne _ _ e]
  · exact (upd_ne _ _ (by omega)).trans (R.pc h)
  · exact (upd_ne _ _ (by omega)).trans (R.old i h0 hb)
  · show a.v C.ww = _
    rw [R.vw, if_neg hnm, if_neg hnm]
    show _ = sumTo C.W fun q => lives (upd s.ws k .don q)
    omega
  · have h' : upd s.ws k .don q = .dead := h
    rw [usplit] at h'
    split at h'
    · cases h'
    · exact R.gw q hq h'
  · show C.mr s + C.hr s + sumTo C.W (fun q => C.wr (upd s.ws k .don q) (s.f q)) + cr s.c < C.rank s
    unfold rank; omega
end GCtx
end Go.Proofs.Ytmkjoojoaldljaa.Net
namespace Go.Proofs.Ytmkjoojoaldljaa.Net
open Go.Conc
open Go.ConcN (sumTo upd upd_same upd_ne sumTo_upd)
namespace GCtx
variable {C : GCtx} {X : Ctx} {s : St} {a : Abs}
theorem nsplit (f : Nat → Nat) (k x q : Nat) : upd f k x q = if q = k then x else f q := by
  by_cases e : q = k
  · subst e; rw [upd_same, if_pos rfl]
  · rw [upd_ne _ _ e, if_neg e]
theorem step_commH (K : C.Ok X) (G : C.Good s) (R : C.Rep a s) (hh : s.h = .run) (hi : s.i < C.n) {m' : Nat} (hm' : C.n - s.i = m' + 1) {k j : Nat} (hk : k < C.W) (hw : s.ws k = .rcv) (hj : s.f k = j + 1) :
    ∃ s', C.Good s' ∧ C.Rep { a with pr := upd (upd a.pr C.b0 (.at (handS C.wh C.pl (s.i + 1) m'))) (C.b0 + 1 + k) (.at (.snd C.rs (resOf C.ph (.int .i64 (s.i : Nat))) (C.workerS j))) } s' ∧ C.rank s' < C.rank s := by
  have hb0 := K.b0
  have hnm := notUnbM G hk (by rw [hw]; simp)
  have hncl : ¬ (s.c = .cls ∨ s.c = .don ∨ s.c = .dead) := fun h => by have := G.clo h k hk; rw [hw] at this; cases this
  have hfk := G.fl k hk
  have hf' : ∀ q, q ≠ k → upd s.f k j q = s.f q := fun q e => upd_ne _ _ e
  have hold := sum_upd_lt (h := fun w _ => holds w) (ws := s.ws) (f := s.f) (f' := upd s.f k j) (x := .snd s.i) hf' hk
  have hliv := sum_upd_lt (h := fun w _ => lives w) (ws := s.ws) (f := s.f) (f' := upd s.f k j) (x := .snd s.i) hf' hk
  have hfs := sum_upd_lt (h := fun _ f => C.n - f) (ws := s.ws) (f := s.f) (f' := upd s.f k j) (x := .snd s.i) hf' hk
  have hrk := sum_upd_lt (h := C.wr) (ws := s.ws) (f := s.f) (f' := upd s.f k j) (x := .snd s.i) hf' hk
  rw [hw] at hold hliv hrk
  rw [upd_same] at hfs hrk
  change _ + 0 = _ + 1 at hold
  change _ + 1 = _ + 1 at hliv
  change _ + (2 * s.f k + 3) = _ + (2 * j + 4) at hrk
  refine ⟨{ s with i := s.i + 1, ws := upd s.ws k (.snd s.i), f := upd s.f k j }, ⟨hi, ?_, fun p hp => ?_, fun q p hq h => ?_, fun q hq => ?_, ?_, fun q hq h => ?_, fun h => ?_, fun h => absurd h hncl, G.mwai, G.mret, G.hub, fun h => ?_, fun q hq => ?_, G.cub, G.kW, G.Rub, fun q hq h => ?_⟩,
    ⟨R.n, ?_, fun _ => ?_, fun q hq h => ?_, fun h => ?_, fun i h0 hb => ?_, R.chp, R.chr, R.che, R.vh, ?_, R.sdh, R.sdw, fun q hq h => ?_, R.vc, R.gh, R.gc, R.v0⟩, ?_⟩
  · show s.R.length + sumTo C.W (fun q => holds (upd s.ws k (.snd s.i) q)) = s.i + 1
    have := G.cnt; omega
  · have hp' : p < s.i + 1 := hp
    by_cases e : p = s.i
    · refine .inr ⟨k, hk, ?_⟩
      show upd s.ws k (.snd s.i) k = _
      rw [upd_same, e]
    · rcases G.mem p (by omega) with h | ⟨q, hq, h⟩
      · exact .inl h
      · refine .inr ⟨q, hq, ?_⟩
        show upd s.ws k (.snd s.i) q = _
        rw [upd_ne _ _ (by rintro rfl; rw [hw] at h; cases h)]; exact h
  · have h' : upd s.ws k (.snd s.i) q = .snd p := h
    rw [usplit] at h'
    split at h'
    · cases h'; exact hi
    · exact G.plt q p hq h'
  · show upd s.f k j q ≤ _
    rw [nsplit]
    split
    · omega
    · exact G.fl q hq
  · show sumTo C.W (fun q => C.n - upd s.f k j q) = s.i + 1
    have := G.fsum; omega
  · have h' : upd s.ws k (.snd s.i) q = .don ∨ upd s.ws k (.snd s.i) q = .dead := h
    rw [usplit] at h'
    split at h'
    · rcases h' with h' | h' <;> cases h'
    · exact G.past q hq h'
  · have h' : s.h = .don ∨ s.h = .dead := h
    rw [hh] at h'; rcases h' with h' | h' <;> cases h'
  · have h' : s.h = .unb := h
    rw [hh] at h'; cases h'
  · show upd s.ws k (.snd s.i) q = .unb ↔ _
    rw [← G.wub q hq, usplit]
    split
    · subst_vars; rw [hw]; simp
    · exact Iff.rfl
  · have h' : upd s.ws k (.snd s.i) q = .unb := h
    show upd s.f k j q = _
    rw [usplit] at h'
    rw [nsplit]
    split at h'
    · cases h'
    · rename_i e; rw [if_neg e]; exact G.fub q hq h'
  · show upd (upd a.pr C.b0 _) (C.b0 + 1 + k) _ 0 = _
    rw [upd_ne _ _ (by omega), upd_ne _ _ (by omega)]; exact R.p0
  · show upd (upd a.pr C.b0 _) (C.b0 + 1 + k) _ C.b0 = _
    rw [upd_ne _ _ (by omega), upd_same]
    unfold GCtx.hand
    simp only [hh]
    rw [show C.n - (s.i + 1) = m' by omega]
  · show upd (upd a.pr C.b0 _) (C.b0 + 1 + k) _ (C.b0 + 1 + q) = _
    by_cases e : q = k
    · subst e
      rw [upd_same]; unfold GCtx.work; simp only [upd_same]
    · have h' : upd s.ws k (.snd s.i) q ≠ .unb := h
      rw [upd_ne _ _ e] at h'
      rw [upd_ne _ _ (by omega), upd_ne _ _ (by omega), R.pw q hq h']
      unfold GCtx.work; simp only [upd_ne _ _ e]
  · show upd (upd a.pr C.b0 _) (C.b0 + 1 + k) _ _ = _
    rw [upd_ne _ _ (by omega), upd_ne _ _ (by omega)]; exact R.pc h
  · show upd (upd a.pr C.b0 _) (C.b0 + 1 + k) _ i = _
    rw [upd_ne _ _ (by omega), upd_ne _ _ (by omega)]; exact R.old i h0 hb
  · show a.v C.ww = _
    rw [R.vw, if_neg hnm, if_neg hnm]
    show _ = sumTo C.W fun q => lives (upd s.ws k (.snd s.i) q)
    omega
  · have h' : upd s.ws k (.snd s.i) q = .dead := h
    rw [usplit] at h'
    split at h'
    · cases h'
    · exact R.gw q hq h'
  · have e : C.hr { s with i := s.i + 1, ws := upd s.ws k (.snd s.i), f := upd s.f k j } + 1 = C.hr s := by
      unfold hr; simp only [hh]; omega
    show C.mr s + C.hr _ + sumTo C.W (fun q => C.wr (upd s.ws k (.snd s.i) q) (upd s.f k j q)) + cr s.c < C.rank s
    unfold rank; omega
theorem placeOf_res (ph : Nat → Int) (p : Nat) : placeOf (resOf ph (.int .i64 (p : Nat))) = p := by
  simp [resOf, placeOf]
theorem step_commW (K : C.Ok X) (G : C.Good s) (R : C.Rep a s) (hm : s.m = .rcv) {k pp : Nat} (hk : k < C.W) (hw : s.ws k = .snd pp) {j : Nat} (hj : C.n - s.R.length = j + 1) :
    ∃ s', C.Good s' ∧ C.Rep { a with pr := upd (upd a.pr (C.b0 + 1 + k) (.at (C.workerS (s.f k)))) 0 (.at (C.mRcv j (pp :: s.R))) } s' ∧ C.rank s' < C.rank s := by
  have hb0 := K.b0
  have hnm := notUnbM G hk (by rw [hw]; simp)
  have hncl : ¬ (s.c = .cls ∨ s.c = .don ∨ s.c = .dead) := fun h => by have := G.clo h k hk; rw [hw] at this; cases this
  have hold := sum_upd_lt (h := fun w _ => holds w) (ws := s.ws) (f := s.f) (f' := s.f) (x := .rcv) (fun _ _ => rfl) hk
  have hliv := sum_upd_lt (h := fun w _ => lives w) (ws := s.ws) (f := s.f) (f' := s.f) (x := .rcv) (fun _ _ => rfl) hk
  have hrk := sum_upd_lt (h := C.wr) (ws := s.ws) (f := s.f) (f' := s.f) (x := .rcv) (fun _ _ => rfl) hk
  rw [hw] at hold hliv hrk
  change _ + 1 = _ + 0 at hold
  change _ + 1 = _ + 1 at hliv
  change _ + (2 * s.f k + 4) = _ + (2 * s.f k + 3) at hrk
  refine ⟨{ s with R := pp :: s.R, ws := upd s.ws k .rcv }, ⟨G.hi, ?_, fun p hp => ?_, fun q p hq h => ?_, G.fl, G.fsum, fun q hq h => ?_, G.hn, fun h => absurd h hncl, G.mwai, G.mret, G.hub, G.hub0, fun q hq => ?_, G.cub, G.kW, fun h => ?_, fun q hq h => ?_⟩,
    ⟨R.n, ?_, fun h => ?_, fun q hq h => ?_, fun h => ?_, fun i h0 hb => ?_, R.chp, R.chr, R.che, R.vh, ?_, R.sdh, R.sdw, fun q hq h => ?_, R.vc, R.gh, R.gc, R.v0⟩, ?_⟩
  · show (pp :: s.R).length + sumTo C.W (fun q => holds (upd s.ws k .rcv q)) = s.i
    have := G.cnt; simp only [List.length_cons]; omega
  · rcases G.mem p hp with h | ⟨q, hq, h⟩
    · exact .inl (List.mem_cons_of_mem _ h)
    · by_cases e : q = k
      · subst e
        rw [hw] at h
        cases h
        exact .inl (List.mem_cons_self)
      · refine .inr ⟨q, hq, ?_⟩
        show upd s.ws k .rcv q = _
        rw [upd_ne _ _ e]; exact h
  · have h' : upd s.ws k .rcv q = .snd p := h
    rw [usplit] at h'
    split at h'
    · cases h'
    · exact G.plt q p hq h'
  · have h' : upd s.ws k .rcv q = .don ∨ upd s.ws k .rcv q = .dead := h
    rw [usplit] at h'
    split at h'
    · rcases h' with h' | h' <;> cases h'
    · exact G.past q hq h'
  · show upd s.ws k .rcv q = .unb ↔ _
    rw [← G.wub q hq, usplit]
    split
    · subst_vars; rw [hw]; simp
    · exact Iff.rfl
  · have h' : GCtx.MSt.early s.m := h
    rw [hm] at h'; exact h'.elim
  · have h' : upd s.ws k .rcv q = .unb := h
    rw [usplit] at h'
    split at h'
    · cases h'
    · exact G.fub q hq h'
  · show upd (upd a.pr (C.b0 + 1 + k) (.at (C.workerS (s.f k)))) 0 (.at (C.mRcv j (pp :: s.R))) 0 = _
    rw [upd_same]
    unfold GCtx.main
    simp only [hm, List.length_cons]
    rw [show C.n - (s.R.length + 1) = j by omega]
  · show upd (upd a.pr (C.b0 + 1 + k) (.at (C.workerS (s.f k)))) 0 (.at (C.mRcv j (pp :: s.R))) C.b0 = _
    rw [upd_ne _ _ (by omega), upd_ne _ _ (by omega)]; exact R.ph h
  · show upd (upd a.pr (C.b0 + 1 + k) (.at (C.workerS (s.f k)))) 0 (.at (C.mRcv j (pp :: s.R))) (C.b0 + 1 + q) = _
    rw [upd_ne _ _ (by omega)]
    by_cases e : q = k
    · subst e
      rw [upd_same]; unfold GCtx.work; simp only [upd_same]
    · have h' : upd s.ws k .rcv q ≠ .unb := h
      rw [upd_ne _ _ e] at h'
      rw [upd_ne _ _ (by omega), R.pw q hq h']
      unfold GCtx.work; simp only [upd_ne _ _ e]
  · show upd (upd a.pr (C.b0 + 1 + k) (.at (C.workerS (s.f k)))) 0 (.at (C.mRcv j (pp :: s.R))) _ = _
    rw [upd_ne _ _ (by omega), upd_ne _ _ (by omega)]; exact R.pc h
  · show upd (upd a.pr (C.b0 + 1 + k) (.at (C.workerS (s.f k)))) 0 (.at (C.mRcv j (pp :: s.R))) i = _
    rw [upd_ne _ _ (by omega), upd_ne _ _ (by omega)]; exact R.old i h0 hb
  · show a.v C.ww = _
    rw [R.vw, if_neg hnm, if_neg hnm]
    show _ = sumTo C.W fun q => lives (upd s.ws k .rcv q)
    omega
  · have h' : upd s.ws k .rcv q = .dead := h
    rw [usplit] at h'
    split at h'
    · cases h'
    · exact R.gw q hq h'
  · have e : C.mr { s with R := pp :: s.R, ws := upd s.ws k .rcv } + 1 = C.mr s := by
      unfold mr; simp only [hm, List.length_cons]; omega
    show C.mr _ + C.hr s + sumTo C.W (fun q => C.wr (upd s.ws k .rcv q) (s.f q)) + cr s.c < C.rank s
    unfold rank; omega
theorem step_clsdM (K : C.Ok X) (G : C.Good s) (R : C.Rep a s) (hm : s.m = .rcv) (hc : a.ch C.rs = some true) :
    ∃ s', C.Good s' ∧ C.Rep { a with pr := upd a.pr 0 (.at (C.mWai s.R)) } s' ∧ C.rank s' < C.rank s := by
  have hb0 := K.b0
  have hnu : s.h ≠ .unb := fun h => by rcases G.hub.1 h with h | h <;> rw [hm] at h <;> cases h
  have hcl : s.c = .don ∨ s.c = .dead := by
    rw [R.chr, if_neg hnu] at hc
    simpa using hc
  refine ⟨{ s with m := .wai }, ⟨G.hi, G.cnt, G.mem, G.plt, G.fl, G.fsum, G.past, G.hn, G.clo, fun _ => hcl, fun h => (by cases h), ?_, G.hub0, fun q hq => ?_, ?_, ?_, fun h => h.elim, G.fub⟩,
    ⟨?_, ?_, fun h => ?_, fun q hq h => ?_, fun h => ?_, fun i h0 hb => ?_, R.chp, R.chr, R.che, ?_, ?_, R.sdh, R.sdw, R.gw, R.vc, R.gh, R.gc, fun h => (by cases h)⟩, ?_⟩
  · exact ⟨fun h => absurd h hnu, fun h => (by rcases h with h | h <;> cases h)⟩
  · refine ⟨fun h => ?_, fun h => (by rcases h with h | h | h | ⟨_, h, _⟩ <;> cases h)⟩
    rcases (G.wub q hq).1 h with h | h | h | ⟨k', h, h2⟩ <;> rw [hm] at h <;> cases h
  · exact ⟨fun h => (by have h' : s.c = .unb := h; rw [h'] at hcl; rcases hcl with h | h <;> cases h), fun h => h.elim⟩
  · intro k h; cases h
  · have := R.n; unfold born at this ⊢; rw [hm] at this; exact this
  · exact upd_same a.pr 0 _
  · exact (upd_ne _ _ (by omega)).trans (R.ph h)
  · exact (upd_ne _ _ (by omega)).trans (R.pw q hq h)
  · exact (upd_ne _ _ (by omega)).trans (R.pc h)
  · exact (upd_ne _ _ (by omega)).trans (R.old i h0 hb)
  · have := R.vh; rw [if_neg (by rw [hm]; simp)] at this; rw [if_neg (by simp)]; exact this
  · have := R.vw; rw [if_neg (by rw [hm]; simp)] at this; rw [if_neg (by simp)]; exact this
  · unfold rank mr hr cr; rw [hm]; simp only; omega
theorem step_all (K : C.Ok X) (G : C.Good s) (R : C.Rep a s) {a' : Abs} (h : AStep a a') : ∃ s', C.Good s' ∧ C.Rep a' s' ∧ C.rank s' < C.rank s := by
  have hok := ok K G R
  cases h with
  | comm i j c v ki ok' kj kc hij hi hj h1 h2 =>
    rcases snd_of G R hi h1 with ⟨rfl, hh, hlt, rfl, rfl, m', hm', rfl⟩ | ⟨q, pp, hq, rfl, hs, rfl, rfl, rfl⟩
    · rcases rcv_of G R hj h2 with ⟨_, _, _, h, _⟩ | ⟨k, hk, rfl, hw, he, _, _⟩
      · exact absurd h K.ps
      · obtain ⟨j', hj'⟩ := fuel_pos G hk hlt
        rw [hj'] at he
        injection he with _ _ he
        rw [he]
        exact step_commH K G R hh hlt hm' hk hw hj'
    · rcases rcv_of G R hj h2 with ⟨rfl, hm, he, _, _⟩ | ⟨_, _, _, _, _, h, _⟩
      · have hr := room G hq hs
        obtain ⟨j', hj'⟩ : ∃ j', C.n - s.R.length = j' + 1 := ⟨C.n - s.R.length - 1, by omega⟩
        rw [hj'] at he
        injection he with _ _ he
        rw [he]
        have := step_commW K G R hm hq hs hj'
        rw [← placeOf_res C.ph pp] at this
        exact this
      · exact absurd h.symm K.ps
  | clsd j c ok' kj kc hj h1 h2 =>
    rcases rcv_of G R hj h1 with ⟨rfl, hm, _, rfl, rfl⟩ | ⟨k, hk, rfl, hw, _, rfl, rfl⟩
    · exact step_clsdM K G R hm h2
    · exact step_clsdW K G R hk hw h2
  | cls i c k hi h1 =>
    cases at_of G R hi h1 with
    | main _ e' => rcases main_head C s with ⟨_, h⟩ | ⟨_, h⟩ | ⟨_, h⟩ | ⟨_, _, _, _, _, _, h⟩ | ⟨_, _, _, h⟩ | ⟨_, h⟩ | ⟨_, h⟩ <;> rw [h] at e' <;> cases e'
    | hcls h e1 e2 e' => cases e'; subst h; exact step_clsH K G R e1 e2
    | ccls h e1 e' => cases e'; subst h; exact step_clsC K G R e1
    | wrcv q hq h e1 e' => obtain ⟨_, _, hw⟩ := workS_head (C := C) (s.f q); rw [hw] at e'; cases e'
    | _ => rename_i e'; cases e'
  | add i wg δ k hi h1 =>
    cases at_of G R hi h1 with
    | main h e' =>
      subst h
      rcases main_head C s with ⟨hm, h'⟩ | ⟨_, h'⟩ | ⟨hm, h'⟩ | ⟨_, _, _, _, _, _, h'⟩ | ⟨_, _, _, h'⟩ | ⟨_, h'⟩ | ⟨_, h'⟩ <;> rw [h'] at e' <;> cases e'
      · exact step_add1 K G R hm
      · exact step_add2 K G R hm
    | wrcv q hq h e1 e' => obtain ⟨_, _, hw⟩ := workS_head (C := C) (s.f q); rw [hw] at e'; cases e'
    | _ => rename_i e'; cases e'
  | don i wg v hi h1 hv =>
    cases at_of G R hi h1 with
    | main h e' => rcases main_head C s with ⟨hm, h'⟩ | ⟨_, h'⟩ | ⟨hm, h'⟩ | ⟨_, _, _, _, _, _, h'⟩ | ⟨_, _, _, h'⟩ | ⟨hm, h'⟩ | ⟨_, h'⟩ <;> rw [h'] at e' <;> cases e'
    | wrcv q hq h e1 e' => obtain ⟨_, _, hw⟩ := workS_head (C := C) (s.f q); rw [hw] at e'; cases e'
    | hdon h e1 e' => cases e'; subst h; exact step_donH K G R e1 hv
    | wdon q hq h e1 e' => cases e'; subst h; exact step_donW K G R hq e1 hv
    | cdon h e1 e' => cases e'; subst h; exact step_donC K G R e1 hv
    | _ => rename_i e'; cases e'
  | wai i wg k hi h1 hv =>
    cases at_of G R hi h1 with
    | main h e' =>
      subst h
      rcases main_head C s with ⟨hm, h'⟩ | ⟨_, h'⟩ | ⟨hm, h'⟩ | ⟨_, _, _, _, _, _, h'⟩ | ⟨_, _, _, h'⟩ | ⟨hm, h'⟩ | ⟨_, h'⟩ <;> rw [h'] at e' <;> cases e'
      exact step_wai0 K G R hm hv
    | wrcv q hq h e1 e' => obtain ⟨_, _, hw⟩ := workS_head (C := C) (s.f q); rw [hw] at e'; cases e'
    | cwai h e1 e' => cases e'; subst h; exact step_waiC K G R e1 hv
    | _ => rename_i e'; cases e'
  | spw cs ws c k h1 =>
    rw [R.p0] at h1
    injection h1 with e
    rcases main_head C s with ⟨hm, h'⟩ | ⟨hm, h'⟩ | ⟨hm, h'⟩ | ⟨kk, _, _, _, _, hm, h'⟩ | ⟨_, _, _, h'⟩ | ⟨hm, h'⟩ | ⟨_, h'⟩
    · rw [h'] at e; cases e
    · rw [h'] at e; cases e
      obtain ⟨s', h1, h2, h3⟩ := step_spwH K G R hm
      refine ⟨s', h1, ?_, h3⟩
      refine cast ?_ h2
      congr
      all_goals (funext c; dsimp only; congr)
    · rw [h'] at e; cases e
    · have hkW := G.kW kk hm
      unfold GCtx.main at e
      rw [hm] at e
      simp only at e
      cases hk : C.W - kk with
      | zero =>
        obtain rfl : kk = C.W := by omega
        rw [hk] at e; cases e
        obtain ⟨s', h1, h2, h3⟩ := step_spwC K G R hm
        refine ⟨s', h1, ?_, h3⟩
        refine cast ?_ h2
        congr
        all_goals (funext c; dsimp only; congr)
      | succ k' =>
        rw [hk] at e; cases e
        have := step_spwW K G R hm (by omega)
        rw [show C.W - (kk + 1) = k' by omega] at this
        obtain ⟨s', h1, h2, h3⟩ := this
        refine ⟨s', h1, ?_, h3⟩
        refine cast ?_ h2
        congr
        all_goals (funext c; dsimp only; congr)
    · rw [h'] at e; cases e
    · rw [h'] at e; cases e
    · rw [h'] at e; cases e
theorem ret_of (R : C.Rep a s) {Fin : (Nat → Prop) → Goroutine → World → Prop} (h : a.pr 0 = .at (.ret Fin)) : s.m = .ret ∧ Fin = C.Fin s.R := by
  rw [R.p0] at h
  injection h with e
  rcases main_head C s with ⟨hm, h'⟩ | ⟨_, h'⟩ | ⟨hm, h'⟩ | ⟨_, _, _, _, _, _, h'⟩ | ⟨_, _, _, h'⟩ | ⟨hm, h'⟩ | ⟨hm, h'⟩ <;> rw [h'] at e <;> cases e
  exact ⟨hm, rfl⟩
noncomputable def proto (K : C.Ok X) : Proto X C.b0 where
  J a := ∃ s, C.Good s ∧ C.Rep a s
  A := C.A
  ok := fun _ ⟨_, G, R⟩ => ok K G R
  step := fun a a' hJ hs => by
    obtain ⟨⟨s, G, R, e⟩, _⟩ := A_spec hJ
    obtain ⟨s', G', R', hlt⟩ := step_all K G R hs
    have := (A_spec ⟨s', G', R'⟩).2 s' G' R'
    exact ⟨⟨s', G', R'⟩, by omega⟩
  live := fun _ ⟨_, G, R⟩ => live K G R
  fin := fun a Fin ⟨s, G, R⟩ h j hj hjn => by
    obtain ⟨hm, _⟩ := ret_of R h
    obtain ⟨hd, cd⟩ := G.mret hm
    have hn : a.n = C.b0 + 2 + C.W := by rw [R.n]; unfold born; rw [hm]
    refine ⟨?_, R.v0 hm j hj (by omega)⟩
    by_cases e : j = C.b0
    · rw [e, R.ph (by rw [hd]; simp)]; unfold GCtx.hand; rw [hd]
    · by_cases e' : j = C.b0 + 1 + C.W
      · rw [e', R.pc (by rw [cd]; simp)]; unfold GCtx.closer; rw [cd]
      · have hq : j - (C.b0 + 1) < C.W := by omega
        have hw := G.clo (.inr (.inr cd)) _ hq
        have := R.pw _ hq (by rw [hw]; simp)
        rw [show C.b0 + 1 + (j - (C.b0 + 1)) = j by omega] at this
        rw [this]; unfold GCtx.work; rw [hw]
  noret := fun a i Fin ⟨s, G, R⟩ hi h => by
    cases at_of G R hi h with
    | main h e' => exact h
    | wrcv q hq h e1 e' => obtain ⟨_, _, hw⟩ := workS_head (C := C) (s.f q); rw [hw] at e'; cases e'
    | _ => rename_i e'; cases e'
theorem at_end (G : C.Good s) (hm : s.m = .ret) : s.R.length = C.n ∧ ∀ k, k < C.n → k ∈ s.R := by
  obtain ⟨hd, cd⟩ := G.mret hm
  have hi := G.hn (.inr hd)
  have hw := G.clo (.inr (.inr cd))
  have hz : sumTo C.W (fun q => holds (s.ws q)) = 0 := sum_zero fun q hq => by rw [hw q hq]; rfl
  refine ⟨by have := G.cnt; omega, fun k hk => ?_⟩
  rcases G.mem k (by omega) with h | ⟨q, hq, h⟩
  · exact h
  · rw [hw q hq] at h; cases h
end GCtx
end Go.Proofs.Ytmkjoojoaldljaa.Net
namespace Go.Proofs.Ytmkjoojoaldljaa.Net
open Go.Conc Go.RowKit Go.Conc.Lib Go.ConcR.Gen
open Go.ConcN (WgLive)
open Go.ConcR (KK wgBlock WgAt stA smA rd wr mk DC0)
section
variable {X : Ctx} {O S : Nat → Prop} {main : Bool} {StopS : (Nat → Prop) → Goroutine → World → Prop} {n : Nat} {w : World}
variable {b : Frame} {a : Act} {k : List Item} {cs : List Frame} {ops : Array Oper} {i : Nat} {rest : List Nat} {o : Oper}
theorem seg_val (v : World → Value) (f : World → World) (ho : ops[i]? = some o) (hw : Region.wanted o (yielded ops a.tmps) = true) (hk : b.kind ≠ .early)
    (hr : ∀ w₁, Agree X (OS O S) w w₁ → (execOp a.eval o).run X.P w₁ = .ok (.value (v w₁)) (f w₁) ∧ Does X O S w₁ (f w₁) (listed X.P b.fn a o w₁))
    (h : ∀ w₁, Agree X (OS O S) w w₁ → Seg X main S StopS n (grow O w₁.heap.size (f w₁).heap.size) (G (b.at (a.put o.dst (v w₁)) (.inRegion ops rest :: k)) cs) (f w₁)) :
    Seg X main S StopS (n + 1) O (G (b.at a (.inRegion ops (i :: rest) :: k)) cs) w :=
  Seg.step rfl fun w₁ h₁ => goes_oper ho hw hk (by rw [(hr w₁ h₁).1]; exact ⟨(hr w₁ h₁).2, h w₁ h₁⟩)
theorem seg_skip (f : World → World) (ho : ops[i]? = some o) (hw : Region.wanted o (yielded ops a.tmps) = true) (hk : b.kind ≠ .early)
    (hr : ∀ w₁, Agree X (OS O S) w w₁ → (execOp a.eval o).run X.P w₁ = .ok .skip (f w₁) ∧ Does X O S w₁ (f w₁) (listed X.P b.fn a o w₁))
    (h : ∀ w₁, Agree X (OS O S) w w₁ → Seg X main S StopS n (grow O w₁.heap.size (f w₁).heap.size) (G (b.at (a.put o.dst undef) (.inRegion ops rest :: k)) cs) (f w₁)) :
    Seg X main S StopS (n + 1) O (G (b.at a (.inRegion ops (i :: rest) :: k)) cs) w :=
  Seg.step rfl fun w₁ h₁ => goes_oper ho hw hk (by rw [(hr w₁ h₁).1]; exact ⟨(hr w₁ h₁).2, h w₁ h₁⟩)
theorem does_alloc (hwg : ∀ b, X.Wg b → b < w.heap.size) (o : Obj) : Does X O S w (w.alloc o) #[] := by
  have hs : (w.alloc o).heap.size = w.heap.size + 1 := by simp
  have hb : ∀ b, b < w.heap.size → (w.alloc o).heap[b]? = w.heap[b]? := fun b hb => RowKit.Below.heap_alloc w o b hb
  exact ⟨rfl, rfl, rfl, by omega, fun b h _ => hb b h, fun b h => hb b (hwg b h), by simp⟩
theorem does_write {w' : World} {B : Nat} (hO : O B) (hwg : ¬ X.Wg B) (h1 : w'.tape = w.tape) (h2 : w'.os = w.os) (h3 : w'.output = w.output) (h4 : w'.heap.size = w.heap.size) (h5 : ∀ b, b ≠ B → w'.heap[b]? = w.heap[b]?) {es : Array Event}
    (he : ∀ e ∈ es, ∃ a : Addr, e.loc = .cell a ∧ e.sync = false ∧ a.block = B) : Does X O S w w' es :=
  ⟨h1, h2, h3, by omega, fun b _ hb => h5 b (by rintro rfl; exact hb hO), fun b hb => h5 b (by rintro rfl; exact hwg hb), fun e hm => by
    obtain ⟨a, e1, e2, e3⟩ := he e hm
    exact .inl ⟨a, e1, e2, .inl (by rw [e3]; exact hO)⟩⟩
end
theorem run_alloc92 {o : Oper} (ho : o.op = .alloc 92) (a : Act) (w : World) :
    (execOp a.eval o).run Try.prog w = .ok (.value (.pointer (some ⟨w.heap.size, 0, none⟩))) (w.alloc (.cells #[.int .i64 0, .int .i64 0, .int .i64 0] 92)) ∧ (execOp a.eval o).events Try.prog w #[] = #[] := by
  have z92 := Try.zeroValue92
  unfold execOp
  simp only [ho]
  constructor
  · simp [go_sem, z92]
  · simp [go_sem, z92]
theorem run_store92 {o : Oper} {x y : Operand} (ho : o.op = .store 92 x y) (a : Act) (w : World) {B : Nat} {x0 x1 x2 : Int} {d0 d1 d2 : Value} (h1 : a.eval x = .pointer (some ⟨B, 0, none⟩)) (h2 : a.eval y = .agg #[.int .i64 x0, .int .i64 x1, .int .i64 x2]) (hb : w.heap[B]? = some (.cells #[d0, d1, d2] 92 (0, 0))) :
    (execOp a.eval o).run Try.prog w = .ok .skip (((w.setCell ⟨B, 0, none⟩ (.int .i64 x0)).setCell ⟨B, 1, none⟩ (.int .i64 x1)).setCell ⟨B, 2, none⟩ (.int .i64 x2)) ∧ (execOp a.eval o).events Try.prog w #[] = #[⟨.cell ⟨B, 0, none⟩, true, false⟩, ⟨.cell ⟨B, 1, none⟩, true, false⟩, ⟨.cell ⟨B, 2, none⟩, true, false⟩] := by
  have s92 := Try.sizeOf92
  have c0 : w.cell? ⟨B, 0, none⟩ = some d0 := by simp [World.cell?, hb]
  have c1 : w.cell? ⟨B, 1, none⟩ = some d1 := by simp [World.cell?, hb]
  have c2 : w.cell? ⟨B, 2, none⟩ = some d2 := by simp [World.cell?, hb]
  have f0 : w.frozen? ⟨B, 0, none⟩ = false := by simp [World.frozen?, hb]
  have f1 : w.frozen? ⟨B, 1, none⟩ = false := by simp [World.frozen?, hb]
  have f2 : w.frozen? ⟨B, 2, none⟩ = false := by simp [World.frozen?, hb]
  unfold execOp
  simp only [ho, h1, h2]
  constructor
  · simp [go_sem, s92, c0, c1, c2, f0, f1, f2]
  · simp [go_sem, s92, c0, c1, c2, f0, f1, f2]
theorem run_store3 {o : Oper} {x y : Operand} (ho : o.op = .store 3 x y) (a : Act) (w : World) {ad : Addr} {x0 : Int} {d0 : Value} (h1 : a.eval x = .pointer (some ad)) (h2 : a.eval y = .int .i64 x0) (hc : w.cell? ad = some d0) (hf : w.frozen? ad = false) :
    (execOp a.eval o).run Try.prog w = .ok .skip (w.setCell ad (.int .i64 x0)) ∧ (execOp a.eval o).events Try.prog w #[] = #[⟨.cell ad, true, false⟩] := by
  have s3 := Try.sizeOf3
  have e : ad.add 0 = ad := by simp [Addr.add]
  unfold execOp
  simp only [ho, h1, h2]
  constructor
  · simp [go_sem, s3, hc, hf, e]
  · simp [go_sem, s3, hc, hf, e]
theorem run_field92_0 {o : Oper} {x : Operand} (ho : o.op = .fieldAddr 92 x 0) (a : Act) (w : World) {B : Nat} (h1 : a.eval x = .pointer (some ⟨B, 0, none⟩)) :
    (execOp a.eval o).run Try.prog w = .ok (.value (.pointer (some ⟨B, 0, none⟩))) w ∧ (execOp a.eval o).events Try.prog w #[] = #[] := by
  have u := Try.runUnderlying92
  unfold execOp
  simp only [ho, h1]
  constructor
  · simp [go_sem, u]
  · simp [go_sem, u]
theorem run_field92_1 {o : Oper} {x : Operand} (ho : o.op = .fieldAddr 92 x 1) (a : Act) (w : World) {B : Nat} (h1 : a.eval x = .pointer (some ⟨B, 0, none⟩)) :
    (execOp a.eval o).run Try.prog w = .ok (.value (.pointer (some ⟨B, 1, none⟩))) w ∧ (execOp a.eval o).events Try.prog w #[] = #[] := by
  have u := Try.runUnderlying92
  unfold execOp
  simp only [ho, h1]
  constructor
  · simp [go_sem, u]
  · simp [go_sem, u]
theorem run_field92_2 {o : Oper} {x : Operand} (ho : o.op = .fieldAddr 92 x 2) (a : Act) (w : World) {B : Nat} (h1 : a.eval x = .pointer (some ⟨B, 0, none⟩)) :
    (execOp a.eval o).run Try.prog w = .ok (.value (.pointer (some ⟨B, 2, none⟩))) w ∧ (execOp a.eval o).events Try.prog w #[] = #[] := by
  have u := Try.runUnderlying92
  unfold execOp
  simp only [ho, h1]
  constructor
  · simp [go_sem, u]
  · simp [go_sem, u]
theorem run_index22 {o : Oper} {x y : Operand} (ho : o.op = .indexAddr 22 x y) (a : Act) (w : World) {ad : Addr} {n cap i : Nat} (h1 : a.eval x = .slice (some ad) n cap) (h2 : a.eval y = .int .i64 i) (hi : i < n) :
    (execOp a.eval o).run Try.prog w = .ok (.value (.pointer (some (ad.add i)))) w ∧ (execOp a.eval o).events Try.prog w #[] = #[] := by
  have u := Try.runUnderlying22
  have s3 := Try.sizeOf3
  have h0 : (0 : Int) ≤ (i : Int) := by omega
  have h3 : (i : Int) < (n : Int) := by omega
  unfold execOp
  simp only [ho, h1, h2]
  constructor
  · simp [go_sem, u, s3, hi]
  · simp [go_sem, u, s3, hi]
theorem add_at (B i : Nat) : Addr.add ⟨B, 0, none⟩ i = ⟨B, i, none⟩ := by
  unfold Addr.add
  by_cases h : i = 0
  · simp [h]
  · simp [h]
theorem run_index22_at {o : Oper} {x y : Operand} (ho : o.op = .indexAddr 22 x y) (a : Act) (w : World) {B n cap i : Nat} (h1 : a.eval x = .slice (some ⟨B, 0, none⟩) n cap) (h2 : a.eval y = .int .i64 i) (hi : i < n) :
    (execOp a.eval o).run Try.prog w = .ok (.value (.pointer (some ⟨B, i, none⟩))) w ∧ (execOp a.eval o).events Try.prog w #[] = #[] := by
  have := run_index22 ho a w h1 h2 hi
  rwa [add_at] at this
theorem run_load3 {o : Oper} {x : Operand} (ho : o.op = .load 3 x) (a : Act) (w : World) {ad : Addr} {v : Value} (h1 : a.eval x = .pointer (some ad)) (hc : w.cell? ad = some v) :
    (execOp a.eval o).run Try.prog w = .ok (.value v) w ∧ (execOp a.eval o).events Try.prog w #[] = #[⟨.cell ad, false, false⟩] := by
  unfold execOp
  simp only [ho, h1]
  constructor
  · simp [go_sem, hc]
  · simp [go_sem, hc]
theorem run_load24 {o : Oper} {x : Operand} (ho : o.op = .load 24 x) (a : Act) (w : World) {ad : Addr} {v : Value} (h1 : a.eval x = .pointer (some ad)) (hc : w.cell? ad = some v) :
    (execOp a.eval o).run Try.prog w = .ok (.value v) w ∧ (execOp a.eval o).events Try.prog w #[] = #[⟨.cell ad, false, false⟩] := by
  unfold execOp
  simp only [ho, h1]
  constructor
  · simp [go_sem, hc]
  · simp [go_sem, hc]
theorem setCell_size (w : World) (a : Addr) (u : Value) : (w.setCell a u).heap.size = w.heap.size := by simp [World.setCell]
theorem heap_setCell_at {w : World} {a : Addr} {u : Value} {cs : Array Value} {T : TypeId} {fr : Nat × Nat} (h : w.heap[a.block]? = some (.cells cs T fr)) (ha : a.spot = none) : (w.setCell a u).heap[a.block]? = some (.cells (cs.setIfInBounds a.off u) T fr) := by
  simp [World.setCell, Array.getElem?_modify, h, ha]
def set3 (w : World) (B : Nat) (u0 u1 u2 : Value) : World := ((w.setCell ⟨B, 0, none⟩ u0).setCell ⟨B, 1, none⟩ u1).setCell ⟨B, 2, none⟩ u2
theorem set3_size (w : World) (B : Nat) (u0 u1 u2 : Value) : (set3 w B u0 u1 u2).heap.size = w.heap.size := by unfold set3; rw [setCell_size, setCell_size, setCell_size]
theorem set3_ne (w : World) {B b : Nat} (u0 u1 u2 : Value) (h : b ≠ B) : (set3 w B u0 u1 u2).heap[b]? = w.heap[b]? :=
  (RowKit.Below.heap_setCell _ ⟨B, 2, none⟩ u2 b h).trans ((RowKit.Below.heap_setCell _ ⟨B, 1, none⟩ u1 b h).trans (RowKit.Below.heap_setCell _ ⟨B, 0, none⟩ u0 b h))
theorem set3_at {w : World} {B : Nat} {d0 d1 d2 : Value} {T : TypeId} {fr : Nat × Nat} (u0 u1 u2 : Value) (h : w.heap[B]? = some (.cells #[d0, d1, d2] T fr)) : (set3 w B u0 u1 u2).heap[B]? = some (.cells #[u0, u1, u2] T fr) :=
  heap_setCell_at (a := ⟨B, 2, none⟩) (heap_setCell_at (a := ⟨B, 1, none⟩) (heap_setCell_at (a := ⟨B, 0, none⟩) h rfl) rfl) rfl
theorem does_set3 {X : Ctx} {O S : Nat → Prop} {w : World} {B : Nat} {u0 u1 u2 : Value} (hO : O B) (hwg : ¬ X.Wg B) {es : Array Event} (he : ∀ e ∈ es, ∃ a : Addr, e.loc = .cell a ∧ e.sync = false ∧ a.block = B) : Does X O S w (set3 w B u0 u1 u2) es :=
  does_write (w := w) (w' := set3 w B u0 u1 u2) hO hwg rfl rfl rfl (set3_size _ _ _ _ _) (fun _ hb => set3_ne _ _ _ _ hb) he
theorem does_set {X : Ctx} {O S : Nat → Prop} {w : World} {a : Addr} {u : Value} (hO : O a.block) (hwg : ¬ X.Wg a.block) {es : Array Event} (he : ∀ e ∈ es, e = ⟨.cell a, true, false⟩) : Does X O S w (w.setCell a u) es :=
  does_write (w := w) (w' := w.setCell a u) (B := a.block) hO hwg rfl rfl rfl (setCell_size _ _ _) (fun b hb => RowKit.Below.heap_setCell w a u b hb) fun e h => by
    obtain rfl := he e h
    exact ⟨a, rfl, rfl, rfl⟩
theorem set3_same (w : World) (B : Nat) (u0 u1 u2 : Value) : (set3 w B u0 u1 u2).tape = w.tape ∧ (set3 w B u0 u1 u2).os = w.os ∧ (set3 w B u0 u1 u2).output = w.output := ⟨rfl, rfl, rfl⟩
def lst (n : Nat) (ph : Nat → Int) (R : List Nat) : Array Value := ((List.range n).map fun i => Value.int .i64 (if i ∈ R then ph i else 0)).toArray
theorem info3 : (Try.prog.info? 3).map (fun i => (i.zero, i.size, i.bytes)) = some (some (.int .i64 0), 1, 8) := by kernel_rfl
theorem under22 : Try.prog.underlying 22 = some (.slice 3) := by kernel_rfl
theorem run_make22 {o : Oper} {x y : Operand} (ho : o.op = .makeSlice 22 x y) (a : Act) (w : World) {n : Nat} (ph : Nat → Int) (h1 : a.eval x = .int .i64 n) (h2 : a.eval y = .int .i64 n) (hn : n * 8 ≤ 140737488351232) :
    (execOp a.eval o).run Try.prog w = .ok (.value (.slice (some ⟨w.heap.size, 0, none⟩) n n)) (w.alloc (.cells (lst n ph []) 3)) ∧ (execOp a.eval o).events Try.prog w #[] = #[] := by
  obtain ⟨i0, hi, hz0, hz1, hz2⟩ := info_parts info3
  have hb : (i0.bytes : Int) * (n : Int) ≤ 281474976710656 := by rw [hz2]; omega
  have hr := run_make w 22 3 i0 _ under22 hi hz0 .i64 .i64 n n (by omega) (Int.le_refl _) hb (by omega)
  have he := events_make w 22 3 i0 _ under22 hi hz0 .i64 .i64 n n (by omega) (Int.le_refl _) hb (by omega) (by rw [hz2]; simp; omega) #[]
  have hc : madeCells (Value.cells (.int .i64 0)) ((n : Int).toNat * i0.size) = lst n ph [] := by
    rw [hz1]
    apply Array.ext
    · simp [madeCells, lst]
    · intro k h3 h4
      simp [madeCells, lst, Value.cells, Nat.mod_one]
  rw [hc] at hr
  unfold execOp
  simp only [ho, h1, h2]
  constructor
  · simp [hr]
  · simp [go_sem, he, hr]
end Go.Proofs.Ytmkjoojoaldljaa.Net
namespace Go.Proofs.Ytmkjoojoaldljaa.Net
open Go.Conc Go.RowKit Go.Conc.Lib Go.ConcR.Gen
open Go.ConcN (WgLive)
open Go.ConcR (KK wgBlock WgAt stA smA rd wr mk DC0)
def sndN : Nat → Code → Code
  | 0, c => c
  | n + 1, .seq _ c => sndN n c
  | _, _ => .skip
noncomputable def gBody : Code := Try.f27.body.getD .skip
noncomputable def gOps (n : Nat) : Array Oper := match sndN n gBody with | .seq (.region _ o _) _ => o | _ => #[]
section
variable {X : Ctx} {S O : Nat → Prop} {wh ww bi bf bp br be bl pl rs n : Nat} {w : World}
set_option maxRecDepth 100000 in
set_option maxHeartbeats 1000000 in
theorem main_tail (H : Here X) {m : Nat} {cs : List Frame} {Stop : Goroutine → World → Prop} (w : World) (v0 v1 v2 v4 v17 v18 v19 v20 v21 v22 v23 v24 v25 v26 v27 v28 v29 v30 v31 v32 v33 v34 v35 v36 v37 v38 v39 v40 v41 v42 v43 v44 v45 v46 v47 v48 v49 v50 v51 v52 v53 v54 v55 v56 v57 v58 v59 v60 v61 v62 v63 v64 v65 v66 v67 v68 v69 v70 v71 v72 v73 v74 v75 v76 v77 v78 v79 : Value)
    (h : ∀ T todo, T.size = 80 → T[6]? = some (.slice (some ⟨bl, 0, none⟩) n n) → T[7]? = some (.int .i64 (-1)) → T[8]? = some (.int .i64 0) → Goes Try.prog true (Agree X (OS O S)) (DN X O S) Stop m (G { (base 27).at ⟨T, []⟩ todo with mode := .returning } cs) w) :
    Goes Try.prog true (Agree X (OS O S)) (DN X O S) Stop (m + 20) (G ((base 27).at ⟨#[v0, v1, v2, .pointer (some ⟨bi, 0, none⟩), v4, .pointer (some ⟨bf, 0, none⟩), .slice none 0 0, .int .i64 0, .int .i64 0, .pointer (some ⟨bp, 0, none⟩), .pointer (some ⟨br, 0, none⟩), .pointer (some ⟨be, 0, none⟩), .pointer (some ⟨wh, 0, none⟩), .pointer (some ⟨ww, 0, none⟩), .slice (some ⟨bl, 0, none⟩) n n, .int .i64 (-1), .int .i64 0, v17, v18, v19, v20, v21, v22, v23, v24, v25, v26, v27, v28, v29, v30, v31, v32, v33, v34, v35, v36, v37, v38, v39, v40, v41, v42, v43, v44, v45, v46, v47, v48, v49, v50, v51, v52, v53, v54, v55, v56, v57, v58, v59, v60, v61, v62, v63, v64, v65, v66, v67, v68, v69, v70, v71, v72, v73, v74, v75, v76, v77, v78, v79], []⟩ [.inRegion (gOps 11) [], .code (sndN 12 gBody)]) cs) w := by
  simp only [gOps, gBody, sndN, Try.f27, Option.getD_some]
  refine Goes.mono (n := m + 17) ?_ (by omega)
  refine gd rfl (fun _ => stepG_region_end) ?_
  refine gd rfl (fun _ => stepG_seq) ?_
  refine gd rfl (fun _ => stepG_seq) ?_
  refine gd rfl (fun _ => stepG_region) ?_
  refine gd_pure (.int .i64 0) rfl rfl (by decide) (fun _ => by go_simp) (fun _ => by simp [go_sem]) ?_
  walk_nrm
  refine gd_pure (.bool false) rfl rfl (by decide) (fun _ => by go_simp) (fun _ => by simp [go_sem]) ?_
  walk_nrm
  refine gd rfl (fun _ => stepG_region_end) ?_
  refine gd rfl (fun _ => stepG_cond (t := false) rfl) ?_
  refine gd rfl (fun _ => stepG_skip) ?_
  refine gd rfl (fun _ => stepG_seq) ?_
  refine gd rfl (fun _ => stepG_region) ?_
  refine gd_pure (.slice (some ⟨bl, 0, none⟩) n n) rfl rfl (by decide) (fun _ => by go_simp) (fun _ => by simp [go_sem]) ?_
  walk_nrm
  refine gd_pure (.slice (some ⟨bl, 0, none⟩) n n) rfl rfl (by decide) (fun _ => by go_simp) (fun _ => by simp [go_sem]) ?_
  walk_nrm
  refine gd_pure (.int .i64 (-1)) rfl rfl (by decide) (fun _ => by go_simp) (fun _ => by simp [go_sem]) ?_
  walk_nrm
  refine gd_pure (.int .i64 0) rfl rfl (by decide) (fun _ => by go_simp) (fun _ => by simp [go_sem]) ?_
  walk_nrm
  refine gd rfl (fun _ => stepG_region_end) ?_
  refine gd rfl (fun _ => stepG_ret') ?_
  exact h _ _ rfl rfl rfl rfl
structure MK (K0 : Nat → Prop) (w0 : World) (bl n : Nat) (ph : Nat → Int) (R : List Nat) (w : World) : Prop where
  keep : ∀ b, K0 b → w.heap[b]? = w0.heap[b]?
  size : w0.heap.size ≤ w.heap.size
  list : w.heap[bl]? = some (.cells (lst n ph R) 3 (0, 0))
  same : w.tape = w0.tape ∧ w.os = w0.os ∧ w.output = w0.output
def FinG (cs : List Frame) (K0 : Nat → Prop) (w0 : World) (n : Nat) (ph : Nat → Int) (R : List Nat) (O : Nat → Prop) (g : Goroutine) (w : World) : Prop :=
  ∃ bl T todo, g = G { (base 27).at ⟨T, []⟩ todo with mode := .returning } cs ∧ T.size = 80 ∧ T[6]? = some (.slice (some ⟨bl, 0, none⟩) n n) ∧ T[7]? = some (.int .i64 (-1)) ∧ T[8]? = some (.int .i64 0) ∧ MK K0 w0 bl n ph R w ∧ O bl ∧ w0.heap.size ≤ bl
variable {K0 : Nat → Prop} {w0 : World} {ph : Nat → Int} {R : List Nat} {cs : List Frame}
theorem MK.rely (h : MK K0 w0 bl n ph R w) (hK : ∀ b, K0 b → OS O S b) (hb : OS O S bl) {w₁ : World} (r : Agree X (OS O S) w w₁) : MK K0 w0 bl n ph R w₁ :=
  ⟨fun b hb => (r.blk b (hK b hb)).trans (h.keep b hb), Nat.le_trans h.size r.size, (r.blk bl hb).trans h.list, r.tape.trans h.same.1, r.os.trans h.same.2.1, r.output.trans h.same.2.2⟩
theorem MK.setCell (h : MK K0 w0 bl n ph R w) {a : Addr} {u : Value} (ha : ¬ K0 a.block) (hb : a.block ≠ bl) : MK K0 w0 bl n ph R (w.setCell a u) :=
  ⟨fun b hb => (RowKit.Below.heap_setCell w a u b (by rintro rfl; exact ha hb)).trans (h.keep b hb), by simpa [World.setCell] using h.size, (RowKit.Below.heap_setCell w a u bl (Ne.symm hb)).trans h.list, h.same⟩
structure GHere (C : GCtx) (X : Ctx) (K0 : Nat → Prop) (w0 : World) (ph : Nat → Int) (cs : List Frame) : Prop where
  here : Here X
  fin : C.Fin = FinG cs K0 w0 C.n ph
  ph : C.ph = ph
  wh : X.Wg C.wh
  ww : X.Wg C.ww
  kwh : ¬ K0 C.wh
  kww : ¬ K0 C.ww
  whlt : C.wh < w0.heap.size
  wwlt : C.ww < w0.heap.size
  ne : C.wh ≠ C.ww
  wgs : ∀ b, X.Wg b → b < w0.heap.size
  klt : ∀ b, K0 b → b < w0.heap.size
variable {C : GCtx}
set_option maxRecDepth 100000 in
set_option maxHeartbeats 1000000 in
theorem main_wait (H : GHere C X K0 w0 ph cs) (hK : ∀ b, K0 b → OS O S b) (hb : O bl) (hbl : w0.heap.size ≤ bl) (w : World) (hw : MK K0 w0 bl C.n ph R w) (hl : WgLive 69 C.wh w) (v0 v1 v2 v4 v17 v18 v19 v20 v21 v22 v23 v24 v25 v26 v27 v28 v29 v30 v31 v32 v33 v34 v35 v36 v37 v38 v39 v40 v41 v42 v43 v44 v45 v46 v47 v48 v49 v50 v51 v52 v53 v54 v55 v56 v57 v58 v59 v60 v61 v62 v63 v64 v65 v66 v67 v68 v69 v70 v71 v72 v73 v74 v75 v76 v77 v78 v79 : Value) :
    Seg X true S (StopOf X (C.mWai R) true S) 10 O (G ((base 27).at ⟨#[v0, v1, v2, .pointer (some ⟨bi, 0, none⟩), v4, .pointer (some ⟨bf, 0, none⟩), .slice none 0 0, .int .i64 0, .int .i64 0, .pointer (some ⟨bp, 0, none⟩), .pointer (some ⟨br, 0, none⟩), .pointer (some ⟨be, 0, none⟩), .pointer (some ⟨C.wh, 0, none⟩), .pointer (some ⟨C.ww, 0, none⟩), .slice (some ⟨bl, 0, none⟩) C.n C.n, .int .i64 (-1), .int .i64 0, v17, v18, v19, v20, v21, v22, v23, v24, v25, v26, v27, v28, v29, v30, v31, v32, v33, v34, v35, v36, v37, v38, v39, v40, v41, v42, v43, v44, v45, v46, v47, v48, v49, v50, v51, v52, v53, v54, v55, v56, v57, v58, v59, v60, v61, v62, v63, v64, v65, v66, v67, v68, v69, v70, v71, v72, v73, v74, v75, v76, v77, v78, v79], []⟩ [.code (sndN 11 gBody)]) cs) w := by
  have htail := fun (Stop : Goroutine → World → Prop) (w : World) => main_tail (X := X) (S := S) (O := O) (bi := bi) (bf := bf) (bp := bp) (br := br) (be := be) (wh := C.wh) (ww := C.ww) (bl := bl) (n := C.n) H.here (m := 0) (cs := cs) (Stop := Stop) w
  have hwh := H.wh
  have hkwh := H.kwh
  have hwb : C.wh ≠ bl := by have := H.whlt; omega
  unfold GCtx.mWai
  rw [H.fin]
  obtain ⟨P, ty, Wg, Dead, lo, t0⟩ := X
  obtain ⟨rfl, rfl⟩ : P = Try.prog ∧ ty = 69 := ⟨H.here.P, H.here.ty⟩
  refine Seg.of_dn_stop (n := 10) (StopG := AtKd Try.prog 69 true (Agree _ (OS O S)) C.wh (fun g w => Seg _ true S (StopOf _ (.ret (FinG cs K0 w0 C.n ph R)) true S) 20 O g w)) ?_ (fun g w h => ⟨by obtain ⟨_, _, h, _⟩ := h; exact h, 20, h⟩)
  simp only [gOps, gBody, sndN, Try.f27, Option.getD_some] at htail ⊢
  refine Goes.mono (n := 6) ?_ (by omega)
  refine gd rfl (fun _ => stepG_seq) ?_
  refine gd rfl (fun _ => stepG_region) ?_
  refine gd_call (f := Try.link.wait) rfl rfl (by decide) rfl Try.wgLib.f_wait (nm_wait Try.link) rfl ?_
  have hA := @net_wait Try.link Try.prog (Agree { P := Try.prog, ty := 69, Wg := Wg, Dead := Dead, lo := lo, t0 := t0 } (OS O S)) C.wh (fun w => MK K0 w0 bl C.n ph R w) true (fun g w => Seg { P := Try.prog, ty := 69, Wg := Wg, Dead := Dead, lo := lo, t0 := t0 } true S (StopOf { P := Try.prog, ty := 69, Wg := Wg, Dead := Dead, lo := lo, t0 := t0 } (.ret (FinG cs K0 w0 C.n ph R)) true S) 20 O g w)
  simp only [waitFn, Option.getD_some] at hA
  walk_nrmf Try.f27
  simp only [waitFn]
  walk_nrm
  refine goes_weaken (hA (mT := 0) Try.wgLib (fun _ _ r h => r.live C.wh hwh h) (fun _ _ r h => h.rely hK (.inl hb) r) (fun w a u ha _ h => h.setCell (by rw [ha]; exact hkwh) (by rw [ha]; exact hwb)) (fun w h _ => Goes.stop fun w₁ h₁ => ?_) w ⟨hw, hl⟩) fun _ _ _ h => dn_of_dc0 h
  refine Seg.of_dn0 ?_
  refine htail _ w₁ _ _ _ _ _ _ _ _ _ _ _ _ _ _ _ _ _ _ _ _ _ _ _ _ _ _ _ _ _ _ _ _ _ _ _ _ _ _ _ _ _ _ _ _ _ _ _ _ _ _ _ _ _ _ _ _ _ _ _ _ _ _ _ _ _ _ _ fun T todo h0 h6 h7 h8 => ?_
  refine Goes.stop fun w₂ h₂ w₃ h₃ => ⟨rfl, bl, T, todo, rfl, h0, h6, h7, h8, h.rely hK (.inl hb) ((h₁.trans h₂).trans h₃), hb, hbl⟩
noncomputable def gLoop2 : Code := match sndN 10 gBody with | .seq (.seq _ (.block _ (.loop c))) _ => c | _ => .skip
theorem run_recv89 {o : Oper} {t : Tmp} (ho : o.op = .recv 89 (.tmp t) true) (a : Act) (w : World) {c : Nat} (h : a.eval (.tmp t) = .chan (some c)) :
    (execOp a.eval o).run Try.prog w = .ok (.comm #[rcase c (.agg #[.int .i64 0, .int .i64 0, .int .i64 0])] true (.recv true)) w ∧ (execOp a.eval o).events Try.prog w #[] = #[] := by
  have z3 := Try.zeroValue92
  have u := Try.runUnderlying89
  simp only [Act.eval, Array.getD_eq_getD_getElem?] at h
  unfold execOp
  simp only [ho]
  constructor
  · simp [go_sem, z3, u, rcase]
    exact h
  · simp [go_sem, z3, u]
theorem lst_size (n : Nat) (ph : Nat → Int) (R : List Nat) : (lst n ph R).size = n := by simp [lst]
theorem lst_set (n : Nat) (ph : Nat → Int) (R : List Nat) (i : Nat) : (lst n ph R).setIfInBounds i (.int .i64 (ph i)) = lst n ph (i :: R) := by
  unfold lst
  apply Array.ext
  · simp
  · intro k h1 h2
    have hk : k < n := by simpa using h2
    by_cases e : i = k
    · subst e; simp
    · have e' : (k = i ∨ k ∈ R) ↔ k ∈ R := ⟨fun h => h.resolve_left fun x => e x.symm, .inr⟩
      rw [Array.getElem_setIfInBounds_ne (by simpa using hk) (fun x => e x)]
      simp [e']
set_option maxRecDepth 100000 in
set_option maxHeartbeats 2000000 in
theorem main_loop (H : GHere C X K0 w0 ph cs) (hn : C.n ≤ 9223372036854775807) : ∀ (j : Nat) (R : List Nat) (O : Nat → Prop) (w : World) (v0 v1 v2 v4 v17 v18 v19 v20 v21 v22 v23 v24 v25 v26 v27 v28 v29 v30 v31 v32 v33 v34 v35 v36 v37 v38 v39 v40 v41 v42 v43 v45 v46 v47 v48 v49 v50 v51 v52 v53 v54 v55 v56 v57 v58 v59 v60 v61 v62 v63 v64 v65 v66 v67 v68 v69 v70 v71 v72 v73 v74 v75 v76 v77 v78 v79 : Value), (∀ b, K0 b → OS O S b) → O bl → w0.heap.size ≤ bl → MK K0 w0 bl C.n ph R w → WgLive 69 C.wh w →
    Seg X true S (StopOf X (C.mRcv j R) true S) 40 O (G ((base 27).at ⟨#[v0, v1, v2, .pointer (some ⟨bi, 0, none⟩), v4, .pointer (some ⟨bf, 0, none⟩), .slice none 0 0, .int .i64 0, .int .i64 0, .pointer (some ⟨bp, 0, none⟩), .pointer (some ⟨br, 0, none⟩), .pointer (some ⟨be, 0, none⟩), .pointer (some ⟨C.wh, 0, none⟩), .pointer (some ⟨C.ww, 0, none⟩), .slice (some ⟨bl, 0, none⟩) C.n C.n, .int .i64 (-1), .int .i64 0, v17, v18, v19, v20, v21, v22, v23, v24, v25, v26, v27, v28, v29, v30, v31, v32, v33, v34, v35, v36, v37, v38, v39, v40, v41, v42, v43, .chan (some C.rs), v45, v46, v47, v48, v49, v50, v51, v52, v53, v54, v55, v56, v57, v58, v59, v60, v61, v62, v63, v64, v65, v66, v67, v68, v69, v70, v71, v72, v73, v74, v75, v76, v77, v78, v79], []⟩ [.code gLoop2, .inLoop gLoop2, .inBlock 2, .code (sndN 11 gBody)]) cs) w := by
  have hwait := fun (R : List Nat) (O : Nat → Prop) (w : World) hK hb hbl hw hl => main_wait (S := S) (O := O) (bi := bi) (bf := bf) (bp := bp) (br := br) (be := be) (bl := bl) (R := R) H hK hb hbl w hw hl
  have hwh := H.wh
  have hph := H.ph
  have hwgs := H.wgs
  have hklt := H.klt
  obtain ⟨P, ty, Wg, Dead, lo, t0⟩ := X
  obtain ⟨rfl, rfl⟩ : P = Try.prog ∧ ty = 69 := ⟨H.here.P, H.here.ty⟩
  intro j
  induction j with
  | zero =>
    intro R O w v0 v1 v2 v4 v17 v18 v19 v20 v21 v22 v23 v24 v25 v26 v27 v28 v29 v30 v31 v32 v33 v34 v35 v36 v37 v38 v39 v40 v41 v42 v43 v45 v46 v47 v48 v49 v50 v51 v52 v53 v54 v55 v56 v57 v58 v59 v60 v61 v62 v63 v64 v65 v66 v67 v68 v69 v70 v71 v72 v73 v74 v75 v76 v77 v78 v79 hK hb hbl hw hl
    simp only [gLoop2, gBody, sndN, Try.f27, Option.getD_some] at hwait ⊢
    refine (Seg.of_dn_stop (n := 40) ?_ (fun _ _ h => h))
    refine gd rfl (fun _ => stepG_seq) ?_
    refine gd rfl (fun _ => stepG_region) ?_
    simp only [List.size_toArray, List.length_cons, List.length_nil, Nat.reduceAdd, Nat.zero_add, List.range, List.range.loop]
    refine Goes.stop fun w₁ h₁ => ?_
    refine ⟨rfl, .agg #[.int .i64 0, .int .i64 0, .int .i64 0], ?_, fun w₂ v h₂ hv => hv.elim, fun w₂ h₂ => ⟨100, ?_⟩⟩
    · rw [stepG_comm rfl rfl (by decide) (run_recv89 rfl _ _ rfl).1, listed_nil (run_recv89 rfl _ _ rfl).2]
      rfl
    rw [core_G, served_G]
    walk_nrm
    refine Seg.of_dn (n := 20) (m := 80) ?_ (fun g w h => h)
    refine gd_pure (.bool false) rfl rfl (by decide) (fun _ => by go_simp) (fun _ => by simp [go_sem]) ?_
    walk_nrm
    refine gd rfl (fun _ => stepG_region_end) ?_
    refine gd rfl (fun _ => stepG_seq) ?_
    refine gd rfl (fun _ => stepG_cond (t := false) rfl) ?_
    refine gd rfl (fun _ => stepG_exit rfl) ?_
    refine Goes.stop fun w₃ h₃ => ?_
    exact (hwait R O w₃ hK hb hbl (hw.rely hK (.inl hb) ((h₁.trans h₂).trans h₃)) (((h₁.trans h₂).trans h₃).live C.wh hwh hl) _ _ _ _ _ _ _ _ _ _ _ _ _ _ _ _ _ _ _ _ _ _ _ _ _ _ _ _ _ _ _ _ _ _ _ _ _ _ _ _ _ _ _ _ _ _ _ _ _ _ _ _ _ _ _ _ _ _ _ _ _ _ _ _ _ _ _).le (by omega)
  | succ j ih =>
    intro R O w v0 v1 v2 v4 v17 v18 v19 v20 v21 v22 v23 v24 v25 v26 v27 v28 v29 v30 v31 v32 v33 v34 v35 v36 v37 v38 v39 v40 v41 v42 v43 v45 v46 v47 v48 v49 v50 v51 v52 v53 v54 v55 v56 v57 v58 v59 v60 v61 v62 v63 v64 v65 v66 v67 v68 v69 v70 v71 v72 v73 v74 v75 v76 v77 v78 v79 hK hb hbl hw hl
    simp only [gLoop2, gBody, sndN, Try.f27, Option.getD_some] at hwait ih ⊢
    refine (Seg.of_dn_stop (n := 40) ?_ (fun _ _ h => h))
    refine gd rfl (fun _ => stepG_seq) ?_
    refine gd rfl (fun _ => stepG_region) ?_
    simp only [List.size_toArray, List.length_cons, List.length_nil, Nat.reduceAdd, Nat.zero_add, List.range, List.range.loop]
    refine Goes.stop fun w₁ h₁ => ?_
    refine ⟨rfl, .agg #[.int .i64 0, .int .i64 0, .int .i64 0], ?_, fun w₂ v h₂ hv => ⟨140, ?_⟩, fun w₂ h₂ => ⟨100, ?_⟩⟩
    · rw [stepG_comm rfl rfl (by decide) (run_recv89 rfl _ _ rfl).1, listed_nil (run_recv89 rfl _ _ rfl).2]
      rfl
    · obtain ⟨i, hin, rfl⟩ := hv
      have hpl : (fun v => C.mRcv j (GCtx.placeOf v :: R)) (resOf C.ph (.int .i64 (i : Int))) = C.mRcv j (i :: R) := by
        show C.mRcv j (GCtx.placeOf (resOf C.ph (.int .i64 (i : Int))) :: R) = _
        rw [GCtx.placeOf_res]
      rw [hpl]
      clear hpl
      have hro : resOf C.ph (.int .i64 (i : Int)) = .agg #[.int .i64 i, .int .i64 (ph i), .int .i64 0] := by simp [resOf, hph]
      rw [hro]
      have hw2 := hw.rely hK (.inl hb) (h₁.trans h₂)
      have hl2 := (h₁.trans h₂).live C.wh hwh hl
      clear hw hl h₁ h₂
      rw [core_G, served_G]
      walk_nrm
      refine Seg.of_dn (n := 20) (m := 120) ?_ (fun g w h => h)
      refine gd_pure (.bool true) rfl rfl (by decide) (fun _ => by go_simp) (fun _ => by simp [go_sem]) ?_
      walk_nrm
      refine gd rfl (fun _ => stepG_region_end) ?_
      refine gd rfl (fun _ => stepG_seq) ?_
      refine gd rfl (fun _ => stepG_cond (t := true) rfl) ?_
      refine gd rfl (fun _ => stepG_skip) ?_
      refine gd rfl (fun _ => stepG_block) ?_
      refine gd rfl (fun _ => stepG_seq) ?_
      refine gd rfl (fun _ => stepG_region) ?_
      refine gd_pure (.agg #[.int .i64 i, .int .i64 (ph i), .int .i64 0]) rfl rfl (by decide) (fun _ => by go_simp) (fun _ => by simp [go_sem]) ?_
      walk_nrm
      refine Goes.stop fun w₃ h₃ => ?_
      have hw3 := hw2.rely hK (.inl hb) h₃
      have hl3 := h₃.live C.wh hwh hl2
      clear hw2 hl2 h₃
      refine seg_val (n := 119) (fun w => .pointer (some ⟨w.heap.size, 0, none⟩)) (fun w => w.alloc (.cells #[.int .i64 0, .int .i64 0, .int .i64 0] 92)) rfl rfl (by decide) (fun w₄ h₄ => ⟨(run_alloc92 rfl _ w₄).1, by rw [listed_nil (run_alloc92 rfl _ w₄).2]; exact does_alloc (fun b hx => Nat.lt_of_lt_of_le (hwgs b hx) (hw3.rely hK (.inl hb) h₄).size) _⟩) fun w₄ h₄ => ?_
      walk_nrm
      have hw4 := hw3.rely hK (.inl hb) h₄
      have hl4 := h₄.live C.wh hwh hl3
      clear hw3 hl3 h₄
      have hsz4 : (w₄.alloc (.cells #[.int .i64 0, .int .i64 0, .int .i64 0] 92)).heap.size = w₄.heap.size + 1 := by simp
      have hBl : bl < w₄.heap.size := by
        have := hw4.list
        exact (Array.getElem?_eq_some_iff.1 this).1
      have hO1 : grow O w₄.heap.size (w₄.alloc (.cells #[.int .i64 0, .int .i64 0, .int .i64 0] 92)).heap.size bl := .inl hb
      have hOB : grow O w₄.heap.size (w₄.alloc (.cells #[.int .i64 0, .int .i64 0, .int .i64 0] 92)).heap.size w₄.heap.size := .inr ⟨Nat.le_refl _, by omega⟩
      have hK1 : ∀ b, K0 b → OS (grow O w₄.heap.size (w₄.alloc (.cells #[.int .i64 0, .int .i64 0, .int .i64 0] 92)).heap.size) S b := fun b hb => (hK b hb).imp .inl id
      have hw5 : MK K0 w0 bl C.n ph R (w₄.alloc (.cells #[.int .i64 0, .int .i64 0, .int .i64 0] 92)) :=
        ⟨fun b hb => (RowKit.Below.heap_alloc w₄ _ b (Nat.lt_of_lt_of_le (hklt b hb) hw4.size)).trans (hw4.keep b hb), by have := hw4.size; omega, (RowKit.Below.heap_alloc w₄ _ bl hBl).trans hw4.list, hw4.same⟩
      have hl5 : WgLive 69 C.wh (w₄.alloc (.cells #[.int .i64 0, .int .i64 0, .int .i64 0] 92)) := wgLive_of_heap (RowKit.Below.heap_alloc w₄ _ C.wh (Nat.lt_of_lt_of_le (hwgs _ hwh) hw4.size)) hl4
      have hB5 : (w₄.alloc (.cells #[.int .i64 0, .int .i64 0, .int .i64 0] 92)).heap[w₄.heap.size]? = some (.cells #[.int .i64 0, .int .i64 0, .int .i64 0] 92 (0, 0)) := by
        show (w₄.heap.push _)[w₄.heap.size]? = _
        simp
      have hBW : ¬ Wg w₄.heap.size := fun h => by have := hwgs _ h; have := hw4.size; omega
      have hblW : ¬ Wg bl := fun h => by have := hwgs _ h; omega
      generalize grow O w₄.heap.size (w₄.alloc (.cells #[.int .i64 0, .int .i64 0, .int .i64 0] 92)).heap.size = O1 at hO1 hOB hK1 ⊢
      generalize w₄.alloc (.cells #[.int .i64 0, .int .i64 0, .int .i64 0] 92) = w₅ at hw5 hl5 hB5 ⊢
      have hKB : ¬ K0 w₄.heap.size := fun h => by have := hklt _ h; have := hw4.size; omega
      have hBne : w₄.heap.size ≠ bl := by omega
      generalize w₄.heap.size = B at hOB hB5 hBW hKB hBne ⊢
      clear hw4 hl4 hsz4 hBl
      refine seg_skip (n := 118) (fun w => set3 w B (.int .i64 i) (.int .i64 (ph i)) (.int .i64 0)) rfl rfl (by decide) (fun w₆ h₆ => ?_) fun w₆ h₆ => ?_
      · refine ⟨(run_store92 rfl _ w₆ rfl rfl ((h₆.blk B (.inl hOB)).trans hB5)).1, does_set3 hOB hBW fun e he => ?_⟩
        · have hm := mem_listed he
          rw [(run_store92 rfl _ w₆ rfl rfl ((h₆.blk B (.inl hOB)).trans hB5)).2] at hm
          simp at hm
          rcases hm with rfl | rfl | rfl <;> exact ⟨_, rfl, rfl, rfl⟩
      walk_nrm
      have hw6 := hw5.rely hK1 (.inl hO1) h₆
      have hl6 := h₆.live C.wh hwh hl5
      have hB6 := (h₆.blk B (.inl hOB)).trans hB5
      clear hw5 hl5 hB5 h₆
      rw [set3_size, grow_same]
      have hw7 : MK K0 w0 bl C.n ph R (set3 w₆ B (.int .i64 i) (.int .i64 (ph i)) (.int .i64 0)) :=
        ((hw6.setCell (a := ⟨B, 0, none⟩) hKB hBne).setCell (a := ⟨B, 1, none⟩) hKB hBne).setCell (a := ⟨B, 2, none⟩) hKB hBne
      have hne : B ≠ C.wh := fun h => hBW (by rw [h]; exact hwh)
      have hl7 : WgLive 69 C.wh (set3 w₆ B (.int .i64 i) (.int .i64 (ph i)) (.int .i64 0)) := by
        exact wgLive_of_heap (set3_ne _ _ _ _ (Ne.symm hne)) hl6
      have hB7 : (set3 w₆ B (.int .i64 i) (.int .i64 (ph i)) (.int .i64 0)).heap[B]? = some (.cells #[.int .i64 i, .int .i64 (ph i), .int .i64 0] 92 (0, 0)) :=
        set3_at _ _ _ hB6
      generalize set3 w₆ B (.int .i64 i) (.int .i64 (ph i)) (.int .i64 0) = w₇ at hw7 hl7 hB7 ⊢
      clear hw6 hl6 hB6
      have c0 : w₇.cell? ⟨B, 0, none⟩ = some (.int .i64 i) := by simp [World.cell?, hB7]
      have c1 : w₇.cell? ⟨B, 1, none⟩ = some (.int .i64 (ph i)) := by simp [World.cell?, hB7]
      have c2 : w₇.cell? ⟨B, 2, none⟩ = some (.int .i64 0) := by simp [World.cell?, hB7]
      refine Seg.of_dn (n := 20) (m := 98) ?_ (fun g w h => h)
      refine gd rfl (fun _ => stepG_region_end) ?_
      refine gd rfl (fun _ => stepG_seq) ?_
      refine gd rfl (fun _ => stepG_region) ?_
      refine gd_pure (.slice (some ⟨bl, 0, none⟩) C.n C.n) rfl rfl (by decide) (fun _ => by go_simp) (fun _ => by simp [go_sem]) ?_
      walk_nrm
      refine gd_pure (.pointer (some ⟨B, 0, none⟩)) rfl rfl (by decide) (fun w => (run_field92_0 rfl _ w rfl).1) (fun w => (run_field92_0 rfl _ w rfl).2) ?_
      walk_nrm
      refine gd_load (ad := ⟨B, 0, none⟩) (v := .int .i64 i) rfl rfl (by decide) rfl rfl (.inl hOB) c0 (fun w₁ h₁ => run_load3 rfl _ w₁ rfl h₁) (loud 27 _ Try.func27 rfl) ?_
      walk_nrm
      refine gd_pure (.pointer (some ⟨B, 1, none⟩)) rfl rfl (by decide) (fun w => (run_field92_1 rfl _ w rfl).1) (fun w => (run_field92_1 rfl _ w rfl).2) ?_
      walk_nrm
      refine gd_load (ad := ⟨B, 1, none⟩) (v := .int .i64 (ph i)) rfl rfl (by decide) rfl rfl (.inl hOB) c1 (fun w₁ h₁ => run_load3 rfl _ w₁ rfl h₁) (loud 27 _ Try.func27 rfl) ?_
      walk_nrm
      refine gd_pure (.pointer (some ⟨bl, i, none⟩)) rfl rfl (by decide) (fun w => (run_index22_at rfl _ w rfl rfl hin).1) (fun w => (run_index22_at rfl _ w rfl rfl hin).2) ?_
      walk_nrm
      refine Goes.stop fun w₈ h₈ => ?_
      have hw8 := hw7.rely hK1 (.inl hO1) h₈
      have hl8 := h₈.live C.wh hwh hl7
      have hB8 := (h₈.blk B (.inl hOB)).trans hB7
      clear hw7 hl7 hB7 h₈ c0 c1 c2
      have hcl : w₈.cell? ⟨bl, i, none⟩ = some (.int .i64 (if i ∈ R then ph i else 0)) := by
        simp [World.cell?, hw8.list, lst, hin]
      have hfl : w₈.frozen? ⟨bl, i, none⟩ = false := by
        simp [World.frozen?, hw8.list]
      refine seg_skip (n := 97) (fun w => w.setCell ⟨bl, i, none⟩ (.int .i64 (ph i))) rfl rfl (by decide) (fun w₉ h₉ => ?_) fun w₉ h₉ => ?_
      · have hc9 : w₉.cell? ⟨bl, i, none⟩ = some (.int .i64 (if i ∈ R then ph i else 0)) := (h₉.cell (.inl hO1)).trans hcl
        have hf9 : w₉.frozen? ⟨bl, i, none⟩ = false := by
          rw [← hfl]; unfold World.frozen?; rw [h₉.blk bl (.inl hO1)]
        refine ⟨(run_store3 rfl _ w₉ rfl rfl hc9 hf9).1, does_set hO1 hblW fun e he => ?_⟩
        have hm := mem_listed he
        rw [(run_store3 rfl _ w₉ rfl rfl hc9 hf9).2] at hm
        simpa using hm
      walk_nrm
      have hw9 := hw8.rely hK1 (.inl hO1) h₉
      have hl9 := h₉.live C.wh hwh hl8
      have hB9 := (h₉.blk B (.inl hOB)).trans hB8
      clear hw8 hl8 hB8 h₉ hcl hfl
      rw [setCell_size, grow_same]
      have hwa : MK K0 w0 bl C.n ph (i :: R) (w₉.setCell ⟨bl, i, none⟩ (.int .i64 (ph i))) := by
        refine ⟨fun b hb' => (RowKit.Below.heap_setCell w₉ _ _ b (by rintro rfl; have := hklt _ hb'; omega)).trans (hw9.keep b hb'), by rw [setCell_size]; exact hw9.size, ?_, hw9.same⟩
        have := heap_setCell_at (a := ⟨bl, i, none⟩) (u := .int .i64 (ph i)) (w := w₉) hw9.list rfl
        rw [this, ← lst_set]
      have hla : WgLive 69 C.wh (w₉.setCell ⟨bl, i, none⟩ (.int .i64 (ph i))) := wgLive_of_heap (RowKit.Below.heap_setCell w₉ _ _ C.wh (by intro h; have h' : C.wh = bl := h; exact hblW (by rw [← h']; exact hwh))) hl9
      have hBa : (w₉.setCell ⟨bl, i, none⟩ (.int .i64 (ph i))).heap[B]? = some (.cells #[.int .i64 i, .int .i64 (ph i), .int .i64 0] 92 (0, 0)) := (RowKit.Below.heap_setCell w₉ _ _ B hBne).trans hB9
      generalize w₉.setCell ⟨bl, i, none⟩ (.int .i64 (ph i)) = wa at hwa hla hBa ⊢
      clear hw9 hl9 hB9
      have c2 : wa.cell? ⟨B, 2, none⟩ = some (.int .i64 0) := by simp [World.cell?, hBa]
      refine Seg.of_dn (n := 57) (m := 40) ?_ (fun g w h => h)
      refine gd rfl (fun _ => stepG_region_end) ?_
      refine gd rfl (fun _ => stepG_seq) ?_
      refine gd rfl (fun _ => stepG_seq) ?_
      refine gd rfl (fun _ => stepG_region) ?_
      refine gd_pure (.pointer (some ⟨B, 2, none⟩)) rfl rfl (by decide) (fun w => (run_field92_2 rfl _ w rfl).1) (fun w => (run_field92_2 rfl _ w rfl).2) ?_
      walk_nrm
      refine gd_load (ad := ⟨B, 2, none⟩) (v := .int .i64 0) rfl rfl (by decide) rfl rfl (.inl hOB) c2 (fun w₁ h₁ => run_load24 rfl _ w₁ rfl h₁) (loud 27 _ Try.func27 rfl) ?_
      walk_nrm
      refine gd_pure (.bool true) rfl rfl (by decide) (fun _ => by go_simp) (fun _ => by simp [go_sem]) ?_
      walk_nrm
      refine gd_pure (.bool true) rfl rfl (by decide) (fun _ => by go_simp) (fun _ => by simp [go_sem]) ?_
      walk_nrm
      refine gd rfl (fun _ => stepG_unwanted rfl rfl) ?_
      walk_nrm
      refine gd rfl (fun _ => stepG_unwanted rfl rfl) ?_
      walk_nrm
      refine gd rfl (fun _ => stepG_unwanted rfl rfl) ?_
      walk_nrm
      refine gd rfl (fun _ => stepG_unwanted rfl rfl) ?_
      walk_nrm
      refine gd rfl (fun _ => stepG_unwanted rfl rfl) ?_
      walk_nrm
      refine gd rfl (fun _ => stepG_unwanted rfl rfl) ?_
      walk_nrm
      refine gd rfl (fun _ => stepG_unwanted rfl rfl) ?_
      walk_nrm
      refine gd rfl (fun _ => stepG_unwanted rfl rfl) ?_
      walk_nrm
      refine gd_pure (.bool true) rfl rfl (by decide) (fun _ => by go_simp) (fun _ => by simp [go_sem]) ?_
      walk_nrm
      refine gd rfl (fun _ => stepG_region_end) ?_
      refine gd rfl (fun _ => stepG_cond (t := true) rfl) ?_
      refine gd rfl (fun _ => stepG_exit rfl) ?_
      refine gd rfl (fun _ => stepG_inLoop) ?_
      refine Goes.stop fun wb hb' => ?_
      exact ih (i :: R) O1 wb _ _ _ _ _ _ _ _ _ _ _ _ _ _ _ _ _ _ _ _ _ _ _ _ _ _ _ _ _ _ _ _ _ _ _ _ _ _ _ _ _ _ _ _ _ _ _ _ _ _ _ _ _ _ _ _ _ _ _ _ _ _ _ _ _ _ hK1 hO1 hbl (hwa.rely hK1 (.inl hO1) hb') (hb'.live C.wh hwh hla)
    · rw [core_G, served_G]
      walk_nrm
      refine Seg.of_dn (n := 20) (m := 80) ?_ (fun g w h => h)
      refine gd_pure (.bool false) rfl rfl (by decide) (fun _ => by go_simp) (fun _ => by simp [go_sem]) ?_
      walk_nrm
      refine gd rfl (fun _ => stepG_region_end) ?_
      refine gd rfl (fun _ => stepG_seq) ?_
      refine gd rfl (fun _ => stepG_cond (t := false) rfl) ?_
      refine gd rfl (fun _ => stepG_exit rfl) ?_
      refine Goes.stop fun w₃ h₃ => ?_
      exact (hwait R O w₃ hK hb hbl (hw.rely hK (.inl hb) ((h₁.trans h₂).trans h₃)) (((h₁.trans h₂).trans h₃).live C.wh hwh hl) _ _ _ _ _ _ _ _ _ _ _ _ _ _ _ _ _ _ _ _ _ _ _ _ _ _ _ _ _ _ _ _ _ _ _ _ _ _ _ _ _ _ _ _ _ _ _ _ _ _ _ _ _ _ _ _ _ _ _ _ _ _ _ _ _ _ _).le (by omega)
end
end Go.Proofs.Ytmkjoojoaldljaa.Net
namespace Go.Proofs.Ytmkjoojoaldljaa.Net
open Go.Conc Go.RowKit Go.Conc.Lib Go.ConcR.Gen
open Go.ConcN (WgLive)
open Go.ConcR (KK wgBlock WgAt stA smA rd wr mk DC0)
section
variable {X : Ctx} {S O : Nat → Prop} {wh ww bi bf bp br be bl pl rs n : Nat} {w : World}
variable {K0 : Nat → Prop} {w0 : World} {ph : Nat → Int} {R : List Nat} {cs : List Frame} {C : GCtx}
structure KW (K0 : Nat → Prop) (w0 : World) (w : World) : Prop where
  keep : ∀ b, K0 b → w.heap[b]? = w0.heap[b]?
  size : w0.heap.size ≤ w.heap.size
  same : w.tape = w0.tape ∧ w.os = w0.os ∧ w.output = w0.output
theorem KW.rely (h : KW K0 w0 w) (hK : ∀ b, K0 b → OS O S b) {w₁ : World} (r : Agree X (OS O S) w w₁) : KW K0 w0 w₁ :=
  ⟨fun b hb => (r.blk b (hK b hb)).trans (h.keep b hb), Nat.le_trans h.size r.size, r.tape.trans h.same.1, r.os.trans h.same.2.1, r.output.trans h.same.2.2⟩
theorem KW.setCell (h : KW K0 w0 w) {a : Addr} {u : Value} (ha : ¬ K0 a.block) : KW K0 w0 (w.setCell a u) :=
  ⟨fun b hb => (RowKit.Below.heap_setCell w a u b (by rintro rfl; exact ha hb)).trans (h.keep b hb), by rw [setCell_size]; exact h.size, h.same⟩
theorem KW.cell (h : KW K0 w0 w) {a : Addr} (ha : K0 a.block) : w.cell? a = w0.cell? a := World.cell?_of_block (h.keep _ ha)
structure GMem (C : GCtx) (K0 : Nat → Prop) (w0 : World) (bi bf bp br be : Nat) (ad : Addr) (a0 : Option Addr) (cap : Nat) (F : FuncId) (cap' : Array Value) (zs : Nat → Int) (xa : Addr) (xv : Value) : Prop where
  kbi : K0 bi
  kbf : K0 bf
  kbp : K0 bp
  kbr : K0 br
  kbe : K0 be
  kad : K0 ad.block
  cbi : w0.cell? ⟨bi, 0, none⟩ = some (.slice a0 C.n cap)
  cbf : w0.cell? ⟨bf, 0, none⟩ = some (.func (.func F) #[] cap')
  cbp : w0.cell? ⟨bp, 0, none⟩ = some (.chan (some C.pl))
  cbr : w0.cell? ⟨br, 0, none⟩ = some (.chan (some C.rs))
  cbe : w0.cell? ⟨be, 0, none⟩ = some (.chan (some C.en))
  a0 : 0 < C.n → a0 = some ad
  el : ∀ i, i < C.n → w0.cell? (ad.add i) = some (.int .i64 (zs i))
  n8 : C.n * 8 ≤ 140737488351232
  kxa : K0 xa.block
  cxa : w0.cell? xa = some xv
set_option maxRecDepth 100000 in
set_option maxHeartbeats 1000000 in
theorem main_list (H : GHere C X K0 w0 ph cs) {ad xa : Addr} {xv : Value} {a0 : Option Addr} {cap : Nat} {F : FuncId} {cap' : Array Value} {zs : Nat → Int} (M : GMem C K0 w0 bi bf bp br be ad a0 cap F cap' zs xa xv) (hK : ∀ b, K0 b → OS O S b) (w : World) (hw : KW K0 w0 w) (hl : WgLive 69 C.wh w) (v0 v1 v2 v4 v14 v15 v16 v17 v18 v19 v20 v21 v22 v23 v24 v25 v26 v27 v28 v29 v30 v31 v32 v33 v34 v35 v36 v37 v38 v39 v40 v41 v42 v43 v44 v45 v46 v47 v48 v49 v50 v51 v52 v53 v54 v55 v56 v57 v58 v59 v60 v61 v62 v63 v64 v65 v66 v67 v68 v69 v70 v71 v72 v73 v74 v75 v76 v77 v78 v79 : Value) :
    Seg X true S (StopOf X (C.mRcv C.n []) true S) 80 O (G ((base 27).at ⟨#[v0, v1, v2, .pointer (some ⟨bi, 0, none⟩), v4, .pointer (some ⟨bf, 0, none⟩), .slice none 0 0, .int .i64 0, .int .i64 0, .pointer (some ⟨bp, 0, none⟩), .pointer (some ⟨br, 0, none⟩), .pointer (some ⟨be, 0, none⟩), .pointer (some ⟨C.wh, 0, none⟩), .pointer (some ⟨C.ww, 0, none⟩), v14, v15, v16, v17, v18, v19, v20, v21, v22, v23, v24, v25, v26, v27, v28, v29, v30, v31, v32, v33, v34, v35, v36, v37, v38, v39, v40, v41, v42, v43, v44, v45, v46, v47, v48, v49, v50, v51, v52, v53, v54, v55, v56, v57, v58, v59, v60, v61, v62, v63, v64, v65, v66, v67, v68, v69, v70, v71, v72, v73, v74, v75, v76, v77, v78, v79], []⟩ [.code (sndN 9 gBody)]) cs) w := by
  have hn8 := M.n8
  have hklt := H.klt
  have hwgs := H.wgs
  have hwh := H.wh
  have hloop := fun (O : Nat → Prop) (bl : Nat) (w : World) => main_loop (S := S) (bi := bi) (bf := bf) (bp := bp) (br := br) (be := be) (bl := bl) H (by omega) C.n [] O w
  obtain ⟨P, ty, Wg, Dead, lo, t0⟩ := X
  obtain ⟨rfl, rfl⟩ : P = Try.prog ∧ ty = 69 := ⟨H.here.P, H.here.ty⟩
  simp only [gLoop2, gBody, sndN, Try.f27, Option.getD_some] at hloop ⊢
  refine Seg.of_dn (n := 10) (m := 70) ?_ (fun g w h => h)
  refine gd rfl (fun _ => stepG_seq) ?_
  refine gd rfl (fun _ => stepG_region) ?_
  refine gd_load (ad := ⟨bi, 0, none⟩) (v := .slice a0 C.n cap) rfl rfl (by decide) rfl rfl (hK _ M.kbi) ((hw.cell M.kbi).trans M.cbi) (fun w₁ h₁ => ⟨by go_simp, by simp [go_sem, h₁]⟩) (loud 27 _ Try.func27 rfl) ?_
  walk_nrm
  refine gd_pure (.int .i64 C.n) rfl rfl (by decide) (fun _ => by go_simp) (fun _ => by simp [go_sem]) ?_
  walk_nrm
  refine Goes.stop fun w₁ h₁ => ?_
  have hw1 := hw.rely hK h₁
  have hl1 := h₁.live C.wh hwh hl
  clear hw hl h₁
  refine seg_val (n := 69) (fun w => .slice (some ⟨w.heap.size, 0, none⟩) C.n C.n) (fun w => w.alloc (.cells (lst C.n ph []) 3)) rfl rfl (by decide) (fun w₂ h₂ => ⟨(run_make22 rfl _ w₂ ph rfl rfl hn8).1, by rw [listed_nil (run_make22 rfl _ w₂ ph rfl rfl hn8).2]; exact does_alloc (fun b hx => Nat.lt_of_lt_of_le (hwgs b hx) (hw1.rely hK h₂).size) _⟩) fun w₂ h₂ => ?_
  walk_nrm
  have hw2 := hw1.rely hK h₂
  have hl2 := h₂.live C.wh hwh hl1
  clear hw1 hl1 h₂
  have hsz : (w₂.alloc (.cells (lst C.n ph []) 3)).heap.size = w₂.heap.size + 1 := by simp
  have hOB : grow O w₂.heap.size (w₂.alloc (.cells (lst C.n ph []) 3)).heap.size w₂.heap.size := .inr ⟨Nat.le_refl _, by omega⟩
  have hK1 : ∀ b, K0 b → OS (grow O w₂.heap.size (w₂.alloc (.cells (lst C.n ph []) 3)).heap.size) S b := fun b hb => (hK b hb).imp .inl id
  have hw3 : MK K0 w0 w₂.heap.size C.n ph [] (w₂.alloc (.cells (lst C.n ph []) 3)) :=
    ⟨fun b hb => (RowKit.Below.heap_alloc w₂ _ b (Nat.lt_of_lt_of_le (hklt b hb) hw2.size)).trans (hw2.keep b hb), by have := hw2.size; omega, by
      show (w₂.heap.push _)[w₂.heap.size]? = _
      simp, hw2.same⟩
  have hl3 : WgLive 69 C.wh (w₂.alloc (.cells (lst C.n ph []) 3)) := wgLive_of_heap (RowKit.Below.heap_alloc w₂ _ C.wh (Nat.lt_of_lt_of_le (hwgs _ hwh) hw2.size)) hl2
  have hbl : w0.heap.size ≤ w₂.heap.size := hw2.size
  generalize grow O w₂.heap.size (w₂.alloc (.cells (lst C.n ph []) 3)).heap.size = O1 at hOB hK1 ⊢
  generalize w₂.alloc (.cells (lst C.n ph []) 3) = w₃ at hw3 hl3 hsz ⊢
  generalize w₂.heap.size = B at hOB hw3 hbl ⊢
  clear hw2 hl2 hsz
  have hbr : w₃.cell? ⟨br, 0, none⟩ = some (.chan (some C.rs)) := (World.cell?_of_block (hw3.keep _ M.kbr)).trans M.cbr
  refine Seg.of_dn (n := 29) (m := 40) ?_ (fun g w h => h)
  refine gd_pure (.slice (some ⟨B, 0, none⟩) C.n C.n) rfl rfl (by decide) (fun _ => by go_simp) (fun _ => by simp [go_sem]) ?_
  walk_nrm
  refine gd_pure (.int .i64 (-1)) rfl rfl (by decide) (fun _ => by go_simp) (fun _ => by simp [go_sem]) ?_
  walk_nrm
  refine gd_pure (.int .i64 0) rfl rfl (by decide) (fun _ => by go_simp) (fun _ => by simp [go_sem]) ?_
  walk_nrm
  refine gd rfl (fun _ => stepG_region_end) ?_
  refine gd rfl (fun _ => stepG_seq) ?_
  refine gd rfl (fun _ => stepG_seq) ?_
  refine gd rfl (fun _ => stepG_region) ?_
  refine gd_load (ad := ⟨br, 0, none⟩) (v := .chan (some C.rs)) rfl rfl (by decide) rfl rfl (hK1 _ M.kbr) hbr (fun w₁ h₁ => ⟨by go_simp, by simp [go_sem, h₁]⟩) (loud 27 _ Try.func27 rfl) ?_
  walk_nrm
  refine gd rfl (fun _ => stepG_region_end) ?_
  refine gd rfl (fun _ => stepG_block) ?_
  refine gd rfl (fun _ => stepG_loop) ?_
  refine Goes.stop fun w₄ h₄ => ?_
  exact hloop O1 B w₄ _ _ _ _ _ _ _ _ _ _ _ _ _ _ _ _ _ _ _ _ _ _ _ _ _ _ _ _ _ _ _ _ _ _ _ _ _ _ _ _ _ _ _ _ _ _ _ _ _ _ _ _ _ _ _ _ _ _ _ _ _ _ _ _ _ _ hK1 hOB hbl (hw3.rely hK1 (.inl hOB) h₄) (h₄.live C.wh hwh hl3)
theorem stepG_go0 {P : Program} {main : Bool} {b : Frame} {a : Act} {k : List Item} {cs : List Frame} {ops : Array Oper} {i : Nat} {rest : List Nat} {o : Oper} {f : FuncId} {cap : Array Value} {x : Operand} (ho : ops[i]? = some o) (hw : Region.wanted o (yielded ops a.tmps) = true)
    (hk : b.kind ≠ .early) (hop : o.op = .go { callee := .value x, args := #[], argTypes := #[] }) (hx : a.eval x = .func (.func f) #[] cap) (w : World) :
    stepG P main (G (b.at a (.inRegion ops (i :: rest) :: k)) cs) w = .spawn (G (b.at (a.put o.dst undef) (.inRegion ops rest :: k)) cs) (born P { target := .fn (.func f) cap, args := #[] }) w #[] := by
  have hr : (execOp a.eval o).run P w = .ok (.spawn { target := .fn (.func f) cap, args := #[] }) w := by
    unfold execOp
    simp [hop, resolve, Deferred.ofValue, hx]
  have he : (execOp a.eval o).events P w #[] = #[] := by
    unfold execOp
    simp [hop, resolve, Deferred.ofValue, hx]
  rw [stepG_spawn (d := { target := .fn (.func f) cap, args := #[] }) ho hw hk hr rfl, listed_nil he]
structure GMore (C : GCtx) (X : Ctx) : Prop where
  ok : C.Ok X
  whrs : C.wh ≠ C.rs
  whpl : C.wh ≠ C.pl
  lo : ∀ c, c = C.pl ∨ c = C.rs ∨ c = C.en → X.lo ≤ c
set_option maxRecDepth 100000 in
set_option maxHeartbeats 1000000 in
theorem main_closer (H : GHere C X K0 w0 ph cs) (N : GMore C X) {ad xa : Addr} {xv : Value} {a0 : Option Addr} {cap : Nat} {F : FuncId} {cap' : Array Value} {zs : Nat → Int} (M : GMem C K0 w0 bi bf bp br be ad a0 cap F cap' zs xa xv) (hK : ∀ b, K0 b → OS O S b) (w : World) (hw : KW K0 w0 w) (hl : WgLive 69 C.wh w) (hl' : WgLive 69 C.ww w) (v0 v1 v2 v4 v14 v15 v16 v17 v18 v19 v20 v21 v22 v23 v24 v25 v26 v27 v28 v29 v30 v31 v32 v33 v34 v35 v36 v37 v38 v39 v40 v41 v42 v43 v44 v45 v46 v47 v48 v49 v50 v51 v52 v53 v54 v55 v56 v57 v58 v59 v60 v61 v62 v63 v64 v65 v66 v67 v68 v69 v70 v71 v72 v73 v74 v75 v76 v77 v78 v79 : Value) :
    Seg X true S (StopOf X C.mSpwC true S) 10 O (G ((base 27).at ⟨#[v0, v1, v2, .pointer (some ⟨bi, 0, none⟩), v4, .pointer (some ⟨bf, 0, none⟩), .slice none 0 0, .int .i64 0, .int .i64 0, .pointer (some ⟨bp, 0, none⟩), .pointer (some ⟨br, 0, none⟩), .pointer (some ⟨be, 0, none⟩), .pointer (some ⟨C.wh, 0, none⟩), .pointer (some ⟨C.ww, 0, none⟩), v14, v15, v16, v17, v18, v19, v20, v21, v22, v23, v24, v25, v26, v27, v28, v29, v30, v31, v32, v33, v34, v35, v36, v37, v38, v39, v40, v41, v42, v43, v44, v45, v46, v47, v48, v49, v50, v51, v52, v53, v54, v55, v56, v57, v58, v59, v60, v61, v62, v63, v64, v65, v66, v67, v68, v69, v70, v71, v72, v73, v74, v75, v76, v77, v78, v79], []⟩ [.code (sndN 8 gBody)]) cs) w := by
  have hlist := fun (S O : Nat → Prop) (hK : ∀ b, K0 b → OS O S b) (w : World) (hw : KW K0 w0 w) (hl : WgLive 69 C.wh w) => main_list (S := S) (O := O) H M hK w hw hl
  have hwh := H.wh
  have hww := H.ww
  have hbw : br ≠ C.ww := fun h => H.kww (by rw [← h]; exact M.kbr)
  have hne := H.ne
  have hclose := fun (w : World) h => closer_walk (wh := C.wh) (ww := C.ww) (br := br) (rs := C.rs) (S := K0) (O := fun _ => False) H.here hwh hww M.kbr hbw hne N.whrs w h
  obtain ⟨P, ty, Wg, Dead, lo, t0⟩ := X
  obtain ⟨rfl, rfl⟩ : P = Try.prog ∧ ty = 69 := ⟨H.here.P, H.here.ty⟩
  simp only [gBody, sndN, Try.f27, Option.getD_some] at hlist ⊢
  refine Seg.of_dn_stop (n := 10) ?_ (fun _ _ h => h)
  refine Goes.mono (n := 8) ?_ (by omega)
  refine gd rfl (fun _ => stepG_seq) ?_
  refine gd rfl (fun _ => stepG_region) ?_
  refine gd_pure (.func (.func 50) #[] #[.pointer (some ⟨C.wh, 0, none⟩), .pointer (some ⟨C.ww, 0, none⟩), .pointer (some ⟨br, 0, none⟩)]) rfl rfl (by decide) (fun _ => by go_simp; rfl) (fun _ => by simp [go_sem, Instr.makeFunc]) ?_
  walk_nrm
  refine Goes.stop fun w₁ h₁ => ?_
  have hw1 := hw.rely hK h₁
  refine ⟨rfl, rfl, _, _, stepG_go0 rfl rfl (by decide) rfl rfl _, fun _ => False, K0, fun _ h => h.elim, fun _ h => h.elim, fun b hb => ⟨hK b hb, id⟩, hclose w₁ ⟨(hw1.cell M.kbr).trans M.cbr, h₁.live C.wh hwh hl, h₁.live C.ww hww hl'⟩, 81, ?_⟩
  walk_nrm
  refine Seg.gd (n := 80) rfl (fun _ => stepG_region_end) ?_
  exact hlist _ _ (fun b hb => .inr ⟨hK b hb, id, id⟩) w₁ hw1 (h₁.live C.wh hwh hl) _ _ _ _ _ _ _ _ _ _ _ _ _ _ _ _ _ _ _ _ _ _ _ _ _ _ _ _ _ _ _ _ _ _ _ _ _ _ _ _ _ _ _ _ _ _ _ _ _ _ _ _ _ _ _ _ _ _ _ _ _ _ _ _ _ _ _ _ _ _
noncomputable def gLoop1 : Code := match sndN 7 gBody with | .seq (.seq _ (.block _ (.loop c))) _ => c | _ => .skip
set_option maxRecDepth 100000 in
set_option maxHeartbeats 2000000 in
theorem main_workers (H : GHere C X K0 w0 ph cs) (N : GMore C X) {ad xa : Addr} {xv : Value} {a0 : Option Addr} {cap : Nat} {F : FuncId} {cap' : Array Value} {zs : Nat → Int} {nf : Nat} (M : GMem C K0 w0 bi bf bp br be ad a0 cap F cap' zs xa xv)
    (hF : ∀ (i : Nat) (w : World), i < C.n → WK xa xv bf bi (.func (.func F) #[] cap') ad C.n cap zs w → CallsC Try.prog false (Agree X (OS (fun _ => False) K0)) (DN X (fun _ => False) K0) F (#[.int .i64 i, .int .i64 (zs i)] ++ cap') nf w (fun v w' => v = .tuple #[.int .i64 (ph i), .int .i64 0] ∧ Agree X (OS (fun _ => False) K0) w w')) :
    ∀ (m k : Nat), k + m = C.W → ∀ (S O : Nat → Prop) (w : World) (v0 v2 v4 v14 v15 v16 v17 v18 v19 v20 v21 v22 v23 v24 v25 v26 v27 v28 v29 v30 v31 v32 v33 v34 v37 v38 v39 v40 v41 v42 v43 v44 v45 v46 v47 v48 v49 v50 v51 v52 v53 v54 v55 v56 v57 v58 v59 v60 v61 v62 v63 v64 v65 v66 v67 v68 v69 v70 v71 v72 v73 v74 v75 v76 v77 v78 v79 : Value), (∀ b, K0 b → OS O S b) → KW K0 w0 w → WgLive 69 C.wh w → WgLive 69 C.ww w →
    Seg X true S (StopOf X (C.mSpwW m) true S) 40 O (G ((base 27).at ⟨#[v0, .int .i64 C.W, v2, .pointer (some ⟨bi, 0, none⟩), v4, .pointer (some ⟨bf, 0, none⟩), .slice none 0 0, .int .i64 0, .int .i64 0, .pointer (some ⟨bp, 0, none⟩), .pointer (some ⟨br, 0, none⟩), .pointer (some ⟨be, 0, none⟩), .pointer (some ⟨C.wh, 0, none⟩), .pointer (some ⟨C.ww, 0, none⟩), v14, v15, v16, v17, v18, v19, v20, v21, v22, v23, v24, v25, v26, v27, v28, v29, v30, v31, v32, v33, v34, .int .i64 C.W, .int .i64 (k : Nat), v37, v38, v39, v40, v41, v42, v43, v44, v45, v46, v47, v48, v49, v50, v51, v52, v53, v54, v55, v56, v57, v58, v59, v60, v61, v62, v63, v64, v65, v66, v67, v68, v69, v70, v71, v72, v73, v74, v75, v76, v77, v78, v79], []⟩ [.code gLoop1, .inLoop gLoop1, .inBlock 0, .code (sndN 8 gBody)]) cs) w := by
  have hclose := fun (S O : Nat → Prop) (hK : ∀ b, K0 b → OS O S b) (w : World) => main_closer (S := S) (O := O) H N M hK w
  have hwh := H.wh
  have hww := H.ww
  have hW' := N.ok.W'
  have hwork := fun (w : World) h1 h2 h3 h4 => work_walk (X := X) (S := K0) (O := fun _ => False) (ww := C.ww) (bf := bf) (bi := bi) (br := br) (bp := bp) (pl := C.pl) (rs := C.rs) (F := F) (cap' := cap') (ad := ad) (xa := xa) (xv := xv) (n := C.n) (cap := cap) (zs := zs) (ph := ph) (nf := nf) H.here hww (.inr M.kbf) (.inr M.kbi) (.inr M.kbr) (.inr M.kbp) ⟨.inr M.kad, .inr M.kxa⟩ (by have := M.n8; omega) hF C.n w h1 h2 h3 h4
  have hph := H.ph
  have hws : C.workerS C.n = workS C.ww C.pl C.rs C.n ph C.n := by unfold GCtx.workerS; rw [hph]
  obtain ⟨P, ty, Wg, Dead, lo, t0⟩ := X
  obtain ⟨rfl, rfl⟩ : P = Try.prog ∧ ty = 69 := ⟨H.here.P, H.here.ty⟩
  intro m
  induction m with
  | zero =>
    intro k hkW S O w v0 v2 v4 v14 v15 v16 v17 v18 v19 v20 v21 v22 v23 v24 v25 v26 v27 v28 v29 v30 v31 v32 v33 v34 v37 v38 v39 v40 v41 v42 v43 v44 v45 v46 v47 v48 v49 v50 v51 v52 v53 v54 v55 v56 v57 v58 v59 v60 v61 v62 v63 v64 v65 v66 v67 v68 v69 v70 v71 v72 v73 v74 v75 v76 v77 v78 v79 hK hw hl hl'
    obtain rfl : k = C.W := by omega
    simp only [gLoop1, gBody, sndN, Try.f27, Option.getD_some] at hclose ⊢
    show Seg _ true S (StopOf _ C.mSpwC true S) 40 O _ w
    refine Seg.of_dn (n := 10) (m := 30) ?_ (fun g w h => h)
    refine gd rfl (fun _ => stepG_seq) ?_
    refine gd rfl (fun _ => stepG_region) ?_
    refine gd_pure (.bool false) rfl rfl (by decide) (fun _ => by go_simp) (fun _ => by simp [go_sem]) ?_
    walk_nrm
    refine gd rfl (fun _ => stepG_region_end) ?_
    refine gd rfl (fun _ => stepG_seq) ?_
    refine gd rfl (fun _ => stepG_cond (t := false) rfl) ?_
    refine gd rfl (fun _ => stepG_exit rfl) ?_
    refine Goes.stop fun w₁ h₁ => ?_
    exact (hclose S O hK w₁ (hw.rely hK h₁) (h₁.live C.wh hwh hl) (h₁.live C.ww hww hl') _ _ _ _ _ _ _ _ _ _ _ _ _ _ _ _ _ _ _ _ _ _ _ _ _ _ _ _ _ _ _ _ _ _ _ _ _ _ _ _ _ _ _ _ _ _ _ _ _ _ _ _ _ _ _ _ _ _ _ _ _ _ _ _ _ _ _ _ _ _).le (by omega)
  | succ m ih =>
    intro k hkW S O w v0 v2 v4 v14 v15 v16 v17 v18 v19 v20 v21 v22 v23 v24 v25 v26 v27 v28 v29 v30 v31 v32 v33 v34 v37 v38 v39 v40 v41 v42 v43 v44 v45 v46 v47 v48 v49 v50 v51 v52 v53 v54 v55 v56 v57 v58 v59 v60 v61 v62 v63 v64 v65 v66 v67 v68 v69 v70 v71 v72 v73 v74 v75 v76 v77 v78 v79 hK hw hl hl'
    have hlt : (k : Int) < (C.W : Int) := by omega
    have hk64 : IntKind.i64.wrap ((k : Int) + 1) = ((k + 1 : Nat) : Int) := by rw [IntKind.wrap_i64]; omega
    simp only [gLoop1, gBody, sndN, Try.f27, Option.getD_some] at ih ⊢
    show Seg _ true S (StopOf _ (.spw (fun _ => False) (fun _ => False) (C.workerS C.n) (C.mSpwW m)) true S) 40 O _ w
    rw [hws]
    refine Seg.of_dn_stop (n := 40) ?_ (fun _ _ h => h)
    refine gd rfl (fun _ => stepG_seq) ?_
    refine gd rfl (fun _ => stepG_region) ?_
    refine gd_pure (.bool true) rfl rfl (by decide) (fun _ => by go_simp) (fun _ => by simp [go_sem]) ?_
    walk_nrm
    refine gd rfl (fun _ => stepG_region_end) ?_
    refine gd rfl (fun _ => stepG_seq) ?_
    refine gd rfl (fun _ => stepG_cond (t := true) rfl) ?_
    refine gd rfl (fun _ => stepG_skip) ?_
    refine gd rfl (fun _ => stepG_seq) ?_
    refine gd rfl (fun _ => stepG_block) ?_
    refine gd rfl (fun _ => stepG_region) ?_
    refine gd_pure (.func (.func 49) #[] #[.pointer (some ⟨C.ww, 0, none⟩), .pointer (some ⟨bp, 0, none⟩), .pointer (some ⟨bf, 0, none⟩), .pointer (some ⟨bi, 0, none⟩), .pointer (some ⟨br, 0, none⟩)]) rfl rfl (by decide) (fun _ => by go_simp; rfl) (fun _ => by simp [go_sem, Instr.makeFunc]) ?_
    walk_nrm
    refine Goes.stop fun w₁ h₁ => ?_
    have hw1 := hw.rely hK h₁
    have hl1 := h₁.live C.wh hwh hl
    have hl1' := h₁.live C.ww hww hl'
    refine ⟨rfl, rfl, _, _, stepG_go0 rfl rfl (by decide) rfl rfl _, fun _ => False, K0, fun _ h => h.elim, fun _ h => h.elim, fun b hb => ⟨hK b hb, id⟩, hwork w₁ hl1' ⟨(hw1.cell M.kbf).trans M.cbf, fun h0 => by rw [← M.a0 h0]; exact (hw1.cell M.kbi).trans M.cbi, fun i hi => (hw1.cell (by rw [addBlock]; exact M.kad)).trans (M.el i hi), (hw1.cell M.kxa).trans M.cxa⟩ ((hw1.cell M.kbr).trans M.cbr) ((hw1.cell M.kbp).trans M.cbp), 60, ?_⟩
    have hK2 : ∀ b, K0 b → OS (fun _ => False) (fun b => (O b ∨ S b) ∧ ¬ False ∧ ¬ False) b := fun b hb => .inr ⟨hK b hb, id, id⟩
    walk_nrm
    refine Seg.of_dn (n := 20) (m := 40) ?_ (fun g w h => h)
    refine gd rfl (fun _ => stepG_region_end) ?_
    refine gd rfl (fun _ => stepG_inBlock) ?_
    refine gd rfl (fun _ => stepG_region) ?_
    refine gd_pure (.int .i64 ((k + 1 : Nat) : Int)) rfl rfl (by decide) (fun _ => by go_simp) (fun _ => by simp [go_sem]) ?_
    walk_nrm
    refine gd_pure (.int .i64 ((k + 1 : Nat) : Int)) rfl rfl (by decide) (fun _ => by go_simp) (fun _ => by simp [go_sem]) ?_
    walk_nrm
    refine gd rfl (fun _ => stepG_region_end) ?_
    refine gd rfl (fun _ => stepG_inLoop) ?_
    refine Goes.stop fun w₃ h₃ => ?_
    exact ih (k + 1) (by omega) _ _ w₃ _ _ _ _ _ _ _ _ _ _ _ _ _ _ _ _ _ _ _ _ _ _ _ _ _ _ _ _ _ _ _ _ _ _ _ _ _ _ _ _ _ _ _ _ _ _ _ _ _ _ _ _ _ _ _ _ _ _ _ _ _ _ _ _ _ _ _ hK2 (hw1.rely hK2 h₃) (h₃.live C.wh hwh hl1) (h₃.live C.ww hww hl1')
end
end Go.Proofs.Ytmkjoojoaldljaa.Net
namespace Go.Proofs.Ytmkjoojoaldljaa.Net
open Go.Conc Go.RowKit Go.Conc.Lib Go.ConcR.Gen
open Go.ConcN (WgLive)
open Go.ConcR (KK wgBlock WgAt stA smA rd wr mk DC0)
def GCtx.chs (C : GCtx) (c : Nat) : Prop := c = C.pl ∨ c = C.rs ∨ c = C.en
section
variable {X : Ctx} {S O : Nat → Prop} {bi bf bp br be : Nat} {w : World}
variable {K0 : Nat → Prop} {w0 : World} {ph : Nat → Int} {cs : List Frame} {C : GCtx}
variable {ad xa : Addr} {xv : Value} {a0 : Option Addr} {cap : Nat} {F : FuncId} {cap' : Array Value} {zs : Nat → Int} {nf : Nat}
set_option maxRecDepth 100000 in
set_option maxHeartbeats 2000000 in
theorem main_add2 (H : GHere C X K0 w0 ph cs) (N : GMore C X) (M : GMem C K0 w0 bi bf bp br be ad a0 cap F cap' zs xa xv)
    (hF : ∀ (i : Nat) (w : World), i < C.n → WK xa xv bf bi (.func (.func F) #[] cap') ad C.n cap zs w → CallsC Try.prog false (Agree X (OS (fun _ => False) K0)) (DN X (fun _ => False) K0) F (#[.int .i64 i, .int .i64 (zs i)] ++ cap') nf w (fun v w' => v = .tuple #[.int .i64 (ph i), .int .i64 0] ∧ Agree X (OS (fun _ => False) K0) w w'))
    (hK : ∀ b, K0 b → OS O S b) (w : World) (hw : KW K0 w0 w) (hl : WgLive 69 C.wh w) (hl' : WgLive 69 C.ww w) (v0 v2 v4 v14 v15 v16 v17 v18 v19 v20 v21 v22 v23 v24 v25 v26 v27 v28 v29 v30 v31 v32 v33 v34 v35 v36 v37 v38 v39 v40 v41 v42 v43 v44 v45 v46 v47 v48 v49 v50 v51 v52 v53 v54 v55 v56 v57 v58 v59 v60 v61 v62 v63 v64 v65 v66 v67 v68 v69 v70 v71 v72 v73 v74 v75 v76 v77 v78 v79 : Value) :
    Seg X true S (StopOf X C.mAdd2 true S) 30 O (G ((base 27).at ⟨#[v0, .int .i64 C.W, v2, .pointer (some ⟨bi, 0, none⟩), v4, .pointer (some ⟨bf, 0, none⟩), .slice none 0 0, .int .i64 0, .int .i64 0, .pointer (some ⟨bp, 0, none⟩), .pointer (some ⟨br, 0, none⟩), .pointer (some ⟨be, 0, none⟩), .pointer (some ⟨C.wh, 0, none⟩), .pointer (some ⟨C.ww, 0, none⟩), v14, v15, v16, v17, v18, v19, v20, v21, v22, v23, v24, v25, v26, v27, v28, v29, v30, v31, v32, v33, v34, v35, v36, v37, v38, v39, v40, v41, v42, v43, v44, v45, v46, v47, v48, v49, v50, v51, v52, v53, v54, v55, v56, v57, v58, v59, v60, v61, v62, v63, v64, v65, v66, v67, v68, v69, v70, v71, v72, v73, v74, v75, v76, v77, v78, v79], []⟩ [.code (sndN 6 gBody)]) cs) w := by
  have hwork := main_workers H N M hF C.W 0 (Nat.zero_add _) S O
  have hwh := H.wh
  have hww := H.ww
  have hkww := H.kww
  have hne := H.ne
  have hW1 := N.ok.W
  have hW' := N.ok.W'
  obtain ⟨P, ty, Wg, Dead, lo, t0⟩ := X
  obtain ⟨rfl, rfl⟩ : P = Try.prog ∧ ty = 69 := ⟨H.here.P, H.here.ty⟩
  simp only [gLoop1, gBody, sndN, Try.f27, Option.getD_some] at hwork ⊢
  show Seg _ true S (StopOf _ (.add C.ww C.W (C.mSpwW C.W)) true S) 30 O _ w
  refine Seg.of_dn_stop (n := 30) (StopG := AtA0 Try.prog 69 true (Agree _ (OS O S)) C.ww C.W (fun g w => Seg _ true S (StopOf _ (C.mSpwW C.W) true S) 60 O g w)) ?_ (fun g w h => ⟨h.1, 60, h⟩)
  refine Goes.mono (n := 16) ?_ (by omega)
  refine gd rfl (fun _ => stepG_seq) ?_
  refine gd rfl (fun _ => stepG_region) ?_
  refine gd_pure (.int .i64 C.W) rfl rfl (by decide) (fun _ => by go_simp) (fun _ => by simp [go_sem]) ?_
  walk_nrm
  refine gd_call (f := Try.link.add) rfl rfl (by decide) rfl Try.wgLib.f_add (nm_add Try.link) rfl ?_
  have hA := net_addPos (L := Try.link) (P := Try.prog) (R := Agree { P := Try.prog, ty := 69, Wg := Wg, Dead := Dead, lo := lo, t0 := t0 } (OS O S)) (wg := C.ww) (F := fun w => KW K0 w0 w ∧ WgLive 69 C.wh w) Try.wgLib (main := true)
    (Next := fun g w => Seg { P := Try.prog, ty := 69, Wg := Wg, Dead := Dead, lo := lo, t0 := t0 } true S (StopOf { P := Try.prog, ty := 69, Wg := Wg, Dead := Dead, lo := lo, t0 := t0 } (C.mSpwW C.W) true S) 60 O g w) (d := C.W) (D := C.W) rfl hW1 hW'
  simp only [addFn, Option.getD_some] at hA
  walk_nrmf Try.f27
  simp only [addFn]
  walk_nrm
  refine goes_weaken (hA (mT := 0) (fun _ _ r h => r.live C.ww hww h) (fun _ _ r h => ⟨h.1.rely hK r, r.live C.wh hwh h.2⟩) (fun w a u ha _ h => ⟨h.1.setCell (by rw [ha]; exact hkww), wgLive_of_heap (RowKit.Below.heap_setCell w a u C.wh (by rw [ha]; exact hne)) h.2⟩) (fun w h hlw => Goes.stop fun w₁ h₁ => ?_) w ⟨⟨hw, hl⟩, hl'⟩) fun _ _ _ h => dn_of_dc0 h
  walk_nrm
  refine Seg.of_dn (n := 20) (m := 40) ?_ (fun g w h => h)
  refine gd rfl (fun _ => stepG_region_end) ?_
  refine gd rfl (fun _ => stepG_seq) ?_
  refine gd rfl (fun _ => stepG_seq) ?_
  refine gd rfl (fun _ => stepG_region) ?_
  refine gd_pure (.int .i64 C.W) rfl rfl (by decide) (fun _ => by go_simp) (fun _ => by simp [go_sem]) ?_
  walk_nrm
  refine gd_pure (.int .i64 0) rfl rfl (by decide) (fun _ => by go_simp) (fun _ => by simp [go_sem]) ?_
  walk_nrm
  refine gd rfl (fun _ => stepG_region_end) ?_
  refine gd rfl (fun _ => stepG_block) ?_
  refine gd rfl (fun _ => stepG_loop) ?_
  refine Goes.stop fun w₂ h₂ => ?_
  exact hwork w₂ _ _ _ _ _ _ _ _ _ _ _ _ _ _ _ _ _ _ _ _ _ _ _ _ _ _ _ _ _ _ _ _ _ _ _ _ _ _ _ _ _ _ _ _ _ _ _ _ _ _ _ _ _ _ _ _ _ _ _ _ _ _ _ _ _ _ _ hK ((h.1.rely hK h₁).rely hK h₂) ((h₁.trans h₂).live C.wh hwh h.2) ((h₁.trans h₂).live C.ww hww hlw)
set_option maxRecDepth 100000 in
set_option maxHeartbeats 2000000 in
theorem main_hand (H : GHere C X K0 w0 ph cs) (N : GMore C X) (M : GMem C K0 w0 bi bf bp br be ad a0 cap F cap' zs xa xv)
    (hF : ∀ (i : Nat) (w : World), i < C.n → WK xa xv bf bi (.func (.func F) #[] cap') ad C.n cap zs w → CallsC Try.prog false (Agree X (OS (fun _ => False) K0)) (DN X (fun _ => False) K0) F (#[.int .i64 i, .int .i64 (zs i)] ++ cap') nf w (fun v w' => v = .tuple #[.int .i64 (ph i), .int .i64 0] ∧ Agree X (OS (fun _ => False) K0) w w'))
    (hK : ∀ b, K0 b → OS O S b) (hO : ∀ c, C.chs c → O c) (hKc : ∀ c, C.chs c → ¬ K0 c) (h0 : ∀ c, C.chs c → w0.heap[c]? = some (.chan 0 #[] false 0 0 false))
    (w : World) (hw : KW (fun b => K0 b ∨ C.chs b) w0 w) (hl : WgLive 69 C.wh w) (hl' : WgLive 69 C.ww w) (v0 v2 v4 v14 v15 v16 v17 v18 v19 v20 v21 v22 v23 v24 v25 v26 v27 v28 v29 v30 v31 v32 v33 v34 v35 v36 v37 v38 v39 v40 v41 v42 v43 v44 v45 v46 v47 v48 v49 v50 v51 v52 v53 v54 v55 v56 v57 v58 v59 v60 v61 v62 v63 v64 v65 v66 v67 v68 v69 v70 v71 v72 v73 v74 v75 v76 v77 v78 v79 : Value) :
    Seg X true S (StopOf X C.mSpwH true S) 10 O (G ((base 27).at ⟨#[v0, .int .i64 C.W, v2, .pointer (some ⟨bi, 0, none⟩), v4, .pointer (some ⟨bf, 0, none⟩), .slice none 0 0, .int .i64 0, .int .i64 0, .pointer (some ⟨bp, 0, none⟩), .pointer (some ⟨br, 0, none⟩), .pointer (some ⟨be, 0, none⟩), .pointer (some ⟨C.wh, 0, none⟩), .pointer (some ⟨C.ww, 0, none⟩), v14, v15, v16, v17, v18, v19, v20, v21, v22, v23, v24, v25, v26, v27, v28, v29, v30, v31, v32, v33, v34, v35, v36, v37, v38, v39, v40, v41, v42, v43, v44, v45, v46, v47, v48, v49, v50, v51, v52, v53, v54, v55, v56, v57, v58, v59, v60, v61, v62, v63, v64, v65, v66, v67, v68, v69, v70, v71, v72, v73, v74, v75, v76, v77, v78, v79], []⟩ [.code (sndN 5 gBody)]) cs) w := by
  have hadd := fun (S O : Nat → Prop) (hK : ∀ b, K0 b → OS O S b) (w : World) => main_add2 (S := S) (O := O) H N M hF hK w
  have hK' : ∀ b, (K0 b ∨ C.chs b) → OS O S b := fun b hb => hb.elim (hK b) fun h => .inl (hO b h)
  have hwh := H.wh
  have hww := H.ww
  have hhand := fun (w : World) h1 h2 h3 h4 => hand_walk (X := X) (S := K0) (O := fun _ => False) (wh := C.wh) (bi := bi) (bp := bp) (be := be) (pl := C.pl) (en := C.en) H.here hwh ((N.ok.dead _).2 rfl) N.whpl M.kbi M.kbp M.kbe (n := C.n) (cap := cap) (a0 := a0) (by have := M.n8; omega) w h1 h2 h3 h4
  have hlo := N.lo
  obtain ⟨P, ty, Wg, Dead, lo, t0⟩ := X
  obtain ⟨rfl, rfl⟩ : P = Try.prog ∧ ty = 69 := ⟨H.here.P, H.here.ty⟩
  simp only [gBody, sndN, Try.f27, Option.getD_some] at hadd ⊢
  show Seg _ true S (StopOf _ (.spw (fun c => c = C.pl ∨ c = C.rs ∨ c = C.en) (fun _ => False) (handS C.wh C.pl 0 C.n) C.mAdd2) true S) 10 O _ w
  refine Seg.of_dn_stop (n := 10) ?_ (fun _ _ h => h)
  refine Goes.mono (n := 8) ?_ (by omega)
  refine gd rfl (fun _ => stepG_seq) ?_
  refine gd rfl (fun _ => stepG_region) ?_
  refine gd_pure (.func (.func 48) #[] #[.pointer (some ⟨C.wh, 0, none⟩), .pointer (some ⟨bi, 0, none⟩), .pointer (some ⟨bp, 0, none⟩), .pointer (some ⟨be, 0, none⟩)]) rfl rfl (by decide) (fun _ => by go_simp; rfl) (fun _ => by simp [go_sem, Instr.makeFunc]) ?_
  walk_nrm
  refine Goes.stop fun w₁ h₁ => ?_
  have hw1 := hw.rely hK' h₁
  have hl1 := h₁.live C.wh hwh hl
  have hl1' := h₁.live C.ww hww hl'
  refine ⟨rfl, rfl, _, _, stepG_go0 rfl rfl (by decide) rfl rfl _, fun _ => False, K0, fun _ h => h.elim, fun b hb => ⟨hO b hb, id, hKc b hb, hlo b hb, (hw1.keep b (.inr hb)).trans (h0 b hb)⟩, fun b hb => ⟨hK b hb, id⟩,
    hhand w₁ ((hw1.cell (.inl M.kbi)).trans M.cbi) ((hw1.cell (.inl M.kbp)).trans M.cbp) ((hw1.cell (.inl M.kbe)).trans M.cbe) hl1, 31, ?_⟩
  walk_nrm
  refine Seg.gd (n := 30) rfl (fun _ => stepG_region_end) ?_
  exact hadd _ _ (fun b hb => .inr ⟨hK b hb, id, fun hc => hKc b hc hb⟩) w₁ ⟨fun b hb => hw1.keep b (.inl hb), hw1.size, hw1.same⟩ hl1 hl1' _ _ _ _ _ _ _ _ _ _ _ _ _ _ _ _ _ _ _ _ _ _ _ _ _ _ _ _ _ _ _ _ _ _ _ _ _ _ _ _ _ _ _ _ _ _ _ _ _ _ _ _ _ _ _ _ _ _ _ _ _ _ _ _ _ _ _ _ _
set_option maxRecDepth 100000 in
set_option maxHeartbeats 2000000 in
theorem main_walk (H : GHere C X K0 w0 ph cs) (N : GMore C X) (M : GMem C K0 w0 bi bf bp br be ad a0 cap F cap' zs xa xv)
    (hF : ∀ (i : Nat) (w : World), i < C.n → WK xa xv bf bi (.func (.func F) #[] cap') ad C.n cap zs w → CallsC Try.prog false (Agree X (OS (fun _ => False) K0)) (DN X (fun _ => False) K0) F (#[.int .i64 i, .int .i64 (zs i)] ++ cap') nf w (fun v w' => v = .tuple #[.int .i64 (ph i), .int .i64 0] ∧ Agree X (OS (fun _ => False) K0) w w'))
    (hK : ∀ b, K0 b → OS O S b) (hO : ∀ c, C.chs c → O c) (hKc : ∀ c, C.chs c → ¬ K0 c) (h0 : ∀ c, C.chs c → w0.heap[c]? = some (.chan 0 #[] false 0 0 false))
    (hl : WgLive 69 C.wh w0) (hl' : WgLive 69 C.ww w0) (v0 v2 v4 v14 v15 v16 v17 v18 v19 v20 v21 v22 v23 v24 v25 v26 v27 v28 v29 v30 v31 v32 v33 v34 v35 v36 v37 v38 v39 v40 v41 v42 v43 v44 v45 v46 v47 v48 v49 v50 v51 v52 v53 v54 v55 v56 v57 v58 v59 v60 v61 v62 v63 v64 v65 v66 v67 v68 v69 v70 v71 v72 v73 v74 v75 v76 v77 v78 v79 : Value) :
    Seg X true S (StopOf X C.mAdd1 true S) 30 O (G ((base 27).at ⟨#[v0, .int .i64 C.W, v2, .pointer (some ⟨bi, 0, none⟩), v4, .pointer (some ⟨bf, 0, none⟩), .slice none 0 0, .int .i64 0, .int .i64 0, .pointer (some ⟨bp, 0, none⟩), .pointer (some ⟨br, 0, none⟩), .pointer (some ⟨be, 0, none⟩), .pointer (some ⟨C.wh, 0, none⟩), .pointer (some ⟨C.ww, 0, none⟩), v14, v15, v16, v17, v18, v19, v20, v21, v22, v23, v24, v25, v26, v27, v28, v29, v30, v31, v32, v33, v34, v35, v36, v37, v38, v39, v40, v41, v42, v43, v44, v45, v46, v47, v48, v49, v50, v51, v52, v53, v54, v55, v56, v57, v58, v59, v60, v61, v62, v63, v64, v65, v66, v67, v68, v69, v70, v71, v72, v73, v74, v75, v76, v77, v78, v79], []⟩ [.code (sndN 4 gBody)]) cs) w0 := by
  have hhand := fun (w : World) => main_hand (S := S) (O := O) H N M hF hK hO hKc h0 w
  have hK' : ∀ b, (K0 b ∨ C.chs b) → OS O S b := fun b hb => hb.elim (hK b) fun h => .inl (hO b h)
  have hwh := H.wh
  have hww := H.ww
  have hkwh := H.kwh
  have hne := H.ne
  have hcwh : ¬ C.chs C.wh := fun h => by
    have h1 := h0 _ h
    obtain ⟨st, sm, h2⟩ := hl
    have h2' : w0.heap[C.wh]? = some (wgBlock 69 st sm) := h2
    rw [h1] at h2'
    cases h2'
  obtain ⟨P, ty, Wg, Dead, lo, t0⟩ := X
  obtain ⟨rfl, rfl⟩ : P = Try.prog ∧ ty = 69 := ⟨H.here.P, H.here.ty⟩
  simp only [gBody, sndN, Try.f27, Option.getD_some] at hhand ⊢
  show Seg _ true S (StopOf _ (.add C.wh 2 C.mSpwH) true S) 30 O _ w0
  refine Seg.of_dn_stop (n := 30) (StopG := AtA0 Try.prog 69 true (Agree _ (OS O S)) C.wh 2 (fun g w => Seg _ true S (StopOf _ C.mSpwH true S) 11 O g w)) ?_ (fun g w h => ⟨h.1, 11, h⟩)
  refine Goes.mono (n := 15) ?_ (by omega)
  refine gd rfl (fun _ => stepG_seq) ?_
  refine gd rfl (fun _ => stepG_region) ?_
  refine gd_call (f := Try.link.add) rfl rfl (by decide) rfl Try.wgLib.f_add (nm_add Try.link) rfl ?_
  have hA := net_addPos (L := Try.link) (P := Try.prog) (R := Agree { P := Try.prog, ty := 69, Wg := Wg, Dead := Dead, lo := lo, t0 := t0 } (OS O S)) (wg := C.wh) (F := fun w => KW (fun b => K0 b ∨ C.chs b) w0 w ∧ WgLive 69 C.ww w) Try.wgLib (main := true)
    (Next := fun g w => Seg { P := Try.prog, ty := 69, Wg := Wg, Dead := Dead, lo := lo, t0 := t0 } true S (StopOf { P := Try.prog, ty := 69, Wg := Wg, Dead := Dead, lo := lo, t0 := t0 } C.mSpwH true S) 11 O g w) (d := 2) (D := 2) rfl (by decide) (by decide)
  simp only [addFn, Option.getD_some] at hA
  walk_nrmf Try.f27
  simp only [addFn]
  walk_nrm
  refine goes_weaken (hA (mT := 0) (fun _ _ r h => r.live C.wh hwh h) (fun _ _ r h => ⟨h.1.rely hK' r, r.live C.ww hww h.2⟩) (fun w a u ha _ h => ⟨h.1.setCell (by rw [ha]; exact fun x => x.elim hkwh hcwh), wgLive_of_heap (RowKit.Below.heap_setCell w a u C.ww (by rw [ha]; exact Ne.symm hne)) h.2⟩) (fun w h hlw => Goes.stop fun w₁ h₁ => ?_) w0 ⟨⟨⟨fun _ _ => rfl, Nat.le_refl _, rfl, rfl, rfl⟩, hl'⟩, hl⟩) fun _ _ _ h => dn_of_dc0 h
  walk_nrm
  refine Seg.gd (n := 10) rfl (fun _ => stepG_region_end) ?_
  exact hhand w₁ (h.1.rely hK' h₁) (h₁.live C.wh hwh hlw) (h₁.live C.ww hww h.2) _ _ _ _ _ _ _ _ _ _ _ _ _ _ _ _ _ _ _ _ _ _ _ _ _ _ _ _ _ _ _ _ _ _ _ _ _ _ _ _ _ _ _ _ _ _ _ _ _ _ _ _ _ _ _ _ _ _ _ _ _ _ _ _ _ _ _ _ _
end
end Go.Proofs.Ytmkjoojoaldljaa.Net
