/-
  A part of the proof of LanesNone: joined by a program out of: GwA GwB GwC GwD GwE GwF GpA GpB GpC GpD GpE GpF GpG GpH GpI GpJ GwG0 GwG GwH GwI GpK.
-/
import Derived.Test.YtmkjoojoaldljaaKGC0
import Derived.Conc.BesideWords
import Derived.Laws.Tables
import Derived.Laws.Build
import Derived.Conc.AppendWalk
import Derived.Laws.MakeOwn
namespace Go.Proofs.Ytmkjoojoaldljaa.Net
open Go.Conc
open Go.ConcN (WgLive sumTo upd upd_same upd_ne sumTo_upd)
open Go.ConcR (KK wgBlock WgAt stA smA rd wr mk DC0)
section
variable {X : Ctx} {Shun : Loc → Prop} {gs : Array Goroutine} {w : World} {t : Trace} {g : Goroutine} {sl : Option (Nat × Nat)}
theorem phase1 {b0 : Nat} (Pr : Proto X b0) (hb0 : b0 = gs.size) {q : Nat → Nat} {B f : Nat} {s : Script} {O S : Nat → Prop} (hL : Leavers X.P t gs q) (hP : Past Shun B t) (hB : B ≤ w.heap.size) (h0 : gs[0]? = some g) (hseg : Seg X true S (StopOf X s true S) f O g w)
    (hO : ∀ b, O b → b < w.heap.size ∧ ¬ S b ∧ ¬ X.Wg b ∧ ∀ a : Addr, a.block = b → ¬ Shun (.cell a)) (hS : ∀ b, S b → b < w.heap.size ∧ ¬ X.Wg b ∧ ∀ a : Addr, a.block = b → ¬ Shun (.cell a))
    (hW : ∀ b, X.Wg b → b < w.heap.size ∧ WgAt X.ty b w 0 0 ∧ ∀ a : Addr, a.block = b → ¬ Shun (.cell a)) (hC : ∀ c, X.lo ≤ c → ¬ Shun (.obj c)) (ht0 : X.t0 = t.size)
    (hJ : Pr.J (Gst.first b0 s f q O S).abs) :
    ∃ (N : Nat) (gs' : Array Goroutine) (w' : World) (sl' : Option (Nat × Nat)) (t' : Trace) (q' : Nat → Nat) (g' : Goroutine) (a : Abs) (Fin : (Nat → Prop) → Goroutine → World → Prop) (O' : Nat → Prop), runNT X.P N (crowd gs w sl) t = (.next (crowd gs' w' sl'), t') ∧ gs'[0]? = some g' ∧
      Leavers X.P t' gs' q' ∧ Past (ShunWg X Shun) w'.heap.size t' ∧ Pr.J a ∧ a.pr 0 = .at (.ret Fin) ∧ g'.status = .running ∧ ∀ d, Fin O' g' (w'.at d) := by
  subst hb0
  obtain ⟨N, gs', w', sl', t', σ', g', h1, I', h2, h3, h4⟩ := net_run Pr _ _ _ sl _ (Inv.start hL hP hB h0 hseg hO hS hW hC ht0) hJ
  obtain ⟨k1, k2, Fin, k3, _⟩ := I'.frame Pr h2 h4
  obtain ⟨Fin', k3', k4⟩ := h4
  rw [k3] at k3'
  cases k3'
  exact ⟨N, gs', w', sl', t', σ'.f, g', σ'.abs, Fin, σ'.own 0, h1, h3, k1, k2, h2, by simp only [Gst.abs, k3, Stg.abs], (k4 w' (Agree.refl _ _ _)).1, fun d => (k4 _ (Agree.at _ _ _ d)).2⟩
end
namespace GCtx
variable {C : GCtx} {X : Ctx}
def st0 (C : GCtx) : St := { m := .add1, R := [], h := .unb, i := 0, ws := fun _ => .unb, f := fun _ => C.n, c := .unb }
theorem good0 : C.Good C.st0 := by
  have hz : ∀ n : Nat, sumTo n (fun _ => 0) = 0 := fun n => sum_zero fun _ _ => rfl
  refine ⟨Nat.zero_le _, ?_, fun k hk => absurd hk (Nat.not_lt_zero _), fun q p _ h => (by cases h), fun _ _ => Nat.le_refl _, ?_, fun q _ h => (by rcases h with h | h <;> cases h), fun h => (by rcases h with h | h <;> cases h), fun h => (by rcases h with h | h | h <;> cases h), fun h => (by rcases h with h | h <;> cases h),
    fun h => (by cases h), ⟨fun _ => .inl rfl, fun _ => rfl⟩, fun _ => rfl, fun q _ => ⟨fun _ => .inl rfl, fun _ => rfl⟩, ⟨fun _ => trivial, fun _ => rfl⟩, fun k h => (by cases h), fun _ => rfl, fun _ _ _ => rfl⟩
  · show 0 + sumTo C.W (fun _ => 0) = 0
    rw [hz]
  · show sumTo C.W (fun _ => C.n - C.n) = 0
    rw [Nat.sub_self, hz]
theorem rep0 {f : Nat} {q : Nat → Nat} {O S : Nat → Prop} : C.Rep (Gst.first C.b0 C.mAdd1 f q O S).abs C.st0 := by
  refine ⟨rfl, rfl, fun h => absurd rfl h, fun q _ h => absurd rfl h, fun h => absurd rfl h, fun i h0 _ => ?_, rfl, rfl, rfl, rfl, ?_, rfl, ?_, fun q _ h => (by cases h), fun h => (by rcases h with h | h | h <;> cases h), fun h => (by cases h), fun h => (by cases h), fun h => (by cases h)⟩
  · show (if i = 0 then Stg.wk C.mAdd1 else Stg.qt).abs = .dead
    rw [if_neg (by omega)]; rfl
  · show 0 = _
    rw [if_pos (.inl rfl)]
  · exact (if_pos rfl).symm
end GCtx
structure GStart (C : GCtx) (K0 : Nat → Prop) (Shun : Loc → Prop) (w : World) : Prop where
  W : 1 ≤ C.W ∧ C.W < 2147483648
  ps : C.pl ≠ C.rs
  pe : C.pl ≠ C.en
  re : C.rs ≠ C.en
  gg : C.wh ≠ C.ww
  kw : ∀ b, K0 b → b < w.heap.size ∧ b ≠ C.wh ∧ b ≠ C.ww ∧ ¬ C.chs b ∧ ∀ a : Addr, a.block = b → ¬ Shun (.cell a)
  wg : ∀ b, b = C.wh ∨ b = C.ww → b < w.heap.size ∧ WgAt 69 b w 0 0 ∧ ∀ a : Addr, a.block = b → ¬ Shun (.cell a)
  ch : ∀ c, C.chs c → w.heap[c]? = some (.chan 0 #[] false 0 0 false) ∧ ∀ a : Addr, a.block = c → ¬ Shun (.cell a)
  ob : ∀ c, ¬ Shun (.obj c)
noncomputable def ctxOf (C : GCtx) (t : Trace) : Ctx := { P := Try.prog, ty := 69, Wg := fun b => b = C.wh ∨ b = C.ww, Dead := fun c => c = C.en, lo := 0, t0 := t.size }
theorem lst_full {n : Nat} {ph : Nat → Int} {R : List Nat} (h : ∀ k, k < n → k ∈ R) : lst n ph R = ((List.range n).map fun i => Value.int .i64 (ph i)).toArray := by
  unfold lst
  congr 1
  apply List.map_congr_left
  intro k hk
  rw [if_pos (h k (List.mem_range.1 hk))]
theorem gather_phase {gs : Array Goroutine} {w : World} {sl : Option (Nat × Nat)} {t : Trace} {q : Nat → Nat} {B : Nat} {Shun : Loc → Prop} {cs : List Frame} {K0 : Nat → Prop} {C : GCtx} {bi bf bp br be : Nat} {ad xa : Addr} {xv : Value} {a0 : Option Addr} {cap : Nat} {F : FuncId} {cap' : Array Value} {zs : Nat → Int} {nf : Nat}
    (hL : Leavers Try.prog t gs q) (hP : Past Shun B t) (hB : B ≤ w.heap.size) (hb0 : C.b0 = gs.size) (hFin : C.Fin = FinG cs K0 w C.n C.ph) (S : GStart C K0 Shun w) (M : GMem C K0 w bi bf bp br be ad a0 cap F cap' zs xa xv)
    (hF : ∀ (i : Nat) (w' : World), i < C.n → WK xa xv bf bi (.func (.func F) #[] cap') ad C.n cap zs w' → CallsC Try.prog false (Agree (ctxOf C t) (OS (fun _ => False) K0)) (DN (ctxOf C t) (fun _ => False) K0) F (#[.int .i64 i, .int .i64 (zs i)] ++ cap') nf w' (fun v w'' => v = .tuple #[.int .i64 (C.ph i), .int .i64 0] ∧ Agree (ctxOf C t) (OS (fun _ => False) K0) w' w''))
    (v0 v2 v4 v14 v15 v16 v17 v18 v19 v20 v21 v22 v23 v24 v25 v26 v27 v28 v29 v30 v31 v32 v33 v34 v35 v36 v37 v38 v39 v40 v41 v42 v43 v44 v45 v46 v47 v48 v49 v50 v51 v52 v53 v54 v55 v56 v57 v58 v59 v60 v61 v62 v63 v64 v65 v66 v67 v68 v69 v70 v71 v72 v73 v74 v75 v76 v77 v78 v79 : Value) (h0 : gs[0]? = some (G ((base 27).at ⟨#[v0, .int .i64 C.W, v2, .pointer (some ⟨bi, 0, none⟩), v4, .pointer (some ⟨bf, 0, none⟩), .slice none 0 0, .int .i64 0, .int .i64 0, .pointer (some ⟨bp, 0, none⟩), .pointer (some ⟨br, 0, none⟩), .pointer (some ⟨be, 0, none⟩), .pointer (some ⟨C.wh, 0, none⟩), .pointer (some ⟨C.ww, 0, none⟩), v14, v15, v16, v17, v18, v19, v20, v21, v22, v23, v24, v25, v26, v27, v28, v29, v30, v31, v32, v33, v34, v35, v36, v37, v38, v39, v40, v41, v42, v43, v44, v45, v46, v47, v48, v49, v50, v51, v52, v53, v54, v55, v56, v57, v58, v59, v60, v61, v62, v63, v64, v65, v66, v67, v68, v69, v70, v71, v72, v73, v74, v75, v76, v77, v78, v79], []⟩ [.code (sndN 4 gBody)]) cs)) :
    ∃ (N : Nat) (gs' : Array Goroutine) (w' : World) (sl' : Option (Nat × Nat)) (t' : Trace) (q' : Nat → Nat) (bl : Nat) (T : Array Value) (todo : List Item),
      runNT Try.prog N (crowd gs w sl) t = (.next (crowd gs' w' sl'), t') ∧ gs'[0]? = some (G { (base 27).at ⟨T, []⟩ todo with mode := .returning } cs) ∧ Leavers Try.prog t' gs' q' ∧ Past (ShunWg (ctxOf C t) Shun) w'.heap.size t' ∧
      T[6]? = some (.slice (some ⟨bl, 0, none⟩) C.n C.n) ∧ T[7]? = some (.int .i64 (-1)) ∧ T[8]? = some (.int .i64 0) ∧ w.heap.size ≤ bl ∧ w'.heap[bl]? = some (.cells ((List.range C.n).map fun i => Value.int .i64 (C.ph i)).toArray 3 (0, 0)) ∧
      (∀ b, K0 b → w'.heap[b]? = w.heap[b]?) ∧ w.heap.size ≤ w'.heap.size ∧ w'.tape = w.tape ∧ w'.os = w.os ∧ w'.output = w.output ∧ T.size = 80 := by
  have hpos : 0 < gs.size := (Array.getElem?_eq_some_iff.1 h0).1
  have K : C.Ok (ctxOf C t) := ⟨by rw [hb0]; exact hpos, by have := M.n8; omega, S.W.1, S.W.2, S.ps, S.pe, S.re, S.gg, fun b => Iff.rfl, fun d => Iff.rfl⟩
  have hch : ∀ c, C.chs c → c < w.heap.size := fun c hc => (Array.getElem?_eq_some_iff.1 (S.ch c hc).1).1
  have hwc : ∀ b, (b = C.wh ∨ b = C.ww) → ¬ C.chs b := fun b hb hc => by
    have h1 := (S.ch b hc).1
    have h2 : w.heap[b]? = some (wgBlock 69 0 0) := (S.wg b hb).2.1
    rw [h1] at h2; cases h2
  have H : GHere C (ctxOf C t) K0 w C.ph cs := ⟨⟨rfl, rfl⟩, hFin, rfl, .inl rfl, .inr rfl, fun h => (S.kw _ h).2.1 rfl, fun h => (S.kw _ h).2.2.1 rfl, (S.wg _ (.inl rfl)).1, (S.wg _ (.inr rfl)).1, S.gg, fun b hb => (S.wg b hb).1, fun b hb => (S.kw b hb).1⟩
  have N : GMore C (ctxOf C t) := ⟨K, fun h => hwc _ (.inl rfl) (.inr (.inl h)), fun h => hwc _ (.inl rfl) (.inl h), fun c _ => Nat.zero_le c⟩
  have hseg := main_walk (S := K0) (O := C.chs) H N M hF (fun b hb => .inr hb) (fun c hc => hc) (fun c hc hk => (S.kw c hk).2.2.2.1 hc) (fun c hc => (S.ch c hc).1) ⟨_, _, (S.wg _ (.inl rfl)).2.1⟩ ⟨_, _, (S.wg _ (.inr rfl)).2.1⟩ v0 v2 v4 v14 v15 v16 v17 v18 v19 v20 v21 v22 v23 v24 v25 v26 v27 v28 v29 v30 v31 v32 v33 v34 v35 v36 v37 v38 v39 v40 v41 v42 v43 v44 v45 v46 v47 v48 v49 v50 v51 v52 v53 v54 v55 v56 v57 v58 v59 v60 v61 v62 v63 v64 v65 v66 v67 v68 v69 v70 v71 v72 v73 v74 v75 v76 v77 v78 v79
  obtain ⟨N1, gs', w', sl', t', q', g', a, Fin, O', h1, h2, h3, h4, ⟨s, G, R⟩, h6, h7, h8⟩ := phase1 (X := ctxOf C t) (sl := sl) (GCtx.proto K) hb0 (S := K0) hL hP hB h0 hseg
    (fun c hc => ⟨hch c hc, fun h => (S.kw c h).2.2.2.1 hc, fun h => hwc c h hc, (S.ch c hc).2⟩) (fun b hb => ⟨(S.kw b hb).1, fun h => h.elim (S.kw b hb).2.1 (S.kw b hb).2.2.1, (S.kw b hb).2.2.2.2⟩) (fun b hb => S.wg b hb) (fun c _ => S.ob c) rfl ⟨C.st0, GCtx.good0, GCtx.rep0⟩
  obtain ⟨hm, rfl⟩ := GCtx.ret_of R h6
  have h9 := h8 w'.drawn
  rw [hFin] at h9
  obtain ⟨bl, T, todo, e1, e2, e3, e4, e5, e6, _, e8⟩ := h9
  obtain ⟨_, hall⟩ := GCtx.at_end G hm
  subst e1
  refine ⟨N1, gs', w', sl', t', q', bl, T, todo, h1, h2, h3, h4, e3, e4, e5, e8, ?_, e6.keep, e6.size, e6.same.1, e6.same.2.1, e6.same.2.2, e2⟩
  rw [← lst_full hall]
  exact e6.list
end Go.Proofs.Ytmkjoojoaldljaa.Net
