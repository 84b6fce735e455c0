/-
  LanesNone of cloisterlaw06 answers true at every input and leaves it as it was, in whatever order its goroutines go: no hypothesis beyond those of the given row.
-/
import Derived.Test.YtmkjoojoaldljaaKTE
import Derived.Test.YtmkjoojoaldljaaPLanesNonex1
import Derived.Test.YtmkjoojoaldljaaRows
import Derived.Conc.LeavingOf
import Derived.ProofKit
namespace Go.Proofs.Ytmkjoojoaldljaa.Net
open Go.Conc Go.RowKit Go.Conc.Lib Go.ConcR.Gen
section
variable {X : Ctx} {S O : Nat → Prop} {w : World}
set_option maxRecDepth 100000 in
theorem ten_callsC (z : Int) : CallsC Try.prog false (Agree X (OS O S)) (DN X O S) 13 #[.int .i64 z] 12 w (fun v w' => v = .int .i64 (IntKind.i64.wrap (10 * z)) ∧ Agree X (OS O S) w w') := by
  refine callsC_of_wpC Try.func13 (by decide +kernel) rfl ?_
  intro b k cs Stop m hb hk hn
  simp only [Try.ntmps13, Try.f13]
  walk_nrm
  refine Goes.mono (n := m + 12) ?_ (by omega)
  refine gd rfl (fun _ => stepG_seq) ?_
  refine gd rfl (fun _ => stepG_region) ?_
  simp only [List.size_toArray, List.length_cons, List.length_nil, Nat.reduceAdd, Nat.zero_add, List.range, List.range.loop]
  refine gd_pure (.int .i64 0) rfl rfl hk (fun _ => by go_simp) (fun _ => by simp [go_sem]) ?_
  walk_nrm
  refine gd rfl (fun _ => stepG_region_end) ?_
  refine gd rfl (fun _ => stepG_seq) ?_
  refine gd rfl (fun _ => stepG_region) ?_
  simp only [List.size_toArray, List.length_cons, List.length_nil, Nat.reduceAdd, Nat.zero_add, List.range, List.range.loop]
  refine gd_pure (.int .i64 z) rfl rfl hk (fun _ => by go_simp) (fun _ => by simp [go_sem]) ?_
  walk_nrm
  refine gd_pure (.int .i64 (IntKind.i64.wrap (10 * z))) rfl rfl hk (fun _ => by go_simp) (fun _ => by simp [go_sem]) ?_
  walk_nrm
  refine gd_pure (.int .i64 (IntKind.i64.wrap (10 * z))) rfl rfl hk (fun _ => by go_simp) (fun _ => by simp [go_sem]) ?_
  walk_nrm
  refine gd rfl (fun _ => stepG_region_end) ?_
  refine gd (g' := G { b.at _ _ with mode := .returning } cs) rfl (fun _ => rfl) ?_
  exact (hn .ret _ w ⟨rfl, _, resultsC_tmp rfl _, rfl, Agree.refl _ _ _⟩ _).mono (by omega)
set_option maxRecDepth 100000 in
theorem map_callsC {bx : Nat} (i z : Int) (hx : OS O S bx) (hc : w.cell? ⟨bx, 0, none⟩ = some (.func (.func 13) #[] #[])) : CallsC Try.prog false (Agree X (OS O S)) (DN X O S) 33 #[.int .i64 i, .int .i64 z, .pointer (some ⟨bx, 0, none⟩)] 40 w (fun v w' => v = .tuple #[.int .i64 (IntKind.i64.wrap (10 * z)), .int .i64 0] ∧ Agree X (OS O S) w w') := by
  refine callsC_of_wpC Try.func33 (by decide +kernel) rfl ?_
  intro b k cs Stop m hb hk hn
  simp only [Try.ntmps33, Try.f33]
  walk_nrm
  refine Goes.mono (n := (m + 8) + 12 + 3 + 12) ?_ (by omega)
  refine gd rfl (fun _ => stepG_seq) ?_
  refine gd rfl (fun _ => stepG_region) ?_
  simp only [List.size_toArray, List.length_cons, List.length_nil, Nat.reduceAdd, Nat.zero_add, List.range, List.range.loop]
  refine gd_pure (.int .i64 0) rfl rfl hk (fun _ => by go_simp) (fun _ => by simp [go_sem]) ?_
  walk_nrm
  refine gd_pure (.int .i64 0) rfl rfl hk (fun _ => by go_simp) (fun _ => by simp [go_sem]) ?_
  walk_nrm
  refine gd rfl (fun _ => stepG_region_end) ?_
  refine gd rfl (fun _ => stepG_seq) ?_
  refine gd rfl (fun _ => stepG_region) ?_
  simp only [List.size_toArray, List.length_cons, List.length_nil, Nat.reduceAdd, Nat.zero_add, List.range, List.range.loop]
  refine gd_load (ad := ⟨bx, 0, none⟩) (v := .func (.func 13) #[] #[]) rfl rfl hk rfl rfl hx hc (fun w₁ h₁ => ⟨by go_simp, by simp [go_sem, h₁]⟩) (by rw [hb]; exact loud 33 _ Try.func33 rfl) ?_
  walk_nrm
  refine gd_pure (.int .i64 z) rfl rfl hk (fun _ => by go_simp) (fun _ => by simp [go_sem]) ?_
  walk_nrm
  refine Goes.mono (n := (m + 8) + 12 + 3) (n' := _) ?_ (by omega)
  refine goes_call_fv (nf := 12) (m := m + 8) (F := 13) (cap := #[]) (Post := fun v w' => v = .int .i64 (IntKind.i64.wrap (10 * z)) ∧ Agree X (OS O S) w w') dn_terms rfl rfl hk rfl rfl ?_ (fun v w₅ hv => ?_)
  · walk_nrm
    exact ten_callsC z
  obtain ⟨rfl, h5⟩ := hv
  walk_nrm
  refine Goes.mono (n := m + 8) ?_ (by omega)
  refine gd_pure (.int .i64 (IntKind.i64.wrap (10 * z))) rfl rfl hk (fun _ => by go_simp) (fun _ => by simp [go_sem]) ?_
  walk_nrm
  refine gd_pure (.int .i64 0) rfl rfl hk (fun _ => by go_simp) (fun _ => by simp [go_sem]) ?_
  walk_nrm
  refine gd rfl (fun _ => stepG_region_end) ?_
  refine gd (g' := G { b.at _ _ with mode := .returning } cs) rfl (fun _ => rfl) ?_
  exact (hn .ret _ w₅ ⟨rfl, _, resultsC_tmp2 rfl _, rfl, h5⟩ _).mono (by omega)
end
end Go.Proofs.Ytmkjoojoaldljaa.Net
namespace Go.Proofs.Ytmkjoojoaldljaa.Tm
open Go.Conc
structure Ext (w w' : World) : Prop where
  keep : ∀ b, b < w.heap.size → w'.heap[b]? = w.heap[b]?
  size : w.heap.size ≤ w'.heap.size
  tape : w'.tape = w.tape
  os : w'.os = w.os
  output : w'.output = w.output
theorem Ext.refl (w : World) : Ext w w := ⟨fun _ _ => rfl, Nat.le_refl _, rfl, rfl, rfl⟩
theorem Ext.trans {a b c : World} (h : Ext a b) (k : Ext b c) : Ext a c := ⟨fun x hx => (k.keep x (Nat.lt_of_lt_of_le hx h.size)).trans (h.keep x hx), Nat.le_trans h.size k.size, k.tape.trans h.tape, k.os.trans h.os, k.output.trans h.output⟩
theorem Ext.alloc (w : World) (o : Obj) : Ext w (w.alloc o) := ⟨fun b hb => RowKit.Below.heap_alloc w o b hb, by simp, rfl, rfl, rfl⟩
theorem Ext.at (w : World) (d : Nat) : Ext w (w.at d) := ⟨fun _ _ => rfl, Nat.le_refl _, rfl, rfl, rfl⟩
structure Aft (Sh : Nat → Prop) (w : World) (Sh' : Nat → Prop) (w' : World) : Prop where
  sub : ∀ b, Sh b → Sh' b
  new : ∀ b, Sh' b → Sh b ∨ w.heap.size ≤ b
  lt : ∀ b, Sh' b → b < w'.heap.size
  keep : ∀ b, b < w.heap.size → ¬ Sh b → w'.heap[b]? = w.heap[b]?
  size : w.heap.size ≤ w'.heap.size
  tape : w'.tape = w.tape
  os : w'.os = w.os
  output : w'.output = w.output
theorem Aft.refl {Sh : Nat → Prop} {w : World} (h : ∀ b, Sh b → b < w.heap.size) : Aft Sh w Sh w := ⟨fun _ h => h, fun _ h => .inl h, h, fun _ _ _ => rfl, Nat.le_refl _, rfl, rfl, rfl⟩
theorem Aft.trans {A B C : Nat → Prop} {a b c : World} (h : Aft A a B b) (k : Aft B b C c) : Aft A a C c := by
  refine ⟨fun x hx => k.sub x (h.sub x hx), fun x hx => ?_, k.lt, fun x hx hn => ?_, Nat.le_trans h.size k.size, k.tape.trans h.tape, k.os.trans h.os, k.output.trans h.output⟩
  · rcases k.new x hx with e | e
    · exact h.new x e
    · exact .inr (Nat.le_trans h.size e)
  · refine (k.keep x (Nat.lt_of_lt_of_le hx h.size) fun hb => ?_).trans (h.keep x hx hn)
    rcases h.new x hb with e | e
    · exact hn e
    · omega
theorem Ext.aft {Sh : Nat → Prop} {w w' : World} (h : Ext w w') (hl : ∀ b, Sh b → b < w.heap.size) : Aft Sh w Sh w' := ⟨fun _ h => h, fun _ h => .inl h, fun b hb => Nat.lt_of_lt_of_le (hl b hb) h.size, fun b hb _ => h.keep b hb, h.size, h.tape, h.os, h.output⟩
theorem Aft.cell {Sh Sh' : Nat → Prop} {w w' : World} (h : Aft Sh w Sh' w') {a : Addr} {v : Value} (hn : ¬ Sh a.block) (hc : w.cell? a = some v) : w'.cell? a = some v := by
  have hl : a.block < w.heap.size := by
    unfold World.cell? at hc
    rcases Nat.lt_or_ge a.block w.heap.size with hl | hl
    · exact hl
    · rw [Array.getElem?_eq_none hl] at hc; simp at hc
  exact (World.cell?_of_block (h.keep _ hl hn)).trans hc
def Hof (Sh : Nat → Prop) (w : World) (b : Nat) : Prop := Sh b ∨ (∃ a t, w.heap[b]? = some (.view a t)) ∨ ∃ c e, w.heap[b]? = some (.pending c e)
def hideO (b : Nat) : Obj → Obj
  | .cells c e f => if c.size = 0 then .cells c e f else .coro none
  | .view _ t => .view ⟨b, 0, none⟩ t
  | .pending .. => .coro none
  | o => o
theorem hideO_hid (b : Nat) (o : Obj) : HidB b (some (hideO b o)) (some o) := by
  cases o with
  | cells c e f =>
    by_cases h : c.size = 0
    · exact .inr (.inr (.inr ⟨.cells c e f, h, rfl, by simp [hideO, h]⟩))
    · exact .inl ⟨c, e, f, by omega, rfl, by simp [hideO, h]⟩
  | view a t => exact .inr (.inl ⟨a, t, rfl, rfl⟩)
  | pending c e => exact .inr (.inr (.inl ⟨c, e, rfl, rfl⟩))
  | _ =>
    refine .inr (.inr (.inr ⟨_, ?_, rfl, rfl⟩))
    trivial
theorem hideO_ok (b : Nat) (o : Obj) : OkO b (hideO b o) := by
  cases o with
  | cells c e f => by_cases h : c.size = 0 <;> simp [hideO, h, OkO]
  | view a t => exact rfl
  | _ => trivial
open Classical in
noncomputable def hide (Sh : Nat → Prop) (w : World) : World := { w with heap := w.heap.mapIdx fun b o => if Hof Sh w b then hideO b o else o }
theorem hide_hid {Sh : Nat → Prop} {w : World} (hl : ∀ b, Sh b → b < w.heap.size) : Hid (Hof Sh w) (hide Sh w) w := by
  have hget : ∀ b, (hide Sh w).heap[b]? = (w.heap[b]?).map fun o => open Classical in if Hof Sh w b then hideO b o else o := fun b => by
    unfold hide
    simp only [Array.getElem?_mapIdx]
  refine ⟨by simp [hide], rfl, rfl, fun b hb => ?_, fun b hb => ?_, fun b o ho => ?_⟩
  · rw [hget]
    cases w.heap[b]? with
    | none => rfl
    | some o => simp [hb]
  · have hlt : b < w.heap.size := by
      rcases hb with h | ⟨a, t, h⟩ | ⟨c, e, h⟩
      · exact hl b h
      · exact (Array.getElem?_eq_some_iff.1 h).1
      · exact (Array.getElem?_eq_some_iff.1 h).1
    rw [hget, Array.getElem?_eq_getElem hlt]
    simp only [Option.map_some, hb, if_true]
    exact hideO_hid b _
  · rw [hget] at ho
    obtain ⟨o', h1, h2⟩ := Option.map_eq_some_iff.1 ho
    by_cases hb : Hof Sh w b
    · rw [if_pos hb] at h2
      subst h2
      exact hideO_ok b o'
    · rw [if_neg hb] at h2
      subst h2
      cases o' with
      | view a t => exact absurd (.inr (.inl ⟨a, t, h1⟩)) hb
      | pending c e => exact absurd (.inr (.inr ⟨c, e, h1⟩)) hb
      | _ => trivial
section
variable {P : Program} {K : (Nat → Prop) → Goroutine → World → Prop} {Sh : Nat → Prop} {w : World}
variable {b : Frame} {a : Act} {k : List Item} {cs : List Frame} {ops : Array Oper} {i : Nat} {rest : List Nat} {o : Oper}
theorem bs_skip (ho : ops[i]? = some o) (hw : Region.wanted o (yielded ops a.tmps) = false) (h : Bs P K Sh (G (b.at (a.put o.dst undef) (.inRegion ops rest :: k)) cs) w) : Bs P K Sh (G (b.at a (.inRegion ops (i :: rest) :: k)) cs) w := by
  refine Bs.ctl (a' := G (b.at (a.put o.dst undef) (.inRegion ops rest :: k)) cs) rfl (fun w => ?_) h
  have e : stepG P true (G (b.at a (.inRegion ops (i :: rest) :: k)) cs) w = .go (G ((b.at a (.inRegion ops (i :: rest) :: k)).finish undef) cs) w #[] := by
    show (if ((ops[i]?).map (Region.wanted · (yielded ops a.tmps))).getD false then _ else _) = _
    rw [ho]
    simp only [Option.map_some, Option.getD_some, hw, Bool.false_eq_true, if_false]
    rfl
  rw [e, Frame.finish_at, ho]
  rfl
theorem bs_make (v : Nat → Value) (ob : Obj) (ho : ops[i]? = some o) (hw : Region.wanted o (yielded ops a.tmps) = true) (hk : b.kind ≠ .early) (hr : ∀ w : World, (execOp a.eval o).run P w = .ok (.value (v w.heap.size)) (w.alloc ob) ∧ (execOp a.eval o).events P w #[] = #[])
    (h : ∀ c w', c = w.heap.size → w'.heap[c]? = some ob → w'.heap.size = w.heap.size + 1 → Ext w w' → Bs P K Sh (G (b.at (a.put o.dst (v c)) (.inRegion ops rest :: k)) cs) w') : Bs P K Sh (G (b.at a (.inRegion ops (i :: rest) :: k)) cs) w :=
  bs_new (v w.heap.size) ob ho hw hk (fun d => hr (w.at d)) (h _ _ rfl (by show (w.heap.push ob)[w.heap.size]? = _; simp) (by simp) (.alloc w ob))
theorem bs_store {ad : Addr} {x y : Value} (ho : ops[i]? = some o) (hw : Region.wanted o (yielded ops a.tmps) = true) (hk : b.kind ≠ .early) (hS : ¬ Sh ad.block) (hc : w.cell? ad = some y)
    (hr : ∀ w₁ : World, w₁.cell? ad = some y → w₁.heap[ad.block]? = w.heap[ad.block]? → (execOp a.eval o).run P w₁ = .ok .skip (w₁.setCell ad x) ∧ (execOp a.eval o).events P w₁ #[] = #[⟨.cell ad, true, false⟩])
    (h : Bs P K Sh (G (b.at (a.put o.dst undef) (.inRegion ops rest :: k)) cs) (w.setCell ad x)) : Bs P K Sh (G (b.at a (.inRegion ops (i :: rest) :: k)) cs) w := by
  refine Bs.step rfl fun d => ?_
  obtain ⟨h1, h2⟩ := hr (w.at d) hc rfl
  have hstep : stepG P true (G (b.at a (.inRegion ops (i :: rest) :: k)) cs) (w.at d) = .go (G (b.at (a.put o.dst undef) (.inRegion ops rest :: k)) cs) ((w.at d).setCell ad x) (listed P b.fn a o (w.at d)) := by
    have hk' : (b.kind == CallKind.early) = false := by simpa using hk
    have hfin : (b.at a (.inRegion ops (i :: rest) :: k)).finish undef = b.at (a.put o.dst undef) (.inRegion ops rest :: k) := by rw [Frame.finish_at, ho]; rfl
    rw [stepG_oper ho hw, ← hfin]
    simp only [stepG.apply, listed]
    cases hq : (execOp a.eval o).runT P (w.at d) #[] with
    | mk r es =>
      have e1 : r = .ok .skip ((w.at d).setCell ad x) := by
        have := congrArg Prod.fst hq
        rw [Sem.runT_eq, h1] at this
        exact this.symm
      have e2 : (execOp a.eval o).events P (w.at d) #[] = es := by
        unfold Sem.events
        rw [hq]
      subst e1
      rw [e2]
      simp [G, hk', GStep.after, Frame.at]
  refine ⟨_, (w.at d).setCell ad x, _, hstep, fun e he => ?_, by simp [World.setCell, World.at], fun dd gs sl t F => h dd gs sl t F⟩
  have he' := mem_listed he
  rw [h2] at he'
  simp at he'
  subst he'
  refine evL_read _ hS ?_
  unfold World.cell? at hc
  rcases Nat.lt_or_ge ad.block w.heap.size with hl | hl
  · exact hl
  · rw [Array.getElem?_eq_none hl] at hc; simp at hc
end
end Go.Proofs.Ytmkjoojoaldljaa.Tm
namespace Go.Proofs.Ytmkjoojoaldljaa.Tm
open Go.Conc Go.RowKit Go.Proofs.Ytmkjoojoaldljaa.Net
open Go.ConcN (upd upd_same upd_ne)
noncomputable def opsR3 : Array Oper := match Try.f27.body with | some (.seq _ (.seq _ (.seq (.region _ o _) _))) => o | _ => #[]
theorem lin_done {ops : Array Oper} {fuel t : Nat} {listed : Array Bool} (hr : Region.ready .any ops listed = []) : Region.linearise.go .any ops fuel t listed [] = [] := by
  cases fuel with
  | zero => rfl
  | succ n =>
    simp only [Region.linearise.go]
    change (match (Region.ready .any ops listed)[t % (Region.ready .any ops listed).length]? with
      | some i => Region.linearise.go .any ops n (t / (Region.ready .any ops listed).length) (listed.setIfInBounds i true) [i]
      | none => [].reverse) = _
    rw [hr]
    rfl
theorem run_makeChanP {P : Program} {ρ : Operand → Value} {ty elem : TypeId} {d : ChanDir} {i : TypeInfo} (hu : P.underlying ty = some (.chan d elem)) (hi : P.info? elem = some i) (w : World) :
    (Instr.makeChan ty (.int .i64 0)).runT P w #[] = (.ok (.chan (some w.heap.size)) (w.alloc (.chan 0 #[] false 0 0 false)), #[]) := by
  have e2 : ∀ (β : Type) (f : TypeDesc → Sem β) es, (underlying ty >>= f).runT P w es = (f (.chan d elem)).runT P w es := fun β f es => by
    show ((match P.underlying ty with | some d => (pure d : Sem TypeDesc) | none => stuck "no such type") >>= f).runT P w es = _
    rw [hu]; rfl
  have e3 : ∀ (β : Type) (f : TypeInfo → Sem β) es, (typeInfo elem >>= f).runT P w es = (f i).runT P w es := fun β f es => by
    show ((match P.info? elem with | some d => (pure d : Sem TypeInfo) | none => stuck "no such type") >>= f).runT P w es = _
    rw [hi]; rfl
  show (underlying ty >>= _ : Sem Value).runT P w #[] = _
  rw [e2]
  dsimp only
  rw [e3]
  have hn : ¬ ((0 : Int) < 0 ∨ (0 : Int) > IntKind.i64.max ∨ (i.bytes : Int) * 0 > 2 ^ 48 - 112) := by
    rw [Int.mul_zero]; decide
  rw [if_neg hn]
  rfl
theorem run_makeChan {o : Oper} {ty elem : TypeId} {d : ChanDir} {P : Program} (ho : o.op = .makeChan ty (.const (.int .i64 0))) (hu : P.underlying ty = some (.chan d elem)) (hi : (P.info? elem).isSome = true) (a : Act) (w : World) :
    (execOp a.eval o).run P w = .ok (.value (.chan (some w.heap.size))) (w.alloc (.chan 0 #[] false 0 0 false)) ∧ (execOp a.eval o).events P w #[] = #[] := by
  obtain ⟨i, hi⟩ := Option.isSome_iff_exists.1 hi
  have e : (execOp a.eval o).runT P w #[] = (.ok (.value (.chan (some w.heap.size))) (w.alloc (.chan 0 #[] false 0 0 false)), #[]) := by
    have e0 : execOp a.eval o = (Instr.makeChan ty (.int .i64 0)).bind fun v => .pure (.value v) := by
      unfold execOp
      simp only [ho, Act.eval]
      rfl
    rw [e0, Sem.runT_bind', run_makeChanP (ρ := a.eval) hu hi]
    rfl
  constructor
  · have := congrArg Prod.fst e
    rwa [Sem.runT_eq] at this
  · unfold Sem.events
    rw [e]
def bits (m a s : Nat → Bool) : Array Bool := #[m 0, m 1, m 2, a 0, a 1, a 2, s 0, s 1, s 2]
set_option maxRecDepth 100000 in
theorem ready3 : ∀ m0 m1 m2 a0 a1 a2 s0 s1 s2 : Bool, ((Region.ready .any opsR3 #[m0, m1, m2, a0, a1, a2, s0, s1, s2]).all fun j => (j == 0 && !m0) || (j == 1 && !m1) || (j == 2 && !m2) || (j == 3 && !a0) || (j == 4 && !a1) || (j == 5 && !a2) || (j == 6 && m0 && a0 && !s0) || (j == 7 && m1 && a1 && !s1) || (j == 8 && m2 && a2 && !s2)) = true ∧
    (Region.ready .any opsR3 #[m0, m1, m2, a0, a1, a2, s0, s1, s2] = [] → m0 && m1 && m2 && a0 && a1 && a2 && s0 && s1 && s2) := by
  decide +kernel
def tyB : Nat → TypeId | 0 => 57 | 1 => 89 | _ => 59
structure R3 (w0 : World) (m a s : Nat → Bool) (xm xa : Nat → Value) (w : World) : Prop where
  ext : Ext w0 w
  ch : ∀ i, i < 3 → m i = true → ∃ c, xm i = .chan (some c) ∧ w0.heap.size ≤ c ∧ c < w.heap.size ∧ w.heap[c]? = some (.chan 0 #[] false 0 0 false)
  bx : ∀ i, i < 3 → a i = true → ∃ b, xa i = .pointer (some ⟨b, 0, none⟩) ∧ w0.heap.size ≤ b ∧ b < w.heap.size ∧ w.heap[b]? = some (.cells #[if s i = true then xm i else .chan none] (tyB i) (0, 0))
  cne : ∀ i j, i < 3 → j < 3 → i ≠ j → m i = true → m j = true → xm i ≠ xm j
  bne : ∀ i j, i < 3 → j < 3 → i ≠ j → a i = true → a j = true → xa i ≠ xa j
  sm : ∀ i, i < 3 → s i = true → m i = true ∧ a i = true
section
variable {w0 w : World} {m a s : Nat → Bool} {xm xa : Nat → Value}
theorem R3.chan (h : R3 w0 m a s xm xa w) {i : Nat} (hi : i < 3) (hm : m i = false) {w' : World} {c : Nat} (hc : c = w.heap.size) (h1 : w'.heap[c]? = some (.chan 0 #[] false 0 0 false)) (h2 : w'.heap.size = w.heap.size + 1) (he : Ext w w') :
    R3 w0 (upd m i true) a s (upd xm i (.chan (some c))) xa w' := by
  subst hc
  have hlt : ∀ {b : Nat} {o : Obj}, w.heap[b]? = some o → b < w.heap.size := fun h => (Array.getElem?_eq_some_iff.1 h).1
  refine ⟨h.ext.trans he, fun j hj hmj => ?_, fun j hj ha => ?_, fun j l hj hl hne h1 h2 => ?_, h.bne, fun j hj hs => ?_⟩
  · by_cases e : j = i
    · subst e
      exact ⟨_, upd_same _ _ _, h.ext.size, by omega, h1⟩
    · rw [upd_ne _ _ e] at hmj ⊢
      obtain ⟨c, k1, k2, k3, k4⟩ := h.ch j hj hmj
      exact ⟨c, k1, k2, by omega, (he.keep c k3).trans k4⟩
  · obtain ⟨b, k1, k2, k3, k4⟩ := h.bx j hj ha
    refine ⟨b, k1, k2, by omega, (he.keep b k3).trans ?_⟩
    rw [k4]
    by_cases hs : s j = true
    · have e : j ≠ i := by
        rintro rfl
        rw [(h.sm j hj hs).1] at hm; cases hm
      rw [upd_ne _ _ e]
    · rw [if_neg hs, if_neg hs]
  · have key : ∀ p, p < 3 → p ≠ i → m p = true → xm p ≠ .chan (some w.heap.size) := fun p hp _ hmp e => by
      obtain ⟨c, k1, k2, k3, k4⟩ := h.ch p hp hmp
      rw [k1] at e
      injection e with e
      injection e with e
      omega
    by_cases e : j = i
    · subst e
      rw [upd_same, upd_ne _ _ (Ne.symm hne)]
      rw [upd_ne _ _ (Ne.symm hne)] at h2
      exact fun e => key l hl (Ne.symm hne) h2 e.symm
    · by_cases e2 : l = i
      · subst e2
        rw [upd_same, upd_ne _ _ e]
        rw [upd_ne _ _ e] at h1
        exact key j hj e h1
      · rw [upd_ne _ _ e, upd_ne _ _ e2]
        rw [upd_ne _ _ e] at h1
        rw [upd_ne _ _ e2] at h2
        exact h.cne j l hj hl hne h1 h2
  · have := h.sm j hj hs
    refine ⟨?_, this.2⟩
    by_cases e : j = i
    · subst e; exact upd_same _ _ _
    · rw [upd_ne _ _ e]; exact this.1
theorem R3.box (h : R3 w0 m a s xm xa w) {i : Nat} (hi : i < 3) (ha : a i = false) {w' : World} {c : Nat} (hc : c = w.heap.size) (h1 : w'.heap[c]? = some (.cells #[.chan none] (tyB i) (0, 0))) (h2 : w'.heap.size = w.heap.size + 1) (he : Ext w w') :
    R3 w0 m (upd a i true) s xm (upd xa i (.pointer (some ⟨c, 0, none⟩))) w' := by
  subst hc
  have hsi : ¬ s i = true := fun hs => by rw [(h.sm i hi hs).2] at ha; cases ha
  refine ⟨h.ext.trans he, fun j hj hmj => ?_, fun j hj haj => ?_, h.cne, fun j l hj hl hne h1 h2 => ?_, fun j hj hs => ?_⟩
  · obtain ⟨c, k1, k2, k3, k4⟩ := h.ch j hj hmj
    exact ⟨c, k1, k2, by omega, (he.keep c k3).trans k4⟩
  · by_cases e : j = i
    · subst e
      exact ⟨_, upd_same _ _ _, h.ext.size, by omega, by rw [if_neg hsi]; exact h1⟩
    · rw [upd_ne _ _ e] at haj ⊢
      obtain ⟨b, k1, k2, k3, k4⟩ := h.bx j hj haj
      exact ⟨b, k1, k2, by omega, (he.keep b k3).trans k4⟩
  · have key : ∀ p, p < 3 → p ≠ i → a p = true → xa p ≠ .pointer (some ⟨w.heap.size, 0, none⟩) := fun p hp _ hmp e => by
      obtain ⟨c, k1, k2, k3, k4⟩ := h.bx p hp hmp
      rw [k1] at e
      injection e with e
      injection e with e
      injection e with e
      omega
    by_cases e : j = i
    · subst e
      rw [upd_same, upd_ne _ _ (Ne.symm hne)]
      rw [upd_ne _ _ (Ne.symm hne)] at h2
      exact fun e => key l hl (Ne.symm hne) h2 e.symm
    · by_cases e2 : l = i
      · subst e2
        rw [upd_same, upd_ne _ _ e]
        rw [upd_ne _ _ e] at h1
        exact key j hj e h1
      · rw [upd_ne _ _ e, upd_ne _ _ e2]
        rw [upd_ne _ _ e] at h1
        rw [upd_ne _ _ e2] at h2
        exact h.bne j l hj hl hne h1 h2
  · have := h.sm j hj hs
    refine ⟨this.1, ?_⟩
    by_cases e : j = i
    · subst e; exact upd_same _ _ _
    · rw [upd_ne _ _ e]; exact this.2
theorem setCell_at {w : World} {b : Nat} {ty : TypeId} {x y : Value} (h : w.heap[b]? = some (.cells #[y] ty (0, 0))) : (w.setCell ⟨b, 0, none⟩ x).heap[b]? = some (.cells #[x] ty (0, 0)) := by
  simp only [World.setCell, Array.getElem?_modify, if_true, h, Option.map_some]
  rfl
theorem R3.put (h : R3 w0 m a s xm xa w) {i : Nat} (hi : i < 3) (hm : m i = true) (ha : a i = true) {b : Nat} (hb : xa i = .pointer (some ⟨b, 0, none⟩)) : R3 w0 m a (upd s i true) xm xa (w.setCell ⟨b, 0, none⟩ (xm i)) := by
  obtain ⟨b', k1, k2, k3, k4⟩ := h.bx i hi ha
  rw [hb] at k1
  injection k1 with k1
  injection k1 with k1
  injection k1 with k1
  subst k1
  have hsz : (w.setCell ⟨b, 0, none⟩ (xm i)).heap.size = w.heap.size := by simp [World.setCell]
  have hk : ∀ k, k ≠ b → (w.setCell ⟨b, 0, none⟩ (xm i)).heap[k]? = w.heap[k]? := fun k hk => RowKit.Below.heap_setCell w ⟨b, 0, none⟩ (xm i) k hk
  refine ⟨⟨fun k hk' => (hk k (by omega)).trans (h.ext.keep k hk'), by rw [hsz]; exact h.ext.size, h.ext.tape, h.ext.os, h.ext.output⟩, fun j hj hmj => ?_, fun j hj haj => ?_, h.cne, h.bne, fun j hj hs => ?_⟩
  · obtain ⟨c, q1, q2, q3, q4⟩ := h.ch j hj hmj
    refine ⟨c, q1, q2, by rw [hsz]; exact q3, (hk c ?_).trans q4⟩
    rintro rfl
    rw [k4] at q4
    cases q4
  · by_cases e : j = i
    · subst e
      exact ⟨b, hb, k2, by rw [hsz]; exact k3, by rw [upd_same, if_pos rfl]; exact setCell_at k4⟩
    · obtain ⟨b2, q1, q2, q3, q4⟩ := h.bx j hj haj
      refine ⟨b2, q1, q2, by rw [hsz]; exact q3, ?_⟩
      rw [upd_ne _ _ e]
      refine (hk b2 ?_).trans q4
      rintro rfl
      exact h.bne j i hj hi e haj ha (q1.trans hb.symm)
  · by_cases e : j = i
    · subst e; exact ⟨hm, ha⟩
    · rw [upd_ne _ _ e] at hs
      exact h.sm j hj hs
def cnt (m a s : Nat → Bool) : Nat := (bif m 0 then 0 else 1) + (bif m 1 then 0 else 1) + (bif m 2 then 0 else 1) + (bif a 0 then 0 else 1) + (bif a 1 then 0 else 1) + (bif a 2 then 0 else 1) + (bif s 0 then 0 else 1) + (bif s 1 then 0 else 1) + (bif s 2 then 0 else 1)
section
variable {K : (Nat → Prop) → Goroutine → World → Prop} {Sh : Nat → Prop} {b : Frame} {k : List Item} {cs : List Frame}
theorem cnt_0 {m a s : Nat → Bool} {n : Nat} (h : cnt m a s ≤ n + 1) (hb : m 0 = false) : cnt (upd m 0 true) a s ≤ n := by
  have e0 : upd m 0 true 0 = true := rfl
  have e1 : upd m 0 true 1 = m 1 := rfl
  have e2 : upd m 0 true 2 = m 2 := rfl
  unfold cnt at h ⊢
  rw [hb] at h
  rw [e0, e1, e2]
  simp only [cond_true, cond_false] at h ⊢
  omega
theorem cnt_1 {m a s : Nat → Bool} {n : Nat} (h : cnt m a s ≤ n + 1) (hb : m 1 = false) : cnt (upd m 1 true) a s ≤ n := by
  have e0 : upd m 1 true 0 = m 0 := rfl
  have e1 : upd m 1 true 1 = true := rfl
  have e2 : upd m 1 true 2 = m 2 := rfl
  unfold cnt at h ⊢
  rw [hb] at h
  rw [e0, e1, e2]
  simp only [cond_true, cond_false] at h ⊢
  omega
theorem cnt_2 {m a s : Nat → Bool} {n : Nat} (h : cnt m a s ≤ n + 1) (hb : m 2 = false) : cnt (upd m 2 true) a s ≤ n := by
  have e0 : upd m 2 true 0 = m 0 := rfl
  have e1 : upd m 2 true 1 = m 1 := rfl
  have e2 : upd m 2 true 2 = true := rfl
  unfold cnt at h ⊢
  rw [hb] at h
  rw [e0, e1, e2]
  simp only [cond_true, cond_false] at h ⊢
  omega
theorem cnt_3 {m a s : Nat → Bool} {n : Nat} (h : cnt m a s ≤ n + 1) (hb : a 0 = false) : cnt m (upd a 0 true) s ≤ n := by
  have e0 : upd a 0 true 0 = true := rfl
  have e1 : upd a 0 true 1 = a 1 := rfl
  have e2 : upd a 0 true 2 = a 2 := rfl
  unfold cnt at h ⊢
  rw [hb] at h
  rw [e0, e1, e2]
  simp only [cond_true, cond_false] at h ⊢
  omega
theorem cnt_4 {m a s : Nat → Bool} {n : Nat} (h : cnt m a s ≤ n + 1) (hb : a 1 = false) : cnt m (upd a 1 true) s ≤ n := by
  have e0 : upd a 1 true 0 = a 0 := rfl
  have e1 : upd a 1 true 1 = true := rfl
  have e2 : upd a 1 true 2 = a 2 := rfl
  unfold cnt at h ⊢
  rw [hb] at h
  rw [e0, e1, e2]
  simp only [cond_true, cond_false] at h ⊢
  omega
theorem cnt_5 {m a s : Nat → Bool} {n : Nat} (h : cnt m a s ≤ n + 1) (hb : a 2 = false) : cnt m (upd a 2 true) s ≤ n := by
  have e0 : upd a 2 true 0 = a 0 := rfl
  have e1 : upd a 2 true 1 = a 1 := rfl
  have e2 : upd a 2 true 2 = true := rfl
  unfold cnt at h ⊢
  rw [hb] at h
  rw [e0, e1, e2]
  simp only [cond_true, cond_false] at h ⊢
  omega
theorem cnt_6 {m a s : Nat → Bool} {n : Nat} (h : cnt m a s ≤ n + 1) (hb : s 0 = false) : cnt m a (upd s 0 true) ≤ n := by
  have e0 : upd s 0 true 0 = true := rfl
  have e1 : upd s 0 true 1 = s 1 := rfl
  have e2 : upd s 0 true 2 = s 2 := rfl
  unfold cnt at h ⊢
  rw [hb] at h
  rw [e0, e1, e2]
  simp only [cond_true, cond_false] at h ⊢
  omega
theorem cnt_7 {m a s : Nat → Bool} {n : Nat} (h : cnt m a s ≤ n + 1) (hb : s 1 = false) : cnt m a (upd s 1 true) ≤ n := by
  have e0 : upd s 1 true 0 = s 0 := rfl
  have e1 : upd s 1 true 1 = true := rfl
  have e2 : upd s 1 true 2 = s 2 := rfl
  unfold cnt at h ⊢
  rw [hb] at h
  rw [e0, e1, e2]
  simp only [cond_true, cond_false] at h ⊢
  omega
theorem cnt_8 {m a s : Nat → Bool} {n : Nat} (h : cnt m a s ≤ n + 1) (hb : s 2 = false) : cnt m a (upd s 2 true) ≤ n := by
  have e0 : upd s 2 true 0 = s 0 := rfl
  have e1 : upd s 2 true 1 = s 1 := rfl
  have e2 : upd s 2 true 2 = true := rfl
  unfold cnt at h ⊢
  rw [hb] at h
  rw [e0, e1, e2]
  simp only [cond_true, cond_false] at h ⊢
  omega
theorem run_allocC57 {o : Oper} (ho : o.op = .alloc 57) (a : Act) (w : World) :
    (execOp a.eval o).run Try.prog w = .ok (.value (.pointer (some ⟨w.heap.size, 0, none⟩))) (w.alloc (.cells #[.chan none] 57 (0, 0))) ∧ (execOp a.eval o).events Try.prog w #[] = #[] := by
  have z := Try.zeroValue57
  unfold execOp
  simp only [ho]
  constructor
  · simp [go_sem, z]
  · simp [go_sem, z]
theorem run_storeC57 {o : Oper} {x y : Operand} (ho : o.op = .store 57 x y) (a : Act) (w : World) {B : Nat} {v d0 : Value} (h1 : a.eval x = .pointer (some ⟨B, 0, none⟩)) (h2 : a.eval y = v) (h3 : ∃ c, v = .chan (some c)) (hc : w.cell? ⟨B, 0, none⟩ = some d0) (hb : ∃ v, w.heap[B]? = some (.cells #[v] 57 (0, 0))) :
    (execOp a.eval o).run Try.prog w = .ok .skip (w.setCell ⟨B, 0, none⟩ v) ∧ (execOp a.eval o).events Try.prog w #[] = #[⟨.cell ⟨B, 0, none⟩, true, false⟩] := by
  obtain ⟨c, rfl⟩ := h3
  obtain ⟨v, hb⟩ := hb
  have s := Try.sizeOf57
  have f0 : w.frozen? ⟨B, 0, none⟩ = false := by simp [World.frozen?, hb]
  unfold execOp
  simp only [ho, h1, h2]
  constructor
  · simp [go_sem, s, hc, f0]
  · simp [go_sem, s, hc, f0]
theorem run_allocC89 {o : Oper} (ho : o.op = .alloc 89) (a : Act) (w : World) :
    (execOp a.eval o).run Try.prog w = .ok (.value (.pointer (some ⟨w.heap.size, 0, none⟩))) (w.alloc (.cells #[.chan none] 89 (0, 0))) ∧ (execOp a.eval o).events Try.prog w #[] = #[] := by
  have z := Try.zeroValue89
  unfold execOp
  simp only [ho]
  constructor
  · simp [go_sem, z]
  · simp [go_sem, z]
theorem run_storeC89 {o : Oper} {x y : Operand} (ho : o.op = .store 89 x y) (a : Act) (w : World) {B : Nat} {v d0 : Value} (h1 : a.eval x = .pointer (some ⟨B, 0, none⟩)) (h2 : a.eval y = v) (h3 : ∃ c, v = .chan (some c)) (hc : w.cell? ⟨B, 0, none⟩ = some d0) (hb : ∃ v, w.heap[B]? = some (.cells #[v] 89 (0, 0))) :
    (execOp a.eval o).run Try.prog w = .ok .skip (w.setCell ⟨B, 0, none⟩ v) ∧ (execOp a.eval o).events Try.prog w #[] = #[⟨.cell ⟨B, 0, none⟩, true, false⟩] := by
  obtain ⟨c, rfl⟩ := h3
  obtain ⟨v, hb⟩ := hb
  have s := Try.sizeOf89
  have f0 : w.frozen? ⟨B, 0, none⟩ = false := by simp [World.frozen?, hb]
  unfold execOp
  simp only [ho, h1, h2]
  constructor
  · simp [go_sem, s, hc, f0]
  · simp [go_sem, s, hc, f0]
theorem run_allocC59 {o : Oper} (ho : o.op = .alloc 59) (a : Act) (w : World) :
    (execOp a.eval o).run Try.prog w = .ok (.value (.pointer (some ⟨w.heap.size, 0, none⟩))) (w.alloc (.cells #[.chan none] 59 (0, 0))) ∧ (execOp a.eval o).events Try.prog w #[] = #[] := by
  have z := Try.zeroValue59
  unfold execOp
  simp only [ho]
  constructor
  · simp [go_sem, z]
  · simp [go_sem, z]
theorem run_storeC59 {o : Oper} {x y : Operand} (ho : o.op = .store 59 x y) (a : Act) (w : World) {B : Nat} {v d0 : Value} (h1 : a.eval x = .pointer (some ⟨B, 0, none⟩)) (h2 : a.eval y = v) (h3 : ∃ c, v = .chan (some c)) (hc : w.cell? ⟨B, 0, none⟩ = some d0) (hb : ∃ v, w.heap[B]? = some (.cells #[v] 59 (0, 0))) :
    (execOp a.eval o).run Try.prog w = .ok .skip (w.setCell ⟨B, 0, none⟩ v) ∧ (execOp a.eval o).events Try.prog w #[] = #[⟨.cell ⟨B, 0, none⟩, true, false⟩] := by
  obtain ⟨c, rfl⟩ := h3
  obtain ⟨v, hb⟩ := hb
  have s := Try.sizeOf59
  have f0 : w.frozen? ⟨B, 0, none⟩ = false := by simp [World.frozen?, hb]
  unfold execOp
  simp only [ho, h1, h2]
  constructor
  · simp [go_sem, s, hc, f0]
  · simp [go_sem, s, hc, f0]
set_option maxRecDepth 100000 in
set_option maxHeartbeats 4000000 in
theorem r3_run (hk : b.kind ≠ .early) (hsh : ∀ c, Sh c → c < w0.heap.size) (v0 v1 v2 v3 v4 v5 v6 v7 v8 v12 v13 v14 v15 v16 v17 v18 v19 v20 v21 v22 v23 v24 v25 v26 v27 v31 v32 v33 v34 v35 v36 v37 v38 v39 v40 v41 v42 v43 v44 v45 v46 v47 v48 v49 v50 v51 v52 v53 v54 v55 v56 v57 v58 v59 v60 v61 v62 v63 v64 v65 v66 v67 v68 v69 v70 v71 v72 v73 v74 v75 v76 v77 v78 v79 : Value)
    (hdone : ∀ xm xa w, R3 w0 (fun _ => true) (fun _ => true) (fun _ => true) xm xa w → Bs Try.prog K Sh (G (b.at ⟨#[v0, v1, v2, v3, v4, v5, v6, v7, v8, xa 0, xa 1, xa 2, v12, v13, v14, v15, v16, v17, v18, v19, v20, v21, v22, v23, v24, v25, v26, v27, xm 0, xm 1, xm 2, v31, v32, v33, v34, v35, v36, v37, v38, v39, v40, v41, v42, v43, v44, v45, v46, v47, v48, v49, v50, v51, v52, v53, v54, v55, v56, v57, v58, v59, v60, v61, v62, v63, v64, v65, v66, v67, v68, v69, v70, v71, v72, v73, v74, v75, v76, v77, v78, v79], []⟩ (.inRegion opsR3 [] :: k)) cs) w) :
    ∀ (fuel t : Nat) (m a s : Nat → Bool) (xm xa : Nat → Value) (w : World), cnt m a s ≤ fuel → R3 w0 m a s xm xa w →
      Bs Try.prog K Sh (G (b.at ⟨#[v0, v1, v2, v3, v4, v5, v6, v7, v8, xa 0, xa 1, xa 2, v12, v13, v14, v15, v16, v17, v18, v19, v20, v21, v22, v23, v24, v25, v26, v27, xm 0, xm 1, xm 2, v31, v32, v33, v34, v35, v36, v37, v38, v39, v40, v41, v42, v43, v44, v45, v46, v47, v48, v49, v50, v51, v52, v53, v54, v55, v56, v57, v58, v59, v60, v61, v62, v63, v64, v65, v66, v67, v68, v69, v70, v71, v72, v73, v74, v75, v76, v77, v78, v79], []⟩ (.inRegion opsR3 (Region.linearise.go .any opsR3 fuel t (bits m a s) []) :: k)) cs) w := by
  have fin : ∀ (t : Nat) (m a s : Nat → Bool) (xm xa : Nat → Value) (w : World) (fuel : Nat), (m 0 && m 1 && m 2 && a 0 && a 1 && a 2 && s 0 && s 1 && s 2) = true → R3 w0 m a s xm xa w →
      Bs Try.prog K Sh (G (b.at ⟨#[v0, v1, v2, v3, v4, v5, v6, v7, v8, xa 0, xa 1, xa 2, v12, v13, v14, v15, v16, v17, v18, v19, v20, v21, v22, v23, v24, v25, v26, v27, xm 0, xm 1, xm 2, v31, v32, v33, v34, v35, v36, v37, v38, v39, v40, v41, v42, v43, v44, v45, v46, v47, v48, v49, v50, v51, v52, v53, v54, v55, v56, v57, v58, v59, v60, v61, v62, v63, v64, v65, v66, v67, v68, v69, v70, v71, v72, v73, v74, v75, v76, v77, v78, v79], []⟩ (.inRegion opsR3 (Region.linearise.go .any opsR3 fuel t (bits m a s) []) :: k)) cs) w := by
    intro t m a s xm xa w fuel this h
    simp only [Bool.and_eq_true] at this
    obtain ⟨⟨⟨⟨⟨⟨⟨⟨m0, m1⟩, m2⟩, a0⟩, a1⟩, a2⟩, s0⟩, s1⟩, s2⟩ := this
    have he : Region.ready .any opsR3 (bits m a s) = [] := by
      unfold bits
      rw [m0, m1, m2, a0, a1, a2, s0, s1, s2]
      kernel_rfl
    rw [lin_done he]
    have three : ∀ i, i < 3 → i = 0 ∨ i = 1 ∨ i = 2 := fun i hi => by omega
    refine hdone xm xa w ⟨h.ext, fun i hi _ => h.ch i hi ?_, fun i hi _ => ?_, fun i j hi hj hne _ _ => h.cne i j hi hj hne ?_ ?_, fun i j hi hj hne _ _ => h.bne i j hi hj hne ?_ ?_, fun _ _ _ => ⟨rfl, rfl⟩⟩
    · rcases three i hi with rfl | rfl | rfl <;> assumption
    · have hs : s i = true := by rcases three i hi with rfl | rfl | rfl <;> assumption
      have ha : a i = true := by rcases three i hi with rfl | rfl | rfl <;> assumption
      have := h.bx i hi ha
      rw [if_pos hs] at this
      exact this
    · rcases three i hi with rfl | rfl | rfl <;> assumption
    · rcases three j hj with rfl | rfl | rfl <;> assumption
    · rcases three i hi with rfl | rfl | rfl <;> assumption
    · rcases three j hj with rfl | rfl | rfl <;> assumption
  intro fuel
  induction fuel with
  | zero =>
    intro t m a s xm xa w hf h
    have hall : ∀ m0 m1 m2 a0 a1 a2 s0 s1 s2 : Bool, (bif m0 then 0 else 1) + (bif m1 then 0 else 1) + (bif m2 then 0 else 1) + (bif a0 then 0 else 1) + (bif a1 then 0 else 1) + (bif a2 then 0 else 1) + (bif s0 then 0 else 1) + (bif s1 then 0 else 1) + (bif s2 then 0 else 1) ≤ 0 → (m0 && m1 && m2 && a0 && a1 && a2 && s0 && s1 && s2) = true := by decide +kernel
    have := hall _ _ _ _ _ _ _ _ _ hf
    exact fin t m a s xm xa w 0 this h
  | succ fuel ih =>
    intro t m a s xm xa w hf h
    obtain ⟨hr, hz⟩ := ready3 (m 0) (m 1) (m 2) (a 0) (a 1) (a 2) (s 0) (s 1) (s 2)
    by_cases he : Region.ready .any opsR3 (bits m a s) = []
    · exact fin t m a s xm xa w _ (hz he) h
    · obtain ⟨j, hj, t', e⟩ := lin_step (ops := opsR3) (fuel := fuel) (t := t) (listed := bits m a s) rfl he
      rw [e]
      have hj' := List.all_eq_true.1 hr j hj
      simp only [Bool.or_eq_true, Bool.and_eq_true, beq_iff_eq, Bool.not_eq_true'] at hj'
      have ih' := fun m a s xm xa w => ih t' m a s xm xa w
      rcases hj' with (((((((⟨rfl, hm⟩ | ⟨rfl, hm⟩) | ⟨rfl, hm⟩) | ⟨rfl, hm⟩) | ⟨rfl, hm⟩) | ⟨rfl, hm⟩) | ⟨⟨⟨rfl, hm⟩, ha⟩, hs⟩) | ⟨⟨⟨rfl, hm⟩, ha⟩, hs⟩) | ⟨⟨⟨rfl, hm⟩, ha⟩, hs⟩
      · refine bs_make (fun c => .chan (some c)) (.chan 0 #[] false 0 0 false) rfl rfl hk (fun w => run_makeChan rfl Try.underlying57 (by kernel_rfl) _ w) fun c w' hc h1 h2 he => ?_
        have hR := h.chan (i := 0) (by omega) hm hc h1 h2 he
        exact ih' (upd m 0 true) a s (upd xm 0 (.chan (some c))) xa w' (cnt_0 hf hm) hR
      · refine bs_make (fun c => .chan (some c)) (.chan 0 #[] false 0 0 false) rfl rfl hk (fun w => run_makeChan rfl Try.underlying89 (by kernel_rfl) _ w) fun c w' hc h1 h2 he => ?_
        have hR := h.chan (i := 1) (by omega) hm hc h1 h2 he
        exact ih' (upd m 1 true) a s (upd xm 1 (.chan (some c))) xa w' (cnt_1 hf hm) hR
      · refine bs_make (fun c => .chan (some c)) (.chan 0 #[] false 0 0 false) rfl rfl hk (fun w => run_makeChan rfl Try.underlying59 (by kernel_rfl) _ w) fun c w' hc h1 h2 he => ?_
        have hR := h.chan (i := 2) (by omega) hm hc h1 h2 he
        exact ih' (upd m 2 true) a s (upd xm 2 (.chan (some c))) xa w' (cnt_2 hf hm) hR
      · refine bs_make (fun c => .pointer (some ⟨c, 0, none⟩)) (.cells #[.chan none] 57 (0, 0)) rfl rfl hk (fun w => run_allocC57 rfl _ w) fun c w' hc h1 h2 he => ?_
        have hR := h.box (i := 0) (by omega) hm hc h1 h2 he
        exact ih' m (upd a 0 true) s xm (upd xa 0 (.pointer (some ⟨c, 0, none⟩))) w' (cnt_3 hf hm) hR
      · refine bs_make (fun c => .pointer (some ⟨c, 0, none⟩)) (.cells #[.chan none] 89 (0, 0)) rfl rfl hk (fun w => run_allocC89 rfl _ w) fun c w' hc h1 h2 he => ?_
        have hR := h.box (i := 1) (by omega) hm hc h1 h2 he
        exact ih' m (upd a 1 true) s xm (upd xa 1 (.pointer (some ⟨c, 0, none⟩))) w' (cnt_4 hf hm) hR
      · refine bs_make (fun c => .pointer (some ⟨c, 0, none⟩)) (.cells #[.chan none] 59 (0, 0)) rfl rfl hk (fun w => run_allocC59 rfl _ w) fun c w' hc h1 h2 he => ?_
        have hR := h.box (i := 2) (by omega) hm hc h1 h2 he
        exact ih' m (upd a 2 true) s xm (upd xa 2 (.pointer (some ⟨c, 0, none⟩))) w' (cnt_5 hf hm) hR
      · obtain ⟨bb, k1, k2, k3, k4⟩ := h.bx 0 (by omega) ha
        have hR := h.put (i := 0) (by omega) hm ha k1
        have hc : w.cell? ⟨bb, 0, none⟩ = some (.chan none) := by
          unfold World.cell?
          rw [k4, hs]
          rfl
        have hev : (xa 0) = .pointer (some ⟨bb, 0, none⟩) := k1
        refine bs_store (ad := ⟨bb, 0, none⟩) (x := xm 0) (y := .chan none) rfl rfl hk (fun hb => Nat.not_lt.2 k2 (hsh _ hb)) hc (fun w₁ h₁ hh => ?_) ?_
        · exact run_storeC57 (x := .tmp 9) (y := .tmp 28) (v := xm 0) rfl ⟨_, _⟩ w₁ k1 rfl (by obtain ⟨c, q, _⟩ := h.ch 0 (by omega) hm; exact ⟨c, q⟩) h₁ (by rw [hh]; exact ⟨_, k4⟩)
        exact ih' m a (upd s 0 true) xm xa _ (cnt_6 hf hs) hR
      · obtain ⟨bb, k1, k2, k3, k4⟩ := h.bx 1 (by omega) ha
        have hR := h.put (i := 1) (by omega) hm ha k1
        have hc : w.cell? ⟨bb, 0, none⟩ = some (.chan none) := by
          unfold World.cell?
          rw [k4, hs]
          rfl
        have hev : (xa 1) = .pointer (some ⟨bb, 0, none⟩) := k1
        refine bs_store (ad := ⟨bb, 0, none⟩) (x := xm 1) (y := .chan none) rfl rfl hk (fun hb => Nat.not_lt.2 k2 (hsh _ hb)) hc (fun w₁ h₁ hh => ?_) ?_
        · exact run_storeC89 (x := .tmp 10) (y := .tmp 29) (v := xm 1) rfl ⟨_, _⟩ w₁ k1 rfl (by obtain ⟨c, q, _⟩ := h.ch 1 (by omega) hm; exact ⟨c, q⟩) h₁ (by rw [hh]; exact ⟨_, k4⟩)
        exact ih' m a (upd s 1 true) xm xa _ (cnt_7 hf hs) hR
      · obtain ⟨bb, k1, k2, k3, k4⟩ := h.bx 2 (by omega) ha
        have hR := h.put (i := 2) (by omega) hm ha k1
        have hc : w.cell? ⟨bb, 0, none⟩ = some (.chan none) := by
          unfold World.cell?
          rw [k4, hs]
          rfl
        have hev : (xa 2) = .pointer (some ⟨bb, 0, none⟩) := k1
        refine bs_store (ad := ⟨bb, 0, none⟩) (x := xm 2) (y := .chan none) rfl rfl hk (fun hb => Nat.not_lt.2 k2 (hsh _ hb)) hc (fun w₁ h₁ hh => ?_) ?_
        · exact run_storeC59 (x := .tmp 11) (y := .tmp 30) (v := xm 2) rfl ⟨_, _⟩ w₁ k1 rfl (by obtain ⟨c, q, _⟩ := h.ch 2 (by omega) hm; exact ⟨c, q⟩) h₁ (by rw [hh]; exact ⟨_, k4⟩)
        exact ih' m a (upd s 2 true) xm xa _ (cnt_8 hf hs) hR
end
end
end Go.Proofs.Ytmkjoojoaldljaa.Tm
namespace Go.Proofs.Ytmkjoojoaldljaa.Tm
open Go.Conc Go.RowKit Go.Proofs.Ytmkjoojoaldljaa.Net
open Go.ConcR (wgBlock WgAt)
theorem resultsC_tmp3 {P : Program} {fn : Func} {t u v : Tmp} (h : fn.results = #[.tmp t, .tmp u, .tmp v]) (tmps : Array Value) : ResultsC P fn tmps (.tuple #[tmps.getD t undef, tmps.getD u undef, tmps.getD v undef]) := fun w => by
  constructor <;> simp [results, h, go_sem]
theorem run_box {P : Program} {o : Oper} {ty : TypeId} {x : Operand} (ho : o.op = .box ty x) (a : Act) {v : Value} (hx : a.eval x = v) (w : World) :
    (execOp a.eval o).run P w = .ok (.value (.pointer (some ⟨w.heap.size, 0, none⟩))) (w.alloc (.cells v.cells ty (0, 0))) ∧ (execOp a.eval o).events P w #[] = #[] := by
  unfold execOp
  simp only [ho, hx]
  exact ⟨rfl, rfl⟩
theorem run_alloc69 {o : Oper} (ho : o.op = .alloc 69) (a : Act) (w : World) :
    (execOp a.eval o).run Try.prog w = .ok (.value (.pointer (some ⟨w.heap.size, 0, none⟩))) (w.alloc (wgBlock 69 0 0)) ∧ (execOp a.eval o).events Try.prog w #[] = #[] := by
  have z := Try.zeroValue69
  unfold execOp
  simp only [ho]
  constructor
  · simp [go_sem, z, wgBlock]
  · simp [go_sem, z]
theorem ne_of_obj {w : World} {a b : Nat} {o1 o2 : Obj} (h1 : w.heap[a]? = some o1) (h2 : w.heap[b]? = some o2) (h : o1 ≠ o2) : a ≠ b := by
  rintro rfl
  rw [h1] at h2
  exact h (Option.some.inj h2)
theorem cell_lt {w : World} {a : Addr} {v : Value} (hc : w.cell? a = some v) : a.block < w.heap.size := by
  unfold World.cell? at hc
  rcases Nat.lt_or_ge a.block w.heap.size with hl | hl
  · exact hl
  · rw [Array.getElem?_eq_none hl] at hc; simp at hc
theorem cell_of {w : World} {b : Nat} {v : Value} {ty : TypeId} (h : w.heap[b]? = some (.cells #[v] ty (0, 0))) : w.cell? ⟨b, 0, none⟩ = some v := by
  simp [World.cell?, h]
structure Items (Sh : Nat → Prop) (w : World) (a0 : Option Addr) (n : Nat) (zs : Nat → Int) : Prop where
  n8 : n * 8 ≤ 140737488351232
  el : 0 < n → ∃ ad, a0 = some ad ∧ ¬ Sh ad.block ∧ ∀ i, i < n → w.cell? (ad.add i) = some (.int .i64 (zs i))
section
variable {Sh : Nat → Prop} {w w5 : World} {a0 : Option Addr} {n cap W F nf : Nat} {cap' : Array Value} {zs ph : Nat → Int} {xa : Addr} {xv : Value} {bi bf bp br be pl rs en wh ww : Nat} {c : Frame} {cs : List Frame} {K : (Nat → Prop) → Goroutine → World → Prop}
structure Pre (Sh : Nat → Prop) (w w5 : World) (a0 : Option Addr) (n cap F : Nat) (cap' : Array Value) (bi bf bp br be pl rs en wh ww : Nat) : Prop where
  sh : ∀ b, Sh b → b < w.heap.size
  ext : Ext w w5
  xbi : w.heap.size ≤ bi ∧ w5.heap[bi]? = some (.cells #[.slice a0 n cap] 22 (0, 0))
  xbf : w.heap.size ≤ bf ∧ w5.heap[bf]? = some (.cells #[.func (.func F) #[] cap'] 51 (0, 0))
  xbp : w.heap.size ≤ bp ∧ w5.heap[bp]? = some (.cells #[.chan (some pl)] 57 (0, 0))
  xbr : w.heap.size ≤ br ∧ w5.heap[br]? = some (.cells #[.chan (some rs)] 89 (0, 0))
  xbe : w.heap.size ≤ be ∧ w5.heap[be]? = some (.cells #[.chan (some en)] 59 (0, 0))
  xpl : w.heap.size ≤ pl ∧ w5.heap[pl]? = some (.chan 0 #[] false 0 0 false)
  xrs : w.heap.size ≤ rs ∧ w5.heap[rs]? = some (.chan 0 #[] false 0 0 false)
  xen : w.heap.size ≤ en ∧ w5.heap[en]? = some (.chan 0 #[] false 0 0 false)
  xwh : w.heap.size ≤ wh ∧ w5.heap[wh]? = some (wgBlock 69 0 0)
  xww : w.heap.size ≤ ww ∧ w5.heap[ww]? = some (wgBlock 69 0 0)
  ne : pl ≠ rs ∧ pl ≠ en ∧ rs ≠ en ∧ wh ≠ ww
set_option maxRecDepth 100000 in
set_option maxHeartbeats 2000000 in
theorem gather_end (R : Pre Sh w w5 a0 n cap F cap' bi bf bp br be pl rs en wh ww) (I : Items Sh w a0 n zs) (hW : 1 ≤ W ∧ W ≤ 64) (hxS : ¬ Sh xa.block) (hxc : w.cell? xa = some xv)
    (hF : ∀ (X : Ctx) (K0 : Nat → Prop) (i : Nat) (w' : World), K0 xa.block → i < n → w'.cell? xa = some xv → CallsC Try.prog false (Agree X (OS (fun _ => False) K0)) (DN X (fun _ => False) K0) F (#[.int .i64 i, .int .i64 (zs i)] ++ cap') nf w' (fun v w'' => v = .tuple #[.int .i64 (ph i), .int .i64 0] ∧ Agree X (OS (fun _ => False) K0) w' w''))
    (hK : ∀ bl Sh' w', w.heap.size ≤ bl → ¬ Sh' bl → w'.heap[bl]? = some (.cells ((List.range n).map fun i => Value.int .i64 (ph i)).toArray 3 (0, 0)) → Aft Sh w Sh' w' → K Sh' (G (c.finish (.tuple #[.slice (some ⟨bl, 0, none⟩) n n, .int .i64 (-1), .int .i64 0])) cs) w')
    (v0 v2 v4 v14 v15 v16 v17 v18 v19 v20 v21 v22 v23 v24 v25 v26 v27 v28 v29 v30 v31 v32 v33 v34 v35 v36 v37 v38 v39 v40 v41 v42 v43 v44 v45 v46 v47 v48 v49 v50 v51 v52 v53 v54 v55 v56 v57 v58 v59 v60 v61 v62 v63 v64 v65 v66 v67 v68 v69 v70 v71 v72 v73 v74 v75 v76 v77 v78 v79 : Value) : Bs Try.prog K Sh (G ((base 27).at ⟨#[v0, .int .i64 W, v2, .pointer (some ⟨bi, 0, none⟩), v4, .pointer (some ⟨bf, 0, none⟩), .slice none 0 0, .int .i64 0, .int .i64 0, .pointer (some ⟨bp, 0, none⟩), .pointer (some ⟨br, 0, none⟩), .pointer (some ⟨be, 0, none⟩), .pointer (some ⟨wh, 0, none⟩), .pointer (some ⟨ww, 0, none⟩), v14, v15, v16, v17, v18, v19, v20, v21, v22, v23, v24, v25, v26, v27, v28, v29, v30, v31, v32, v33, v34, v35, v36, v37, v38, v39, v40, v41, v42, v43, v44, v45, v46, v47, v48, v49, v50, v51, v52, v53, v54, v55, v56, v57, v58, v59, v60, v61, v62, v63, v64, v65, v66, v67, v68, v69, v70, v71, v72, v73, v74, v75, v76, v77, v78, v79], []⟩ [.code (sndN 4 gBody)]) (c :: cs)) w5 := by
  intro d gs sl t hFr
  obtain ⟨q, hL⟩ := hFr.lv
  let C : GCtx := { b0 := gs.size, n := n, W := W, pl := pl, rs := rs, en := en, wh := wh, ww := ww, ph := ph, Fin := FinG (c :: cs) (fun b => b < w5.heap.size ∧ ¬ Sh b ∧ b ≠ wh ∧ b ≠ ww ∧ b ≠ pl ∧ b ≠ rs ∧ b ≠ en) (w5.at d) n ph }
  have hlt : ∀ {b : Nat} {o : Obj}, w5.heap[b]? = some o → b < w5.heap.size := fun h => (Array.getElem?_eq_some_iff.1 h).1
  have k0 : ∀ {b : Nat} {v : Value} {ty : TypeId}, w.heap.size ≤ b → w5.heap[b]? = some (.cells #[v] ty (0, 0)) → b < w5.heap.size ∧ ¬ Sh b ∧ b ≠ wh ∧ b ≠ ww ∧ b ≠ pl ∧ b ≠ rs ∧ b ≠ en := fun {b v ty} h1 h2 =>
    ⟨hlt h2, fun hs => Nat.not_lt.2 h1 (R.sh b hs), ne_of_obj h2 R.xwh.2 (by simp [wgBlock]), ne_of_obj h2 R.xww.2 (by simp [wgBlock]), ne_of_obj h2 R.xpl.2 (by simp), ne_of_obj h2 R.xrs.2 (by simp), ne_of_obj h2 R.xen.2 (by simp)⟩
  have kold : ∀ {b : Nat}, b < w.heap.size → ¬ Sh b → b < w5.heap.size ∧ ¬ Sh b ∧ b ≠ wh ∧ b ≠ ww ∧ b ≠ pl ∧ b ≠ rs ∧ b ≠ en := fun {b} h1 h2 => by
    have := R.ext.size
    have := R.xwh.1; have := R.xww.1; have := R.xpl.1; have := R.xrs.1; have := R.xen.1
    exact ⟨by omega, h2, by omega, by omega, by omega, by omega, by omega⟩
  have hcell : ∀ {a : Addr} {v : Value}, w.cell? a = some v → (w5.at d).cell? a = some v := fun {a v} h => (World.cell?_of_block (w := w) (w' := w5.at d) (R.ext.keep _ (cell_lt h))).trans h
  obtain ⟨ad, had1, had2, had3⟩ : ∃ ad : Addr, (0 < n → a0 = some ad) ∧ (ad.block < w5.heap.size ∧ ¬ Sh ad.block ∧ ad.block ≠ wh ∧ ad.block ≠ ww ∧ ad.block ≠ pl ∧ ad.block ≠ rs ∧ ad.block ≠ en) ∧ ∀ i, i < n → (w5.at d).cell? (ad.add i) = some (.int .i64 (zs i)) := by
    rcases Nat.eq_zero_or_pos n with h0 | h0
    · exact ⟨⟨bi, 0, none⟩, fun h => by omega, k0 R.xbi.1 R.xbi.2, fun i hi => by omega⟩
    · obtain ⟨ad, e1, e2, e3⟩ := I.el h0
      refine ⟨ad, fun _ => e1, kold ?_ e2, fun i hi => hcell (e3 i hi)⟩
      have := cell_lt (e3 0 h0)
      rwa [addBlock] at this
  have S : GStart C (fun b => b < w5.heap.size ∧ ¬ Sh b ∧ b ≠ wh ∧ b ≠ ww ∧ b ≠ pl ∧ b ≠ rs ∧ b ≠ en) (ShL Sh) (w5.at d) := by
    refine ⟨⟨hW.1, by show W < _; omega⟩, R.ne.1, R.ne.2.1, R.ne.2.2.1, R.ne.2.2.2, fun b hb => ⟨hb.1, hb.2.2.1, hb.2.2.2.1, fun h => ?_, fun a ha hs => ?_⟩, fun b hb => ?_, fun x hx => ?_, fun x hx => ?_⟩
    · rcases h with h | h | h
      · exact hb.2.2.2.2.1 h
      · exact hb.2.2.2.2.2.1 h
      · exact hb.2.2.2.2.2.2 h
    · obtain ⟨a', e1, e2⟩ := hs
      injection e1 with e1
      rw [← e1, ha] at e2
      exact hb.2.1 e2
    · have key : ∀ x, w.heap.size ≤ x → w5.heap[x]? = some (wgBlock 69 0 0) → x < (w5.at d).heap.size ∧ WgAt 69 x (w5.at d) 0 0 ∧ ∀ a : Addr, a.block = x → ¬ ShL Sh (.cell a) := fun x h1 h2 => ⟨hlt h2, h2, fun a ha hs => by
        obtain ⟨a', e1, e2⟩ := hs
        injection e1 with e1
        rw [← e1, ha] at e2
        exact Nat.not_lt.2 h1 (R.sh _ e2)⟩
      rcases hb with rfl | rfl
      · exact key _ R.xwh.1 R.xwh.2
      · exact key _ R.xww.1 R.xww.2
    · have key : ∀ x, w.heap.size ≤ x → w5.heap[x]? = some (.chan 0 #[] false 0 0 false) → (w5.at d).heap[x]? = some (.chan 0 #[] false 0 0 false) ∧ ∀ a : Addr, a.block = x → ¬ ShL Sh (.cell a) := fun x h1 h2 => ⟨h2, fun a ha hs => by
        obtain ⟨a', e1, e2⟩ := hs
        injection e1 with e1
        rw [← e1, ha] at e2
        exact Nat.not_lt.2 h1 (R.sh _ e2)⟩
      rcases hx with rfl | rfl | rfl
      · exact key _ R.xpl.1 R.xpl.2
      · exact key _ R.xrs.1 R.xrs.2
      · exact key _ R.xen.1 R.xen.2
    · obtain ⟨a', e1, _⟩ := hx
      cases e1
  have M : GMem C (fun b => b < w5.heap.size ∧ ¬ Sh b ∧ b ≠ wh ∧ b ≠ ww ∧ b ≠ pl ∧ b ≠ rs ∧ b ≠ en) (w5.at d) bi bf bp br be ad a0 cap F cap' zs xa xv :=
    ⟨k0 R.xbi.1 R.xbi.2, k0 R.xbf.1 R.xbf.2, k0 R.xbp.1 R.xbp.2, k0 R.xbr.1 R.xbr.2, k0 R.xbe.1 R.xbe.2, had2, cell_of R.xbi.2, cell_of R.xbf.2, cell_of R.xbp.2, cell_of R.xbr.2, cell_of R.xbe.2, had1, had3, I.n8, kold (cell_lt hxc) hxS, hcell hxc⟩
  obtain ⟨N1, gs1, w1, sl1, t1, q1, bl, T, todo, g1, g2, g3, g4, g5, g6, g7, g8, g9, g10, g11, g12, g13, g14, g15⟩ := gather_phase (sl := sl) (nf := nf) hL hFr.past (Nat.le_refl _) rfl rfl S M
    (fun i w' hi hk => hF _ _ i w' M.kxa hi hk.x) v0 v2 v4 v14 v15 v16 v17 v18 v19 v20 v21 v22 v23 v24 v25 v26 v27 v28 v29 v30 v31 v32 v33 v34 v35 v36 v37 v38 v39 v40 v41 v42 v43 v44 v45 v46 v47 v48 v49 v50 v51 v52 v53 v54 v55 v56 v57 v58 v59 v60 v61 v62 v63 v64 v65 v66 v67 v68 v69 v70 v71 v72 v73 v74 v75 v76 v77 v78 v79 hFr.zero
  have hbl : ¬ (Sh bl ∨ bl = wh ∨ bl = ww) := by
    have h1 : w5.heap.size ≤ bl := g8
    rintro (h | h | h)
    · have := R.sh _ h; have := R.ext.size; omega
    · have := hlt R.xwh.2; omega
    · have := hlt R.xww.2; omega
  have hsz : w5.heap.size ≤ w1.heap.size := g11
  have haft : Aft Sh w (fun b => Sh b ∨ b = wh ∨ b = ww) w1 := by
    have e0 := R.ext.size
    refine ⟨fun b h => .inl h, fun b h => ?_, fun b h => ?_, fun b hb hn => ?_, by omega, g12.trans R.ext.tape, g13.trans R.ext.os, g14.trans R.ext.output⟩
    · rcases h with h | rfl | rfl
      · exact .inl h
      · exact .inr R.xwh.1
      · exact .inr R.xww.1
    · rcases h with h | rfl | rfl
      · have := R.sh _ h; omega
      · have := hlt R.xwh.2; omega
      · have := hlt R.xww.2; omega
    · exact (g10 b (kold hb hn)).trans (R.ext.keep b hb)
  have hpast : Past (ShL fun b => Sh b ∨ b = wh ∨ b = ww) w1.heap.size t1 := by
    have e : (ShL fun b => Sh b ∨ b = wh ∨ b = ww) = ShunWg (ctxOf C t) (ShL Sh) := by
      funext l
      apply propext
      constructor
      · rintro ⟨a, rfl, h | h⟩
        · exact .inl ⟨a, rfl, h⟩
        · exact .inr ⟨a, rfl, h⟩
      · rintro (⟨a, rfl, h⟩ | ⟨a, rfl, h⟩)
        · exact ⟨a, rfl, .inl h⟩
        · exact ⟨a, rfl, .inr h⟩
    rw [e]; exact g4
  have hres : ResultsC Try.prog Try.f27 T (.tuple #[.slice (some ⟨bl, 0, none⟩) n n, .int .i64 (-1), .int .i64 0]) := by
    have := resultsC_tmp3 (P := Try.prog) (fn := Try.f27) (t := 6) (u := 7) (v := 8) rfl T
    have e6 : T.getD 6 undef = .slice (some ⟨bl, 0, none⟩) n n := by rw [Array.getD_eq_getD_getElem?, g5]; rfl
    have e7 : T.getD 7 undef = .int .i64 (-1) := by rw [Array.getD_eq_getD_getElem?, g6]; rfl
    have e8 : T.getD 8 undef = .int .i64 0 := by rw [Array.getD_eq_getD_getElem?, g7]; rfl
    rw [e6, e7, e8] at this
    exact this
  have hb : Bs Try.prog K (fun b => Sh b ∨ b = wh ∨ b = ww) (G { (base 27).at ⟨T, []⟩ todo with mode := .returning } (c :: cs)) w1 :=
    bs_ret rfl rfl Try.func27 hres (Bs.now fun d2 => hK bl _ (w1.at d2) (Nat.le_trans R.ext.size g8) hbl g9 ⟨haft.sub, haft.new, haft.lt, haft.keep, haft.size, haft.tape, haft.os, haft.output⟩)
  obtain ⟨N2, gs2, sl2, t2, a2, w2, Sh2, r2, F2, k2⟩ := hb w1.drawn gs1 sl1 t1 ⟨g2, ⟨q1, g3⟩, hpast⟩
  rw [at_drawn] at r2
  exact ⟨N1 + N2, gs2, sl2, t2, a2, w2, Sh2, runNT_then g1 r2, F2, k2⟩
end
end Go.Proofs.Ytmkjoojoaldljaa.Tm
namespace Go.Proofs.Ytmkjoojoaldljaa.Tm
open Go.Conc Go.RowKit Go.Proofs.Ytmkjoojoaldljaa.Net
open Go.ConcR (wgBlock WgAt)
section
variable {P : Program}
theorem eqGuard_int (op : BinOp) (t : TypeId) (x y : Operand) (p q : Int) : eqGuard op t x y (.int .i64 p) (.int .i64 q) = pure () := by
  cases op <;> rfl
theorem run_bin {o : Oper} {op : BinOp} {t t2 : TypeId} {x y : Operand} {p q : Int} {v : Value} (ho : o.op = .binOp op t x y t2) (a : Act) (hx : a.eval x = .int .i64 p) (hy : a.eval y = .int .i64 q) (hv : binOp op t (.int .i64 p) (.int .i64 q) = pure v) (w : World) :
    (execOp a.eval o).run P w = .ok (.value v) w ∧ (execOp a.eval o).events P w #[] = #[] := by
  unfold execOp
  simp only [ho, hx, hy, eqGuard_int, hv]
  exact ⟨rfl, rfl⟩
theorem bin_lss {t : TypeId} {p q : Int} {r : Bool} (h : decide (p < q) = r) : binOp .lss t (.int .i64 p) (.int .i64 q) = pure (.bool r) := by subst h; rfl
theorem bin_gtr {t : TypeId} {p q : Int} {r : Bool} (h : decide (p > q) = r) : binOp .gtr t (.int .i64 p) (.int .i64 q) = pure (.bool r) := by subst h; rfl
theorem bin_eql {t : TypeId} {p q : Int} {r : Bool} (h : (p == q) = r) : binOp .eql t (.int .i64 p) (.int .i64 q) = pure (.bool r) := by subst h; rfl
theorem bin_neq {t : TypeId} {p q : Int} {r : Bool} (h : (p != q) = r) : binOp .neq t (.int .i64 p) (.int .i64 q) = pure (.bool r) := by subst h; rfl
theorem run_eqFunc {o : Oper} {t t2 : TypeId} {x y : Operand} {v : Value} {r : Bool} {d1 : _} {d2 : _} {d3 : _} (hu : P.underlying t = some (.func d1 d2 d3)) (ho : o.op = .binOp .eql t x y t2) (a : Act) (hx : a.eval x = v) (hy : a.eval y = .nilFunc) (hv : (v = .nilFunc ∧ r = true) ∨ (∃ f b c, v = .func f b c) ∧ r = false) (w : World) :
    (execOp a.eval o).run P w = .ok (.value (.bool r)) w ∧ (execOp a.eval o).events P w #[] = #[] := by
  have e2 : ∀ (β : Type) (f : TypeDesc → Sem β) es, (underlying t >>= f).runT P w es = (f (.func d1 d2 d3)).runT P w es := fun β f es => by
    show ((match P.underlying t with | some d => (pure d : Sem TypeDesc) | none => stuck "no such type") >>= f).runT P w es = _
    rw [hu]; rfl
  have e3 : (Op.equal t v .nilFunc).runT P w #[] = (.ok r w, #[]) := by
    show (Op.equalIn (9999 + 1) t v .nilFunc).runT P w #[] = _
    unfold Op.equalIn
    rw [e2]
    rcases hv with ⟨rfl, rfl⟩ | ⟨⟨f, b, c, rfl⟩, rfl⟩ <;> rfl
  have e4 : eqGuard .eql t x y v .nilFunc = pure () := by rcases hv with ⟨rfl, _⟩ | ⟨⟨f, b, c, rfl⟩, _⟩ <;> rfl
  have e5 : binOp .eql t v .nilFunc = (do pure (.bool (← Op.equal t v .nilFunc))) := by rcases hv with ⟨rfl, _⟩ | ⟨⟨f, b, c, rfl⟩, _⟩ <;> rfl
  have e : (execOp a.eval o).runT P w #[] = (.ok (.value (.bool r)) w, #[]) := by
    have e0 : execOp a.eval o = ((Op.equal t v .nilFunc).bind fun b => .pure (.value (.bool b))) := by
      unfold execOp
      simp only [ho, hx, hy, e4, e5]
      show ((Sem.pure ()).bind fun _ => (Op.equal t v .nilFunc).bind fun b => Sem.pure (Value.bool b)).bind (fun v => Sem.pure (Next.value v)) = _
      show ((Op.equal t v .nilFunc).bind fun b => Sem.pure (Value.bool b)).bind (fun v => Sem.pure (Next.value v)) = _
      exact Sem.bind_assoc' _ _ _
    rw [e0, Sem.runT_bind', e3]
    rfl
  constructor
  · have := congrArg Prod.fst e
    rwa [Sem.runT_eq] at this
  · unfold Sem.events
    rw [e]
end
theorem run_load51 {o : Oper} {x : Operand} (ho : o.op = .load 51 x) (a : Act) (w : World) {ad : Addr} {v : Value} (h1 : a.eval x = .pointer (some ad)) (hc : w.cell? ad = some v) :
    (execOp a.eval o).run Try.prog w = .ok (.value v) w ∧ (execOp a.eval o).events Try.prog w #[] = #[⟨.cell ad, false, false⟩] := by
  have g := Try.isAgg51
  unfold execOp
  simp only [ho, h1]
  constructor
  · simp [go_sem, g, hc]
  · simp [go_sem, g, hc]
theorem run_load31 {o : Oper} {x : Operand} (ho : o.op = .load 31 x) (a : Act) (w : World) {ad : Addr} {v : Value} (h1 : a.eval x = .pointer (some ad)) (hc : w.cell? ad = some v) :
    (execOp a.eval o).run Try.prog w = .ok (.value v) w ∧ (execOp a.eval o).events Try.prog w #[] = #[⟨.cell ad, false, false⟩] := by
  have g := Try.isAgg31
  unfold execOp
  simp only [ho, h1]
  constructor
  · simp [go_sem, g, hc]
  · simp [go_sem, g, hc]
section
variable {Sh : Nat → Prop} {w : World} {a0 : Option Addr} {n cap : Nat}
set_option maxRecDepth 100000 in
set_option maxHeartbeats 2000000 in
theorem gather_low {W : Int} {F : FuncId} {cap' : Array Value} (hsh : ∀ b, Sh b → b < w.heap.size) (hlow : decide (W < 1) = true) :
    CallsB Try.prog 27 #[.slice a0 n cap, .int .i64 W, .func (.func F) #[] cap'] Sh w (fun v Sh' w' => v = .tuple #[.slice none 0 0, .int .i64 0, .int .i64 2] ∧ Aft Sh w Sh' w') := by
  intro c cs
  rw [enter_at _ Try.func27 rfl]
  simp only [Try.ntmps27, Try.f27]
  walk_nrm
  refine Bs.ctl rfl (fun _ => stepG_seq) ?_
  refine Bs.ctl rfl (fun _ => stepG_region) ?_
  simp only [List.size_toArray, List.length_cons, List.length_nil, Nat.reduceAdd, Nat.zero_add, List.range, List.range.loop]
  refine bs_make (fun c => .pointer (some ⟨c, 0, none⟩)) (.cells #[.slice a0 n cap] 22 (0, 0)) rfl rfl (by decide) (fun w => run_box (v := .slice a0 n cap) rfl _ rfl w) fun bi w1 hbi e1 z1 x1 => ?_
  walk_nrm
  refine bs_make (fun c => .pointer (some ⟨c, 0, none⟩)) (.cells #[.func (.func F) #[] cap'] 51 (0, 0)) rfl rfl (by decide) (fun w => run_box (v := .func (.func F) #[] cap') rfl _ rfl w) fun bf w2 hbf e2 z2 x2 => ?_
  walk_nrm
  refine bs_pure (.slice none 0 0) rfl rfl (by decide) (fun _ => by go_simp) (fun _ => by simp [go_sem]) ?_
  walk_nrm
  refine bs_pure (.int .i64 0) rfl rfl (by decide) (fun _ => by go_simp) (fun _ => by simp [go_sem]) ?_
  walk_nrm
  refine bs_pure (.int .i64 0) rfl rfl (by decide) (fun _ => by go_simp) (fun _ => by simp [go_sem]) ?_
  walk_nrm
  refine Bs.ctl rfl (fun _ => stepG_region_end) ?_
  refine Bs.ctl rfl (fun _ => stepG_seq) ?_
  refine Bs.ctl rfl (fun _ => stepG_seq) ?_
  refine Bs.ctl rfl (fun _ => stepG_region) ?_
  simp only [List.size_toArray, List.length_cons, List.length_nil, Nat.reduceAdd, Nat.zero_add, List.range, List.range.loop]
  refine bs_pure (.int .i64 W) rfl rfl (by decide) (fun _ => by go_simp) (fun _ => by simp [go_sem]) ?_
  walk_nrm
  refine bs_pure (.bool true) rfl rfl (by decide) (fun w => (run_bin rfl _ rfl rfl (bin_lss hlow) w).1) (fun w => (run_bin rfl _ rfl rfl (bin_lss hlow) w).2) ?_
  walk_nrm
  refine bs_pure (.bool true) rfl rfl (by decide) (fun _ => by go_simp) (fun _ => by simp [go_sem]) ?_
  walk_nrm
  refine bs_skip rfl rfl ?_
  walk_nrm
  refine bs_skip rfl rfl ?_
  walk_nrm
  refine bs_pure (.bool true) rfl rfl (by decide) (fun _ => by go_simp) (fun _ => by simp [go_sem]) ?_
  walk_nrm
  refine bs_pure (.bool true) rfl rfl (by decide) (fun _ => by go_simp) (fun _ => by simp [go_sem]) ?_
  walk_nrm
  refine bs_skip rfl rfl ?_
  walk_nrm
  refine bs_skip rfl rfl ?_
  walk_nrm
  refine bs_pure (.bool true) rfl rfl (by decide) (fun _ => by go_simp) (fun _ => by simp [go_sem]) ?_
  walk_nrm
  refine Bs.ctl rfl (fun _ => stepG_region_end) ?_
  refine Bs.ctl rfl (fun _ => stepG_cond (t := true) rfl) ?_
  refine Bs.ctl rfl (fun _ => stepG_seq) ?_
  refine Bs.ctl rfl (fun _ => stepG_region) ?_
  simp only [List.size_toArray, List.length_cons, List.length_nil, Nat.reduceAdd, Nat.zero_add, List.range, List.range.loop]
  refine bs_pure (.slice none 0 0) rfl rfl (by decide) (fun _ => by go_simp) (fun _ => by simp [go_sem]) ?_
  walk_nrm
  refine bs_pure (.int .i64 0) rfl rfl (by decide) (fun _ => by go_simp) (fun _ => by simp [go_sem]) ?_
  walk_nrm
  refine bs_pure (.int .i64 2) rfl rfl (by decide) (fun _ => by go_simp) (fun _ => by simp [go_sem]) ?_
  walk_nrm
  refine Bs.ctl rfl (fun _ => stepG_region_end) ?_
  refine Bs.ctl (a' := G { (base 27).at _ _ with mode := .returning } (c :: cs)) rfl (fun _ => rfl) ?_
  refine bs_ret rfl rfl Try.func27 (resultsC_tmp3 rfl _) (Bs.now fun d => ⟨_, rfl, rfl, ?_⟩)
  exact ((x1.trans x2).trans (.at _ _)).aft hsh
set_option maxRecDepth 100000 in
set_option maxHeartbeats 2000000 in
theorem gather_high {W : Int} {F : FuncId} {cap' : Array Value} (hsh : ∀ b, Sh b → b < w.heap.size) (hlow : decide (W < 1) = false) (hhigh : decide (W > 64) = true) :
    CallsB Try.prog 27 #[.slice a0 n cap, .int .i64 W, .func (.func F) #[] cap'] Sh w (fun v Sh' w' => v = .tuple #[.slice none 0 0, .int .i64 0, .int .i64 2] ∧ Aft Sh w Sh' w') := by
  intro c cs
  rw [enter_at _ Try.func27 rfl]
  simp only [Try.ntmps27, Try.f27]
  walk_nrm
  refine Bs.ctl rfl (fun _ => stepG_seq) ?_
  refine Bs.ctl rfl (fun _ => stepG_region) ?_
  simp only [List.size_toArray, List.length_cons, List.length_nil, Nat.reduceAdd, Nat.zero_add, List.range, List.range.loop]
  refine bs_make (fun c => .pointer (some ⟨c, 0, none⟩)) (.cells #[.slice a0 n cap] 22 (0, 0)) rfl rfl (by decide) (fun w => run_box (v := .slice a0 n cap) rfl _ rfl w) fun bi w1 hbi e1 z1 x1 => ?_
  walk_nrm
  refine bs_make (fun c => .pointer (some ⟨c, 0, none⟩)) (.cells #[.func (.func F) #[] cap'] 51 (0, 0)) rfl rfl (by decide) (fun w => run_box (v := .func (.func F) #[] cap') rfl _ rfl w) fun bf w2 hbf e2 z2 x2 => ?_
  walk_nrm
  refine bs_pure (.slice none 0 0) rfl rfl (by decide) (fun _ => by go_simp) (fun _ => by simp [go_sem]) ?_
  walk_nrm
  refine bs_pure (.int .i64 0) rfl rfl (by decide) (fun _ => by go_simp) (fun _ => by simp [go_sem]) ?_
  walk_nrm
  refine bs_pure (.int .i64 0) rfl rfl (by decide) (fun _ => by go_simp) (fun _ => by simp [go_sem]) ?_
  walk_nrm
  refine Bs.ctl rfl (fun _ => stepG_region_end) ?_
  refine Bs.ctl rfl (fun _ => stepG_seq) ?_
  refine Bs.ctl rfl (fun _ => stepG_seq) ?_
  refine Bs.ctl rfl (fun _ => stepG_region) ?_
  simp only [List.size_toArray, List.length_cons, List.length_nil, Nat.reduceAdd, Nat.zero_add, List.range, List.range.loop]
  refine bs_pure (.int .i64 W) rfl rfl (by decide) (fun _ => by go_simp) (fun _ => by simp [go_sem]) ?_
  walk_nrm
  refine bs_pure (.bool false) rfl rfl (by decide) (fun w => (run_bin rfl _ rfl rfl (bin_lss hlow) w).1) (fun w => (run_bin rfl _ rfl rfl (bin_lss hlow) w).2) ?_
  walk_nrm
  refine bs_pure (.bool false) rfl rfl (by decide) (fun _ => by go_simp) (fun _ => by simp [go_sem]) ?_
  walk_nrm
  refine bs_pure (.int .i64 W) rfl rfl (by decide) (fun _ => by go_simp) (fun _ => by simp [go_sem]) ?_
  walk_nrm
  refine bs_pure (.bool true) rfl rfl (by decide) (fun w => (run_bin rfl _ rfl rfl (bin_gtr hhigh) w).1) (fun w => (run_bin rfl _ rfl rfl (bin_gtr hhigh) w).2) ?_
  walk_nrm
  refine bs_pure (.bool true) rfl rfl (by decide) (fun _ => by go_simp) (fun _ => by simp [go_sem]) ?_
  walk_nrm
  refine bs_pure (.bool true) rfl rfl (by decide) (fun _ => by go_simp) (fun _ => by simp [go_sem]) ?_
  walk_nrm
  refine bs_skip rfl rfl ?_
  walk_nrm
  refine bs_skip rfl rfl ?_
  walk_nrm
  refine bs_pure (.bool true) rfl rfl (by decide) (fun _ => by go_simp) (fun _ => by simp [go_sem]) ?_
  walk_nrm
  refine Bs.ctl rfl (fun _ => stepG_region_end) ?_
  refine Bs.ctl rfl (fun _ => stepG_cond (t := true) rfl) ?_
  refine Bs.ctl rfl (fun _ => stepG_seq) ?_
  refine Bs.ctl rfl (fun _ => stepG_region) ?_
  simp only [List.size_toArray, List.length_cons, List.length_nil, Nat.reduceAdd, Nat.zero_add, List.range, List.range.loop]
  refine bs_pure (.slice none 0 0) rfl rfl (by decide) (fun _ => by go_simp) (fun _ => by simp [go_sem]) ?_
  walk_nrm
  refine bs_pure (.int .i64 0) rfl rfl (by decide) (fun _ => by go_simp) (fun _ => by simp [go_sem]) ?_
  walk_nrm
  refine bs_pure (.int .i64 2) rfl rfl (by decide) (fun _ => by go_simp) (fun _ => by simp [go_sem]) ?_
  walk_nrm
  refine Bs.ctl rfl (fun _ => stepG_region_end) ?_
  refine Bs.ctl (a' := G { (base 27).at _ _ with mode := .returning } (c :: cs)) rfl (fun _ => rfl) ?_
  refine bs_ret rfl rfl Try.func27 (resultsC_tmp3 rfl _) (Bs.now fun d => ⟨_, rfl, rfl, ?_⟩)
  exact ((x1.trans x2).trans (.at _ _)).aft hsh
set_option maxRecDepth 100000 in
set_option maxHeartbeats 4000000 in
theorem gather_bs {W F nf : Nat} {cap' : Array Value} {zs ph : Nat → Int} {xa : Addr} {xv : Value} (hsh : ∀ b, Sh b → b < w.heap.size) (I : Items Sh w a0 n zs) (hW : 1 ≤ W ∧ W ≤ 64) (hxS : ¬ Sh xa.block) (hxc : w.cell? xa = some xv)
    (hF : ∀ (X : Ctx) (K0 : Nat → Prop) (i : Nat) (w' : World), K0 xa.block → i < n → w'.cell? xa = some xv → CallsC Try.prog false (Agree X (OS (fun _ => False) K0)) (DN X (fun _ => False) K0) F (#[.int .i64 i, .int .i64 (zs i)] ++ cap') nf w' (fun v w'' => v = .tuple #[.int .i64 (ph i), .int .i64 0] ∧ Agree X (OS (fun _ => False) K0) w' w'')) :
    CallsB Try.prog 27 #[.slice a0 n cap, .int .i64 (W : Nat), .func (.func F) #[] cap'] Sh w (fun v Sh' w' => ∃ bl, v = .tuple #[.slice (some ⟨bl, 0, none⟩) n n, .int .i64 (-1), .int .i64 0] ∧ w.heap.size ≤ bl ∧ ¬ Sh' bl ∧ w'.heap[bl]? = some (.cells ((List.range n).map fun i => Value.int .i64 (ph i)).toArray 3 (0, 0)) ∧ Aft Sh w Sh' w') := by
  have hlow : decide (((W : Nat) : Int) < 1) = false := decide_eq_false (by omega)
  have hhigh : decide (((W : Nat) : Int) > 64) = false := decide_eq_false (by omega)
  intro c cs
  rw [enter_at _ Try.func27 rfl]
  simp only [Try.ntmps27, Try.f27]
  walk_nrm
  refine Bs.ctl rfl (fun _ => stepG_seq) ?_
  refine Bs.ctl rfl (fun _ => stepG_region) ?_
  simp only [List.size_toArray, List.length_cons, List.length_nil, Nat.reduceAdd, Nat.zero_add, List.range, List.range.loop]
  refine bs_make (fun c => .pointer (some ⟨c, 0, none⟩)) (.cells #[.slice a0 n cap] 22 (0, 0)) rfl rfl (by decide) (fun w => run_box (v := .slice a0 n cap) rfl _ rfl w) fun bi w1 hbi e1 z1 x1 => ?_
  walk_nrm
  refine bs_make (fun c => .pointer (some ⟨c, 0, none⟩)) (.cells #[.func (.func F) #[] cap'] 51 (0, 0)) rfl rfl (by decide) (fun w => run_box (v := .func (.func F) #[] cap') rfl _ rfl w) fun bf w2 hbf e2 z2 x2 => ?_
  walk_nrm
  refine bs_pure (.slice none 0 0) rfl rfl (by decide) (fun _ => by go_simp) (fun _ => by simp [go_sem]) ?_
  walk_nrm
  refine bs_pure (.int .i64 0) rfl rfl (by decide) (fun _ => by go_simp) (fun _ => by simp [go_sem]) ?_
  walk_nrm
  refine bs_pure (.int .i64 0) rfl rfl (by decide) (fun _ => by go_simp) (fun _ => by simp [go_sem]) ?_
  walk_nrm
  refine Bs.ctl rfl (fun _ => stepG_region_end) ?_
  refine Bs.ctl rfl (fun _ => stepG_seq) ?_
  refine Bs.ctl rfl (fun _ => stepG_seq) ?_
  refine Bs.ctl rfl (fun _ => stepG_region) ?_
  simp only [List.size_toArray, List.length_cons, List.length_nil, Nat.reduceAdd, Nat.zero_add, List.range, List.range.loop]
  refine bs_pure (.int .i64 W) rfl rfl (by decide) (fun _ => by go_simp) (fun _ => by simp [go_sem]) ?_
  walk_nrm
  refine bs_pure (.bool false) rfl rfl (by decide) (fun w => (run_bin rfl _ rfl rfl (bin_lss hlow) w).1) (fun w => (run_bin rfl _ rfl rfl (bin_lss hlow) w).2) ?_
  walk_nrm
  refine bs_pure (.bool false) rfl rfl (by decide) (fun _ => by go_simp) (fun _ => by simp [go_sem]) ?_
  walk_nrm
  refine bs_pure (.int .i64 W) rfl rfl (by decide) (fun _ => by go_simp) (fun _ => by simp [go_sem]) ?_
  walk_nrm
  refine bs_pure (.bool false) rfl rfl (by decide) (fun w => (run_bin rfl _ rfl rfl (bin_gtr hhigh) w).1) (fun w => (run_bin rfl _ rfl rfl (bin_gtr hhigh) w).2) ?_
  walk_nrm
  refine bs_pure (.bool false) rfl rfl (by decide) (fun _ => by go_simp) (fun _ => by simp [go_sem]) ?_
  walk_nrm
  refine bs_pure (.bool false) rfl rfl (by decide) (fun _ => by go_simp) (fun _ => by simp [go_sem]) ?_
  walk_nrm
  refine bs_load (ad := ⟨bf, 0, none⟩) (v := .func (.func F) #[] cap') rfl rfl (by decide) (fun hb => absurd (hsh _ hb) (by simp only []; omega)) (cell_of e2) (fun w₁ h₁ => run_load51 rfl _ w₁ rfl h₁) ?_
  walk_nrm
  refine bs_pure (.bool false) rfl rfl (by decide) (fun w => (run_eqFunc Try.underlying51 rfl _ rfl rfl (.inr ⟨⟨_, _, _, rfl⟩, rfl⟩) w).1) (fun w => (run_eqFunc Try.underlying51 rfl _ rfl rfl (.inr ⟨⟨_, _, _, rfl⟩, rfl⟩) w).2) ?_
  walk_nrm
  refine bs_pure (.bool false) rfl rfl (by decide) (fun _ => by go_simp) (fun _ => by simp [go_sem]) ?_
  walk_nrm
  refine Bs.ctl rfl (fun _ => stepG_region_end) ?_
  refine Bs.ctl rfl (fun _ => stepG_cond (t := false) rfl) ?_
  refine Bs.ctl rfl (fun _ => stepG_skip) ?_
  refine Bs.ctl rfl (fun _ => stepG_seq) ?_
  have hlt2 : ∀ {b : Nat} {o : Obj}, w2.heap[b]? = some o → b < w2.heap.size := fun h => (Array.getElem?_eq_some_iff.1 h).1
  refine Bs.step rfl fun d => ⟨_, { w2.at d with drawn := d + 1 }, #[], stepG_region_draw, by simp, Nat.le_refl _, ?_⟩
  have hfl : Try.prog.follows .mixedOrders = true := by kernel_rfl
  simp only [Region.schedule, hfl, Bool.true_or, if_true, Region.linearise]
  have hdr : Ext w2 { w2.at d with drawn := d + 1 } := ⟨fun _ _ => rfl, Nat.le_refl _, rfl, rfl, rfl⟩
  generalize hw3 : ({ w2.at d with drawn := d + 1 } : World) = w3 at hdr ⊢
  have hsh3 : ∀ b, Sh b → b < w3.heap.size := fun b hb => by have := hsh b hb; have := x1.size; have := x2.size; have := hdr.size; omega
  refine r3_run (w0 := w3) (b := base 27) (by decide) hsh3 _ _ _ _ _ _ _ _ _ _ _ _ _ _ _ _ _ _ _ _ _ _ _ _ _ _ _ _ _ _ _ _ _ _ _ _ _ _ _ _ _ _ _ _ _ _ _ _ _ _ _ _ _ _ _ _ _ _ _ _ _ _ _ _ _ _ _ _ _ _ _ _ _ _ (fun xm xa w4 h4 => ?_) 9 _ (fun _ => false) (fun _ => false) (fun _ => false) (fun _ => undef) (fun _ => undef) w3 (by decide) ⟨.refl _, fun _ _ h => (by cases h), fun _ _ h => (by cases h), fun _ _ _ _ _ h => (by cases h), fun _ _ _ _ _ h => (by cases h), fun _ _ h => (by cases h)⟩
  obtain ⟨pl, p1, p2, p3, p4⟩ := h4.ch 0 (by decide) rfl
  obtain ⟨rs, r1, r2, r3, r4⟩ := h4.ch 1 (by decide) rfl
  obtain ⟨en, n1, n2, n3, n4⟩ := h4.ch 2 (by decide) rfl
  obtain ⟨bp, q1, q2, q3, q4⟩ := h4.bx 0 (by decide) rfl
  obtain ⟨br, s1, s2, s3, s4⟩ := h4.bx 1 (by decide) rfl
  obtain ⟨be, t1, t2, t3, t4⟩ := h4.bx 2 (by decide) rfl
  have c01 := h4.cne 0 1 (by decide) (by decide) (by decide) rfl rfl
  have c02 := h4.cne 0 2 (by decide) (by decide) (by decide) rfl rfl
  have c12 := h4.cne 1 2 (by decide) (by decide) (by decide) rfl rfl
  have h4e := h4.ext
  rw [if_pos rfl] at q4 s4 t4
  rw [p1] at q4 c01 c02
  rw [r1] at s4 c01 c12
  rw [n1] at t4 c02 c12
  rw [p1, r1, n1, q1, s1, t1]
  have hlt4 : ∀ {b : Nat} {o : Obj}, w4.heap[b]? = some o → b < w4.heap.size := fun h => (Array.getElem?_eq_some_iff.1 h).1
  refine Bs.ctl rfl (fun _ => stepG_region_end) ?_
  refine Bs.ctl rfl (fun _ => stepG_seq) ?_
  refine Bs.ctl rfl (fun _ => stepG_region) ?_
  simp only [List.size_toArray, List.length_cons, List.length_nil, Nat.reduceAdd, Nat.zero_add, List.range, List.range.loop]
  refine bs_make (fun c => .pointer (some ⟨c, 0, none⟩)) (wgBlock 69 0 0) rfl rfl (by decide) (fun w => run_alloc69 rfl _ w) fun wh w5 hwh e5 z5 x5 => ?_
  walk_nrm
  refine bs_make (fun c => .pointer (some ⟨c, 0, none⟩)) (wgBlock 69 0 0) rfl rfl (by decide) (fun w => run_alloc69 rfl _ w) fun ww w6 hww e6 z6 x6 => ?_
  walk_nrm
  refine Bs.ctl rfl (fun _ => stepG_region_end) ?_
  have g1 := x1.size
  have g2 := hdr.size
  have g3 := h4e.size
  have k1 := (Array.getElem?_eq_some_iff.1 e1).1
  have k2 := (Array.getElem?_eq_some_iff.1 e2).1
  have g23 : w2.heap.size ≤ w3.heap.size := hdr.size
  have key : ∀ {b : Nat} {o : Obj}, w4.heap[b]? = some o → w6.heap[b]? = some o := fun {b o} h => by
    have hb := hlt4 h
    rw [x6.keep b (by omega), x5.keep b hb]; exact h
  have key2 : ∀ {b : Nat} {o : Obj}, w2.heap[b]? = some o → w6.heap[b]? = some o := fun {b o} h => by
    have hb := hlt2 h
    refine key ?_
    rw [h4e.keep b (by omega), hdr.keep b hb]; exact h
  have hbi6 := key2 ((x2.keep bi k1).trans e1)
  have hbf6 := key2 e2
  have hR : Pre Sh w w6 a0 n cap F cap' bi bf bp br be pl rs en wh ww := ⟨hsh, ((((x1.trans x2).trans hdr).trans h4e).trans x5).trans x6, ⟨by omega, hbi6⟩, ⟨by omega, hbf6⟩, ⟨by omega, key q4⟩, ⟨by omega, key s4⟩, ⟨by omega, key t4⟩, ⟨by omega, key p4⟩, ⟨by omega, key r4⟩, ⟨by omega, key n4⟩, ⟨by omega, (x6.keep wh (by omega)).trans e5⟩, ⟨by omega, e6⟩, fun h => c01 (by rw [h]), fun h => c02 (by rw [h]), fun h => c12 (by rw [h]), by omega⟩
  exact gather_end hR I hW hxS hxc hF (fun bl Sh' w' b1 b2 b3 b4 => ⟨_, rfl, bl, rfl, b1, b2, b3, b4⟩) _ _ _ _ _ _ _ _ _ _ _ _ _ _ _ _ _ _ _ _ _ _ _ _ _ _ _ _ _ _ _ _ _ _ _ _ _ _ _ _ _ _ _ _ _ _ _ _ _ _ _ _ _ _ _ _ _ _ _ _ _ _ _ _ _ _ _ _ _
end
end Go.Proofs.Ytmkjoojoaldljaa.Tm
namespace Go.Proofs.Ytmkjoojoaldljaa.Tm
open Go.Conc Go.RowKit Go.Proofs.Ytmkjoojoaldljaa.Net Go.Proofs.YtmkjoojoaldljaaW.PrintWords
open Go.ConcR (wgBlock WgAt)
def tfs : List FuncId := [11, 13, 14, 29]
def tss : List TypeId := [22, 28]
def tes : List TypeId := [3, 4, 24]
theorem tbase : TameBase Try.prog tfs tss tes := by
  refine ⟨fun f hf => ?_, fun t ht => ?_, fun t ht => ?_⟩
  · simp only [tfs, List.mem_cons, List.not_mem_nil, or_false] at hf
    rcases hf with rfl | rfl | rfl | rfl
    · exact ⟨_, _, Try.func11, by decide +kernel, rfl⟩
    · exact ⟨_, _, Try.func13, by decide +kernel, rfl⟩
    · exact ⟨_, _, Try.func14, by decide +kernel, rfl⟩
    · exact ⟨_, _, Try.func29, by decide +kernel, rfl⟩
  · simp only [tss, List.mem_cons, List.not_mem_nil, or_false] at ht
    rcases ht with rfl | rfl
    · exact ⟨_, Try.underlying22⟩
    · exact ⟨_, Try.underlying28⟩
  · simp only [tes, List.mem_cons, List.not_mem_nil, or_false] at ht
    rcases ht with rfl | rfl | rfl
    · exact eqOk_int Try.underlying3
    · exact eqOk_bool Try.underlying4
    · exact eqOk_int Try.underlying24
set_option maxRecDepth 100000 in
theorem tfns : TameFns Try.prog (· ∈ tfs) := by
  refine tameFns_ok tbase fun f hf => ?_
  simp only [tfs, List.mem_cons, List.not_mem_nil, or_false] at hf
  rcases hf with rfl | rfl | rfl | rfl
  · exact ⟨_, _, Try.func11, rfl, by kernel_rfl, by kernel_rfl⟩
  · exact ⟨_, _, Try.func13, rfl, by kernel_rfl, by kernel_rfl⟩
  · exact ⟨_, _, Try.func14, rfl, by kernel_rfl, by kernel_rfl⟩
  · exact ⟨_, _, Try.func29, rfl, by kernel_rfl, by kernel_rfl⟩
section
variable {Sh Sh' : Nat → Prop} {w w' : World} {a0 : Option Addr} {n cap : Nat}
theorem Aft.at (h : Aft Sh w Sh' w') (d : Nat) : Aft Sh w Sh' (w'.at d) := ⟨h.sub, h.new, h.lt, h.keep, h.size, h.tape, h.os, h.output⟩
theorem Items.ext {zs : Nat → Int} (h : Items Sh w a0 n zs) (he : Ext w w') : Items Sh w' a0 n zs := ⟨h.n8, fun h0 => by
  obtain ⟨ad, e1, e2, e3⟩ := h.el h0
  exact ⟨ad, e1, e2, fun i hi => (World.cell?_of_block (he.keep _ (cell_lt (e3 i hi)))).trans (e3 i hi)⟩⟩
theorem hide_size (Sh : Nat → Prop) (w : World) : (hide Sh w).heap.size = w.heap.size := by simp [hide]
theorem lone_bs {f : FuncId} {args : Array Value} (hf : f ∈ tfs) (hsh : ∀ b, Sh b → b < w.heap.size) {R : Value → World → Prop} (hR : ∀ v u τ, R v u → R v (tp u τ))
    (hc : ∀ τ, Calls Try.prog f args (tp (hide Sh w) τ) fun e u' => ∃ v, e = .returned v ∧ Below (hide Sh w).heap.size (tp (hide Sh w) τ) u' ∧ R v u') :
    CallsB Try.prog f args Sh w fun v Sh' w' => Sh' = Sh ∧ Aft Sh w Sh w' ∧ ∃ u', Hid (Hof Sh w) u' w' ∧ R v u' := by
  have hH := hide_hid hsh
  have hb := callsB_of_calls (P := Try.prog) (FS := (· ∈ tfs)) (Sh := Sh) (R := fun v u' => (∀ b, b < (hide Sh w).heap.size → u'.heap[b]? = (hide Sh w).heap[b]?) ∧ u'.os = (hide Sh w).os ∧ u'.output = (hide Sh w).output ∧ R v u') tfns (fun b h => .inl h) hf (fun v u τ h => ⟨h.1, h.2.1, h.2.2.1, hR _ _ _ h.2.2.2⟩) hH (fun τ => (hc τ).mono fun e u' ⟨v, e1, e2, e3⟩ => ⟨v, e1, e2.block, e2.os, e2.output, e3⟩)
  refine fun c cs => (hb c cs).mono fun Sh' g' w' ⟨v, e1, e2, u', ⟨r1, r2, r3, r4⟩, hH', hs, hk, ht⟩ => ⟨v, e1, e2, ⟨fun b h => h, fun b h => .inl h, fun b h => Nat.lt_of_lt_of_le (hsh b h) hs, fun b hb hn => ?_, hs, ht, hH'.os.symm.trans (r2.trans hH.os), hH'.output.symm.trans (r3.trans hH.output)⟩, u', hH', r4⟩
  by_cases hh : Hof Sh w b
  · exact hk b hh
  · rw [← hH'.blk b hh, r1 b (by rw [hide_size]; exact hb), hH.blk b hh]
theorem ints_C {u : World} {ad : Addr} {l : List Int} (hl : l.length ≤ 9223372036854775807) (h : ∀ (i : Nat) (hi : i < l.length), u.cell? (ad.add i) = some (.int .i64 l[i])) : Kd.C (Kd.int .i64) u (some ad) l.length l := by
  refine ⟨rfl, hl, fun _ => ⟨ad, rfl, fun j p hp => ⟨[.int .i64 p], rfl, rfl, fun i x hx => ?_⟩⟩⟩
  cases i with
  | zero =>
    simp at hx
    subst hx
    obtain ⟨hj, rfl⟩ := List.getElem?_eq_some_iff.1 hp
    have := h j hj
    simpa [Kd.int, Kd.scalar] using this
  | succ i => simp at hx
theorem hide_blk (Sh : Nat → Prop) {w : World} (hsh : ∀ b, Sh b → b < w.heap.size) {b : Nat} (hn : ¬ Sh b) {c : Array Value} {e : TypeId} {f : Nat × Nat} (h : w.heap[b]? = some (.cells c e f)) : (hide Sh w).heap[b]? = some (.cells c e f) := by
  rw [(hide_hid hsh).blk b, h]
  rintro (h1 | ⟨a, t, h1⟩ | ⟨c, t, h1⟩)
  · exact hn h1
  · rw [h] at h1; cases h1
  · rw [h] at h1; cases h1
theorem run_bs3 {o : Oper} {x y z : Int} (ho : o.op = .buildSlice 22 3 #[(0, .const (.int .i64 x)), (1, .const (.int .i64 y)), (2, .const (.int .i64 z))]) (a : Act) (w : World) :
    (execOp a.eval o).run Try.prog w = .ok (.value (.slice (some ⟨w.heap.size, 0, none⟩) 3 3)) (w.alloc (.cells #[.int .i64 x, .int .i64 y, .int .i64 z] 3 (0, 0))) ∧ (execOp a.eval o).events Try.prog w #[] = #[] := by
  have u := Try.runUnderlying22
  have s := Try.sizeOf3
  have z := Try.zeroValue3
  unfold execOp
  simp only [ho]
  constructor
  · simp [go_sem, u, s, z, Instr.fill]
  · simp [go_sem, u, s, z, Instr.fill]
set_option maxRecDepth 100000 in
set_option maxHeartbeats 2000000 in
theorem map_nil {W : Int} (hsh : ∀ b, Sh b → b < w.heap.size) : CallsB Try.prog 10 #[.slice a0 n cap, .int .i64 W, .nilFunc] Sh w (fun v Sh' w' => v = .tuple #[.slice none 0 0, .int .i64 2] ∧ Aft Sh w Sh' w') := by
  intro c cs
  rw [enter_at _ Try.func10 rfl]
  simp only [Try.ntmps10, Try.f10]
  walk_nrm
  refine Bs.ctl rfl (fun _ => stepG_seq) ?_
  refine Bs.ctl rfl (fun _ => stepG_region) ?_
  simp only [List.size_toArray, List.length_cons, List.length_nil, Nat.reduceAdd, Nat.zero_add, List.range, List.range.loop]
  refine bs_make (fun c => .pointer (some ⟨c, 0, none⟩)) (.cells #[.nilFunc] 31 (0, 0)) rfl rfl (by decide) (fun w => run_box (v := .nilFunc) rfl _ rfl w) fun bx w1 hbx e1 z1 x1 => ?_
  walk_nrm
  refine bs_pure (.slice none 0 0) rfl rfl (by decide) (fun _ => by go_simp) (fun _ => by simp [go_sem]) ?_
  walk_nrm
  refine bs_pure (.int .i64 0) rfl rfl (by decide) (fun _ => by go_simp) (fun _ => by simp [go_sem]) ?_
  walk_nrm
  refine Bs.ctl rfl (fun _ => stepG_region_end) ?_
  refine Bs.ctl rfl (fun _ => stepG_seq) ?_
  refine Bs.ctl rfl (fun _ => stepG_seq) ?_
  refine Bs.ctl rfl (fun _ => stepG_region) ?_
  simp only [List.size_toArray, List.length_cons, List.length_nil, Nat.reduceAdd, Nat.zero_add, List.range, List.range.loop]
  refine bs_load (ad := ⟨bx, 0, none⟩) (v := .nilFunc) rfl rfl (by decide) (fun hb => absurd (hsh _ hb) (by simp only []; omega)) (cell_of e1) (fun w₁ h₁ => run_load31 rfl _ w₁ rfl h₁) ?_
  walk_nrm
  refine bs_pure (.bool true) rfl rfl (by decide) (fun w => (run_eqFunc Try.underlying31 rfl _ rfl rfl (.inl ⟨rfl, rfl⟩) w).1) (fun w => (run_eqFunc Try.underlying31 rfl _ rfl rfl (.inl ⟨rfl, rfl⟩) w).2) ?_
  walk_nrm
  refine Bs.ctl rfl (fun _ => stepG_region_end) ?_
  refine Bs.ctl rfl (fun _ => stepG_cond (t := true) rfl) ?_
  refine Bs.ctl rfl (fun _ => stepG_seq) ?_
  refine Bs.ctl rfl (fun _ => stepG_region) ?_
  simp only [List.size_toArray, List.length_cons, List.length_nil, Nat.reduceAdd, Nat.zero_add, List.range, List.range.loop]
  refine bs_pure (.slice none 0 0) rfl rfl (by decide) (fun _ => by go_simp) (fun _ => by simp [go_sem]) ?_
  walk_nrm
  refine bs_pure (.int .i64 2) rfl rfl (by decide) (fun _ => by go_simp) (fun _ => by simp [go_sem]) ?_
  walk_nrm
  refine Bs.ctl rfl (fun _ => stepG_region_end) ?_
  refine Bs.ctl (a' := G { (base 10).at _ _ with mode := .returning } (c :: cs)) rfl (fun _ => rfl) ?_
  refine bs_ret rfl rfl Try.func10 (resultsC_tmp2 rfl _) (Bs.now fun d => ⟨_, rfl, rfl, (x1.aft hsh).at d⟩)
set_option maxRecDepth 100000 in
set_option maxHeartbeats 2000000 in
theorem map_bad {W : Int} (hsh : ∀ b, Sh b → b < w.heap.size) (hbad : decide (W < 1) = true ∨ decide (W < 1) = false ∧ decide (W > 64) = true) : CallsB Try.prog 10 #[.slice a0 n cap, .int .i64 W, .func (.func 13) #[] #[]] Sh w (fun v Sh' w' => v = .tuple #[.slice none 0 0, .int .i64 2] ∧ Aft Sh w Sh' w') := by
  intro c cs
  rw [enter_at _ Try.func10 rfl]
  simp only [Try.ntmps10, Try.f10]
  walk_nrm
  refine Bs.ctl rfl (fun _ => stepG_seq) ?_
  refine Bs.ctl rfl (fun _ => stepG_region) ?_
  simp only [List.size_toArray, List.length_cons, List.length_nil, Nat.reduceAdd, Nat.zero_add, List.range, List.range.loop]
  refine bs_make (fun c => .pointer (some ⟨c, 0, none⟩)) (.cells #[.func (.func 13) #[] #[]] 31 (0, 0)) rfl rfl (by decide) (fun w => run_box (v := .func (.func 13) #[] #[]) rfl _ rfl w) fun bx w1 hbx e1 z1 x1 => ?_
  walk_nrm
  refine bs_pure (.slice none 0 0) rfl rfl (by decide) (fun _ => by go_simp) (fun _ => by simp [go_sem]) ?_
  walk_nrm
  refine bs_pure (.int .i64 0) rfl rfl (by decide) (fun _ => by go_simp) (fun _ => by simp [go_sem]) ?_
  walk_nrm
  refine Bs.ctl rfl (fun _ => stepG_region_end) ?_
  refine Bs.ctl rfl (fun _ => stepG_seq) ?_
  refine Bs.ctl rfl (fun _ => stepG_seq) ?_
  refine Bs.ctl rfl (fun _ => stepG_region) ?_
  simp only [List.size_toArray, List.length_cons, List.length_nil, Nat.reduceAdd, Nat.zero_add, List.range, List.range.loop]
  refine bs_load (ad := ⟨bx, 0, none⟩) (v := .func (.func 13) #[] #[]) rfl rfl (by decide) (fun hb => absurd (hsh _ hb) (by simp only []; omega)) (cell_of e1) (fun w₁ h₁ => run_load31 rfl _ w₁ rfl h₁) ?_
  walk_nrm
  refine bs_pure (.bool false) rfl rfl (by decide) (fun w => (run_eqFunc Try.underlying31 rfl _ rfl rfl (.inr ⟨⟨_, _, _, rfl⟩, rfl⟩) w).1) (fun w => (run_eqFunc Try.underlying31 rfl _ rfl rfl (.inr ⟨⟨_, _, _, rfl⟩, rfl⟩) w).2) ?_
  walk_nrm
  refine Bs.ctl rfl (fun _ => stepG_region_end) ?_
  refine Bs.ctl rfl (fun _ => stepG_cond (t := false) rfl) ?_
  refine Bs.ctl rfl (fun _ => stepG_skip) ?_
  refine Bs.ctl rfl (fun _ => stepG_seq) ?_
  refine Bs.ctl rfl (fun _ => stepG_region) ?_
  simp only [List.size_toArray, List.length_cons, List.length_nil, Nat.reduceAdd, Nat.zero_add, List.range, List.range.loop]
  refine bs_pure (.slice a0 n cap) rfl rfl (by decide) (fun _ => by go_simp) (fun _ => by simp [go_sem]) ?_
  walk_nrm
  refine bs_pure (.int .i64 W) rfl rfl (by decide) (fun _ => by go_simp) (fun _ => by simp [go_sem]) ?_
  walk_nrm
  refine bs_pure (.func (.func 33) #[] #[.pointer (some ⟨bx, 0, none⟩)]) rfl rfl (by decide) (fun _ => by go_simp) (fun _ => by simp [go_sem]) ?_
  walk_nrm
  have hsh1 : ∀ b, Sh b → b < w1.heap.size := fun b hb => by have := hsh b hb; omega
  refine bs_call rfl rfl (by decide) rfl Try.func27 (by decide +kernel) rfl (R := fun v Sh' w' => v = .tuple #[.slice none 0 0, .int .i64 0, .int .i64 2] ∧ Aft Sh w1 Sh' w') ?_ fun v Sh' w' hv => ?_
  · walk_nrm
    rcases hbad with h | ⟨h1, h2⟩
    · exact gather_low hsh1 h
    · exact gather_high hsh1 h1 h2
  obtain ⟨rfl, g4⟩ := hv
  walk_nrm
  refine bs_pure (.tuple #[.slice none 0 0, .int .i64 0, .int .i64 2]) rfl rfl (by decide) (fun _ => by go_simp) (fun _ => by simp [go_sem]) ?_
  walk_nrm
  refine bs_pure (.slice none 0 0) rfl rfl (by decide) (fun _ => by go_simp) (fun _ => by simp [go_sem]) ?_
  walk_nrm
  refine bs_pure (.int .i64 0) rfl rfl (by decide) (fun _ => by go_simp) (fun _ => by simp [go_sem]) ?_
  walk_nrm
  refine bs_pure (.int .i64 2) rfl rfl (by decide) (fun _ => by go_simp) (fun _ => by simp [go_sem]) ?_
  walk_nrm
  refine bs_pure (.slice none 0 0) rfl rfl (by decide) (fun _ => by go_simp) (fun _ => by simp [go_sem]) ?_
  walk_nrm
  refine bs_pure (.int .i64 0) rfl rfl (by decide) (fun _ => by go_simp) (fun _ => by simp [go_sem]) ?_
  walk_nrm
  refine bs_pure (.int .i64 2) rfl rfl (by decide) (fun _ => by go_simp) (fun _ => by simp [go_sem]) ?_
  walk_nrm
  refine Bs.ctl rfl (fun _ => stepG_region_end) ?_
  refine Bs.ctl rfl (fun _ => stepG_seq) ?_
  refine Bs.ctl rfl (fun _ => stepG_region) ?_
  simp only [List.size_toArray, List.length_cons, List.length_nil, Nat.reduceAdd, Nat.zero_add, List.range, List.range.loop]
  refine bs_pure (.slice none 0 0) rfl rfl (by decide) (fun _ => by go_simp) (fun _ => by simp [go_sem]) ?_
  walk_nrm
  refine bs_pure (.int .i64 2) rfl rfl (by decide) (fun _ => by go_simp) (fun _ => by simp [go_sem]) ?_
  walk_nrm
  refine bs_pure (.slice none 0 0) rfl rfl (by decide) (fun _ => by go_simp) (fun _ => by simp [go_sem]) ?_
  walk_nrm
  refine bs_pure (.int .i64 2) rfl rfl (by decide) (fun _ => by go_simp) (fun _ => by simp [go_sem]) ?_
  walk_nrm
  refine Bs.ctl rfl (fun _ => stepG_region_end) ?_
  refine Bs.ctl (a' := G { (base 10).at _ _ with mode := .returning } (c :: cs)) rfl (fun _ => rfl) ?_
  refine bs_ret rfl rfl Try.func10 (resultsC_tmp2 rfl _) (Bs.now fun d => ⟨_, rfl, rfl, ((x1.aft hsh).trans g4).at d⟩)
set_option maxRecDepth 100000 in
set_option maxHeartbeats 2000000 in
theorem map_ten {W : Nat} {zs : Nat → Int} (hsh : ∀ b, Sh b → b < w.heap.size) (I : Items Sh w a0 n zs) (hW : 1 ≤ W ∧ W ≤ 64) : CallsB Try.prog 10 #[.slice a0 n cap, .int .i64 (W : Nat), .func (.func 13) #[] #[]] Sh w (fun v Sh' w' => ∃ bl, v = .tuple #[.slice (some ⟨bl, 0, none⟩) n n, .int .i64 0] ∧ w.heap.size ≤ bl ∧ ¬ Sh' bl ∧ w'.heap[bl]? = some (.cells ((List.range n).map fun i => Value.int .i64 (IntKind.i64.wrap (10 * zs i))).toArray 3 (0, 0)) ∧ Aft Sh w Sh' w') := by
  intro c cs
  rw [enter_at _ Try.func10 rfl]
  simp only [Try.ntmps10, Try.f10]
  walk_nrm
  refine Bs.ctl rfl (fun _ => stepG_seq) ?_
  refine Bs.ctl rfl (fun _ => stepG_region) ?_
  simp only [List.size_toArray, List.length_cons, List.length_nil, Nat.reduceAdd, Nat.zero_add, List.range, List.range.loop]
  refine bs_make (fun c => .pointer (some ⟨c, 0, none⟩)) (.cells #[.func (.func 13) #[] #[]] 31 (0, 0)) rfl rfl (by decide) (fun w => run_box (v := .func (.func 13) #[] #[]) rfl _ rfl w) fun bx w1 hbx e1 z1 x1 => ?_
  walk_nrm
  refine bs_pure (.slice none 0 0) rfl rfl (by decide) (fun _ => by go_simp) (fun _ => by simp [go_sem]) ?_
  walk_nrm
  refine bs_pure (.int .i64 0) rfl rfl (by decide) (fun _ => by go_simp) (fun _ => by simp [go_sem]) ?_
  walk_nrm
  refine Bs.ctl rfl (fun _ => stepG_region_end) ?_
  refine Bs.ctl rfl (fun _ => stepG_seq) ?_
  refine Bs.ctl rfl (fun _ => stepG_seq) ?_
  refine Bs.ctl rfl (fun _ => stepG_region) ?_
  simp only [List.size_toArray, List.length_cons, List.length_nil, Nat.reduceAdd, Nat.zero_add, List.range, List.range.loop]
  refine bs_load (ad := ⟨bx, 0, none⟩) (v := .func (.func 13) #[] #[]) rfl rfl (by decide) (fun hb => absurd (hsh _ hb) (by simp only []; omega)) (cell_of e1) (fun w₁ h₁ => run_load31 rfl _ w₁ rfl h₁) ?_
  walk_nrm
  refine bs_pure (.bool false) rfl rfl (by decide) (fun w => (run_eqFunc Try.underlying31 rfl _ rfl rfl (.inr ⟨⟨_, _, _, rfl⟩, rfl⟩) w).1) (fun w => (run_eqFunc Try.underlying31 rfl _ rfl rfl (.inr ⟨⟨_, _, _, rfl⟩, rfl⟩) w).2) ?_
  walk_nrm
  refine Bs.ctl rfl (fun _ => stepG_region_end) ?_
  refine Bs.ctl rfl (fun _ => stepG_cond (t := false) rfl) ?_
  refine Bs.ctl rfl (fun _ => stepG_skip) ?_
  refine Bs.ctl rfl (fun _ => stepG_seq) ?_
  refine Bs.ctl rfl (fun _ => stepG_region) ?_
  simp only [List.size_toArray, List.length_cons, List.length_nil, Nat.reduceAdd, Nat.zero_add, List.range, List.range.loop]
  refine bs_pure (.slice a0 n cap) rfl rfl (by decide) (fun _ => by go_simp) (fun _ => by simp [go_sem]) ?_
  walk_nrm
  refine bs_pure (.int .i64 W) rfl rfl (by decide) (fun _ => by go_simp) (fun _ => by simp [go_sem]) ?_
  walk_nrm
  refine bs_pure (.func (.func 33) #[] #[.pointer (some ⟨bx, 0, none⟩)]) rfl rfl (by decide) (fun _ => by go_simp) (fun _ => by simp [go_sem]) ?_
  walk_nrm
  have hsh1 : ∀ b, Sh b → b < w1.heap.size := fun b hb => by have := hsh b hb; omega
  refine bs_call rfl rfl (by decide) rfl Try.func27 (by decide +kernel) rfl (R := fun v Sh' w' => ∃ bl, v = .tuple #[.slice (some ⟨bl, 0, none⟩) n n, .int .i64 (-1), .int .i64 0] ∧ w1.heap.size ≤ bl ∧ ¬ Sh' bl ∧ w'.heap[bl]? = some (.cells ((List.range n).map fun i => Value.int .i64 (IntKind.i64.wrap (10 * zs i))).toArray 3 (0, 0)) ∧ Aft Sh w1 Sh' w') ?_ fun v Sh' w' hv => ?_
  · walk_nrm
    exact gather_bs (nf := 40) (xa := ⟨bx, 0, none⟩) (xv := .func (.func 13) #[] #[]) hsh1 (I.ext x1) hW (fun hb => absurd (hsh _ hb) (by simp only []; omega)) (cell_of e1) fun X K0 i w' hk hi hc => map_callsC i (zs i) (.inr hk) hc
  obtain ⟨bl, rfl, g1, g2, g3, g4⟩ := hv
  walk_nrm
  refine bs_pure (.tuple #[.slice (some ⟨bl, 0, none⟩) n n, .int .i64 (-1), .int .i64 0]) rfl rfl (by decide) (fun _ => by go_simp) (fun _ => by simp [go_sem]) ?_
  walk_nrm
  refine bs_pure (.slice (some ⟨bl, 0, none⟩) n n) rfl rfl (by decide) (fun _ => by go_simp) (fun _ => by simp [go_sem]) ?_
  walk_nrm
  refine bs_pure (.int .i64 (-1)) rfl rfl (by decide) (fun _ => by go_simp) (fun _ => by simp [go_sem]) ?_
  walk_nrm
  refine bs_pure (.int .i64 0) rfl rfl (by decide) (fun _ => by go_simp) (fun _ => by simp [go_sem]) ?_
  walk_nrm
  refine bs_pure (.slice (some ⟨bl, 0, none⟩) n n) rfl rfl (by decide) (fun _ => by go_simp) (fun _ => by simp [go_sem]) ?_
  walk_nrm
  refine bs_pure (.int .i64 (-1)) rfl rfl (by decide) (fun _ => by go_simp) (fun _ => by simp [go_sem]) ?_
  walk_nrm
  refine bs_pure (.int .i64 0) rfl rfl (by decide) (fun _ => by go_simp) (fun _ => by simp [go_sem]) ?_
  walk_nrm
  refine Bs.ctl rfl (fun _ => stepG_region_end) ?_
  refine Bs.ctl rfl (fun _ => stepG_seq) ?_
  refine Bs.ctl rfl (fun _ => stepG_region) ?_
  simp only [List.size_toArray, List.length_cons, List.length_nil, Nat.reduceAdd, Nat.zero_add, List.range, List.range.loop]
  refine bs_pure (.slice (some ⟨bl, 0, none⟩) n n) rfl rfl (by decide) (fun _ => by go_simp) (fun _ => by simp [go_sem]) ?_
  walk_nrm
  refine bs_pure (.int .i64 0) rfl rfl (by decide) (fun _ => by go_simp) (fun _ => by simp [go_sem]) ?_
  walk_nrm
  refine bs_pure (.slice (some ⟨bl, 0, none⟩) n n) rfl rfl (by decide) (fun _ => by go_simp) (fun _ => by simp [go_sem]) ?_
  walk_nrm
  refine bs_pure (.int .i64 0) rfl rfl (by decide) (fun _ => by go_simp) (fun _ => by simp [go_sem]) ?_
  walk_nrm
  refine Bs.ctl rfl (fun _ => stepG_region_end) ?_
  refine Bs.ctl (a' := G { (base 10).at _ _ with mode := .returning } (c :: cs)) rfl (fun _ => rfl) ?_
  refine bs_ret rfl rfl Try.func10 (resultsC_tmp2 rfl _) (Bs.now fun d => ⟨_, rfl, bl, rfl, by omega, g2, g3, ((x1.aft hsh).trans g4).at d⟩)
set_option maxRecDepth 100000 in
set_option maxHeartbeats 2000000 in
theorem head_bs (hsh : ∀ b, Sh b → b < w.heap.size) : CallsB Try.prog 9 #[] Sh w (fun v Sh' w' => v = .bool true ∧ Aft Sh w Sh' w') := by
  intro c cs
  rw [enter_at _ Try.func9 rfl]
  simp only [Try.ntmps9, Try.f9]
  walk_nrm
  refine Bs.ctl rfl (fun _ => stepG_seq) ?_
  refine Bs.ctl rfl (fun _ => stepG_region) ?_
  simp only [List.size_toArray, List.length_cons, List.length_nil, Nat.reduceAdd, Nat.zero_add, List.range, List.range.loop]
  refine bs_pure (.bool false) rfl rfl (by decide) (fun _ => by go_simp) (fun _ => by simp [go_sem]) ?_
  walk_nrm
  refine Bs.ctl rfl (fun _ => stepG_region_end) ?_
  refine Bs.ctl rfl (fun _ => stepG_seq) ?_
  refine Bs.ctl rfl (fun _ => stepG_region) ?_
  simp only [List.size_toArray, List.length_cons, List.length_nil, Nat.reduceAdd, Nat.zero_add, List.range, List.range.loop]
  refine bs_make (fun c => .slice (some ⟨c, 0, none⟩) 3 3) (.cells #[.int .i64 3, .int .i64 1, .int .i64 2] 3 (0, 0)) rfl rfl (by decide) (fun w => run_bs3 rfl _ w) fun bs w1 hbs e1 z1 x1 => ?_
  walk_nrm
  have hsh1 : ∀ b, Sh b → b < w1.heap.size := fun b hb => by have := hsh b hb; omega
  have hns : ¬ Sh bs := fun hb => absurd (hsh _ hb) (by omega)
  have I : Items Sh w1 (some ⟨bs, 0, none⟩) 3 (fun i => if i = 0 then 3 else if i = 1 then 1 else 2) := ⟨by decide, fun _ => ⟨_, rfl, hns, fun i hi => by
    have h3 : i = 0 ∨ i = 1 ∨ i = 2 := by omega
    rcases h3 with rfl | rfl | rfl <;> simp [Addr.add, World.cell?, e1]⟩⟩
  refine bs_call rfl rfl (by decide) rfl Try.func10 (by decide +kernel) rfl (R := fun v Sh' w' => ∃ bl, v = .tuple #[.slice (some ⟨bl, 0, none⟩) (3 : Nat) 3, .int .i64 0] ∧ w1.heap.size ≤ bl ∧ ¬ Sh' bl ∧ w'.heap[bl]? = some (.cells ((List.range 3).map fun i => Value.int .i64 (IntKind.i64.wrap (10 * (if i = 0 then 3 else if i = 1 then 1 else 2)))).toArray 3 (0, 0)) ∧ Aft Sh w1 Sh' w') ?_ fun v Sh2 w2 hv => ?_
  · walk_nrm
    exact map_ten (W := 2) hsh1 I ⟨by decide, by decide⟩
  obtain ⟨bl, rfl, g1, g2, g3, g4⟩ := hv
  have hA2 : Aft Sh w Sh2 w2 := (x1.aft hsh).trans g4
  have g3' : w2.heap[bl]? = some (.cells #[.int .i64 30, .int .i64 10, .int .i64 20] 3 (0, 0)) := by rw [g3]; first | rfl | simp [List.range, List.range.loop, IntKind.wrap, IntKind.bits, IntKind.signed]
  clear g3
  walk_nrm
  refine bs_pure (.tuple #[.slice (some ⟨bl, 0, none⟩) 3 3, .int .i64 0]) rfl rfl (by decide) (fun _ => by go_simp) (fun _ => by simp [go_sem]) ?_
  walk_nrm
  refine bs_pure (.slice (some ⟨bl, 0, none⟩) 3 3) rfl rfl (by decide) (fun _ => by go_simp) (fun _ => by simp [go_sem]) ?_
  walk_nrm
  refine bs_pure (.int .i64 0) rfl rfl (by decide) (fun _ => by go_simp) (fun _ => by simp [go_sem]) ?_
  walk_nrm
  refine bs_pure (.slice (some ⟨bl, 0, none⟩) 3 3) rfl rfl (by decide) (fun _ => by go_simp) (fun _ => by simp [go_sem]) ?_
  walk_nrm
  refine bs_pure (.int .i64 0) rfl rfl (by decide) (fun _ => by go_simp) (fun _ => by simp [go_sem]) ?_
  walk_nrm
  refine Bs.ctl rfl (fun _ => stepG_region_end) ?_
  refine Bs.ctl rfl (fun _ => stepG_seq) ?_
  refine Bs.ctl rfl (fun _ => stepG_region) ?_
  simp only [List.size_toArray, List.length_cons, List.length_nil, Nat.reduceAdd, Nat.zero_add, List.range, List.range.loop]
  refine bs_pure (.int .i64 0) rfl rfl (by decide) (fun _ => by go_simp) (fun _ => by simp [go_sem]) ?_
  walk_nrm
  refine bs_pure (.bool true) rfl rfl (by decide) (fun w => (run_bin (p := 0) (q := 0) (v := .bool true) rfl _ rfl rfl (bin_eql (by decide)) w).1) (fun w => (run_bin (p := 0) (q := 0) (v := .bool true) rfl _ rfl rfl (bin_eql (by decide)) w).2) ?_
  walk_nrm
  refine bs_pure (.bool true) rfl rfl (by decide) (fun _ => by go_simp) (fun _ => by simp [go_sem]) ?_
  walk_nrm
  refine bs_pure (.slice (some ⟨bl, 0, none⟩) 3 3) rfl rfl (by decide) (fun _ => by go_simp) (fun _ => by simp [go_sem]) ?_
  walk_nrm
  refine bs_make (fun c => .slice (some ⟨c, 0, none⟩) 3 3) (.cells #[.int .i64 30, .int .i64 10, .int .i64 20] 3 (0, 0)) rfl rfl (by decide) (fun w => run_bs3 rfl _ w) fun bt w3 hbt e3 z3 x3 => ?_
  walk_nrm
  have hA3 : Aft Sh w Sh2 w3 := hA2.trans (x3.aft hA2.lt)
  have g5 : w3.heap[bl]? = some (.cells #[.int .i64 30, .int .i64 10, .int .i64 20] 3 (0, 0)) := (x3.keep bl (Array.getElem?_eq_some_iff.1 g3').1).trans g3'
  have hns3 : ¬ Sh2 bt := fun hb => absurd (hA2.lt _ hb) (by omega)
  have hC : ∀ (b : Nat), ¬ Sh2 b → w3.heap[b]? = some (.cells #[.int .i64 30, .int .i64 10, .int .i64 20] 3 (0, 0)) → ∀ τ, Kd.C (Kd.int .i64) (tp (hide Sh2 w3) τ) (some ⟨b, 0, none⟩) ([30, 10, 20] : List Int).length [30, 10, 20] := fun b hn hb τ => ints_C (by decide) fun i hi => by
    have hb' : (tp (hide Sh2 w3) τ).heap[b]? = some (.cells #[.int .i64 30, .int .i64 10, .int .i64 20] 3 (0, 0)) := hide_blk Sh2 hA3.lt hn hb
    have h3 : i = 0 ∨ i = 1 ∨ i = 2 := by simp at hi; omega
    rcases h3 with rfl | rfl | rfl <;> simp [Addr.add, World.cell?, hb']
  refine bs_call rfl rfl (by decide) rfl Try.func29 (by decide +kernel) rfl (R := fun v Sh' w' => Sh' = Sh2 ∧ Aft Sh2 w3 Sh2 w' ∧ ∃ u', Hid (Hof Sh2 w3) u' w' ∧ v = .bool true) ?_ fun v Sh' w4 hv => ?_
  · walk_nrm
    exact lone_bs (by decide) hA3.lt (R := fun v _ => v = .bool true) (fun _ _ _ h => h) fun τ => (PLanesNone.cloisterlaw06_same.calls 4 _ 3 [30, 10, 20] _ 3 [30, 10, 20] true _ (hC bl g2 g5 τ) (by decide) (hC bt hns3 e3 τ) (by decide) (by decide +kernel)).mono fun e u' ⟨h1, h2⟩ => ⟨_, h1, h2.below, rfl⟩
  obtain ⟨rfl, g6, u', _, rfl⟩ := hv
  walk_nrm
  refine bs_pure (.bool true) rfl rfl (by decide) (fun _ => by go_simp) (fun _ => by simp [go_sem]) ?_
  walk_nrm
  refine bs_pure (.bool true) rfl rfl (by decide) (fun _ => by go_simp) (fun _ => by simp [go_sem]) ?_
  walk_nrm
  refine Bs.ctl rfl (fun _ => stepG_region_end) ?_
  refine Bs.ctl (a' := G { (base 9).at _ _ with mode := .returning } (c :: cs)) rfl (fun _ => rfl) ?_
  refine bs_ret rfl rfl Try.func9 (resultsC_tmp rfl _) (Bs.now fun d => ⟨_, rfl, rfl, (hA3.trans g6).at d⟩)
end
end Go.Proofs.Ytmkjoojoaldljaa.Tm
namespace Go.Proofs.Ytmkjoojoaldljaa.Tm
open Go.Conc Go.RowKit Go.Proofs.Ytmkjoojoaldljaa.Net Go.Proofs.YtmkjoojoaldljaaW.PrintWords
open Go.ConcR (wgBlock WgAt)
theorem run_load56 {o : Oper} {x : Operand} (ho : o.op = .load 56 x) (a : Act) (w : World) {ad : Addr} {v : Value} (h1 : a.eval x = .pointer (some ad)) (hc : w.cell? ad = some v) :
    (execOp a.eval o).run Try.prog w = .ok (.value v) w ∧ (execOp a.eval o).events Try.prog w #[] = #[⟨.cell ad, false, false⟩] := by
  have g := Try.isAgg56
  unfold execOp
  simp only [ho, h1]
  constructor
  · simp [go_sem, g, hc]
  · simp [go_sem, g, hc]
theorem run_len {P : Program} {o : Oper} {x : Operand} {t e : TypeId} {A : Option Addr} {n c : Nat} (hu : P.underlying t = some (.slice e)) (ho : o.op = .call { callee := .builtin .len, args := #[x], argTypes := #[t] }) (a : Act) (h1 : a.eval x = .slice A n c) (w : World) :
    (execOp a.eval o).run P w = .ok (.value (.int .i64 n)) w ∧ (execOp a.eval o).events P w #[] = #[] := by
  have e2 : ∀ (β : Type) (f : TypeDesc → Sem β) es, (underlying t >>= f).runT P w es = (f (.slice e)).runT P w es := fun β f es => by
    show ((match P.underlying t with | some d => (pure d : Sem TypeDesc) | none => stuck "no such type") >>= f).runT P w es = _
    rw [hu]; rfl
  have e3 : (Builtin.len_ #[t] o.type #[.slice A n c]).runT P w #[] = (.ok (.int .i64 n) w, #[]) := by
    show (underlying t >>= _ : Sem Value).runT P w #[] = _
    rw [e2]
    rfl
  have e : (execOp a.eval o).runT P w #[] = (.ok (.value (.int .i64 n)) w, #[]) := by
    have e0 : execOp a.eval o = ((Builtin.len_ #[t] o.type #[.slice A n c]).bind fun v => .pure (.value v)) := by
      unfold execOp
      simp only [ho]
      show invoke (.builtin .len #[t] o.type (#[x].map fun | .const _ => true | _ => false)) (#[x].map a.eval) = _
      have : #[x].map a.eval = #[.slice A n c] := by simp [h1]
      rw [this]
      rfl
    rw [e0, Sem.runT_bind', e3]
    rfl
  constructor
  · have := congrArg Prod.fst e
    rwa [Sem.runT_eq] at this
  · unfold Sem.events
    rw [e]
section
variable {Sh Sh' : Nat → Prop} {w w' : World} {a0 : Option Addr} {n cap : Nat}
set_option maxRecDepth 100000 in
set_option maxHeartbeats 4000000 in
theorem gs_low {W : Int} (hsh : ∀ b, Sh b → b < w.heap.size) (hlow : decide (W < 1) = true) : CallsB Try.prog 12 #[.slice a0 n cap, .int .i64 W, .nilFunc] Sh w (fun v Sh' w' => v = .tuple #[.slice none 0 0, .int .i64 0, .int .i64 2] ∧ Aft Sh w Sh' w') := by
  intro c cs
  rw [enter_at _ Try.func12 rfl]
  simp only [Try.ntmps12, Try.f12]
  walk_nrm
  refine Bs.ctl rfl (fun _ => stepG_seq) ?_
  refine Bs.ctl rfl (fun _ => stepG_region) ?_
  simp only [List.size_toArray, List.length_cons, List.length_nil, Nat.reduceAdd, Nat.zero_add, List.range, List.range.loop]
  refine bs_make (fun c => .pointer (some ⟨c, 0, none⟩)) (.cells #[.slice a0 n cap] 22 (0, 0)) rfl rfl (by decide) (fun w => run_box (v := .slice a0 n cap) rfl _ rfl w) fun bi w1 hbi e1 z1 x1 => ?_
  walk_nrm
  refine bs_make (fun c => .pointer (some ⟨c, 0, none⟩)) (.cells #[.nilFunc] 56 (0, 0)) rfl rfl (by decide) (fun w => run_box (v := .nilFunc) rfl _ rfl w) fun bf w2 hbf e2 z2 x2 => ?_
  walk_nrm
  refine bs_pure (.slice none 0 0) rfl rfl (by decide) (fun _ => by go_simp) (fun _ => by simp [go_sem]) ?_
  walk_nrm
  refine bs_pure (.int .i64 0) rfl rfl (by decide) (fun _ => by go_simp) (fun _ => by simp [go_sem]) ?_
  walk_nrm
  refine bs_pure (.int .i64 0) rfl rfl (by decide) (fun _ => by go_simp) (fun _ => by simp [go_sem]) ?_
  walk_nrm
  refine Bs.ctl rfl (fun _ => stepG_region_end) ?_
  refine Bs.ctl rfl (fun _ => stepG_seq) ?_
  refine Bs.ctl rfl (fun _ => stepG_seq) ?_
  refine Bs.ctl rfl (fun _ => stepG_region) ?_
  simp only [List.size_toArray, List.length_cons, List.length_nil, Nat.reduceAdd, Nat.zero_add, List.range, List.range.loop]
  refine bs_pure (.int .i64 W) rfl rfl (by decide) (fun _ => by go_simp) (fun _ => by simp [go_sem]) ?_
  walk_nrm
  refine bs_pure (.bool true) rfl rfl (by decide) (fun w => (run_bin rfl _ rfl rfl (bin_lss hlow) w).1) (fun w => (run_bin rfl _ rfl rfl (bin_lss hlow) w).2) ?_
  walk_nrm
  refine bs_pure (.bool true) rfl rfl (by decide) (fun _ => by go_simp) (fun _ => by simp [go_sem]) ?_
  walk_nrm
  refine bs_skip rfl rfl ?_
  walk_nrm
  refine bs_skip rfl rfl ?_
  walk_nrm
  refine bs_pure (.bool true) rfl rfl (by decide) (fun _ => by go_simp) (fun _ => by simp [go_sem]) ?_
  walk_nrm
  refine bs_pure (.bool true) rfl rfl (by decide) (fun _ => by go_simp) (fun _ => by simp [go_sem]) ?_
  walk_nrm
  refine bs_skip rfl rfl ?_
  walk_nrm
  refine bs_skip rfl rfl ?_
  walk_nrm
  refine bs_pure (.bool true) rfl rfl (by decide) (fun _ => by go_simp) (fun _ => by simp [go_sem]) ?_
  walk_nrm
  refine Bs.ctl rfl (fun _ => stepG_region_end) ?_
  refine Bs.ctl rfl (fun _ => stepG_cond (t := true) rfl) ?_
  refine Bs.ctl rfl (fun _ => stepG_seq) ?_
  refine Bs.ctl rfl (fun _ => stepG_region) ?_
  simp only [List.size_toArray, List.length_cons, List.length_nil, Nat.reduceAdd, Nat.zero_add, List.range, List.range.loop]
  refine bs_pure (.slice none 0 0) rfl rfl (by decide) (fun _ => by go_simp) (fun _ => by simp [go_sem]) ?_
  walk_nrm
  refine bs_pure (.int .i64 0) rfl rfl (by decide) (fun _ => by go_simp) (fun _ => by simp [go_sem]) ?_
  walk_nrm
  refine bs_pure (.int .i64 2) rfl rfl (by decide) (fun _ => by go_simp) (fun _ => by simp [go_sem]) ?_
  walk_nrm
  refine Bs.ctl rfl (fun _ => stepG_region_end) ?_
  refine Bs.ctl (a' := G { (base 12).at _ _ with mode := .returning } (c :: cs)) rfl (fun _ => rfl) ?_
  refine bs_ret rfl rfl Try.func12 (resultsC_tmp3 rfl _) (Bs.now fun d => ⟨_, rfl, rfl, ?_⟩)
  exact ((x1.trans x2).trans (.at _ _)).aft hsh
set_option maxRecDepth 100000 in
set_option maxHeartbeats 4000000 in
theorem gs_high {W : Int} (hsh : ∀ b, Sh b → b < w.heap.size) (hlow : decide (W < 1) = false) (hhigh : decide (W > 64) = true) : CallsB Try.prog 12 #[.slice a0 n cap, .int .i64 W, .nilFunc] Sh w (fun v Sh' w' => v = .tuple #[.slice none 0 0, .int .i64 0, .int .i64 2] ∧ Aft Sh w Sh' w') := by
  intro c cs
  rw [enter_at _ Try.func12 rfl]
  simp only [Try.ntmps12, Try.f12]
  walk_nrm
  refine Bs.ctl rfl (fun _ => stepG_seq) ?_
  refine Bs.ctl rfl (fun _ => stepG_region) ?_
  simp only [List.size_toArray, List.length_cons, List.length_nil, Nat.reduceAdd, Nat.zero_add, List.range, List.range.loop]
  refine bs_make (fun c => .pointer (some ⟨c, 0, none⟩)) (.cells #[.slice a0 n cap] 22 (0, 0)) rfl rfl (by decide) (fun w => run_box (v := .slice a0 n cap) rfl _ rfl w) fun bi w1 hbi e1 z1 x1 => ?_
  walk_nrm
  refine bs_make (fun c => .pointer (some ⟨c, 0, none⟩)) (.cells #[.nilFunc] 56 (0, 0)) rfl rfl (by decide) (fun w => run_box (v := .nilFunc) rfl _ rfl w) fun bf w2 hbf e2 z2 x2 => ?_
  walk_nrm
  refine bs_pure (.slice none 0 0) rfl rfl (by decide) (fun _ => by go_simp) (fun _ => by simp [go_sem]) ?_
  walk_nrm
  refine bs_pure (.int .i64 0) rfl rfl (by decide) (fun _ => by go_simp) (fun _ => by simp [go_sem]) ?_
  walk_nrm
  refine bs_pure (.int .i64 0) rfl rfl (by decide) (fun _ => by go_simp) (fun _ => by simp [go_sem]) ?_
  walk_nrm
  refine Bs.ctl rfl (fun _ => stepG_region_end) ?_
  refine Bs.ctl rfl (fun _ => stepG_seq) ?_
  refine Bs.ctl rfl (fun _ => stepG_seq) ?_
  refine Bs.ctl rfl (fun _ => stepG_region) ?_
  simp only [List.size_toArray, List.length_cons, List.length_nil, Nat.reduceAdd, Nat.zero_add, List.range, List.range.loop]
  refine bs_pure (.int .i64 W) rfl rfl (by decide) (fun _ => by go_simp) (fun _ => by simp [go_sem]) ?_
  walk_nrm
  refine bs_pure (.bool false) rfl rfl (by decide) (fun w => (run_bin rfl _ rfl rfl (bin_lss hlow) w).1) (fun w => (run_bin rfl _ rfl rfl (bin_lss hlow) w).2) ?_
  walk_nrm
  refine bs_pure (.bool false) rfl rfl (by decide) (fun _ => by go_simp) (fun _ => by simp [go_sem]) ?_
  walk_nrm
  refine bs_pure (.int .i64 W) rfl rfl (by decide) (fun _ => by go_simp) (fun _ => by simp [go_sem]) ?_
  walk_nrm
  refine bs_pure (.bool true) rfl rfl (by decide) (fun w => (run_bin rfl _ rfl rfl (bin_gtr hhigh) w).1) (fun w => (run_bin rfl _ rfl rfl (bin_gtr hhigh) w).2) ?_
  walk_nrm
  refine bs_pure (.bool true) rfl rfl (by decide) (fun _ => by go_simp) (fun _ => by simp [go_sem]) ?_
  walk_nrm
  refine bs_pure (.bool true) rfl rfl (by decide) (fun _ => by go_simp) (fun _ => by simp [go_sem]) ?_
  walk_nrm
  refine bs_skip rfl rfl ?_
  walk_nrm
  refine bs_skip rfl rfl ?_
  walk_nrm
  refine bs_pure (.bool true) rfl rfl (by decide) (fun _ => by go_simp) (fun _ => by simp [go_sem]) ?_
  walk_nrm
  refine Bs.ctl rfl (fun _ => stepG_region_end) ?_
  refine Bs.ctl rfl (fun _ => stepG_cond (t := true) rfl) ?_
  refine Bs.ctl rfl (fun _ => stepG_seq) ?_
  refine Bs.ctl rfl (fun _ => stepG_region) ?_
  simp only [List.size_toArray, List.length_cons, List.length_nil, Nat.reduceAdd, Nat.zero_add, List.range, List.range.loop]
  refine bs_pure (.slice none 0 0) rfl rfl (by decide) (fun _ => by go_simp) (fun _ => by simp [go_sem]) ?_
  walk_nrm
  refine bs_pure (.int .i64 0) rfl rfl (by decide) (fun _ => by go_simp) (fun _ => by simp [go_sem]) ?_
  walk_nrm
  refine bs_pure (.int .i64 2) rfl rfl (by decide) (fun _ => by go_simp) (fun _ => by simp [go_sem]) ?_
  walk_nrm
  refine Bs.ctl rfl (fun _ => stepG_region_end) ?_
  refine Bs.ctl (a' := G { (base 12).at _ _ with mode := .returning } (c :: cs)) rfl (fun _ => rfl) ?_
  refine bs_ret rfl rfl Try.func12 (resultsC_tmp3 rfl _) (Bs.now fun d => ⟨_, rfl, rfl, ?_⟩)
  exact ((x1.trans x2).trans (.at _ _)).aft hsh
set_option maxRecDepth 100000 in
set_option maxHeartbeats 4000000 in
theorem gs_mid {W : Int} (hsh : ∀ b, Sh b → b < w.heap.size) (hlow : decide (W < 1) = false) (hhigh : decide (W > 64) = false) : CallsB Try.prog 12 #[.slice a0 n cap, .int .i64 W, .nilFunc] Sh w (fun v Sh' w' => v = .tuple #[.slice none 0 0, .int .i64 0, .int .i64 2] ∧ Aft Sh w Sh' w') := by
  intro c cs
  rw [enter_at _ Try.func12 rfl]
  simp only [Try.ntmps12, Try.f12]
  walk_nrm
  refine Bs.ctl rfl (fun _ => stepG_seq) ?_
  refine Bs.ctl rfl (fun _ => stepG_region) ?_
  simp only [List.size_toArray, List.length_cons, List.length_nil, Nat.reduceAdd, Nat.zero_add, List.range, List.range.loop]
  refine bs_make (fun c => .pointer (some ⟨c, 0, none⟩)) (.cells #[.slice a0 n cap] 22 (0, 0)) rfl rfl (by decide) (fun w => run_box (v := .slice a0 n cap) rfl _ rfl w) fun bi w1 hbi e1 z1 x1 => ?_
  walk_nrm
  refine bs_make (fun c => .pointer (some ⟨c, 0, none⟩)) (.cells #[.nilFunc] 56 (0, 0)) rfl rfl (by decide) (fun w => run_box (v := .nilFunc) rfl _ rfl w) fun bf w2 hbf e2 z2 x2 => ?_
  walk_nrm
  refine bs_pure (.slice none 0 0) rfl rfl (by decide) (fun _ => by go_simp) (fun _ => by simp [go_sem]) ?_
  walk_nrm
  refine bs_pure (.int .i64 0) rfl rfl (by decide) (fun _ => by go_simp) (fun _ => by simp [go_sem]) ?_
  walk_nrm
  refine bs_pure (.int .i64 0) rfl rfl (by decide) (fun _ => by go_simp) (fun _ => by simp [go_sem]) ?_
  walk_nrm
  refine Bs.ctl rfl (fun _ => stepG_region_end) ?_
  refine Bs.ctl rfl (fun _ => stepG_seq) ?_
  refine Bs.ctl rfl (fun _ => stepG_seq) ?_
  refine Bs.ctl rfl (fun _ => stepG_region) ?_
  simp only [List.size_toArray, List.length_cons, List.length_nil, Nat.reduceAdd, Nat.zero_add, List.range, List.range.loop]
  refine bs_pure (.int .i64 W) rfl rfl (by decide) (fun _ => by go_simp) (fun _ => by simp [go_sem]) ?_
  walk_nrm
  refine bs_pure (.bool false) rfl rfl (by decide) (fun w => (run_bin rfl _ rfl rfl (bin_lss hlow) w).1) (fun w => (run_bin rfl _ rfl rfl (bin_lss hlow) w).2) ?_
  walk_nrm
  refine bs_pure (.bool false) rfl rfl (by decide) (fun _ => by go_simp) (fun _ => by simp [go_sem]) ?_
  walk_nrm
  refine bs_pure (.int .i64 W) rfl rfl (by decide) (fun _ => by go_simp) (fun _ => by simp [go_sem]) ?_
  walk_nrm
  refine bs_pure (.bool false) rfl rfl (by decide) (fun w => (run_bin rfl _ rfl rfl (bin_gtr hhigh) w).1) (fun w => (run_bin rfl _ rfl rfl (bin_gtr hhigh) w).2) ?_
  walk_nrm
  refine bs_pure (.bool false) rfl rfl (by decide) (fun _ => by go_simp) (fun _ => by simp [go_sem]) ?_
  walk_nrm
  refine bs_pure (.bool false) rfl rfl (by decide) (fun _ => by go_simp) (fun _ => by simp [go_sem]) ?_
  walk_nrm
  refine bs_load (ad := ⟨bf, 0, none⟩) (v := .nilFunc) rfl rfl (by decide) (fun hb => absurd (hsh _ hb) (by simp only []; omega)) (cell_of e2) (fun w₁ h₁ => run_load56 rfl _ w₁ rfl h₁) ?_
  walk_nrm
  refine bs_pure (.bool true) rfl rfl (by decide) (fun w => (run_eqFunc Try.underlying56 rfl _ rfl rfl (.inl ⟨rfl, rfl⟩) w).1) (fun w => (run_eqFunc Try.underlying56 rfl _ rfl rfl (.inl ⟨rfl, rfl⟩) w).2) ?_
  walk_nrm
  refine bs_pure (.bool true) rfl rfl (by decide) (fun _ => by go_simp) (fun _ => by simp [go_sem]) ?_
  walk_nrm
  refine Bs.ctl rfl (fun _ => stepG_region_end) ?_
  refine Bs.ctl rfl (fun _ => stepG_cond (t := true) rfl) ?_
  refine Bs.ctl rfl (fun _ => stepG_seq) ?_
  refine Bs.ctl rfl (fun _ => stepG_region) ?_
  simp only [List.size_toArray, List.length_cons, List.length_nil, Nat.reduceAdd, Nat.zero_add, List.range, List.range.loop]
  refine bs_pure (.slice none 0 0) rfl rfl (by decide) (fun _ => by go_simp) (fun _ => by simp [go_sem]) ?_
  walk_nrm
  refine bs_pure (.int .i64 0) rfl rfl (by decide) (fun _ => by go_simp) (fun _ => by simp [go_sem]) ?_
  walk_nrm
  refine bs_pure (.int .i64 2) rfl rfl (by decide) (fun _ => by go_simp) (fun _ => by simp [go_sem]) ?_
  walk_nrm
  refine Bs.ctl rfl (fun _ => stepG_region_end) ?_
  refine Bs.ctl (a' := G { (base 12).at _ _ with mode := .returning } (c :: cs)) rfl (fun _ => rfl) ?_
  refine bs_ret rfl rfl Try.func12 (resultsC_tmp3 rfl _) (Bs.now fun d => ⟨_, rfl, rfl, ?_⟩)
  exact ((x1.trans x2).trans (.at _ _)).aft hsh
theorem gs_nil {W : Int} (hsh : ∀ b, Sh b → b < w.heap.size) : CallsB Try.prog 12 #[.slice a0 n cap, .int .i64 W, .nilFunc] Sh w (fun v Sh' w' => v = .tuple #[.slice none 0 0, .int .i64 0, .int .i64 2] ∧ Aft Sh w Sh' w') := by
  cases h1 : decide (W < 1) with
  | true => exact gs_low hsh h1
  | false => cases h2 : decide (W > 64) with
    | true => exact gs_high hsh h1 h2
    | false => exact gs_mid hsh h1 h2
set_option maxRecDepth 100000 in
set_option maxHeartbeats 4000000 in
theorem merge_none (hsh : ∀ b, Sh b → b < w.heap.size) : CallsB Try.prog 15 #[.nilFunc, .slice none 0 0] Sh w (fun v Sh' w' => v = .slice none 0 0 ∧ Aft Sh w Sh' w') := by
  intro c cs
  rw [enter_at _ Try.func15 rfl]
  simp only [Try.ntmps15, Try.f15]
  walk_nrm
  refine Bs.ctl rfl (fun _ => stepG_seq) ?_
  refine Bs.ctl rfl (fun _ => stepG_region) ?_
  simp only [List.size_toArray, List.length_cons, List.length_nil, Nat.reduceAdd, Nat.zero_add, List.range, List.range.loop]
  refine bs_pure (.slice none 0 0) rfl rfl (by decide) (fun _ => by go_simp) (fun _ => by simp [go_sem]) ?_
  walk_nrm
  refine Bs.ctl rfl (fun _ => stepG_region_end) ?_
  refine Bs.ctl rfl (fun _ => stepG_seq) ?_
  refine Bs.ctl rfl (fun _ => stepG_region) ?_
  simp only [List.size_toArray, List.length_cons, List.length_nil, Nat.reduceAdd, Nat.zero_add, List.range, List.range.loop]
  refine bs_pure (.slice none 0 0) rfl rfl (by decide) (fun _ => by go_simp) (fun _ => by simp [go_sem]) ?_
  walk_nrm
  refine Bs.ctl rfl (fun _ => stepG_region_end) ?_
  refine Bs.ctl rfl (fun _ => stepG_seq) ?_
  refine Bs.ctl rfl (fun _ => stepG_seq) ?_
  refine Bs.ctl rfl (fun _ => stepG_region) ?_
  simp only [List.size_toArray, List.length_cons, List.length_nil, Nat.reduceAdd, Nat.zero_add, List.range, List.range.loop]
  refine bs_pure (.nilFunc) rfl rfl (by decide) (fun _ => by go_simp) (fun _ => by simp [go_sem]) ?_
  walk_nrm
  refine bs_pure (.bool true) rfl rfl (by decide) (fun w => (run_eqFunc Try.underlying75 rfl _ rfl rfl (.inl ⟨rfl, rfl⟩) w).1) (fun w => (run_eqFunc Try.underlying75 rfl _ rfl rfl (.inl ⟨rfl, rfl⟩) w).2) ?_
  walk_nrm
  refine Bs.ctl rfl (fun _ => stepG_region_end) ?_
  refine Bs.ctl rfl (fun _ => stepG_cond (t := true) rfl) ?_
  refine Bs.ctl rfl (fun _ => stepG_seq) ?_
  refine Bs.ctl rfl (fun _ => stepG_seq) ?_
  refine Bs.ctl rfl (fun _ => stepG_region) ?_
  simp only [List.size_toArray, List.length_cons, List.length_nil, Nat.reduceAdd, Nat.zero_add, List.range, List.range.loop]
  refine bs_pure (.slice none 0 0) rfl rfl (by decide) (fun _ => by go_simp) (fun _ => by simp [go_sem]) ?_
  walk_nrm
  refine bs_pure (.int .i64 0) rfl rfl (by decide) (fun w => (run_len (A := none) (n := 0) (c := 0) Try.underlying35 rfl _ rfl w).1) (fun w => (run_len (A := none) (n := 0) (c := 0) Try.underlying35 rfl _ rfl w).2) ?_
  walk_nrm
  refine bs_pure (.int .i64 0) rfl rfl (by decide) (fun _ => by go_simp) (fun _ => by simp [go_sem]) ?_
  walk_nrm
  refine Bs.ctl rfl (fun _ => stepG_region_end) ?_
  refine Bs.ctl rfl (fun _ => stepG_block) ?_
  refine Bs.ctl rfl (fun _ => stepG_loop) ?_
  refine Bs.ctl rfl (fun _ => stepG_seq) ?_
  refine Bs.ctl rfl (fun _ => stepG_region) ?_
  simp only [List.size_toArray, List.length_cons, List.length_nil, Nat.reduceAdd, Nat.zero_add, List.range, List.range.loop]
  refine bs_pure (.bool false) rfl rfl (by decide) (fun w => (run_bin (p := 0) (q := 0) (v := .bool false) rfl _ rfl rfl (bin_lss (by decide)) w).1) (fun w => (run_bin (p := 0) (q := 0) (v := .bool false) rfl _ rfl rfl (bin_lss (by decide)) w).2) ?_
  walk_nrm
  refine Bs.ctl rfl (fun _ => stepG_region_end) ?_
  refine Bs.ctl rfl (fun _ => stepG_seq) ?_
  refine Bs.ctl rfl (fun _ => stepG_cond (t := false) rfl) ?_
  refine Bs.ctl rfl (fun _ => stepG_exit rfl) ?_
  refine Bs.ctl rfl (fun _ => stepG_seq) ?_
  refine Bs.ctl rfl (fun _ => stepG_region) ?_
  simp only [List.size_toArray, List.length_cons, List.length_nil, Nat.reduceAdd, Nat.zero_add, List.range, List.range.loop]
  refine bs_pure (.slice none 0 0) rfl rfl (by decide) (fun _ => by go_simp) (fun _ => by simp [go_sem]) ?_
  walk_nrm
  refine bs_pure (.slice none 0 0) rfl rfl (by decide) (fun _ => by go_simp) (fun _ => by simp [go_sem]) ?_
  walk_nrm
  refine Bs.ctl rfl (fun _ => stepG_region_end) ?_
  refine Bs.ctl (a' := G { (base 15).at _ _ with mode := .returning } (c :: cs)) rfl (fun _ => rfl) ?_
  refine bs_ret rfl rfl Try.func15 (resultsC_tmp rfl _) (Bs.now fun d => ⟨_, rfl, rfl, (Aft.refl hsh).at d⟩)
end
end Go.Proofs.Ytmkjoojoaldljaa.Tm
namespace Go.Proofs.Ytmkjoojoaldljaa.Tm
open Go.Conc Go.RowKit Go.Proofs.Ytmkjoojoaldljaa.Net Go.Proofs.YtmkjoojoaldljaaW.PrintWords
open Go.ConcR (wgBlock WgAt)
theorem run_neqBool {P : Program} {o : Oper} {t t2 : TypeId} {x y : Operand} {p q r : Bool} (hu : P.underlying t = some .bool) (ho : o.op = .binOp .neq t x y t2) (a : Act) (hx : a.eval x = .bool p) (hy : a.eval y = .bool q) (hr : (!(p == q)) = r) (w : World) :
    (execOp a.eval o).run P w = .ok (.value (.bool r)) w ∧ (execOp a.eval o).events P w #[] = #[] := by
  subst hr
  have e2 : ∀ (β : Type) (f : TypeDesc → Sem β) es, (underlying t >>= f).runT P w es = (f .bool).runT P w es := fun β f es => by
    show ((match P.underlying t with | some d => (pure d : Sem TypeDesc) | none => stuck "no such type") >>= f).runT P w es = _
    rw [hu]; rfl
  have e3 : (Op.equal t (.bool p) (.bool q)).runT P w #[] = (.ok (p == q) w, #[]) := by
    show (Op.equalIn (9999 + 1) t (.bool p) (.bool q)).runT P w #[] = _
    unfold Op.equalIn
    rw [e2]
    rfl
  have e : (execOp a.eval o).runT P w #[] = (.ok (.value (.bool (!(p == q)))) w, #[]) := by
    have e0 : execOp a.eval o = ((Op.equal t (.bool p) (.bool q)).bind fun b => .pure (.value (.bool (!b)))) := by
      unfold execOp
      simp only [ho, hx, hy]
      show ((Op.equal t (.bool p) (.bool q)).bind fun b => Sem.pure (Value.bool (!b))).bind (fun v => Sem.pure (Next.value v)) = _
      exact Sem.bind_assoc' _ _ _
    rw [e0, Sem.runT_bind', e3]
    rfl
  constructor
  · have := congrArg Prod.fst e
    rwa [Sem.runT_eq] at this
  · unfold Sem.events
    rw [e]
structure ArgI (w : World) (A : Option Addr) (l : List Int) : Prop where
  n8 : l.length * 8 ≤ 140737488351232
  el : 0 < l.length → ∃ ad, A = some ad ∧ ∀ (i : Nat) (hi : i < l.length), w.cell? (ad.add i) = some (.int .i64 l[i])
theorem ArgI.C {w w' : World} {A : Option Addr} {l : List Int} {Sh : Nat → Prop} (h : ArgI w A l) (ha : Aft (fun _ => False) w Sh w') (τ : Nat → Question → Nat) : Kd.C (Kd.int .i64) (tp (hide Sh w') τ) A l.length l := by
  have hn := h.n8
  rcases Nat.eq_zero_or_pos l.length with h0 | h0
  · exact ⟨rfl, by omega, fun h => by omega⟩
  · obtain ⟨ad, rfl, he⟩ := h.el h0
    refine ints_C (by omega) fun i hi => ?_
    have hc := he i hi
    have hlt := cell_lt hc
    have hns : ¬ Sh (ad.add i).block := fun hb => by
      rcases ha.new _ hb with h1 | h1
      · exact h1
      · omega
    have hc' : w'.cell? (ad.add i) = some (.int .i64 l[i]) := ha.cell (fun h => h) hc
    have : (hide Sh w').cell? (ad.add i) = some (.int .i64 l[i]) := by
      rw [World.cell?_of_block (w := w') (w' := hide Sh w') ?_]
      · exact hc'
      · have hcells : ∃ c e f, w'.heap[(ad.add i).block]? = some (.cells c e f) := by
          unfold World.cell? at hc'
          cases ho : w'.heap[(ad.add i).block]? with
          | none => rw [ho] at hc'; simp at hc'
          | some o =>
            cases o with
            | cells c e f => exact ⟨c, e, f, rfl⟩
            | _ => rw [ho] at hc'; simp at hc'
        obtain ⟨c, e, f, hcc⟩ := hcells
        rw [hide_blk Sh ha.lt hns hcc, hcc]
    exact this
def TopB (P : Program) (f : FuncId) (fn : Func) (args : Array Value) (w : World) (v : Value) : Prop :=
  ∀ cs, Bs P (fun Sh' g' w' => ∃ T todo, g' = G { (base f).at ⟨T, []⟩ todo with mode := .returning } cs ∧ ResultsC P fn T v ∧ Aft (fun _ => False) w Sh' w') (fun _ => False) (G (Frame.enter P f args .normal) cs) w
theorem TopB.run {P : Program} {f : FuncId} {fn : Func} {args : Array Value} {w : World} {v : Value} (h : TopB P f fn args w v) (hf : P.funcs[f]? = some fn) (hi : P.inits.idxOf? f = none) :
    ∃ M last o w' t', runNT P (M + 1) (solo (G (Frame.enter P f args .normal) []) w) #[] = (.ended o w', t') ∧ runN P M (solo (G (Frame.enter P f args .normal) []) w) = .next last ∧ step P last = .ended o w' ∧
      Conc.Good P (fun v' W' => v' = v ∧ Below w.heap.size w W') last o w' t' := by
  have hpast : Past (ShL fun _ => False) w.heap.size #[] := by
    have e : (ShL fun _ => False) = fun _ => False := by
      funext l
      apply propext
      exact ⟨fun ⟨_, _, h⟩ => h, fun h => h.elim⟩
    rw [e]
    exact past_nil.mono (Nat.zero_le _)
  obtain ⟨N, gs', sl', t', a', w', Sh', r1, F', T, todo, rfl, hr, ha⟩ := h [] w.drawn #[G (Frame.enter P f args .normal) []] none #[] ⟨rfl, ⟨fun _ => 0, leavers_one _ _⟩, hpast⟩
  obtain ⟨q, hL⟩ := F'.lv
  have hB : Below w.heap.size w w' := ⟨ha.os, ha.tape, ha.output, ha.size, fun k hk => ha.keep k hk (fun h => h)⟩
  have hG : Goes P true AtRel (fun _ _ _ => False) (AtEnd P (ShL Sh') w'.heap.size fun v' W' => v' = v ∧ Below w.heap.size w W') 0 (G { (base f).at ⟨T, []⟩ todo with mode := .returning } []) w' := by
    intro w₁ h₁
    obtain ⟨d, rfl⟩ := h₁
    refine ⟨rfl, v, #[], ?_, by simp, rfl, ⟨hB.os, hB.tape, hB.output, hB.size, hB.block⟩⟩
    have h2 : (results fn T).runT P (w'.at d) #[] = (.ok v (w'.at d), #[]) := Prod.ext (by rw [Sem.runT_eq]; exact (hr _).1) (hr _).2
    have h3 := (hr (w'.at d)).1
    have h4 := (hr (w'.at d)).2
    have h5 : seen P f #[] = #[] := rfl
    simp [stepG, G, Frame.at, base, unwind, hf, h2, h3, h4, h5, hi, doReturn, GStep.after, seen_none]
  obtain ⟨M, last, o, w2, t2, e1, e2, e3, e4⟩ := beside_ends (fun _ _ _ h => h.elim) F'.zero hL F'.past hG
  rw [solo_eq_crowd]
  refine ⟨N + M, last, o, w2, t2, ?_, ?_, e3, e4⟩
  · rw [Nat.add_assoc]
    exact runNT_then r1 e1
  · have r1' : runN P N (crowd #[G (Frame.enter P f args .normal) []] w none) = .next (crowd gs' w' sl') := by
      have := congrArg Prod.fst r1
      rwa [runNT_fst] at this
    rw [runN_add, r1']
    exact e2
section
variable {w : World} {A : Option Addr} {cap : Nat} {l : List Int}
theorem copied_bs {Sh : Nat → Prop} {w' : World} (h : ArgI w A l) (hcap : l.length ≤ cap) (ha : Aft (fun _ => False) w Sh w') : CallsB Try.prog 11 #[.slice A l.length cap] Sh w' fun v Sh' w2 => Sh' = Sh ∧ Aft Sh w' Sh w2 ∧ ∃ u', Hid (Hof Sh w') u' w2 ∧ ∃ B n c, v = .slice B n c := by
  have hn := h.n8
  refine lone_bs (by decide) ha.lt (R := fun v _ => ∃ B n c, v = .slice B n c) (fun _ _ _ h => h) fun τ => ?_
  refine (PLanesNone.cloisterlaw06_copied.calls A cap l l _ (h.C ha τ) hcap ?_).mono fun e u' ⟨v, h1, h2, h3⟩ => ⟨v, h1, h3, ?_⟩
  · unfold PLanesNone.cloisterlaw06_copied.f
    simp only [Option.bind_some, List.length_nil, List.nil_append, Nat.zero_add]
    rw [if_pos (by omega)]
  · obtain ⟨B, c, e, _⟩ := h2.2.reads
    exact ⟨B, _, c, e⟩
theorem workers_bs {Sh : Nat → Prop} {w' : World} {W : Int} {r : Bool} (hr : PLanesNone.cloisterref06_Workers.f W = some r) (hsh : ∀ b, Sh b → b < w'.heap.size) : CallsB Try.prog 14 #[.int .i64 W] Sh w' fun v Sh' w2 => Sh' = Sh ∧ Aft Sh w' Sh w2 ∧ ∃ u', Hid (Hof Sh w') u' w2 ∧ v = .bool r :=
  lone_bs (by decide) hsh (R := fun v _ => v = .bool r) (fun _ _ _ h => h) fun τ => (PLanesNone.cloisterref06_Workers.calls W r _ hr).mono fun e u' ⟨h1, h2⟩ => ⟨_, h1, h2.below, rfl⟩
set_option maxRecDepth 100000 in
set_option maxHeartbeats 8000000 in
theorem none_ok {W : Nat} (hA : ArgI w A l) (hcap : l.length ≤ cap) (hW : 1 ≤ W ∧ W ≤ 64) (hwk : PLanesNone.cloisterref06_Workers.f (W : Nat) = some true) : TopB Try.prog 3 Try.f3 #[.slice A l.length cap, .int .i64 (W : Nat)] w (.bool true) := by
  intro cs
  rw [enter_at _ Try.func3 rfl]
  simp only [Try.ntmps3, Try.f3]
  walk_nrm
  have A0 := Aft.refl (Sh := fun _ => False) (w := w) (fun _ h => h.elim)
  refine Bs.ctl rfl (fun _ => stepG_seq) ?_
  refine Bs.ctl rfl (fun _ => stepG_region) ?_
  simp only [List.size_toArray, List.length_cons, List.length_nil, Nat.reduceAdd, Nat.zero_add, List.range, List.range.loop]
  refine bs_pure (.bool false) rfl rfl (by decide) (fun _ => by go_simp) (fun _ => by simp [go_sem]) ?_
  walk_nrm
  refine Bs.ctl rfl (fun _ => stepG_region_end) ?_
  refine Bs.ctl rfl (fun _ => stepG_seq) ?_
  refine Bs.ctl rfl (fun _ => stepG_seq) ?_
  refine Bs.ctl rfl (fun _ => stepG_region) ?_
  simp only [List.size_toArray, List.length_cons, List.length_nil, Nat.reduceAdd, Nat.zero_add, List.range, List.range.loop]
  refine bs_call rfl rfl (by decide) rfl Try.func9 (by decide +kernel) rfl (R := fun v Sh' w' => v = .bool true ∧ Aft (fun _ => False) w Sh' w') ?_ fun v Sh1 w1 hv => ?_
  · walk_nrm
    exact head_bs A0.lt
  obtain ⟨rfl, B1⟩ := hv
  have A1 := A0.trans B1
  walk_nrm
  refine bs_pure (.bool false) rfl rfl (by decide) (fun _ => by go_simp) (fun _ => by simp [go_sem]) ?_
  walk_nrm
  refine Bs.ctl rfl (fun _ => stepG_region_end) ?_
  refine Bs.ctl rfl (fun _ => stepG_cond (t := false) rfl) ?_
  refine Bs.ctl rfl (fun _ => stepG_skip) ?_
  refine Bs.ctl rfl (fun _ => stepG_seq) ?_
  refine Bs.ctl rfl (fun _ => stepG_region) ?_
  simp only [List.size_toArray, List.length_cons, List.length_nil, Nat.reduceAdd, Nat.zero_add, List.range, List.range.loop]
  refine bs_pure (.slice A l.length cap) rfl rfl (by decide) (fun _ => by go_simp) (fun _ => by simp [go_sem]) ?_
  walk_nrm
  refine bs_call rfl rfl (by decide) rfl Try.func11 (by decide +kernel) rfl (R := fun v Sh' w' => Sh' = Sh1 ∧ Aft Sh1 w1 Sh1 w' ∧ ∃ u', Hid (Hof Sh1 w1) u' w' ∧ ∃ B n c, v = .slice B n c) ?_ fun v Sh2 w2 hv => ?_
  · walk_nrm
    exact copied_bs hA hcap A1
  obtain ⟨e2, g2, u2, _, B2, m2, c2, rfl⟩ := hv
  subst e2
  have A2 := A1.trans g2
  walk_nrm
  refine bs_pure (.int .i64 W) rfl rfl (by decide) (fun _ => by go_simp) (fun _ => by simp [go_sem]) ?_
  walk_nrm
  refine bs_call rfl rfl (by decide) rfl Try.func10 (by decide +kernel) rfl (R := fun v Sh' w' => v = .tuple #[.slice none 0 0, .int .i64 2] ∧ Aft Sh2 w2 Sh' w') ?_ fun v Sh3 w3 hv => ?_
  · walk_nrm
    exact map_nil A2.lt
  obtain ⟨rfl, B3⟩ := hv
  have A3 := A2.trans B3
  walk_nrm
  refine bs_pure (.tuple #[.slice none 0 0, .int .i64 2]) rfl rfl (by decide) (fun _ => by go_simp) (fun _ => by simp [go_sem]) ?_
  walk_nrm
  refine bs_pure (.slice none 0 0) rfl rfl (by decide) (fun _ => by go_simp) (fun _ => by simp [go_sem]) ?_
  walk_nrm
  refine bs_pure (.int .i64 2) rfl rfl (by decide) (fun _ => by go_simp) (fun _ => by simp [go_sem]) ?_
  walk_nrm
  refine bs_pure (.slice none 0 0) rfl rfl (by decide) (fun _ => by go_simp) (fun _ => by simp [go_sem]) ?_
  walk_nrm
  refine bs_pure (.int .i64 2) rfl rfl (by decide) (fun _ => by go_simp) (fun _ => by simp [go_sem]) ?_
  walk_nrm
  refine Bs.ctl rfl (fun _ => stepG_region_end) ?_
  refine Bs.ctl rfl (fun _ => stepG_seq) ?_
  refine Bs.ctl rfl (fun _ => stepG_region) ?_
  simp only [List.size_toArray, List.length_cons, List.length_nil, Nat.reduceAdd, Nat.zero_add, List.range, List.range.loop]
  refine bs_pure (.slice A l.length cap) rfl rfl (by decide) (fun _ => by go_simp) (fun _ => by simp [go_sem]) ?_
  walk_nrm
  refine bs_call rfl rfl (by decide) rfl Try.func11 (by decide +kernel) rfl (R := fun v Sh' w' => Sh' = Sh3 ∧ Aft Sh3 w3 Sh3 w' ∧ ∃ u', Hid (Hof Sh3 w3) u' w' ∧ ∃ B n c, v = .slice B n c) ?_ fun v Sh4 w4 hv => ?_
  · walk_nrm
    exact copied_bs hA hcap A3
  obtain ⟨e4, g4, u4, _, B4, m4, c4, rfl⟩ := hv
  subst e4
  have A4 := A3.trans g4
  walk_nrm
  refine bs_pure (.int .i64 W) rfl rfl (by decide) (fun _ => by go_simp) (fun _ => by simp [go_sem]) ?_
  walk_nrm
  refine bs_call rfl rfl (by decide) rfl Try.func12 (by decide +kernel) rfl (R := fun v Sh' w' => v = .tuple #[.slice none 0 0, .int .i64 0, .int .i64 2] ∧ Aft Sh4 w4 Sh' w') ?_ fun v Sh5 w5 hv => ?_
  · walk_nrm
    exact gs_nil A4.lt
  obtain ⟨rfl, B5⟩ := hv
  have A5 := A4.trans B5
  walk_nrm
  refine bs_pure (.tuple #[.slice none 0 0, .int .i64 0, .int .i64 2]) rfl rfl (by decide) (fun _ => by go_simp) (fun _ => by simp [go_sem]) ?_
  walk_nrm
  refine bs_pure (.slice none 0 0) rfl rfl (by decide) (fun _ => by go_simp) (fun _ => by simp [go_sem]) ?_
  walk_nrm
  refine bs_pure (.int .i64 0) rfl rfl (by decide) (fun _ => by go_simp) (fun _ => by simp [go_sem]) ?_
  walk_nrm
  refine bs_pure (.int .i64 2) rfl rfl (by decide) (fun _ => by go_simp) (fun _ => by simp [go_sem]) ?_
  walk_nrm
  refine bs_pure (.slice none 0 0) rfl rfl (by decide) (fun _ => by go_simp) (fun _ => by simp [go_sem]) ?_
  walk_nrm
  refine bs_pure (.int .i64 0) rfl rfl (by decide) (fun _ => by go_simp) (fun _ => by simp [go_sem]) ?_
  walk_nrm
  refine bs_pure (.int .i64 2) rfl rfl (by decide) (fun _ => by go_simp) (fun _ => by simp [go_sem]) ?_
  walk_nrm
  refine Bs.ctl rfl (fun _ => stepG_region_end) ?_
  refine Bs.ctl rfl (fun _ => stepG_seq) ?_
  refine Bs.ctl rfl (fun _ => stepG_seq) ?_
  refine Bs.ctl rfl (fun _ => stepG_region) ?_
  simp only [List.size_toArray, List.length_cons, List.length_nil, Nat.reduceAdd, Nat.zero_add, List.range, List.range.loop]
  refine bs_pure (.int .i64 2) rfl rfl (by decide) (fun _ => by go_simp) (fun _ => by simp [go_sem]) ?_
  walk_nrm
  refine bs_pure (.bool false) rfl rfl (by decide) (fun w => (run_bin (p := 2) (q := 2) (v := .bool false) rfl _ rfl rfl (bin_neq (by decide)) w).1) (fun w => (run_bin (p := 2) (q := 2) (v := .bool false) rfl _ rfl rfl (bin_neq (by decide)) w).2) ?_
  walk_nrm
  refine bs_pure (.bool false) rfl rfl (by decide) (fun _ => by go_simp) (fun _ => by simp [go_sem]) ?_
  walk_nrm
  refine bs_pure (.slice none 0 0) rfl rfl (by decide) (fun _ => by go_simp) (fun _ => by simp [go_sem]) ?_
  walk_nrm
  refine bs_pure (.int .i64 0) rfl rfl (by decide) (fun w => (run_len (A := none) (n := 0) (c := 0) Try.underlying22 rfl _ rfl w).1) (fun w => (run_len (A := none) (n := 0) (c := 0) Try.underlying22 rfl _ rfl w).2) ?_
  walk_nrm
  refine bs_pure (.bool false) rfl rfl (by decide) (fun w => (run_bin (p := 0) (q := 0) (v := .bool false) rfl _ rfl rfl (bin_neq (by decide)) w).1) (fun w => (run_bin (p := 0) (q := 0) (v := .bool false) rfl _ rfl rfl (bin_neq (by decide)) w).2) ?_
  walk_nrm
  refine bs_pure (.bool false) rfl rfl (by decide) (fun _ => by go_simp) (fun _ => by simp [go_sem]) ?_
  walk_nrm
  refine bs_pure (.bool false) rfl rfl (by decide) (fun _ => by go_simp) (fun _ => by simp [go_sem]) ?_
  walk_nrm
  refine bs_pure (.int .i64 2) rfl rfl (by decide) (fun _ => by go_simp) (fun _ => by simp [go_sem]) ?_
  walk_nrm
  refine bs_pure (.bool false) rfl rfl (by decide) (fun w => (run_bin (p := 2) (q := 2) (v := .bool false) rfl _ rfl rfl (bin_neq (by decide)) w).1) (fun w => (run_bin (p := 2) (q := 2) (v := .bool false) rfl _ rfl rfl (bin_neq (by decide)) w).2) ?_
  walk_nrm
  refine bs_pure (.bool false) rfl rfl (by decide) (fun _ => by go_simp) (fun _ => by simp [go_sem]) ?_
  walk_nrm
  refine bs_pure (.bool false) rfl rfl (by decide) (fun _ => by go_simp) (fun _ => by simp [go_sem]) ?_
  walk_nrm
  refine bs_pure (.int .i64 0) rfl rfl (by decide) (fun _ => by go_simp) (fun _ => by simp [go_sem]) ?_
  walk_nrm
  refine bs_pure (.bool false) rfl rfl (by decide) (fun w => (run_bin (p := 0) (q := 0) (v := .bool false) rfl _ rfl rfl (bin_neq (by decide)) w).1) (fun w => (run_bin (p := 0) (q := 0) (v := .bool false) rfl _ rfl rfl (bin_neq (by decide)) w).2) ?_
  walk_nrm
  refine bs_pure (.bool false) rfl rfl (by decide) (fun _ => by go_simp) (fun _ => by simp [go_sem]) ?_
  walk_nrm
  refine bs_pure (.bool false) rfl rfl (by decide) (fun _ => by go_simp) (fun _ => by simp [go_sem]) ?_
  walk_nrm
  refine bs_pure (.slice none 0 0) rfl rfl (by decide) (fun _ => by go_simp) (fun _ => by simp [go_sem]) ?_
  walk_nrm
  refine bs_pure (.int .i64 0) rfl rfl (by decide) (fun w => (run_len (A := none) (n := 0) (c := 0) Try.underlying28 rfl _ rfl w).1) (fun w => (run_len (A := none) (n := 0) (c := 0) Try.underlying28 rfl _ rfl w).2) ?_
  walk_nrm
  refine bs_pure (.bool false) rfl rfl (by decide) (fun w => (run_bin (p := 0) (q := 0) (v := .bool false) rfl _ rfl rfl (bin_neq (by decide)) w).1) (fun w => (run_bin (p := 0) (q := 0) (v := .bool false) rfl _ rfl rfl (bin_neq (by decide)) w).2) ?_
  walk_nrm
  refine bs_pure (.bool false) rfl rfl (by decide) (fun _ => by go_simp) (fun _ => by simp [go_sem]) ?_
  walk_nrm
  refine Bs.ctl rfl (fun _ => stepG_region_end) ?_
  refine Bs.ctl rfl (fun _ => stepG_cond (t := false) rfl) ?_
  refine Bs.ctl rfl (fun _ => stepG_skip) ?_
  refine Bs.ctl rfl (fun _ => stepG_seq) ?_
  refine Bs.ctl rfl (fun _ => stepG_region) ?_
  simp only [List.size_toArray, List.length_cons, List.length_nil, Nat.reduceAdd, Nat.zero_add, List.range, List.range.loop]
  refine bs_pure (.int .i64 W) rfl rfl (by decide) (fun _ => by go_simp) (fun _ => by simp [go_sem]) ?_
  walk_nrm
  refine bs_call rfl rfl (by decide) rfl Try.func10 (by decide +kernel) rfl (R := fun v Sh' w' => ∃ bl, v = .tuple #[.slice (some ⟨bl, 0, none⟩) (0 : Nat) 0, .int .i64 0] ∧ w5.heap.size ≤ bl ∧ ¬ Sh' bl ∧ w'.heap[bl]? = some (.cells ((List.range 0).map fun i => Value.int .i64 (IntKind.i64.wrap (10 * 0))).toArray 3 (0, 0)) ∧ Aft Sh5 w5 Sh' w') ?_ fun v Sh6 w6 hv => ?_
  · walk_nrm
    exact map_ten (W := W) (zs := fun _ => 0) A5.lt ⟨by decide, fun h => by omega⟩ hW
  obtain ⟨bl, rfl, _, _, _, B6⟩ := hv
  have A6 := A5.trans B6
  walk_nrm
  refine bs_pure (.tuple #[.slice (some ⟨bl, 0, none⟩) 0 0, .int .i64 0]) rfl rfl (by decide) (fun _ => by go_simp) (fun _ => by simp [go_sem]) ?_
  walk_nrm
  refine bs_pure (.slice (some ⟨bl, 0, none⟩) 0 0) rfl rfl (by decide) (fun _ => by go_simp) (fun _ => by simp [go_sem]) ?_
  walk_nrm
  refine bs_pure (.int .i64 0) rfl rfl (by decide) (fun _ => by go_simp) (fun _ => by simp [go_sem]) ?_
  walk_nrm
  refine bs_pure (.slice (some ⟨bl, 0, none⟩) 0 0) rfl rfl (by decide) (fun _ => by go_simp) (fun _ => by simp [go_sem]) ?_
  walk_nrm
  refine bs_pure (.int .i64 0) rfl rfl (by decide) (fun _ => by go_simp) (fun _ => by simp [go_sem]) ?_
  walk_nrm
  refine Bs.ctl rfl (fun _ => stepG_region_end) ?_
  refine Bs.ctl rfl (fun _ => stepG_seq) ?_
  refine Bs.ctl rfl (fun _ => stepG_seq) ?_
  refine Bs.ctl rfl (fun _ => stepG_region) ?_
  simp only [List.size_toArray, List.length_cons, List.length_nil, Nat.reduceAdd, Nat.zero_add, List.range, List.range.loop]
  refine bs_pure (.slice (some ⟨bl, 0, none⟩) 0 0) rfl rfl (by decide) (fun _ => by go_simp) (fun _ => by simp [go_sem]) ?_
  walk_nrm
  refine bs_pure (.int .i64 0) rfl rfl (by decide) (fun w => (run_len (A := some ⟨bl, 0, none⟩) (n := 0) (c := 0) Try.underlying22 rfl _ rfl w).1) (fun w => (run_len (A := some ⟨bl, 0, none⟩) (n := 0) (c := 0) Try.underlying22 rfl _ rfl w).2) ?_
  walk_nrm
  refine bs_pure (.bool false) rfl rfl (by decide) (fun w => (run_bin (p := 0) (q := 0) (v := .bool false) rfl _ rfl rfl (bin_neq (by decide)) w).1) (fun w => (run_bin (p := 0) (q := 0) (v := .bool false) rfl _ rfl rfl (bin_neq (by decide)) w).2) ?_
  walk_nrm
  refine bs_pure (.bool false) rfl rfl (by decide) (fun _ => by go_simp) (fun _ => by simp [go_sem]) ?_
  walk_nrm
  refine bs_pure (.int .i64 0) rfl rfl (by decide) (fun _ => by go_simp) (fun _ => by simp [go_sem]) ?_
  walk_nrm
  refine bs_pure (.bool true) rfl rfl (by decide) (fun w => (run_bin (p := 0) (q := 0) (v := .bool true) rfl _ rfl rfl (bin_eql (by decide)) w).1) (fun w => (run_bin (p := 0) (q := 0) (v := .bool true) rfl _ rfl rfl (bin_eql (by decide)) w).2) ?_
  walk_nrm
  refine bs_pure (.int .i64 W) rfl rfl (by decide) (fun _ => by go_simp) (fun _ => by simp [go_sem]) ?_
  walk_nrm
  refine bs_call rfl rfl (by decide) rfl Try.func14 (by decide +kernel) rfl (R := fun v Sh' w' => Sh' = Sh6 ∧ Aft Sh6 w6 Sh6 w' ∧ ∃ u', Hid (Hof Sh6 w6) u' w' ∧ v = .bool true) ?_ fun v Sh7 w7 hv => ?_
  · walk_nrm
    exact workers_bs hwk A6.lt
  obtain ⟨e7, g7, u7, _, rfl⟩ := hv
  subst e7
  have A7 := A6.trans g7
  walk_nrm
  refine bs_pure (.bool false) rfl rfl (by decide) (fun w => (run_neqBool (p := true) (q := true) (r := false) Try.underlying4 rfl _ rfl rfl rfl w).1) (fun w => (run_neqBool (p := true) (q := true) (r := false) Try.underlying4 rfl _ rfl rfl rfl w).2) ?_
  walk_nrm
  refine bs_pure (.bool false) rfl rfl (by decide) (fun _ => by go_simp) (fun _ => by simp [go_sem]) ?_
  walk_nrm
  refine Bs.ctl rfl (fun _ => stepG_region_end) ?_
  refine Bs.ctl rfl (fun _ => stepG_cond (t := false) rfl) ?_
  refine Bs.ctl rfl (fun _ => stepG_skip) ?_
  refine Bs.ctl rfl (fun _ => stepG_seq) ?_
  refine Bs.ctl rfl (fun _ => stepG_region) ?_
  simp only [List.size_toArray, List.length_cons, List.length_nil, Nat.reduceAdd, Nat.zero_add, List.range, List.range.loop]
  refine bs_call rfl rfl (by decide) rfl Try.func15 (by decide +kernel) rfl (R := fun v Sh' w' => v = .slice none 0 0 ∧ Aft Sh7 w7 Sh' w') ?_ fun v Sh8 w8 hv => ?_
  · walk_nrm
    exact merge_none A7.lt
  obtain ⟨rfl, B8⟩ := hv
  have A8 := A7.trans B8
  walk_nrm
  refine bs_pure (.slice none 0 0) rfl rfl (by decide) (fun _ => by go_simp) (fun _ => by simp [go_sem]) ?_
  walk_nrm
  refine Bs.ctl rfl (fun _ => stepG_region_end) ?_
  refine Bs.ctl rfl (fun _ => stepG_seq) ?_
  refine Bs.ctl rfl (fun _ => stepG_region) ?_
  simp only [List.size_toArray, List.length_cons, List.length_nil, Nat.reduceAdd, Nat.zero_add, List.range, List.range.loop]
  refine bs_pure (.slice none 0 0) rfl rfl (by decide) (fun _ => by go_simp) (fun _ => by simp [go_sem]) ?_
  walk_nrm
  refine bs_pure (.int .i64 0) rfl rfl (by decide) (fun w => (run_len (A := none) (n := 0) (c := 0) Try.underlying22 rfl _ rfl w).1) (fun w => (run_len (A := none) (n := 0) (c := 0) Try.underlying22 rfl _ rfl w).2) ?_
  walk_nrm
  refine bs_pure (.bool true) rfl rfl (by decide) (fun w => (run_bin (p := 0) (q := 0) (v := .bool true) rfl _ rfl rfl (bin_eql (by decide)) w).1) (fun w => (run_bin (p := 0) (q := 0) (v := .bool true) rfl _ rfl rfl (bin_eql (by decide)) w).2) ?_
  walk_nrm
  refine bs_pure (.bool true) rfl rfl (by decide) (fun _ => by go_simp) (fun _ => by simp [go_sem]) ?_
  walk_nrm
  refine Bs.ctl rfl (fun _ => stepG_region_end) ?_
  refine Bs.ctl (a' := G { (base 3).at _ _ with mode := .returning } cs) rfl (fun _ => rfl) ?_
  refine Bs.now fun d => ⟨_, _, rfl, ?_, A8.at d⟩
  exact resultsC_tmp (t := 4) rfl _
set_option maxRecDepth 100000 in
set_option maxHeartbeats 8000000 in
theorem none_bad {W : Int} (hA : ArgI w A l) (hcap : l.length ≤ cap) (hbad : decide (W < 1) = true ∨ decide (W < 1) = false ∧ decide (W > 64) = true) (hwk : PLanesNone.cloisterref06_Workers.f W = some false) : TopB Try.prog 3 Try.f3 #[.slice A l.length cap, .int .i64 W] w (.bool true) := by
  intro cs
  rw [enter_at _ Try.func3 rfl]
  simp only [Try.ntmps3, Try.f3]
  walk_nrm
  have A0 := Aft.refl (Sh := fun _ => False) (w := w) (fun _ h => h.elim)
  refine Bs.ctl rfl (fun _ => stepG_seq) ?_
  refine Bs.ctl rfl (fun _ => stepG_region) ?_
  simp only [List.size_toArray, List.length_cons, List.length_nil, Nat.reduceAdd, Nat.zero_add, List.range, List.range.loop]
  refine bs_pure (.bool false) rfl rfl (by decide) (fun _ => by go_simp) (fun _ => by simp [go_sem]) ?_
  walk_nrm
  refine Bs.ctl rfl (fun _ => stepG_region_end) ?_
  refine Bs.ctl rfl (fun _ => stepG_seq) ?_
  refine Bs.ctl rfl (fun _ => stepG_seq) ?_
  refine Bs.ctl rfl (fun _ => stepG_region) ?_
  simp only [List.size_toArray, List.length_cons, List.length_nil, Nat.reduceAdd, Nat.zero_add, List.range, List.range.loop]
  refine bs_call rfl rfl (by decide) rfl Try.func9 (by decide +kernel) rfl (R := fun v Sh' w' => v = .bool true ∧ Aft (fun _ => False) w Sh' w') ?_ fun v Sh1 w1 hv => ?_
  · walk_nrm
    exact head_bs A0.lt
  obtain ⟨rfl, B1⟩ := hv
  have A1 := A0.trans B1
  walk_nrm
  refine bs_pure (.bool false) rfl rfl (by decide) (fun _ => by go_simp) (fun _ => by simp [go_sem]) ?_
  walk_nrm
  refine Bs.ctl rfl (fun _ => stepG_region_end) ?_
  refine Bs.ctl rfl (fun _ => stepG_cond (t := false) rfl) ?_
  refine Bs.ctl rfl (fun _ => stepG_skip) ?_
  refine Bs.ctl rfl (fun _ => stepG_seq) ?_
  refine Bs.ctl rfl (fun _ => stepG_region) ?_
  simp only [List.size_toArray, List.length_cons, List.length_nil, Nat.reduceAdd, Nat.zero_add, List.range, List.range.loop]
  refine bs_pure (.slice A l.length cap) rfl rfl (by decide) (fun _ => by go_simp) (fun _ => by simp [go_sem]) ?_
  walk_nrm
  refine bs_call rfl rfl (by decide) rfl Try.func11 (by decide +kernel) rfl (R := fun v Sh' w' => Sh' = Sh1 ∧ Aft Sh1 w1 Sh1 w' ∧ ∃ u', Hid (Hof Sh1 w1) u' w' ∧ ∃ B n c, v = .slice B n c) ?_ fun v Sh2 w2 hv => ?_
  · walk_nrm
    exact copied_bs hA hcap A1
  obtain ⟨e2, g2, u2, _, B2, m2, c2, rfl⟩ := hv
  subst e2
  have A2 := A1.trans g2
  walk_nrm
  refine bs_pure (.int .i64 W) rfl rfl (by decide) (fun _ => by go_simp) (fun _ => by simp [go_sem]) ?_
  walk_nrm
  refine bs_call rfl rfl (by decide) rfl Try.func10 (by decide +kernel) rfl (R := fun v Sh' w' => v = .tuple #[.slice none 0 0, .int .i64 2] ∧ Aft Sh2 w2 Sh' w') ?_ fun v Sh3 w3 hv => ?_
  · walk_nrm
    exact map_nil A2.lt
  obtain ⟨rfl, B3⟩ := hv
  have A3 := A2.trans B3
  walk_nrm
  refine bs_pure (.tuple #[.slice none 0 0, .int .i64 2]) rfl rfl (by decide) (fun _ => by go_simp) (fun _ => by simp [go_sem]) ?_
  walk_nrm
  refine bs_pure (.slice none 0 0) rfl rfl (by decide) (fun _ => by go_simp) (fun _ => by simp [go_sem]) ?_
  walk_nrm
  refine bs_pure (.int .i64 2) rfl rfl (by decide) (fun _ => by go_simp) (fun _ => by simp [go_sem]) ?_
  walk_nrm
  refine bs_pure (.slice none 0 0) rfl rfl (by decide) (fun _ => by go_simp) (fun _ => by simp [go_sem]) ?_
  walk_nrm
  refine bs_pure (.int .i64 2) rfl rfl (by decide) (fun _ => by go_simp) (fun _ => by simp [go_sem]) ?_
  walk_nrm
  refine Bs.ctl rfl (fun _ => stepG_region_end) ?_
  refine Bs.ctl rfl (fun _ => stepG_seq) ?_
  refine Bs.ctl rfl (fun _ => stepG_region) ?_
  simp only [List.size_toArray, List.length_cons, List.length_nil, Nat.reduceAdd, Nat.zero_add, List.range, List.range.loop]
  refine bs_pure (.slice A l.length cap) rfl rfl (by decide) (fun _ => by go_simp) (fun _ => by simp [go_sem]) ?_
  walk_nrm
  refine bs_call rfl rfl (by decide) rfl Try.func11 (by decide +kernel) rfl (R := fun v Sh' w' => Sh' = Sh3 ∧ Aft Sh3 w3 Sh3 w' ∧ ∃ u', Hid (Hof Sh3 w3) u' w' ∧ ∃ B n c, v = .slice B n c) ?_ fun v Sh4 w4 hv => ?_
  · walk_nrm
    exact copied_bs hA hcap A3
  obtain ⟨e4, g4, u4, _, B4, m4, c4, rfl⟩ := hv
  subst e4
  have A4 := A3.trans g4
  walk_nrm
  refine bs_pure (.int .i64 W) rfl rfl (by decide) (fun _ => by go_simp) (fun _ => by simp [go_sem]) ?_
  walk_nrm
  refine bs_call rfl rfl (by decide) rfl Try.func12 (by decide +kernel) rfl (R := fun v Sh' w' => v = .tuple #[.slice none 0 0, .int .i64 0, .int .i64 2] ∧ Aft Sh4 w4 Sh' w') ?_ fun v Sh5 w5 hv => ?_
  · walk_nrm
    exact gs_nil A4.lt
  obtain ⟨rfl, B5⟩ := hv
  have A5 := A4.trans B5
  walk_nrm
  refine bs_pure (.tuple #[.slice none 0 0, .int .i64 0, .int .i64 2]) rfl rfl (by decide) (fun _ => by go_simp) (fun _ => by simp [go_sem]) ?_
  walk_nrm
  refine bs_pure (.slice none 0 0) rfl rfl (by decide) (fun _ => by go_simp) (fun _ => by simp [go_sem]) ?_
  walk_nrm
  refine bs_pure (.int .i64 0) rfl rfl (by decide) (fun _ => by go_simp) (fun _ => by simp [go_sem]) ?_
  walk_nrm
  refine bs_pure (.int .i64 2) rfl rfl (by decide) (fun _ => by go_simp) (fun _ => by simp [go_sem]) ?_
  walk_nrm
  refine bs_pure (.slice none 0 0) rfl rfl (by decide) (fun _ => by go_simp) (fun _ => by simp [go_sem]) ?_
  walk_nrm
  refine bs_pure (.int .i64 0) rfl rfl (by decide) (fun _ => by go_simp) (fun _ => by simp [go_sem]) ?_
  walk_nrm
  refine bs_pure (.int .i64 2) rfl rfl (by decide) (fun _ => by go_simp) (fun _ => by simp [go_sem]) ?_
  walk_nrm
  refine Bs.ctl rfl (fun _ => stepG_region_end) ?_
  refine Bs.ctl rfl (fun _ => stepG_seq) ?_
  refine Bs.ctl rfl (fun _ => stepG_seq) ?_
  refine Bs.ctl rfl (fun _ => stepG_region) ?_
  simp only [List.size_toArray, List.length_cons, List.length_nil, Nat.reduceAdd, Nat.zero_add, List.range, List.range.loop]
  refine bs_pure (.int .i64 2) rfl rfl (by decide) (fun _ => by go_simp) (fun _ => by simp [go_sem]) ?_
  walk_nrm
  refine bs_pure (.bool false) rfl rfl (by decide) (fun w => (run_bin (p := 2) (q := 2) (v := .bool false) rfl _ rfl rfl (bin_neq (by decide)) w).1) (fun w => (run_bin (p := 2) (q := 2) (v := .bool false) rfl _ rfl rfl (bin_neq (by decide)) w).2) ?_
  walk_nrm
  refine bs_pure (.bool false) rfl rfl (by decide) (fun _ => by go_simp) (fun _ => by simp [go_sem]) ?_
  walk_nrm
  refine bs_pure (.slice none 0 0) rfl rfl (by decide) (fun _ => by go_simp) (fun _ => by simp [go_sem]) ?_
  walk_nrm
  refine bs_pure (.int .i64 0) rfl rfl (by decide) (fun w => (run_len (A := none) (n := 0) (c := 0) Try.underlying22 rfl _ rfl w).1) (fun w => (run_len (A := none) (n := 0) (c := 0) Try.underlying22 rfl _ rfl w).2) ?_
  walk_nrm
  refine bs_pure (.bool false) rfl rfl (by decide) (fun w => (run_bin (p := 0) (q := 0) (v := .bool false) rfl _ rfl rfl (bin_neq (by decide)) w).1) (fun w => (run_bin (p := 0) (q := 0) (v := .bool false) rfl _ rfl rfl (bin_neq (by decide)) w).2) ?_
  walk_nrm
  refine bs_pure (.bool false) rfl rfl (by decide) (fun _ => by go_simp) (fun _ => by simp [go_sem]) ?_
  walk_nrm
  refine bs_pure (.bool false) rfl rfl (by decide) (fun _ => by go_simp) (fun _ => by simp [go_sem]) ?_
  walk_nrm
  refine bs_pure (.int .i64 2) rfl rfl (by decide) (fun _ => by go_simp) (fun _ => by simp [go_sem]) ?_
  walk_nrm
  refine bs_pure (.bool false) rfl rfl (by decide) (fun w => (run_bin (p := 2) (q := 2) (v := .bool false) rfl _ rfl rfl (bin_neq (by decide)) w).1) (fun w => (run_bin (p := 2) (q := 2) (v := .bool false) rfl _ rfl rfl (bin_neq (by decide)) w).2) ?_
  walk_nrm
  refine bs_pure (.bool false) rfl rfl (by decide) (fun _ => by go_simp) (fun _ => by simp [go_sem]) ?_
  walk_nrm
  refine bs_pure (.bool false) rfl rfl (by decide) (fun _ => by go_simp) (fun _ => by simp [go_sem]) ?_
  walk_nrm
  refine bs_pure (.int .i64 0) rfl rfl (by decide) (fun _ => by go_simp) (fun _ => by simp [go_sem]) ?_
  walk_nrm
  refine bs_pure (.bool false) rfl rfl (by decide) (fun w => (run_bin (p := 0) (q := 0) (v := .bool false) rfl _ rfl rfl (bin_neq (by decide)) w).1) (fun w => (run_bin (p := 0) (q := 0) (v := .bool false) rfl _ rfl rfl (bin_neq (by decide)) w).2) ?_
  walk_nrm
  refine bs_pure (.bool false) rfl rfl (by decide) (fun _ => by go_simp) (fun _ => by simp [go_sem]) ?_
  walk_nrm
  refine bs_pure (.bool false) rfl rfl (by decide) (fun _ => by go_simp) (fun _ => by simp [go_sem]) ?_
  walk_nrm
  refine bs_pure (.slice none 0 0) rfl rfl (by decide) (fun _ => by go_simp) (fun _ => by simp [go_sem]) ?_
  walk_nrm
  refine bs_pure (.int .i64 0) rfl rfl (by decide) (fun w => (run_len (A := none) (n := 0) (c := 0) Try.underlying28 rfl _ rfl w).1) (fun w => (run_len (A := none) (n := 0) (c := 0) Try.underlying28 rfl _ rfl w).2) ?_
  walk_nrm
  refine bs_pure (.bool false) rfl rfl (by decide) (fun w => (run_bin (p := 0) (q := 0) (v := .bool false) rfl _ rfl rfl (bin_neq (by decide)) w).1) (fun w => (run_bin (p := 0) (q := 0) (v := .bool false) rfl _ rfl rfl (bin_neq (by decide)) w).2) ?_
  walk_nrm
  refine bs_pure (.bool false) rfl rfl (by decide) (fun _ => by go_simp) (fun _ => by simp [go_sem]) ?_
  walk_nrm
  refine Bs.ctl rfl (fun _ => stepG_region_end) ?_
  refine Bs.ctl rfl (fun _ => stepG_cond (t := false) rfl) ?_
  refine Bs.ctl rfl (fun _ => stepG_skip) ?_
  refine Bs.ctl rfl (fun _ => stepG_seq) ?_
  refine Bs.ctl rfl (fun _ => stepG_region) ?_
  simp only [List.size_toArray, List.length_cons, List.length_nil, Nat.reduceAdd, Nat.zero_add, List.range, List.range.loop]
  refine bs_pure (.int .i64 W) rfl rfl (by decide) (fun _ => by go_simp) (fun _ => by simp [go_sem]) ?_
  walk_nrm
  refine bs_call rfl rfl (by decide) rfl Try.func10 (by decide +kernel) rfl (R := fun v Sh' w' => v = .tuple #[.slice none 0 0, .int .i64 2] ∧ Aft Sh5 w5 Sh' w') ?_ fun v Sh6 w6 hv => ?_
  · walk_nrm
    exact map_bad A5.lt hbad
  obtain ⟨rfl, B6⟩ := hv
  have A6 := A5.trans B6
  walk_nrm
  refine bs_pure (.tuple #[.slice none 0 0, .int .i64 2]) rfl rfl (by decide) (fun _ => by go_simp) (fun _ => by simp [go_sem]) ?_
  walk_nrm
  refine bs_pure (.slice none 0 0) rfl rfl (by decide) (fun _ => by go_simp) (fun _ => by simp [go_sem]) ?_
  walk_nrm
  refine bs_pure (.int .i64 2) rfl rfl (by decide) (fun _ => by go_simp) (fun _ => by simp [go_sem]) ?_
  walk_nrm
  refine bs_pure (.slice none 0 0) rfl rfl (by decide) (fun _ => by go_simp) (fun _ => by simp [go_sem]) ?_
  walk_nrm
  refine bs_pure (.int .i64 2) rfl rfl (by decide) (fun _ => by go_simp) (fun _ => by simp [go_sem]) ?_
  walk_nrm
  refine Bs.ctl rfl (fun _ => stepG_region_end) ?_
  refine Bs.ctl rfl (fun _ => stepG_seq) ?_
  refine Bs.ctl rfl (fun _ => stepG_seq) ?_
  refine Bs.ctl rfl (fun _ => stepG_region) ?_
  simp only [List.size_toArray, List.length_cons, List.length_nil, Nat.reduceAdd, Nat.zero_add, List.range, List.range.loop]
  refine bs_pure (.slice none 0 0) rfl rfl (by decide) (fun _ => by go_simp) (fun _ => by simp [go_sem]) ?_
  walk_nrm
  refine bs_pure (.int .i64 0) rfl rfl (by decide) (fun w => (run_len (A := none) (n := 0) (c := 0) Try.underlying22 rfl _ rfl w).1) (fun w => (run_len (A := none) (n := 0) (c := 0) Try.underlying22 rfl _ rfl w).2) ?_
  walk_nrm
  refine bs_pure (.bool false) rfl rfl (by decide) (fun w => (run_bin (p := 0) (q := 0) (v := .bool false) rfl _ rfl rfl (bin_neq (by decide)) w).1) (fun w => (run_bin (p := 0) (q := 0) (v := .bool false) rfl _ rfl rfl (bin_neq (by decide)) w).2) ?_
  walk_nrm
  refine bs_pure (.bool false) rfl rfl (by decide) (fun _ => by go_simp) (fun _ => by simp [go_sem]) ?_
  walk_nrm
  refine bs_pure (.int .i64 2) rfl rfl (by decide) (fun _ => by go_simp) (fun _ => by simp [go_sem]) ?_
  walk_nrm
  refine bs_pure (.bool false) rfl rfl (by decide) (fun w => (run_bin (p := 2) (q := 0) (v := .bool false) rfl _ rfl rfl (bin_eql (by decide)) w).1) (fun w => (run_bin (p := 2) (q := 0) (v := .bool false) rfl _ rfl rfl (bin_eql (by decide)) w).2) ?_
  walk_nrm
  refine bs_pure (.int .i64 W) rfl rfl (by decide) (fun _ => by go_simp) (fun _ => by simp [go_sem]) ?_
  walk_nrm
  refine bs_call rfl rfl (by decide) rfl Try.func14 (by decide +kernel) rfl (R := fun v Sh' w' => Sh' = Sh6 ∧ Aft Sh6 w6 Sh6 w' ∧ ∃ u', Hid (Hof Sh6 w6) u' w' ∧ v = .bool false) ?_ fun v Sh7 w7 hv => ?_
  · walk_nrm
    exact workers_bs hwk A6.lt
  obtain ⟨e7, g7, u7, _, rfl⟩ := hv
  subst e7
  have A7 := A6.trans g7
  walk_nrm
  refine bs_pure (.bool false) rfl rfl (by decide) (fun w => (run_neqBool (p := false) (q := false) (r := false) Try.underlying4 rfl _ rfl rfl rfl w).1) (fun w => (run_neqBool (p := false) (q := false) (r := false) Try.underlying4 rfl _ rfl rfl rfl w).2) ?_
  walk_nrm
  refine bs_pure (.bool false) rfl rfl (by decide) (fun _ => by go_simp) (fun _ => by simp [go_sem]) ?_
  walk_nrm
  refine Bs.ctl rfl (fun _ => stepG_region_end) ?_
  refine Bs.ctl rfl (fun _ => stepG_cond (t := false) rfl) ?_
  refine Bs.ctl rfl (fun _ => stepG_skip) ?_
  refine Bs.ctl rfl (fun _ => stepG_seq) ?_
  refine Bs.ctl rfl (fun _ => stepG_region) ?_
  simp only [List.size_toArray, List.length_cons, List.length_nil, Nat.reduceAdd, Nat.zero_add, List.range, List.range.loop]
  refine bs_call rfl rfl (by decide) rfl Try.func15 (by decide +kernel) rfl (R := fun v Sh' w' => v = .slice none 0 0 ∧ Aft Sh7 w7 Sh' w') ?_ fun v Sh8 w8 hv => ?_
  · walk_nrm
    exact merge_none A7.lt
  obtain ⟨rfl, B8⟩ := hv
  have A8 := A7.trans B8
  walk_nrm
  refine bs_pure (.slice none 0 0) rfl rfl (by decide) (fun _ => by go_simp) (fun _ => by simp [go_sem]) ?_
  walk_nrm
  refine Bs.ctl rfl (fun _ => stepG_region_end) ?_
  refine Bs.ctl rfl (fun _ => stepG_seq) ?_
  refine Bs.ctl rfl (fun _ => stepG_region) ?_
  simp only [List.size_toArray, List.length_cons, List.length_nil, Nat.reduceAdd, Nat.zero_add, List.range, List.range.loop]
  refine bs_pure (.slice none 0 0) rfl rfl (by decide) (fun _ => by go_simp) (fun _ => by simp [go_sem]) ?_
  walk_nrm
  refine bs_pure (.int .i64 0) rfl rfl (by decide) (fun w => (run_len (A := none) (n := 0) (c := 0) Try.underlying22 rfl _ rfl w).1) (fun w => (run_len (A := none) (n := 0) (c := 0) Try.underlying22 rfl _ rfl w).2) ?_
  walk_nrm
  refine bs_pure (.bool true) rfl rfl (by decide) (fun w => (run_bin (p := 0) (q := 0) (v := .bool true) rfl _ rfl rfl (bin_eql (by decide)) w).1) (fun w => (run_bin (p := 0) (q := 0) (v := .bool true) rfl _ rfl rfl (bin_eql (by decide)) w).2) ?_
  walk_nrm
  refine bs_pure (.bool true) rfl rfl (by decide) (fun _ => by go_simp) (fun _ => by simp [go_sem]) ?_
  walk_nrm
  refine Bs.ctl rfl (fun _ => stepG_region_end) ?_
  refine Bs.ctl (a' := G { (base 3).at _ _ with mode := .returning } cs) rfl (fun _ => rfl) ?_
  refine Bs.now fun d => ⟨_, _, rfl, ?_, A8.at d⟩
  exact resultsC_tmp (t := 4) rfl _
theorem none_bs {W : Int} (hA : ArgI w A l) (hcap : l.length ≤ cap) : TopB Try.prog 3 Try.f3 #[.slice A l.length cap, .int .i64 W] w (.bool true) := by
  by_cases h1 : W < 1
  · exact none_bad hA hcap (.inl (decide_eq_true h1)) (by unfold PLanesNone.cloisterref06_Workers.f; rw [if_neg (by omega)])
  · by_cases h2 : W > 64
    · exact none_bad hA hcap (.inr ⟨decide_eq_false h1, decide_eq_true h2⟩) (by unfold PLanesNone.cloisterref06_Workers.f; rw [if_pos (by omega), decide_eq_false (by omega)])
    · obtain ⟨k, rfl⟩ : ∃ k : Nat, W = k := ⟨W.toNat, by omega⟩
      exact none_ok hA hcap ⟨by omega, by omega⟩ (by unfold PLanesNone.cloisterref06_Workers.f; rw [if_pos (by omega), decide_eq_true (by omega)])
end
end Go.Proofs.Ytmkjoojoaldljaa.Tm
namespace Go.Proofs.Ytmkjoojoaldljaa
open Go.ChangeShapes Go.WideShapes Go.ChangeAt Go.RowKit Go.Conc Go.Proofs.Ytmkjoojoaldljaa.Tm
theorem lnOwn : ownKnob Try.prog.godebug = none := by kernel_rfl
theorem lnLaidOut : laidOutB Try.prog = true := by kernel_rfl
theorem lnCells3 : Try.prog.cellsOf 3 = 1 := by kernel_rfl
theorem lnBytes3 : Try.prog.bytesOf 3 = 8 := by kernel_rfl
set_option maxRecDepth 100000 in
theorem lanesNone_lifted (os : Os) (started : os.Started) (H : Type) (enc : TypeId × Value → H) :
    ReturnsInLeavingWide {} Try.checked os 3 .any (Rows.lanesNoneSpec.pre6 enc Try.prog Try.f3 Rows.lanesNoneRow.domain false) (Rows.lanesNoneSpec.post enc Try.prog Try.f3 false true false false) := by
  refine returnsInLeavingWide_of_change_sized (C := Try.checked) lnOwn started Try.func3
    (ChangeSpec.witness6 (enc := enc) (C := Try.checked) false ⟨#[], #[.slice none 0 0, .int .i64 0], []⟩ 8 (by kernel_rfl) (by kernel_rfl) (by kernel_rfl) (by kernel_rfl)) ?_
  intro W base args ds gs before hval0 hW _ hsz0 _
  have hsz : (DataW.weightsEach Try.prog (Try.f3.params.toList ++ Rows.lanesNoneSpec.plain.varTypes Try.prog) (ds ++ gs)).all (· ≤ reachBytes) = true := hsz0
  clear hsz0
  have hval : ∀ (j : Nat) t v, Try.f3.params[j]? = some t → args[j]? = some v → Value.okWide Try.prog W .any base t v := hval0
  have hW' := hW
  obtain ⟨p, q, hA0, hV, rfl, _, _⟩ := hW
  have hA : DataW.TrodAll enc Try.prog W 0 (fun _ => true) true Try.f3.params.toList args.toList ds p := hA0
  rw [Try.params3] at hA hval hsz
  obtain ⟨v0, v1, d0, d1, p0, p1, rfl, rfl, rfl, h0, h1⟩ := trodAll_two hA
  obtain ⟨rfl, rfl⟩ := trodVars_none hV
  obtain ⟨a0, len, cap, rfl⟩ := okWide_slice Try.underlying22 (hval 0 22 v0 rfl rfl)
  obtain ⟨x, rfl, rfl, rfl, wx⟩ := open_int Try.underlying3 (hval 1 3 v1 rfl rfl) h1
  have h0k := h0
  obtain ⟨fuel, hf⟩ := h0
  clear hA0 hval0
  simp only [List.append_nil] at hW'
  have hlt : ∀ y ∈ p0, y.block < W.heap.size := fun y hy => by
    have := hW'.lt y (by simpa using hy)
    simpa using this
  have hargs : ∀ (W' : World), Below W.heap.size W W' → DataW.Trod enc Try.prog W' 0 (fun b => decide (b < W.heap.size)) true 22 (.slice a0 len cap) d0 p0 :=
    fun W' hn => Below.trod lnLaidOut (by kernel_rfl) (of_decide_eq_true (by kernel_rfl)) h0k hn hlt
  have close : ∀ (l : List Int), l.length = len → len ≤ cap → ArgI W a0 l →
      ∃ M last o w' t', runNT Try.checked.prog (M + 1) (solo (G (Frame.enter Try.checked.prog 3 #[.slice a0 len cap, .int .i64 x] .normal) []) W) #[] = (.ended o w', t') ∧
        runN Try.checked.prog M (solo (G (Frame.enter Try.checked.prog 3 #[.slice a0 len cap, .int .i64 x] .normal) []) W) = .next last ∧ step Try.checked.prog last = .ended o w' ∧
        Conc.Good Try.checked.prog (fun v W' => Rows.lanesNoneSpec.post enc Try.checked.prog Try.f3 false true false false W #[.slice a0 len cap, .int .i64 x] v W') last o w' t' := by
    intro l hl hcap hI
    subst hl
    obtain ⟨M, last, o, w', t', e1, e2, e3, e4⟩ := (none_bs (W := x) hI hcap).run Try.func3 (by kernel_rfl)
    refine ⟨M, last, o, w', t', e1, e2, e3, e4.mono fun v hv => ?_⟩
    obtain ⟨rfl, hB⟩ := hv
    refine ⟨_, _, _, [], p0 ++ [], [], hW', ?_, ?_, rfl, hB.frame _, fun h => by cases h⟩
    · exact trodAll_mk1 (shut_bool Try.underlying4 true)
    · exact trodAll_mk2 (hargs _ hB) (shut_int Try.underlying3 wx)
  rcases open_ints Try.underlying22 Try.underlying3 lnCells3 hf with ⟨hcs, hx⟩ | ⟨a, len', cap', zs, hcs, _, hl, hm, hz, hx, hcell, hwz⟩
  · simp [Value.cells] at hcs
    obtain ⟨rfl, rfl, rfl⟩ := hcs
    exact close [] rfl (Nat.le_refl _) ⟨by simp, fun h => by simp at h⟩
  · simp [Value.cells] at hcs
    obtain ⟨rfl, rfl, rfl⟩ := hcs
    simp only [Prod.mk.injEq] at hx
    obtain ⟨rfl, rfl⟩ := hx
    simp only [if_true] at hz
    have hreach : len * 8 ≤ 140737488351232 := by
      have := sized_slice hsz (j := 0) (t := 22) (e := 3) rfl rfl Try.underlying22
      rw [lnBytes3] at this
      simp only [lits, List.length_map, List.length_take, List.length_drop, reachBytes] at this
      omega
    have hlen : (zs.take len).length = len := by rw [List.length_take]; omega
    refine close (zs.take len) hlen hl ⟨by rw [hlen]; exact hreach, fun _ => ⟨a, rfl, fun i hi => ?_⟩⟩
    rw [hlen] at hi
    rw [hcell i (by omega), List.getElem_take, List.getD_eq_getElem?_getD, List.getElem?_eq_getElem (by omega)]
    rfl
theorem lanesNone_holds : Rows.LanesNoneSaid :=
  OpenClaim.holds_of_wide_leaving 3 Try.f3 rfl rfl rfl rfl rfl rfl rfl ⟨rfl, rfl, rfl, rfl, rfl⟩ rfl rfl rfl rfl rfl (by kernel_rfl) Try.func3 (by kernel_rfl)
    (of_decide_eq_true (by kernel_rfl)) (by unfold Func.isWrapper; first | (rw [if_pos (by decide +kernel)]; kernel_rfl) | (rw [if_neg (by decide +kernel)]; exact ⟨rfl, rfl⟩))
    (fun os started H enc _ => lanesNone_lifted os started H enc)
end Go.Proofs.Ytmkjoojoaldljaa
