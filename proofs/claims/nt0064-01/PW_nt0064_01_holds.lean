import PyProof.Rows.All
import Wide.All
import OpenK.AllK
import Wide.FinOn
import Lean
import PySem.Challenge.RW_nt0064_01
open PySem PySem.W PySem.Calls PyProof.Rows
set_option Elab.async false
section
set_option maxRecDepth 1000000
set_option maxHeartbeats 0
namespace Mine
/-! ## the top, run upon a tree -/
def topT (den : Code → Sem Fin) (p : Program) (w : World) (n₀ : Nat) (ann : Option Value) : Nat → SharedT → Thread → Option SharedT
  | 0, _, _ => none
  | n + 1, s, t => match through t with
    | true => some s
    | false => match stepOk n₀ ann t with
      | false => none
      | true => match stepT den p w s t with
        | some (s', t') => topT den p w n₀ ann n s' t'
        | none => none
theorem topT_spec {tb : String → Option Builtin} {p : Program} {w : World} {n₀ : Nat} {ann : Option Value} : ∀ {n : Nat} {s r : SharedT} {t : Thread}, topT (denote tb) p w n₀ ann n s t = some r → topRun tb p w n₀ ann n s.abs t = some r.abs
  | 0, _, _, _, h => by cases h
  | n + 1, s, r, t, h => by
    unfold topT at h
    unfold topRun
    cases h1 : through t with
    | true =>
      rw [h1] at h
      cases h
      rfl
    | false =>
      rw [h1] at h
      cases h2 : stepOk n₀ ann t with
      | false => rw [h2] at h; cases h
      | true =>
        rw [h2] at h
        cases h3 : stepT (denote tb) p w s t with
        | none => simp only [h3] at h; cases h
        | some x =>
          obtain ⟨s', t'⟩ := x
          simp only [h3] at h
          have e := stepT_spec h3
          simp only [e]
          exact topT_spec h
def mkT : List Obj → Nat → BT → Option BT
  | [], _, t => some t
  | o :: r, n, t => match ((t.ins n o).get n).isSome with
    | true => mkT r (n + 1) (t.ins n o)
    | false => none
theorem mkT_spec {life : Life} : ∀ {l : List Obj} {n : Nat} {t t' : BT}, mkT l n t = some t' → (absHeap t' (n + l.length) life) = ⟨((absHeap t n life).objs.toList ++ l).toArray, life⟩
  | [], n, t, t', h => by
    cases h
    simp [absHeap]
  | o :: r, n, t, t', h => by
    unfold mkT at h
    cases g : ((t.ins n o).get n).isSome with
    | false => rw [g] at h; cases h
    | true =>
      rw [g] at h
      have e := absHeap_ins (life := life) g
      have k := mkT_spec (life := life) h
      rw [List.length_cons, show n + (r.length + 1) = n + 1 + r.length by omega, k, e]
      show Heap.mk (((absHeap t n life).objs.push o).toList ++ r).toArray life = _
      simp
def toT (s : Shared) : Option SharedT := (mkT s.heap.objs.toList 0 .nil).map fun t => ⟨t, s.heap.objs.toList.length, s.heap.life, s.gens, s.drawn, s.toks, s.os⟩
theorem toT_spec {s : Shared} {r : SharedT} (h : toT s = some r) : r.abs = s := by
  obtain ⟨t, ht, rfl⟩ := Option.map_eq_some_iff.mp h
  have := mkT_spec (life := s.heap.life) ht
  rw [Nat.zero_add] at this
  unfold SharedT.abs
  dsimp only
  rw [this]
  obtain ⟨⟨objs, life⟩, g, d, k, o⟩ := s
  simp [absHeap, BT.list]
end Mine
end
section
set_option maxRecDepth 1000000
set_option maxHeartbeats 0
namespace Mine
noncomputable def topF (p : Program) (w : World) (n₀ : Nat) (ann : Option Value) : Nat → SharedT → Thread → Option SharedT
  | 0, _, _ => none
  | n + 1, s, t => match through t with
    | true => some s
    | false => match PySem.W.Fast.tw6613529449190102663 n₀ ann t with
      | false => none
      | true => match PySem.W.Fast.tw10156331382660048174 (PySem.W.Fast.tw11892475500146522536 PySem.W.Fast.tw14364793385576792824) p w s t with
        | some (s', t') => topF p w n₀ ann n s' t'
        | none => none
theorem topF_eq {p : Program} {w : World} {n₀ : Nat} {ann : Option Value} : ∀ (n : Nat) (s : SharedT) (t : Thread), topF p w n₀ ann n s t = topT (denote treeTable) p w n₀ ann n s t
  | 0, _, _ => rfl
  | n + 1, s, t => by
    unfold topF topT
    rw [← PySem.W.Fast.te6613529449190102663, ← PySem.W.Fast.te10156331382660048174, ← PySem.W.Fast.te11892475500146522536, ← PySem.W.Fast.te14364793385576792824]
    simp only [topF_eq n]
    all_goals rfl
noncomputable def openF (p : Program) (w : World) (N : Nat) : Option Shared :=
  ((PySem.W.Fast.tw10274390034422433532 PySem.W.Fast.tw14364793385576792824 (opening p) w N (PySem.W.Fast.tw1435165496053646825 (opening p)).1 (PySem.W.Fast.tw1435165496053646825 (opening p)).2).bind (PySem.W.Fast.tw14289696077712309145 p))
theorem openF_eq (p : Program) (w : World) (N : Nat) : openF p w N = fencedOpening treeTable p w N := by
  unfold openF
  rw [← PySem.W.Fast.te10274390034422433532, ← PySem.W.Fast.te14289696077712309145, ← PySem.W.Fast.te14364793385576792824, ← PySem.W.Fast.te1435165496053646825]
  rfl
noncomputable def endsF (p : Program) (w : World) (N : Nat) : Option Shared := (openF p w N).bind fun s₀ => match s₀.heap.isNs mainGlobals && s₀.gens.size == 0 with
  | true => (toT s₀).bind fun x => (topF p w s₀.heap.objs.size (s₀.heap.nsMap mainGlobals "__annotations__") N x (topStub p)).bind fun y => match staticsOk (importedModules p.main.body) s₀.heap y.abs.heap && namesBound p y.abs.heap && gensDone y.abs && laidKept s₀.heap y.abs.heap with
      | true => some y.abs
      | false => none
  | false => none
theorem endsF_spec {p : Program} {w : World} {N : Nat} {α : Type} {f : Shared → α} {v : α} (h : (endsF p w N).map f = some v) : (openEnds treeTable p w N).map f = some v := by
  obtain ⟨s, hs, rfl⟩ := Option.map_eq_some_iff.mp h
  have : openEnds treeTable p w N = some s := by
    unfold endsF at hs
    rw [openF_eq] at hs
    obtain ⟨s₀, h0, h1⟩ := Option.bind_eq_some_iff.mp hs
    unfold openEnds
    rw [h0]
    show topFrom treeTable p w N s₀ = some s
    unfold topFrom
    cases g : (s₀.heap.isNs mainGlobals && s₀.gens.size == 0) with
    | false => rw [g] at h1; cases h1
    | true =>
      rw [g] at h1
      obtain ⟨x, hx, h2⟩ := Option.bind_eq_some_iff.mp h1
      obtain ⟨y, hy, h3⟩ := Option.bind_eq_some_iff.mp h2
      rw [topF_eq] at hy
      have e := topT_spec hy
      rw [toT_spec hx] at e
      rw [e]
      exact h3
  rw [this]; rfl
end Mine
end
section
set_option genInjectivity false
set_option genSizeOf false
namespace Mine
/-! ## heaps -/
def Le (g g' : Heap) : Prop := ∀ b o, g.get? b = some o → g'.get? b = some o
theorem Le.refl (g : Heap) : Le g g := fun _ _ e => e
theorem Le.trans {g g' g'' : Heap} (x : Le g g') (y : Le g' g'') : Le g g'' := fun b o e => y b o (x b o e)

def only (h : Heap) (p : Addr → Bool) : Heap := ⟨h.objs.mapIdx fun i o => if p i then o else { cls := .none, data := .freed }, h.life⟩
theorem only_get (h : Heap) (p : Addr → Bool) (b : Addr) : (only h p).get? b = if p b then h.get? b else none := by
  unfold only Heap.get?
  simp only [Array.getElem?_mapIdx]
  cases hb : h.objs[b]? with
  | none => simp
  | some o =>
    simp only [Option.map_some]
    cases p b with
    | true => simp
    | false => simp

structure Cs where
  s₀ : Shared
  g₀ : Heap
  wr : List Addr

/-- the state of a frame: s₀, g₀ the call's start; g what stands; own what may be turned; lm what is known of the locals -/
structure St (c : Cs) (L : Addr) (g : Heap) (own : List (Addr × Obj)) (lm : List (Str × Value)) (s : Shared) : Prop where
  nx : ∃ h t, s = { c.s₀ with heap := h, toks := t }
  keep : Le g s.heap
  ns : ∃ m, s.heap.Ns L m ∧ ∀ x v, lm.lookup x = some v → m x = some v
  ow : ∀ p ∈ own, s.heap.get? p.1 = some p.2
  nodup : (L :: own.map (·.1)).Nodup
  off : ∀ a ∈ L :: own.map (·.1), g.get? a = none
  le₀ : Le c.g₀ g
  fk : ∀ b o, c.s₀.heap.get? b = some o → b ∉ c.wr → s.heap.get? b = some o
  fr : ∀ b o, g.get? b = some o → c.g₀.get? b = some o ∨ c.s₀.heap.get? b = none
  mw : ∀ a ∈ L :: own.map (·.1), a ∈ c.wr ∨ c.s₀.heap.get? a = none
  wo : ∀ b ∈ c.wr, b ∈ own.map (·.1)

/-- what a call leaves behind -/
structure Aft (s : Shared) (g : Heap) (wr : List Addr) (g' : Heap) (own' : List (Addr × Obj)) (s' : Shared) : Prop where
  nx : ∃ h t, s' = { s with heap := h, toks := t }
  keep : Le g' s'.heap
  le : Le g g'
  ow : ∀ p ∈ own', s'.heap.get? p.1 = some p.2
  nodup : (own'.map (·.1)).Nodup
  off : ∀ a ∈ own'.map (·.1), g'.get? a = none
  fk : ∀ b o, s.heap.get? b = some o → b ∉ wr → s'.heap.get? b = some o
  fr : ∀ b o, g'.get? b = some o → g.get? b = some o ∨ s.heap.get? b = none
  mw : ∀ a ∈ own'.map (·.1), a ∈ wr ∨ s.heap.get? a = none
  wo : ∀ b ∈ wr, b ∈ own'.map (·.1)

section
variable {c : Cs} {L : Addr} {g : Heap} {own : List (Addr × Obj)} {lm : List (Str × Value)} {s : Shared}

theorem lt_of_get {h : Heap} {a : Addr} {o : Obj} (e : h.get? a = some o) : a < h.objs.size := Heap.lt_size e
theorem none_at_size (h : Heap) {a : Addr} (ha : h.objs.size ≤ a) : h.get? a = none := by
  cases e : h.get? a with
  | none => rfl
  | some o => exact absurd (Heap.lt_size e) (Nat.not_lt.mpr ha)
theorem St.getL (S : St c L g own lm s) : ∃ o, s.heap.get? L = some o := by
  obtain ⟨m, ⟨o, _, _, ho, _⟩, _⟩ := S.ns
  exact ⟨o, ho⟩
theorem nx_upd {s₀ s : Shared} (h : ∃ h t, s = { s₀ with heap := h, toks := t }) (h' : Heap) (t' : Nat) : ∃ h t, ({ s with heap := h', toks := t' } : Shared) = { s₀ with heap := h, toks := t } := by
  obtain ⟨_, _, rfl⟩ := h
  exact ⟨h', t', rfl⟩
theorem nx_trans {s₀ s s' : Shared} (h : ∃ h t, s = { s₀ with heap := h, toks := t }) (h' : ∃ h t, s' = { s with heap := h, toks := t }) : ∃ h t, s' = { s₀ with heap := h, toks := t } := by
  obtain ⟨_, _, rfl⟩ := h
  obtain ⟨_, _, rfl⟩ := h'
  exact ⟨_, _, rfl⟩

/-- any step that turns no object of the frame's -/
theorem St.ext (S : St c L g own lm s) {h' : Heap} {t' : Nat} (hs : ∀ b o, (b ∈ L :: own.map (·.1) ∨ (∃ o, g.get? b = some o) ∨ (b ∉ c.wr ∧ ∃ o, c.s₀.heap.get? b = some o)) → s.heap.get? b = some o → h'.get? b = some o) :
    St c L g own lm { s with heap := h', toks := t' } where
  nx := nx_upd S.nx _ _
  keep := fun b o e => hs b o (.inr (.inl ⟨o, e⟩)) (S.keep b o e)
  ns := by
    obtain ⟨m, ⟨o, a1, a2, ho, r⟩, hm⟩ := S.ns
    exact ⟨m, ⟨o, a1, a2, hs _ _ (.inl (.head _)) ho, r⟩, hm⟩
  ow := fun p hp => hs _ _ (.inl (.tail _ (List.mem_map_of_mem hp))) (S.ow p hp)
  nodup := S.nodup
  off := S.off
  le₀ := S.le₀
  fk := fun b o e n => hs b o (.inr (.inr ⟨n, ⟨o, e⟩⟩)) (S.fk b o e n)
  fr := S.fr
  mw := S.mw
  wo := S.wo
theorem St.le (S : St c L g own lm s) {h' : Heap} {t' : Nat} (hs : Le s.heap h') : St c L g own lm { s with heap := h', toks := t' } := S.ext fun b o _ e => hs b o e
theorem St.tok (S : St c L g own lm s) {t' : Nat} : St c L g own lm { s with toks := t' } := S.le (h' := s.heap) (Le.refl _)

/-- the locals: a name is stored -/
theorem St.store (S : St c L g own lm s) {x : Str} {v : Value} {h' : Heap} {t' : Nat} (hn : ∀ m, s.heap.Ns L m → h'.Ns L (fun y => if y = x then some v else m y)) (hs : Heap.SameBut L s.heap h') :
    St c L g own ((x, v) :: lm) { s with heap := h', toks := t' } where
  nx := nx_upd S.nx _ _
  keep := fun b o e => (hs.2 b (fun q => by rw [q, S.off L (.head _)] at e; cases e)).trans (S.keep b o e)
  ns := by
    obtain ⟨m, hns, hm⟩ := S.ns
    refine ⟨_, hn m hns, fun y u e => ?_⟩
    rw [List.lookup_cons] at e
    by_cases hy : y = x
    · subst hy
      simp only [beq_self_eq_true] at e
      simp only [if_true, e]
    · rw [if_neg hy]
      rw [beq_eq_false_iff_ne.mpr hy] at e
      exact hm y u e
  ow := fun p hp => (hs.2 _ (fun q => (List.nodup_cons.mp S.nodup).1 (q ▸ List.mem_map_of_mem hp))).trans (S.ow p hp)
  nodup := S.nodup
  off := S.off
  le₀ := S.le₀
  fk := fun b o e n => (hs.2 b (fun q => by
    rcases S.mw L (.head _) with h | h
    · exact n (q ▸ h)
    · rw [q, h] at e; cases e)).trans (S.fk b o e n)
  fr := S.fr
  mw := S.mw
  wo := S.wo

/-- less is known of the locals -/
theorem St.vars (S : St c L g own lm s) (lm' : List (Str × Value)) (h : ∀ p ∈ lm', lm.lookup p.1 = some p.2) : St c L g own lm' s :=
  { S with
    ns := by
      obtain ⟨m, hns, hm⟩ := S.ns
      refine ⟨m, hns, fun x v e => hm x v ?_⟩
      obtain ⟨k, hk⟩ : ∃ k, (k, v) ∈ lm' ∧ x = k := by
        clear h hm
        induction lm' with
        | nil => cases e
        | cons p r ih =>
          rw [List.lookup_cons] at e
          by_cases hx : x = p.1
          · rw [hx] at e; simp only [beq_self_eq_true] at e; exact ⟨p.1, by rw [← Option.some.inj e]; exact .head _, hx⟩
          · rw [beq_eq_false_iff_ne.mpr hx] at e
            obtain ⟨k, hk, hkx⟩ := ih e
            exact ⟨k, .tail _ hk, hkx⟩
      rw [hk.2]
      exact h _ hk.1 }

/-- an object of one's own is turned -/
theorem St.turn (S : St c L g own lm s) {pre post : List (Addr × Obj)} {a : Addr} {o o' : Obj} (hown : own = pre ++ (a, o) :: post) {h' : Heap} {t' : Nat} (ho : h'.get? a = some o') (hs : Heap.ExtBut a s.heap h') :
    St c L g (pre ++ (a, o') :: post) lm { s with heap := h', toks := t' } := by
  subst hown
  have haL : a ≠ L := fun q => (List.nodup_cons.mp S.nodup).1 (by rw [← q]; simp)
  have hag : g.get? a = none := S.off a (by simp)
  have hnd := (List.nodup_cons.mp S.nodup).2
  rw [List.map_append, List.map_cons] at hnd
  have em : L :: (pre ++ (a, o') :: post).map (·.1) = L :: (pre ++ (a, o) :: post).map (·.1) := by simp
  exact {
    nx := nx_upd S.nx _ _
    keep := fun b o e => hs b o (fun q => by rw [q, hag] at e; cases e) (S.keep b o e)
    ns := by
      obtain ⟨m, ⟨oL, a1, a2, hoL, r⟩, hm⟩ := S.ns
      exact ⟨m, ⟨oL, a1, a2, hs _ _ (Ne.symm haL) hoL, r⟩, hm⟩
    ow := fun p hp => by
      have nd := hnd
      rw [List.nodup_append] at nd
      obtain ⟨n1, n2, n3⟩ := nd
      rcases List.mem_append.mp hp with h | h
      · exact hs _ _ (fun q => n3 p.1 (List.mem_map_of_mem h) a (.head _) q) (S.ow p (List.mem_append_left _ h))
      · rcases List.mem_cons.mp h with rfl | h
        · exact ho
        · exact hs _ _ (fun q => (List.nodup_cons.mp n2).1 (q ▸ List.mem_map_of_mem (f := (·.1)) h)) (S.ow p (List.mem_append_right _ (.tail _ h)))
    nodup := by rw [em]; exact S.nodup
    off := by rw [em]; exact S.off
    le₀ := S.le₀
    fk := fun b o e n => hs b o (fun q => by
      rcases S.mw a (by simp) with h | h
      · exact n (q ▸ h)
      · rw [q, h] at e; cases e) (S.fk b o e n)
    fr := S.fr
    mw := by rw [em]; exact S.mw
    wo := fun b hb => by
      have := S.wo b hb
      simpa using this }

/-- a new object -/
theorem St.new (S : St c L g own lm s) {a : Addr} {o : Obj} {h' : Heap} {t' : Nat} (hs : Le s.heap h') (ha : s.heap.get? a = none) (ho : h'.get? a = some o) (hw : a ∉ c.wr) :
    St c L g ((a, o) :: own) lm { s with heap := h', toks := t' } := by
  have hL : a ≠ L := fun q => by obtain ⟨oL, h⟩ := S.getL; rw [← q, ha] at h; cases h
  have hn : a ∉ own.map (·.1) := fun q => by
    obtain ⟨p, hp, rfl⟩ := List.mem_map.mp q
    have := S.ow p hp
    rw [ha] at this; cases this
  have hg : g.get? a = none := by
    cases e : g.get? a with
    | none => rfl
    | some o' => have := S.keep a o' e; rw [ha] at this; cases this
  have h0 : c.s₀.heap.get? a = none := by
    cases e : c.s₀.heap.get? a with
    | none => rfl
    | some o' => have := S.fk a o' e hw; rw [ha] at this; cases this
  have S1 : St c L g own lm { s with heap := h', toks := t' } := S.le hs
  exact { S1 with
    ow := fun p hp => by
      rcases List.mem_cons.mp hp with rfl | h
      · exact ho
      · exact S1.ow p h
    nodup := by
      rw [List.map_cons, List.nodup_cons]
      have := List.nodup_cons.mp S.nodup
      exact ⟨fun h => by
        rcases List.mem_cons.mp h with h | h
        · exact hL h.symm
        · exact this.1 h, List.nodup_cons.mpr ⟨hn, this.2⟩⟩
    off := fun b hb => by
      rcases List.mem_cons.mp hb with h | h
      · exact S.off b (h ▸ .head _)
      · rw [List.map_cons] at h
        rcases List.mem_cons.mp h with h | h
        · exact h ▸ hg
        · exact S.off b (.tail _ h)
    mw := fun b hb => by
      rcases List.mem_cons.mp hb with h | h
      · exact S.mw b (h ▸ .head _)
      · rw [List.map_cons] at h
        rcases List.mem_cons.mp h with h | h
        · exact .inr (h ▸ h0)
        · exact S.mw b (.tail _ h)
    wo := fun b hb => List.mem_cons_of_mem _ (S.wo b hb) }

/-- fewer objects are one's own -/
theorem St.drop (S : St c L g own lm s) {own' : List (Addr × Obj)} (h : own'.Sublist own) (hw : ∀ b ∈ c.wr, b ∈ own'.map (·.1)) : St c L g own' lm s :=
  { S with
    ow := fun p hp => S.ow p (h.subset hp)
    nodup := ((h.map (·.1)).cons_cons L).nodup S.nodup
    off := fun a ha => S.off a (((h.map (·.1)).cons_cons L).subset ha)
    mw := fun a ha => S.mw a (((h.map (·.1)).cons_cons L).subset ha)
    wo := hw }
theorem St.perm (S : St c L g own lm s) {own' : List (Addr × Obj)} (h : own'.Perm own) : St c L g own' lm s :=
  { S with
    ow := fun p hp => S.ow p (h.mem_iff.mp hp)
    nodup := ((h.map (·.1)).cons L).nodup_iff.mpr S.nodup
    off := fun a ha => S.off a (((h.map (·.1)).cons L).mem_iff.mp ha)
    mw := fun a ha => S.mw a (((h.map (·.1)).cons L).mem_iff.mp ha)
    wo := fun b hb => (h.map (·.1)).mem_iff.mpr (S.wo b hb) }

/-- all that is not one's own stands from here on -/
theorem St.up (S : St c L g own lm s) : ∃ g', Le g g' ∧ St c L g' own lm s ∧ ∀ b o, s.heap.get? b = some o → b ∉ L :: own.map (·.1) → c.s₀.heap.get? b = none → g'.get? b = some o := by
  classical
  let p : Addr → Bool := fun b => !(L :: own.map (·.1)).contains b && ((g.get? b).isSome || (c.s₀.heap.get? b).isNone)
  have hp : ∀ b, p b = true ↔ b ∉ L :: own.map (·.1) ∧ ((∃ o, g.get? b = some o) ∨ c.s₀.heap.get? b = none) := fun b => by
    simp only [p, Bool.and_eq_true, Bool.not_eq_true', List.contains_iff_mem, Bool.or_eq_true, Option.isSome_iff_exists, Option.isNone_iff_eq_none, ← Bool.not_eq_true]
  have get : ∀ b o, (only s.heap p).get? b = some o → p b = true ∧ s.heap.get? b = some o := fun b o e => by
    rw [only_get] at e
    cases h : p b with
    | true => rw [h] at e; exact ⟨rfl, e⟩
    | false => rw [h] at e; cases e
  have le : Le g (only s.heap p) := fun b o e => by
    have hb : b ∉ L :: own.map (·.1) := fun hb => by
      rw [S.off b hb] at e
      cases e
    rw [only_get, if_pos ((hp b).mpr ⟨hb, .inl ⟨o, e⟩⟩)]
    exact S.keep b o e
  refine ⟨only s.heap p, le, { S with
    keep := fun b o e => (get b o e).2
    off := fun a ha => by
      cases e : (only s.heap p).get? a with
      | none => rfl
      | some o => exact absurd ha ((hp a).mp (get a o e).1).1
    le₀ := S.le₀.trans le
    fr := fun b o e => by
      obtain ⟨h1, h2⟩ := get b o e
      rcases ((hp b).mp h1).2 with ⟨o', h⟩ | h
      · have : o' = o := Option.some.inj ((S.keep b o' h).symm.trans h2)
        exact S.fr b o (this ▸ h)
      · exact .inr h }, fun b o e h1 h2 => ?_⟩
  rw [only_get, if_pos ((hp b).mpr ⟨h1, .inr h2⟩)]
  exact e

/-- one object of one's own stands from here on -/
theorem St.freeze (S : St c L g own lm s) {pre post : List (Addr × Obj)} {a : Addr} {o : Obj} (hown : own = pre ++ (a, o) :: post) (hw : a ∉ c.wr) : ∃ g', Le g g' ∧ St c L g' (pre ++ post) lm s ∧ g'.get? a = some o := by
  subst hown
  have sub : (pre ++ post).Sublist (pre ++ (a, o) :: post) := List.Sublist.append_left (List.sublist_cons_self _ _) _
  have hwo : ∀ b ∈ c.wr, b ∈ (pre ++ post).map (·.1) := fun b hb => by
    have := S.wo b hb
    simp only [List.map_append, List.map_cons, List.mem_append, List.mem_cons] at this ⊢
    rcases this with h | h | h
    · exact .inl h
    · exact absurd (h ▸ hb) hw
    · exact .inr h
  obtain ⟨g', le, S', hg⟩ := (S.drop sub hwo).up
  refine ⟨g', le, S', hg a o (S.ow (a, o) (by simp)) ?_ ((S.mw a (by simp)).resolve_left hw)⟩
  have nd := S.nodup
  intro h
  rcases List.mem_cons.mp h with h | h
  · exact (List.nodup_cons.mp nd).1 (by rw [← h]; simp)
  · have nd2 := (List.nodup_cons.mp nd).2
    rw [List.map_append, List.map_cons] at nd2
    have := (List.perm_middle.nodup_iff.mp nd2)
    rw [List.map_append] at h
    exact (List.nodup_cons.mp this).1 h

/-- the call's end -/
theorem St.aft {s₀ : Shared} {g₀ : Heap} {wr : List Addr} (S : St ⟨s₀, g₀, wr⟩ L g own lm s) : Aft s₀ g₀ wr g own s where
  nx := S.nx
  keep := S.keep
  le := S.le₀
  ow := S.ow
  nodup := (List.nodup_cons.mp S.nodup).2
  off := fun a ha => S.off a (.tail _ ha)
  fk := S.fk
  fr := S.fr
  mw := fun a ha => S.mw a (.tail _ ha)
  wo := S.wo

/-- behind a call that turned the objects ownc -/
theorem St.back {ownc rest own' : List (Addr × Obj)} {g' : Heap} {s' : Shared} (S : St c L g (ownc ++ rest) lm s) (A : Aft s g (ownc.map (·.1)) g' own' s') : St c L g' (own' ++ rest) lm s' := by
  have ndL := (List.nodup_cons.mp S.nodup).1
  have nd := (List.nodup_cons.mp S.nodup).2
  rw [List.map_append, List.nodup_append] at nd
  obtain ⟨n1, n2, n3⟩ := nd
  rw [List.map_append, List.mem_append] at ndL
  have hL : ∃ o, s.heap.get? L = some o := S.getL
  have kr : ∀ p ∈ rest, s'.heap.get? p.1 = some p.2 := fun p hp => A.fk _ _ (S.ow p (List.mem_append_right _ hp)) fun q => n3 _ q _ (List.mem_map_of_mem hp) rfl
  have offold : ∀ a, (∃ o, s.heap.get? a = some o) → g.get? a = none → g'.get? a = none := fun a ⟨o, ho⟩ hg => by
    cases e : g'.get? a with
    | none => rfl
    | some o' =>
      rcases A.fr a o' e with h | h
      · rw [hg] at h; cases h
      · rw [ho] at h; cases h
  have own'off : ∀ a ∈ own'.map (·.1), a ≠ L ∧ a ∉ rest.map (·.1) := fun a ha => by
    rcases A.mw a ha with h | h
    · exact ⟨fun q => ndL (.inl (q ▸ h)), fun q => n3 a h a q rfl⟩
    · refine ⟨fun q => ?_, fun q => ?_⟩
      · obtain ⟨o, ho⟩ := hL; rw [← q, h] at ho; cases ho
      · obtain ⟨p, hp, rfl⟩ := List.mem_map.mp q
        have := S.ow p (List.mem_append_right _ hp)
        rw [h] at this; cases this
  exact {
    nx := nx_trans S.nx A.nx
    keep := A.keep
    ns := by
      obtain ⟨m, ⟨o, a1, a2, ho, r⟩, hm⟩ := S.ns
      exact ⟨m, ⟨o, a1, a2, A.fk _ _ ho fun q => ndL (.inl q), r⟩, hm⟩
    ow := fun p hp => (List.mem_append.mp hp).elim (A.ow p) (kr p)
    nodup := by
      rw [List.map_append, List.nodup_cons, List.nodup_append, List.mem_append]
      refine ⟨fun h => h.elim (fun h => (own'off L h).1 rfl) fun h => ndL (.inr h), A.nodup, n2, fun a ha b hb q => (own'off a ha).2 (q ▸ hb)⟩
    off := fun a ha => by
      rcases List.mem_cons.mp ha with h | h
      · exact offold a (h ▸ hL) (S.off a (h ▸ .head _))
      · rw [List.map_append] at h
        rcases List.mem_append.mp h with h | h
        · exact A.off a h
        · obtain ⟨p, hp, rfl⟩ := List.mem_map.mp h
          exact offold _ ⟨_, S.ow p (List.mem_append_right _ hp)⟩ (S.off _ (.tail _ (List.mem_map_of_mem (List.mem_append_right _ hp))))
    le₀ := S.le₀.trans A.le
    fk := fun b o e n => A.fk b o (S.fk b o e n) fun q => by
      rcases S.mw b (.tail _ (by rw [List.map_append]; exact List.mem_append_left _ q)) with h | h
      · exact n h
      · rw [e] at h; cases h
    fr := fun b o e => by
      rcases A.fr b o e with h | h
      · exact S.fr b o h
      · by_cases hw : b ∈ c.wr
        · cases e0 : c.s₀.heap.get? b with
          | none => exact .inr rfl
          | some o0 =>
            obtain ⟨p, hp, hpb⟩ := List.mem_map.mp (S.wo b hw)
            have := S.ow p hp
            rw [hpb, h] at this; cases this
        · cases e0 : c.s₀.heap.get? b with
          | none => exact .inr rfl
          | some o0 => have := S.fk b o0 e0 hw; rw [h] at this; cases this
    mw := fun a ha => by
      rcases List.mem_cons.mp ha with h | h
      · exact S.mw a (h ▸ .head _)
      · rw [List.map_append] at h
        rcases List.mem_append.mp h with h | h
        · rcases A.mw a h with h | h
          · exact S.mw a (.tail _ (by rw [List.map_append]; exact List.mem_append_left _ h))
          · by_cases hw : a ∈ c.wr
            · exact .inl hw
            · cases e0 : c.s₀.heap.get? a with
              | none => exact .inr rfl
              | some o0 => have := S.fk a o0 e0 hw; rw [h] at this; cases this
        · exact S.mw a (.tail _ (by rw [List.map_append]; exact List.mem_append_right _ h))
    wo := fun b hb => by
      have := S.wo b hb
      rw [List.map_append] at this ⊢
      rcases List.mem_append.mp this with h | h
      · exact List.mem_append_left _ (A.wo b h)
      · exact List.mem_append_right _ h }
end
end Mine
end
section
set_option genInjectivity false
set_option genSizeOf false
namespace Mine
abbrev Nev : Value → Shared → Prop := fun _ _ => False

/-! ## the world's facts -/
structure Gl (K : Frag) (g : Heap) : Prop where
  kin : K.In g
  nolim : g.NoLimit
  gns : ∃ mg, g.Ns mainGlobals mg
  bns : ∃ mb, g.Ns builtinsNs mb ∧ ∀ x : Str, x ≠ "__name__" → mb x = bootBuiltins x
theorem Gl.up {K : Frag} {g g' : Heap} (G : Gl K g) (h : Le g g') : Gl K g' where
  kin := fun a o e => h a o (G.kin a o e)
  nolim := Heap.NoLimit.keeps G.nolim h
  gns := let ⟨mg, x⟩ := G.gns; ⟨mg, x.keeps h⟩
  bns := let ⟨mb, x, y⟩ := G.bns; ⟨mb, x.keeps h, y⟩

/-- room on the stacks -/
structure Rm (A : Around) (n : Nat) : Prop where
  d : A.depth + n < recursionLimit
  u : A.units + 8 * n < cLine
  h : A.handled = none
theorem Rm.le {A : Around} {n m : Nat} (R : Rm A n) (h : m ≤ n) : Rm A m := ⟨by have := R.d; omega, by have := R.u; omega, R.h⟩
theorem Rm.deeper {A : Around} {n : Nat} (R : Rm A (n + 1)) (env : Env) : Rm (A.deeper env) n := ⟨by have := R.d; show A.depth + 1 + n < _; omega, by have := R.u; show A.units + 3 + 8 * n < _; omega, R.h⟩
theorem Rm.in1 {A : Around} {n : Nat} (R : Rm A (n + 1)) : Rm A.in1 n := ⟨by have := R.d; show A.depth + n < _; omega, by have := R.u; show A.units + 1 + 8 * n < _; omega, R.h⟩

def FnIs (K : Frag) (f : Addr) (name qual : Str) (params : Arguments) (body : List Stmt) (scope : Scope) (dV : Value) : Prop :=
  ∃ oc od osl kV doc pm an cdv ct, K.lookup f = some ⟨oc, od, .func (fnOf name qual params body scope dV kV doc pm an cdv ct), osl⟩ ∧ codeIn K cdv qual = true

def AllP {α : Type} (p : α → Prop) : List α → Prop
  | [] => True
  | a :: r => p a ∧ AllP p r
theorem AllP.all {α : Type} {p : α → Prop} : ∀ {l : List α}, AllP p l → ∀ a ∈ l, p a
  | _ :: _, ⟨h, _⟩, _, .head _ => h
  | _ :: _, ⟨_, h⟩, _, .tail _ m => h.all _ m
inductive Zip2 {α β : Type} (F : α → β → Prop) : List α → List β → Prop
  | nil : Zip2 F [] []
  | cons {a b l₁ l₂} : F a b → Zip2 F l₁ l₂ → Zip2 F (a :: l₁) (b :: l₂)

abbrev fe (scope : Scope) (L f : Addr) (qual : Str) (cdv : Value) : Env := newEnv scope L mainGlobals (cellsFrom (L + 1) scope.names []) (qual ++ ".<locals>.") (some f) cdv none builtinsNs

section
variable {prog : Program} {w : World} {A : Around} {s : Shared} {K : Frag} {g : Heap} {own : List (Addr × Obj)}

theorem cells_zip {h : Heap} {cm : Str → Option Value} : ∀ {cl : List (Str × Addr)}, (∀ p ∈ cl, h.IsCell p.2 (cm p.1)) → ∃ cs : List (Addr × Obj), Zip2 (fun nc co => co.1 = nc.2 ∧ co.2.data = .cell (cm nc.1)) cl cs ∧ cs.map (·.1) = cl.map (·.2) ∧ ∀ p ∈ cs, h.get? p.1 = some p.2
  | [], _ => ⟨[], .nil, rfl, fun _ h => nomatch h⟩
  | p :: r, h => by
    obtain ⟨cs, z, e, k⟩ := cells_zip (cl := r) fun q hq => h q (.tail _ hq)
    obtain ⟨o, ho, hd⟩ := h p (.head _)
    refine ⟨(p.2, o) :: cs, .cons ⟨rfl, hd⟩ z, by simp [e], fun q hq => ?_⟩
    rcases List.mem_cons.mp hq with rfl | hq
    · exact ho
    · exact k q hq

theorem enter {R : Result → Shared → Prop} {f : Addr} {name qual : Str} {params : Arguments} {body : List Stmt} {scope : Scope} {dV : Value} {args : List Value} (binds lm : List (Str × Value))
    (hf : FnIs K f name qual params body scope dV) (G : Gl K g) (hg : Le g s.heap) (hA : A.depth < recursionLimit)
    (how : ∀ p ∈ own, s.heap.get? p.1 = some p.2) (hnd : (own.map (·.1)).Nodup) (hoff : ∀ a ∈ own.map (·.1), g.get? a = none)
    (hbind : ∀ kV doc pm an cdv ct, BindsTo s (fnOf name qual params body scope dV kV doc pm an cdv ct) ⟨args, []⟩ binds)
    (hcn : ((cellsFrom 0 scope.names []).map (·.1)).Nodup) (hkind : KindsOk scope (s.heap.objs.size + 1) binds)
    (hm : AllP (fun p => bindL (fun x => scope.names.lookup x) binds (fun _ => none) p.1 = some p.2) lm)
    (h : ∀ L cdv cs s₁, Zip2 (fun nc co => co.1 = nc.2 ∧ co.2.data = .cell (bindC (fun x => scope.names.lookup x) binds (fun _ => none) nc.1)) (cellsFrom (L + 1) scope.names []) cs →
      let e := fe scope L f qual cdv; let a := A.deeper e; let c : Cs := ⟨s, g, own.map (·.1)⟩; let l := lm; St c L g (cs ++ own) l s₁ →
      ∀ Q : Flow → Shared → Prop, (∀ v s', R (.ok (.ret v)) s' → Q (.ret v) s') → (∀ s', R (.ok (.ret .none)) s' → Q .next s') → wpAny (model prog w) a (execs body e) Q Nev s₁)
    (hco : scope.isCoroutine = false) (hgen : scope.isGenerator = false) (hk : scope.kind = .function) :
    codeAny (model prog w) A (.call (.ref f) ⟨args, []⟩) R s := by
  obtain ⟨oc, od, osl, kV, doc, pm, an, cdv, ct, ho, hcd⟩ := hf
  have kin : K.In s.heap := fun a o e => hg a o (G.kin a o e)
  have hlim : s.heap.NoLimit := G.nolim.keeps hg
  refine codeAny_call_function hA (kin _ _ ho) rfl hco hgen rfl (codeRec_of kin hcd) (hbind _ _ _ _ _ _ _ _ _ _ ?_)
  refine wpAny_newFunctionEnv_cells hk (kinds_of hkind) fun env he s' x => ?_
  subst he
  refine ⟨hlim.keeps x.toInCall.keep, codeAny_func (wpAny_mono (?_ : wpAny (model prog w) (A.deeper (fe scope s.heap.objs.size f qual cdv)) (execs body (fe scope s.heap.objs.size f qual cdv)) (fun fl s' => R (.ok (.ret (match fl with | .ret v => v | _ => .none))) s') Nev s') (fun _ _ q => q) fun _ _ e => e.elim)⟩
  have hnm : ((cellsFrom (s.heap.objs.size + 1) scope.names []).map (·.1)).Nodup := by
    rw [cellsFrom_names scope.names (s.heap.objs.size + 1) 0 [] [] rfl]
    exact hcn
  have hcell : ∀ p ∈ cellsFrom (s.heap.objs.size + 1) scope.names [], s'.heap.IsCell p.2 (bindC (fun x => scope.names.lookup x) binds (fun _ => none) p.1) := fun p hp =>
    x.cell p.1 p.2 (lookup_of_mem_nodup hnm hp)
  obtain ⟨cs, hz, hcs, hk'⟩ := cells_zip hcell
  refine h s.heap.objs.size cdv cs s' hz ?_ _ (fun _ _ h => h) fun _ h => (h : R _ _)
  have hab : ∀ a ∈ cs.map (·.1), s.heap.objs.size < a := fun a ha => by
    rw [hcs] at ha
    obtain ⟨p, hp, rfl⟩ := List.mem_map.mp ha
    exact x.above p.1 p.2 hp
  have hol : ∀ a ∈ own.map (·.1), a < s.heap.objs.size := fun a ha => by
    obtain ⟨p, hp, rfl⟩ := List.mem_map.mp ha
    exact Heap.lt_size (how p hp)
  have goff : ∀ a, s.heap.objs.size ≤ a → g.get? a = none := fun a ha => by
    cases e : g.get? a with
    | none => rfl
    | some o => exact absurd (Heap.lt_size (hg a o e)) (Nat.not_lt.mpr ha)
  have hap : (cs.map (·.1)).Nodup := by
    rw [hcs]
    have := x.apart
    rw [List.Nodup, List.pairwise_map]
    exact this
  exact {
    nx := x.toInCall.same
    keep := fun b o e => x.toInCall.keep b o (hg b o e)
    ns := ⟨_, x.toInCall.ns, fun y v e => by
      have key : ∀ (l : List (Str × Value)), AllP (fun p => bindL (fun x => scope.names.lookup x) binds (fun _ => none) p.1 = some p.2) l → l.lookup y = some v → bindL (fun x => scope.names.lookup x) binds (fun _ => none) y = some v := by
        intro l
        induction l with
        | nil => intro _ e; cases e
        | cons p r ih =>
          intro hp e
          rw [List.lookup_cons] at e
          by_cases hy : y = p.1
          · rw [hy] at e ⊢
            simp only [beq_self_eq_true] at e
            rw [← Option.some.inj e]
            exact hp.1
          · rw [beq_eq_false_iff_ne.mpr hy] at e
            exact ih hp.2 e
      exact key lm hm e⟩
    ow := fun p hp => (List.mem_append.mp hp).elim (hk' p) fun h => x.toInCall.keep _ _ (how p h)
    nodup := by
      rw [List.nodup_cons, List.map_append, List.nodup_append, List.mem_append]
      refine ⟨fun h => h.elim (fun h => absurd (hab _ h) (Nat.lt_irrefl _)) fun h => absurd (hol _ h) (Nat.lt_irrefl _), hap, hnd, fun a ha b hb q => ?_⟩
      have h1 := hab a ha
      have h2 := hol b hb
      subst q
      exact absurd (Nat.lt_trans h1 h2) (Nat.lt_irrefl _)
    off := fun a ha => by
      rcases List.mem_cons.mp ha with h | h
      · exact goff a (h ▸ Nat.le_refl _)
      · rw [List.map_append] at h
        rcases List.mem_append.mp h with h | h
        · exact goff a (Nat.le_of_lt (hab a h))
        · exact hoff a h
    le₀ := Le.refl g
    fk := fun b o e _ => x.toInCall.keep b o e
    fr := fun b o e => .inl e
    mw := fun a ha => by
      rcases List.mem_cons.mp ha with h | h
      · exact .inr (none_at_size _ (h ▸ Nat.le_refl _))
      · rw [List.map_append] at h
        rcases List.mem_append.mp h with h | h
        · exact .inr (none_at_size _ (Nat.le_of_lt (hab a h)))
        · exact .inl h
    wo := fun b hb => by rw [List.map_append]; exact List.mem_append_right _ hb }
end
end Mine
end
section
namespace Mine
section
variable {prog : Program} {w : World} {A : Around} {E : Value → Shared → Prop} {s : Shared} {K : Frag} {c : Cs} {L : Addr} {g : Heap} {own : List (Addr × Obj)} {lm : List (Str × Value)} {env : Env}
variable {x : Str} {pos : Pos} {v : Value}

theorem n_loc {Q : Value → Shared → Prop} (S : St c L g own lm s) (hv : lm.lookup x = some v) (hx : env.kindOf x = some .local) (hL : env.locals = L) (h : Q v s) (hk : env.scope.kind = .function := by rfl)
    (hd : (x == ("__debug__" : Str)) = false := by decide) : wpAny (model prog w) A (eval (.Name x pos) env) Q E s := by
  obtain ⟨m, hns, hm⟩ := S.ns
  exact wpAny_Name (wpAny_loadName_local hk hx (by rw [hL]; exact hns) (hm x v hv) h) hd
theorem n_glb {Q : Value → Shared → Prop} (S : St c L g own lm s) (G : Gl K g) (e : nsIn K mainGlobals x = some (some v)) (hx : env.kindOf x = some .globalImplicit) (h : Q v s) (hg : env.globals = mainGlobals := by rfl) (hk : env.scope.kind = .function := by rfl)
    (hd : (x == ("__debug__" : Str)) = false := by decide) : wpAny (model prog w) A (eval (.Name x pos) env) Q E s := by
  obtain ⟨mg, hn⟩ := G.gns
  exact Name_function_global hk hx (loadGlobal_global (by rw [hg]; exact hn.keeps S.keep) (mg_of G.kin hn e) h) hd
theorem n_bi {Q : Value → Shared → Prop} (S : St c L g own lm s) (G : Gl K g) (e : nsIn K mainGlobals x = some none) (hb : bootBuiltins x = some v) (hn : x ≠ "__name__") (hx : env.kindOf x = some .globalImplicit) (h : Q v s)
    (hg : env.globals = mainGlobals := by rfl) (hbn : env.builtins = builtinsNs := by rfl) (hk : env.scope.kind = .function := by rfl)
    (hd : (x == ("__debug__" : Str)) = false := by decide) : wpAny (model prog w) A (eval (.Name x pos) env) Q E s := by
  obtain ⟨mg, hm⟩ := G.gns
  obtain ⟨mb, hmb, hbb⟩ := G.bns
  exact Name_function_global hk hx (loadGlobal_builtin (by rw [hg]; exact hm.keeps S.keep) (mg_none_of G.kin hm e) (by rw [hbn]; exact hmb.keeps S.keep) ((hbb x hn).trans hb) h) hd
theorem n_cell {Q : Value → Shared → Prop} {k : Addr} {o : Obj} (S : St c L g own lm s) (hc : env.cells.lookup x = some k) (hm : (k, o) ∈ own) (hd : o.data = .cell (some v)) (hx : env.kindOf x = some .cell) (h : Q v s) (hk : env.scope.kind = .function := by rfl)
    (hdb : (x == ("__debug__" : Str)) = false := by decide) : wpAny (model prog w) A (eval (.Name x pos) env) Q E s :=
  wpAny_Name (wpAny_loadName_cell hk hx hc ⟨o, S.ow _ hm, hd⟩ h) hdb
theorem n_cellG {Q : Value → Shared → Prop} {k : Addr} (S : St c L g own lm s) (hc : env.cells.lookup x = some k) (hm : g.IsCell k (some v)) (hx : env.kindOf x = some .cell) (h : Q v s) (hk : env.scope.kind = .function := by rfl)
    (hdb : (x == ("__debug__" : Str)) = false := by decide) : wpAny (model prog w) A (eval (.Name x pos) env) Q E s :=
  wpAny_Name (wpAny_loadName_cell hk hx hc (hm.keeps S.keep) h) hdb
theorem n_freeG {Q : Value → Shared → Prop} {k : Addr} (S : St c L g own lm s) (hc : env.cells.lookup x = some k) (hm : g.IsCell k (some v)) (hx : env.kindOf x = some .free) (h : Q v s) (hk : env.scope.kind = .function := by rfl)
    (hdb : (x == ("__debug__" : Str)) = false := by decide) (hn : (x == ("__classdict__" : Str)) = false := by decide) : wpAny (model prog w) A (eval (.Name x pos) env) Q E s :=
  wpAny_Name (wpAny_loadName_free hk hx hc (hm.keeps S.keep) h hn) hdb
theorem s_loc {Q : Unit → Shared → Prop} (S : St c L g own lm s) (hx : env.kindOf x = some .local) (hL : env.locals = L) (h : ∀ s', St c L g own ((x, v) :: lm) s' → Q () s') (hk : env.scope.kind = .function := by rfl) :
    wpAny (model prog w) A (storeName env x v) Q E s := by
  subst hL
  obtain ⟨m, hns, hm⟩ := S.ns
  refine wpAny_storeName_local hx hns (fun h' hn hs => h _ ?_) (by rw [hk]; rfl)
  have S' : St c env.locals g own ((x, v) :: lm) { s with heap := h', toks := s.toks + 1 } := by
    have := S.store (x := x) (v := v) (h' := h') (t' := s.toks + 1) (fun m' hm' => ?_) hs
    · exact this
    · obtain ⟨o, es, ep, ho, hd, hk1, hf⟩ := hn
      refine ⟨o, es, ep, ho, hd, hk1, ?_⟩
      obtain ⟨o1, es1, ep1, ho1, hd1, hk2, hf1⟩ := hns
      obtain ⟨o2, es2, ep2, ho2, hd2, hk3, hf2⟩ := hm'
      rw [ho1] at ho2
      cases ho2
      rw [hd1] at hd2
      cases hd2
      intro y
      have : m = m' := by funext z; rw [← hf1 z, ← hf2 z]
      rw [← this]
      exact hf y
  exact S'
theorem s_locL {Q : Unit → Shared → Prop} (S : St c L g own lm s) (hx : env.kindOf x = some .local) (hL : env.locals = L) (h : let l := (x, v) :: lm; ∀ s', St c L g own l s' → Q () s') (hk : env.scope.kind = .function := by rfl) :
    wpAny (model prog w) A (storeName env x v) Q E s := s_loc S hx hL h hk
theorem St.letl {p : Prop} (S : St c L g own lm s) (h : let l := lm; St c L g own l s → p) : p := h S
end
end Mine
end
section
namespace Mine
section
variable {prog : Program} {w : World} {A : Around} {s : Shared} {c : Cs} {L : Addr} {g : Heap} {own : List (Addr × Obj)} {lm : List (Str × Value)} {env : Env}

theorem noted_of {α : Type} {M : Model} {A : Around} {t : Sem α} {Q : α → Shared → Prop} {E' : Value → Shared → Prop} {s : Shared} (h : wpAny M A t Q Nev s) : wpAny M A t Q E' s := wpAny_mono h (fun _ _ q => q) fun _ _ e => e.elim

theorem whileR {test : Expr} {body : List Stmt} {pos : Pos} {Q : Flow → Shared → Prop} (J : Nat → Heap → List (Addr × Obj) → List (Str × Value) → Prop) (n : Nat) (S : St c L g own lm s) {lm₁ : List (Str × Value)} (h0 : J n g own lm₁) (hv : AllP (fun p => lm.lookup p.1 = some p.2) lm₁)
    (turn : ∀ n g own lm s, St c L g own lm s → J n g own lm → wpAny (model prog w) A (isTrue test env (eval test env)) (fun b s₂ =>
        if b then wpAny (model prog w) A (execs body env) (fun f s₃ => match f with
            | .next | .cont => ∃ m g' own' lm', m < n ∧ St c L g' own' lm' s₃ ∧ J m g' own' lm'
            | .brk => Q .next s₃
            | .ret v => Q (.ret v) s₃) Nev s₂
        else Q .next s₂) Nev s) : wpAny (model prog w) A (exec (.While test body [] pos) env) Q Nev s := by
  refine wpAny_While (codeAny_whileLoop (fun n s => ∃ g own lm, St c L g own lm s ∧ J n g own lm) (fun n s hI => ?_) n ⟨g, own, lm₁, S.vars lm₁ hv.all, h0⟩)
  obtain ⟨g, own, lm, S, hJ⟩ := hI
  refine noted_of (wpAny_mono (turn n g own lm s S hJ) (fun b s₂ h₂ => ?_) fun _ _ e => e)
  cases b with
  | false =>
    simp only [Bool.false_eq_true, if_false] at h₂ ⊢
    exact wpAny_execs_nil h₂
  | true =>
    simp only [if_true] at h₂ ⊢
    refine noted_of (wpAny_mono h₂ (fun f s₃ h₃ => ?_) fun _ _ e => e)
    cases f with
    | next => obtain ⟨m, g', own', lm', hm, S', hJ'⟩ := h₃; exact ⟨m, hm, g', own', lm', S', hJ'⟩
    | cont => obtain ⟨m, g', own', lm', hm, S', hJ'⟩ := h₃; exact ⟨m, hm, g', own', lm', S', hJ'⟩
    | brk => exact h₃
    | ret v => exact h₃
end

/-! the text's statements -/
def tops : List Stmt := PySem.Challenge.pw_nt0064_01.main.body
def topAt (i : Nat) : Stmt := tops.getD i (.Pass default)
def FnS (K : Frag) (f : Addr) (pre : Str) (dV : Value) : Stmt → Prop
  | .FunctionDef name args body _ _ _ scope _ _ _ => FnIs K f name (pre ++ name) args body scope dV
  | _ => False
def inClass (i : Nat) : Stmt → Stmt
  | .ClassDef _ _ _ body _ _ _ _ _ _ _ => body.getD i (.Pass default)
  | s => s
end Mine
namespace Mine
theorem turnEnd {c : Cs} {L : Addr} {g : Heap} {own : List (Addr × Obj)} {lm lm' : List (Str × Value)} {s : Shared} {J : Nat → Heap → List (Addr × Obj) → List (Str × Value) → Prop} {n : Nat} (m : Nat) (S : St c L g own lm s) (hJ : J m g own lm') (hv : AllP (fun p => lm.lookup p.1 = some p.2) lm') (hm : m < n) :
    ∃ m g' own' lm', m < n ∧ St c L g' own' lm' s ∧ J m g' own' lm' := ⟨m, g, own, lm', hm, S.vars lm' hv.all, hJ⟩
end Mine
end
section
set_option genInjectivity false
set_option genSizeOf false
namespace Mine
section
variable {prog : Program} {w : World} {A : Around} {E : Value → Shared → Prop} {s : Shared} {K : Frag} {c : Cs} {L : Addr} {g : Heap} {own : List (Addr × Obj)} {lm : List (Str × Value)} {env : Env}

theorem ite_t {p q : Prop} (h : p) : if (true : Bool) = true then p else q := h
theorem ite_f {p q : Prop} (h : q) : if (false : Bool) = true then p else q := h
theorem ite_d {P p q : Prop} [Decidable P] (h1 : P → p) (h2 : ¬P → q) : if decide P = true then p else q := by
  by_cases h : P
  · rw [if_pos (decide_eq_true h)]; exact h1 h
  · rw [if_neg (by rw [decide_eq_false h]; exact Bool.false_ne_true)]; exact h2 h
theorem ite_nd {P p q : Prop} [Decidable P] (h1 : ¬P → p) (h2 : P → q) : if (!decide P) = true then p else q := by
  by_cases h : P
  · rw [if_neg (by rw [decide_eq_true h]; exact Bool.false_ne_true)]; exact h2 h
  · rw [if_pos (by rw [decide_eq_false h]; rfl)]; exact h1 h
theorem ite_eq {α : Type} [DecidableEq α] {a b : α} {p q : Prop} (h1 : a = b → p) (h2 : a ≠ b → q) : if (a == b) = true then p else q := by
  by_cases h : a = b
  · rw [if_pos (beq_iff_eq.mpr h)]; exact h1 h
  · rw [if_neg (by rw [beq_eq_false_iff_ne.mpr h]; exact Bool.false_ne_true)]; exact h2 h
theorem ite_ne {α : Type} [DecidableEq α] {a b : α} {p q : Prop} (h1 : a ≠ b → p) (h2 : a = b → q) : if (a != b) = true then p else q := by
  by_cases h : a = b
  · rw [if_neg (by rw [h]; simp)]; exact h2 h
  · rw [if_pos (by simpa using h)]; exact h1 h
theorem ite_b {b : Bool} {p q : Prop} (h1 : b = true → p) (h2 : b = false → q) : if b = true then p else q := by
  cases b
  · exact h2 rfl
  · exact h1 rfl

theorem k_int {i : Int} {k : Nat} {pos : Pos} {Q : Value → Shared → Prop} (S : St c L g own lm s) (h : ∀ t s', St c L g own lm s' → Q (.int i t) s') : wpAny (model prog w) A (eval (.Constant (.int i) k pos) env) Q E s :=
  wpAny_Constant_int (h _ _ S.tok)
theorem k_str {i : Str} {k : Nat} {pos : Pos} {Q : Value → Shared → Prop} (S : St c L g own lm s) (h : ∀ t s', St c L g own lm s' → Q (.str i t) s') : wpAny (model prog w) A (eval (.Constant (.str i) k pos) env) Q E s :=
  wpAny_Constant_str (h _ _ S.tok)
section
variable {a b : Int} {t u : Tok} {Q : Value → Shared → Prop}
theorem o_add (S : St c L g own lm s) (h : ∀ t s', St c L g own lm s' → Q (.int (a + b) t) s') : wpAny (model prog w) A (binaryOp .Add (.int a t) (.int b u)) Q E s := PyProof.Rows.add_int (h _ _ S.tok)
theorem o_sub (S : St c L g own lm s) (h : ∀ t s', St c L g own lm s' → Q (.int (a - b) t) s') : wpAny (model prog w) A (binaryOp .Sub (.int a t) (.int b u)) Q E s := PyProof.Rows.sub_int (h _ _ S.tok)
theorem o_mul (S : St c L g own lm s) (hm : IntMulOk a b) (h : ∀ t s', St c L g own lm s' → Q (.int (a * b) t) s') : wpAny (model prog w) A (binaryOp .Mult (.int a t) (.int b u)) Q E s := PyProof.Rows.mul_int (h _ _ S.tok) hm
theorem o_mod (S : St c L g own lm s) (hb : b ≠ 0) (h : ∀ t s', St c L g own lm s' → Q (.int (a.fmod b) t) s') : wpAny (model prog w) A (binaryOp .Mod (.int a t) (.int b u)) Q E s := PyProof.Rows.mod_int hb (h _ _ S.tok)
theorem o_div (S : St c L g own lm s) (hb : 0 < b ∧ b < 1000000000) (h : ∀ t s', St c L g own lm s' → Q (.int (a.fdiv b) t) s') : wpAny (model prog w) A (binaryOp .FloorDiv (.int a t) (.int b u)) Q E s := PyProof.Rows.floordiv_int (by omega) (h _ _ S.tok) (.inl (PyProof.noPylong_small (by omega)))
theorem c_lt (h : Q (.bool (decide (a < b))) s) : wpAny (model prog w) A (compareOp .Lt (.int a t) (.int b u)) Q E s := PyProof.Rows.lt_int h
theorem c_gt (h : Q (.bool (decide (b < a))) s) : wpAny (model prog w) A (compareOp .Gt (.int a t) (.int b u)) Q E s := PyProof.Rows.gt_int h
theorem c_le (h : Q (.bool (decide (a ≤ b))) s) : wpAny (model prog w) A (compareOp .LtE (.int a t) (.int b u)) Q E s := PyProof.Rows.le_int h
theorem c_ge (h : Q (.bool (decide (b ≤ a))) s) : wpAny (model prog w) A (compareOp .GtE (.int a t) (.int b u)) Q E s := PyProof.Rows.ge_int h
theorem c_eq (h : Q (.bool (a == b)) s) : wpAny (model prog w) A (compareOp .Eq (.int a t) (.int b u)) Q E s := PyProof.Rows.eq_int h
theorem c_ne (h : Q (.bool (a != b)) s) : wpAny (model prog w) A (compareOp .NotEq (.int a t) (.int b u)) Q E s := PyProof.Rows.ne_int h
theorem c_seq {x y : Str} (h : Q (.bool (x == y)) s) : wpAny (model prog w) A (compareOp .Eq (.str x t) (.str y u)) Q E s := PyProof.Rows.eq_str h
theorem c_sne {x y : Str} (h : Q (.bool (x != y)) s) : wpAny (model prog w) A (compareOp .NotEq (.str x t) (.str y u)) Q E s := PyProof.Rows.ne_str h
end

/-- a built-in function by its name -/
theorem call_bi {x : Str} {id : String} {p pos : Pos} {e : Expr} {rest : List Expr} {Q : Value → Shared → Prop} (S : St c L g own lm s) (G : Gl K g) (hn : nsIn K mainGlobals x = some none) (hb : bootBuiltins x = some (.builtin id)) (hx : env.kindOf x = some .globalImplicit)
    (h : wpAny (model prog w) A (spliced (backTo pos (starEach (e :: rest) env))) (fun vs s₁ => wpAny (model prog w) A (call (.builtin id) vs) Q E s₁) E s)
    (hne : x ≠ "__name__" := by decide) (he : starEach (e :: rest) env = (false, eval e env) :: starEach rest env := by rfl) (hplain : (backTo pos (starEach (e :: rest) env)).any (·.1) = false := by rfl)
    (hg : env.globals = mainGlobals := by rfl) (hbn : env.builtins = builtinsNs := by rfl) (hk : env.scope.kind = .function := by rfl) (hd : (x == ("__debug__" : Str)) = false := by decide) :
    wpAny (model prog w) A (eval (.Call (.Name x p) (e :: rest) [] pos) env) Q E s := by
  refine wpAny_Call_NameR (n_bi S G hn hb hne hx ?_ hg hbn hk hd)
  refine callWith_builtin hplain ?_
  rw [he] at h ⊢
  exact evalArgs_plain (wpAny_mono h (fun vs s₁ q => q) fun _ _ e => e)
theorem call_ty {x : Str} {id : String} {p pos : Pos} {e : Expr} {rest : List Expr} {Q : Value → Shared → Prop} (S : St c L g own lm s) (G : Gl K g) (hn : nsIn K mainGlobals x = some none) (hb : bootBuiltins x = some (.type id)) (hx : env.kindOf x = some .globalImplicit)
    (h : wpAny (model prog w) A (spliced (backTo pos (starEach (e :: rest) env))) (fun vs s₁ => wpAny (model prog w) A (call (.type id) vs) Q E s₁) E s)
    (hne : x ≠ "__name__" := by decide) (he : starEach (e :: rest) env = (false, eval e env) :: starEach rest env := by rfl) (hplain : (backTo pos (starEach (e :: rest) env)).any (·.1) = false := by rfl)
    (hg : env.globals = mainGlobals := by rfl) (hbn : env.builtins = builtinsNs := by rfl) (hk : env.scope.kind = .function := by rfl) (hd : (x == ("__debug__" : Str)) = false := by decide) :
    wpAny (model prog w) A (eval (.Call (.Name x p) (e :: rest) [] pos) env) Q E s := by
  refine wpAny_Call_NameR (n_bi S G hn hb hne hx ?_ hg hbn hk hd)
  refine PyProof.Rows.callWith_type hplain ?_
  rw [he] at h ⊢
  exact evalArgs_plain (wpAny_mono h (fun vs s₁ q => q) fun _ _ e => e)
/-- a def or a class of the text by its name -/
theorem call_fn {x : Str} {f : Addr} {p pos : Pos} {e : Expr} {rest : List Expr} {Q : Value → Shared → Prop} (S : St c L g own lm s) (G : Gl K g) (hn : nsIn K mainGlobals x = some (some (.ref f))) (hkp : keepIn K (.ref f) = true) (hx : env.kindOf x = some .globalImplicit)
    (h : wpAny (model prog w) A (spliced (backTo pos (starEach (e :: rest) env))) (fun vs s₁ => K.In s₁.heap ∧ wpAny (model prog w) A (call (.ref f) vs) Q E s₁) E s)
    (he : starEach (e :: rest) env = (false, eval e env) :: starEach rest env := by rfl) (hplain : (backTo pos (starEach rest env)).any (·.1) = false := by rfl)
    (hg : env.globals = mainGlobals := by rfl) (hk : env.scope.kind = .function := by rfl) (hd : (x == ("__debug__" : Str)) = false := by decide) :
    wpAny (model prog w) A (eval (.Call (.Name x p) (e :: rest) [] pos) env) Q E s :=
  wpAny_Call_NameR (n_glb S G hn hx (callWith_K (first := []) G.kin hkp h he hplain) hg hk hd)
theorem call_fn0 {x : Str} {f : Addr} {p pos : Pos} {Q : Value → Shared → Prop} (S : St c L g own lm s) (G : Gl K g) (hn : nsIn K mainGlobals x = some (some (.ref f))) (hkp : keepIn K (.ref f) = true) (hx : env.kindOf x = some .globalImplicit)
    (h : wpAny (model prog w) A (call (.ref f) []) Q E s)
    (hg : env.globals = mainGlobals := by rfl) (hk : env.scope.kind = .function := by rfl) (hd : (x == ("__debug__" : Str)) = false := by decide) :
    wpAny (model prog w) A (eval (.Call (.Name x p) [] [] pos) env) Q E s :=
  wpAny_Call_NameR (n_glb S G hn hx (callWith_K0 (first := []) (fun a o e => S.keep a o (G.kin a o e)) hkp h) hg hk hd)
theorem kin_and {P : Prop} (S : St c L g own lm s) (G : Gl K g) (h : P) : K.In s.heap ∧ P := ⟨fun a o e => S.keep a o (G.kin a o e), h⟩

def Ints (h : Heap) (a : Addr) (ns : List Int) : Prop := ∃ vs : List Value, h.IsList a vs.toArray ∧ IntsAre vs ns
theorem isList_up {h h' : Heap} {a : Addr} {vs : Array Value} (x : h.IsList a vs) (k : Le h h') : h'.IsList a vs := by
  obtain ⟨o, ho, hc⟩ := x
  exact ⟨o, k _ _ ho, hc⟩
theorem Ints.up {h h' : Heap} {a : Addr} {ns : List Int} (x : Ints h a ns) (k : Le h h') : Ints h' a ns := by
  obtain ⟨vs, hl, hi⟩ := x
  exact ⟨vs, isList_up hl k, hi⟩
theorem ints_get : ∀ {vs : List Value} {ns : List Int}, IntsAre vs ns → ∀ {i : Nat} {n : Int}, ns[i]? = some n → ∃ t, vs[i]? = some (.int n t) := by
  intro vs ns h
  induction h with
  | nil => intro i n e; cases e
  | cons _ _ _ ih =>
    intro i n e
    cases i with
    | zero => cases e; exact ⟨_, rfl⟩
    | succ i => exact ih e
theorem len_l {l : Addr} {vs : Array Value} {Q : Value → Shared → Prop} (S : St c L g own lm s) (hl : s.heap.IsList l vs) (hf : (vs.size : Int) < 2 ^ 63) (h : ∀ t s', St c L g own lm s' → Q (.int vs.size t) s') : wpAny (model prog w) A (call (.builtin "len") [.ref l]) Q E s :=
  Calls.call_len_list hl hf (h _ _ (S.tok (t' := s.toks + 1 + 1)))
theorem len_ints {l : Addr} {ns : List Int} {Q : Value → Shared → Prop} (S : St c L g own lm s) (hl : Ints g l ns) (hf : ns.length ≤ 100000) (h : ∀ t s', St c L g own lm s' → Q (.int ns.length t) s') : wpAny (model prog w) A (call (.builtin "len") [.ref l]) Q E s := by
  obtain ⟨vs, hl, hi⟩ := hl
  have e : vs.toArray.size = ns.length := by rw [List.size_toArray]; exact hi.length
  refine len_l S (isList_up hl S.keep) (by rw [e]; omega) fun t s' S' => ?_
  rw [e]; exact h t s' S'
theorem item_l {value slice : Expr} {l : Addr} {vs : Array Value} {k : Int} {u : Tok} {x : Value} {Q : Value → Shared → Prop} (hl : s.heap.IsList l vs) (h0 : 0 ≤ k) (hhi : k < 2 ^ 63) (hx : vs[k.toNat]? = some x) (h : Q x s)
    (hs : subscripted slice false (.ref l) (.int k u) = operate [.ref l, .int k u] (getItem (.ref l) (.int k u)) := by with_unfolding_all rfl) :
    wpAny (model prog w) A (subscriptTail value slice (.ref l) (.int k u)) Q E s :=
  tail_any hl.typeIs slot_list_getitem.lookup (wpAny_getItem_list hl h0 hhi hx h) hs
theorem item_ints {value slice : Expr} {l : Addr} {ns : List Int} {k : Int} {u : Tok} {Q : Value → Shared → Prop} (S : St c L g own lm s) (hl : Ints g l ns) (h0 : 0 ≤ k) (hhi : k < ns.length) (hf : ns.length ≤ 100000) (h : ∀ n t, ns[k.toNat]? = some n → Q (.int n t) s)
    (hs : subscripted slice false (.ref l) (.int k u) = operate [.ref l, .int k u] (getItem (.ref l) (.int k u)) := by with_unfolding_all rfl) :
    wpAny (model prog w) A (subscriptTail value slice (.ref l) (.int k u)) Q E s := by
  obtain ⟨vs, hl, hi⟩ := hl
  have hlt : k.toNat < ns.length := by omega
  obtain ⟨t, ht⟩ := ints_get hi (List.getElem?_eq_getElem hlt)
  exact item_l (isList_up hl S.keep) h0 (by omega) (by simpa using ht) (h _ t (List.getElem?_eq_getElem hlt)) hs
end
end Mine
namespace Mine
theorem b_len : bootBuiltins (PySem.Str.ofString "len") = some (.builtin "len") := by kernel_rfl
theorem b_range : bootBuiltins (PySem.Str.ofString "range") = some (.type "range") := by kernel_rfl
theorem b_list : bootBuiltins (PySem.Str.ofString "list") = some (.type "list") := by kernel_rfl
theorem b_tuple : bootBuiltins (PySem.Str.ofString "tuple") = some (.type "tuple") := by kernel_rfl
theorem b_int : bootBuiltins (PySem.Str.ofString "int") = some (.type "int") := by kernel_rfl
theorem b_bool : bootBuiltins (PySem.Str.ofString "bool") = some (.type "bool") := by kernel_rfl
theorem b_enumerate : bootBuiltins (PySem.Str.ofString "enumerate") = some (.type "enumerate") := by kernel_rfl
theorem b_zip : bootBuiltins (PySem.Str.ofString "zip") = some (.type "zip") := by kernel_rfl
theorem b_isinstance : bootBuiltins (PySem.Str.ofString "isinstance") = some (.builtin "isinstance") := by kernel_rfl
structure Bi (K : Frag) : Prop where
  len : nsIn K mainGlobals (PySem.Str.ofString "len") = some none
  range : nsIn K mainGlobals (PySem.Str.ofString "range") = some none
  list : nsIn K mainGlobals (PySem.Str.ofString "list") = some none
  tuple : nsIn K mainGlobals (PySem.Str.ofString "tuple") = some none
  int : nsIn K mainGlobals (PySem.Str.ofString "int") = some none
  bool : nsIn K mainGlobals (PySem.Str.ofString "bool") = some none
  enumerate : nsIn K mainGlobals (PySem.Str.ofString "enumerate") = some none
  zip : nsIn K mainGlobals (PySem.Str.ofString "zip") = some none
  isinstance : nsIn K mainGlobals (PySem.Str.ofString "isinstance") = some none
end Mine
end
section
set_option maxRecDepth 100000
namespace Mine
section
variable {prog : Program} {w : World} {A : Around} {s : Shared} {c : Cs} {L : Addr} {g : Heap} {own its : List (Addr × Obj)} {lm : List (Str × Value)} {env : Env}

/-- an iterator's own objects are turned -/
theorem St.turnIts (S : St c L g (its ++ own) lm s) {its' : List (Addr × Obj)} {h' : Heap} {t' : Nat} (hk : ∀ b o, b ∉ its.map (·.1) → s.heap.get? b = some o → h'.get? b = some o) (hm : its'.map (·.1) = its.map (·.1))
    (ho : ∀ p ∈ its', h'.get? p.1 = some p.2) (hw : ∀ b ∈ its.map (·.1), b ∉ c.wr) : St c L g (its' ++ own) lm { s with heap := h', toks := t' } := by
  have em : L :: (its' ++ own).map (·.1) = L :: (its ++ own).map (·.1) := by rw [List.map_append, List.map_append, hm]
  have nd := S.nodup
  rw [List.nodup_cons, List.map_append, List.mem_append, List.nodup_append] at nd
  obtain ⟨n1, n2, n3, n4⟩ := nd
  exact {
    nx := nx_upd S.nx _ _
    keep := fun b o e => hk b o (fun q => by
      have := S.off b (.tail _ (by rw [List.map_append]; exact List.mem_append_left _ q))
      rw [this] at e; cases e) (S.keep b o e)
    ns := by
      obtain ⟨m, ⟨oL, a1, a2, hoL, r⟩, hm⟩ := S.ns
      exact ⟨m, ⟨oL, a1, a2, hk _ _ (fun q => n1 (.inl q)) hoL, r⟩, hm⟩
    ow := fun p hp => (List.mem_append.mp hp).elim (ho p) fun h => hk _ _ (fun q => n4 _ q _ (List.mem_map_of_mem h) rfl) (S.ow p (List.mem_append_right _ h))
    nodup := by rw [em]; exact S.nodup
    off := by rw [em]; exact S.off
    le₀ := S.le₀
    fk := fun b o e n => hk b o (fun q => by
      rcases S.mw b (.tail _ (by rw [List.map_append]; exact List.mem_append_left _ q)) with h | h
      · exact n h
      · rw [h] at e; cases e) (S.fk b o e n)
    fr := S.fr
    mw := by rw [em]; exact S.mw
    wo := fun b hb => by
      have := S.wo b hb
      rw [List.map_append] at this ⊢
      rw [hm]; exact this }
theorem its_at {h : Heap} : ∀ {wr : List Addr}, (∀ b ∈ wr, ∃ o, h.get? b = some o) → ∃ its : List (Addr × Obj), its.map (·.1) = wr ∧ ∀ p ∈ its, h.get? p.1 = some p.2
  | [], _ => ⟨[], rfl, fun _ h => nomatch h⟩
  | a :: r, hl => by
    obtain ⟨o, ho⟩ := hl a (.head _)
    obtain ⟨its, h1, h2⟩ := its_at (wr := r) fun b hb => hl b (.tail _ hb)
    refine ⟨(a, o) :: its, by rw [List.map_cons, h1], fun p hp => ?_⟩
    rcases List.mem_cons.mp hp with rfl | hp
    · exact ho
    · exact h2 p hp

theorem forT {target : Expr} {body : List Stmt} {I : Addr} {fp wr : List Addr} {n : Nat} {P Md : Nat → Value → Heap → Prop} {Sti : Nat → Heap → Prop} {R : Result → Shared → Prop}
    (W : KTurns prog w A target I fp wr n P Md Sti) (hlive : ∀ i h, Sti i h → ∀ b ∈ wr, ∃ o, h.get? b = some o)
    (J : Nat → Heap → List (Addr × Obj) → List (Str × Value) → Prop)
    (S : St c L g (its ++ own) lm s) (hits : its.map (·.1) = wr) (hst : Sti 0 s.heap) (hfp : ∀ b ∈ fp, b ∈ wr ∨ ∃ o, g.get? b = some o) (hw : ∀ b ∈ wr, b ∉ c.wr)
    {lm₁ : List (Str × Value)} (h0 : J 0 g own lm₁) (hv : AllP (fun p => lm.lookup p.1 = some p.2) lm₁)
    (step : ∀ i v g₁ own₁ lm₁ s₁ its₁, i < n → P i v s₁.heap → Le g g₁ → J i g₁ own₁ lm₁ → its₁.map (·.1) = wr → St c L g₁ (its₁ ++ own₁) lm₁ s₁ →
      wpAny (model prog w) A (assign target env v) (fun _ s₂ => wpAny (model prog w) A (execs body env) (fun f s₃ => match f with
        | .next | .cont => ∃ g₂ own₂ lm₂, Le g₁ g₂ ∧ St c L g₂ (its₁ ++ own₂) lm₂ s₃ ∧ J (i + 1) g₂ own₂ lm₂
        | .brk => R (.ok .next) s₃
        | .ret v => R (.ok (.ret v)) s₃) Nev s₂) Nev s₁)
    (done : ∀ g' own' lm' s', Le g g' → St c L g' own' lm' s' → J n g' own' lm' → R (.ok .next) s') :
    codeAny (model prog w) A (.forLoop target (.ref I) body [] env) R s := by
  refine codeAny_forLoop_any
    (fun k s' => ∃ i g' own' lm' its', St c L g' (its' ++ own') lm' s' ∧ its'.map (·.1) = wr ∧ Sti i s'.heap ∧ J i g' own' lm' ∧ Le g g' ∧ k = n + 1 - i ∧ i ≤ n) ?_ (n + 1)
    ⟨0, g, own, lm₁, its, S.vars lm₁ hv.all, hits, hst, h0, Le.refl g, rfl, Nat.zero_le _⟩
  rintro k s' ⟨i, g', own', lm', its', S', hits', hst', hJ, hle, rfl, hi⟩
  by_cases hlt : i < n
  · refine W.item i _ _ _ hlt hst' fun v h₁ tk₁ hMd hk₁ => ?_
    refine W.go i v _ _ _ hMd fun h₂ hP hst₂ hk₂ => ?_
    obtain ⟨its₂, hm₂, ho₂⟩ := its_at (hlive _ _ hst₂)
    have S₂ : St c L g' (its₂ ++ own') lm' { s' with heap := h₂, toks := tk₁ } :=
      S'.turnIts (fun b o hb x => hk₂ b o (by rw [← hits']; exact hb) (hk₁ b o (by rw [← hits']; exact hb) x)) (hm₂.trans hits'.symm) ho₂ fun b hb => hw b (hits' ▸ hb)
    refine noted_of (wpAny_mono (step i v g' own' lm' _ its₂ hlt hP hle hJ hm₂ S₂) (fun _ s₃ h₃ => noted_of (wpAny_mono h₃ (fun f s₄ h₄ => ?_) fun _ _ e => e)) fun _ _ e => e)
    have next : (∃ g₂ own₂ lm₂, Le g' g₂ ∧ St c L g₂ (its₂ ++ own₂) lm₂ s₄ ∧ J (i + 1) g₂ own₂ lm₂) →
        ∃ m, m < n + 1 - i ∧ ∃ i g' own' lm' its', St c L g' (its' ++ own') lm' s₄ ∧ its'.map (·.1) = wr ∧ Sti i s₄.heap ∧ J i g' own' lm' ∧ Le g g' ∧ m = n + 1 - i ∧ i ≤ n := by
      rintro ⟨g₂, own₂, lm₂, hle₂, S₄, hJ₂⟩
      refine ⟨n + 1 - (i + 1), by omega, i + 1, g₂, own₂, lm₂, its₂, S₄, hm₂, W.frame _ _ _ hst₂ fun b hb o e => ?_, hJ₂, hle.trans hle₂, rfl, hlt⟩
      rcases hfp b hb with h | ⟨o', h⟩
      · rw [← hm₂] at h
        obtain ⟨p, hp, hpb⟩ := List.mem_map.mp h
        have e1 := ho₂ p hp
        rw [hpb, e] at e1
        cases e1
        have := S₄.ow p (List.mem_append_left _ hp)
        rw [← hpb]; exact this
      · have e1 := S₂.keep b o' (hle b o' h)
        change h₂.get? b = some o' at e1
        rw [e] at e1
        cases e1
        exact S₄.keep b _ (hle₂ b _ (hle b _ h))
    cases f with
    | ret v => exact h₄
    | brk => exact h₄
    | cont => exact next h₄
    | next => exact next h₄
  · have hin : i = n := by omega
    subst hin
    refine W.done _ _ _ hst' fun h₁ tk₁ hk₁ => wpAny_execs_nil ?_
    obtain ⟨its₂, hm₂, ho₂⟩ : ∃ its₂ : List (Addr × Obj), its₂ = [] ∧ True := ⟨[], rfl, trivial⟩
    have S₁ : St c L g' own' lm' s' := S'.drop (List.sublist_append_right _ _) fun b hb => by
      have := S'.wo b hb
      rw [List.map_append, List.mem_append] at this
      exact this.resolve_left fun q => hw b (hits' ▸ q) hb
    refine done g' own' lm' _ hle (S₁.ext fun b o hb e => hk₁ b o (fun q => ?_) e) hJ
    have hq : b ∈ its'.map (·.1) := by rw [hits']; exact q
    have nd := S'.nodup
    rw [List.nodup_cons, List.map_append, List.mem_append, List.nodup_append] at nd
    rcases hb with hb | ⟨o', hb⟩ | ⟨hb, o', hb'⟩
    · rcases List.mem_cons.mp hb with rfl | hb
      · exact nd.1 (.inl hq)
      · exact nd.2.2.2 b hq b hb rfl
    · have := S'.off b (.tail _ (by rw [List.map_append]; exact List.mem_append_left _ hq))
      rw [this] at hb; cases hb
    · rcases S'.mw b (.tail _ (by rw [List.map_append]; exact List.mem_append_left _ hq)) with h | h
      · exact hb h
      · rw [h] at hb'; cases hb'
end
end Mine
end
section
set_option maxRecDepth 100000
namespace Mine
section
variable {prog : Program} {w : World} {A : Around} {s : Shared} {c : Cs} {L : Addr} {g : Heap} {own : List (Addr × Obj)} {lm : List (Str × Value)} {env : Env} {target : PySem.Expr}

theorem St.notWr (S : St c L g own lm s) {a : Addr} (ha : s.heap.get? a = none) : a ∉ c.wr := fun h => by
  obtain ⟨p, hp, rfl⟩ := List.mem_map.mp (S.wo a h)
  have := S.ow p hp
  rw [ha] at this; cases this
theorem St.push (S : St c L g own lm s) (o : Obj) (hf : o.isFreed = false) {t' : Nat} : St c L g ((s.heap.objs.size, o) :: own) lm { s with heap := s.heap.push o, toks := t' } :=
  S.new (fun _ _ e => Heap.get?_push_of_some _ e) (none_at_size _ (Nat.le_refl _)) (Heap.get?_push_size _ hf) (S.notWr (none_at_size _ (Nat.le_refl _)))

/-- what a loop asks of its iterator -/
def Itr (prog : Program) (w : World) (A : Around) (target : PySem.Expr) (g : Heap) (I : Addr) (wr : List Addr) (n : Nat) (P : Nat → Value → Heap → Prop) (h : Heap) : Prop :=
  ∃ fp Md Sti, KTurns prog w A target I fp wr n P Md Sti ∧ (∀ i h, Sti i h → ∀ b ∈ wr, ∃ o, h.get? b = some o) ∧ Sti 0 h ∧ (∀ b ∈ fp, b ∈ wr ∨ ∃ o, g.get? b = some o) ∧ (∀ (s : Shared) (Q : Value → Shared → Prop), Sti 0 s.heap → Q (.ref I) s → wpAny (model prog w) A (pyIter (.ref I)) Q Nev s)

def unpackers : List String := ["enumerate", "zip", "dict_itemiterator", "dict_reverseitemiterator", "odict_iterator", "itertools.zip_longest", "itertools.pairwise"]
theorem go_plain {E : Value → Shared → Prop} {I : Addr} {o : Obj} {T : String} {v : Value} {Q : Unit → Shared → Prop} (ho : s.heap.get? I = some o) (hc : o.cls = .type T) (hT : unpackers.contains T = false) (h : Q () s) : wpAny (model prog w) A (letOwnedTupleGo target (.ref I) v) Q E s := by
  have key : ∀ (elts : List PySem.Expr) k pos, wpAny (model prog w) A (letOwnedTupleGo (.Tuple elts k pos) (.ref I) v) Q E s := by
    intro elts k pos
    unfold letOwnedTupleGo
    cases v with
    | ref a =>
      refine wpAny_bind (wpAny_load ho ?_)
      rw [hc]
      cases o.data with
      | fields vs =>
        show wpAny _ A (if (unpackers.contains T && _) = true then _ else _) Q E s
        rw [hT, Bool.false_and]
        exact wpAny_pure h
      | _ => exact wpAny_pure h
    | _ => exact wpAny_pure h
  have key2 : ∀ (elts : List PySem.Expr) pos, wpAny (model prog w) A (letOwnedTupleGo (.List elts pos) (.ref I) v) Q E s := by
    intro elts pos
    unfold letOwnedTupleGo
    cases v with
    | ref a =>
      refine wpAny_bind (wpAny_load ho ?_)
      rw [hc]
      cases o.data with
      | fields vs =>
        show wpAny _ A (if (unpackers.contains T && _) = true then _ else _) Q E s
        rw [hT, Bool.false_and]
        exact wpAny_pure h
      | _ => exact wpAny_pure h
    | _ => exact wpAny_pure h
  cases target with
  | Tuple elts k pos => exact key elts k pos
  | List elts pos => exact key2 elts pos
  | _ => exact wpAny_pure h

theorem start_list {l : Addr} {vs : Array Value} {Q : Value → Shared → Prop} (hA : A.handled = none) (S : St c L g own lm s) (hl : g.IsList l vs)
    (h : ∀ I its s', its.map (·.1) = [I] → (∀ target, Itr prog w A target g I [I] vs.size (fun i v _ => vs[i]? = some v) s'.heap) → (∀ b ∈ [I], b ∉ c.wr) → St c L g (its ++ own) lm s' → Q (.ref I) s') :
    wpAny (model prog w) A (pyIter (.ref l)) Q Nev s := by
  have hl' := isList_up hl S.keep
  refine wpAny_pyIter_list hl' ?_
  have S' := S.push { cls := .type "list_iterator", data := .fields #[.ref l, .int 0 0] } rfl (t' := s.toks)
  have hne : l ≠ s.heap.objs.size := Nat.ne_of_lt (by obtain ⟨o, ho, _⟩ := hl'; exact Heap.lt_size ho)
  have hit : (s.heap.push { cls := .type "list_iterator", data := .fields #[.ref l, .int 0 0] }).IsListIter s.heap.objs.size l 0 := ⟨_, Heap.get?_push_size _ rfl, rfl, rfl⟩
  refine h _ [(s.heap.objs.size, _)] _ rfl (fun target => ⟨[s.heap.objs.size, l], _, _, KTurns.ofWalks (Walks.list hA s.heap.objs.size l hne vs) (fun i v s Q E st hq => ?_), fun i h hs b hb => ?_, ⟨hit, isList_up hl S'.keep⟩, fun b hb => ?_, fun s Q st hq => (Walks.list hA _ l hne vs).self 0 s Q _ st hq⟩)
    (fun b hb => S.notWr (by rw [List.mem_singleton.mp hb]; exact none_at_size _ (Nat.le_refl _))) S'
  · obtain ⟨o, ho, hc, _⟩ := st.1
    exact go_plain ho hc rfl hq
  · rw [List.mem_singleton.mp hb]
    obtain ⟨o, ho, _⟩ := hs.1
    exact ⟨o, ho⟩
  · rcases List.mem_cons.mp hb with h | h
    · exact .inl (h ▸ .head _)
    · rw [List.mem_singleton.mp h]
      obtain ⟨o, ho, _⟩ := hl
      exact .inr ⟨o, ho⟩
theorem isTuple_up {h h' : Heap} {a : Addr} {vs : Array Value} (x : h.IsTuple a vs) (k : Le h h') : h'.IsTuple a vs := by
  obtain ⟨o, ho, hc⟩ := x
  exact ⟨o, k _ _ ho, hc⟩
theorem start_tuple {l : Addr} {vs : Array Value} {Q : Value → Shared → Prop} (hA : A.handled = none) (S : St c L g own lm s) (hl : g.IsTuple l vs)
    (h : ∀ I its s', its.map (·.1) = [I] → (∀ target, Itr prog w A target g I [I] vs.size (fun i v _ => vs[i]? = some v) s'.heap) → (∀ b ∈ [I], b ∉ c.wr) → St c L g (its ++ own) lm s' → Q (.ref I) s') :
    wpAny (model prog w) A (pyIter (.ref l)) Q Nev s := by
  have hl' := isTuple_up hl S.keep
  refine wpAny_pyIter_tuple hl' ?_
  have S' := S.push { cls := .type "tuple_iterator", data := .fields #[.ref l, .int 0 0] } rfl (t' := s.toks)
  have hne : l ≠ s.heap.objs.size := Nat.ne_of_lt (by obtain ⟨o, ho, _⟩ := hl'; exact Heap.lt_size ho)
  have hit : (s.heap.push { cls := .type "tuple_iterator", data := .fields #[.ref l, .int 0 0] }).IsTupleIter s.heap.objs.size l 0 := ⟨_, Heap.get?_push_size _ rfl, rfl, rfl⟩
  refine h _ [(s.heap.objs.size, _)] _ rfl (fun target => ⟨[s.heap.objs.size, l], _, _, KTurns.ofWalks (Walks.tuple hA s.heap.objs.size l hne vs) (fun i v s Q E st hq => ?_), fun i h hs b hb => ?_, ⟨hit, isTuple_up hl S'.keep⟩, fun b hb => ?_, fun s Q st hq => (Walks.tuple hA _ l hne vs).self 0 s Q _ st hq⟩)
    (fun b hb => S.notWr (by rw [List.mem_singleton.mp hb]; exact none_at_size _ (Nat.le_refl _))) S'
  · obtain ⟨o, ho, hc, _⟩ := st.1
    exact go_plain ho hc rfl hq
  · rw [List.mem_singleton.mp hb]
    obtain ⟨o, ho, _⟩ := hs.1
    exact ⟨o, ho⟩
  · rcases List.mem_cons.mp hb with h | h
    · exact .inl (h ▸ .head _)
    · rw [List.mem_singleton.mp h]
      obtain ⟨o, ho, _⟩ := hl
      exact .inr ⟨o, ho⟩
/-- range(a, b), small -/
theorem start_range {r : Addr} {a b : Int} {t u v : Tok} {Q : Value → Shared → Prop} (hA : A.handled = none) (S : St c L g own lm s) (hr : IsRange s.heap r a b 1 t u v) (ha : 0 ≤ a ∧ a ≤ b) (hb : b ≤ 1000000)
    (h : ∀ I its s', its.map (·.1) = [I] → (∀ target, Itr prog w A target g I [I] (b - a).toNat (fun i v _ => ∃ t, v = .int (a + i) t) s'.heap) → (∀ b ∈ [I], b ∉ c.wr) → St c L g (its ++ own) lm s' → Q (.ref I) s') :
    wpAny (model prog w) A (pyIter (.ref r)) Q Nev s := by
  have hsz : Builtin.Range.rangeSize a b 1 = b - a := by
    rw [rangeSize_one]
    split <;> omega
  have hsm : Builtin.Range.small a b 1 = true := by
    unfold Builtin.Range.small
    rw [hsz]
    have f : ∀ x : Int, 0 ≤ x → x ≤ 1000000 → Builtin.Range.rangeFitsLong x = true := fun x h1 h2 => by
      unfold Builtin.Range.rangeFitsLong
      simp only [Bool.and_eq_true, decide_eq_true_eq]
      constructor <;> omega
    rw [f a ha.1 (by omega), f b (by omega) hb, f 1 (by omega) (by omega), f (b - a) (by omega) (by omega)]
    simp only [Bool.and_self, Bool.true_and]
    rw [if_pos (by decide), f (b + (1 - 1)) (by omega) (by omega), Bool.or_true]
  refine wpAny_pyIter_range hr hsm ?_
  rw [hsz]
  have S' := S.push { cls := .type "range_iterator", data := .fields #[rawInt a, rawInt (b - a), rawInt 1] } rfl (t' := s.toks)
  have hit : IsRangeIter (s.heap.push { cls := .type "range_iterator", data := .fields #[rawInt a, rawInt (b - a), rawInt 1] }) s.heap.objs.size (a + ((0 : Nat) : Int) * 1) ((((b - a).toNat : Nat) : Int) - ((0 : Nat) : Int)) 1 := by
    have e1 : a + ((0 : Nat) : Int) * 1 = a := by simp
    have e2 : (((b - a).toNat : Nat) : Int) - ((0 : Nat) : Int) = b - a := by omega
    rw [e1, e2]
    exact Heap.get?_push_size _ rfl
  have W := fun target => KTurns.ofWalks (target := target) (Walks.range (prog := prog) (w := w) hA s.heap.objs.size a 1 (b - a).toNat) (fun i v s Q E st hq => go_plain st rfl rfl hq)
  refine h _ [(s.heap.objs.size, _)] _ rfl (fun target => ⟨[s.heap.objs.size], _, _, ⟨(W target).sub, (W target).frame, (W target).item, fun i v s Q E hm hQ => (W target).go i v s Q E hm fun h' hP => hQ h' ?_, (W target).done⟩, fun i h hs b hb => ?_, hit, fun b hb => ?_, fun s Q st hq => (Walks.range (prog := prog) (w := w) hA _ a 1 (b - a).toNat).self 0 s Q _ st hq⟩)
    (fun b hb => S.notWr (by rw [List.mem_singleton.mp hb]; exact none_at_size _ (Nat.le_refl _))) S'
  · obtain ⟨t, ht⟩ := hP
    exact ⟨t, by rw [ht]; simp⟩
  · rw [List.mem_singleton.mp hb]
    exact ⟨_, hs⟩
  · exact .inl hb
theorem start_keys {KK : Type} [DecidableEq KK] {knd : KeyKind prog w KK} {l : Addr} {kvs : List (KK × Value)} {Q : Value → Shared → Prop} (hA : A.handled = none) (S : St c L g own lm s) (hl : g.DictOf knd l kvs) (hd : (l == sysModules) = false)
    (h : ∀ I its s', its.map (·.1) = [I] → (∀ target, Itr prog w A target g I [I] kvs.length (fun i v _ => ∃ k x, kvs[i]? = some (k, x) ∧ knd.is k v = true) s'.heap) → (∀ b ∈ [I], b ∉ c.wr) → St c L g (its ++ own) lm s' → Q (.ref I) s') :
    wpAny (model prog w) A (pyIter (.ref l)) Q Nev s := by
  obtain ⟨ep, hl⟩ := hl.dictAt
  have hl' := hl.keep S.keep
  refine wpAny_pyIter_dict hd hl' ?_
  have S' := S.push { cls := .type "dict_keyiterator", data := .fields #[.ref l, .int 0 0, .int kvs.length 0, .int ep 0] } rfl (t' := s.toks)
  have hne : l ≠ s.heap.objs.size := Nat.ne_of_lt hl'.lt_size
  have hit : (s.heap.push { cls := .type "dict_keyiterator", data := .fields #[.ref l, .int 0 0, .int kvs.length 0, .int ep 0] }).IsKeyIter s.heap.objs.size l 0 kvs.length ep := ⟨_, Heap.get?_push_size _ rfl, rfl, rfl⟩
  refine h _ [(s.heap.objs.size, _)] _ rfl (fun target => ⟨[s.heap.objs.size, l], _, _, KTurns.ofWalks (Walks.dictKeys hA s.heap.objs.size l hne kvs ep) (fun i v s Q E st hq => ?_), fun i h hs b hb => ?_, ⟨hit, hl.keep S'.keep⟩, fun b hb => ?_, fun s Q st hq => (Walks.dictKeys hA _ l hne kvs ep).self 0 s Q _ st hq⟩)
    (fun b hb => S.notWr (by rw [List.mem_singleton.mp hb]; exact none_at_size _ (Nat.le_refl _))) S'
  · obtain ⟨o, ho, hc, _⟩ := st.1
    exact go_plain ho hc rfl hq
  · rw [List.mem_singleton.mp hb]
    obtain ⟨o, ho, _⟩ := hs.1
    exact ⟨o, ho⟩
  · rcases List.mem_cons.mp hb with h | h
    · exact .inl (h ▸ .head _)
    · rw [List.mem_singleton.mp h]
      obtain ⟨o, _, ho, _⟩ := hl
      exact .inr ⟨o, ho⟩
end
end Mine
end
section
set_option maxRecDepth 100000
namespace Mine
abbrev lobj (xs : List Value) (n : Nat) : Obj := { cls := .type "list", data := .seq xs.toArray n }
abbrev tests (ifs : List PySem.Expr) (env : Env) : Sem Bool := forIn ifs true fun c r => if r = true then do let ok ← isTrue c env (eval c env); pure (ForInStep.yield ok) else pure (ForInStep.yield r)
section
variable {prog : Program} {w : World} {A : Around} {s : Shared} {c : Cs} {L : Addr} {g : Heap} {own its : List (Addr × Obj)} {lm : List (Str × Value)} {env : Env}

theorem codeAny_compLoop_go {R : Result → Shared → Prop} {elt target iter : PySem.Expr} {ifs : List PySem.Expr} {scope : Scope} {pos : Pos} {it acc : Value} {env : Env} (I : Nat → Shared → Prop)
    (turn : ∀ n s, I n s → wpAny (model prog w) A (pyNext it) (fun r s₁ => match r with
      | none => R (.ok .next) s₁
      | some v => wpAny (model prog w) A (letOwnedTupleGo target it v) (fun _ s₁' => wpAny (model prog w) A (assign target env v) (fun _ s₂ =>
          wpAny (model prog w) A (tests ifs env) (fun ok s₃ =>
            if ok = true then wpAny (model prog w) A (eval elt env) (fun x s₄ =>
              wpAny (model prog w) A (call (.builtin "list.append") [acc, x]) (fun _ s₅ => ∃ m, m < n ∧ I m s₅) Nev s₄) Nev s₃
            else ∃ m, m < n ∧ I m s₃) Nev s₂) Nev s₁') Nev s₁) Nev s)
    (n : Nat) (h : I n s) :
    codeAny (model prog w) A (.compLoop (.ListComp elt [⟨target, iter, ifs, 0⟩] scope pos) 0 it acc env) R s := by
  refine codeAny_loop rfl I (fun n s hI => ?_) n h
  show wpAny _ A ((compTurn (.ListComp elt [⟨target, iter, ifs, 0⟩] scope pos) 0 it acc env).onRaise (fun x => do noteFrame x env; theTreesLotGoes x)) _ _ s
  refine wpAny_noted (noted_of ?_)
  rw [compTurn_list]
  refine wpAny_bind (wpAny_standAt (wpAny_bind (wpAny_mono (turn n s hI) (fun r s₁ h₁ => ?_) fun _ _ h' => h')))
  cases r with
  | none => exact wpAny_pure h₁
  | some v =>
    refine wpAny_bind (wpAny_mono h₁ (fun _ s₁' h₁' => ?_) fun _ _ h' => h')
    refine wpAny_bind (wpAny_mono h₁' (fun _ s₂ h₂ => wpAny_bind (wpAny_mono h₂ (fun ok s₃ h₃ => ?_) fun _ _ h' => h')) fun _ _ h' => h')
    cases ok with
    | false => exact wpAny_pure ⟨rfl, h₃⟩
    | true =>
      exact wpAny_bind (wpAny_bind (wpAny_mono h₃ (fun x s₄ h₄ => wpAny_bind (wpAny_mono h₄ (fun _ s₅ h₅ => wpAny_pure (wpAny_pure ⟨rfl, h₅⟩)) fun _ _ h' => h')) fun _ _ h' => h'))

theorem compLoopT {elt target iter : PySem.Expr} {ifs : List PySem.Expr} {scope : Scope} {pos : Pos} {cenv : Env} {C D I : Addr} {wr : List Addr} {n : Nat} {P : Nat → Value → Heap → Prop} {R : Result → Shared → Prop} {oL : Obj}
    (J : Nat → Heap → List (Addr × Obj) → List Value → Prop)
    (S : St c C g (its ++ ((D, lobj [] 0) :: (L, oL) :: own)) [] s) (hits : its.map (·.1) = wr) (X : Itr prog w A target g I wr n P s.heap) (hw : ∀ b ∈ wr, b ∉ c.wr) (hn : n ≤ 1000000)
    (h0 : J 0 g own [])
    (step : ∀ hid i v g₁ own₁ xs s₁, i < n → P i v s₁.heap → Le g g₁ → J i g₁ own₁ xs → xs.length ≤ i → St c C g₁ (hid ++ own₁) [] s₁ →
      wpAny (model prog w) A (assign target cenv v) (fun _ s₂ => wpAny (model prog w) A (tests ifs cenv) (fun ok s₃ =>
        if ok = true then wpAny (model prog w) A (eval elt cenv) (fun x s₄ => ∃ g₂ own₂ lm₂, Le g₁ g₂ ∧ St c C g₂ (hid ++ own₂) lm₂ s₄ ∧ J (i + 1) g₂ own₂ (xs ++ [x])) Nev s₃
        else ∃ g₂ own₂ lm₂, Le g₁ g₂ ∧ St c C g₂ (hid ++ own₂) lm₂ s₃ ∧ J (i + 1) g₂ own₂ xs) Nev s₂) Nev s₁)
    (done : ∀ k g' own' xs s', Le g g' → St c C g' ((D, lobj xs k) :: (L, oL) :: own') [] s' → J n g' own' xs → xs.length ≤ n → R (.ok .next) s') :
    codeAny (model prog w) A (.compLoop (.ListComp elt [⟨target, iter, ifs, 0⟩] scope pos) 0 (.ref I) (.ref D) cenv) R s := by
  obtain ⟨fp, Md, Sti, W, hlive, hst, hfp, _⟩ := X
  refine codeAny_compLoop_go
    (fun m s' => ∃ i k g' own' xs its', St c C g' (its' ++ ((D, lobj xs k) :: (L, oL) :: own')) [] s' ∧ its'.map (·.1) = wr ∧ Sti i s'.heap ∧ J i g' own' xs ∧ xs.length ≤ i ∧ Le g g' ∧ m = n + 1 - i ∧ i ≤ n) ?_ (n + 1)
    ⟨0, 0, g, own, [], its, S, hits, hst, h0, Nat.le_refl _, Le.refl g, rfl, Nat.zero_le _⟩
  rintro m s' ⟨i, k, g', own', xs, its', S', hits', hst', hJ, hxs, hle, rfl, hi⟩
  by_cases hlt : i < n
  · refine W.item i _ _ _ hlt hst' fun v h₁ tk₁ hMd hk₁ => ?_
    refine W.go i v _ _ _ hMd fun h₂ hP hst₂ hk₂ => ?_
    obtain ⟨its₂, hm₂, ho₂⟩ := its_at (hlive _ _ hst₂)
    have S₂ : St c C g' (its₂ ++ ((D, lobj xs k) :: (L, oL) :: own')) [] { s' with heap := h₂, toks := tk₁ } :=
      S'.turnIts (fun b o hb x => hk₂ b o (by rw [← hits']; exact hb) (hk₁ b o (by rw [← hits']; exact hb) x)) (hm₂.trans hits'.symm) ho₂ fun b hb => hw b (hits' ▸ hb)
    have frame : ∀ {g₂ own₂ lm₂ s₄ k₂ xs₂}, Le g' g₂ → St c C g₂ (its₂ ++ ((D, lobj xs₂ k₂) :: (L, oL) :: own₂)) lm₂ s₄ → Sti (i + 1) s₄.heap := by
      intro g₂ own₂ lm₂ s₄ k₂ xs₂ hle₂ S₄
      refine W.frame _ _ _ hst₂ fun b hb o e => ?_
      rcases hfp b hb with h | ⟨o', h⟩
      · rw [← hm₂] at h
        obtain ⟨p, hp, hpb⟩ := List.mem_map.mp h
        have e1 := ho₂ p hp
        rw [hpb, e] at e1
        cases e1
        have := S₄.ow p (List.mem_append_left _ hp)
        rw [← hpb]; exact this
      · have e1 := S₂.keep b o' (hle b o' h)
        change h₂.get? b = some o' at e1
        rw [e] at e1
        cases e1
        exact S₄.keep b _ (hle₂ b _ (hle b _ h))
    have asm : ∀ (own₂ : List (Addr × Obj)) (k₂ : Nat) (xs₂ : List Value), (its₂ ++ [(D, lobj xs₂ k₂), (L, oL)]) ++ own₂ = its₂ ++ ((D, lobj xs₂ k₂) :: (L, oL) :: own₂) := fun own₂ k₂ xs₂ => by simp
    have S₃ : St c C g' ((its₂ ++ [(D, lobj xs k), (L, oL)]) ++ own') [] { s' with heap := h₂, toks := tk₁ } := by rw [asm]; exact S₂
    refine wpAny_mono (step _ i v g' own' xs _ hlt hP hle hJ hxs S₃) (fun _ s₃ h₃ => wpAny_mono h₃ (fun ok s₄ h₄ => ?_) fun _ _ e => e) fun _ _ e => e
    cases ok with
    | false =>
      simp only [Bool.false_eq_true, if_false] at h₄ ⊢
      obtain ⟨g₂, own₂, lm₂, hle₂, S₄, hJ₂⟩ := h₄
      rw [asm] at S₄
      exact ⟨n + 1 - (i + 1), by omega, i + 1, k, g₂, own₂, xs, its₂, S₄.vars [] (fun _ h => nomatch h), hm₂, frame hle₂ S₄, hJ₂, by omega, hle.trans hle₂, rfl, hlt⟩
    | true =>
      simp only [if_true] at h₄ ⊢
      refine wpAny_mono h₄ (fun x s₅ h₅ => ?_) fun _ _ e => e
      obtain ⟨g₂, own₂, lm₂, hle₂, S₅, hJ₂⟩ := h₅
      rw [asm] at S₅
      have hD : s₅.heap.PlainList D xs.toArray := ⟨k, S₅.ow (D, lobj xs k) (by simp)⟩
      refine wpAny_list_append_plain hD (fun h' hl hs => ?_) (by rw [List.size_toArray]; have : sizeLine = 16777216 := rfl; omega)
      obtain ⟨k', hk'⟩ := hl
      have S₆ : St c C g₂ (its₂ ++ ((D, lobj (xs ++ [x]) k') :: (L, oL) :: own₂)) lm₂ { s₅ with heap := h', toks := s₅.toks } :=
        S₅.turn rfl (o' := lobj (xs ++ [x]) k') (by rw [hk']; simp) hs.extBut
      exact ⟨n + 1 - (i + 1), by omega, i + 1, k', g₂, own₂, xs ++ [x], its₂, S₆.vars [] (fun _ h => nomatch h), hm₂, frame hle₂ S₆, hJ₂, by rw [List.length_append, List.length_singleton]; omega, hle.trans hle₂, rfl, hlt⟩
  · have hin : i = n := by omega
    subst hin
    refine W.done _ _ _ hst' fun h₁ tk₁ hk₁ => ?_
    have S₁ : St c C g' ((D, lobj xs k) :: (L, oL) :: own') [] s' := S'.drop (List.sublist_append_right _ _) fun b hb => by
      have := S'.wo b hb
      rw [List.map_append, List.mem_append] at this
      exact this.resolve_left fun q => hw b (hits' ▸ q) hb
    refine done k g' own' xs _ hle (S₁.ext fun b o hb e => hk₁ b o (fun q => ?_) e) hJ hxs
    have hq : b ∈ its'.map (·.1) := by rw [hits']; exact q
    have nd := S'.nodup
    rw [List.nodup_cons, List.map_append, List.mem_append, List.nodup_append] at nd
    rcases hb with hb | ⟨o', hb⟩ | ⟨hb, o', hb'⟩
    · rcases List.mem_cons.mp hb with rfl | hb
      · exact nd.1 (.inl hq)
      · exact nd.2.2.2 b hq b hb rfl
    · have := S'.off b (.tail _ (by rw [List.map_append]; exact List.mem_append_left _ hq))
      rw [this] at hb; cases hb
    · rcases S'.mw b (.tail _ (by rw [List.map_append]; exact List.mem_append_left _ hq)) with h | h
      · exact hb h
      · rw [h] at hb'; cases hb'

/-- behind the block: the outer frame again -/
theorem St.outer {C : Addr} {oL : Obj} (S : St c L g own lm s) (hoL : s.heap.get? L = some oL) {g' : Heap} {hd own' : List (Addr × Obj)} {lmc : List (Str × Value)} {s' : Shared} (S' : St c C g' (hd ++ (L, oL) :: own') lmc s') :
    St c L g' (hd ++ own') lm s' := by
  have nd := S'.nodup
  rw [List.nodup_cons, List.map_append, List.map_cons] at nd
  have p : (hd.map (·.1) ++ L :: own'.map (·.1)).Perm (L :: (hd.map (·.1) ++ own'.map (·.1))) := List.perm_middle
  have nd2 := p.nodup_iff.mp nd.2
  have mem : ∀ a ∈ L :: (hd ++ own').map (·.1), a ∈ (hd ++ (L, oL) :: own').map (·.1) := fun a ha => by
    rw [List.map_append, List.map_cons]
    rw [List.map_append] at ha
    exact p.mem_iff.mpr ha
  exact {
    nx := S'.nx
    keep := S'.keep
    ns := by
      obtain ⟨m, ⟨o, a1, a2, ho, r⟩, hm⟩ := S.ns
      rw [hoL] at ho
      cases ho
      exact ⟨m, ⟨_, a1, a2, S'.ow (L, oL) (by simp), r⟩, hm⟩
    ow := fun p hp => S'.ow p (by
      rcases List.mem_append.mp hp with h | h
      · exact List.mem_append_left _ h
      · exact List.mem_append_right _ (.tail _ h))
    nodup := by rw [List.map_append]; exact nd2
    off := fun a ha => S'.off a (.tail _ (mem a ha))
    le₀ := S'.le₀
    fk := S'.fk
    fr := S'.fr
    mw := fun a ha => S'.mw a (.tail _ (mem a ha))
    wo := fun b hb => by
      have h1 := S'.wo b hb
      rw [List.map_append, List.map_cons] at h1
      have h2 := p.mem_iff.mp h1
      rcases List.mem_cons.mp h2 with h | h
      · subst h
        obtain ⟨q, hq, hqb⟩ := List.mem_map.mp (S.wo b hb)
        exact absurd (hqb ▸ List.mem_map_of_mem hq) (List.nodup_cons.mp S.nodup).1
      · rw [List.map_append]; exact h }

/-- the block's frame -/
theorem St.inner {C : Addr} {oL : Obj} (S : St c L g own lm s) (hoL : s.heap.get? L = some oL) {h' : Heap} {t' : Nat} (hC : s.heap.get? C = none) (hk : Le s.heap h') {m : Str → Option Value} (hn : h'.Ns C m) {hd own' : List (Addr × Obj)} (hown : own = hd ++ own') :
    St c C g (hd ++ (L, oL) :: own') [] { s with heap := h', toks := t' } := by
  subst hown
  have nd := S.nodup
  rw [List.map_append] at nd
  have p : (hd.map (·.1) ++ L :: own'.map (·.1)).Perm (L :: (hd.map (·.1) ++ own'.map (·.1))) := List.perm_middle
  have e : (hd ++ (L, oL) :: own').map (·.1) = hd.map (·.1) ++ L :: own'.map (·.1) := by simp
  have hCw := S.notWr hC
  have dead : ∀ a ∈ L :: (hd ++ own').map (·.1), a ≠ C := fun a ha q => by
    rcases List.mem_cons.mp ha with h | h
    · rw [← q, h, hoL] at hC; cases hC
    · obtain ⟨pp, hp, hpa⟩ := List.mem_map.mp h
      have := S.ow pp hp
      rw [hpa, q, hC] at this; cases this
  have gC : g.get? C = none := by
    cases q : g.get? C with
    | none => rfl
    | some o => have := S.keep C o q; rw [hC] at this; cases this
  have cC : c.s₀.heap.get? C = none := by
    cases q : c.s₀.heap.get? C with
    | none => rfl
    | some o => have := S.fk C o q hCw; rw [hC] at this; cases this
  exact {
    nx := nx_upd S.nx _ _
    keep := fun b o q => hk b o (S.keep b o q)
    ns := ⟨m, hn, fun x v q => nomatch q⟩
    ow := fun q hq => by
      rcases List.mem_append.mp hq with h | h
      · exact hk _ _ (S.ow q (List.mem_append_left _ h))
      · rcases List.mem_cons.mp h with rfl | h
        · exact hk _ _ hoL
        · exact hk _ _ (S.ow q (List.mem_append_right _ h))
    nodup := by
      rw [List.nodup_cons, e]
      refine ⟨fun q => ?_, p.nodup_iff.mpr nd⟩
      have := p.mem_iff.mp q
      exact dead C (by rw [List.map_append]; exact this) rfl
    off := fun a ha => by
      rcases List.mem_cons.mp ha with h | h
      · rw [h]; exact gC
      · rw [e] at h
        exact S.off a (by rw [List.map_append]; exact p.mem_iff.mp h)
    le₀ := S.le₀
    fk := fun b o q n => hk b o (S.fk b o q n)
    fr := S.fr
    mw := fun a ha => by
      rcases List.mem_cons.mp ha with h | h
      · rw [h]; exact .inr cC
      · rw [e] at h
        exact S.mw a (by rw [List.map_append]; exact p.mem_iff.mp h)
    wo := fun b hb => by
      rw [e]
      have := S.wo b hb
      rw [List.map_append] at this
      exact p.mem_iff.mpr (.tail _ this) }

theorem compB {use : Option (Value → Sem Unit)} {elt target iter : PySem.Expr} {ifs : List PySem.Expr} {scope : Scope} {pos : Pos} {cl : List (Str × Addr)} {I : Addr} {wr : List Addr} {n : Nat} {P : Nat → Value → Heap → Prop} {Q : Value → Shared → Prop}
    (J : Nat → Heap → List (Addr × Obj) → List Value → Prop)
    (hits : its.map (·.1) = wr) (X : Itr prog w A target g I wr n P s.heap) (hw : ∀ b ∈ wr, b ∉ c.wr) (S : St c L g (its ++ own) lm s) (hn : n ≤ 1000000)
    (hcell : ∀ y ∈ scope.names, y.2 ≠ .cell) (hkind : scope.kind = .function)
    (h0 : J 0 g own [])
    (step : ∀ C hid i v g₁ own₁ xs s₁, i < n → P i v s₁.heap → Le g g₁ → J i g₁ own₁ xs → xs.length ≤ i → St c C g₁ (hid ++ own₁) [] s₁ →
      wpAny (model prog w) A (assign target (compEnvC scope cl C env) v) (fun _ s₂ => wpAny (model prog w) A (tests ifs (compEnvC scope cl C env)) (fun ok s₃ =>
        if ok = true then wpAny (model prog w) A (eval elt (compEnvC scope cl C env)) (fun x s₄ => ∃ g₂ own₂ lm₂, Le g₁ g₂ ∧ St c C g₂ (hid ++ own₂) lm₂ s₄ ∧ J (i + 1) g₂ own₂ (xs ++ [x])) Nev s₃
        else ∃ g₂ own₂ lm₂, Le g₁ g₂ ∧ St c C g₂ (hid ++ own₂) lm₂ s₃ ∧ J (i + 1) g₂ own₂ xs) Nev s₂) Nev s₁)
    (done : ∀ C D k g' own' xs s' oL, D ∉ c.wr → Le g g' → St c C g' ((D, lobj xs k) :: (L, oL) :: own') [] s' → St c L g' ((D, lobj xs k) :: own') lm s' → J n g' own' xs → xs.length ≤ n → compPost (model prog w) A Nev use Q (.ref D) C (.ok .next) s') :
    wpAny (model prog w) A (newList []) (fun acc s₃ => wpAny (model prog w) A (newFunctionEnv scope env.globals cl [] env.qual none .none (some env)) (fun cenv s₄ =>
        codeAny (model prog w) A (.compStart (.ListComp elt [⟨target, iter, ifs, 0⟩] scope pos) 0 (.ref I) acc { cenv with scope := relabel scope env }) (compPost (model prog w) A Nev use Q acc cenv.locals) s₄) Nev s₃) Nev s := by
  obtain ⟨oL, hoL⟩ := S.getL
  refine wpAny_newObj_type (wpAny_newFunctionEnv hcell (by intro y hy; simp at hy) (fun h₁ hns₁ hsb₁ => ?_) hkind)
  have S1 := S.push (lobj [] 0) rfl (t' := s.toks)
  dsimp only at hns₁ hsb₁ ⊢
  have hk : Le (s.heap.push (lobj [] 0)) h₁ := fun b o e => hsb₁.extBut b o (Nat.ne_of_lt (Heap.lt_size e)) (Heap.get?_push_of_some _ e)
  have S2 := S1.inner (h' := h₁) (t' := s.toks + ([] : List (Str × Value)).length) (Heap.get?_push_of_some _ hoL) (none_at_size _ (Nat.le_refl _)) hk hns₁ (hd := (s.heap.objs.size, lobj [] 0) :: its) (own' := own) rfl
  have S3 : St c (s.heap.push (lobj [] 0)).objs.size g (its ++ ((s.heap.objs.size, lobj [] 0) :: (L, oL) :: own)) [] { s with heap := h₁, toks := s.toks + ([] : List (Str × Value)).length } := S2.perm (by
    have : (its ++ ((s.heap.objs.size, lobj [] 0) :: (L, oL) :: own)).Perm ((s.heap.objs.size, lobj [] 0) :: (its ++ (L, oL) :: own)) := List.perm_middle
    exact this)
  have X3 : Itr prog w A target g I wr n P h₁ := by
    obtain ⟨fp, Md, Sti, W, hlive, hst, hfp, hself⟩ := X
    exact ⟨fp, Md, Sti, W, hlive, W.frame _ _ _ hst fun b _ o e => hk b o (Heap.get?_push_of_some _ e), hfp, hself⟩
  have loop : codeAny (model prog w) A (.compLoop (.ListComp elt [⟨target, iter, ifs, 0⟩] scope pos) 0 (.ref I) (.ref s.heap.objs.size) (compEnvC scope cl (s.heap.push (lobj [] 0)).objs.size env))
      (compPost (model prog w) A Nev use Q (.ref s.heap.objs.size) (s.heap.push (lobj [] 0)).objs.size) { s with heap := h₁, toks := s.toks + ([] : List (Str × Value)).length } :=
    compLoopT J S3 hits X3 hw hn h0 (fun hid i v g₁ own₁ xs s₁ a b d e f S' => step _ hid i v g₁ own₁ xs s₁ a b d e f S')
      fun k g' own' xs s' hle S' hJ hxs => done _ _ k g' own' xs s' oL (S.notWr (none_at_size _ (Nat.le_refl _))) hle S' (S.outer hoL (hd := [(s.heap.objs.size, lobj xs k)]) S') hJ hxs
  refine codeAny_compStart_list loop (noted_of ?_)
  obtain ⟨fp, Md, Sti, W, hlive, hst, hfp, hself⟩ := X3
  exact hself _ _ hst loop

/-- its value -/
theorem compT {elt target iter : PySem.Expr} {ifs : List PySem.Expr} {scope : Scope} {pos : Pos} {cl : List (Str × Addr)} {I : Addr} {wr : List Addr} {n : Nat} {P : Nat → Value → Heap → Prop} {Q : Value → Shared → Prop}
    (J : Nat → Heap → List (Addr × Obj) → List Value → Prop)
    (hits : its.map (·.1) = wr) (X : Itr prog w A target g I wr n P s.heap) (hw : ∀ b ∈ wr, b ∉ c.wr) (S : St c L g (its ++ own) lm s) (hn : n ≤ 1000000)
    (hcell : ∀ y ∈ scope.names, y.2 ≠ .cell) (hkind : scope.kind = .function)
    (h0 : J 0 g own [])
    (step : ∀ C hid i v g₁ own₁ xs s₁, i < n → P i v s₁.heap → Le g g₁ → J i g₁ own₁ xs → xs.length ≤ i → St c C g₁ (hid ++ own₁) [] s₁ →
      ∀ (Qe : Value → Shared → Prop) (Qs : Shared → Prop), (∀ x s₄, (∃ g₂ own₂ lm₂, Le g₁ g₂ ∧ St c C g₂ (hid ++ own₂) lm₂ s₄ ∧ J (i + 1) g₂ own₂ (xs ++ [x])) → Qe x s₄) →
      (∀ s₃, (∃ g₂ own₂ lm₂, Le g₁ g₂ ∧ St c C g₂ (hid ++ own₂) lm₂ s₃ ∧ J (i + 1) g₂ own₂ xs) → Qs s₃) →
      wpAny (model prog w) A (assign target (compEnvC scope cl C env) v) (fun _ s₂ => wpAny (model prog w) A (tests ifs (compEnvC scope cl C env)) (fun ok s₃ =>
        if ok = true then wpAny (model prog w) A (eval elt (compEnvC scope cl C env)) Qe Nev s₃ else Qs s₃) Nev s₂) Nev s₁)
    (done : ∀ D k g' own' xs s', D ∉ c.wr → Le g g' → St c L g' ((D, lobj xs k) :: own') lm s' → J n g' own' xs → xs.length ≤ n → Q (.ref D) s') :
    wpAny (model prog w) A (newList []) (fun acc s₃ => wpAny (model prog w) A (newFunctionEnv scope env.globals cl [] env.qual none .none (some env)) (fun cenv s₄ =>
        codeAny (model prog w) A (.compStart (.ListComp elt [⟨target, iter, ifs, 0⟩] scope pos) 0 (.ref I) acc { cenv with scope := relabel scope env }) (compPost (model prog w) A Nev none Q acc cenv.locals) s₄) Nev s₃) Nev s := by
  refine compB J hits X hw S hn hcell hkind h0 (fun C hid i v g₁ own₁ xs s₁ a b d e f h => step C hid i v g₁ own₁ xs s₁ a b d e f h _ _ (fun _ _ h => h) fun _ h => h) fun C D k g' own' xs s' oL hDw hle SC SL hJ hxs => ?_
  obtain ⟨m, hm, _⟩ := SC.ns
  refine ⟨m, hm, fun h' hs => done D k g' own' xs _ hDw hle (SL.ext (t' := s'.toks) fun b o hb e => (hs.2 b fun q => ?_).trans e) hJ hxs⟩
  have nd := List.nodup_cons.mp SC.nodup
  rcases hb with hb | ⟨o', hb⟩ | ⟨hb, o', hb'⟩
  · refine nd.1 ?_
    rw [← q]
    rcases List.mem_cons.mp hb with h | h
    · rw [h]; simp
    · simp only [List.map_cons, List.mem_cons] at h ⊢
      rcases h with h | h
      · exact .inl h
      · exact .inr (.inr h)
  · have := SC.off C (.head _)
    rw [← q, hb] at this; cases this
  · rcases SC.mw C (.head _) with h | h
    · exact hb (q ▸ h)
    · rw [← q, hb'] at h; cases h

/-- stored under a name -/
theorem compA {y : Str} {py : Pos} {elt target iter : PySem.Expr} {ifs : List PySem.Expr} {scope : Scope} {pos : Pos} {cl : List (Str × Addr)} {I : Addr} {wr : List Addr} {n : Nat} {P : Nat → Value → Heap → Prop} {Q : Value → Shared → Prop}
    (J : Nat → Heap → List (Addr × Obj) → List Value → Prop)
    (hits : its.map (·.1) = wr) (X : Itr prog w A target g I wr n P s.heap) (hw : ∀ b ∈ wr, b ∉ c.wr) (S : St c L g (its ++ own) lm s) (hn : n ≤ 1000000)
    (hcell : ∀ y ∈ scope.names, y.2 ≠ .cell) (hkind : scope.kind = .function) (hy : env.kindOf y = some .local) (hL : env.locals = L)
    (h0 : J 0 g own [])
    (step : ∀ C hid i v g₁ own₁ xs s₁, i < n → P i v s₁.heap → Le g g₁ → J i g₁ own₁ xs → xs.length ≤ i → St c C g₁ (hid ++ own₁) [] s₁ →
      ∀ (Qe : Value → Shared → Prop) (Qs : Shared → Prop), (∀ x s₄, (∃ g₂ own₂ lm₂, Le g₁ g₂ ∧ St c C g₂ (hid ++ own₂) lm₂ s₄ ∧ J (i + 1) g₂ own₂ (xs ++ [x])) → Qe x s₄) →
      (∀ s₃, (∃ g₂ own₂ lm₂, Le g₁ g₂ ∧ St c C g₂ (hid ++ own₂) lm₂ s₃ ∧ J (i + 1) g₂ own₂ xs) → Qs s₃) →
      wpAny (model prog w) A (assign target (compEnvC scope cl C env) v) (fun _ s₂ => wpAny (model prog w) A (tests ifs (compEnvC scope cl C env)) (fun ok s₃ =>
        if ok = true then wpAny (model prog w) A (eval elt (compEnvC scope cl C env)) Qe Nev s₃ else Qs s₃) Nev s₂) Nev s₁)
    (done : ∀ D k g' own' xs s', D ∉ c.wr → Le g g' → St c L g' ((D, lobj xs k) :: own') ((y, .ref D) :: lm) s' → J n g' own' xs → xs.length ≤ n → Q .none s')
    (hek : env.scope.kind = .function := by rfl) :
    wpAny (model prog w) A (newList []) (fun acc s₃ => wpAny (model prog w) A (newFunctionEnv scope env.globals cl [] env.qual none .none (some env)) (fun cenv s₄ =>
        codeAny (model prog w) A (.compStart (.ListComp elt [⟨target, iter, ifs, 0⟩] scope pos) 0 (.ref I) acc { cenv with scope := relabel scope env }) (compPost (model prog w) A Nev (some (assign (.Name y py) env)) Q acc cenv.locals) s₄) Nev s₃) Nev s := by
  refine compB J hits X hw S hn hcell hkind h0 (fun C hid i v g₁ own₁ xs s₁ a b d e f h => step C hid i v g₁ own₁ xs s₁ a b d e f h _ _ (fun _ _ h => h) fun _ h => h) fun C D k g' own' xs s' oL hDw hle SC SL hJ hxs => ?_
  subst hL
  show wpAny (model prog w) A (assign (.Name y py) env (.ref D)) _ _ _
  have nd := List.nodup_cons.mp SC.nodup
  have hCL : C ≠ env.locals := fun q => nd.1 (by rw [q]; simp)
  obtain ⟨m, hm, _⟩ := SC.ns
  obtain ⟨mL, hmL, _⟩ := SL.ns
  refine wpAny_assign_Name (wpAny_storeName_local hy hmL (fun h₂ hn₂ hs₂ => ?_) (by rw [hek]; rfl))
  have SL2 : St c env.locals g' ((D, lobj xs k) :: own') ((y, .ref D) :: lm) { s' with heap := h₂, toks := s'.toks + 1 } := SL.store (fun m' hm' => by
    obtain ⟨o, es, ep, ho, hd, hk1, hf⟩ := hn₂
    refine ⟨o, es, ep, ho, hd, hk1, ?_⟩
    obtain ⟨o1, es1, ep1, ho1, hd1, hk2, hf1⟩ := hmL
    obtain ⟨o2, es2, ep2, ho2, hd2, hk3, hf2⟩ := hm'
    rw [ho1] at ho2
    cases ho2
    rw [hd1] at hd2
    cases hd2
    intro z
    have : mL = m' := by funext u; rw [← hf1 u, ← hf2 u]
    rw [← this]
    exact hf z) hs₂
  refine ⟨m, hm.sameBut hs₂ hCL, fun h' hs => done D k g' own' xs _ hDw hle (SL2.ext (t' := s'.toks + 1) fun b o hb e => (hs.2 b fun q => ?_).trans e) hJ hxs⟩
  rcases hb with hb | ⟨o', hb⟩ | ⟨hb, o', hb'⟩
  · refine nd.1 ?_
    rw [← q]
    rcases List.mem_cons.mp hb with h | h
    · rw [h]; simp
    · simp only [List.map_cons, List.mem_cons] at h ⊢
      rcases h with h | h
      · exact .inl h
      · exact .inr (.inr h)
  · have := SC.off C (.head _)
    rw [← q, hb] at this; cases this
  · rcases SC.mw C (.head _) with h | h
    · exact hb (q ▸ h)
    · rw [← q, hb'] at h; cases h
end
end Mine
end
section
set_option genInjectivity false
set_option genSizeOf false
set_option maxRecDepth 100000
namespace Mine
abbrev tobj (xs : List Value) (n : Nat) : Obj := { cls := .type "tuple", data := .seq xs.toArray n }

/-! ### data in a heap -/
def Rd (h : Heap) (v : Value) (d : PyData) : Prop := ∃ as, Reads h v d as
inductive RdA (h : Heap) : List Value → List PyData → Prop
  | nil : RdA h [] []
  | cons {v d vs ds} : Rd h v d → RdA h vs ds → RdA h (v :: vs) (d :: ds)
theorem Rd.up {h h' : Heap} {v : Value} {d : PyData} (x : Rd h v d) (k : Le h h') : Rd h' v d := let ⟨as, r⟩ := x; ⟨as, PyProof.Rows.Reads.keeps k r⟩
theorem RdA.up {h h' : Heap} (k : Le h h') : ∀ {vs ds}, RdA h vs ds → RdA h' vs ds
  | _, _, .nil => .nil
  | _, _, .cons a b => .cons (a.up k) (b.up k)
theorem RdA.of {h : Heap} : ∀ {ds vs as}, ReadsAll h vs ds as → RdA h vs ds
  | [], _, _, .nil => .nil
  | _ :: _, _, _, .cons a b => .cons ⟨_, a⟩ (RdA.of b)
theorem RdA.all {h : Heap} : ∀ {vs ds}, RdA h vs ds → ∃ as, ReadsAll h vs ds as
  | _, _, .nil => ⟨[], .nil⟩
  | _, _, .cons ⟨_, a⟩ b => let ⟨_, r⟩ := b.all; ⟨_, .cons a r⟩
theorem RdA.length {h : Heap} : ∀ {vs ds}, RdA h vs ds → vs.length = ds.length
  | _, _, .nil => rfl
  | _, _, .cons _ b => by simp [b.length]
theorem RdA.app {h : Heap} : ∀ {vs ds vs' ds'}, RdA h vs ds → RdA h vs' ds' → RdA h (vs ++ vs') (ds ++ ds')
  | _, _, _, _, .nil, b => b
  | _, _, _, _, .cons x a, b => .cons x (a.app b)
theorem RdA.one {h : Heap} {v d} (x : Rd h v d) : RdA h [v] [d] := .cons x .nil
theorem RdA.get {h : Heap} : ∀ {vs ds}, RdA h vs ds → ∀ {i : Nat} {d}, ds[i]? = some d → ∃ v, vs[i]? = some v ∧ Rd h v d
  | _, _, .nil, i, _, e => by simp at e
  | _, _, .cons x _, 0, _, e => by cases e; exact ⟨_, rfl, x⟩
  | _, _, .cons _ b, i + 1, _, e => b.get e
theorem RdA.at {h : Heap} : ∀ {vs ds}, RdA h vs ds → ∀ {i : Nat} {v}, vs[i]? = some v → ∃ d, ds[i]? = some d ∧ Rd h v d
  | _, _, .nil, i, _, e => by simp at e
  | _, _, .cons x _, 0, _, e => by cases e; exact ⟨_, rfl, x⟩
  | _, _, .cons _ b, i + 1, _, e => b.at e
theorem RdA.set {h : Heap} {v : Value} {d : PyData} (hv : Rd h v d) : ∀ {vs ds}, RdA h vs ds → ∀ i : Nat, RdA h (vs.set i v) (ds.set i d)
  | _, _, .nil, _ => .nil
  | _, _, .cons _ b, 0 => .cons hv b
  | _, _, .cons a b, i + 1 => .cons a (b.set hv i)
theorem RdA.drop {h : Heap} : ∀ {vs ds}, RdA h vs ds → ∀ i : Nat, RdA h (vs.drop i) (ds.drop i)
  | _, _, .nil, i => by simp; exact .nil
  | _, _, .cons a b, 0 => .cons a b
  | _, _, .cons _ b, i + 1 => b.drop i
theorem RdA.take {h : Heap} : ∀ {vs ds}, RdA h vs ds → ∀ i : Nat, RdA h (vs.take i) (ds.take i)
  | _, _, .nil, i => by simp; exact .nil
  | _, _, .cons _ _, 0 => .nil
  | _, _, .cons a b, i + 1 => .cons a (b.take i)
theorem RdA.rev {h : Heap} : ∀ {vs ds}, RdA h vs ds → RdA h vs.reverse ds.reverse
  | _, _, .nil => .nil
  | _, _, .cons a b => by rw [List.reverse_cons, List.reverse_cons]; exact b.rev.app (.one a)
theorem rd_list {h : Heap} {v : Value} {ds : List PyData} (x : Rd h v (.list ds)) : ∃ a vs, v = .ref a ∧ h.IsList a vs.toArray ∧ RdA h vs ds := by
  obtain ⟨as, r⟩ := x
  obtain ⟨a, l, bs, e, _, hl, ra⟩ := reads_list_items r
  exact ⟨a, l, e, hl, .of ra⟩
theorem rd_tuple {h : Heap} {v : Value} {ds : List PyData} (x : Rd h v (.tuple ds)) : ∃ a vs, v = .ref a ∧ h.IsTuple a vs.toArray ∧ RdA h vs ds := by
  obtain ⟨as, r⟩ := x
  obtain ⟨a, l, e, hl, ra⟩ := reads_tuple_items r
  exact ⟨a, l, e, hl, .of ra⟩
theorem rd_int {h : Heap} {v : Value} {n : Int} (x : Rd h v (.int n)) : ∃ t, v = .int n t := let ⟨_, r⟩ := x; let ⟨t, e, _⟩ := reads_int_inv r; ⟨t, e⟩
theorem rd_str {h : Heap} {v : Value} {n : Str} (x : Rd h v (.str n)) : ∃ t, v = .str n t := let ⟨_, r⟩ := x; let ⟨t, e, _⟩ := reads_str_inv r; ⟨t, e⟩
theorem Rd.int {h : Heap} (n : Int) (t : Tok) : Rd h (.int n t) (.int n) := ⟨_, .int n t⟩
theorem Rd.str {h : Heap} (n : Str) (t : Tok) : Rd h (.str n t) (.str n) := ⟨_, .str n t⟩
theorem Rd.none {h : Heap} : Rd h .none .none := ⟨_, .none⟩
theorem Rd.bool {h : Heap} (b : Bool) : Rd h (.bool b) (.bool b) := ⟨_, .bool b⟩
theorem Rd.list {h : Heap} {a : Addr} {vs : List Value} {ds : List PyData} (hl : h.IsList a vs.toArray) (r : RdA h vs ds) : Rd h (.ref a) (.list ds) := by
  obtain ⟨o, ho, hc, n, hd⟩ := hl
  obtain ⟨as, r⟩ := r.all
  exact ⟨_, reads_list_at ho hc hd (by simpa using r)⟩
theorem Rd.tuple {h : Heap} {a : Addr} {vs : List Value} {ds : List PyData} (hl : h.IsTuple a vs.toArray) (r : RdA h vs ds) : Rd h (.ref a) (.tuple ds) := by
  obtain ⟨o, ho, hc, n, hd⟩ := hl
  obtain ⟨as, r⟩ := r.all
  exact ⟨_, reads_tuple_at ho hc hd (by simpa using r)⟩
theorem lobj_is {h : Heap} {a : Addr} {xs : List Value} {k : Nat} (e : h.get? a = some (lobj xs k)) : h.IsList a xs.toArray := ⟨_, e, rfl, k, rfl⟩
theorem tobj_is {h : Heap} {a : Addr} {xs : List Value} {k : Nat} (e : h.get? a = some (tobj xs k)) : h.IsTuple a xs.toArray := ⟨_, e, rfl, k, rfl⟩

/-! ints -/
abbrev dI (ns : List Int) : List PyData := ns.map PyData.int
abbrev dT (ns : List Int) : PyData := .tuple (dI ns)
abbrev dP (ps : List (List Int)) : List PyData := ps.map dT
theorem dI_get {ns : List Int} {i : Nat} {n : Int} (h : ns[i]? = some n) : (dI ns)[i]? = some (.int n) := by simp [dI, h]
theorem RdA.ints {h : Heap} : ∀ {ns vs}, RdA h vs (dI ns) → IntsAre vs ns
  | [], _, .nil => .nil
  | n :: ns, _, .cons a b => by obtain ⟨t, rfl⟩ := rd_int a; exact .cons n t b.ints
theorem RdA.ofInts {h : Heap} : ∀ {vs ns}, IntsAre vs ns → RdA h vs (dI ns)
  | _, _, .nil => .nil
  | _, _, .cons n t r => .cons (.int n t) (RdA.ofInts r)

section
variable {prog : Program} {w : World} {A : Around} {E : Value → Shared → Prop} {s : Shared} {K : Frag} {c : Cs} {L : Addr} {g : Heap} {own : List (Addr × Obj)} {lm : List (Str × Value)} {env : Env}

/-! ### comparisons of data -/
theorem eq_data {a b : Value} {da db : PyData} {Q : Value → Shared → Prop} (ra : Rd s.heap a da) (rb : Rd s.heap b db) (ha : SeqAt.shaped da = true) (hb : SeqAt.shaped db = true) (hu : A.units + 64 < cLine)
    (h : Q (.bool (PyData.eqv da db)) s) : wpAny (model prog w) A (compareOp .Eq a b) Q E s := let ⟨_, ra⟩ := ra; let ⟨_, rb⟩ := rb; eq_dataH ra rb ha hb hu h
theorem ne_data {a b : Value} {da db : PyData} {Q : Value → Shared → Prop} (ra : Rd s.heap a da) (rb : Rd s.heap b db) (ha : SeqAt.shaped da = true) (hb : SeqAt.shaped db = true) (hu : A.units + 64 < cLine)
    (h : Q (.bool (!PyData.eqv da db)) s) : wpAny (model prog w) A (compareOp .NotEq a b) Q E s := let ⟨_, ra⟩ := ra; let ⟨_, rb⟩ := rb; ne_dataH ra rb ha hb hu h

/-! ### methods of built-in classes -/
theorem gm {a : Addr} {o : Obj} {T id : String} {name : Str} {pl : Sem Bool} {Q : Value × List Value → Shared → Prop} (ho : s.heap.get? a = some o) (hc : o.cls = .type T) (hd : o.dict = none) (pa : PlainAttrs T) (slot : Slot T name id)
    (hty : typeOf (.builtin id) = pure (.type "method_descriptor")) (h : Q (.builtin id, [.ref a]) s) : wpAny (model prog w) A (getMethod (.ref a) name pl) Q E s :=
  getMethod_builtin ⟨o, ho, hc⟩ pa slot hty (fun b e => by cases e; exact ⟨o, ho, hd⟩) h
theorem gm_append {a : Addr} {xs : List Value} {k : Nat} {pl : Sem Bool} {Q : Value × List Value → Shared → Prop} (S : St c L g own lm s) (hm : (a, lobj xs k) ∈ own) (h : Q (.builtin "list.append", [.ref a]) s) :
    wpAny (model prog w) A (getMethod (.ref a) (PySem.Str.ofString "append") pl) Q E s := gm (S.ow _ hm) rfl rfl F.plainAttrs_list F.slot_list_append F.type_list_append h
theorem gm_extend {a : Addr} {xs : List Value} {k : Nat} {pl : Sem Bool} {Q : Value × List Value → Shared → Prop} (S : St c L g own lm s) (hm : (a, lobj xs k) ∈ own) (h : Q (.builtin "list.extend", [.ref a]) s) :
    wpAny (model prog w) A (getMethod (.ref a) (PySem.Str.ofString "extend") pl) Q E s := gm (S.ow _ hm) rfl rfl F.plainAttrs_list F.slot_list_extend F.type_list_extend h
theorem gm_pop {a : Addr} {xs : List Value} {k : Nat} {pl : Sem Bool} {Q : Value × List Value → Shared → Prop} (S : St c L g own lm s) (hm : (a, lobj xs k) ∈ own) (h : Q (.builtin "list.pop", [.ref a]) s) :
    wpAny (model prog w) A (getMethod (.ref a) (PySem.Str.ofString "pop") pl) Q E s := gm (S.ow _ hm) rfl rfl F.plainAttrs_list F.slot_list_pop F.type_list_pop h
theorem l_append {a : Addr} {xs : List Value} {k : Nat} {x : Value} {pre post : List (Addr × Obj)} {Q : Value → Shared → Prop} (S : St c L g own lm s) (hown : own = pre ++ (a, lobj xs k) :: post) (hz : xs.length ≤ 1000000)
    (h : ∀ k' s', St c L g (pre ++ (a, lobj (xs ++ [x]) k') :: post) lm s' → Q .none s') : wpAny (model prog w) A (call (.builtin "list.append") [.ref a, x]) Q E s := by
  have ho := S.ow (a, lobj xs k) (by rw [hown]; simp)
  refine wpAny_list_append_plain ⟨k, ho⟩ (fun h' hl hs => ?_) (by rw [List.size_toArray]; have : sizeLine = 16777216 := rfl; omega)
  obtain ⟨k', hk'⟩ := hl
  exact h k' _ (S.turn (t' := s.toks) hown (o' := lobj (xs ++ [x]) k') (by rw [hk']; simp) hs.extBut)
theorem mapSeq_lobj (f : Array Value → Array Value) (xs ys : List Value) (k : Nat) (e : f xs.toArray = ys.toArray) : ∃ k', Obj.mapSeq f (lobj xs k) = lobj ys k' := by
  refine ⟨if (ys.toArray.size == xs.toArray.size) = true then k else k + 1, ?_⟩
  show Obj.mk _ _ _ _ = Obj.mk _ _ _ _
  rw [e]
theorem St.turnSeq (S : St c L g own lm s) {a : Addr} {xs ys : List Value} {k : Nat} {pre post : List (Addr × Obj)} {f : Array Value → Array Value} {t' : Nat} (hown : own = pre ++ (a, lobj xs k) :: post) (e : f xs.toArray = ys.toArray) :
    ∃ k', St c L g (pre ++ (a, lobj ys k') :: post) lm { s with heap := s.heap.update a (Obj.mapSeq f), toks := t' } := by
  have ho := S.ow (a, lobj xs k) (by rw [hown]; simp)
  obtain ⟨k', hk'⟩ := mapSeq_lobj f xs ys k e
  refine ⟨k', S.turn hown (o' := lobj ys k') ?_ (Heap.SameBut.update ..).extBut⟩
  rw [Heap.get?_update_self _ ho (by rw [hk']; rfl), hk']
theorem l_extendT {a b : Addr} {xs ys : List Value} {k j : Nat} {pre post : List (Addr × Obj)} {Q : Value → Shared → Prop} (S : St c L g own lm s) (hown : own = pre ++ (a, lobj xs k) :: post) (hb : s.heap.get? b = some (tobj ys j)) (hz : xs.length ≤ 1000000) (hy : ys.length ≤ 1000000)
    (h : ∀ k' s', St c L g (pre ++ (a, lobj (xs ++ ys) k') :: post) lm s' → Q .none s') : wpAny (model prog w) A (call (.builtin "list.extend") [.ref a, .ref b]) Q E s := by
  have ho := S.ow (a, lobj xs k) (by rw [hown]; simp)
  have sl : sizeLine = 16777216 := rfl
  obtain ⟨k', S'⟩ := S.turnSeq (t' := s.toks) hown (f := fun x => x ++ ys.toArray) (ys := xs ++ ys) (by simp)
  exact call_meets F.slot_list_extend ⟨_, ho, rfl⟩ F.entry_list_extend (F.args_list_extend_2 _ _) (AutoSeq1.list_extend_list_tuple_0 a xs.toArray k b ys.toArray j (extend_door (by simp; omega)) (by simp; omega) (by simp; omega)) ⟨ho, hb, h k' _ S'⟩
theorem l_extendL {a b : Addr} {xs ys : List Value} {k j : Nat} {pre post : List (Addr × Obj)} {Q : Value → Shared → Prop} (S : St c L g own lm s) (hown : own = pre ++ (a, lobj xs k) :: post) (hb : s.heap.get? b = some (lobj ys j)) (hz : xs.length ≤ 1000000) (hy : ys.length ≤ 1000000)
    (h : ∀ k' s', St c L g (pre ++ (a, lobj (xs ++ ys) k') :: post) lm s' → Q .none s') : wpAny (model prog w) A (call (.builtin "list.extend") [.ref a, .ref b]) Q E s := by
  have ho := S.ow (a, lobj xs k) (by rw [hown]; simp)
  have sl : sizeLine = 16777216 := rfl
  obtain ⟨k', S'⟩ := S.turnSeq (t' := s.toks) hown (f := fun x => x ++ ys.toArray) (ys := xs ++ ys) (by simp)
  exact call_meets F.slot_list_extend ⟨_, ho, rfl⟩ F.entry_list_extend (F.args_list_extend_2 _ _) (AutoSeq1.list_extend_list_list_0 a xs.toArray k b ys.toArray j (extend_door (by simp; omega)) (by simp; omega) (by simp; omega)) ⟨ho, hb, h k' _ S'⟩
theorem l_pop {a : Addr} {xs : List Value} {x : Value} {k : Nat} {pre post : List (Addr × Obj)} {Q : Value → Shared → Prop} (S : St c L g own lm s) (hown : own = pre ++ (a, lobj (xs ++ [x]) k) :: post) (hz : xs.length ≤ 1000000)
    (h : ∀ k' s', St c L g (pre ++ (a, lobj xs k') :: post) lm s' → Q x s') : wpAny (model prog w) A (call (.builtin "list.pop") [.ref a]) Q E s := by
  have ho := S.ow (a, lobj (xs ++ [x]) k) (by rw [hown]; simp)
  have sl : sizeLine = 16777216 := rfl
  obtain ⟨k', S'⟩ := S.turnSeq (t' := s.toks) hown (f := fun y => y.eraseIdxIfInBounds ((xs ++ [x]).toArray.size - 1)) (ys := xs) (by
    apply Array.ext'
    simp [Array.eraseIdxIfInBounds, List.eraseIdx_append_of_length_le])
  exact call_meets F.slot_list_pop ⟨_, ho, rfl⟩ F.entry_list_pop (F.args_list_pop_1 _) (MeetsSeq.list_pop_last a (xs ++ [x]).toArray k x (by simp) (by simp; omega)) ⟨ho, h k' _ S'⟩
theorem l_set {a : Addr} {xs : List Value} {k : Nat} {i : Int} {t : Tok} {v : Value} {pre post : List (Addr × Obj)} {Q : Unit → Shared → Prop} (S : St c L g own lm s) (hown : own = pre ++ (a, lobj xs k) :: post) (h0 : 0 ≤ i) (h1 : i < xs.length) (hz : xs.length ≤ 1000000)
    (h : ∀ k' s', St c L g (pre ++ (a, lobj (xs.set i.toNat v) k') :: post) lm s' → Q () s') : wpAny (model prog w) A (setItem (.ref a) (.int i t) v) Q E s := by
  have ho := S.ow (a, lobj xs k) (by rw [hown]; simp)
  obtain ⟨k', S'⟩ := S.turnSeq (t' := s.toks) hown (f := (·.setIfInBounds i.toNat v)) (ys := xs.set i.toNat v) (by simp)
  exact ki_setAt ho h0 (by omega) (by simpa using h1) (h k' _ S')
theorem l_setLast {a : Addr} {xs : List Value} {x : Value} {k : Nat} {t : Tok} {v : Value} {pre post : List (Addr × Obj)} {Q : Unit → Shared → Prop} (S : St c L g own lm s) (hown : own = pre ++ (a, lobj (xs ++ [x]) k) :: post) (hz : xs.length ≤ 1000000)
    (h : ∀ k' s', St c L g (pre ++ (a, lobj (xs ++ [v]) k') :: post) lm s' → Q () s') : wpAny (model prog w) A (setItem (.ref a) (.int (-1) t) v) Q E s := by
  have ho := S.ow (a, lobj (xs ++ [x]) k) (by rw [hown]; simp)
  have e : ((-1 : Int) + ((xs ++ [x]).toArray.size : Int)).toNat = xs.length := by simp; omega
  obtain ⟨k', S'⟩ := S.turnSeq (t' := s.toks) hown (f := (·.setIfInBounds ((-1 : Int) + ((xs ++ [x]).toArray.size : Int)).toNat v)) (ys := xs ++ [v]) (by rw [e]; simp)
  exact ki_setBack ho (by decide) (by simp; omega) (by decide) (h k' _ S')
end
end Mine
end
section
set_option maxRecDepth 100000
namespace Mine
abbrev edict : Obj := { cls := .type "dict", data := .dict #[] }
theorem ints_of {h : Heap} {a : Addr} {ns : List Int} (x : Rd h (.ref a) (.list (dI ns))) : Ints h a ns := by
  obtain ⟨b, vs, e, hl, r⟩ := rd_list x
  cases e
  exact ⟨vs, hl, r.ints⟩
section
variable {prog : Program} {w : World} {A : Around} {E : Value → Shared → Prop} {s : Shared} {K : Frag} {c : Cs} {L : Addr} {g : Heap} {own : List (Addr × Obj)} {lm : List (Str × Value)} {env : Env}
variable {KK : Type} [DecidableEq KK] {knd : KeyKind prog w KK} {k : KK} {key : Value} {kvs : List (KK × Value)} {d : Addr} {o : Obj}

theorem Gl.big {h : Heap} (G : Gl K g) (hg : Le g h) : sysModules < h.objs.size := modules_low (G.nolim.keeps hg)
theorem own_dict (S : St c L g own lm s) (hm : (d, o) ∈ own) (ho : o.IsDictOf knd kvs) : s.heap.DictOf knd d kvs := Heap.dictOf_iff.mpr ⟨o, S.ow _ hm, ho⟩
theorem dictOf_up {h h' : Heap} (x : h.DictOf knd d kvs) (k : Le h h') : h'.DictOf knd d kvs := x.keep k
theorem d_item {value slice : PySem.Expr} {v : Value} {Q : Value → Shared → Prop} (S : St c L g own lm s) (hm : s.heap.DictOf knd d kvs) (hkey : knd.is k key = true) (hv : valueAt kvs k = some v)
    (h : ∀ s', St c L g own lm s' → Q v s')
    (hs : subscripted slice false (.ref d) key = operate [.ref d, key] (getItem (.ref d) key)) : wpAny (model prog w) A (subscriptTail value slice (.ref d) key) Q E s :=
  tail_any hm.typeIs F.slot_dict_getitem.lookup (wpAny_getItem_of hkey hm.mapOf hv (h _ S.tok)) hs
theorem d_set {v : Value} {pre post : List (Addr × Obj)} {Q : Unit → Shared → Prop} (S : St c L g own lm s) (hown : own = pre ++ (d, o) :: post) (ho : o.IsDictOf knd kvs) (hkey : knd.is k key = true) (hz : kvs.length ≤ 100000)
    (h : ∀ o' s', o'.IsDictOf knd (stored kvs k v) → St c L g (pre ++ (d, o') :: post) lm s' → Q () s') : wpAny (model prog w) A (setItem (.ref d) key v) Q E s := by
  have hm := own_dict (d := d) (o := o) S (by rw [hown]; simp) ho
  refine wpAny_setItem_pairs (hsz := by have sl : sizeLine = 16777216 := rfl; omega) hkey hm fun h' hm' hs => ?_
  obtain ⟨o', ho', hd'⟩ := Heap.dictOf_iff.mp hm'
  exact h o' _ hd' (S.turn hown ho' hs.extBut)
theorem gm_get {pl : Sem Bool} {Q : Value × List Value → Shared → Prop} (hm : s.heap.DictOf knd d kvs) (h : Q (.builtin "dict.get", [.ref d]) s) :
    wpAny (model prog w) A (getMethod (.ref d) (PySem.Str.ofString "get") pl) Q E s := by
  obtain ⟨o, ho, hd⟩ := Heap.dictOf_iff.mp hm
  obtain ⟨es, ep, hx, _⟩ := hd
  exact gm ho hx.1 hx.2.1 F.plainAttrs_dict F.slot_dict_get F.type_dict_get h
/-- d.get(key) and d.get(key, dflt), behind the method -/
theorem d_get1 {pos : Pos} {e : PySem.Expr} {Q : Value → Shared → Prop} (hd : (d == sysModules) = false)
    (h : wpAny (model prog w) A (eval e env) (fun key s₁ => ∃ g₁ own₁ lm₁ k kvs, St c L g₁ own₁ lm₁ s₁ ∧ knd.is k key = true ∧ s₁.heap.DictOf knd d kvs ∧ ∀ s₂, St c L g₁ own₁ lm₁ s₂ → Q ((valueAt kvs k).getD .none) s₂) E s)
    (he : backTo pos (starEach [e] env) = [(false, eval e env)] := by rfl) :
    wpAny (model prog w) A (callWith pos (.builtin "dict.get") [.ref d] (backTo pos (starEach [e] env)) []) Q E s := by
  rw [he]
  refine wpAny_dict_get1 (knd := knd) hd (wpAny_mono h (fun key s₁ h₁ => ?_) fun _ _ e => e)
  obtain ⟨g₁, own₁, lm₁, k, kvs, S, hk, hm, hq⟩ := h₁
  exact ⟨k, valueAt kvs, hk, hm.mapOf, hq _ S.tok⟩
theorem d_get2 {pos : Pos} {e e' : PySem.Expr} {Q : Value → Shared → Prop} (hd : (d == sysModules) = false)
    (h : wpAny (model prog w) A (eval e env) (fun key s₁ => wpAny (model prog w) A (eval e' env) (fun dflt s₂ => ∃ g₁ own₁ lm₁ k kvs, St c L g₁ own₁ lm₁ s₂ ∧ knd.is k key = true ∧ s₂.heap.DictOf knd d kvs ∧ ∀ s₃, St c L g₁ own₁ lm₁ s₃ → Q ((valueAt kvs k).getD dflt) s₃) E s₁) E s)
    (he : backTo pos (starEach [e, e'] env) = [(false, eval e env), (false, eval e' env)] := by rfl) :
    wpAny (model prog w) A (callWith pos (.builtin "dict.get") [.ref d] (backTo pos (starEach [e, e'] env)) []) Q E s := by
  rw [he]
  refine wpAny_dict_get2 (knd := knd) hd (wpAny_mono h (fun key s₁ h₁ => wpAny_mono h₁ (fun dflt s₂ h₂ => ?_) fun _ _ e => e) fun _ _ e => e)
  obtain ⟨g₁, own₁, lm₁, k, kvs, S, hk, hm, hq⟩ := h₂
  exact ⟨k, valueAt kvs, hk, hm.mapOf, hq _ S.tok⟩
theorem d_in {Q : Value → Shared → Prop} (S : St c L g own lm s) (hd : (d == sysModules) = false) (hm : s.heap.DictOf knd d kvs) (hkey : knd.is k key = true)
    (h : ∀ s', St c L g own lm s' → Q (.bool (valueAt kvs k).isSome) s') : wpAny (model prog w) A (compareOp .In key (.ref d)) Q E s := wpAny_in_of hkey hd hm.mapOf (h _ S.tok)
theorem d_notIn {Q : Value → Shared → Prop} (S : St c L g own lm s) (hd : (d == sysModules) = false) (hm : s.heap.DictOf knd d kvs) (hkey : knd.is k key = true)
    (h : ∀ s', St c L g own lm s' → Q (.bool (!(valueAt kvs k).isSome)) s') : wpAny (model prog w) A (compareOp .NotIn key (.ref d)) Q E s := wpAny_notIn_of hkey hd hm.mapOf (h _ S.tok)
theorem edict_is : edict.IsDictOf knd [] := by
  have := Heap.dictOf_iff.mp (Heap.DictOf.new (knd := knd) ({} : Heap))
  obtain ⟨o, ho, hd⟩ := this
  rw [Heap.get?_push_size _ rfl] at ho
  cases ho
  exact hd
theorem d_disp {keys : List (Option PySem.Expr)} {values : List PySem.Expr} {pos : Pos} {pairs : List (Sem Value × Sem Value)} {Q : Value → Shared → Prop} (knd : KeyKind prog w KK) (S : St c L g own lm s) (G : Gl K g)
    (hshape : (evalEachOpt keys env).zip ((evalEach values env).map fun v => do let x ← v; standAt pos; pure x) = pairs.map fun p => (some p.1, p.2)) (h0 : pairs ≠ []) (hlen : pairs.length ≤ 15)
    (h : ∀ D s', (D == sysModules) = false → D ∉ c.wr → St c L g ((D, edict) :: own) lm s' → wpAny (model prog w) A (evalPairs pairs) (fun vs s₁ => ∃ g₁ pre post lm₁ kvs, St c L g₁ (pre ++ (D, edict) :: post) lm₁ s₁ ∧ Carries knd vs kvs ∧
      ∀ o' s₂, o'.IsDictOf knd (merged [] kvs) → St c L g₁ (pre ++ (D, o') :: post) lm₁ s₂ → Q (.ref D) s₂) E s') :
    wpAny (model prog w) A (eval (.Dict keys values pos) env) Q E s := by
  have hb := G.big S.keep
  refine wpAny_Dict_pairs (knd := knd) hshape h0 hlen (wpAny_mono (h s.heap.objs.size { s with heap := s.heap.push edict } (beq_eq_false_iff_ne.mpr (Nat.ne_of_gt hb)) (S.notWr (none_at_size _ (Nat.le_refl _))) (S.push edict rfl (t' := s.toks))) (fun vs s₁ h₁ => ?_) fun _ _ e => e)
  obtain ⟨g₁, pre, post, lm₁, kvs, S₁, hc, hq⟩ := h₁
  refine ⟨kvs, hc, Heap.dictOf_iff.mpr ⟨edict, S₁.ow (s.heap.objs.size, edict) (by simp), edict_is⟩, fun h' hm hs => ?_⟩
  obtain ⟨o', ho', hd'⟩ := Heap.dictOf_iff.mp hm
  exact hq o' _ hd' (S₁.turn rfl ho' hs.extBut)
theorem d_empty {pos : Pos} {Q : Value → Shared → Prop} (S : St c L g own lm s) (G : Gl K g)
    (h : ∀ D s', (D == sysModules) = false → D ∉ c.wr → St c L g ((D, edict) :: own) lm s' → Q (.ref D) s') : wpAny (model prog w) A (eval (.Dict [] [] pos) env) Q E s := by
  have hb := G.big S.keep
  exact wpAny_Dict_empty (h _ _ (beq_eq_false_iff_ne.mpr (Nat.ne_of_gt hb)) (S.notWr (none_at_size _ (Nat.le_refl _))) (S.push edict rfl (t' := s.toks)))
end

/-! ### displays, conditional parts -/
section
variable {prog : Program} {w : World} {A : Around} {E : Value → Shared → Prop} {s : Shared} {K : Frag} {c : Cs} {L : Addr} {g : Heap} {own : List (Addr × Obj)} {lm : List (Str × Value)} {env : Env}
theorem new_tuple {vs : List Value} {Q : Value → Shared → Prop} (S : St c L g own lm s) (hz : vs.length ≤ 1000000) (h : ∀ D s', D ∉ c.wr → St c L g ((D, tobj vs 0) :: own) lm s' → Q (.ref D) s') : wpAny (model prog w) A (newTuple vs) Q E s :=
  wpAny_newObj_type (h _ _ (S.notWr (none_at_size _ (Nat.le_refl _))) (S.push (tobj vs 0) rfl (t' := s.toks))) (by show vs.toArray.size ≤ sizeLine; rw [List.size_toArray]; have sl : sizeLine = 16777216 := rfl; omega)
theorem new_list {vs : List Value} {Q : Value → Shared → Prop} (S : St c L g own lm s) (hz : vs.length ≤ 1000000) (h : ∀ D s', D ∉ c.wr → St c L g ((D, lobj vs 0) :: own) lm s' → Q (.ref D) s') : wpAny (model prog w) A (newList vs) Q E s :=
  wpAny_newObj_type (h _ _ (S.notWr (none_at_size _ (Nat.le_refl _))) (S.push (lobj vs 0) rfl (t' := s.toks))) (by show vs.toArray.size ≤ sizeLine; rw [List.size_toArray]; have sl : sizeLine = 16777216 := rfl; omega)
end
end Mine
namespace Mine
theorem ite_nt {b : Bool} {p q : Prop} (h : b = true) (hq : q) : if (!b) = true then p else q := by rw [h]; exact hq
theorem ite_nf {b : Bool} {p q : Prop} (h : b = false) (hp : p) : if (!b) = true then p else q := by rw [h]; exact hp
theorem ite_is {b : Bool} {p q : Prop} (h : b = true) (hp : p) : if b = true then p else q := by rw [if_pos h]; exact hp
theorem ite_isnt {b : Bool} {p q : Prop} (h : b = false) (hq : q) : if b = true then p else q := by rw [h]; exact hq
end Mine
namespace Mine
theorem bits_mod {a b : Int} (hb : 0 < b ∧ b < 2 ^ 62) : Builtin.Int.intBits (a.fmod b) ≤ 64 := intBits_le_64 (by have := Int.fmod_nonneg_of_pos a hb.1; omega) (by have := Int.fmod_lt_of_pos a hb.1; omega)
theorem mul_mod {a b x : Int} (hb : 0 < b ∧ b < 2 ^ 62) : IntMulOk x (a.fmod b) := IntMulOk.of_right (bits_mod hb)
theorem mul_c {a b : Int} (hb : Builtin.Int.intBits b ≤ 64) : IntMulOk a b := IntMulOk.of_right hb
end Mine
namespace Mine
theorem sk {prog : Program} {w : World} (x : Str) (t : Tok) : (PySem.strKind prog w).is x (.str x t) = true := strKind_is prog w x t
theorem ik {prog : Program} {w : World} (x : Int) (t : Tok) : (PySem.intKind prog w).is x (.int x t) = true := intKind_is prog w x t
theorem ds_item {prog : Program} {w : World} {A : Around} {E : Value → Shared → Prop} {s : Shared} {c : Cs} {L : Addr} {g : Heap} {own : List (Addr × Obj)} {lm : List (Str × Value)} {kvs : List (Str × Value)} {d : Addr} {o : Obj} {x : Str} {t : Tok}
    {value slice : PySem.Expr} {v : Value} {Q : Value → Shared → Prop} (S : St c L g own lm s) (ho : o.IsDictOf (PySem.strKind prog w) kvs) (hm : (d, o) ∈ own) (hv : valueAt kvs x = some v)
    (hs : subscripted slice false (.ref d) (.str x t) = operate [.ref d, .str x t] (getItem (.ref d) (.str x t)))
    (h : ∀ s', St c L g own lm s' → Q v s') : wpAny (model prog w) A (subscriptTail value slice (.ref d) (.str x t)) Q E s :=
  d_item S (own_dict S hm ho) (sk x t) hv h hs
end Mine
end
section
set_option genInjectivity false
set_option genSizeOf false
set_option maxRecDepth 100000
namespace Mine
/-- a def of the text under its name -/
structure Fn (K : Frag) (x : Str) (f : Addr) (i : Nat) : Prop where
  n : nsIn K mainGlobals x = some (some (.ref f))
  k : keepIn K (.ref f) = true
  s : FnS K f "" .none (topAt i)
/-- .. with one default -/
structure FnD (K : Frag) (x : Str) (f T : Addr) (i : Nat) : Prop where
  n : nsIn K mainGlobals x = some (some (.ref f))
  k : keepIn K (.ref f) = true
  s : FnS K f "" (.ref T) (topAt i)
  d : ∃ v o n, K.lookup T = some o ∧ o.data = .seq #[v] n
structure Fns (K : Frag) where
  bi : Bi K
  place : Addr
  hplace : Fn K "place_by_half" place 5
  supper : Addr
  hsupper : Fn K "simple_upper" supper 45
  slower : Addr
  hslower : Fn K "simple_lower" slower 46
  stitle : Addr
  hstitle : Fn K "simple_title" stitle 47
  base : Addr
  hbase : Fn K "case_base" base 48
  ctxt : Addr
  hctxt : Fn K "case_context" ctxt 57
  cond : Addr
  hcond : Fn K "case_condition" cond 58
  conds : Addr
  hconds : Fn K "case_conditions" conds 59
  spec : Addr
  hspec : Fn K "case_special" spec 60
  upat : Addr
  upatT : Addr
  hupat : FnD K "upper_at" upat upatT 61
  loat : Addr
  loatT : Addr
  hloat : FnD K "lower_at" loat loatT 62
  tiat : Addr
  tiatT : Addr
  htiat : FnD K "title_at" tiat tiatT 63
  cjoin : Addr
  hcjoin : Fn K "case_joined" cjoin 64
  uppcs : Addr
  uppcsT : Addr
  huppcs : FnD K "upper_pieces" uppcs uppcsT 65
  lopcs : Addr
  lopcsT : Addr
  hlopcs : FnD K "lower_pieces" lopcs lopcsT 66
  upper : Addr
  upperT : Addr
  hupper : FnD K "upper" upper upperT 67
  lower : Addr
  lowerT : Addr
  hlower : FnD K "lower" lower lowerT 68
  first : Addr
  hfirst : Fn K "case_first_cased" first 69
  segs : Addr
  hsegs : Fn K "case_segments" segs 70
  tipcs : Addr
  tipcsT : Addr
  htipcs : FnD K "title_pieces" tipcs tipcsT 72
  title : Addr
  titleT : Addr
  htitle : FnD K "title" title titleT 73
  edits : Addr
  hedits : Fn K "case_edits" edits 74
  like : Addr
  hlike : Fn K "range_are_like" like 79
  dflts : Addr
  hdflts : Fn K "data_defaults" dflts 83
  deck : Addr
  hdeck : Fn K "_law_deck" deck 86
  draw : Addr
  hdraw : Fn K "_law_draw" draw 87
  pick : Addr
  hpick : Fn K "_law_pick" pick 88
  codes : Addr
  hcodes : Fn K "_law_codes" codes 89
  lspec : Addr
  hlspec : Fn K "_law_special" lspec 90
  told : Addr
  htold : Fn K "_law_told" told 91
  data : Addr
  hdata : Fn K "_law_data" data 92
  simple : Addr
  hsimple : Fn K "_law_simple" simple 93
  full : Addr
  hfull : Fn K "_law_full" full 94
  joined : Addr
  hjoined : Fn K "_law_joined" joined 95
  ltitle : Addr
  hltitle : Fn K "_law_title" ltitle 96
  stretch : Addr
  hstretch : Fn K "_law_stretches" stretch 97
  right : Addr
  hright : Fn K "_law_right" right 98

section
variable {prog : Program} {w : World} {A : Around} {s : Shared} {K : Frag} {g : Heap} {own : List (Addr × Obj)}
/-- a pure def -/
theorem enter0 {R : Result → Shared → Prop} {f : Addr} {name qual : Str} {params : Arguments} {body : List Stmt} {scope : Scope} {args : List Value} (binds : List (Str × Value))
    (hf : FnIs K f name qual params body scope .none) (G : Gl K g) (hg : Le g s.heap) (hA : Rm A 1)
    (hbind : ∀ kV doc pm an cdv ct, bindArgs (fnOf name qual params body scope .none kV doc pm an cdv ct) ⟨args, []⟩ = pure binds)
    (hcn : ((cellsFrom 0 scope.names []).map (·.1)).Nodup) (hkind : KindsOk scope (s.heap.objs.size + 1) binds)
    (hm : AllP (fun p => bindL (fun x => scope.names.lookup x) binds (fun _ => none) p.1 = some p.2) binds)
    (h : ∀ L cdv cs s₁, Zip2 (fun nc co => co.1 = nc.2 ∧ co.2.data = .cell (bindC (fun x => scope.names.lookup x) binds (fun _ => none) nc.1)) (cellsFrom (L + 1) scope.names []) cs →
      let e := fe scope L f qual cdv; let a := A.deeper e; let c : Cs := ⟨s, g, []⟩; let l := binds; St c L g (cs ++ []) l s₁ →
      ∀ Q : Flow → Shared → Prop, (∀ v s', R (.ok (.ret v)) s' → Q (.ret v) s') → (∀ s', R (.ok (.ret .none)) s' → Q .next s') → wpAny (model prog w) a (execs body e) Q Nev s₁)
    (hco : scope.isCoroutine = false) (hgen : scope.isGenerator = false) (hk : scope.kind = .function) :
    codeAny (model prog w) A (.call (.ref f) ⟨args, []⟩) R s :=
  enter (own := []) binds binds hf G hg (by have := hA.d; omega) (fun _ h => nomatch h) List.nodup_nil (fun _ h => nomatch h) (fun _ _ _ _ _ _ => BindsTo.of_eq (hbind _ _ _ _ _ _)) hcn hkind hm h hco hgen hk
end
section
variable {prog : Program} {w : World} {A : Around} {s : Shared} {K : Frag} {c : Cs} {L : Addr} {g : Heap} {own : List (Addr × Obj)} {lm : List (Str × Value)} {env : Env}
theorem callC {f : Value} {vs : List Value} {Q : Value → Shared → Prop} {E : Value → Shared → Prop}
    (h : codeAny (model prog w) A (.call f ⟨vs, []⟩) (fun r s' => match r with | .ok (.ret v) => Q v s' | .ok _ => False | .error e => E e s') s) : wpAny (model prog w) A (call f vs) Q E s := wpAny_call h
/-- behind a call that turned nothing -/
theorem St.back0 {g' : Heap} {s' : Shared} (S : St c L g own lm s) (A : Aft s g [] g' [] s') : St c L g' own lm s' := S.back (ownc := []) (own' := []) A
end
end Mine
namespace Mine
section
variable {c : Cs} {L : Addr} {g : Heap} {own : List (Addr × Obj)} {lm : List (Str × Value)} {s : Shared}
theorem St.backA {own' : List (Addr × Obj)} {g' : Heap} {s' : Shared} (S : St c L g own lm s) (A : Aft s g (own.map (·.1)) g' own' s') : St c L g' own' lm s' := by
  have S' : St c L g (own ++ []) lm s := by rw [List.append_nil]; exact S
  have := S'.back (own' := own') A
  rwa [List.append_nil] at this
theorem St.nd (S : St c L g own lm s) : (own.map (·.1)).Nodup := (List.nodup_cons.mp S.nodup).2
theorem St.offo (S : St c L g own lm s) : ∀ a ∈ own.map (·.1), g.get? a = none := fun a ha => S.off a (.tail _ ha)
end
end Mine
end
section
set_option maxRecDepth 100000
namespace Mine
section
variable {prog : Program} {w : World} {A : Around} {E : Value → Shared → Prop} {s : Shared} {K : Frag} {c : Cs} {L : Addr} {g : Heap} {own its : List (Addr × Obj)} {lm : List (Str × Value)} {env : Env}

/-- a list comprehension's syntax -/
theorem lc {elt target iter : PySem.Expr} {ifs : List PySem.Expr} {scope : Scope} {pos : Pos} {cl : List (Str × Addr)} {Q : Value → Shared → Prop}
    (hclos : closureFor scope env = pure cl) (hkind : scope.kind = .function) (hnames : ∀ x ∈ scope.names, x.2 = .local → scope.names.lookup x.1 = some .local)
    (h : wpAny (model prog w) A (eval iter env) (fun x s₁ => wpAny (model prog w) A (pyIter x) (fun it s₂ => wpAny (model prog w) A (newList []) (fun acc s₃ =>
      wpAny (model prog w) A (newFunctionEnv scope env.globals cl [] env.qual none .none (some env)) (fun cenv s₄ =>
        codeAny (model prog w) A (.compStart (.ListComp elt [⟨target, iter, ifs, 0⟩] scope pos) 0 it acc { cenv with scope := relabel scope env }) (compPost (model prog w) A E none Q acc cenv.locals) s₄) E s₃) E s₂) E s₁) E s)
    (hs : ∀ x, foldedSetIterable iter env x = pure x := by intro _; rfl) :
    wpAny (model prog w) A (eval (.ListComp elt [⟨target, iter, ifs, 0⟩] scope pos) env) Q E s := by
  rw [eval_ListComp]
  exact wpAny_comprehension_free rfl hs hclos hkind hnames h
/-- y = [..] -/
theorem la {y : Str} {py spos : Pos} {elt target iter : PySem.Expr} {ifs : List PySem.Expr} {scope : Scope} {pos : Pos} {cl : List (Str × Addr)} {Q : Flow → Shared → Prop}
    (hsw : swapsWith (.ListComp elt [⟨target, iter, ifs, 0⟩] scope pos) (some (.Name y py)) spos.line env = pure true)
    (hclos : closureFor scope env = pure cl) (hkind : scope.kind = .function) (hnames : ∀ x ∈ scope.names, x.2 = .local → scope.names.lookup x.1 = some .local)
    (h : wpAny (model prog w) A (eval iter env) (fun x s₁ => wpAny (model prog w) A (pyIter x) (fun it s₂ => wpAny (model prog w) A (newList []) (fun acc s₃ =>
      wpAny (model prog w) A (newFunctionEnv scope env.globals cl [] env.qual none .none (some env)) (fun cenv s₄ =>
        codeAny (model prog w) A (.compStart (.ListComp elt [⟨target, iter, ifs, 0⟩] scope pos) 0 it acc { cenv with scope := relabel scope env }) (compPost (model prog w) A E (some (assign (.Name y py) env)) (fun _ => Q .next) acc cenv.locals) s₄) E s₃) E s₂) E s₁) E s)
    (hs : ∀ x, foldedSetIterable iter env x = pure x := by intro _; rfl) :
    wpAny (model prog w) A (exec (.Assign [.Name y py] (.ListComp elt [⟨target, iter, ifs, 0⟩] scope pos) spos) env) Q E s := by
  rw [exec_Assign_Name_used _ _ _ _ hsw]
  refine wpAny_bind (wpAny_standAt (wpAny_bind ?_))
  show wpAny _ A (do let _ ← comprehension (.ListComp elt [⟨target, iter, ifs, 0⟩] scope pos) scope env _ (newList []) false (eval iter env) (some (assign (.Name y py) env))) _ _ s
  exact wpAny_bind (wpAny_mono (wpAny_comprehension_free (use := some (assign (.Name y py) env)) (Q := fun _ s' => Q .next s') rfl hs hclos hkind hnames h) (fun _ s' hq => wpAny_pure (wpAny_pure hq)) fun _ _ e => e)

/-- for over an iterator in hand -/
theorem forI {target : PySem.Expr} {body : List Stmt} {I : Addr} {wr : List Addr} {n : Nat} {P : Nat → Value → Heap → Prop} {R : Result → Shared → Prop}
    (J : Nat → Heap → List (Addr × Obj) → List (Str × Value) → Prop)
    (hits : its.map (·.1) = wr) (X : Itr prog w A target g I wr n P s.heap) (hw : ∀ b ∈ wr, b ∉ c.wr) (S : St c L g (its ++ own) lm s)
    {lm₁ : List (Str × Value)} (h0 : J 0 g own lm₁) (hv : AllP (fun p => lm.lookup p.1 = some p.2) lm₁)
    (step : ∀ i v g₁ own₁ lm₁ s₁ its₁, i < n → P i v s₁.heap → Le g g₁ → J i g₁ own₁ lm₁ → St c L g₁ (its₁ ++ own₁) lm₁ s₁ →
      ∀ Q : Flow → Shared → Prop, (∀ s₃, (∃ g₂ own₂ lm₂, Le g₁ g₂ ∧ St c L g₂ (its₁ ++ own₂) lm₂ s₃ ∧ J (i + 1) g₂ own₂ lm₂) → Q .next s₃) →
      (∀ s₃, (∃ g₂ own₂ lm₂, Le g₁ g₂ ∧ St c L g₂ (its₁ ++ own₂) lm₂ s₃ ∧ J (i + 1) g₂ own₂ lm₂) → Q .cont s₃) →
      (∀ s₃, R (.ok .next) s₃ → Q .brk s₃) → (∀ v s₃, R (.ok (.ret v)) s₃ → Q (.ret v) s₃) →
      wpAny (model prog w) A (assign target env v) (fun _ s₂ => wpAny (model prog w) A (execs body env) Q Nev s₂) Nev s₁)
    (done : ∀ g' own' lm' s', Le g g' → St c L g' own' lm' s' → J n g' own' lm' → R (.ok .next) s') :
    codeAny (model prog w) A (.forLoop target (.ref I) body [] env) R s := by
  obtain ⟨fp, Md, Sti, W, hlive, hst, hfp, _⟩ := X
  exact forT W hlive J S hits hst hfp hw h0 hv (fun i v g₁ own₁ lm₁ s₁ its₁ a b d e _ f => step i v g₁ own₁ lm₁ s₁ its₁ a b d e f _ (fun _ h => h) (fun _ h => h) (fun _ h => h) (fun _ _ h => h)) done
theorem forEnd {J : Heap → List (Addr × Obj) → List (Str × Value) → Prop} {g₁ : Heap} {lm' : List (Str × Value)} {own₂ : List (Addr × Obj)} (S : St c L g (its ++ own₂) lm s) (hle : Le g₁ g) (hJ : J g own₂ lm') (hv : AllP (fun p => lm.lookup p.1 = some p.2) lm') :
    ∃ g₂ own₂ lm₂, Le g₁ g₂ ∧ St c L g₂ (its ++ own₂) lm₂ s ∧ J g₂ own₂ lm₂ := ⟨g, own₂, lm', hle, S.vars lm' hv.all, hJ⟩

/-- an iterator over range(b) -/
theorem range1_it {b : Int} {t : Tok} {Q : Value → Shared → Prop} (hA : A.handled = none) (S : St c L g own lm s) (hb : 0 ≤ b ∧ b ≤ 1000000)
    (h : ∀ I its s', its.map (·.1) = [I] → (∀ target, Itr prog w A target g I [I] b.toNat (fun i v _ => ∃ t, v = .int i t) s'.heap) → (∀ b ∈ [I], b ∉ c.wr) → St c L g (its ++ own) lm s' → Q (.ref I) s') :
    wpAny (model prog w) A (call (.type "range") [.int b t]) (fun x s₁ => wpAny (model prog w) A (pyIter x) Q Nev s₁) Nev s := by
  refine call_range_1 ?_
  have hn := none_at_size s.heap (Nat.le_refl _)
  have S1 := S.push { cls := .type "range", data := .fields #[.int 0 s.toks, .int b t, .int 1 (s.toks + 1)] } rfl (t' := s.toks + 1 + 1)
  refine start_range hA S1 (IsRange.new _ _ _ _ _ _ _) ⟨Int.le_refl _, hb.1⟩ hb.2 fun I its s' hi X hw S' => ?_
  have e : (b - 0).toNat = b.toNat := by omega
  rw [e] at X
  refine h I its s' hi (fun target => by
    obtain ⟨fp, Md, Sti, W, r⟩ := X target
    exact ⟨fp, Md, Sti, ⟨W.sub, W.frame, W.item, fun i v s Q E hm hq => W.go i v s Q E hm fun h' hP => hq h' (by obtain ⟨t, e⟩ := hP; exact ⟨t, by rw [e]; simp⟩), W.done⟩, r⟩) hw (S'.drop (List.Sublist.append_left (List.sublist_cons_self _ _) _) fun b hb => ?_)
  have := S'.wo b hb
  rw [List.map_append, List.map_cons, List.mem_append, List.mem_cons] at this
  rw [List.map_append, List.mem_append]
  rcases this with h | h | h
  · exact .inl h
  · exact absurd hb (h ▸ S.notWr hn)
  · exact .inr h
theorem range2_it {a b : Int} {t u : Tok} {Q : Value → Shared → Prop} (hA : A.handled = none) (S : St c L g own lm s) (hb : 0 ≤ a ∧ a ≤ b ∧ b ≤ 1000000)
    (h : ∀ I its s', its.map (·.1) = [I] → (∀ target, Itr prog w A target g I [I] (b - a).toNat (fun i v _ => ∃ t, v = .int (a + i) t) s'.heap) → (∀ b ∈ [I], b ∉ c.wr) → St c L g (its ++ own) lm s' → Q (.ref I) s') :
    wpAny (model prog w) A (call (.type "range") [.int a t, .int b u]) (fun x s₁ => wpAny (model prog w) A (pyIter x) Q Nev s₁) Nev s := by
  refine call_range_2 ?_
  have hn := none_at_size s.heap (Nat.le_refl _)
  have S1 := S.push { cls := .type "range", data := .fields #[.int a t, .int b u, .int 1 s.toks] } rfl (t' := s.toks + 1)
  refine start_range hA S1 (IsRange.new _ _ _ _ _ _ _) ⟨hb.1, hb.2.1⟩ hb.2.2 fun I its s' hi X hw S' => ?_
  refine h I its s' hi X hw (S'.drop (List.Sublist.append_left (List.sublist_cons_self _ _) _) fun b hb => ?_)
  have := S'.wo b hb
  rw [List.map_append, List.map_cons, List.mem_append, List.mem_cons] at this
  rw [List.map_append, List.mem_append]
  rcases this with h | h | h
  · exact .inl h
  · exact absurd hb (h ▸ S.notWr hn)
  · exact .inr h

/-- tuple(l), list(x) -/
theorem c_tupleL {l : Addr} {vs : List Value} {Q : Value → Shared → Prop} (S : St c L g own lm s) (hl : s.heap.IsList l vs.toArray) (hz : vs.length ≤ 1000000)
    (h : ∀ D s', D ∉ c.wr → St c L g ((D, tobj vs 0) :: own) lm s' → Q (.ref D) s') : wpAny (model prog w) A (call (.type "tuple") [.ref l]) Q E s := by
  refine call_tuple_list hl (fun h' hk => ?_) (by rw [List.size_toArray]; have sl : sizeLine = 16777216 := rfl; omega)
  have S1 : St c L g own lm { s with heap := h', toks := s.toks } := S.le hk
  exact h _ _ (S1.notWr (none_at_size _ (Nat.le_refl _))) (S1.push (tobj vs 0) rfl (t' := s.toks))
theorem c_listS {l : Addr} {vs : List Value} {Q : Value → Shared → Prop} (S : St c L g own lm s) (hl : s.heap.IsList l vs.toArray) (hz : vs.length ≤ 1000000)
    (h : ∀ D k s', D ∉ c.wr → St c L g ((D, lobj vs k) :: own) lm s' → Q (.ref D) s') : wpAny (model prog w) A (call (.type "list") [.ref l]) Q E s := by
  obtain ⟨o, ho, hc, n, hd⟩ := hl
  refine call_list_seq (hsz := by rw [List.size_toArray]; have sl : sizeLine = 16777216 := rfl; omega) l (.inl rfl) ho hc hd fun h' c' hk hD => ?_
  have hn := S.notWr (none_at_size s.heap (Nat.le_refl _))
  exact h _ c' _ hn (S.new (t' := s.toks) hk (none_at_size _ (Nat.le_refl _)) hD hn)
end
end Mine
namespace Mine
section
variable {c : Cs} {L : Addr} {g : Heap} {ownc rest : List (Addr × Obj)} {lm : List (Str × Value)} {s : Shared}
theorem St.pow (S : St c L g (ownc ++ rest) lm s) : ∀ p ∈ ownc, s.heap.get? p.1 = some p.2 := fun p hp => S.ow p (List.mem_append_left _ hp)
theorem St.pnd (S : St c L g (ownc ++ rest) lm s) : (ownc.map (·.1)).Nodup := by
  have := S.nd
  rw [List.map_append, List.nodup_append] at this
  exact this.1
theorem St.poff (S : St c L g (ownc ++ rest) lm s) : ∀ a ∈ ownc.map (·.1), g.get? a = none := fun a ha => S.offo a (by rw [List.map_append]; exact List.mem_append_left _ ha)
/-- a new one goes behind -/
theorem St.behind {p : Addr × Obj} (S : St c L g (p :: ownc) lm s) : St c L g (ownc ++ [p]) lm s := S.perm (List.perm_append_singleton p ownc)
theorem St.ahead {p : Addr × Obj} (S : St c L g (ownc ++ [p]) lm s) : St c L g (p :: ownc) lm s := S.perm (List.perm_append_singleton p ownc).symm
end
end Mine
namespace Mine
theorem zip1 {cm : Str → Option Value} {p : Str × Addr} {cs : List (Addr × Obj)} (h : Zip2 (fun nc co => co.1 = nc.2 ∧ co.2.data = .cell (cm nc.1)) [p] cs) : ∃ o, cs = [(p.2, o)] ∧ o.data = .cell (cm p.1) := by
  cases h with
  | cons x r =>
    cases r
    rename_i b
    obtain ⟨a, o⟩ := b
    obtain ⟨rfl, e⟩ := x
    exact ⟨o, rfl, e⟩
theorem zipS {cm : Str → Option Value} {p : Str × Addr} {ps : List (Str × Addr)} {cs : List (Addr × Obj)} (h : Zip2 (fun nc co => co.1 = nc.2 ∧ co.2.data = .cell (cm nc.1)) (p :: ps) cs) :
    ∃ o cs', cs = (p.2, o) :: cs' ∧ o.data = .cell (cm p.1) ∧ Zip2 (fun nc co => co.1 = nc.2 ∧ co.2.data = .cell (cm nc.1)) ps cs' := by
  cases h with
  | cons x r =>
    rename_i b l
    obtain ⟨a, o⟩ := b
    obtain ⟨rfl, e⟩ := x
    exact ⟨o, _, rfl, e, r⟩
/-- a cell that is not turned any more -/
theorem St.cell {c : Cs} {L k : Addr} {g : Heap} {own : List (Addr × Obj)} {lm : List (Str × Value)} {s : Shared} {o : Obj} {v : Value} (S : St c L g ((k, o) :: own) lm s) (hd : o.data = .cell (some v)) (hw : k ∉ c.wr) :
    ∃ g', Le g g' ∧ St c L g' own lm s ∧ g'.IsCell k (some v) := by
  obtain ⟨g', le, S', e⟩ := S.freeze (pre := []) rfl hw
  exact ⟨g', le, S', o, e, hd⟩
theorem enter_fresh {c : Cs} {L : Addr} {g : Heap} {own cs : List (Addr × Obj)} {lm : List (Str × Value)} {s : Shared} (S : St c L g (cs ++ own) lm s) (hw : c.wr = own.map (·.1)) : ∀ a ∈ cs.map (·.1), a ∉ c.wr := fun a ha hb => by
  have := S.nd
  rw [List.map_append, List.nodup_append] at this
  rw [hw] at hb
  exact this.2.2 a ha a hb rfl
end Mine
namespace Mine
section
variable {c : Cs} {L : Addr} {g : Heap} {a b r : List (Addr × Obj)} {lm : List (Str × Value)} {s : Shared}
theorem St.mid (S : St c L g (a ++ (b ++ r)) lm s) : St c L g (b ++ (a ++ r)) lm s := S.perm (by
  rw [← List.append_assoc, ← List.append_assoc]
  exact List.Perm.append_right r List.perm_append_comm)
end
end Mine
namespace Mine
section
variable {c : Cs} {L : Addr} {g : Heap} {a a' b r : List (Addr × Obj)} {lm : List (Str × Value)} {s : Shared}
theorem St.mid2 (S : St c L g (a ++ (a' ++ (b ++ r))) lm s) : St c L g (b ++ (a ++ (a' ++ r))) lm s := by
  have S1 : St c L g ((a ++ a') ++ (b ++ r)) lm s := by rw [List.append_assoc]; exact S
  have S2 := S1.mid
  rwa [List.append_assoc] at S2
theorem St.dim2 (S : St c L g (b ++ (a ++ (a' ++ r))) lm s) : St c L g (a ++ (a' ++ (b ++ r))) lm s := by
  have S1 : St c L g (b ++ ((a ++ a') ++ r)) lm s := by rw [List.append_assoc]; exact S
  have S2 := S1.mid
  rwa [List.append_assoc] at S2
end
end Mine
namespace Mine
section
variable {prog : Program} {w : World} {A : Around} {E : Value → Shared → Prop} {s : Shared} {c : Cs} {L : Addr} {g : Heap} {own : List (Addr × Obj)} {lm : List (Str × Value)}
theorem mk_tuple {vs : List Value} {ds : List PyData} {Q : Value → Shared → Prop} (S : St c L g own lm s) (hr : RdA g vs ds) (hz : vs.length ≤ 1000000) (h : ∀ D g' s', Le g g' → St c L g' own lm s' → Rd g' (.ref D) (.tuple ds) → Q (.ref D) s') :
    wpAny (model prog w) A (newTuple vs) Q E s := by
  refine new_tuple S hz fun D s' hD S' => ?_
  obtain ⟨g', le, S2, hg⟩ := S'.freeze (pre := []) rfl hD
  exact h D g' s' le S2 (.tuple (tobj_is hg) (hr.up le))
theorem mk_list {vs : List Value} {ds : List PyData} {Q : Value → Shared → Prop} (S : St c L g own lm s) (hr : RdA g vs ds) (hz : vs.length ≤ 1000000) (h : ∀ D g' s', Le g g' → St c L g' own lm s' → Rd g' (.ref D) (.list ds) → Q (.ref D) s') :
    wpAny (model prog w) A (newList vs) Q E s := by
  refine new_list S hz fun D s' hD S' => ?_
  obtain ⟨g', le, S2, hg⟩ := S'.freeze (pre := []) rfl hD
  exact h D g' s' le S2 (.list (lobj_is hg) (hr.up le))
end
end Mine
namespace Mine
theorem dI_app (a b : List Int) : dI (a ++ b) = dI a ++ dI b := List.map_append
theorem RdA.snocI {h : Heap} {vs : List Value} {ns : List Int} {v : Value} {n : Int} (x : RdA h vs (dI ns)) (y : Rd h v (.int n)) : RdA h (vs ++ [v]) (dI (ns ++ [n])) := by rw [dI_app]; exact x.app (.one y)
theorem St.dropH {c : Cs} {L : Addr} {g : Heap} {p : Addr × Obj} {own : List (Addr × Obj)} {lm : List (Str × Value)} {s : Shared} (S : St c L g (p :: own) lm s) (h : p.1 ∉ c.wr) : St c L g own lm s :=
  S.drop (List.sublist_cons_self _ _) fun b hb => by
    have := S.wo b hb
    rw [List.map_cons, List.mem_cons] at this
    exact this.resolve_left fun e => h (e ▸ hb)
end Mine
end
section
set_option genInjectivity false
set_option genSizeOf false
set_option maxRecDepth 100000
set_option maxHeartbeats 1000000
namespace Mine
/-! ## instances of the text's classes -/
inductive EsOf : List DictEntry → List (Str × Value) → Prop
  | nil : EsOf [] []
  | cons {h x t v es kvs} : EsOf es kvs → EsOf (⟨h, .str x t, v⟩ :: es) ((x, v) :: kvs)
def AtD (o : Obj) (kvs : List (Str × Value)) : Prop := ∃ es n, o = dictOf es n ∧ EsOf es kvs
def putKv (x : Str) (v : Value) : List (Str × Value) → List (Str × Value)
  | [] => [(x, v)]
  | p :: r => if x == p.1 then (p.1, v) :: r else p :: putKv x v r
theorem putKv_len (x : Str) (v : Value) : ∀ kvs, (putKv x v kvs).length ≤ kvs.length + 1
  | [] => Nat.le_refl _
  | p :: r => by
    unfold putKv
    split
    · simp
    · have := putKv_len x v r; simp; omega
theorem isStr_str (x y : Str) (t : Tok) : (Value.str y t).isStr x = (x == y) := by
  show (y == x) = (x == y)
  exact Bool.beq_comm
theorem esOf_ref : ∀ {es kvs}, EsOf es kvs → es.any (·.refKey) = false
  | _, _, .nil => rfl
  | _, _, .cons r => by rw [List.any_cons, esOf_ref r]; rfl
theorem esOf_look (x : Str) : ∀ {es kvs}, EsOf es kvs → (es.find? (·.key.isStr x)).map (·.val) = kvs.lookup x
  | _, _, .nil => rfl
  | _, _, .cons (x := y) r => by
    rw [List.find?_cons, List.lookup_cons]
    dsimp only
    rw [isStr_str]
    cases x == y with
    | true => rfl
    | false => exact esOf_look x r
theorem esOf_put (x : Str) (hsh : Int) (t : Tok) (v : Value) : ∀ {es kvs}, EsOf es kvs → EsOf (putL x hsh (.str x t) v es) (putKv x v kvs)
  | _, _, .nil => .cons .nil
  | _, _, .cons (x := y) r => by
    unfold putL putKv
    dsimp only
    rw [isStr_str]
    cases x == y with
    | true => exact .cons r
    | false => exact .cons (esOf_put x hsh t v r)
theorem AtD.look {o : Obj} {kvs : List (Str × Value)} (x : Str) (h : AtD o kvs) : lookIn x o = some (kvs.lookup x) := by
  obtain ⟨es, n, rfl, h⟩ := h
  rw [lookIn_dict]
  unfold getL
  have e1 := esOf_look x h
  cases e : es.find? (·.key.isStr x) with
  | none => rw [e] at e1; rw [← e1, esOf_ref h]; rfl
  | some e' => rw [e] at e1; rw [← e1]; rfl
theorem AtD.put {o : Obj} {kvs : List (Str × Value)} (x : Str) (hsh : Int) (t : Tok) (v : Value) (h : AtD o kvs) : AtD (Obj.putName x hsh (.str x t) v o) (putKv x v kvs) := by
  obtain ⟨es, n, rfl, h⟩ := h
  exact ⟨_, _, putName_dict _ _ _ _ _ _, esOf_put x hsh t v h⟩
theorem AtD.empty : AtD emptyDict [] := ⟨[], 0, rfl, .nil⟩

/-- what is asked of a class -/
structure Kl (K : Frag) (C : Addr) : Prop where
  ga : findIn K (.ref C) "__getattribute__" = some (some (.builtin "object.__getattribute__"))
  gt : findIn K (.ref C) "__getattr__" = some none
  sa : findIn K (.ref C) "__setattr__" = some (some (.builtin "object.__setattr__"))
  makes : makesIn K C = true
  ov : plainOver K C = true
  hd : (clsIn K C).any (·.hasDict) = true
/-- a name that the class does not know -/
def At (K : Frag) (C : Addr) (x : Str) : Prop := findIn K (.ref C) x = some none
/-- a method -/
structure Mt (K : Frag) (C : Addr) (x : Str) (f : Addr) (dV : Value) (i j : Nat) (q : Str) : Prop where
  n : findIn K (.ref C) x = some (some (.ref f))
  t : typeIn K (.ref f) = some (.type "function")
  k : keepIn K (.ref f) = true
  s : FnS K f q dV (inClass j (topAt i))

section
variable {prog : Program} {w : World} {A : Around} {E : Value → Shared → Prop} {s : Shared} {K : Frag} {c : Cs} {L : Addr} {g : Heap} {own : List (Addr × Obj)} {lm : List (Str × Value)} {env : Env}
variable {x dx C : Addr} {od : Obj} {kvs : List (Str × Value)} {name : Str}

theorem St.kin (S : St c L g own lm s) (G : Gl K g) : K.In s.heap := fun a o e => S.keep a o (G.kin a o e)
theorem inst_at {h : Heap} (hx : h.get? x = some (instObj C dx)) (hd : h.get? dx = some od) : InstAt h x (instObj C dx) C (some od) := ⟨hx, rfl, rfl, hd⟩
theorem at_find {v : Value} (kl : Kl K C) (hn : At K C name) (ha : AtD od kvs) (hv : kvs.lookup name = some v) : findObj K C (some od) name = some (.value v) := by
  obtain ⟨cd, hc, hd⟩ := any_some kl.hd
  have hl := ha.look name
  rw [hv] at hl
  unfold findObj W.ownOf
  rw [hc]
  simp only [Option.bind_some, show findIn K (.ref C) name = some none from hn, hd, if_true, hl]
/-- an attribute is read -/
theorem a_get {v : Value} {expr : Bool} {Q : Value → Shared → Prop} (S : St c L g own lm s) (G : Gl K g) (kl : Kl K C) (hn : At K C name) (hx : g.get? x = some (instObj C dx)) (hm : s.heap.get? dx = some od) (ha : AtD od kvs) (hv : kvs.lookup name = some v)
    (hh : handedIn v = true) (h : ∀ s', St c L g own lm s' → Q v s') : wpAny (model prog w) A (getAttr (.ref x) name expr) Q E s :=
  get_value (S.kin G) (inst_at (S.keep _ _ hx) hm) kl.ga (at_find kl hn ha hv) hh (h _ S.tok)
/-- a method is looked up -/
theorem a_meth {f : Addr} {dV : Value} {i j : Nat} {q : Str} {pl : Sem Bool} {Q : Value × List Value → Shared → Prop} (S : St c L g own lm s) (G : Gl K g) (kl : Kl K C) (hn : Mt K C name f dV i j q) (hx : g.get? x = some (instObj C dx)) (hm : s.heap.get? dx = some od)
    (ha : AtD od kvs) (hv : kvs.lookup name = none) (h : Q (.ref f, [.ref x]) s) : wpAny (model prog w) A (getMethod (.ref x) name pl) Q E s :=
  method_fn (S.kin G) (inst_at (S.keep _ _ hx) hm) kl.ga kl.gt hn.n hn.t (by unfold shadowIn; dsimp only; rw [ha.look, hv]; rfl) h
/-- an attribute is stored -/
theorem a_set {v : Value} {pre post : List (Addr × Obj)} {Q : Unit → Shared → Prop} (S : St c L g own lm s) (G : Gl K g) (kl : Kl K C) (hn : At K C name) (hx : g.get? x = some (instObj C dx)) (hown : own = pre ++ (dx, od) :: post) (ha : AtD od kvs) (hz : kvs.length ≤ 100)
    (h : ∀ od' s', AtD od' (putKv name v kvs) → St c L g (pre ++ (dx, od') :: post) lm s' → Q () s') : wpAny (model prog w) A (setAttr (.ref x) name v) Q E s := by
  have hm : s.heap.get? dx = some od := S.ow (dx, od) (by rw [hown]; simp)
  have I := inst_at (S.keep _ _ hx) hm
  refine set_plain (S.kin G) I kl.sa ?_
  refine osa_open (s := { s with toks := s.toks + 1 }) (S.kin G) I kl.ov (r := none) (by unfold takerIn; rw [show findIn K (.ref C) name = some none from hn]; rfl) fun b => ?_
  obtain ⟨cd, hc, hd'⟩ := any_some kl.hd
  have hx' := S.keep _ _ hx
  refine wpAny_bind (wpAny_pure (wpAny_bind (wpAny_bind (wpAny_loadPart hx' (wpAny_bind (Looks.here (s := { s with toks := s.toks + 1 }) (looks_clsIn (S.kin G) hc) ?_))))))
  rw [hd']
  refine wpAny_pure (a := some dx) (wpAny_bind (wpAny_pure (wpAny_bind ?_)))
  unfold nsSet
  refine wpAny_bind (wpAny_bind (wpAny_askSetting (wpAny_pure (wpAny_bind (wpAny_mkText (wpAny_bind (wpAny_loadPart hm ?_)))))))
  have hput := fun t => ha.put name (PyData.keyHash w.params name) t v
  obtain ⟨es, n, rfl, he⟩ := ha
  dsimp only
  have cc : (!es.toArray.any (·.key.isStr name) && es.toArray.any (·.refKey)) = false := by
    rw [← Array.any_toList, ← Array.any_toList, esOf_ref he, Bool.and_false]
  rw [aRefKeyMayBeTheName_at, cc]
  refine wpAny_updatePart hm ?_
  obtain ⟨es', n', e', he'⟩ := hput (s.toks + 1)
  have hl : es'.length ≤ 101 := by
    have : ∀ {es kvs}, EsOf es kvs → es.length = kvs.length := by
      intro es kvs h
      induction h with
      | nil => rfl
      | cons _ ih => simp [ih]
    have h1 := this he'
    have h2 := putKv_len name v kvs
    omega
  have D' : (s.heap.update dx (Obj.putName name (PyData.keyHash w.params name) (.str name (s.toks + 1)) v)).get? dx = some (dictOf es' n') := by
    rw [Heap.get?_update_self _ hm (by rw [e']; rfl), e']
  refine wpAny_bind (wpAny_lookBehind D' (pastItsLine_dict (by rw [List.size_toArray, sizeLine_eq]; omega)) ?_)
  exact wpAny_pure (h _ _ ⟨es', n', rfl, he'⟩ (S.turn hown D' (Heap.SameBut.update ..).extBut))

/-- a made object whose __init__ is still to run -/
theorem mk_inst {rest : List Value} {fI : Addr} {Q : Value → Shared → Prop} (S : St c L g own lm s) (G : Gl K g) (kl : Kl K C) (hi : findIn K (.ref C) "__init__" = some (some (.ref fI))) (ht : typeIn K (.ref fI) = some (.type "function"))
    (h : ∀ x dx g₁ s₁, Le g g₁ → g₁.get? x = some (instObj C dx) → dx ∉ c.wr → St c L g₁ ((dx, emptyDict) :: own) lm s₁ →
      codeAny (model prog w) (A.under (.builtin "type.__call__" ⟨.ref C :: rest, []⟩)) (.call (.ref fI) ⟨.ref x :: rest, []⟩) (InitBack x fun r s' => match r with | .ok (.ret v) => Q v s' | .ok _ => False | .error e => E e s') s₁) :
    wpAny (model prog w) A (call (.ref C) rest) Q E s := by
  refine wpAny_call ?_
  have S1 := S.push emptyDict rfl (t' := s.toks)
  have S2 := S1.push (instObj C s.heap.objs.size) rfl (t' := s.toks)
  have hw2 := S1.notWr (none_at_size (s.heap.push emptyDict) (Nat.le_refl _))
  have hw1 := S.notWr (none_at_size s.heap (Nat.le_refl _))
  obtain ⟨g₁, le, S3, hx⟩ := S2.freeze (pre := []) rfl hw2
  have X := S.kin G
  have hx' : g₁.get? (s.heap.objs.size + 1) = some (instObj C s.heap.objs.size) := by
    rw [← Heap.size_push s.heap emptyDict]; exact hx
  have hh := h (s.heap.objs.size + 1) s.heap.objs.size g₁ _ le hx' hw1 S3
  obtain ⟨hp, gg, d, t, os⟩ := s
  exact make_core (makes_of X kl.makes) (looks_findIn X hi) (fun self => bind_fn X self ht) (.inl rfl) hh
theorem Rm.init {n : Nat} {rest : List Value} (R : Rm A (n + 1)) : Rm (A.under (.builtin "type.__call__" ⟨.ref C :: rest, []⟩)) n := ⟨by have := R.d; show A.depth + 1 + n < _; omega, by
    have := R.u
    show A.units + Code.cUnits (.builtin "type.__call__" ⟨.ref C :: rest, []⟩) + 8 * n < _
    have e : Code.cUnits (.builtin "type.__call__" ⟨.ref C :: rest, []⟩) = 1 := by kernel_rfl
    omega, R.h⟩
/-- a method's call, behind the lookup -/
theorem call_m {f : Addr} {pos : Pos} {first : List Value} {e : PySem.Expr} {rest : List PySem.Expr} {Q : Value → Shared → Prop} (hkp : keepIn K (.ref f) = true)
    (G : Gl K g) (h : wpAny (model prog w) A (spliced (backTo pos (starEach (e :: rest) env))) (fun vs s₁ => K.In s₁.heap ∧ wpAny (model prog w) A (call (.ref f) (first ++ vs)) Q E s₁) E s)
    (he : starEach (e :: rest) env = (false, eval e env) :: starEach rest env := by rfl) (hplain : (backTo pos (starEach rest env)).any (·.1) = false := by rfl) :
    wpAny (model prog w) A (callWith pos (.ref f) first (backTo pos (starEach (e :: rest) env)) []) Q E s := callWith_K G.kin hkp h he hplain
end
end Mine
end
section
set_option genInjectivity false
set_option genSizeOf false
set_option maxRecDepth 100000
set_option maxHeartbeats 1000000
namespace Mine
/-! ## data: no bools inside, no dicts -/
mutual
def clean : PyData → Bool
  | .none => true
  | .int _ => true
  | .str x => PyData.strOk x
  | .list xs => cleanAll xs
  | .tuple xs => cleanAll xs
  | .bool _ => false
  | .dict _ => false
def cleanAll : List PyData → Bool
  | [] => true
  | x :: xs => clean x && cleanAll xs
end
mutual
theorem eqv_sound : ∀ {a b : PyData}, clean a = true → clean b = true → PyData.eqv a b = true → a = b
  | .none, b, _, hb, e => by cases b <;> first | rfl | (simp [PyData.eqv] at e)
  | .int i, b, _, hb, e => by
    cases b with
    | int j => simp [PyData.eqv] at e; rw [e]
    | bool _ => simp [clean] at hb
    | _ => simp [PyData.eqv] at e
  | .str x, b, _, hb, e => by
    cases b with
    | str y => simp [PyData.eqv] at e; rw [e]
    | _ => simp [PyData.eqv] at e
  | .list xs, b, ha, hb, e => by
    cases b with
    | list ys =>
      simp only [PyData.eqv] at e
      simp only [clean] at ha hb
      rw [eqvAll_sound ha hb e]
    | _ => simp [PyData.eqv] at e
  | .tuple xs, b, ha, hb, e => by
    cases b with
    | tuple ys =>
      simp only [PyData.eqv] at e
      simp only [clean] at ha hb
      rw [eqvAll_sound ha hb e]
    | _ => simp [PyData.eqv] at e
  | .bool _, _, ha, _, _ => by simp [clean] at ha
  | .dict _, _, ha, _, _ => by simp [clean] at ha
theorem eqvAll_sound : ∀ {a b : List PyData}, cleanAll a = true → cleanAll b = true → PyData.eqvAll a b = true → a = b
  | [], [], _, _, _ => rfl
  | [], _ :: _, _, _, e => by simp [PyData.eqvAll] at e
  | _ :: _, [], _, _, e => by simp [PyData.eqvAll] at e
  | x :: xs, y :: ys, ha, hb, e => by
    simp only [PyData.eqvAll, cleanAll, Bool.and_eq_true] at e ha hb
    rw [eqv_sound ha.1 hb.1 e.1, eqvAll_sound ha.2 hb.2 e.2]
end
mutual
theorem eqv_refl : ∀ {a : PyData}, clean a = true → PyData.eqv a a = true
  | .none, _ => by simp [PyData.eqv]
  | .int i, _ => by simp [PyData.eqv]
  | .str x, _ => by simp [PyData.eqv]
  | .list xs, h => by simp only [clean] at h; simp only [PyData.eqv]; exact eqvAll_refl h
  | .tuple xs, h => by simp only [clean] at h; simp only [PyData.eqv]; exact eqvAll_refl h
  | .bool _, h => by simp [clean] at h
  | .dict _, h => by simp [clean] at h
theorem eqvAll_refl : ∀ {a : List PyData}, cleanAll a = true → PyData.eqvAll a a = true
  | [], _ => by simp [PyData.eqvAll]
  | x :: xs, h => by
    simp only [cleanAll, Bool.and_eq_true] at h
    simp only [PyData.eqvAll, Bool.and_eq_true]
    exact ⟨eqv_refl h.1, eqvAll_refl h.2⟩
end

mutual
theorem clean_lay : ∀ {a : PyData}, clean a = true → PyData.canLay0 a = true
  | .none, _ => by simp [PyData.canLay0]
  | .int i, _ => by simp [PyData.canLay0]
  | .str x, h => by simp only [clean] at h; simp only [PyData.canLay0]; exact h
  | .list xs, h => by simp only [clean] at h; simp only [PyData.canLay0]; exact clean_layAll h
  | .tuple xs, h => by simp only [clean] at h; simp only [PyData.canLay0]; exact clean_layAll h
  | .bool _, h => by simp [clean] at h
  | .dict _, h => by simp [clean] at h
theorem clean_layAll : ∀ {a : List PyData}, cleanAll a = true → PyData.canLayAll0 a = true
  | [], _ => by simp [PyData.canLayAll0]
  | x :: xs, h => by
    simp only [cleanAll, Bool.and_eq_true] at h
    simp only [PyData.canLayAll0, Bool.and_eq_true]
    exact ⟨clean_lay h.1, clean_layAll h.2⟩
end
/-- clean and not deep -/
def Fine (n : Nat) (d : PyData) : Prop := clean d = true ∧ d.depth ≤ n
theorem Fine.mono {n m : Nat} {d : PyData} (h : Fine n d) (k : n ≤ m) : Fine m d := ⟨h.1, Nat.le_trans h.2 k⟩
theorem Fine.none {n : Nat} : Fine n .none := ⟨rfl, by simp [PyData.depth]⟩
theorem Fine.int {n : Nat} (i : Int) : Fine n (.int i) := ⟨rfl, by simp [PyData.depth]⟩
theorem Fine.str {n : Nat} {x : Str} (h : PyData.strOk x = true) : Fine n (.str x) := ⟨h, by simp [PyData.depth]⟩
theorem fineAll {n : Nat} : ∀ {xs : List PyData}, (∀ d ∈ xs, Fine n d) → cleanAll xs = true ∧ PyData.depthAll xs ≤ n
  | [], _ => ⟨rfl, by simp [PyData.depthAll]⟩
  | x :: xs, h => by
    have h1 := h x (.head _)
    have h2 := fineAll fun d hd => h d (.tail _ hd)
    simp only [cleanAll, PyData.depthAll, Bool.and_eq_true]
    exact ⟨⟨h1.1, h2.1⟩, Nat.max_le.mpr ⟨h1.2, h2.2⟩⟩
theorem Fine.list {n : Nat} {xs : List PyData} (h : ∀ d ∈ xs, Fine n d) : Fine (n + 1) (.list xs) := by
  have := fineAll h
  exact ⟨by simp only [clean]; exact this.1, by simp only [PyData.depth]; omega⟩
theorem Fine.tuple {n : Nat} {xs : List PyData} (h : ∀ d ∈ xs, Fine n d) : Fine (n + 1) (.tuple xs) := by
  have := fineAll h
  exact ⟨by simp only [clean]; exact this.1, by simp only [PyData.depth]; omega⟩
theorem Fine.ints {n : Nat} (ns : List Int) : Fine (n + 1) (.list (dI ns)) := .list fun d hd => by
  obtain ⟨i, _, rfl⟩ := List.mem_map.mp hd
  exact .int i
theorem Fine.intT {n : Nat} (ns : List Int) : Fine (n + 1) (dT ns) := .tuple fun d hd => by
  obtain ⟨i, _, rfl⟩ := List.mem_map.mp hd
  exact .int i
theorem Fine.pieces {n : Nat} (ps : List (List Int)) : Fine (n + 2) (.list (dP ps)) := .list fun d hd => by
  obtain ⟨i, _, rfl⟩ := List.mem_map.mp hd
  exact .intT i
theorem Fine.shaped {n : Nat} {d : PyData} (h : Fine n d) (hn : n ≤ 64) : SeqAt.shaped d = true := by
  unfold SeqAt.shaped
  rw [clean_lay h.1, decide_eq_true (Nat.le_trans h.2 hn)]
  rfl
theorem bool_shaped (b : Bool) : SeqAt.shaped (.bool b) = true := by
  unfold SeqAt.shaped
  simp [PyData.canLay0, PyData.depth]
theorem eqv_iff {n m : Nat} {a b : PyData} (ha : Fine n a) (hb : Fine m b) : PyData.eqv a b = true ↔ a = b :=
  ⟨eqv_sound ha.1 hb.1, fun e => e ▸ eqv_refl ha.1⟩
theorem eqv_ne {n m : Nat} {a b : PyData} (ha : Fine n a) (hb : Fine m b) (h : a ≠ b) : PyData.eqv a b = false := by
  cases e : PyData.eqv a b with
  | true => exact absurd ((eqv_iff ha hb).mp e) h
  | false => rfl
/-- a value of a map: clean data or a bool -/
def Vok (d : PyData) : Prop := Fine 10 d ∨ ∃ b, d = .bool b
def isB : PyData → Bool
  | .bool _ => true
  | _ => false
theorem Vok.shaped {d : PyData} (h : Vok d) : SeqAt.shaped d = true := by
  rcases h with h | ⟨b, rfl⟩
  · exact h.shaped (by decide)
  · exact bool_shaped b
theorem like_eq {a b : PyData} (ha : Vok a) (hb : Vok b) (h : (PyData.eqv a b && isB a == isB b) = true) : a = b := by
  rw [Bool.and_eq_true] at h
  rcases ha with ha | ⟨x, rfl⟩ <;> rcases hb with hb | ⟨y, rfl⟩
  · exact eqv_sound ha.1 hb.1 h.1
  · cases a <;> first | (simp [Fine, clean] at ha; done) | (simp [isB] at h)
  · cases b <;> first | (simp [Fine, clean] at hb; done) | (simp [isB] at h)
  · have := h.1
    simp [PyData.eqv] at this
    rw [this]

section
variable {prog : Program} {w : World} {A : Around} {E : Value → Shared → Prop} {s : Shared} {K : Frag} {c : Cs} {L : Addr} {g : Heap} {own : List (Addr × Obj)} {lm : List (Str × Value)} {env : Env}
theorem i_bool {v : Value} {d : PyData} {Q : Value → Shared → Prop} (S : St c L g own lm s) (hr : Rd s.heap v d) (hd : Vok d) (h : ∀ s', St c L g own lm s' → Q (.bool (isB d)) s') : wpAny (model prog w) A (call (.builtin "isinstance") [v, .type "bool"]) Q E s := by
  obtain ⟨as, r⟩ := hr
  cases r with
  | none => exact call_isinstance (isinstance_false_none (by decide +kernel) (by kernel_rfl) (by rw [isSubtype_type]; kernel_rfl)) (h _ S.tok)
  | bool b => exact call_isinstance (isinstance_true (Tx := "bool") (by kernel_rfl) (by rw [isSubtype_type]; kernel_rfl)) ⟨rfl, h _ S⟩
  | int i t => exact call_isinstance (isinstance_false_int (by decide +kernel) (by kernel_rfl) (by rw [isSubtype_type]; kernel_rfl)) (h _ S.tok)
  | str i t => exact call_isinstance (isinstance_false_str (by decide +kernel) (by kernel_rfl) (by rw [isSubtype_type]; kernel_rfl)) (h _ S.tok)
  | list ho hc hx _ => exact call_isinstance (isinstance_false_list (by decide +kernel) (by kernel_rfl) (by rw [isSubtype_type]; kernel_rfl)) ⟨⟨_, ho, hc⟩, h _ S.tok⟩
  | tuple ho hc hx _ => exact call_isinstance (isinstance_false_tuple (by decide +kernel) (by kernel_rfl) (by rw [isSubtype_type]; kernel_rfl)) ⟨⟨_, ho, hc⟩, h _ S.tok⟩
  | dict ho hc hx _ _ =>
    rcases hd with hd | ⟨b, e⟩
    · have := hd.1; simp [clean] at this
    · cases e
theorem eq_rd {a b : Value} {da db : PyData} {Q : Value → Shared → Prop} (S : St c L g own lm s) (ra : Rd g a da) (rb : Rd g b db) (ha : SeqAt.shaped da = true) (hb : SeqAt.shaped db = true) {n : Nat} (hu : Rm A n) (hn : 9 ≤ n)
    (h : Q (.bool (PyData.eqv da db)) s) : wpAny (model prog w) A (compareOp .Eq a b) Q E s := eq_data (ra.up S.keep) (rb.up S.keep) ha hb (by have := hu.u; omega) h
theorem ne_rd {a b : Value} {da db : PyData} {Q : Value → Shared → Prop} (S : St c L g own lm s) (ra : Rd g a da) (rb : Rd g b db) (ha : SeqAt.shaped da = true) (hb : SeqAt.shaped db = true) {n : Nat} (hu : Rm A n) (hn : 9 ≤ n)
    (h : Q (.bool (!PyData.eqv da db)) s) : wpAny (model prog w) A (compareOp .NotEq a b) Q E s := ne_data (ra.up S.keep) (rb.up S.keep) ha hb (by have := hu.u; omega) h
theorem c_bb {a b : Bool} {Q : Value → Shared → Prop} {n : Nat} (hu : Rm A n) (hn : 9 ≤ n) (h : Q (.bool (a == b)) s) : wpAny (model prog w) A (compareOp .Eq (.bool a) (.bool b)) Q E s :=
  eq_data (Rd.bool a) (Rd.bool b) (bool_shaped a) (bool_shaped b) (by have := hu.u; omega) (by simpa [PyData.eqv] using h)
end
/-- the two classes, and the other names -/
structure Cls (K : Frag) where
  rm : Addr
  rmN : nsIn K mainGlobals "RangeMap" = some (some (.ref rm))
  rmKp : keepIn K (.ref rm) = true
  rmK : Kl K rm
  rmI : Addr
  hrmI : Mt K rm "__init__" rmI .none 80 0 "RangeMap."
  rmG : Addr
  hrmG : Mt K rm "get" rmG .none 80 1 "RangeMap."
  rmP : Addr
  hrmP : Mt K rm "put" rmP .none 80 2 "RangeMap."
  rm1 : At K rm "default"
  rm2 : At K rm "starts"
  rm3 : At K rm "values"
  da : Addr
  daN : nsIn K mainGlobals "Data" = some (some (.ref da))
  daKp : keepIn K (.ref da) = true
  daK : Kl K da
  daI : Addr
  hdaI : Mt K da "__init__" daI .none 84 0 "Data."
  daP : Addr
  hdaP : Mt K da "put" daP .none 84 1 "Data."
  daG : Addr
  hdaG : Mt K da "get" daG .none 84 2 "Data."
  daM : Addr
  hdaM : Mt K da "map_of" daM .none 84 3 "Data."
  da1 : At K da "defaults"
  da2 : At K da "maps"
  da3 : At K da "properties"
  da4 : At K da "words"
  maxT : Tok
  hmax : nsIn K mainGlobals "MAX_CODE" = some (some (.int 1114111 maxT))
  negT : Tok
  hneg : nsIn K mainGlobals "NEGATION" = some (some (.str "Not_" negT))
end Mine
end
section
set_option maxRecDepth 1000000
set_option maxHeartbeats 0
namespace Mine
/-! ## what is read off the end -/
def fragGo : Nat → List Obj → Frag
  | _, [] => []
  | i, o :: r => match o with
    | ⟨_, _, .freed, _⟩ => fragGo (i + 1) r
    | o => (i, o) :: fragGo (i + 1) r
def dfSeen (K : Frag) : Value → Option Nat
  | .none => some 0
  | .ref T => match K.lookup T with
    | some ⟨_, _, .seq vs _, _⟩ => (match vs.toList with
      | [_] => some 1
      | _ => none)
    | _ => none
  | _ => none
abbrev FnSeen := (Str × Str × Arguments × List Stmt × Scope) × (Addr × List (Str × Addr) × Addr) × Bool × Bool × Option Nat × Option Value
def fnSeen (K : Frag) : Option (Option Value) → Option FnSeen
  | some (some (.ref f)) => match K.lookup f with
    | some ⟨_, _, .func fd, _⟩ => (match fd.body with
      | .stmts b => some ((fd.name, fd.qualname, fd.params, b, fd.scope), (fd.globals, fd.closure, fd.builtins), keepIn K (.ref f), codeIn K fd.code fd.qualname, dfSeen K fd.defaults, typeIn K (.ref f))
      | _ => none)
    | _ => none
  | _ => none
def fnDue (q : Str) (k : Nat) : Stmt → Option FnSeen
  | .FunctionDef name args body _ _ _ scope _ _ _ => some ((name, q ++ name, args, body, scope), (mainGlobals, [], builtinsNs), true, true, some k, some (.type "function"))
  | _ => none
abbrev ClSeen := (Bool × Option (Option Value) × Option (Option Value) × Option (Option Value)) × (Bool × Bool × Bool) × List (Option (Option Value)) × List (Option FnSeen)
def clSeen (K : Frag) (as ms : List Str) : Option (Option Value) → Option ClSeen
  | some (some (.ref C)) => some ((keepIn K (.ref C), findIn K (.ref C) "__getattribute__", findIn K (.ref C) "__getattr__", findIn K (.ref C) "__setattr__"), (makesIn K C, plainOver K C, (clsIn K C).any (·.hasDict)), as.map (findIn K (.ref C)), ms.map fun m => fnSeen K (findIn K (.ref C) m))
  | _ => none
def clDue (as : List Str) (q : Str) (i : Nat) (ms : List Str) : Option ClSeen :=
  some ((true, some (some (.builtin "object.__getattribute__")), some none, some (some (.builtin "object.__setattr__"))), (true, true, true), as.map (fun _ => some none), ms.zipIdx.map fun m => fnDue q 0 (inClass m.2 (topAt i)))
def intSeen : Option (Option Value) → Option Int
  | some (some (.int i _)) => some i
  | _ => none
def strSeen : Option (Option Value) → Option Str
  | some (some (.str i _)) => some i
  | _ => none
def fnsL : List (Str × Nat × Nat) := [(Str.ofString "place_by_half", 5, 0), (Str.ofString "simple_upper", 45, 0), (Str.ofString "simple_lower", 46, 0), (Str.ofString "simple_title", 47, 0), (Str.ofString "case_base", 48, 0), (Str.ofString "case_context", 57, 0), (Str.ofString "case_condition", 58, 0), (Str.ofString "case_conditions", 59, 0), (Str.ofString "case_special", 60, 0), (Str.ofString "upper_at", 61, 1), (Str.ofString "lower_at", 62, 1), (Str.ofString "title_at", 63, 1), (Str.ofString "case_joined", 64, 0), (Str.ofString "upper_pieces", 65, 1), (Str.ofString "lower_pieces", 66, 1), (Str.ofString "upper", 67, 1), (Str.ofString "lower", 68, 1), (Str.ofString "case_first_cased", 69, 0), (Str.ofString "case_segments", 70, 0), (Str.ofString "title_pieces", 72, 1), (Str.ofString "title", 73, 1), (Str.ofString "case_edits", 74, 0), (Str.ofString "range_are_like", 79, 0), (Str.ofString "data_defaults", 83, 0), (Str.ofString "_law_deck", 86, 0), (Str.ofString "_law_draw", 87, 0), (Str.ofString "_law_pick", 88, 0), (Str.ofString "_law_codes", 89, 0), (Str.ofString "_law_special", 90, 0), (Str.ofString "_law_told", 91, 0), (Str.ofString "_law_data", 92, 0), (Str.ofString "_law_simple", 93, 0), (Str.ofString "_law_full", 94, 0), (Str.ofString "_law_joined", 95, 0), (Str.ofString "_law_title", 96, 0), (Str.ofString "_law_stretches", 97, 0), (Str.ofString "_law_right", 98, 0), (Str.ofString "law", 99, 0)]
def biL : List Str := ["len", "range", "list", "tuple", "int", "bool", "enumerate", "zip", "isinstance"]
def rmA : List Str := ["default", "starts", "values"]
def rmM : List Str := ["__init__", "get", "put"]
def daA : List Str := ["defaults", "maps", "properties", "words"]
def daMs : List Str := ["__init__", "put", "get", "map_of"]
abbrev Obs := List (Option FnSeen) × List (Option (Option Value)) × Option ClSeen × Option ClSeen × Option Int × Option Str
def obsK (K : Frag) : Obs :=
  (fnsL.map fun x => fnSeen K (nsIn K mainGlobals x.1), biL.map (nsIn K mainGlobals), clSeen K rmA rmM (nsIn K mainGlobals "RangeMap"), clSeen K daA daMs (nsIn K mainGlobals "Data"), intSeen (nsIn K mainGlobals "MAX_CODE"), strSeen (nsIn K mainGlobals "NEGATION"))
def dueK : Obs :=
  (fnsL.map fun x => fnDue "" x.2.2 (topAt x.2.1), biL.map (fun _ => some none), clDue rmA "RangeMap." 80 rmM, clDue daA "Data." 84 daMs, some 1114111, some "Not_")
def qv : Program := { PySem.Challenge.pw_nt0064_01 with main := { PySem.Challenge.pw_nt0064_01.main with body := [topAt 99] } }
def lsv : List Str := PySem.Challenge.pw_nt0064_01.boundNames.filter fun x => !(x == ("law" : Str))
theorem left0 (w : World) : (endsF PySem.Challenge.pw_nt0064_01 w 9000).map (fun s => (openSeen qv lsv (importedModules PySem.Challenge.pw_nt0064_01.main.body) (fun _ => true) true s, obsK (fragGo 0 s.heap.objs.toList))) = some (openGood qv lsv, dueK) := by
  kernel_rfl
end Mine
end
section
set_option maxRecDepth 1000000
set_option maxHeartbeats 0
namespace Mine
def lawD : DefRec := match topAt 99 with
  | .FunctionDef name args body _ _ _ scope _ _ pos => ⟨name, args, body, scope, pos⟩
  | _ => ⟨"", default, [], default, default⟩
def YP (_ : World) (h : Heap) : Prop := ∃ K : Frag, K.In h ∧ obsK K = dueK
theorem fragGo_in (objs : Array Obj) (life : Life) : (fragGo 0 objs.toList).In ⟨objs, life⟩ := by
  have key : ∀ (l : List Obj) (i a : Nat) (o : Obj), (fragGo i l).lookup a = some o → i ≤ a ∧ l[a - i]? = some o ∧ o.data ≠ .freed := by
    intro l
    induction l with
    | nil => intro i a o h; cases h
    | cons x r ih =>
      intro i a o h
      obtain ⟨c, d, data, sl⟩ := x
      have go : (fragGo (i + 1) r).lookup a = some o → i ≤ a ∧ (⟨c, d, data, sl⟩ :: r : List Obj)[a - i]? = some o ∧ o.data ≠ .freed := fun h => by
        obtain ⟨h1, h2, h3⟩ := ih (i + 1) a o h
        refine ⟨Nat.le_of_succ_le h1, ?_, h3⟩
        rw [show a - i = (a - (i + 1)) + 1 from by have h1 : i + 1 ≤ a := h1; omega]
        exact h2
      have hit : data ≠ .freed → (((i : Addr), (⟨c, d, data, sl⟩ : Obj)) :: fragGo (i + 1) r).lookup a = some o → i ≤ a ∧ (⟨c, d, data, sl⟩ :: r : List Obj)[a - i]? = some o ∧ o.data ≠ .freed := fun hd h => by
        rw [List.lookup_cons] at h
        by_cases e : a = i
        · subst e
          simp only [beq_self_eq_true] at h
          cases h
          refine ⟨Nat.le_refl _, ?_, hd⟩
          rw [Nat.sub_self]; rfl
        · rw [beq_eq_false_iff_ne.mpr e] at h
          exact go h
      cases data with
      | freed => exact go h
      | _ => exact hit (by intro q; cases q) h
  intro a o h
  obtain ⟨_, h2, h3⟩ := key objs.toList 0 a o h
  rw [Nat.sub_zero, Array.getElem?_toList] at h2
  unfold Heap.get?
  dsimp only
  rw [h2]
  obtain ⟨c, d, data, sl⟩ := o
  cases data <;> first | rfl | exact absurd rfl h3
theorem leftO : LeftO PySem.Challenge.rw_nt0064_01.row.prog qv lsv (fun _ => true) (fun s => obsK (fragGo 0 s.heap.objs.toList)) (fun _ => dueK) 9000 := fun w => endsF_spec (left0 w)
theorem said1 : PySem.Challenge.rw_nt0064_01.wellSaid = true := by
  rw [PySem.W.Fast.te9446332074065402090]
  kernel_rfl
theorem chain1 : (chainsOk qv && opensWell PySem.Challenge.rw_nt0064_01.row.prog && (frees PySem.Challenge.rw_nt0064_01.row.toRowW && PySem.Challenge.rw_nt0064_01.row.within.isEmpty)) = true := by kernel_rfl
theorem tables1 : PySem.Challenge.rw_nt0064_01.row.prog.tablesWhole = true := by kernel_rfl
theorem bare1 : PySem.Challenge.rw_nt0064_01.row.prog.bare := ⟨rfl, rfl, rfl, rfl, rfl, tables1⟩
theorem prom1 : PySem.Challenge.rw_nt0064_01.row.promised := ⟨[.list []], by kernel_rfl, by kernel_rfl⟩
theorem def1 : defOf qv PySem.Challenge.rw_nt0064_01.row.name = some (lawD, []) := by kernel_rfl
theorem def2 : PySem.Challenge.rw_nt0064_01.row.prog.theDef PySem.Challenge.rw_nt0064_01.row.name = some (lawD.params, lawD.body, lawD.scope) := by kernel_rfl
theorem def3 : kwWritten? lawD.params.kwonlyargs lawD.params.kw_defaults = some [] := by kernel_rfl
theorem head (call : WalkO qv lsv (fun _ _ => True) YP PySem.Challenge.rw_nt0064_01.row.toRowW lawD [] fun f vs => PySem.call f vs) : PySem.Challenge.rw_nt0064_01.Holds :=
  holds_law said1 fun said =>
  holds_open (q := qv) (loose := lsv) (Xt := fun _ => true) (XP := fun _ _ => True) (Yf := fun s => obsK (fragGo 0 s.heap.objs.toList)) (Ya := fun _ => dueK) (YP := YP) (d := lawD) (kwd := []) (N := 9000)
    leftO (fun w s e => ⟨_, fragGo_in s.heap.objs s.heap.life, e⟩) (fun w h h' ⟨K, a, b⟩ k => ⟨K, a.keeps k, b⟩) (fun _ _ => trivial) (fun _ _ _ _ _ => trivial) def1 def2 def3 (fun _ _ => recFacts_nil rfl) rfl said chain1 bare1 prom1 call
end Mine
end
section
set_option maxRecDepth 1000000
set_option maxHeartbeats 0
namespace Mine
theorem fnS_of {K : Frag} {v : Option (Option Value)} {q : Str} {k : Nat} {st : Stmt} (hs : (fnDue q k st).isSome = true) (h : fnSeen K v = fnDue q k st) :
    ∃ f dV, v = some (some (.ref f)) ∧ keepIn K (.ref f) = true ∧ typeIn K (.ref f) = some (.type "function") ∧ dfSeen K dV = some k ∧ FnS K f q dV st := by
  cases st
  all_goals try (exact absurd hs Bool.false_ne_true)
  rename_i name args body _ _ _ scope _ _ _
  clear hs
  unfold fnDue at h
  dsimp only at h
  unfold fnSeen at h
  split at h
  case h_2 => cases h
  rename_i f
  split at h
  case h_2 => cases h
  rename_i oc od fd osl hl
  split at h
  case h_2 => cases h
  rename_i b hb
  obtain ⟨h1, h2⟩ := Prod.mk.inj (Option.some.inj h)
  obtain ⟨h2, h3⟩ := Prod.mk.inj h2
  obtain ⟨h3, h4⟩ := Prod.mk.inj h3
  obtain ⟨h4, h5⟩ := Prod.mk.inj h4
  obtain ⟨h5, h6⟩ := Prod.mk.inj h5
  obtain ⟨e1, e2⟩ := Prod.mk.inj h1
  obtain ⟨e2, e3⟩ := Prod.mk.inj e2
  obtain ⟨e3, e4⟩ := Prod.mk.inj e3
  obtain ⟨e4, e5⟩ := Prod.mk.inj e4
  obtain ⟨c1, c2⟩ := Prod.mk.inj h2
  obtain ⟨c2, c3⟩ := Prod.mk.inj c2
  refine ⟨f, fd.defaults, rfl, h3, h6, h5, ?_⟩
  show FnIs K f name (q ++ name) args body scope fd.defaults
  refine ⟨oc, od, osl, fd.kwdefaults, fd.doc, fd.pyModule, fd.annotations, fd.code, fd.closureTuple, ?_, ?_⟩
  · rw [hl]
    cases fd
    dsimp only at *
    subst_vars
    rfl
  · rw [← e2]; exact h4
theorem df0 {K : Frag} {v : Value} (h : dfSeen K v = some 0) : v = .none := by
  unfold dfSeen at h
  split at h
  · rfl
  · split at h
    · split at h <;> cases h
    · cases h
  · cases h
theorem df1 {K : Frag} {v : Value} (h : dfSeen K v = some 1) : ∃ T, v = .ref T ∧ ∃ v o n, K.lookup T = some o ∧ o.data = .seq #[v] n := by
  unfold dfSeen at h
  split at h
  · cases h
  · rename_i T
    split at h
    · rename_i c d vs n sl hl
      split at h
      · rename_i x hx
        refine ⟨T, rfl, x, _, n, hl, ?_⟩
        dsimp only
        rw [← Array.toArray_toList (xs := vs), hx]
      · cases h
    · cases h
  · cases h
theorem fns_at {K : Frag} (h : obsK K = dueK) {x : Str} {n k : Nat} (i : Nat) (e : fnsL[i]? = some (x, n, k)) : fnSeen K (nsIn K mainGlobals x) = fnDue "" k (topAt n) := by
  have h1 := (Prod.mk.inj h).1
  have := congrArg (fun l => l[i]?) h1
  simp only [List.getElem?_map, e, Option.map_some] at this
  exact Option.some.inj this
theorem get_fn {K : Frag} (h : obsK K = dueK) {x : Str} {n : Nat} (i : Nat) (e : fnsL[i]? = some (x, n, 0)) (hs : (fnDue "" 0 (topAt n)).isSome = true) : ∃ f, Fn K x f n := by
  obtain ⟨f, dV, h1, h2, h3, h4, h5⟩ := fnS_of hs (fns_at h i e)
  rw [df0 h4] at h5
  exact ⟨f, h1, h2, h5⟩
theorem get_fnD {K : Frag} (h : obsK K = dueK) {x : Str} {n : Nat} (i : Nat) (e : fnsL[i]? = some (x, n, 1)) (hs : (fnDue "" 1 (topAt n)).isSome = true) : ∃ f T, FnD K x f T n := by
  obtain ⟨f, dV, h1, h2, h3, h4, h5⟩ := fnS_of hs (fns_at h i e)
  obtain ⟨T, rfl, d⟩ := df1 h4
  exact ⟨f, T, h1, h2, h5, d⟩
theorem bi_at {K : Frag} (h : obsK K = dueK) {x : Str} (i : Nat) (e : biL[i]? = some x) : nsIn K mainGlobals x = some none := by
  have h1 := (Prod.mk.inj (Prod.mk.inj h).2).1
  have := congrArg (fun l => l[i]?) h1
  simp only [List.getElem?_map, e, Option.map_some] at this
  exact Option.some.inj this
theorem get_bi {K : Frag} (h : obsK K = dueK) : Bi K := ⟨bi_at h 0 rfl, bi_at h 1 rfl, bi_at h 2 rfl, bi_at h 3 rfl, bi_at h 4 rfl, bi_at h 5 rfl, bi_at h 6 rfl, bi_at h 7 rfl, bi_at h 8 rfl⟩
theorem get_fns {K : Frag} (h : obsK K = dueK) : Nonempty (Fns K) := by
  obtain ⟨place, hplace⟩ := get_fn h 0 rfl rfl
  obtain ⟨supper, hsupper⟩ := get_fn h 1 rfl rfl
  obtain ⟨slower, hslower⟩ := get_fn h 2 rfl rfl
  obtain ⟨stitle, hstitle⟩ := get_fn h 3 rfl rfl
  obtain ⟨base, hbase⟩ := get_fn h 4 rfl rfl
  obtain ⟨ctxt, hctxt⟩ := get_fn h 5 rfl rfl
  obtain ⟨cond, hcond⟩ := get_fn h 6 rfl rfl
  obtain ⟨conds, hconds⟩ := get_fn h 7 rfl rfl
  obtain ⟨spec, hspec⟩ := get_fn h 8 rfl rfl
  obtain ⟨upat, upatT, hupat⟩ := get_fnD h 9 rfl rfl
  obtain ⟨loat, loatT, hloat⟩ := get_fnD h 10 rfl rfl
  obtain ⟨tiat, tiatT, htiat⟩ := get_fnD h 11 rfl rfl
  obtain ⟨cjoin, hcjoin⟩ := get_fn h 12 rfl rfl
  obtain ⟨uppcs, uppcsT, huppcs⟩ := get_fnD h 13 rfl rfl
  obtain ⟨lopcs, lopcsT, hlopcs⟩ := get_fnD h 14 rfl rfl
  obtain ⟨upper, upperT, hupper⟩ := get_fnD h 15 rfl rfl
  obtain ⟨lower, lowerT, hlower⟩ := get_fnD h 16 rfl rfl
  obtain ⟨first, hfirst⟩ := get_fn h 17 rfl rfl
  obtain ⟨segs, hsegs⟩ := get_fn h 18 rfl rfl
  obtain ⟨tipcs, tipcsT, htipcs⟩ := get_fnD h 19 rfl rfl
  obtain ⟨title, titleT, htitle⟩ := get_fnD h 20 rfl rfl
  obtain ⟨edits, hedits⟩ := get_fn h 21 rfl rfl
  obtain ⟨like, hlike⟩ := get_fn h 22 rfl rfl
  obtain ⟨dflts, hdflts⟩ := get_fn h 23 rfl rfl
  obtain ⟨deck, hdeck⟩ := get_fn h 24 rfl rfl
  obtain ⟨draw, hdraw⟩ := get_fn h 25 rfl rfl
  obtain ⟨pick, hpick⟩ := get_fn h 26 rfl rfl
  obtain ⟨codes, hcodes⟩ := get_fn h 27 rfl rfl
  obtain ⟨lspec, hlspec⟩ := get_fn h 28 rfl rfl
  obtain ⟨told, htold⟩ := get_fn h 29 rfl rfl
  obtain ⟨data, hdata⟩ := get_fn h 30 rfl rfl
  obtain ⟨simple, hsimple⟩ := get_fn h 31 rfl rfl
  obtain ⟨full, hfull⟩ := get_fn h 32 rfl rfl
  obtain ⟨joined, hjoined⟩ := get_fn h 33 rfl rfl
  obtain ⟨ltitle, hltitle⟩ := get_fn h 34 rfl rfl
  obtain ⟨stretch, hstretch⟩ := get_fn h 35 rfl rfl
  obtain ⟨right, hright⟩ := get_fn h 36 rfl rfl
  exact ⟨get_bi h, place, hplace, supper, hsupper, slower, hslower, stitle, hstitle, base, hbase, ctxt, hctxt, cond, hcond, conds, hconds, spec, hspec, upat, upatT, hupat, loat, loatT, hloat, tiat, tiatT, htiat, cjoin, hcjoin, uppcs, uppcsT, huppcs, lopcs, lopcsT, hlopcs, upper, upperT, hupper, lower, lowerT, hlower, first, hfirst, segs, hsegs, tipcs, tipcsT, htipcs, title, titleT, htitle, edits, hedits, like, hlike, dflts, hdflts, deck, hdeck, draw, hdraw, pick, hpick, codes, hcodes, lspec, hlspec, told, htold, data, hdata, simple, hsimple, full, hfull, joined, hjoined, ltitle, hltitle, stretch, hstretch, right, hright⟩
theorem cl_of {K : Frag} {v : Option (Option Value)} {as ms : List Str} {q : Str} {i : Nat} (h : clSeen K as ms v = clDue as q i ms) :
    ∃ C, v = some (some (.ref C)) ∧ keepIn K (.ref C) = true ∧ Kl K C ∧ (∀ x ∈ as, At K C x) ∧ ∀ (j : Nat) (m : Str), ms[j]? = some m → (fnDue q 0 (inClass j (topAt i))).isSome = true → ∃ f, Mt K C m f .none i j q := by
  unfold clSeen clDue at h
  split at h
  case h_2 => cases h
  rename_i C
  obtain ⟨h1, h2⟩ := Prod.mk.inj (Option.some.inj h)
  obtain ⟨h2, h3⟩ := Prod.mk.inj h2
  obtain ⟨h3, h4⟩ := Prod.mk.inj h3
  obtain ⟨k1, k2⟩ := Prod.mk.inj h1
  obtain ⟨k2, k3⟩ := Prod.mk.inj k2
  obtain ⟨k3, k4⟩ := Prod.mk.inj k3
  obtain ⟨m1, m2⟩ := Prod.mk.inj h2
  obtain ⟨m2, m3⟩ := Prod.mk.inj m2
  refine ⟨C, rfl, k1, ⟨k2, k3, k4, m1, m2, m3⟩, fun x hx => List.map_inj_left.mp h3 x hx, fun j m hm hs => ?_⟩
  have := congrArg (fun l => l[j]?) h4
  simp only [List.getElem?_map, hm, Option.map_some, List.getElem?_zipIdx, Nat.zero_add] at this
  obtain ⟨f, dV, e1, e2, e3, e4, e5⟩ := fnS_of hs (Option.some.inj this)
  rw [df0 e4] at e5
  exact ⟨f, e1, e3, e2, e5⟩
theorem get_cls {K : Frag} (h : obsK K = dueK) : Nonempty (Cls K) := by
  obtain ⟨_, h⟩ := Prod.mk.inj h
  obtain ⟨_, h⟩ := Prod.mk.inj h
  obtain ⟨h1, h⟩ := Prod.mk.inj h
  obtain ⟨h2, h⟩ := Prod.mk.inj h
  obtain ⟨h3, h4⟩ := Prod.mk.inj h
  obtain ⟨R, r1, r2, r3, r4, r5⟩ := cl_of h1
  obtain ⟨D, d1, d2, d3, d4, d5⟩ := cl_of h2
  obtain ⟨a0, b0⟩ := r5 0 _ rfl rfl
  obtain ⟨a1, b1⟩ := r5 1 _ rfl rfl
  obtain ⟨a2, b2⟩ := r5 2 _ rfl rfl
  obtain ⟨c0, e0⟩ := d5 0 _ rfl rfl
  obtain ⟨c1, e1⟩ := d5 1 _ rfl rfl
  obtain ⟨c2, e2⟩ := d5 2 _ rfl rfl
  obtain ⟨c3, e3⟩ := d5 3 _ rfl rfl
  obtain ⟨tm, h3⟩ : ∃ t, nsIn K mainGlobals "MAX_CODE" = some (some (.int 1114111 t)) := by
    unfold intSeen at h3
    split at h3
    · rename_i i t e
      cases h3
      exact ⟨t, e⟩
    · cases h3
  obtain ⟨tn, h4⟩ : ∃ t, nsIn K mainGlobals "NEGATION" = some (some (.str "Not_" t)) := by
    unfold strSeen at h4
    split at h4
    · rename_i i t e
      cases h4
      exact ⟨t, e⟩
    · cases h4
  exact ⟨R, r1, r2, r3, a0, b0, a1, b1, a2, b2, r4 _ (.head _), r4 _ (.tail _ (.head _)), r4 _ (.tail _ (.tail _ (.head _))), D, d1, d2, d3, c0, e0, c1, e1, c2, e2, c3, e3, d4 _ (.head _), d4 _ (.tail _ (.head _)), d4 _ (.tail _ (.tail _ (.head _))), d4 _ (.tail _ (.tail _ (.tail _ (.head _)))), tm, h3, tn, h4⟩
end Mine
end
section
set_option maxRecDepth 100000
set_option maxHeartbeats 1000000
namespace Mine
section
variable {prog : Program} {w : World} {A : Around} {E : Value → Shared → Prop} {s : Shared} {K : Frag} {c : Cs} {L : Addr} {g : Heap} {own : List (Addr × Obj)} {lm : List (Str × Value)} {env : Env}

/-! ### slices of lists -/
theorem part_none {Q : Value → Shared → Prop} (h : Q .none s) : wpAny (model prog w) A (evalPart none env) Q E s := by rw [evalPart_none]; exact wpAny_pure h
theorem part_some {e : PySem.Expr} {Q : Value → Shared → Prop} (h : wpAny (model prog w) A (eval e env) Q E s) : wpAny (model prog w) A (evalPart (some e) env) Q E s := h
theorem pick_upto (vs : List Value) {y : Int} (h : 0 ≤ y) : slicePick vs.toArray none (some y) none = (vs.take y.toNat).toArray := by
  have e : sliceBounds none (some y) none vs.toArray.size = (((0 : Nat) : Int), ((min y.toNat vs.toArray.size : Nat) : Int), 1) := by
    simp only [sliceBounds, Option.getD_none, show (1 : Int) > 0 by decide, if_true, if_neg (show ¬ (y < 0) by omega)]
    congr 1
    congr 1
    omega
  unfold slicePick
  rw [e]
  simp only [sliceRange_one, pick_run, List.drop_zero, Nat.sub_zero, List.size_toArray]
  congr 1
  rw [Nat.min_def]
  split
  · rfl
  · rw [List.take_of_length_le (Nat.le_refl _), List.take_of_length_le (by omega)]
theorem pick_from (vs : List Value) {x : Int} (h : 0 ≤ x) : slicePick vs.toArray (some x) none none = (vs.drop x.toNat).toArray := by
  have e : sliceBounds (some x) none none vs.toArray.size = (((min x.toNat vs.toArray.size : Nat) : Int), ((vs.toArray.size : Nat) : Int), 1) := by
    simp only [sliceBounds, Option.getD_none, show (1 : Int) > 0 by decide, if_true, if_neg (show ¬ (x < 0) by omega)]
    congr 1
    omega
  unfold slicePick
  rw [e]
  simp only [sliceRange_one, pick_run, List.size_toArray]
  congr 1
  rw [Nat.min_def]
  split
  · rw [List.take_of_length_le (by rw [List.length_drop]; omega)]
  · rw [Nat.sub_self, List.take_zero, List.drop_of_length_le (by omega)]
abbrev slObj (a b d : Value) : Obj := { cls := .type "slice", data := .fields #[a, b, d] }
theorem sl_any {value slice : PySem.Expr} {l : Addr} {vs zs : List Value} {vl vu : Value} {lo hi : Option Int} {Q : Value → Shared → Prop} (S : St c L g own lm s) (hl : s.heap.IsList l vs.toArray) (hz : vs.length ≤ 1000000) (pl : IsPart vl lo) (pu : IsPart vu hi)
    (e : slicePick vs.toArray lo hi none = zs.toArray) (h : ∀ D s', D ∉ c.wr → St c L g ((D, lobj zs 0) :: own) lm s' → Q (.ref D) s')
    (hs : subscripted slice false (.ref l) (.ref s.heap.objs.size) = operate [.ref s.heap.objs.size, .ref l] (getItem (.ref l) (.ref s.heap.objs.size))) :
    wpAny (model prog w) A (subscriptTail value slice (.ref l) (.ref s.heap.objs.size)) Q E { s with heap := s.heap.push (slObj vl vu .none) } := by
  have hn := S.notWr (none_at_size s.heap (Nat.le_refl _))
  have S1 := S.push (slObj vl vu .none) rfl (t' := s.toks)
  have hl1 : (s.heap.push (slObj vl vu .none)).IsList l vs.toArray := hl.push _
  refine tail_any (Heap.IsList.typeIs (s := { s with heap := s.heap.push (slObj vl vu .none) }) hl1) slot_list_getitem.lookup ?_ hs
  refine wpAny_getItem_list_slice hl1 (Heap.IsSliceOf.new ..) pl pu .none (by simp) ?_ (by rw [List.size_toArray]; have sl : sizeLine = 16777216 := rfl; omega)
  rw [e]
  have S2 := S1.push (lobj zs 0) rfl (t' := s.toks)
  have hn2 := S1.notWr (none_at_size (s.heap.push (slObj vl vu .none)) (Nat.le_refl _))
  refine h _ _ hn2 (S2.drop (List.Sublist.cons_cons _ (List.sublist_cons_self _ _)) fun b hb => ?_)
  have := S2.wo b hb
  simp only [List.map_cons, List.mem_cons] at this ⊢
  rcases this with h | h | h
  · exact .inl h
  · exact absurd (h ▸ hb) hn
  · exact .inr h
theorem sl_from {value slice : PySem.Expr} {l : Addr} {vs : List Value} {k : Int} {t : Tok} {Q : Value → Shared → Prop} (S : St c L g own lm s) (hl : s.heap.IsList l vs.toArray) (hz : vs.length ≤ 1000000) (h0 : 0 ≤ k)
    (h : ∀ D s', D ∉ c.wr → St c L g ((D, lobj (vs.drop k.toNat) 0) :: own) lm s' → Q (.ref D) s')
    (hs : subscripted slice false (.ref l) (.ref s.heap.objs.size) = operate [.ref s.heap.objs.size, .ref l] (getItem (.ref l) (.ref s.heap.objs.size)) := by with_unfolding_all rfl) :
    wpAny (model prog w) A (subscriptTail value slice (.ref l) (.ref s.heap.objs.size)) Q E { s with heap := s.heap.push { cls := .type "slice", data := .fields #[.int k t, .none, .none] } } :=
  sl_any S hl hz (.int k t) .none (pick_from vs h0) h hs
theorem sl_upto {value slice : PySem.Expr} {l : Addr} {vs : List Value} {k : Int} {t : Tok} {Q : Value → Shared → Prop} (S : St c L g own lm s) (hl : s.heap.IsList l vs.toArray) (hz : vs.length ≤ 1000000) (h0 : 0 ≤ k)
    (h : ∀ D s', D ∉ c.wr → St c L g ((D, lobj (vs.take k.toNat) 0) :: own) lm s' → Q (.ref D) s')
    (hs : subscripted slice false (.ref l) (.ref s.heap.objs.size) = operate [.ref s.heap.objs.size, .ref l] (getItem (.ref l) (.ref s.heap.objs.size)) := by with_unfolding_all rfl) :
    wpAny (model prog w) A (subscriptTail value slice (.ref l) (.ref s.heap.objs.size)) Q E { s with heap := s.heap.push { cls := .type "slice", data := .fields #[.none, .int k t, .none] } } :=
  sl_any S hl hz .none (.int k t) (pick_upto vs h0) h hs
/-- list + list -/
theorem o_addL {l b : Addr} {vs ws : List Value} {Q : Value → Shared → Prop} (S : St c L g own lm s) (hl : s.heap.IsList l vs.toArray) (hb : s.heap.IsList b ws.toArray) (hz : vs.length ≤ 1000000) (hy : ws.length ≤ 1000000)
    (h : ∀ D s', D ∉ c.wr → St c L g ((D, lobj (vs ++ ws) 0) :: own) lm s' → Q (.ref D) s') : wpAny (model prog w) A (binaryOp .Add (.ref l) (.ref b)) Q E s := by
  obtain ⟨⟨cls, dd, data, sl⟩, ho, hc, n, hd⟩ := id hl
  obtain ⟨⟨cls2, dd2, data2, sl2⟩, ho2, hc2, n2, hd2⟩ := id hb
  simp only at hc hd hc2 hd2
  subst hc hd hc2 hd2
  have e : vs.toArray ++ ws.toArray = (vs ++ ws).toArray := by simp
  have hn := S.notWr (none_at_size s.heap (Nat.le_refl _))
  refine concat_meets ⟨_, ho, rfl⟩ ⟨_, ho2, rfl⟩ noFill_list_add seq_list_add PySem.F.slot_list_add PySem.F.entry_list_add (PySem.F.args_list_add_2 _ _) (list_addW l b vs.toArray ws.toArray n n2 dd dd2 sl sl2 (by have sl : sizeLine = 16777216 := rfl; simp; omega)) ⟨ho, ho2, ?_⟩
  rw [e]
  exact h _ _ hn (S.push (lobj (vs ++ ws) 0) rfl (t' := s.toks))

/-! ### tuples taken apart -/
theorem St.extB (S : St c L g own lm s) {h' : Heap} {t' : Nat} (k : Heap.ExtBut s.heap.objs.size s.heap h') : St c L g own lm { s with heap := h', toks := t' } :=
  S.le fun b o e => k b o (Nat.ne_of_lt (Heap.lt_size e)) e
theorem asg2 {x y : Str} {p q pos : Pos} {k : Nat} {T : Addr} {a b : Value} {Q : Unit → Shared → Prop} (hA : A.handled = none) (S : St c L g own lm s) (hT : s.heap.IsTuple T #[a, b])
    (h : ∀ s', St c L g own lm s' → wpAny (model prog w) A (assign (.Name x p) env a) (fun _ s₁ => wpAny (model prog w) A (assign (.Name y q) env b) Q E s₁) E s') :
    wpAny (model prog w) A (assign (.Tuple [.Name x p, .Name y q] k pos) env (.ref T)) Q E s := by
  refine wpAny_assign_Tuple hA hT rfl rfl fun h' hk => ?_
  show wpAny _ _ (assignInOrder [assign (.Name x p) env, assign (.Name y q) env] [a, b]) _ _ _
  unfold assignInOrder
  refine wpAny_bind (wpAny_holding (wpAny_mono (h _ (S.extB (t' := s.toks) hk)) (fun _ s₁ h₁ => ?_) fun _ _ e => e))
  unfold assignInOrder
  refine wpAny_bind (wpAny_holding (wpAny_mono h₁ (fun _ s₂ h₂ => ?_) fun _ _ e => e))
  unfold assignInOrder
  exact wpAny_pure h₂
def Through (P : Shared → Prop) (s : Shared) : Prop := ∃ c L g own lm, St c L g own lm s ∧ ∀ s', St c L g own lm s' → P s'
theorem through {P : Shared → Prop} (S : St c L g own lm s) (h : ∀ s', St c L g own lm s' → P s') : Through P s := ⟨c, L, g, own, lm, S, h⟩
/-- x, y = e1, e2 -/
theorem as2 {x y : Str} {px py tpos vpos pos : Pos} {k vk : Nat} {e1 e2 : PySem.Expr} {Q : Flow → Shared → Prop} (hA : A.handled = none)
    (h : wpAny (model prog w) A (eval e1 env) (fun v1 s₁ => wpAny (model prog w) A (eval e2 env) (fun v2 s₂ => Through (fun s₃ => wpAny (model prog w) A (storeName env y v2) (fun _ s₄ => wpAny (model prog w) A (storeName env x v1) (fun _ => Q .next) E s₄) E s₃) s₂) E s₁) E s)
    (hp1 : starEach [e1, e2] env = (false, eval e1 env) :: starEach [e2] env := by rfl) (hp2 : starEach [e2] env = (false, eval e2 env) :: starEach [] env := by rfl)
    (hs : swapsWithSole [.Tuple [.Name x px, .Name y py] k tpos] (.Tuple [e1, e2] vk vpos) pos.line env = pure false := by rfl)
    (hw : swappedStores [.Tuple [.Name x px, .Name y py] k tpos] (.Tuple [e1, e2] vk vpos) env = pure (some [x, y]) := by rfl) :
    wpAny (model prog w) A (exec (.Assign [.Tuple [.Name x px, .Name y py] k tpos] (.Tuple [e1, e2] vk vpos) pos) env) Q E s := by
  refine PyProof.Rows.Assign_Tuple_swapped (PyProof.Rows.Tuple_ ?_) hs hw
  refine PyProof.Rows.spliced_more (wpAny_mono h (fun v1 s₁ h₁ => PyProof.Rows.spliced_more (wpAny_mono h₁ (fun v2 s₂ h₂ => PyProof.Rows.spliced_none ?_) fun _ _ e => e) hp2) fun _ _ e => e) hp1
  obtain ⟨c, L, g, own, lm, S, hq⟩ := h₂
  show wpAny (model prog w) A (newTuple [v1, v2]) _ _ s₂
  refine wpAny_newObj_type ?_
  have ht : (s₂.heap.push (tobj [v1, v2] 0)).IsTuple s₂.heap.objs.size #[v1, v2] := ⟨_, Heap.get?_push_size _ rfl, rfl, _, rfl⟩
  generalize hs2 : ({ s₂ with heap := s₂.heap.push (tobj [v1, v2] 0) } : Shared) = s3
  show wpAny (model prog w) A (unpackItems (.ref s₂.heap.objs.size) (#[v1, v2] : Array Value).size none) _ _ s3
  have ht : s3.heap.IsTuple s₂.heap.objs.size #[v1, v2] := hs2 ▸ ht
  refine wpAny_unpackItems_tuple hA ht fun h' hk => ?_
  subst hs2
  have S1 : St c L g own lm { s₂ with heap := s₂.heap.push (tobj [v1, v2] 0) } := S.le (t' := s₂.toks) fun b o e => Heap.get?_push_of_some _ e
  have S2 := S1.extB (t' := s₂.toks) hk
  show wpAny _ _ (assignInOrder [fun v => bindName env y v, fun v => bindName env x v] [v2, v1]) _ _ _
  unfold assignInOrder
  refine wpAny_bind (wpAny_holding (wpAny_bindName (wpAny_mono (hq _ S2) (fun _ s₃ h₃ => ?_) fun _ _ e => e)))
  unfold assignInOrder
  refine wpAny_bind (wpAny_holding (wpAny_bindName (wpAny_mono h₃ (fun _ s₄ h₄ => ?_) fun _ _ e => e)))
  unfold assignInOrder
  exact wpAny_pure h₄
end
end Mine
end
section
set_option maxRecDepth 100000
namespace Mine
/-- the built-in names that the text calls -/
def biTab : List (Str × Value) := [("len", .builtin "len"), ("isinstance", .builtin "isinstance"), ("range", .type "range"), ("list", .type "list"), ("tuple", .type "tuple"), ("int", .type "int"), ("enumerate", .type "enumerate"), ("zip", .type "zip")]
section
variable {prog : Program} {w : World} {A : Around} {E : Value → Shared → Prop} {s : Shared} {K : Frag} {c : Cs} {L : Addr} {g : Heap} {own : List (Addr × Obj)} {lm : List (Str × Value)} {env : Env}
theorem call_any {x : Str} {v : Value} {p pos : Pos} {e : PySem.Expr} {rest : List PySem.Expr} {Q : Value → Shared → Prop} (S : St c L g own lm s) (G : Gl K g) (X : Bi K) (hv : biTab.lookup x = some v) (hx : env.kindOf x = some .globalImplicit)
    (h : wpAny (model prog w) A (spliced (backTo pos (starEach (e :: rest) env))) (fun vs s₁ => wpAny (model prog w) A (call v vs) Q E s₁) E s)
    (he : starEach (e :: rest) env = (false, eval e env) :: starEach rest env := by rfl) (hplain : (backTo pos (starEach (e :: rest) env)).any (·.1) = false := by rfl)
    (hg : env.globals = mainGlobals := by rfl) (hbn : env.builtins = builtinsNs := by rfl) (hk : env.scope.kind = .function := by rfl) :
    wpAny (model prog w) A (eval (.Call (.Name x p) (e :: rest) [] pos) env) Q E s := by
  unfold biTab at hv
  simp only [List.lookup_cons] at hv
  split at hv
  · rename_i q; cases eq_of_beq q; cases hv
    exact call_bi S G X.len b_len hx h (by decide) he hplain hg hbn hk
  split at hv
  · rename_i q; cases eq_of_beq q; cases hv
    exact call_bi S G X.isinstance b_isinstance hx h (by decide) he hplain hg hbn hk
  split at hv
  · rename_i q; cases eq_of_beq q; cases hv
    exact call_ty S G X.range b_range hx h (by decide) he hplain hg hbn hk
  split at hv
  · rename_i q; cases eq_of_beq q; cases hv
    exact call_ty S G X.list b_list hx h (by decide) he hplain hg hbn hk
  split at hv
  · rename_i q; cases eq_of_beq q; cases hv
    exact call_ty S G X.tuple b_tuple hx h (by decide) he hplain hg hbn hk
  split at hv
  · rename_i q; cases eq_of_beq q; cases hv
    exact call_ty S G X.int b_int hx h (by decide) he hplain hg hbn hk
  split at hv
  · rename_i q; cases eq_of_beq q; cases hv
    exact call_ty S G X.enumerate b_enumerate hx h (by decide) he hplain hg hbn hk
  split at hv
  · rename_i q; cases eq_of_beq q; cases hv
    exact call_ty S G X.zip b_zip hx h (by decide) he hplain hg hbn hk
  · cases hv
/-- a statement that others follow; the last one -/
theorem ex_cons {st st2 : Stmt} {rest : List Stmt} {Q : Flow → Shared → Prop} (h : ∀ Qx : Flow → Shared → Prop, (∀ f s', (match f with | .next => wpAny (model prog w) A (execs (st2 :: rest) env) Q E s' | f => Q f s') → Qx f s') → wpAny (model prog w) A (exec st env) Qx E s) :
    wpAny (model prog w) A (execs (st :: st2 :: rest) env) Q E s := wpAny_execs_cons (h _ fun f s' q => by cases f <;> exact q)
theorem ex_last {st : Stmt} {Q : Flow → Shared → Prop} (h : wpAny (model prog w) A (exec st env) Q E s) : wpAny (model prog w) A (execs [st] env) Q E s :=
  wpAny_execs_cons (wpAny_mono h (fun f s' q => by cases f <;> first | exact wpAny_execs_nil q | exact q) fun _ _ e => e)
end
end Mine
end
section
set_option genInjectivity false
set_option genSizeOf false
namespace Mine
/-! ## maps by ranges, plainly -/
abbrev Row := Int × PyData
def cut (rows : List Row) (n : Int) : List Row := rows.filter fun p => decide (p.1 ≤ n)
def past (rows : List Row) (n : Int) : List Row := rows.filter fun p => decide (n < p.1)
def rval (rows : List Row) (n : Int) : PyData := (((cut rows n).getLast?).map (·.2)).getD .none
theorem cutK (n : Int) (rows : List Row) (k : Nat) (h1 : ∀ (i : Nat) (x : Int), (rows.map (·.1))[i]? = some x → i < k → x ≤ n) (h2 : ∀ (i : Nat) (x : Int), (rows.map (·.1))[i]? = some x → k ≤ i → n < x) :
    cut rows n = rows.take k ∧ past rows n = rows.drop k := by
  have a1 : ∀ p ∈ rows.take k, p.1 ≤ n := fun p hp => by
    obtain ⟨i, hi⟩ := List.mem_iff_getElem?.mp hp
    have hik : i < k := by
      rcases Nat.lt_or_ge i k with h | h
      · exact h
      · rw [List.getElem?_take_eq_none h] at hi; cases hi
    rw [List.getElem?_take_of_lt hik] at hi
    exact h1 i p.1 (by rw [List.getElem?_map, hi]; rfl) hik
  have a2 : ∀ p ∈ rows.drop k, n < p.1 := fun p hp => by
    obtain ⟨i, hi⟩ := List.mem_iff_getElem?.mp hp
    rw [List.getElem?_drop] at hi
    exact h2 (k + i) p.1 (by rw [List.getElem?_map, hi]; rfl) (by omega)
  unfold cut past
  constructor
  · conv => lhs; rw [← List.take_append_drop k rows]
    rw [List.filter_append, List.filter_eq_self.mpr (fun p hp => decide_eq_true (a1 p hp)), List.filter_eq_nil_iff.mpr (fun p hp => by have := a2 p hp; simp; omega), List.append_nil]
  · conv => lhs; rw [← List.take_append_drop k rows]
    rw [List.filter_append, List.filter_eq_nil_iff.mpr (fun p hp => by have := a1 p hp; simp; omega), List.nil_append, List.filter_eq_self.mpr (fun p hp => decide_eq_true (a2 p hp))]
/-- what is kept of a map -/
structure RW (rows : List Row) : Prop where
  sorted : (rows.map (·.1)).Pairwise (· < ·)
  zero : ∃ v r, rows = (0, v) :: r
  ok : ∀ p ∈ rows, Vok p.2
theorem RW.sort {rows : List Row} (h : RW rows) : ∀ (i j : Nat) (x y : Int), (rows.map (·.1))[i]? = some x → (rows.map (·.1))[j]? = some y → i ≤ j → x ≤ y := by
  intro i j x y hx hy hij
  rcases Nat.lt_or_ge i j with hlt | hge
  · obtain ⟨a1, e1⟩ := List.getElem?_eq_some_iff.mp hx
    obtain ⟨a2, e2⟩ := List.getElem?_eq_some_iff.mp hy
    have := List.pairwise_iff_getElem.mp h.sorted i j a1 a2 hlt
    rw [e1, e2] at this
    omega
  · have : i = j := by omega
    subst this
    rw [hx] at hy
    cases hy
    exact Int.le_refl _
theorem RW.cut_ne {rows : List Row} (h : RW rows) {n : Int} (hn : 0 ≤ n) : ∃ v r, cut rows n = (0, v) :: r := by
  obtain ⟨v, r, rfl⟩ := h.zero
  exact ⟨v, cut r n, by unfold cut; rw [List.filter_cons, if_pos (by simpa using hn)]⟩
/-- the value is at the last place -/
theorem RW.at {rows : List Row} (h : RW rows) {n : Int} (hn : 0 ≤ n) {k : Nat} (hc : cut rows n = rows.take k) (hk : k ≤ rows.length) : 0 < k ∧ (rows.map (·.2))[k - 1]? = some (rval rows n) := by
  obtain ⟨v, r, e⟩ := h.cut_ne hn
  have h0 : 0 < k := by
    rcases Nat.eq_zero_or_pos k with h | h
    · rw [hc, h, List.take_zero] at e; cases e
    · exact h
  refine ⟨h0, ?_⟩
  unfold rval
  rw [hc, List.getElem?_map, List.getLast?_take, if_neg (by omega), List.getElem?_eq_getElem (by omega)]
  simp
/-- one stretch is put -/
def rput (rows : List Row) (a b : Int) (v : PyData) (lk : PyData → PyData → Bool) : List Row :=
  cut rows (a - 1) ++ ((if lk (rval rows (a - 1)) v then [] else [(a, v)]) ++ (if lk (rval rows (b + 1)) v then [] else [(b + 1, rval rows (b + 1))])) ++ past rows (b + 1)
theorem rval_ok {rows : List Row} (h : RW rows) {n : Int} (hn : 0 ≤ n) : Vok (rval rows n) := by
  obtain ⟨v, r, e⟩ := h.cut_ne hn
  unfold rval
  rw [e, List.getLast?_cons]
  have : ((r.getLast?).getD (0, v)) ∈ cut rows n := by
    rw [e]
    cases q : r.getLast? with
    | none => exact .head _
    | some p => exact .tail _ (List.mem_of_getLast? q)
  exact h.ok _ (List.mem_filter.mp this).1
theorem cut_app (a b : List Row) (n : Int) : cut (a ++ b) n = cut a n ++ cut b n := List.filter_append ..
theorem cut_cut (rows : List Row) (n m : Int) (h : n ≤ m) : cut (cut rows n) m = cut rows n := List.filter_eq_self.mpr fun p hp => by
  have := of_decide_eq_true (List.mem_filter.mp hp).2
  exact decide_eq_true (by omega)
theorem cut_cut' (rows : List Row) (n m : Int) (h : m ≤ n) : cut (cut rows n) m = cut rows m := by
  unfold cut
  rw [List.filter_filter]
  refine List.filter_congr fun p _ => ?_
  by_cases h1 : p.1 ≤ m
  · simp [h1]; omega
  · simp [h1]
theorem cut_past (rows : List Row) (n m : Int) (h : m ≤ n) : cut (past rows n) m = [] := List.filter_eq_nil_iff.mpr fun p hp => by
  have := of_decide_eq_true (List.mem_filter.mp hp).2
  simp; omega
theorem split_at (rows : List Row) (hs : (rows.map (·.1)).Pairwise (· < ·)) (n : Int) : rows = cut rows n ++ past rows n := by
  induction rows with
  | nil => rfl
  | cons p r ih =>
    rw [List.map_cons, List.pairwise_cons] at hs
    have ih := ih hs.2
    unfold cut past at ih ⊢
    by_cases h : p.1 ≤ n
    · rw [List.filter_cons_of_pos (by simpa using h), List.filter_cons_of_neg (by simp; omega), List.cons_append, ← ih]
    · have e1 : r.filter (fun p => decide (p.1 ≤ n)) = [] := List.filter_eq_nil_iff.mpr fun q hq => by
        have := hs.1 q.1 (List.mem_map_of_mem hq)
        simp; omega
      rw [e1, List.nil_append] at ih
      rw [List.filter_cons_of_neg (by simpa using h), e1, List.nil_append, List.filter_cons_of_pos (by simp; omega), ← ih]
theorem rval_app_cons (a : List Row) (x : Row) (b : List Row) (n : Int) (hx : x.1 ≤ n) (hb : cut b n = []) : rval (a ++ x :: b) n = x.2 := by
  have e : cut (x :: b) n = [x] := by
    show List.filter _ _ = _
    rw [List.filter_cons, if_pos (decide_eq_true hx)]
    show x :: cut b n = _
    rw [hb]
  unfold rval
  rw [cut_app, e]
  simp
theorem rval_of_cut {a b : List Row} {n m : Int} (h : cut a n = cut b m) : rval a n = rval b m := by unfold rval; rw [h]
theorem rput_get {rows : List Row} (h : RW rows) {a b : Int} {v : PyData} {lk : PyData → PyData → Bool} (hlk : ∀ x y, Vok x → Vok y → lk x y = true → x = y) (hv : Vok v) (ha : 0 < a) (hab : a ≤ b) {n : Int} (hn : 0 ≤ n) :
    rval (rput rows a b v lk) n = if a ≤ n ∧ n ≤ b then v else rval rows n := by
  have l1 := hlk _ v (rval_ok h (n := a - 1) (by omega)) hv
  have l2 := hlk _ v (rval_ok h (n := b + 1) (by omega)) hv
  unfold rput
  by_cases c1 : n < a
  · rw [show (if a ≤ n ∧ n ≤ b then v else rval rows n) = rval rows n from if_neg (by omega)]
    refine rval_of_cut ?_
    rw [cut_app, cut_app, cut_cut' _ _ _ (by omega), cut_past _ _ _ (by omega), List.append_nil]
    have : cut ((if lk (rval rows (a - 1)) v = true then [] else [(a, v)]) ++ (if lk (rval rows (b + 1)) v = true then [] else [(b + 1, rval rows (b + 1))])) n = [] := by
      refine List.filter_eq_nil_iff.mpr fun p hp => ?_
      rcases List.mem_append.mp hp with hp | hp <;> split at hp
      · cases hp
      · rw [List.mem_singleton.mp hp]; simp; omega
      · cases hp
      · rw [List.mem_singleton.mp hp]; simp; omega
    rw [this, List.append_nil]
  · by_cases c2 : n ≤ b
    · rw [show (if a ≤ n ∧ n ≤ b then v else rval rows n) = v from if_pos ⟨by omega, c2⟩]
      have e0 : cut (past rows (b + 1)) n = [] := cut_past _ _ _ (by omega)
      have e1 : cut (if lk (rval rows (b + 1)) v = true then [] else [(b + 1, rval rows (b + 1))]) n = [] := by
        refine List.filter_eq_nil_iff.mpr fun p hp => ?_
        split at hp
        · cases hp
        · rw [List.mem_singleton.mp hp]; simp; omega
      by_cases c3 : lk (rval rows (a - 1)) v = true
      · rw [if_pos c3, List.nil_append, List.append_assoc]
        have : rval (cut rows (a - 1) ++ ((if lk (rval rows (b + 1)) v = true then [] else [(b + 1, rval rows (b + 1))]) ++ past rows (b + 1))) n = rval rows (a - 1) := by
          refine rval_of_cut ?_
          rw [cut_app, cut_app, e1, e0, cut_cut _ _ _ (by omega)]
          simp
        rw [this, l1 c3]
      · rw [if_neg c3, List.append_assoc, List.append_assoc, List.singleton_append]
        refine rval_app_cons _ (a, v) _ n (by show a ≤ n; omega) ?_
        rw [cut_app, e1, e0]; rfl
    · rw [show (if a ≤ n ∧ n ≤ b then v else rval rows n) = rval rows n from if_neg (by omega)]
      have es := split_at rows h.sorted (b + 1)
      have ec : cut rows n = cut rows (b + 1) ++ cut (past rows (b + 1)) n := by
        conv => lhs; rw [es]
        rw [cut_app, cut_cut _ _ _ (by omega)]
      cases ep : cut (past rows (b + 1)) n with
      | cons p q =>
        have last : ∀ X : List Row, (((X ++ cut (past rows (b + 1)) n).getLast?).map (·.2)).getD .none = (((p :: q).getLast?).map (·.2)).getD .none := fun X => by
          rw [ep, List.getLast?_append]
          simp [List.getLast?_cons]
        unfold rval
        rw [ec, last, cut_app, last]
      | nil =>
        have r0 : rval rows n = rval rows (b + 1) := rval_of_cut (by rw [ec, ep, List.append_nil])
        rw [r0]
        by_cases c4 : lk (rval rows (b + 1)) v = true
        · rw [if_pos c4, List.append_nil, l2 c4]
          by_cases c3 : lk (rval rows (a - 1)) v = true
          · rw [if_pos c3, List.append_nil]
            rw [← l1 c3]
            refine rval_of_cut ?_
            rw [cut_app, ep, cut_cut _ _ _ (by omega), List.append_nil]
          · rw [if_neg c3, List.append_assoc, List.singleton_append]
            exact rval_app_cons _ (a, v) _ n (by show a ≤ n; omega) ep
        · rw [if_neg c4, ← List.append_assoc, List.append_assoc, List.singleton_append]
          exact rval_app_cons _ (b + 1, _) _ n (by show b + 1 ≤ n; omega) ep
theorem rput_RW {rows : List Row} (h : RW rows) {a b : Int} {v : PyData} {lk : PyData → PyData → Bool} (hv : Vok v) (ha : 0 < a) (hab : a ≤ b) : RW (rput rows a b v lk) := by
  have mem : ∀ p ∈ ((if lk (rval rows (a - 1)) v then [] else [(a, v)]) ++ (if lk (rval rows (b + 1)) v then [] else [(b + 1, rval rows (b + 1))])), (p.1 = a ∨ p.1 = b + 1) ∧ Vok p.2 := fun p hp => by
    rcases List.mem_append.mp hp with hp | hp <;> split at hp
    · cases hp
    · rw [List.mem_singleton.mp hp]; exact ⟨.inl rfl, hv⟩
    · cases hp
    · rw [List.mem_singleton.mp hp]; exact ⟨.inr rfl, rval_ok h (by omega)⟩
  refine ⟨?_, ?_, ?_⟩
  · unfold rput
    rw [List.map_append, List.map_append, List.pairwise_append, List.pairwise_append]
    have sub : ∀ (l : List Row), l.Sublist rows → (l.map (·.1)).Pairwise (· < ·) := fun l hl => h.sorted.sublist (hl.map _)
    refine ⟨⟨sub _ List.filter_sublist, ?_, ?_⟩, sub _ List.filter_sublist, ?_⟩
    · split <;> split <;> simp
      omega
    · intro x hx y hy
      obtain ⟨p, hp, rfl⟩ := List.mem_map.mp hx
      obtain ⟨q, hq, rfl⟩ := List.mem_map.mp hy
      have h1 := of_decide_eq_true (List.mem_filter.mp hp).2
      have h2 := (mem q hq).1
      omega
    · intro x hx y hy
      obtain ⟨q, hq, rfl⟩ := List.mem_map.mp hy
      have h2 := of_decide_eq_true (List.mem_filter.mp hq).2
      rcases List.mem_append.mp hx with hx | hx
      · obtain ⟨p, hp, rfl⟩ := List.mem_map.mp hx
        have h1 := of_decide_eq_true (List.mem_filter.mp hp).2
        omega
      · obtain ⟨p, hp, rfl⟩ := List.mem_map.mp hx
        have h1 := (mem p hp).1
        omega
  · obtain ⟨v', r, e⟩ := h.cut_ne (n := a - 1) (by omega)
    exact ⟨v', r ++ (((if lk (rval rows (a - 1)) v then [] else [(a, v)]) ++ (if lk (rval rows (b + 1)) v then [] else [(b + 1, rval rows (b + 1))])) ++ past rows (b + 1)), by
      unfold rput; rw [e]; simp⟩
  · intro p hp
    unfold rput at hp
    rcases List.mem_append.mp hp with hp | hp
    · rcases List.mem_append.mp hp with hp | hp
      · exact h.ok p (List.mem_filter.mp hp).1
      · exact (mem p hp).2
    · exact h.ok p (List.mem_filter.mp hp).1
theorem rput_len (rows : List Row) (a b : Int) (v : PyData) (lk : PyData → PyData → Bool) : (rput rows a b v lk).length ≤ rows.length + rows.length + 2 := by
  unfold rput cut past
  have h1 := List.length_filter_le (fun p : Row => decide (p.1 ≤ a - 1)) rows
  have h2 := List.length_filter_le (fun p : Row => decide (b + 1 < p.1)) rows
  rw [List.length_append, List.length_append, List.length_append]
  have h3 : (if lk (rval rows (a - 1)) v = true then ([] : List Row) else [(a, v)]).length ≤ 1 := by split <;> simp
  have h4 : (if lk (rval rows (b + 1)) v = true then ([] : List Row) else [(b + 1, rval rows (b + 1))]).length ≤ 1 := by split <;> simp
  omega
end Mine
end
section
set_option maxRecDepth 100000
set_option maxHeartbeats 1000000
namespace Mine
theorem rd_handed {h : Heap} {v : Value} {d : PyData} (r : Rd h v d) : handedIn v = true := by
  obtain ⟨as, r⟩ := r
  cases r <;> rfl
section
variable {prog : Program} {w : World} {A : Around} {E : Value → Shared → Prop} {s : Shared} {K : Frag} {c : Cs} {L : Addr} {g : Heap} {own : List (Addr × Obj)} {lm : List (Str × Value)} {env : Env}
theorem item_rd {value slice : PySem.Expr} {l : Addr} {ds : List PyData} {d : PyData} {k : Int} {u : Tok} {Q : Value → Shared → Prop} (S : St c L g own lm s) (hl : Rd g (.ref l) (.list ds)) (h0 : 0 ≤ k) (hk : ds[k.toNat]? = some d) (hz : ds.length ≤ 100000)
    (h : ∀ v, Rd g v d → Q v s)
    (hs : subscripted slice false (.ref l) (.int k u) = operate [.ref l, .int k u] (getItem (.ref l) (.int k u)) := by with_unfolding_all rfl) :
    wpAny (model prog w) A (subscriptTail value slice (.ref l) (.int k u)) Q E s := by
  obtain ⟨a, vs, e, hl, r⟩ := rd_list hl
  cases e
  obtain ⟨v, hv, rv⟩ := r.get hk
  have : k.toNat < ds.length := (List.getElem?_eq_some_iff.mp hk).1
  exact item_l (isList_up hl S.keep) h0 (by omega) (by simpa using hv) (h v rv) hs
theorem item_own {value slice : PySem.Expr} {l : Addr} {vs : List Value} {n : Nat} {v : Value} {k : Int} {u : Tok} {Q : Value → Shared → Prop} (S : St c L g own lm s) (hm : (l, lobj vs n) ∈ own) (h0 : 0 ≤ k) (hk : vs[k.toNat]? = some v) (hz : vs.length ≤ 1000000)
    (h : Q v s)
    (hs : subscripted slice false (.ref l) (.int k u) = operate [.ref l, .int k u] (getItem (.ref l) (.int k u)) := by with_unfolding_all rfl) :
    wpAny (model prog w) A (subscriptTail value slice (.ref l) (.int k u)) Q E s := by
  have : k.toNat < vs.length := (List.getElem?_eq_some_iff.mp hk).1
  exact item_l (lobj_is (S.ow _ hm)) h0 (by omega) (by simpa using hk) h hs
theorem len_rd {l : Addr} {ds : List PyData} {Q : Value → Shared → Prop} (S : St c L g own lm s) (hl : Rd g (.ref l) (.list ds)) (hz : ds.length ≤ 100000) (h : ∀ t s', St c L g own lm s' → Q (.int ds.length t) s') : wpAny (model prog w) A (call (.builtin "len") [.ref l]) Q E s := by
  obtain ⟨a, vs, e, hl, r⟩ := rd_list hl
  cases e
  have e : vs.toArray.size = ds.length := by rw [List.size_toArray, r.length]
  refine len_l S (isList_up hl S.keep) (by rw [e]; omega) fun t s' S' => ?_
  rw [e]; exact h t s' S'

theorem slR_from {value slice : PySem.Expr} {l : Addr} {ds : List PyData} {k : Int} {t : Tok} {Q : Value → Shared → Prop} (S : St c L g own lm s) (hl : Rd g (.ref l) (.list ds)) (hz : ds.length ≤ 100000) (h0 : 0 ≤ k)
    (h : ∀ D g' s', Le g g' → St c L g' own lm s' → Rd g' (.ref D) (.list (ds.drop k.toNat)) → Q (.ref D) s')
    (hs : subscripted slice false (.ref l) (.ref s.heap.objs.size) = operate [.ref s.heap.objs.size, .ref l] (getItem (.ref l) (.ref s.heap.objs.size)) := by with_unfolding_all rfl) :
    wpAny (model prog w) A (subscriptTail value slice (.ref l) (.ref s.heap.objs.size)) Q E { s with heap := s.heap.push { cls := .type "slice", data := .fields #[.int k t, .none, .none] } } := by
  obtain ⟨a, vs, e, hl, r⟩ := rd_list hl
  cases e
  refine sl_from S (isList_up hl S.keep) (by have := r.length; omega) h0 (fun D s' hD S' => ?_) hs
  obtain ⟨g', le, S2, hg⟩ := S'.freeze (pre := []) rfl hD
  exact h D g' s' le S2 (.list (lobj_is hg) ((r.drop _).up le))
theorem slR_upto {value slice : PySem.Expr} {l : Addr} {ds : List PyData} {k : Int} {t : Tok} {Q : Value → Shared → Prop} (S : St c L g own lm s) (hl : Rd g (.ref l) (.list ds)) (hz : ds.length ≤ 100000) (h0 : 0 ≤ k)
    (h : ∀ D g' s', Le g g' → St c L g' own lm s' → Rd g' (.ref D) (.list (ds.take k.toNat)) → Q (.ref D) s')
    (hs : subscripted slice false (.ref l) (.ref s.heap.objs.size) = operate [.ref s.heap.objs.size, .ref l] (getItem (.ref l) (.ref s.heap.objs.size)) := by with_unfolding_all rfl) :
    wpAny (model prog w) A (subscriptTail value slice (.ref l) (.ref s.heap.objs.size)) Q E { s with heap := s.heap.push { cls := .type "slice", data := .fields #[.none, .int k t, .none] } } := by
  obtain ⟨a, vs, e, hl, r⟩ := rd_list hl
  cases e
  refine sl_upto S (isList_up hl S.keep) (by have := r.length; omega) h0 (fun D s' hD S' => ?_) hs
  obtain ⟨g', le, S2, hg⟩ := S'.freeze (pre := []) rfl hD
  exact h D g' s' le S2 (.list (lobj_is hg) ((r.take _).up le))
theorem addR {l b : Addr} {ds es : List PyData} {Q : Value → Shared → Prop} (S : St c L g own lm s) (hl : Rd g (.ref l) (.list ds)) (hb : Rd g (.ref b) (.list es)) (hz : ds.length ≤ 100000) (hy : es.length ≤ 100000)
    (h : ∀ D g' s', Le g g' → St c L g' own lm s' → Rd g' (.ref D) (.list (ds ++ es)) → Q (.ref D) s') : wpAny (model prog w) A (binaryOp .Add (.ref l) (.ref b)) Q E s := by
  obtain ⟨a, vs, e, hl, r⟩ := rd_list hl
  cases e
  obtain ⟨a, ws, e, hb, r2⟩ := rd_list hb
  cases e
  refine o_addL S (isList_up hl S.keep) (isList_up hb S.keep) (by have := r.length; omega) (by have := r2.length; omega) fun D s' hD S' => ?_
  obtain ⟨g', le, S2, hg⟩ := S'.freeze (pre := []) rfl hD
  exact h D g' s' le S2 (.list (lobj_is hg) ((r.app r2).up le))
/-- a statement that always goes on -/
theorem cutR {st : Stmt} {J : Shared → Prop} {Q : Flow → Shared → Prop} (h : ∀ Qc : Flow → Shared → Prop, (∀ s, Flow.next = .next ∧ J s → Qc .next s) → wpAny (model prog w) A (exec st env) Qc Nev s) (k : ∀ s, J s → Q .next s) : wpAny (model prog w) A (exec st env) Q Nev s :=
  wpAny_mono (h (fun f s => f = .next ∧ J s) fun _ h => h) (fun f s ⟨e, j⟩ => by rw [e]; exact k s j) fun _ _ e => e
end
theorem rd_ints {h : Heap} {a : Addr} {ns : List Int} (x : Ints h a ns) : Rd h (.ref a) (.list (dI ns)) := by
  obtain ⟨vs, hl, hi⟩ := x
  exact .list hl (.ofInts hi)
end Mine
end
section
set_option maxRecDepth 100000
set_option maxHeartbeats 1000000
namespace Mine
section
variable {KK : Type} [DecidableEq KK]
theorem valueAt_cons (p : KK × Value) (r : List (KK × Value)) (x : KK) : valueAt (p :: r) x = if p.1 = x then some p.2 else valueAt r x := by
  unfold valueAt
  rw [List.find?_cons]
  by_cases h : p.1 = x
  · rw [if_pos h]; simp [h]
  · rw [if_neg h]; simp [h]
theorem valueAt_app (a b : List (KK × Value)) (x : KK) : valueAt (a ++ b) x = (valueAt a x).or (valueAt b x) := by
  induction a with
  | nil => rfl
  | cons p r ih =>
    rw [List.cons_append, valueAt_cons, valueAt_cons, ih]
    split <;> simp
theorem valueAt_none_iff {kvs : List (KK × Value)} {k : KK} : valueAt kvs k = none ↔ k ∉ kvs.map (·.1) := by
  induction kvs with
  | nil => simp [valueAt]
  | cons p r ih =>
    rw [valueAt_cons, List.map_cons, List.mem_cons]
    by_cases h : p.1 = k
    · rw [if_pos h]; simp [h]
    · rw [if_neg h, ih]
      constructor
      · rintro a (b | b)
        · exact h b.symm
        · exact a b
      · intro a b; exact a (.inr b)
theorem valueAt_map (kvs : List (KK × Value)) (k : KK) (v : Value) (x : KK) (h : x ≠ k) : valueAt (kvs.map fun kv => if kv.1 = k then (kv.1, v) else kv) x = valueAt kvs x := by
  induction kvs with
  | nil => rfl
  | cons p r ih =>
    rw [List.map_cons, valueAt_cons, valueAt_cons, ih]
    by_cases h1 : p.1 = k
    · rw [if_pos h1]
      have : p.1 ≠ x := fun e => h (e ▸ h1)
      rw [if_neg this, if_neg this]
    · rw [if_neg h1]
theorem valueAt_map_self (kvs : List (KK × Value)) (k : KK) (v : Value) (h : k ∈ kvs.map (·.1)) : valueAt (kvs.map fun kv => if kv.1 = k then (kv.1, v) else kv) k = some v := by
  induction kvs with
  | nil => cases h
  | cons p r ih =>
    rw [List.map_cons, valueAt_cons]
    by_cases h1 : p.1 = k
    · rw [if_pos h1, if_pos h1]
    · rw [if_neg h1, if_neg h1]
      rw [List.map_cons, List.mem_cons] at h
      exact ih (h.resolve_left fun e => h1 e.symm)
theorem valueAt_store (kvs : List (KK × Value)) (k : KK) (v : Value) (x : KK) : valueAt (stored kvs k v) x = if x = k then some v else valueAt kvs x := by
  unfold stored
  by_cases hk : k ∈ kvs.map (·.1)
  · have : (kvs.any fun kv => decide (kv.1 = k)) = true := by
      obtain ⟨p, hp, e⟩ := List.mem_map.mp hk
      exact List.any_eq_true.mpr ⟨p, hp, decide_eq_true e⟩
    rw [if_pos this]
    by_cases h : x = k
    · rw [if_pos h, h]; exact valueAt_map_self kvs k v hk
    · rw [if_neg h]; exact valueAt_map kvs k v x h
  · have : ¬ (kvs.any fun kv => decide (kv.1 = k)) = true := fun e => by
      obtain ⟨p, hp, e⟩ := List.any_eq_true.mp e
      exact hk (List.mem_map.mpr ⟨p, hp, of_decide_eq_true e⟩)
    rw [if_neg this, valueAt_app, valueAt_cons]
    by_cases h : x = k
    · subst h
      rw [if_pos rfl, valueAt_none_iff.mpr hk, if_pos rfl]; rfl
    · rw [if_neg h, if_neg (fun e => h e.symm)]
      show (valueAt kvs x).or none = _
      simp
theorem stored_keys (kvs : List (KK × Value)) (k : KK) (v : Value) : ∀ y ∈ (stored kvs k v).map (·.1), y = k ∨ y ∈ kvs.map (·.1) := by
  intro y hy
  have : valueAt (stored kvs k v) y ≠ none := fun e => valueAt_none_iff.mp e hy
  rw [valueAt_store] at this
  by_cases h : y = k
  · exact .inl h
  · rw [if_neg h] at this
    exact .inr (Classical.byContradiction fun e => this (valueAt_none_iff.mpr e))
end
theorem merged_len {KK : Type} [DecidableEq KK] : ∀ (more kvs : List (KK × Value)), (merged kvs more).length ≤ kvs.length + more.length
  | [], kvs => by simp [merged]
  | p :: r, kvs => by
    have h1 := merged_len r (stored kvs p.1 p.2)
    have h2 := stored_length_le kvs p.1 p.2
    show (merged (stored kvs p.1 p.2) r).length ≤ _
    rw [List.length_cons]
    omega
/-- what is known of a dict by strs -/
def Kn (g : Heap) (kvs : List (Str × Value)) (kn : List (Str × PyData)) : Prop := ∀ p ∈ kn, ∃ v, valueAt kvs p.1 = some v ∧ Rd g v p.2
theorem Kn.up {g g' : Heap} {kvs kn} (h : Kn g kvs kn) (le : Le g g') : Kn g' kvs kn := fun p hp => let ⟨v, a, b⟩ := h p hp; ⟨v, a, b.up le⟩
theorem Kn.nil {g : Heap} {kvs} : Kn g kvs [] := fun _ h => nomatch h
theorem Kn.store {g : Heap} {kvs kn} {x : Str} {v : Value} {d : PyData} (h : Kn g kvs kn) (hx : ∀ p ∈ kn, p.1 ≠ x) (r : Rd g v d) : Kn g (stored kvs x v) ((x, d) :: kn) := fun p hp => by
  rcases List.mem_cons.mp hp with rfl | hp
  · exact ⟨v, by rw [valueAt_store, if_pos rfl], r⟩
  · obtain ⟨u, a, b⟩ := h p hp
    exact ⟨u, by rw [valueAt_store, if_neg (hx p hp)]; exact a, b⟩
theorem Kn.sub {g : Heap} {kvs kn kn'} (h : Kn g kvs kn) (hs : ∀ p ∈ kn', p ∈ kn) : Kn g kvs kn' := fun p hp => h p (hs p hp)

section
variable {prog : Program} {w : World} {A : Around} {E : Value → Shared → Prop} {s : Shared} {K : Frag} {c : Cs} {L : Addr} {g : Heap} {own : List (Addr × Obj)} {lm : List (Str × Value)} {env : Env}
variable {KK : Type} [DecidableEq KK] {knd : KeyKind prog w KK}
/-- a dict display -/
theorem d_dispT {keys : List (Option PySem.Expr)} {values : List PySem.Expr} {pos : Pos} {Q : Value → Shared → Prop} (knd : KeyKind prog w KK) (S : St c L g own lm s) (G : Gl K g)
    (hall : keys.all (·.isSome) = true) (hl : keys.length = values.length) (h0 : 0 < keys.length ∧ keys.length ≤ 15)
    (h : ∀ D s', (D == sysModules) = false → D ∉ c.wr → St c L g ((D, edict) :: own) lm s' → wpAny (model prog w) A (evalPairs (pairTrees keys values env pos)) (fun vs s₁ => ∃ g₁ pre post lm₁ kvs, St c L g₁ (pre ++ (D, edict) :: post) lm₁ s₁ ∧ Carries knd vs kvs ∧
      ∀ o' s₂, o'.IsDictOf knd (merged [] kvs) → St c L g₁ (pre ++ (D, o') :: post) lm₁ s₂ → Q (.ref D) s₂) E s') :
    wpAny (model prog w) A (eval (.Dict keys values pos) env) Q E s := by
  have hn := pairTrees_length keys values env pos hall hl
  refine d_disp knd S G (zip_pairTrees keys values env pos hall hl) (fun he => ?_) (by rw [hn]; exact h0.2) h
  rw [he] at hn
  have : 0 = keys.length := hn
  omega

theorem Itr.mono {target : PySem.Expr} {I : Addr} {wr : List Addr} {n m : Nat} {P P' : Nat → Value → Heap → Prop} {h : Heap} (x : Itr prog w A target g I wr n P h) (e : n = m) (k : ∀ i v h, P i v h → P' i v h) : Itr prog w A target g I wr m P' h := by
  subst e
  obtain ⟨fp, Md, Sti, W, r⟩ := x
  exact ⟨fp, Md, Sti, ⟨W.sub, W.frame, W.item, fun i v s Q E hm hq => W.go i v s Q E hm fun h' hP => hq h' (k _ _ _ hP), W.done⟩, r⟩
theorem start_rdT {T : Addr} {ds : List PyData} {Q : Value → Shared → Prop} (hA : A.handled = none) (S : St c L g own lm s) (hl : Rd g (.ref T) (.tuple ds))
    (h : ∀ I its s', its.map (·.1) = [I] → (∀ target, Itr prog w A target g I [I] ds.length (fun i v _ => ∃ d, ds[i]? = some d ∧ Rd g v d) s'.heap) → (∀ b ∈ [I], b ∉ c.wr) → St c L g (its ++ own) lm s' → Q (.ref I) s') :
    wpAny (model prog w) A (pyIter (.ref T)) Q Nev s := by
  obtain ⟨a, vs, e, hl, r⟩ := rd_tuple hl
  cases e
  refine start_tuple hA S hl fun I its s' hI X hw S' => h I its s' hI (fun target => (X target).mono (by rw [List.size_toArray, r.length]) fun i v _ hv => r.at (by simpa using hv)) hw S'
theorem start_rdL {T : Addr} {ds : List PyData} {Q : Value → Shared → Prop} (hA : A.handled = none) (S : St c L g own lm s) (hl : Rd g (.ref T) (.list ds))
    (h : ∀ I its s', its.map (·.1) = [I] → (∀ target, Itr prog w A target g I [I] ds.length (fun i v _ => ∃ d, ds[i]? = some d ∧ Rd g v d) s'.heap) → (∀ b ∈ [I], b ∉ c.wr) → St c L g (its ++ own) lm s' → Q (.ref I) s') :
    wpAny (model prog w) A (pyIter (.ref T)) Q Nev s := by
  obtain ⟨a, vs, e, hl, r⟩ := rd_list hl
  cases e
  refine start_list hA S hl fun I its s' hI X hw S' => h I its s' hI (fun target => (X target).mono (by rw [List.size_toArray, r.length]) fun i v _ hv => r.at (by simpa using hv)) hw S'

theorem merged_le {o : Obj} {kvs : List (KK × Value)} {n : Nat} (_ : o.IsDictOf knd (merged [] kvs)) (h : kvs.length ≤ n) : (merged [] kvs).length ≤ n := by
  have := merged_len kvs []
  rw [List.length_nil] at this
  omega
theorem carr_nil : Carries knd [] [] := trivial
theorem carr_cons {key v : Value} {k : KK} {vs : List (Value × Value)} {kvs : List (KK × Value)} (hk : knd.is k key = true) (h : Carries knd vs kvs) : Carries knd ((key, v) :: vs) ((k, v) :: kvs) := ⟨hk, rfl, h⟩
end
end Mine
end
open Mine
set_option compiler.extract_closed false
set_option hygiene false in
local macro_rules | `(tactic| walk_at "x") => `(tactic| first
  | ((with_reducible show wpAny _ _ (eval _ _) _ _ _); first
    | ((with_reducible show wpAny _ _ (eval (.Name _ _) _) _ _ _); first | refine n_loc S rfl rfl rfl ?_ | refine n_cellG S rfl hc1 rfl ?_ | refine n_cellG S rfl hc2 rfl ?_ | refine n_cellG S rfl hc3 rfl ?_ | refine n_bi S G (Bi.bool (Fns.bi X)) b_bool (by decide) rfl ?_ | refine n_glb S G (Cls.hmax Y) rfl ?_ | refine n_glb S G (Cls.hneg Y) rfl ?_)
    | ((with_reducible show wpAny _ _ (eval (.Call (.Name _ _) (_ :: _) [] _) _) _ _ _); refine call_any S G (Fns.bi X) rfl rfl ?_)
    | with_reducible first
      | (refine k_int S ?_; intro t s S)
      | (refine k_str S ?_; intro t s S)
      | (refine k_neg S ?_; intro t s S)
      | refine Subscript_ ?_
      | refine wpAny_BinOp ?_
      | refine wpAny_Compare1 ?_ (by with_unfolding_all rfl)
      | refine Tuple_ ?_
      | refine List_ ?_
      | refine wpAny_Constant_bool ?_
      | refine wpAny_Constant_none ?_
      | refine MethodCall_ ?_ (by with_unfolding_all rfl)
      | refine wpAny_IfExp ?_
      | refine BoolOp_and ?_
      | refine wpAny_Slice ?_
      | refine BoolOp_or ?_
      | refine BoolOp_one ?_
      | refine Attribute_any_ ?_ (by with_unfolding_all rfl))
  | ((with_reducible show wpAny _ _ (exec _ _) _ _ _); with_reducible first
      | refine wpAny_Assign_Name ?_ (by with_unfolding_all rfl)
      | refine wpAny_If ?_
      | refine as2 (by with_unfolding_all exact hA.h) ?_ (by with_unfolding_all rfl) (by with_unfolding_all rfl) (by with_unfolding_all rfl) (by with_unfolding_all rfl)
      | refine wpAny_Return_some ?_
      | refine wpAny_Assign_Subscript ?_ (by with_unfolding_all rfl)
      | refine plainObj_wpAny_Assign_Attribute ?_ (by with_unfolding_all rfl)
      | refine wpAny_Expr ?_ (by with_unfolding_all rfl) (by with_unfolding_all rfl)
      | refine wpAny_For ?_ (by intro _; with_unfolding_all rfl)
      | refine wpAny_AugAssign_Name ?_
      | refine wpAny_Continue ?_)
  | ((with_reducible show Through _ _); (with_reducible refine through S ?_); intro s S)
  | ((with_reducible show wpAny _ _ (storeName _ _ _) _ _ _); refine s_locL S rfl rfl ?_; intro lmz s S)
  | ((with_reducible show wpAny _ _ (loadName _ _) _ _ _); refine l_loc S rfl rfl rfl ?_)
  | ((with_reducible show wpAny _ _ (binaryOp _ _ _) _ _ _); first
    | with_reducible first | (refine o_add S ?_; intro t s S) | (refine o_sub S ?_; intro t s S)
    | ((with_reducible first | refine o_mod S ?_ ?_ | refine o_div S ?_ ?_); (focus first | decide | omega); intro t s S)
    | ((with_reducible refine o_mul S ?_ ?_); (focus first | exact mul_c (by decide) | exact mul_mod (by decide) | exact IntMulOk.of_left (by decide) | exact IntMulOk.of_right (intBits_le_64 (by omega) (by omega))); intro t s S))
  | (with_reducible refine test_link ?_)
  | ((with_reducible show wpAny _ _ (testChain _ _ _ _) _ _ _); refine test_last ?_)
  | with_reducible first
    | (refine ex_cons ?_; intro Qx hX)
    | refine ex_last ?_
    | (refine hX _ _ ?_; clear hX)
    | (refine o_iadd S ?_; intro t s S)
    | refine wpAny_execs_nil ?_
    | refine spliced_more ?_ (by with_unfolding_all rfl)
    | refine spliced_none ?_
    | refine wpAny_isTrue_Compare1 ?_ (by with_unfolding_all rfl)
    | refine isTrue_chain ?_ (by with_unfolding_all rfl)
    | refine wpAny_isTrue_BoolOp ?_
    | refine wpAny_isTrue_Not ?_
    | refine wpAny_isTrue_value ?_ (by with_unfolding_all rfl)
    | refine wpAny_allTrue_And_cons ?_
    | refine wpAny_allTrue_And_nil ?_
    | refine wpAny_allTrue_Or_cons ?_
    | refine wpAny_allTrue_Or_nil ?_
    | refine c_lt ?_
    | refine c_le ?_
    | refine c_gt ?_
    | refine c_ge ?_
    | refine c_eq ?_
    | refine c_ne ?_
    | refine c_seq ?_
    | refine c_sne ?_
    | refine is_none_none ?_
    | refine is_int_none ?_
    | refine is_ref_none ?_
    | refine isnot_none_none ?_
    | refine isnot_int_none ?_
    | refine isnot_ref_none ?_
    | refine wpAny_truthy_bool ?_
    | refine pairTrees_cons_walk ?_
    | refine pairTrees_nil_walk ?_
    | refine part_none ?_
    | refine part_some ?_
    | refine callWith_method1 ?_ (by with_unfolding_all rfl) (by with_unfolding_all rfl)
    | refine callWith_method0 ?_
    | refine wpAny_assign_Name ?_
    | refine wpAny_tests_nil ?_
    | refine wpAny_tests_one ?_
    | refine ite_t ?_
    | refine ite_f ?_
    | refine hFr _ _ ?_
    | refine hFn _ ?_
    | refine hCn _ ?_
    | refine hPn _ ?_
    | refine hPc _ ?_
    | refine hPb _ ?_
    | refine hPr _ _ ?_
    | refine hPe _ _ ?_
    | refine hPs _ ?_
    | refine hQn _ ?_
    | refine hQc _ ?_
    | refine hQb _ ?_
    | refine hQr _ _ ?_
    | refine hQe _ _ ?_
    | refine hQs _ ?_
  | fail)
section
set_option maxRecDepth 100000
namespace Mine
section
variable {prog : Program} {w : World} {A : Around} {s : Shared} {K : Frag} {g : Heap}

theorem place_spec (X : Fns K) (G : Gl K g) (hg : Le g s.heap) (hA : Rm A 2) {l : Addr} {ns : List Int} {n : Int} {tn : Tok} (hl : Ints g l ns) (hlen : ns.length ≤ 1000)
    (hsort : ∀ (i j : Nat) (x y : Int), ns[i]? = some x → ns[j]? = some y → i ≤ j → x ≤ y) {R : Result → Shared → Prop}
    (h : ∀ (k : Nat) g' s' t', Aft s g [] g' [] s' → k ≤ ns.length → (∀ (i : Nat) (x : Int), ns[i]? = some x → i < k → x ≤ n) → (∀ (i : Nat) (x : Int), ns[i]? = some x → k ≤ i → n < x) → R (.ok (.ret (.int ((k : Int) - 1) t'))) s') :
    codeAny (model prog w) A (.call (.ref X.place) ⟨[.ref l, .int n tn], []⟩) R s := by
  refine enter (own := []) (binds := [(Str.ofString "firsts", .ref l), (Str.ofString "number", .int n tn)]) (lm := [(Str.ofString "firsts", .ref l), (Str.ofString "number", .int n tn)]) X.hplace.s G hg (by have := hA.d; omega) (fun _ h => nomatch h) List.nodup_nil (fun _ h => nomatch h) (fun _ _ _ _ _ _ => BindsTo.of_eq rfl) (by decide) ⟨.inl rfl, .inl rfl, trivial⟩ ⟨rfl, rfl, trivial⟩ (fun L cdv cs s₁ hz => ?_) rfl rfl rfl
  intro envz Az cz lmz S Qf hFr hFn
  cases hz
  (repeat' (walk_at "x"))
  refine len_ints S hl (by omega) fun t s S => ?_
  (repeat' (walk_at "x"))
  refine whileR (fun m g' own lm => ∃ lo hi : Nat, m = hi - lo ∧ g' = g ∧ own = [] ∧ (∃ t1 t2, lm = [(Str.ofString "low", .int lo t1), (Str.ofString "high", .int hi t2), (Str.ofString "firsts", .ref l), (Str.ofString "number", .int n tn)]) ∧ lo ≤ hi ∧ hi ≤ ns.length ∧ (∀ (i : Nat) (x : Int), ns[i]? = some x → i < lo → x ≤ n) ∧ (∀ (i : Nat) (x : Int), ns[i]? = some x → hi ≤ i → n < x)) ns.length S ⟨0, ns.length, by omega, rfl, rfl, ⟨_, _, rfl⟩, by omega, by omega, fun _ _ _ h => by omega, fun i x h hh => by have := (List.getElem?_eq_some_iff.mp h).1; omega⟩ ⟨rfl, rfl, rfl, rfl, trivial⟩ ?_
  clear S
  rintro m g' own lm s S ⟨lo, hi, rfl, rfl, rfl, ⟨t1, t2, rfl⟩, h1, h2, h3, h4⟩
  (repeat' (walk_at "x"))
  refine ite_d (fun hc => ?_) (fun hc => ?_)
  · (repeat' (walk_at "x"))
    have e : ((lo : Int) + (hi : Int)).fdiv 2 = (((lo + hi) / 2 : Nat) : Int) := by
      rw [Int.fdiv_eq_ediv_of_nonneg _ (by omega)]; omega
    dsimp only [lmz] at S
    rw [e] at S ⊢
    generalize hmid : (lo + hi) / 2 = mid at S ⊢
    refine St.letl S ?_
    intro lmz S
    refine item_ints S hl (by omega) (by omega) (by omega) fun x t hx => ?_
    (repeat' (walk_at "x"))
    refine ite_d (fun hc => ?_) (fun hc => ?_)
    · (repeat' (walk_at "x"))
      refine turnEnd (hi - (mid + 1)) S ⟨mid + 1, hi, rfl, rfl, rfl, ⟨_, _, rfl⟩, by omega, by omega, fun i y hy hlt => ?_, h4⟩ ⟨rfl, rfl, rfl, rfl, trivial⟩ (by omega)
      have := hsort i mid y x hy (by simpa using hx) (by omega)
      omega
    · (repeat' (walk_at "x"))
      refine turnEnd (mid - lo) S ⟨lo, mid, rfl, rfl, rfl, ⟨_, _, rfl⟩, by omega, by omega, h3, fun i y hy hlt => ?_⟩ ⟨rfl, rfl, rfl, rfl, trivial⟩ (by omega)
      have := hsort mid i x y (by simpa using hx) hy (by omega)
      omega
  · (repeat' (walk_at "x"))
    have e : lo = hi := by omega
    subst e
    (repeat' (walk_at "x"))
    exact h lo _ _ _ S.aft h2 h3 h4
end
end Mine
end
section
set_option maxRecDepth 100000
namespace Mine
/-- the deck -/
def Dk (prog : Program) (w : World) (own : List (Addr × Obj)) (d : Addr) (u : Int) : Prop :=
  ∃ o cl vs k cs m tm tu, own = [(d, o), (cl, lobj vs k)] ∧ o.IsDictOf (PySem.strKind prog w) [(PySem.Str.ofString "cells", .ref cl), (PySem.Str.ofString "mixed", .int m tm), (PySem.Str.ofString "turn", .int u tu)] ∧ IntsAre vs cs ∧ cs.length ≤ 1000 ∧ 0 ≤ u ∧ u < 2 ^ 62
theorem ints_snoc : ∀ {cs : List Int} {vs : List Value} {x : Int}, IntsAre vs (cs ++ [x]) → ∃ vs' t, vs = vs' ++ [.int x t] ∧ IntsAre vs' cs
  | [], _, _, .cons _ t .nil => ⟨[], t, rfl, .nil⟩
  | _ :: _, _, _, .cons n t r => let ⟨vs', t', e, i⟩ := ints_snoc r; ⟨.int n t :: vs', t', by rw [e]; rfl, .cons n t i⟩
theorem ints_app : ∀ {cs : List Int} {vs : List Value} {x : Int} {t : Tok}, IntsAre vs cs → IntsAre (vs ++ [.int x t]) (cs ++ [x])
  | _, _, _, _, .nil => .cons _ _ .nil
  | _, _, _, _, .cons n t r => .cons n t (ints_app r)
theorem fmod_range {a b : Int} (hb : 0 < b) : 0 ≤ a.fmod b ∧ a.fmod b < b := ⟨Int.fmod_nonneg_of_pos _ hb, Int.fmod_lt_of_pos _ hb⟩
section
variable {prog : Program} {w : World} {A : Around} {s : Shared} {K : Frag} {g : Heap}

theorem draw_spec (X : Fns K) (G : Gl K g) (hg : Le g s.heap) (hA : Rm A 12) {d : Addr} {own : List (Addr × Obj)} {u b : Int} {tb : Tok} (D : Dk prog w own d u) (hu : u + 1 < 2 ^ 62) (hb : 0 < b ∧ b ≤ 1000)
    (how : ∀ p ∈ own, s.heap.get? p.1 = some p.2) (hnd : (own.map (·.1)).Nodup) (hoff : ∀ a ∈ own.map (·.1), g.get? a = none) {R : Result → Shared → Prop}
    (h : ∀ (r : Int) own' g' s' t', Aft s g (own.map (·.1)) g' own' s' → Dk prog w own' d (u + 1) → 0 ≤ r → r < b → R (.ok (.ret (.int r t'))) s') :
    codeAny (model prog w) A (.call (.ref X.draw) ⟨[.ref d, .int b tb], []⟩) R s := by
  obtain ⟨o, cl, vs, k, cs, m, tm, tu, rfl, ho, hi, hcl, hu0, hu1⟩ := D
  refine enter (binds := [(Str.ofString "deck", .ref d), (Str.ofString "below", .int b tb)]) (lm := [(Str.ofString "deck", .ref d), (Str.ofString "below", .int b tb)]) X.hdraw.s G hg (by have := hA.d; omega) how hnd hoff (fun _ _ _ _ _ _ => BindsTo.of_eq rfl) (by decide) ⟨.inl rfl, .inl rfl, trivial⟩ ⟨rfl, rfl, trivial⟩ (fun L cdv cs s₁ hz => ?_) rfl rfl rfl
  intro envz Az cz lmz S Qf hFr hFn
  cases hz
  replace S : St _ L g [(d, o), (cl, lobj vs k)] _ _ := S
  (repeat' (first | walk_at "x" | ((with_reducible refine ds_item S ho (by with_unfolding_all (first | exact .head _ | exact .tail _ (.head _) | exact .tail _ (.tail _ (.head _)))) (by with_unfolding_all rfl) (by with_unfolding_all rfl) ?_; intro s S))))
  refine d_set (pre := []) S rfl ho (sk _ _) (by simp) (fun o' s ho S => ?_)
  replace ho : o'.IsDictOf (PySem.strKind prog w) [(PySem.Str.ofString "cells", .ref cl), (PySem.Str.ofString "mixed", .int m tm), (PySem.Str.ofString "turn", .int (u + 1) _)] := ho
  (repeat' (first | walk_at "x" | ((with_reducible refine ds_item S ho (by with_unfolding_all (first | exact .head _ | exact .tail _ (.head _) | exact .tail _ (.tail _ (.head _)))) (by with_unfolding_all rfl) (by with_unfolding_all rfl) ?_; intro s S))))
  refine new_list S (by simp) fun E s hE S => ?_
  refine ne_data (Rd.list (lobj_is (S.ow (cl, lobj vs k) (by simp))) (RdA.ofInts hi)) (Rd.list (lobj_is (S.ow (E, lobj [] 0) (by simp))) .nil) (ke_shaped_ints _) rfl (by have := hA.u; show _ + 3 + 64 < _; omega) ?_
  replace S := S.drop (List.sublist_cons_self _ _) (by simp [cz])
  rcases List.eq_nil_or_concat cs with rfl | ⟨cs', x, rfl⟩
  · cases hi
    (repeat' (first | walk_at "x" | ((with_reducible refine ds_item S ho (by with_unfolding_all (first | exact .head _ | exact .tail _ (.head _) | exact .tail _ (.tail _ (.head _)))) (by with_unfolding_all rfl) (by with_unfolding_all rfl) ?_; intro s S))))
    refine ite_nt rfl ?_
    (repeat' (first | walk_at "x" | ((with_reducible refine ds_item S ho (by with_unfolding_all (first | exact .head _ | exact .tail _ (.head _) | exact .tail _ (.tail _ (.head _)))) (by with_unfolding_all rfl) (by with_unfolding_all rfl) ?_; intro s S))))
    exact h _ _ _ _ _ S.aft ⟨_, _, _, _, _, _, _, _, rfl, ho, .nil, by simp, by omega, hu⟩ (fmod_range hb.1).1 (fmod_range hb.1).2
  · rw [List.concat_eq_append] at *
    obtain ⟨vs', tx, rfl, hi'⟩ := ints_snoc hi
    have e : PyData.eqv (.list (dI (cs' ++ [x]))) (.list []) = false := by cases cs' <;> rfl
    have hlen : vs'.length ≤ 999 := by
      rw [hi'.length]
      rw [List.length_append, List.length_singleton] at hcl
      omega
    (repeat' (first | walk_at "x" | ((with_reducible refine ds_item S ho (by with_unfolding_all (first | exact .head _ | exact .tail _ (.head _) | exact .tail _ (.tail _ (.head _)))) (by with_unfolding_all rfl) (by with_unfolding_all rfl) ?_; intro s S))))
    refine ite_nf e ?_
    (repeat' (first | walk_at "x" | ((with_reducible refine ds_item S ho (by with_unfolding_all (first | exact .head _ | exact .tail _ (.head _) | exact .tail _ (.tail _ (.head _)))) (by with_unfolding_all rfl) (by with_unfolding_all rfl) ?_; intro s S))))
    refine gm_pop S (.tail _ (.head _)) ?_
    (repeat' (first | walk_at "x" | ((with_reducible refine ds_item S ho (by with_unfolding_all (first | exact .head _ | exact .tail _ (.head _) | exact .tail _ (.tail _ (.head _)))) (by with_unfolding_all rfl) (by with_unfolding_all rfl) ?_; intro s S))))
    refine l_pop (pre := [(d, o')]) S rfl (by omega) fun k' s S => ?_
    (repeat' (first | walk_at "x" | ((with_reducible refine ds_item S ho (by with_unfolding_all (first | exact .head _ | exact .tail _ (.head _) | exact .tail _ (.tail _ (.head _)))) (by with_unfolding_all rfl) (by with_unfolding_all rfl) ?_; intro s S))))
    refine ite_d (fun hc => ?_) (fun hc => ?_)
    · (repeat' (first | walk_at "x" | ((with_reducible refine ds_item S ho (by with_unfolding_all (first | exact .head _ | exact .tail _ (.head _) | exact .tail _ (.tail _ (.head _)))) (by with_unfolding_all rfl) (by with_unfolding_all rfl) ?_; intro s S))))
      refine gm_append S (.tail _ (.head _)) ?_
      (repeat' (first | walk_at "x" | ((with_reducible refine ds_item S ho (by with_unfolding_all (first | exact .head _ | exact .tail _ (.head _) | exact .tail _ (.tail _ (.head _)))) (by with_unfolding_all rfl) (by with_unfolding_all rfl) ?_; intro s S))))
      refine l_append (pre := [(d, o')]) S rfl (by omega) fun k' s S => ?_
      (repeat' (first | walk_at "x" | ((with_reducible refine ds_item S ho (by with_unfolding_all (first | exact .head _ | exact .tail _ (.head _) | exact .tail _ (.tail _ (.head _)))) (by with_unfolding_all rfl) (by with_unfolding_all rfl) ?_; intro s S))))
      exact h _ _ _ _ _ S.aft ⟨_, _, _, _, _, _, _, _, rfl, ho, ints_app hi', by rw [List.length_append, ← hi'.length]; simp; omega, by omega, hu⟩ (fmod_range hb.1).1 (fmod_range hb.1).2
    · (repeat' (first | walk_at "x" | ((with_reducible refine ds_item S ho (by with_unfolding_all (first | exact .head _ | exact .tail _ (.head _) | exact .tail _ (.tail _ (.head _)))) (by with_unfolding_all rfl) (by with_unfolding_all rfl) ?_; intro s S))))
      exact h _ _ _ _ _ S.aft ⟨_, _, _, _, _, _, _, _, rfl, ho, hi', by rw [← hi'.length]; omega, by omega, hu⟩ (fmod_range hb.1).1 (fmod_range hb.1).2
end
end Mine
end
section
set_option maxRecDepth 100000
set_option maxHeartbeats 1000000
namespace Mine
section
variable {prog : Program} {w : World} {A : Around} {s : Shared} {K : Frag} {g : Heap}

def codes5 : List Int := [65, 97, 454, 223, 769]
theorem codes_spec (X : Fns K) (G : Gl K g) (hg : Le g s.heap) (hA : Rm A 1) {R : Result → Shared → Prop}
    (h : ∀ r g' s', Aft s g [] g' [] s' → Rd g' (.ref r) (.list (dI codes5)) → R (.ok (.ret (.ref r))) s') :
    codeAny (model prog w) A (.call (.ref X.codes) ⟨[], []⟩) R s := by
  refine enter0 [] X.hcodes.s G hg hA (fun _ _ _ _ _ _ => rfl) (by decide) trivial trivial (fun L cdv cs s₁ hz => ?_) rfl rfl rfl
  intro envz Az cz lmz S Qf hFr hFn
  cases hz
  (repeat' (walk_at "x"))
  refine new_list S (by simp) fun D s hD S => ?_
  obtain ⟨g', le, S', hg'⟩ := S.freeze (pre := []) rfl hD
  (repeat' (walk_at "x"))
  exact h D g' s S'.aft (.list (lobj_is hg') (.cons (.int _ _) (.cons (.int _ _) (.cons (.int _ _) (.cons (.int _ _) (.cons (.int _ _) .nil))))))

theorem pick_spec (X : Fns K) (G : Gl K g) (hg : Le g s.heap) (hA : Rm A 13) {d : Addr} {own : List (Addr × Obj)} {u : Int} {l : Addr} {ds : List PyData} (D : Dk prog w own d u) (hu : u + 1 < 2 ^ 62) (hl : Rd g (.ref l) (.list ds)) (hn : 0 < ds.length ∧ ds.length ≤ 1000)
    (how : ∀ p ∈ own, s.heap.get? p.1 = some p.2) (hnd : (own.map (·.1)).Nodup) (hoff : ∀ a ∈ own.map (·.1), g.get? a = none) {R : Result → Shared → Prop}
    (h : ∀ v x own' g' s', Aft s g (own.map (·.1)) g' own' s' → Dk prog w own' d (u + 1) → x ∈ ds → Rd g' v x → R (.ok (.ret v)) s') :
    codeAny (model prog w) A (.call (.ref X.pick) ⟨[.ref d, .ref l], []⟩) R s := by
  refine enter (binds := [(Str.ofString "deck", .ref d), (Str.ofString "some", .ref l)]) (lm := [(Str.ofString "deck", .ref d), (Str.ofString "some", .ref l)]) X.hpick.s G hg (by have := hA.d; omega) how hnd hoff (fun _ _ _ _ _ _ => BindsTo.of_eq rfl) (by decide) ⟨.inl rfl, .inl rfl, trivial⟩ ⟨rfl, rfl, trivial⟩ (fun L cdv cs s₁ hz => ?_) rfl rfl rfl
  intro envz Az cz lmz S Qf hFr hFn
  cases hz
  replace S : St _ L g own _ _ := S
  (repeat' (walk_at "x"))
  refine call_fn S G X.hdraw.n X.hdraw.k rfl ?_
  (repeat' (walk_at "x"))
  obtain ⟨l', vs, e, hl', hr⟩ := rd_list hl
  cases e
  have hvl : vs.length = ds.length := hr.length
  refine len_l S (isList_up hl' S.keep) (by rw [List.size_toArray]; omega) fun t s S => ?_
  (repeat' (walk_at "x"))
  refine kin_and S G (callC (draw_spec X G S.keep (hA.deeper _) D hu (by rw [List.size_toArray]; omega) S.ow S.nd S.offo fun r own' g' s' t' A' D' r0 r1 => ?_))
  have S := S.backA A'
  rw [List.size_toArray] at r1
  obtain ⟨x, hx⟩ : ∃ x, ds[r.toNat]? = some x := ⟨_, List.getElem?_eq_getElem (by omega)⟩
  obtain ⟨v, hv, hr⟩ := hr.get hx
  refine item_l (isList_up hl' (A'.le.trans A'.keep)) r0 (by omega) (by simpa using hv) ?_ (by with_unfolding_all rfl)
  (repeat' (walk_at "x"))
  exact h v x own' g' s' S.aft D' (List.mem_of_getElem? hx) (hr.up A'.le)

end
end Mine
end
section
set_option maxRecDepth 100000
set_option maxHeartbeats 1000000
namespace Mine
section
variable {prog : Program} {w : World} {A : Around} {s : Shared} {K : Frag} {g : Heap}

/-- special cases -/
def dS (Ls : List (List Int × List Str)) : List PyData := Ls.map fun p => .tuple [dT p.1, .tuple (p.2.map PyData.str)]
def menu5 : List (List Str) := [[], [], [PySem.Str.ofString "tr"], [PySem.Str.ofString "lt"], [PySem.Str.ofString "tr", PySem.Str.ofString "lt"]]
def SpOk (Ls : List (List Int × List Str)) : Prop := Ls.length ≤ 2 ∧ ∀ p ∈ Ls, p.1.length ≤ 2 ∧ p.2 ∈ menu5
theorem special_spec (X : Fns K) (G : Gl K g) (hg : Le g s.heap) (hA : Rm A 16) {d : Addr} {own : List (Addr × Obj)} {u : Int} (D : Dk prog w own d u) (hu : u + 20 < 2 ^ 62)
    (how : ∀ p ∈ own, s.heap.get? p.1 = some p.2) (hnd : (own.map (·.1)).Nodup) (hoff : ∀ a ∈ own.map (·.1), g.get? a = none) {R : Result → Shared → Prop}
    (h : ∀ v Ls own' g' s' u', Aft s g (own.map (·.1)) g' own' s' → Dk prog w own' d u' → u' ≤ u + 9 → SpOk Ls → Rd g' v (.list (dS Ls)) → R (.ok (.ret v)) s') :
    codeAny (model prog w) A (.call (.ref X.lspec) ⟨[.ref d], []⟩) R s := by
  refine enter (binds := [(Str.ofString "deck", .ref d)]) (lm := []) X.hlspec.s G hg (by have := hA.d; omega) how hnd hoff (fun _ _ _ _ _ _ => BindsTo.of_eq rfl) (by decide) ⟨.inr ⟨rfl, rfl⟩, trivial⟩ trivial (fun L cdv cs s₁ hz => ?_) rfl rfl rfl
  intro envz Az cz lmz S Qf hFr hFn
  obtain ⟨oc, rfl, hd⟩ := zip1 hz
  replace hd : oc.data = .cell (some (.ref d)) := hd
  obtain ⟨g1, le1, S, hc1⟩ := S.cell hd (enter_fresh S rfl _ (.head _))
  replace G := G.up le1
  replace S : St _ L g1 own _ _ := S
  (repeat' (walk_at "x"))
  refine new_list S (by simp) fun F s hF S => ?_
  (repeat' (walk_at "x"))
  replace S := S.behind
  refine call_fn S G X.hdraw.n X.hdraw.k rfl ?_
  (repeat' (walk_at "x"))
  refine kin_and S G (callC (draw_spec X G S.keep ((hA.deeper _).le (by omega)) D (by omega) (by decide) S.pow S.pnd S.poff fun r own' g' s' t' A' D' r0 r1 => ?_))
  replace S := S.back A'
  replace G := G.up A'.le
  replace hc1 := hc1.keeps A'.le
  (repeat' (walk_at "x"))
  refine range1_it hA.h S (by omega) fun I its s hI It hW S => ?_
  rename_i gB _ _
  refine forI (fun i g₁ own₁ lm₁ => ∃ dk xs k Ls u', own₁ = dk ++ [(F, lobj xs k)] ∧ lm₁ = [(Str.ofString "found", .ref F)] ∧ Dk prog w dk d u' ∧ u' ≤ u + 1 + 4 * i ∧ RdA g₁ xs (dS Ls) ∧ Ls.length = i ∧ ∀ p ∈ Ls, p.1.length ≤ 2 ∧ p.2 ∈ menu5)
    hI (It _) hW S ⟨own', [], _, [], u + 1, rfl, rfl, D', by omega, .nil, rfl, fun _ h => nomatch h⟩ ⟨rfl, trivial⟩ (fun i v g₁ own₁ lm₁ s its hi hP le J S Qn hQn hQc hQb hQr => ?_) (fun gE own₁ lm₁ s le S J => ?_)
  · obtain ⟨dk, xs, k, Ls, u', rfl, rfl, D1, hu1, hxs, hLs, hok⟩ := J
    refine St.letl S ?_
    intro lmz S
    obtain ⟨t, rfl⟩ := hP
    replace G := G.up le
    replace hc1 := hc1.keeps le
    (repeat' (walk_at "x"))
    refine lc (cl := [(Str.ofString "deck", L + 1)]) rfl rfl (by decide) ?_
    (repeat' (walk_at "x"))
    refine call_fn S G X.hdraw.n X.hdraw.k rfl ?_
    (repeat' (walk_at "x"))
    replace S := S.mid
    refine kin_and S G (callC (draw_spec X G S.keep ((hA.deeper _).le (by omega)) D1 (by omega) (by decide) S.pow S.pnd S.poff fun r dk g' s' t' A' D1 r0 r1 => ?_))
    replace S := (S.back A').mid
    have le0 := A'.le
    replace G := G.up A'.le
    replace hc1 := hc1.keeps A'.le
    replace hxs := hxs.up A'.le
    (repeat' (walk_at "x"))
    refine range1_it hA.h S (by omega) fun I2 its2 s hI2 It2 hW2 S => ?_
    refine compT (fun j g₂ own₂ ys => ∃ dk ns, own₂ = its ++ (dk ++ [(F, lobj xs k)]) ∧ Dk prog w dk d (u' + 1 + j) ∧ RdA g₂ ys (dI ns) ∧ ns.length = j)
      hI2 (It2 _) hW2 S (by omega) (by decide) rfl ⟨_, [], rfl, by simpa using D1, .nil, rfl⟩ (fun C hid j v g₂ own₂ ys s hj hP le2 J hl S Qe Qs hQe hQs => ?_) (fun D k2 g₂ own₂ ys s hD le2 S J hl => ?_)
    · obtain ⟨dk, ns, rfl, D2, hys, hns⟩ := J
      refine St.letl S ?_
      intro lmz S
      obtain ⟨t, rfl⟩ := hP
      replace G := G.up le2
      replace hc1 := hc1.keeps le2
      (repeat' (walk_at "x"))
      refine call_fn S G X.hpick.n X.hpick.k rfl ?_
      (repeat' (walk_at "x"))
      refine call_fn0 S G X.hcodes.n X.hcodes.k rfl (callC (codes_spec X G S.keep ((hA.deeper _).le (by omega)) fun r g' s' A' hr => ?_))
      replace S := S.back0 A'
      replace G := G.up A'.le
      replace hc1 := hc1.keeps A'.le
      replace hys := hys.up A'.le
      (repeat' (walk_at "x"))
      replace S := S.mid2
      refine kin_and S G (callC (pick_spec X G S.keep ((hA.deeper _).le (by omega)) D2 (by omega) hr (by decide) S.pow S.pnd S.poff fun v x dk g' s' A2 D2 hx hv => ?_))
      replace S := (S.back A2).dim2
      obtain ⟨n, _, rfl⟩ := List.mem_map.mp hx
      (repeat' (walk_at "x"))
      exact ⟨_, _, _, A'.le.trans A2.le, S, dk, ns ++ [n], rfl, (show u' + 1 + ((j + 1 : Nat) : Int) = u' + 1 + j + 1 by omega) ▸ D2, (hys.up A2.le).snocI hv, by simp [hns]⟩
    · obtain ⟨dk, ns, rfl, D2, hys, hns⟩ := J
      refine St.letl S ?_
      intro lmz S
      replace G := G.up le2
      replace hc1 := hc1.keeps le2
      replace hxs := hxs.up le2
      (repeat' (walk_at "x"))
      refine c_tupleL S (lobj_is (S.ow (D, lobj ys k2) (.head _))) (by have := hys.length; simp at this; omega) fun T s hT S => ?_
      obtain ⟨g3, le3, S, hg3⟩ := S.freeze (pre := []) rfl hT
      have hT : Rd g3 (.ref T) (dT ns) := .tuple (tobj_is hg3) (hys.up le3)
      replace S := S.dropH hD
      have le := le3
      have hle := (le0.trans le2).trans le3
      replace G := G.up le3
      replace hc1 := hc1.keeps le3
      replace hxs := hxs.up le3
      (repeat' (walk_at "x"))
      refine gm_append S (k := k) (xs := xs) (by simp) ?_
      (repeat' (walk_at "x"))
      refine call_fn S G X.hpick.n X.hpick.k rfl ?_
      (repeat' (walk_at "x"))
      refine mk_tuple S .nil (by simp) fun T1 g4 s le S h1 => ?_
      (((try replace G := G.up le); (try replace hle := Le.trans hle le); (try replace hc1 := hc1.keeps le); (try replace hc2 := hc2.keeps le); (try replace hc3 := hc3.keeps le); (try replace hxs := hxs.up le); (try replace hys := hys.up le); (try replace hT := hT.up le); (try replace h1 := h1.up le); (try replace h2 := h2.up le); (try replace h3 := h3.up le); (try replace h4 := h4.up le); (try replace h5 := h5.up le); (try replace hD := hD.up le); (try replace hW := hW.up le)))
      (repeat' (walk_at "x"))
      refine mk_tuple S .nil (by simp) fun T2 g5 s le S h2 => ?_
      (((try replace G := G.up le); (try replace hle := Le.trans hle le); (try replace hc1 := hc1.keeps le); (try replace hc2 := hc2.keeps le); (try replace hc3 := hc3.keeps le); (try replace hxs := hxs.up le); (try replace hys := hys.up le); (try replace hT := hT.up le); (try replace h1 := h1.up le); (try replace h2 := h2.up le); (try replace h3 := h3.up le); (try replace h4 := h4.up le); (try replace h5 := h5.up le); (try replace hD := hD.up le); (try replace hW := hW.up le)))
      (repeat' (walk_at "x"))
      refine mk_tuple S (.one (.str _ _)) (by simp) fun T3 g6 s le S h3 => ?_
      (((try replace G := G.up le); (try replace hle := Le.trans hle le); (try replace hc1 := hc1.keeps le); (try replace hc2 := hc2.keeps le); (try replace hc3 := hc3.keeps le); (try replace hxs := hxs.up le); (try replace hys := hys.up le); (try replace hT := hT.up le); (try replace h1 := h1.up le); (try replace h2 := h2.up le); (try replace h3 := h3.up le); (try replace h4 := h4.up le); (try replace h5 := h5.up le); (try replace hD := hD.up le); (try replace hW := hW.up le)))
      (repeat' (walk_at "x"))
      refine mk_tuple S (.one (.str _ _)) (by simp) fun T4 g7 s le S h4 => ?_
      (((try replace G := G.up le); (try replace hle := Le.trans hle le); (try replace hc1 := hc1.keeps le); (try replace hc2 := hc2.keeps le); (try replace hc3 := hc3.keeps le); (try replace hxs := hxs.up le); (try replace hys := hys.up le); (try replace hT := hT.up le); (try replace h1 := h1.up le); (try replace h2 := h2.up le); (try replace h3 := h3.up le); (try replace h4 := h4.up le); (try replace h5 := h5.up le); (try replace hD := hD.up le); (try replace hW := hW.up le)))
      (repeat' (walk_at "x"))
      refine mk_tuple S (.cons (.str _ _) (.one (.str _ _))) (by simp) fun T5 g8 s le S h5 => ?_
      (((try replace G := G.up le); (try replace hle := Le.trans hle le); (try replace hc1 := hc1.keeps le); (try replace hc2 := hc2.keeps le); (try replace hc3 := hc3.keeps le); (try replace hxs := hxs.up le); (try replace hys := hys.up le); (try replace hT := hT.up le); (try replace h1 := h1.up le); (try replace h2 := h2.up le); (try replace h3 := h3.up le); (try replace h4 := h4.up le); (try replace h5 := h5.up le); (try replace hD := hD.up le); (try replace hW := hW.up le)))
      (repeat' (walk_at "x"))
      refine mk_list S (.cons h1 (.cons h2 (.cons h3 (.cons h4 (.one h5))))) (by simp) fun M5 g9 s le S hM => ?_
      (((try replace G := G.up le); (try replace hle := Le.trans hle le); (try replace hc1 := hc1.keeps le); (try replace hc2 := hc2.keeps le); (try replace hc3 := hc3.keeps le); (try replace hxs := hxs.up le); (try replace hys := hys.up le); (try replace hT := hT.up le); (try replace h1 := h1.up le); (try replace h2 := h2.up le); (try replace h3 := h3.up le); (try replace h4 := h4.up le); (try replace h5 := h5.up le); (try replace hD := hD.up le); (try replace hW := hW.up le)))
      (repeat' (walk_at "x"))
      replace S := S.mid
      refine kin_and S G (callC (pick_spec X G S.keep ((hA.deeper _).le (by omega)) D2 (by omega) hM (by simp) S.pow S.pnd S.poff fun v x dk g' s' A' D2 hx hv => ?_))
      replace S := (S.back A').mid
      have le := A'.le
      (((try replace G := G.up le); (try replace hle := Le.trans hle le); (try replace hc1 := hc1.keeps le); (try replace hc2 := hc2.keeps le); (try replace hc3 := hc3.keeps le); (try replace hxs := hxs.up le); (try replace hys := hys.up le); (try replace hT := hT.up le); (try replace h1 := h1.up le); (try replace h2 := h2.up le); (try replace h3 := h3.up le); (try replace h4 := h4.up le); (try replace h5 := h5.up le); (try replace hD := hD.up le); (try replace hW := hW.up le)))
      (repeat' (walk_at "x"))
      refine mk_tuple S (.cons hT (.one hv)) (by simp) fun P ga s le S hP => ?_
      (repeat' (walk_at "x"))
      refine l_append (xs := xs) (k := k) (pre := its ++ dk) (post := []) S (by simp) (by have := hxs.length; simp [dS] at this; omega) fun k' s S => ?_
      (repeat' (walk_at "x"))
      obtain ⟨ws, hws, rfl⟩ : ∃ ws, ws ∈ menu5 ∧ x = .tuple (ws.map PyData.str) := by
        simp only [List.mem_cons, List.not_mem_nil, or_false] at hx
        rcases hx with rfl | rfl | rfl | rfl | rfl
        · exact ⟨[], by simp [menu5], rfl⟩
        · exact ⟨[], by simp [menu5], rfl⟩
        · exact ⟨[PySem.Str.ofString "tr"], by simp [menu5], rfl⟩
        · exact ⟨[PySem.Str.ofString "lt"], by simp [menu5], rfl⟩
        · exact ⟨[PySem.Str.ofString "tr", PySem.Str.ofString "lt"], by simp [menu5], rfl⟩
      (repeat' (walk_at "x"))
      refine forEnd (own₂ := dk ++ [(F, lobj (xs ++ [.ref P]) k')]) (by simpa using S) (hle.trans le) ⟨dk, xs ++ [.ref P], k', Ls ++ [(ns, ws)], _, rfl, rfl, D2, by omega, ?_, by simp [hLs], ?_⟩ ⟨rfl, trivial⟩
      · have : dS (Ls ++ [(ns, ws)]) = dS Ls ++ [.tuple [dT ns, .tuple (ws.map PyData.str)]] := by simp [dS]
        rw [this]
        exact (hxs.up le).app (.one hP)
      · intro p hp
        rcases List.mem_append.mp hp with h | h
        · exact hok p h
        · rw [List.mem_singleton.mp h]
          exact ⟨by show ns.length ≤ 2; omega, hws⟩
  · obtain ⟨dk, xs, k, Ls, u', rfl, rfl, D1, hu1, hxs, hLs, hok⟩ := J
    refine St.letl S ?_
    intro lmz S
    (repeat' (walk_at "x"))
    obtain ⟨g', le', S, hF'⟩ := S.freeze (pre := dk) rfl hF
    rw [List.append_nil] at S
    (repeat' (walk_at "x"))
    exact h _ Ls dk g' _ u' S.aft D1 (by omega) ⟨by omega, hok⟩ (.list (lobj_is hF') (hxs.up le'))

end
end Mine
end
section
set_option maxRecDepth 100000
set_option maxHeartbeats 1000000
namespace Mine
section
variable {prog : Program} {w : World} {A : Around} {s : Shared} {K : Frag} {g : Heap}
def like (a b : PyData) : Bool := PyData.eqv a b && isB a == isB b
theorem like_spec (X : Fns K) (G : Gl K g) (hg : Le g s.heap) (hA : Rm A 10) {v1 v2 : Value} {d1 d2 : PyData} (r1 : Rd g v1 d1) (r2 : Rd g v2 d2) (k1 : Vok d1) (k2 : Vok d2) {R : Result → Shared → Prop}
    (h : ∀ g' s', Aft s g [] g' [] s' → R (.ok (.ret (.bool (like d1 d2)))) s') : codeAny (model prog w) A (.call (.ref X.like) ⟨[v1, v2], []⟩) R s := by
  refine enter0 [(Str.ofString "one", v1), (Str.ofString "other", v2)] X.hlike.s G hg (hA.le (by omega)) (fun _ _ _ _ _ _ => rfl) (by decide) ⟨.inl rfl, .inl rfl, trivial⟩ ⟨rfl, rfl, trivial⟩ (fun L cdv cs s₁ hz => ?_) rfl rfl rfl
  intro envz Az cz lmz S Qf hFr hFn
  cases hz
  (repeat' (walk_at "x"))
  refine eq_rd S r1 r2 k1.shaped k2.shaped (hA.deeper _) (by omega) ?_
  (repeat' (walk_at "x"))
  refine ite_b (fun e => ?_) (fun e => ?_)
  · (repeat' (walk_at "x"))
    refine i_bool S (r1.up S.keep) k1 fun s S => ?_
    (repeat' (walk_at "x"))
    refine i_bool S (r2.up S.keep) k2 fun s S => ?_
    refine c_bb (hA.deeper _) (by omega) ?_
    have := h g s S.aft
    unfold like at this
    rw [e] at this
    (repeat' (walk_at "x"))
    exact this
  · have := h g _ S.aft
    unfold like at this
    rw [e] at this
    rw [e]
    (repeat' (walk_at "x"))
    exact this

end
end Mine
end
section
set_option maxRecDepth 100000
set_option maxHeartbeats 1000000
namespace Mine
section
variable {prog : Program} {w : World} {A : Around} {s : Shared} {K : Frag} {g : Heap}
/-- a map's attributes -/
def RmD (g : Heap) (od : Obj) (dv : Value) (rows : List (Int × PyData)) : Prop :=
  ∃ la lb, AtD od [(Str.ofString "default", dv), (Str.ofString "starts", .ref la), (Str.ofString "values", .ref lb)] ∧ Ints g la (rows.map (·.1)) ∧ Rd g (.ref lb) (.list (rows.map (·.2)))
theorem RmD.up {g g' : Heap} {od : Obj} {dv : Value} {rows : List (Int × PyData)} (h : RmD g od dv rows) (le : Le g g') : RmD g' od dv rows := by
  obtain ⟨la, lb, a, b, c⟩ := h
  exact ⟨la, lb, a, b.up le, c.up le⟩
theorem rmI_spec (X : Fns K) (Y : Cls K) (G : Gl K g) (hg : Le g s.heap) (hA : Rm A 1) {x dx : Addr} {od : Obj} {v : Value} {d : PyData} (hx : g.get? x = some (instObj Y.rm dx)) (ha : AtD od []) (hv : Rd g v d)
    (hm : s.heap.get? dx = some od) (hoff : g.get? dx = none) {R : Result → Shared → Prop}
    (h : ∀ g' s' od', Aft s g [dx] g' [(dx, od')] s' → RmD g' od' v [(0, d)] → R (.ok (.ret .none)) s') : codeAny (model prog w) A (.call (.ref Y.rmI) ⟨[.ref x, v], []⟩) R s := by
  refine enter (own := [(dx, od)]) (binds := [(Str.ofString "self", .ref x), (Str.ofString "default", v)]) (lm := [(Str.ofString "self", .ref x), (Str.ofString "default", v)]) Y.hrmI.s G hg (by have := hA.d; omega) (fun p hp => by rw [List.mem_singleton.mp hp]; exact hm) (by simp) (fun a ha => by rw [List.mem_singleton.mp ha]; exact hoff) (fun _ _ _ _ _ _ => BindsTo.of_eq rfl) (by decide) ⟨.inl rfl, .inl rfl, trivial⟩ ⟨rfl, rfl, trivial⟩ (fun L cdv cs s₁ hz => ?_) rfl rfl rfl
  intro envz Az cz lmz S Qf hFr hFn
  cases hz
  (repeat' (walk_at "x"))
  refine a_set S G Y.rmK Y.rm1 hx (pre := []) rfl ha (by simp) fun od s ha S => ?_
  replace ha : AtD od [(Str.ofString "default", v)] := ha
  (repeat' (walk_at "x"))
  refine mk_list S (.one (.int _ _)) (by simp) fun la g1 s le S hla => ?_
  replace G := G.up le
  replace hv := hv.up le
  replace hx := le _ _ hx
  (repeat' (walk_at "x"))
  refine a_set S G Y.rmK Y.rm2 hx (pre := []) rfl ha (by simp) fun od s ha S => ?_
  replace ha : AtD od [(Str.ofString "default", v), (Str.ofString "starts", .ref la)] := ha
  (repeat' (walk_at "x"))
  refine mk_list S (.one hv) (by simp) fun lb g2 s le2 S hlb => ?_
  replace G := G.up le2
  replace hx := le2 _ _ hx
  (repeat' (walk_at "x"))
  refine a_set S G Y.rmK Y.rm3 hx (pre := []) rfl ha (by simp) fun od s ha S => ?_
  (repeat' (walk_at "x"))
  exact h _ _ _ S.aft ⟨la, lb, ha, ints_of (ns := [0]) (hla.up le2), hlb⟩

end
end Mine
end
section
set_option maxRecDepth 100000
set_option maxHeartbeats 1000000
namespace Mine
section
variable {prog : Program} {w : World} {A : Around} {s : Shared} {K : Frag} {g : Heap}
theorem rmG_spec (X : Fns K) (Y : Cls K) (G : Gl K g) (hg : Le g s.heap) (hA : Rm A 4) {x dx : Addr} {od : Obj} {dv : Value} {rows : List Row} {n : Int} {tn : Tok} (hx : g.get? x = some (instObj Y.rm dx)) (hd : g.get? dx = some od) (ha : RmD g od dv rows) (hr : RW rows) (hz : rows.length ≤ 1000) (hn : 0 ≤ n) {R : Result → Shared → Prop}
    (h : ∀ v g' s', Aft s g [] g' [] s' → Rd g' v (rval rows n) → R (.ok (.ret v)) s') : codeAny (model prog w) A (.call (.ref Y.rmG) ⟨[.ref x, .int n tn], []⟩) R s := by
  refine enter0 [(Str.ofString "self", .ref x), (Str.ofString "code", .int n tn)] Y.hrmG.s G hg (hA.le (by omega)) (fun _ _ _ _ _ _ => rfl) (by decide) ⟨.inl rfl, .inl rfl, trivial⟩ ⟨rfl, rfl, trivial⟩ (fun L cdv cs s₁ hz => ?_) rfl rfl rfl
  intro envz Az cz lmz S Qf hFr hFn
  cases hz
  obtain ⟨la, lb, ha, h1, h2⟩ := ha
  (repeat' (walk_at "x"))
  refine a_get S G Y.rmK Y.rm3 hx (S.keep _ _ hd) ha rfl rfl fun s S => ?_
  (repeat' (walk_at "x"))
  refine call_fn S G X.hplace.n X.hplace.k rfl ?_
  (repeat' (walk_at "x"))
  refine a_get S G Y.rmK Y.rm2 hx (S.keep _ _ hd) ha rfl rfl fun s S => ?_
  (repeat' (walk_at "x"))
  refine kin_and S G (callC (place_spec X G S.keep ((hA.deeper _).le (by omega)) h1 (by simpa using hz) hr.sort fun k g' s' t A' hk c1 c2 => ?_))
  replace S := S.back0 A'
  have hc := (cutK n rows k c1 c2).1
  obtain ⟨k0, hv⟩ := hr.at hn hc (by simpa using hk)
  refine item_rd S (h2.up A'.le) (by omega) (by rw [show ((k : Int) - 1).toNat = k - 1 by omega]; exact hv) (by simp; omega) fun v rv => ?_
  (repeat' (walk_at "x"))
  exact h v _ _ S.aft rv

end
end Mine
end
section
set_option maxRecDepth 100000
set_option maxHeartbeats 1000000
namespace Mine
section
variable {prog : Program} {w : World} {A : Around} {s : Shared} {K : Frag} {g : Heap}
theorem rmP_spec (X : Fns K) (Y : Cls K) (G : Gl K g) (hg : Le g s.heap) (hA : Rm A 14) {x dx : Addr} {od : Obj} {dv v : Value} {d : PyData} {rows : List Row} {a b : Int} {ta tb : Tok} (hx : g.get? x = some (instObj Y.rm dx)) (hm : s.heap.get? dx = some od) (hoff : g.get? dx = none)
    (ha : RmD g od dv rows) (hr : RW rows) (hz : rows.length ≤ 1000) (h0 : 0 < a) (hab : a ≤ b) (hb : b < 1114111) (hv : Rd g v d) (hk : Vok d) {R : Result → Shared → Prop}
    (h : ∀ od' g' s', Aft s g [dx] g' [(dx, od')] s' → RmD g' od' dv (rput rows a b d like) → R (.ok (.ret .none)) s') : codeAny (model prog w) A (.call (.ref Y.rmP) ⟨[.ref x, .int a ta, .int b tb, v], []⟩) R s := by
  refine enter (own := [(dx, od)]) (binds := [(Str.ofString "self", .ref x), (Str.ofString "first", .int a ta), (Str.ofString "last", .int b tb), (Str.ofString "value", v)]) (lm := [(Str.ofString "self", .ref x), (Str.ofString "first", .int a ta), (Str.ofString "last", .int b tb), (Str.ofString "value", v)]) Y.hrmP.s G hg (by have := hA.d; omega) (fun p hp => by rw [List.mem_singleton.mp hp]; exact hm) (by simp) (fun a ha => by rw [List.mem_singleton.mp ha]; exact hoff) (fun _ _ _ _ _ _ => BindsTo.of_eq rfl) (by decide) ⟨.inl rfl, .inl rfl, .inl rfl, .inl rfl, trivial⟩ ⟨rfl, rfl, rfl, rfl, trivial⟩ (fun L cdv cs s₁ hz => ?_) rfl rfl rfl
  intro envz Az cz lmz S Qf hFr hFn
  cases hz
  obtain ⟨cc, hcc⟩ : ∃ cc : Cs, cc = ⟨s, g, [dx]⟩ := ⟨_, rfl⟩
  replace S : St cc L g [(dx, od)] lmz s₁ := by rw [hcc]; exact S
  have le0 : Le g g := Le.refl g
  obtain ⟨la, lb, ha, h1, h2⟩ := ha
  (repeat' (walk_at "x"))
  refine ite_d (fun c => absurd c (by omega)) (fun _ => ?_)
  (repeat' (walk_at "x"))
  refine call_fn S G X.hplace.n X.hplace.k rfl ?_
  (repeat' (walk_at "x"))
  refine a_get S G Y.rmK Y.rm2 hx (S.ow (dx, od) (.head _)) ha rfl rfl fun s S => ?_
  (repeat' (walk_at "x"))
  refine kin_and S G (callC (place_spec X G S.keep ((hA.deeper _).le (by omega)) h1 (by simpa using hz) hr.sort fun k1 g' s' t A' hk1 c1 c2 => ?_))
  replace S := S.back0 A'
  have le := A'.le
  have cut1 := cutK (a - 1) rows k1 c1 c2
  replace hx := le _ _ hx
  replace hv := hv.up le
  (((try replace G := G.up le); (try replace hle := Le.trans hle le); (try replace hc1 := hc1.keeps le); (try replace hc2 := hc2.keeps le); (try replace hc3 := hc3.keeps le); (try replace hxs := hxs.up le); (try replace hys := hys.up le); (try replace hT := hT.up le); (try replace h1 := h1.up le); (try replace h2 := h2.up le); (try replace h3 := h3.up le); (try replace h4 := h4.up le); (try replace h5 := h5.up le); (try replace hD := hD.up le); (try replace hW := hW.up le)))
  (repeat' (walk_at "x"))
  refine call_fn S G X.hplace.n X.hplace.k rfl ?_
  (repeat' (walk_at "x"))
  refine a_get S G Y.rmK Y.rm2 hx (S.ow (dx, od) (.head _)) ha rfl rfl fun s S => ?_
  (repeat' (walk_at "x"))
  refine kin_and S G (callC (place_spec X G S.keep ((hA.deeper _).le (by omega)) h1 (by simpa using hz) hr.sort fun k2 g' s' t A' hk2 c1 c2 => ?_))
  replace S := S.back0 A'
  have le := A'.le
  have cut2 := cutK (b + 1) rows k2 c1 c2
  replace hx := le _ _ hx
  replace hv := hv.up le
  (((try replace G := G.up le); (try replace hle := Le.trans hle le); (try replace hc1 := hc1.keeps le); (try replace hc2 := hc2.keeps le); (try replace hc3 := hc3.keeps le); (try replace hxs := hxs.up le); (try replace hys := hys.up le); (try replace hT := hT.up le); (try replace h1 := h1.up le); (try replace h2 := h2.up le); (try replace h3 := h3.up le); (try replace h4 := h4.up le); (try replace h5 := h5.up le); (try replace hD := hD.up le); (try replace hW := hW.up le)))
  (repeat' (walk_at "x"))
  refine a_get S G Y.rmK Y.rm3 hx (S.ow (dx, od) (.head _)) ha rfl rfl fun s S => ?_
  (repeat' (walk_at "x"))
  have at1 := hr.at (n := a - 1) (by omega) cut1.1 (by simpa using hk1)
  have at2 := hr.at (n := b + 1) (by omega) cut2.1 (by simpa using hk2)
  refine item_rd S h2 (by omega) (by rw [show ((k2 : Int) - 1 + 1 - 1).toNat = k2 - 1 by omega]; exact at2.2) (by simp; omega) fun bv hbv => ?_
  (repeat' (walk_at "x"))
  refine new_list S (Nat.le_of_ble_eq_true rfl) fun ls s hls S => ?_
  (repeat' (walk_at "x"))
  refine new_list S (Nat.le_of_ble_eq_true rfl) fun lv s hlv S => ?_
  (repeat' ((fail_if_success (with_reducible show wpAny _ _ (exec (PySem.Stmt.If _ _ _ _) _) _ _ _)); walk_at "x"))
  dsimp +zetaDelta only at S
  rw [show (k1 : Int) - 1 + 1 = k1 by omega, show (k2 : Int) - 1 + 1 = k2 by omega] at S
  refine St.letl S ?_
  intro lmz S
  have okb := rval_ok hr (n := b + 1) (by omega)
  have oka := rval_ok hr (n := a - 1) (by omega)
  refine cutR (J := fun s => ∃ g2 ls lv t1 t2, Le g' g2 ∧ Rd g2 (.ref ls) (.list (dI ([a] ++ if like (rval rows (b + 1)) d then [] else [b + 1]))) ∧ Rd g2 (.ref lv) (.list ([d] ++ if like (rval rows (b + 1)) d then [] else [rval rows (b + 1)])) ∧ St cc L g2 [(dx, od)] [(Str.ofString "values", .ref lv), (Str.ofString "starts", .ref ls), (Str.ofString "high", .int k2 t2), (Str.ofString "low", .int k1 t1), (Str.ofString "self", .ref x), (Str.ofString "first", .int a ta), (Str.ofString "last", .int b tb), (Str.ofString "value", v)] s) ?_ ?_
  · intro Qc hCn
    (repeat' (walk_at "x"))
    refine ite_d (fun _ => ?_) (fun c => absurd hb c)
    (repeat' (walk_at "x"))
    refine call_fn S G X.hlike.n X.hlike.k rfl ?_
    (repeat' (walk_at "x"))
    refine kin_and S G (callC (like_spec X G S.keep ((hA.deeper _).le (by omega)) hbv hv okb hk fun g2 s' A' => ?_))
    replace S := S.back0 A'
    have le := A'.le
    (repeat' (walk_at "x"))
    cases hl : like (rval rows (b + 1)) d
    · refine ite_nf rfl ?_
      (repeat' (walk_at "x"))
      refine gm_append S (.tail _ (.head _)) ?_
      (repeat' (walk_at "x"))
      refine l_append (pre := [(lv, _)]) S rfl (by simp) fun k3 s S => ?_
      (repeat' (walk_at "x"))
      refine gm_append S (.head _) ?_
      (repeat' (walk_at "x"))
      refine l_append (pre := []) S rfl (by simp) fun k4 s S => ?_
      (repeat' (walk_at "x"))
      obtain ⟨g3, le3, S, hlv'⟩ := S.freeze (pre := []) rfl hlv
      obtain ⟨g4, le4, S, hls'⟩ := S.freeze (pre := []) rfl hls
      rw [hl]
      refine ⟨rfl, g4, ls, lv, _, _, (le.trans le3).trans le4, .list (lobj_is hls') (.cons (.int _ _) (.one (.int _ _))), .list (lobj_is (le4 _ _ hlv')) (.cons (hv.up ((le.trans le3).trans le4)) (.one (hbv.up ((le.trans le3).trans le4)))), S.vars _ (AllP.all ⟨rfl, rfl, rfl, rfl, rfl, rfl, rfl, rfl, trivial⟩)⟩
    · refine ite_nt rfl ?_
      (repeat' (walk_at "x"))
      obtain ⟨g3, le3, S, hlv'⟩ := S.freeze (pre := []) rfl hlv
      obtain ⟨g4, le4, S, hls'⟩ := S.freeze (pre := []) rfl hls
      rw [hl]
      refine ⟨rfl, g4, ls, lv, _, _, (le.trans le3).trans le4, .list (lobj_is hls') (.one (.int _ _)), .list (lobj_is (le4 _ _ hlv')) (.one (hv.up ((le.trans le3).trans le4))), S.vars _ (AllP.all ⟨rfl, rfl, rfl, rfl, rfl, rfl, rfl, rfl, trivial⟩)⟩
  · rintro s ⟨g2, ls, lv, t1, t2, le, r1, r2, S⟩
    refine St.letl S ?_
    intro lmz S
    replace hx := le _ _ hx
    replace hv := hv.up le
    (((try replace G := G.up le); (try replace hle := Le.trans hle le); (try replace hc1 := hc1.keeps le); (try replace hc2 := hc2.keeps le); (try replace hc3 := hc3.keeps le); (try replace hxs := hxs.up le); (try replace hys := hys.up le); (try replace hT := hT.up le); (try replace h1 := h1.up le); (try replace h2 := h2.up le); (try replace h3 := h3.up le); (try replace h4 := h4.up le); (try replace h5 := h5.up le); (try replace hD := hD.up le); (try replace hW := hW.up le)))
    (repeat' ((fail_if_success (with_reducible show wpAny _ _ (exec (PySem.Stmt.If _ _ _ _) _) _ _ _)); walk_at "x"))
    refine cutR (J := fun s => ∃ g3 ls lv t1 t2, Le g2 g3 ∧ Rd g3 (.ref ls) (.list (dI ((if like (rval rows (a - 1)) d then [] else [a]) ++ if like (rval rows (b + 1)) d then [] else [b + 1]))) ∧ Rd g3 (.ref lv) (.list ((if like (rval rows (a - 1)) d then [] else [d]) ++ if like (rval rows (b + 1)) d then [] else [rval rows (b + 1)])) ∧ St cc L g3 [(dx, od)] [(Str.ofString "values", .ref lv), (Str.ofString "starts", .ref ls), (Str.ofString "high", .int k2 t2), (Str.ofString "low", .int k1 t1), (Str.ofString "self", .ref x), (Str.ofString "first", .int a ta), (Str.ofString "last", .int b tb), (Str.ofString "value", v)] s) ?_ ?_
    · intro Qc hCn
      (repeat' (walk_at "x"))
      refine ite_d (fun _ => ?_) (fun c => absurd (by omega) c)
      (repeat' (walk_at "x"))
      refine call_fn S G X.hlike.n X.hlike.k rfl ?_
      (repeat' (walk_at "x"))
      refine a_get S G Y.rmK Y.rm3 hx (S.ow (dx, od) (.head _)) ha rfl rfl fun s S => ?_
      (repeat' (walk_at "x"))
      refine item_rd S h2 (by omega) (by rw [show ((k1 : Int) - 1).toNat = k1 - 1 by omega]; exact at1.2) (by simp; omega) fun cv hcv => ?_
      (repeat' (walk_at "x"))
      refine kin_and S G (callC (like_spec X G S.keep ((hA.deeper _).le (by omega)) hcv hv oka hk fun g3 s' A' => ?_))
      replace S := S.back0 A'
      have le := A'.le
      (repeat' (walk_at "x"))
      cases hl : like (rval rows (a - 1)) d
      · refine ite_isnt rfl ?_
        (repeat' (walk_at "x"))
        rw [hl]
        exact ⟨rfl, g3, ls, lv, _, _, le, r1.up le, r2.up le, S⟩
      · refine ite_is rfl ?_
        (repeat' (walk_at "x"))
        refine slR_from S (r1.up le) (by simp only [List.length_map, List.length_append]; split <;> simp) (by decide) fun D1 g4 s le4 S q1 => ?_
        (repeat' (walk_at "x"))
        refine slR_from S (r2.up (le.trans le4)) (by simp only [List.length_append]; split <;> simp) (by decide) fun D2 g5 s le5 S q2 => ?_
        (repeat' (walk_at "x"))
        rw [hl]
        exact ⟨rfl, g5, D1, D2, _, _, (le.trans le4).trans le5, q1.up le5, q2, S.vars _ (AllP.all ⟨rfl, rfl, rfl, rfl, rfl, rfl, rfl, rfl, trivial⟩)⟩
    · rintro s ⟨g3, ls, lv, t1, t2, le, r1, r2, S⟩
      refine St.letl S ?_
      intro lmz S
      replace hx := le _ _ hx
      (((try replace G := G.up le); (try replace hle := Le.trans hle le); (try replace hc1 := hc1.keeps le); (try replace hc2 := hc2.keeps le); (try replace hc3 := hc3.keeps le); (try replace hxs := hxs.up le); (try replace hys := hys.up le); (try replace hT := hT.up le); (try replace h1 := h1.up le); (try replace h2 := h2.up le); (try replace h3 := h3.up le); (try replace h4 := h4.up le); (try replace h5 := h5.up le); (try replace hD := hD.up le); (try replace hW := hW.up le)))
      have e1 : ([a] ++ if like (rval rows (b + 1)) d then [] else [b + 1] : List Int).length ≤ 2 := by split <;> simp
      have b1 : ((if like (rval rows (a - 1)) d then [] else [a]) ++ if like (rval rows (b + 1)) d then [] else [b + 1] : List Int).length ≤ 2 := by split <;> split <;> simp
      have b2 : ((if like (rval rows (a - 1)) d then [] else [d]) ++ if like (rval rows (b + 1)) d then [] else [rval rows (b + 1)] : List PyData).length ≤ 2 := by split <;> split <;> simp
      have j1 := rd_ints h1
      (repeat' (walk_at "x"))
      refine a_get S G Y.rmK Y.rm2 hx (S.ow (dx, od) (.head _)) ha rfl rfl fun s S => ?_
      (repeat' (walk_at "x"))
      refine slR_upto S j1 (by simp; omega) (by omega) fun D1 g4 s le4 S q1 => ?_
      (repeat' (walk_at "x"))
      refine addR S q1 (r1.up le4) (by simp; omega) (by rw [List.length_map]; omega) fun D2 g5 s le5 S q2 => ?_
      (repeat' (walk_at "x"))
      replace hx := (le4.trans le5) _ _ hx
      replace G := G.up (le4.trans le5)
      refine a_get S G Y.rmK Y.rm2 hx (S.ow (dx, od) (.head _)) ha rfl rfl fun s S => ?_
      (repeat' (walk_at "x"))
      refine slR_from S (j1.up (le4.trans le5)) (by simp; omega) (by omega) fun D3 g6 s le6 S q3 => ?_
      refine addR S (q2.up le6) q3 (by simp only [List.length_map, List.length_append, List.length_take] at b1 ⊢; omega) (by simp; omega) fun D4 g7 s le7 S q4 => ?_
      (repeat' (walk_at "x"))
      replace hx := (le6.trans le7) _ _ hx
      replace G := G.up (le6.trans le7)
      have le47 := (le4.trans le5).trans (le6.trans le7)
      refine a_set S G Y.rmK Y.rm2 hx (pre := []) rfl ha (by simp) fun od2 s ha S => ?_
      replace ha : AtD od2 [(Str.ofString "default", dv), (Str.ofString "starts", .ref D4), (Str.ofString "values", .ref lb)] := ha
      (repeat' (walk_at "x"))
      refine a_get S G Y.rmK Y.rm3 hx (S.ow (dx, od2) (.head _)) ha rfl rfl fun s S => ?_
      (repeat' (walk_at "x"))
      refine slR_upto S (h2.up le47) (by simp; omega) (by omega) fun D1 g4 s le4 S q1 => ?_
      (repeat' (walk_at "x"))
      refine addR S q1 (r2.up (le47.trans le4)) (by simp; omega) (by omega) fun D2 g5 s le5 S q2 => ?_
      (repeat' (walk_at "x"))
      replace hx := (le4.trans le5) _ _ hx
      replace G := G.up (le4.trans le5)
      refine a_get S G Y.rmK Y.rm3 hx (S.ow (dx, od2) (.head _)) ha rfl rfl fun s S => ?_
      (repeat' (walk_at "x"))
      refine slR_from S (h2.up (le47.trans (le4.trans le5))) (by simp; omega) (by omega) fun D3 g6 s le6 S q3 => ?_
      refine addR S (q2.up le6) q3 (by simp only [List.length_map, List.length_append, List.length_take] at b2 ⊢; omega) (by simp; omega) fun D5 g8 s le8 S q5 => ?_
      (repeat' (walk_at "x"))
      replace hx := (le6.trans le8) _ _ hx
      replace G := G.up (le6.trans le8)
      refine a_set S G Y.rmK Y.rm3 hx (pre := []) rfl ha (by simp) fun od3 s ha S => ?_
      replace ha : AtD od3 [(Str.ofString "default", dv), (Str.ofString "starts", .ref D4), (Str.ofString "values", .ref D5)] := ha
      (repeat' (walk_at "x"))
      subst hcc
      (repeat' (walk_at "x"))
      refine h od3 g8 s S.aft ⟨D4, D5, ha, ints_of ?_, ?_⟩
      · have e : dI ((rput rows a b d like).map (·.1)) = (dI (rows.map (·.1))).take (k1 : Int).toNat ++ dI ((if like (rval rows (a - 1)) d then [] else [a]) ++ if like (rval rows (b + 1)) d then [] else [b + 1]) ++ (dI (rows.map (·.1))).drop (k2 : Int).toNat := by
          unfold rput
          rw [cut1.1, cut2.2]
          cases like (rval rows (a - 1)) d <;> cases like (rval rows (b + 1)) d <;> simp [List.map_take, List.map_drop]
        rw [e]
        exact q4.up ((le4.trans le5).trans (le6.trans le8))
      · have e : (rput rows a b d like).map (·.2) = (rows.map (·.2)).take (k1 : Int).toNat ++ ((if like (rval rows (a - 1)) d then [] else [d]) ++ if like (rval rows (b + 1)) d then [] else [rval rows (b + 1)]) ++ (rows.map (·.2)).drop (k2 : Int).toNat := by
          unfold rput
          rw [cut1.1, cut2.2]
          cases like (rval rows (a - 1)) d <;> cases like (rval rows (b + 1)) d <;> simp [List.map_take, List.map_drop]
        rw [e]
        exact q5

end
end Mine
end
section
set_option maxRecDepth 100000
set_option maxHeartbeats 1000000
namespace Mine
section
variable {prog : Program} {w : World} {A : Around} {s : Shared} {K : Frag} {g : Heap}
def nmsF : List Str := [Str.ofString "ex", Str.ofString "sd", Str.ofString "cased", Str.ofString "ci", Str.ofString "ep", Str.ofString "di", Str.ofString "ids", Str.ofString "idc", Str.ofString "xids", Str.ofString "xidc", Str.ofString "pat_syn", Str.ofString "pat_ws", Str.ofString "idst"]
def nmsN : List Str := [Str.ofString "dm", Str.ofString "uc", Str.ofString "lc", Str.ofString "tc", Str.ofString "cf", Str.ofString "bm", Str.ofString "bpb", Str.ofString "scx", Str.ofString "nt", Str.ofString "nv", Str.ofString "name", Str.ofString "conf", Str.ofString "nfkc_cf"]
def nmsT : List Str := [Str.ofString "suc", Str.ofString "slc", Str.ofString "stc", Str.ofString "alias"]
theorem fill_loop {env : Env} {c : Cs} {L F I : Addr} {o : Obj} {its : List (Addr × Obj)} {wr : List Addr} {kvs : List (Str × Value)} {kn : List (Str × PyData)} {ns : List Str} {d : PyData} {e : PySem.Expr} {p1 p2 p3 p4 p5 : Pos} {R : Result → Shared → Prop}
    (hk : env.scope.kind = .function) (h1 : env.kindOf (Str.ofString "found") = some .local) (h2 : env.kindOf (Str.ofString "name") = some .local) (hL : env.locals = L)
    (he : ∀ (g : Heap) own lm (s : Shared) (Q : Value → Shared → Prop), St c L g own lm s → (∀ v g' s', Le g g' → St c L g' own lm s' → Rd g' v d → Q v s') → wpAny (model prog w) A (eval e env) Q Nev s)
    (hits : its.map (·.1) = wr) (It : Itr prog w A (.Name (Str.ofString "name") p1) g I wr ns.length (fun i v _ => ∃ d, (ns.map PyData.str)[i]? = some d ∧ Rd g v d) s.heap) (hW : ∀ b ∈ wr, b ∉ c.wr) (S : St c L g (its ++ [(F, o)]) [(Str.ofString "found", .ref F)] s)
    (ho : o.IsDictOf (PySem.strKind prog w) kvs) (hz : kvs.length + ns.length ≤ 1000) (hkn : Kn g kvs kn) (hdis : ∀ p ∈ kn, p.1 ∉ ns) (hsw : ∀ x, swapsWith e x p5.line env = pure false)
    (done : ∀ g' o' kvs' s', Le g g' → St c L g' [(F, o')] [(Str.ofString "found", .ref F)] s' → o'.IsDictOf (PySem.strKind prog w) kvs' → kvs'.length ≤ kvs.length + ns.length → Kn g' kvs' (ns.map (·, d) ++ kn) → R (.ok .next) s') :
    codeAny (model prog w) A (.forLoop (.Name (Str.ofString "name") p1) (.ref I) [.Assign [.Subscript (.Name (Str.ofString "found") p2) (.Name (Str.ofString "name") p3) p4] e p5] [] env) R s := by
  refine forI (fun i g₁ own₁ lm₁ => ∃ o kvs', own₁ = [(F, o)] ∧ lm₁ = [(Str.ofString "found", .ref F)] ∧ o.IsDictOf (PySem.strKind prog w) kvs' ∧ kvs'.length ≤ kvs.length + i ∧ Kn g₁ kvs' ((ns.take i).map (·, d) ++ kn))
    hits It hW S ⟨o, kvs, rfl, rfl, ho, Nat.le_refl _, by simpa using hkn⟩ ⟨rfl, trivial⟩ (fun i v g₁ own₁ lm₁ s its hi hP le J S Qn hQn hQc hQb hQr => ?_) (fun gE own₁ lm₁ s le S J => ?_)
  · obtain ⟨o, kvs', rfl, rfl, ho, hl, hkn'⟩ := J
    refine St.letl S ?_
    intro lmz S
    obtain ⟨d', hd', rv⟩ := hP
    rw [List.getElem?_map] at hd'
    obtain ⟨x, hx, rfl⟩ := Option.map_eq_some_iff.mp hd'
    obtain ⟨t, rfl⟩ := rd_str rv
    refine wpAny_assign_Name (s_loc S h2 hL (fun s S => ?_) hk)
    refine wpAny_execs_cons (wpAny_Assign_Subscript ?_ (hsw _))
    refine he _ _ _ _ _ S fun v g2 s le2 S rv => ?_
    refine n_loc S rfl h1 hL ?_ hk
    refine n_loc S rfl h2 hL ?_ hk
    refine d_set S rfl ho (sk x t) (by omega) fun o' s ho' S => ?_
    refine wpAny_execs_nil ?_
    (repeat' (walk_at "x"))
    refine forEnd (own₂ := [(F, o')]) S le2 ⟨o', _, rfl, rfl, ho', by have := stored_length_le kvs' x v; omega, ?_⟩ ⟨rfl, trivial⟩
    intro p hp
    have hxn : x ∈ ns := List.mem_of_getElem? hx
    rcases List.mem_append.mp hp with hp | hp
    · obtain ⟨y, hy, rfl⟩ := List.mem_map.mp hp
      by_cases hyx : y = x
      · exact ⟨v, by rw [valueAt_store, if_pos hyx], rv⟩
      · rw [List.take_succ, hx] at hy
        have hy' : y ∈ ns.take i := by
          rcases List.mem_append.mp hy with h | h
          · exact h
          · exact absurd (by simpa using h) hyx
        obtain ⟨u, a, b⟩ := hkn' (y, d) (List.mem_append_left _ (List.mem_map_of_mem hy'))
        exact ⟨u, by rw [valueAt_store, if_neg hyx]; exact a, b.up le2⟩
    · have hne : p.1 ≠ x := fun e => hdis p hp (e ▸ hxn)
      obtain ⟨u, a, b⟩ := hkn' p (List.mem_append_right _ hp)
      exact ⟨u, by rw [valueAt_store, if_neg hne]; exact a, b.up le2⟩
  · obtain ⟨o, kvs', rfl, rfl, ho, hl, hkn'⟩ := J
    refine St.letl S ?_
    intro lmz S
    rw [List.take_of_length_le (Nat.le_refl _)] at hkn'
    exact done gE o kvs' s le S ho hl hkn'
theorem dflts_spec (X : Fns K) (G : Gl K g) (hg : Le g s.heap) (hA : Rm A 4) {R : Result → Shared → Prop}
    (h : ∀ F o kvs g' s', Aft s g [] g' [] s' → (F == sysModules) = false → g'.get? F = some o → o.IsDictOf (PySem.strKind prog w) kvs → Kn g' kvs (nmsT.map (·, .tuple []) ++ nmsN.map (·, .none) ++ nmsF.map (·, .bool false)) → R (.ok (.ret (.ref F))) s') :
    codeAny (model prog w) A (.call (.ref X.dflts) ⟨[], []⟩) R s := by
  refine enter0 [] X.hdflts.s G hg (hA.le (by omega)) (fun _ _ _ _ _ _ => rfl) (by decide) trivial trivial (fun L cdv cs s₁ hz => ?_) rfl rfl rfl
  intro envz Az cz lmz S Qf hFr hFn
  cases hz
  (repeat' (walk_at "x"))
  (with_reducible refine d_dispT (PySem.strKind prog w) S G ?_ ?_ ?_ ?_)
  · rfl
  · rfl
  · exact ⟨by decide, by decide⟩
  intro F s hF hFw S
  (repeat' (walk_at "x"))
  refine ⟨_, [], _, _, _, S, carr_cons (sk _ _) (carr_cons (sk _ _) (carr_cons (sk _ _) (carr_cons (sk _ _) (carr_cons (sk _ _) (carr_cons (sk _ _) (carr_cons (sk _ _) (carr_cons (sk _ _) carr_nil))))))), fun o s ho S => ?_⟩
  have hz0 := merged_le (n := 8) ho (Nat.le_of_ble_eq_true rfl)
  (repeat' (walk_at "x"))
  (with_reducible refine mk_tuple (ds := [Str.ofString "gcb", Str.ofString "wb", Str.ofString "sb"].map PyData.str) S ?_ ?_ ?_)
  · repeat' (first | exact RdA.nil | refine RdA.cons (Rd.str _ _) ?_)
  · exact Nat.le_of_ble_eq_true rfl
  intro T g1 s le S hT
  replace G := G.up le
  refine start_rdT hA.h S hT fun I its s hI It hW S => ?_
  refine fill_loop (ns := [Str.ofString "gcb", Str.ofString "wb", Str.ofString "sb"]) (d := .str (Str.ofString "Other")) (kn := []) rfl rfl rfl rfl (fun g own lm s Q S h => k_str S fun t s S => h _ _ _ (Le.refl _) S (.str _ _)) hI (It _) hW (S.vars _ (AllP.all ⟨rfl, trivial⟩)) ho (Nat.le_trans (Nat.add_le_add_right hz0 _) (Nat.le_of_ble_eq_true rfl)) Kn.nil (fun _ h => nomatch h) (fun _ => rfl) fun g2 o kvs s le2 S ho hl hkn => ?_
  replace hz0 := Nat.le_trans hl (Nat.add_le_add_right hz0 _)
  replace G := G.up le2
  (repeat' (walk_at "x"))
  replace hkn : Kn g2 kvs [] := Kn.nil
  (with_reducible refine mk_tuple (ds := nmsF.map PyData.str) S ?_ ?_ ?_)
  · repeat' (first | exact RdA.nil | refine RdA.cons (Rd.str _ _) ?_)
  · exact Nat.le_of_ble_eq_true rfl
  intro T g1 s le S hT
  replace G := G.up le
  replace hkn := hkn.up le
  refine start_rdT hA.h S hT fun I its s hI It hW S => ?_
  refine fill_loop (ns := nmsF) (d := .bool false) (kn := []) rfl rfl rfl rfl (fun g own lm s Q S h => wpAny_Constant_bool (h _ _ _ (Le.refl _) S (.bool _))) hI (It _) hW (S.vars _ (AllP.all ⟨rfl, trivial⟩)) ho (Nat.le_trans (Nat.add_le_add_right hz0 _) (Nat.le_of_ble_eq_true rfl)) hkn (fun _ h => nomatch h) (fun _ => rfl) fun g2 o kvs s le2 S ho hl hkn => ?_
  replace hz0 := Nat.le_trans hl (Nat.add_le_add_right hz0 _)
  replace G := G.up le2
  (repeat' (walk_at "x"))
  rw [List.append_nil] at hkn
  (with_reducible refine mk_tuple (ds := nmsN.map PyData.str) S ?_ ?_ ?_)
  · repeat' (first | exact RdA.nil | refine RdA.cons (Rd.str _ _) ?_)
  · exact Nat.le_of_ble_eq_true rfl
  intro T g1 s le S hT
  replace G := G.up le
  replace hkn := hkn.up le
  refine start_rdT hA.h S hT fun I its s hI It hW S => ?_
  refine fill_loop (ns := nmsN) (d := .none) (kn := (nmsF.map (·, .bool false))) rfl rfl rfl rfl (fun g own lm s Q S h => wpAny_Constant_none (h _ _ _ (Le.refl _) S .none)) hI (It _) hW (S.vars _ (AllP.all ⟨rfl, trivial⟩)) ho (Nat.le_trans (Nat.add_le_add_right hz0 _) (Nat.le_of_ble_eq_true rfl)) hkn (by decide) (fun _ => rfl) fun g2 o kvs s le2 S ho hl hkn => ?_
  replace hz0 := Nat.le_trans hl (Nat.add_le_add_right hz0 _)
  replace G := G.up le2
  (repeat' (walk_at "x"))
  (with_reducible refine mk_tuple (ds := nmsT.map PyData.str) S ?_ ?_ ?_)
  · repeat' (first | exact RdA.nil | refine RdA.cons (Rd.str _ _) ?_)
  · exact Nat.le_of_ble_eq_true rfl
  intro T g1 s le S hT
  replace G := G.up le
  replace hkn := hkn.up le
  refine start_rdT hA.h S hT fun I its s hI It hW S => ?_
  refine fill_loop (ns := nmsT) (d := .tuple []) (kn := (nmsN.map (·, .none) ++ nmsF.map (·, .bool false))) rfl rfl rfl rfl (fun g own lm s Q S h => PyProof.Rows.Tuple_ (PyProof.Rows.spliced_none (mk_tuple S .nil (Nat.zero_le _) fun D g2 s le S r => h _ _ _ le S r))) hI (It _) hW (S.vars _ (AllP.all ⟨rfl, trivial⟩)) ho (Nat.le_trans (Nat.add_le_add_right hz0 _) (Nat.le_of_ble_eq_true rfl)) hkn (by decide) (fun _ => rfl) fun g2 o kvs s le2 S ho hl hkn => ?_
  replace hz0 := Nat.le_trans hl (Nat.add_le_add_right hz0 _)
  replace G := G.up le2
  (repeat' (walk_at "x"))
  (with_reducible refine mk_tuple (ds := []) S ?_ ?_ ?_)
  · exact .nil
  · exact Nat.zero_le _
  intro T1 g1 s le S hT1
  replace G := G.up le
  replace hkn := hkn.up le
  (repeat' (walk_at "x"))
  (with_reducible refine mk_tuple (ds := [.str (Str.ofString "disallowed"), .tuple []]) S ?_ ?_ ?_)
  · exact .cons (.str _ _) (.one hT1)
  · exact Nat.le_of_ble_eq_true rfl
  intro T2 g2 s le S hT2
  replace G := G.up le
  replace hkn := hkn.up le
  (repeat' (walk_at "x"))
  refine d_set (pre := []) S rfl ho (sk _ _) (Nat.le_trans hz0 (Nat.le_of_ble_eq_true rfl)) fun o s ho S => ?_
  (repeat' (walk_at "x"))
  replace hkn := hkn.store (x := Str.ofString "idna") (by decide) hT2
  obtain ⟨g3, le3, S, hFo⟩ := S.freeze (pre := []) rfl hFw
  (repeat' (walk_at "x"))
  exact h F o _ g3 _ S.aft hF hFo ho ((hkn.sub fun p hp => .tail _ (by rw [List.append_assoc] at hp; exact hp)).up le3)

end
end Mine
end
section
set_option genInjectivity false
set_option genSizeOf false
set_option maxRecDepth 100000
set_option maxHeartbeats 1000000
namespace Mine
/-! ## the database -/
def n_cased : Str := PySem.Str.ofString "cased"
inductive Nm | uc | lc | tc
def Nm.s : Nm → Str
  | .uc => PySem.Str.ofString "uc"
  | .lc => PySem.Str.ofString "lc"
  | .tc => PySem.Str.ofString "tc"
def Nm.ss : Nm → Str
  | .uc => PySem.Str.ofString "suc"
  | .lc => PySem.Str.ofString "slc"
  | .tc => PySem.Str.ofString "stc"
def nms7 : List Str := [PySem.Str.ofString "cased", PySem.Str.ofString "uc", PySem.Str.ofString "lc", PySem.Str.ofString "tc", PySem.Str.ofString "suc", PySem.Str.ofString "slc", PySem.Str.ofString "stc"]
def dfl (x : Str) : PyData := if x = PySem.Str.ofString "cased" then .bool false else if x = PySem.Str.ofString "uc" ∨ x = PySem.Str.ofString "lc" ∨ x = PySem.Str.ofString "tc" then .none else .tuple []
theorem dfl_ok (x : Str) : Vok (dfl x) := by
  unfold dfl
  split
  · exact .inr ⟨_, rfl⟩
  · split
    · exact .inl .none
    · exact .inl ⟨rfl, by simp [PyData.depth, PyData.depthAll]⟩
/-- a function of a key that a dict tells -/
def DF {KK : Type} [DecidableEq KK] (g : Heap) (kvs : List (KK × Value)) (f : KK → Option PyData) : Prop := ∀ x, match f x with | none => valueAt kvs x = none | some d => ∃ v, valueAt kvs x = some v ∧ Rd g v d
section
variable {KK : Type} [DecidableEq KK] {g g' : Heap} {kvs : List (KK × Value)} {f : KK → Option PyData}
theorem DF.up (h : DF g kvs f) (le : Le g g') : DF g' kvs f := fun x => by
  have := h x
  cases e : f x with
  | none => rw [e] at this; exact this
  | some d => rw [e] at this; obtain ⟨v, a, b⟩ := this; exact ⟨v, a, b.up le⟩
theorem DF.nil : DF (KK := KK) g [] (fun _ => none) := fun _ => rfl
theorem DF.store {k : KK} {v : Value} {d : PyData} (h : DF g kvs f) (r : Rd g v d) : DF g (stored kvs k v) (fun y => if y = k then some d else f y) := fun x => by
  have := h x
  by_cases e : x = k
  · dsimp only
    rw [if_pos e]
    exact ⟨v, by rw [valueAt_store, if_pos e], r⟩
  · dsimp only
    rw [if_neg e, valueAt_store, if_neg e]
    exact this
theorem DF.have {x : KK} {d : PyData} (h : DF g kvs f) (e : f x = some d) : ∃ v, valueAt kvs x = some v ∧ Rd g v d := by
  have := h x
  rwa [e] at this
theorem DF.lack {x : KK} (h : DF g kvs f) (e : f x = none) : valueAt kvs x = none := by
  have := h x
  rwa [e] at this
theorem DF.cases {x : KK} {v : Value} (h : DF g kvs f) (e : valueAt kvs x = some v) : ∃ d, f x = some d ∧ Rd g v d := by
  have := h x
  cases q : f x with
  | none => rw [q] at this; rw [this] at e; cases e
  | some d => rw [q] at this; obtain ⟨u, a, b⟩ := this; rw [a] at e; cases e; exact ⟨d, rfl, b⟩
end
section
variable {c : Cs} {L : Addr} {g : Heap} {ownc rest : List (Addr × Obj)} {lm : List (Str × Value)} {s : Shared}
/-- several objects stand from here on -/
theorem St.freezeL (S : St c L g (ownc ++ rest) lm s) (hw : ∀ a ∈ ownc.map (·.1), a ∉ c.wr) : ∃ g', Le g g' ∧ St c L g' rest lm s ∧ ∀ p ∈ ownc, g'.get? p.1 = some p.2 := by
  have nd := S.nodup
  rw [List.map_append, List.nodup_cons, List.mem_append, List.nodup_append] at nd
  have hwo : ∀ b ∈ c.wr, b ∈ rest.map (·.1) := fun b hb => by
    have := S.wo b hb
    rw [List.map_append, List.mem_append] at this
    exact this.resolve_left fun h => hw b h hb
  obtain ⟨g', le, S', hg⟩ := (S.drop (List.sublist_append_right _ _) hwo).up
  refine ⟨g', le, S', fun p hp => hg p.1 p.2 (S.ow p (List.mem_append_left _ hp)) ?_ ((S.mw p.1 (.tail _ (by rw [List.map_append]; exact List.mem_append_left _ (List.mem_map_of_mem hp)))).resolve_left (hw _ (List.mem_map_of_mem hp)))⟩
  intro h
  rcases List.mem_cons.mp h with h | h
  · exact nd.1 (.inl (h ▸ List.mem_map_of_mem hp))
  · exact nd.2.2.2 _ (List.mem_map_of_mem hp) _ h rfl
end
/-- one map among the database's -/
structure Mp where
  name : Str
  x : Addr
  dx : Addr
  od : Obj
  dv : Value
  rows : List Row
def Mp.own (p : Mp) : Addr × Obj := (p.dx, p.od)
structure MpOk {K : Frag} (Y : Cls K) (g : Heap) (p : Mp) : Prop where
  hx : g.get? p.x = some (instObj Y.rm p.dx)
  rd : RmD g p.od p.dv p.rows
  rw : RW p.rows
theorem MpOk.up {K : Frag} {Y : Cls K} {g g' : Heap} {p : Mp} (h : MpOk Y g p) (le : Le g g') : MpOk Y g' p := ⟨le _ _ h.hx, h.rd.up le, h.rw⟩
def gv (ms : List Mp) (x : Str) (n : Int) : PyData := match ms.find? (fun p => p.name == x) with | none => dfl x | some p => rval p.rows n
def keysOf (ms : List Mp) : List (Str × Value) := ms.map fun p => (p.name, .ref p.x)
theorem find_mp (ms : List Mp) (x : Str) : valueAt (keysOf ms) x = (ms.find? (fun p => p.name == x)).map fun p => .ref p.x := by
  induction ms with
  | nil => rfl
  | cons p r ih =>
    show valueAt ((p.name, .ref p.x) :: keysOf r) x = _
    rw [valueAt_cons, ih, List.find?_cons]
    by_cases h : p.name = x
    · rw [if_pos h, beq_iff_eq.mpr h]; rfl
    · rw [if_neg h, beq_eq_false_iff_ne.mpr h]
/-- the database's maps -/
structure DaM (prog : Program) (w : World) {K : Frag} (Y : Cls K) (g : Heap) (M : Addr) (ms : List Mp) (own : List (Addr × Obj)) : Prop where
  own : ∃ oM, own = (M, oM) :: ms.map Mp.own ∧ oM.IsDictOf (PySem.strKind prog w) (keysOf ms)
  ok : ∀ p ∈ ms, MpOk Y g p
theorem DaM.up {prog : Program} {w : World} {K : Frag} {Y : Cls K} {g g' : Heap} {M : Addr} {ms : List Mp} {own : List (Addr × Obj)} (h : DaM prog w Y g M ms own) (le : Le g g') : DaM prog w Y g' M ms own := ⟨h.own, fun p hp => (h.ok p hp).up le⟩
/-- the database itself -/
structure DaS (prog : Program) (w : World) {K : Frag} (Y : Cls K) (g : Heap) (xd dd M : Addr) (od : Obj) : Prop where
  hx : g.get? xd = some (instObj Y.da dd)
  at' : ∃ F a b, AtD od [(PySem.Str.ofString "defaults", .ref F), (PySem.Str.ofString "maps", .ref M), (PySem.Str.ofString "properties", a), (PySem.Str.ofString "words", b)] ∧ (F == sysModules) = false ∧
    ∃ o kvs, g.get? F = some o ∧ o.IsDictOf (PySem.strKind prog w) kvs ∧ Kn g kvs (nms7.map fun x => (x, dfl x))
  hM : (M == sysModules) = false
theorem DaS.up {prog : Program} {w : World} {K : Frag} {Y : Cls K} {g g' : Heap} {xd dd M : Addr} {od : Obj} (h : DaS prog w Y g xd dd M od) (le : Le g g') : DaS prog w Y g' xd dd M od := by
  obtain ⟨h1, ⟨F, a, b, h2, h3, o, kvs, h4, h5, h6⟩, h7⟩ := h
  exact ⟨le _ _ h1, ⟨F, a, b, h2, h3, o, kvs, le _ _ h4, h5, h6.up le⟩, h7⟩
theorem rput_len2 (rows : List Row) (a b : Int) (h : a ≤ b + 1) (v : PyData) (lk : PyData → PyData → Bool) : (rput rows a b v lk).length ≤ rows.length + 2 := by
  unfold rput
  have key : (cut rows (a - 1)).length + (past rows (b + 1)).length ≤ rows.length := by
    induction rows with
    | nil => simp [cut, past]
    | cons p r ih =>
      unfold cut past at ih ⊢
      rw [List.filter_cons, List.filter_cons]
      by_cases h1 : p.1 ≤ a - 1
      · rw [if_pos (decide_eq_true h1), if_neg (by simp; omega)]
        simp only [List.length_cons]; omega
      · rw [if_neg (by simpa using h1)]
        split <;> simp only [List.length_cons] <;> omega
  rw [List.length_append, List.length_append, List.length_append]
  have h3 : (if lk (rval rows (a - 1)) v = true then ([] : List Row) else [(a, v)]).length ≤ 1 := by split <;> simp
  have h4 : (if lk (rval rows (b + 1)) v = true then ([] : List Row) else [(b + 1, rval rows (b + 1))]).length ≤ 1 := by split <;> simp
  omega
/-- the database when it is built -/
structure Dat (prog : Program) (w : World) {K : Frag} (Y : Cls K) (g : Heap) (xd : Addr) (F : Str → Int → PyData) : Prop where
  all : ∃ dd M od ms oM, DaS prog w Y g xd dd M od ∧ g.get? dd = some od ∧ g.get? M = some oM ∧ oM.IsDictOf (PySem.strKind prog w) (keysOf ms) ∧ (∀ p ∈ ms, MpOk Y g p ∧ g.get? p.dx = some p.od ∧ p.rows.length ≤ 1000) ∧ ∀ x ∈ nms7, ∀ n, 0 ≤ n → gv ms x n = F x n
theorem Dat.up {prog : Program} {w : World} {K : Frag} {Y : Cls K} {g g' : Heap} {xd : Addr} {F : Str → Int → PyData} (h : Dat prog w Y g xd F) (le : Le g g') : Dat prog w Y g' xd F := by
  obtain ⟨dd, M, od, ms, oM, h1, h2, h3, h4, h5, h6⟩ := h
  exact ⟨dd, M, od, ms, oM, h1.up le, le _ _ h2, le _ _ h3, h4, fun p hp => ⟨(h5 p hp).1.up le, le _ _ (h5 p hp).2.1, (h5 p hp).2.2⟩, h6⟩
section
variable {prog : Program} {w : World} {A : Around} {E : Value → Shared → Prop} {s : Shared} {K : Frag} {c : Cs} {L : Addr} {g : Heap} {own : List (Addr × Obj)} {lm : List (Str × Value)} {env : Env}
variable {KK : Type} [DecidableEq KK] {k : KK} {key : Value} {kvs : List (KK × Value)} {d : Addr} {o : Obj}
theorem dg1 {pos : Pos} {e : PySem.Expr} {Q : Value → Shared → Prop} (knd : KeyKind prog w KK) (_S : St c L g own lm s) (hd : (d == sysModules) = false)
    (h : wpAny (model prog w) A (eval e env) (fun key s₁ => ∃ g₁ own₁ lm₁ k kvs, St c L g₁ own₁ lm₁ s₁ ∧ knd.is k key = true ∧ s₁.heap.DictOf knd d kvs ∧ ∀ s₂, St c L g₁ own₁ lm₁ s₂ → Q ((valueAt kvs k).getD .none) s₂) E s)
    (he : backTo pos (starEach [e] env) = [(false, eval e env)] := by rfl) :
    wpAny (model prog w) A (callWith pos (.builtin "dict.get") [.ref d] (backTo pos (starEach [e] env)) []) Q E s := d_get1 hd h he
theorem dg2 {pos : Pos} {e e' : PySem.Expr} {Q : Value → Shared → Prop} (knd : KeyKind prog w KK) (_S : St c L g own lm s) (hd : (d == sysModules) = false)
    (h : wpAny (model prog w) A (eval e env) (fun key s₁ => wpAny (model prog w) A (eval e' env) (fun dflt s₂ => ∃ g₁ own₁ lm₁ k kvs, St c L g₁ own₁ lm₁ s₂ ∧ knd.is k key = true ∧ s₂.heap.DictOf knd d kvs ∧ ∀ s₃, St c L g₁ own₁ lm₁ s₃ → Q ((valueAt kvs k).getD dflt) s₃) E s₁) E s)
    (he : backTo pos (starEach [e, e'] env) = [(false, eval e env), (false, eval e' env)] := by rfl) :
    wpAny (model prog w) A (callWith pos (.builtin "dict.get") [.ref d] (backTo pos (starEach [e, e'] env)) []) Q E s := d_get2 hd h he
end
end Mine
end
section
set_option maxRecDepth 100000
set_option maxHeartbeats 1000000
namespace Mine
section
variable {prog : Program} {w : World} {A : Around} {E : Value → Shared → Prop} {s : Shared} {K : Frag} {c : Cs} {L : Addr} {g : Heap} {own its : List (Addr × Obj)} {lm : List (Str × Value)} {env : Env}
theorem adr_ne {a b : Nat} (h : a < b ∨ b < a) : @Ne Addr a b := h.elim Nat.ne_of_lt fun h => Nat.ne_of_gt h
theorem St.newIts (S : St c L g own lm s) {h' : Heap} {t' : Nat} (hs : Le s.heap h') (hnd : (its.map (·.1)).Nodup) (ha : ∀ p ∈ its, s.heap.get? p.1 = none ∧ h'.get? p.1 = some p.2) :
    St c L g (its ++ own) lm { s with heap := h', toks := t' } ∧ ∀ a ∈ its.map (·.1), a ∉ c.wr := by
  have hn : ∀ a ∈ its.map (·.1), s.heap.get? a = none := fun a h => by
    obtain ⟨p, hp, rfl⟩ := List.mem_map.mp h
    exact (ha p hp).1
  have S1 : St c L g own lm { s with heap := h', toks := t' } := S.le hs
  refine ⟨{ S1 with
    ow := fun p hp => (List.mem_append.mp hp).elim (fun h => (ha p h).2) (S1.ow p)
    nodup := ?_
    off := fun a h => ?_
    mw := fun a h => ?_
    wo := fun b hb => by rw [List.map_append]; exact List.mem_append_right _ (S.wo b hb) }, fun a h => S.notWr (hn a h)⟩
  · rw [List.map_append, List.nodup_cons, List.mem_append, List.nodup_append]
    have nd := List.nodup_cons.mp S.nodup
    refine ⟨fun h => h.elim (fun h => ?_) nd.1, hnd, nd.2, fun a h b hb q => ?_⟩
    · obtain ⟨o, ho⟩ := S.getL
      rw [hn _ h] at ho; cases ho
    · subst q
      obtain ⟨p, hp, rfl⟩ := List.mem_map.mp hb
      have := S.ow p hp
      rw [hn _ h] at this; cases this
  · rcases List.mem_cons.mp h with h | h
    · exact S.off a (h ▸ .head _)
    · rw [List.map_append] at h
      rcases List.mem_append.mp h with h | h
      · cases e : g.get? a with
        | none => rfl
        | some o => have := S.keep a o e; rw [hn a h] at this; cases this
      · exact S.off a (.tail _ h)
  · rcases List.mem_cons.mp h with h | h
    · exact S.mw a (h ▸ .head _)
    · rw [List.map_append] at h
      rcases List.mem_append.mp h with h | h
      · cases e : c.s₀.heap.get? a with
        | none => exact .inr rfl
        | some o => have := S.fk a o e (S.notWr (hn a h)); rw [hn a h] at this; cases this
      · exact S.mw a (.tail _ h)
theorem enum_itL {l : Addr} {vs : List Value} {Q : Value → Shared → Prop} (hA : A.handled = none) (S : St c L g own lm s) (hl : g.IsList l vs.toArray)
    (h : ∀ I its s' wr, its.map (·.1) = wr → (∀ elts k pos, Itr prog w A (.Tuple elts k pos) g I wr vs.length (fun i v h => ∃ T t x, v = .ref T ∧ vs[i]? = some x ∧ h.IsTuple T #[.int i t, x]) s'.heap) → (∀ b ∈ wr, b ∉ c.wr) → St c L g (its ++ own) lm s' → Q (.ref I) s') :
    wpAny (model prog w) A (call (.type "enumerate") [.ref l]) (fun x s₁ => wpAny (model prog w) A (pyIter x) Q Nev s₁) Nev s := by
  have hl' := isList_up hl S.keep
  refine call_enumerate_list hl' fun h' he hit hsz hk => ?_
  obtain ⟨oi, hoi, r1, r2⟩ := id hit
  have hlt : @LT.lt Nat _ l s.heap.objs.size := by obtain ⟨o, ho, _⟩ := hl'; exact Heap.lt_size ho
  obtain ⟨S', hw⟩ := S.newIts (its := [(s.heap.objs.size + 1, _), (s.heap.objs.size, oi)]) (h' := h') (t' := s.toks) (fun b o e => hk b o e) (by simp) (fun p hp => by
    rcases List.mem_cons.mp hp with rfl | hp
    · exact ⟨none_at_size _ (Nat.le_succ _), he⟩
    · rw [List.mem_singleton.mp hp]; exact ⟨none_at_size _ (Nat.le_refl _), hoi⟩)
  have W := (WalksT.enumerate (prog := prog) (w := w) hA (s.heap.objs.size + 1) s.heap.objs.size l (adr_ne (.inr (by omega))) (adr_ne (.inl (by omega))) (adr_ne (.inl (by omega))) vs.toArray).toU
  refine W.self 0 _ _ _ ⟨⟨_, he⟩, hit, isList_up hl S'.keep⟩ ?_
  refine h _ _ _ _ rfl (fun elts k pos => Itr.mono ⟨_, _, _, KTurns.ofWalksU W, fun i h hs b hb => ?_, ⟨⟨_, he⟩, hit, isList_up hl S'.keep⟩, fun b hb => ?_, fun s Q st hq => W.self 0 s Q _ st hq⟩ (by simp) fun i v h hp => ?_) hw S'
  · obtain ⟨⟨old, x1⟩, ⟨o, x2, _⟩, _⟩ := hs
    rcases List.mem_cons.mp hb with rfl | hb
    · exact ⟨_, x1⟩
    · rw [List.mem_singleton.mp hb]; exact ⟨_, x2⟩
  · simp only [List.mem_cons, List.not_mem_nil, or_false] at hb
    rcases hb with rfl | rfl | rfl
    · exact .inl (by simp)
    · exact .inl (by simp)
    · obtain ⟨o, ho, _⟩ := hl
      exact .inr ⟨o, ho⟩
  · obtain ⟨T, vals, rfl, ⟨t, x, hx, rfl⟩, hT⟩ := hp
    exact ⟨T, t, x, rfl, by simpa using hx, hT⟩
theorem enum_itS {x : Str} {t : Tok} {Q : Value → Shared → Prop} (hA : A.handled = none) (S : St c L g own lm s)
    (h : ∀ I its s' wr, its.map (·.1) = wr → (∀ elts k pos, Itr prog w A (.Tuple elts k pos) g I wr x.cps.size (fun i v h => ∃ T t cp u, v = .ref T ∧ x.cps[i]? = some cp ∧ h.IsTuple T #[.int i t, .str ⟨#[cp]⟩ u]) s'.heap) → (∀ b ∈ wr, b ∉ c.wr) → St c L g (its ++ own) lm s' → Q (.ref I) s') :
    wpAny (model prog w) A (call (.type "enumerate") [.str x t]) (fun x s₁ => wpAny (model prog w) A (pyIter x) Q Nev s₁) Nev s := by
  refine call_enumerate_str fun h' he hit hsz hk => ?_
  have hA1 : A.in1.handled = none := hA
  obtain ⟨oi, hoi, r1, r2⟩ := id hit
  obtain ⟨S', hw⟩ := S.newIts (its := [(s.heap.objs.size + 1, _), (s.heap.objs.size, oi)]) (h' := h') (t' := s.toks) (fun b o e => hk b o e) (by simp) (fun p hp => by
    rcases List.mem_cons.mp hp with rfl | hp
    · exact ⟨none_at_size _ (Nat.le_succ _), he⟩
    · rw [List.mem_singleton.mp hp]; exact ⟨none_at_size _ (Nat.le_refl _), hoi⟩)
  have fin : ∀ (St : Nat → Heap → Prop) (D : Draws prog w A.in1 s.heap.objs.size [s.heap.objs.size] x.cps.size (fun i v => ∃ c u, x.cps[i]? = some c ∧ v = .str ⟨#[c]⟩ u) St), St 0 h' → wpAny (model prog w) A (pyIter (.ref (s.heap.objs.size + 1))) Q Nev { s with heap := h' } := fun St D st0 => by
    have W := (WalksT.enumerateD D (s.heap.objs.size + 1) (adr_ne (.inr (by omega))) (by simp) (by simp)).toU
    refine W.self 0 _ _ _ ⟨⟨_, he⟩, st0⟩ ?_
    refine h _ _ _ _ rfl (fun elts k pos => Itr.mono ⟨_, _, _, KTurns.ofWalksU W, fun i h hs b hb => ?_, ⟨⟨_, he⟩, st0⟩, fun b hb => ?_, fun s Q st hq => W.self 0 s Q _ st hq⟩ rfl fun i v h hp => ?_) hw S'
    · obtain ⟨⟨old, x1⟩, x2⟩ := hs
      rcases List.mem_cons.mp hb with rfl | hb
      · exact ⟨_, x1⟩
      · rw [List.mem_singleton.mp hb]; exact D.live _ _ x2
    · simp only [List.mem_cons, List.not_mem_nil, or_false] at hb
      rcases hb with rfl | rfl
      · exact .inl (by simp)
      · exact .inl (by simp)
    · obtain ⟨T, vals, rfl, ⟨t, _, ⟨cp, u, hx, rfl⟩, rfl⟩, hT⟩ := hp
      exact ⟨T, t, cp, u, rfl, hx, hT⟩
  unfold strIterType at hit
  cases ha : x.cps.all (· < 128)
  · rw [ha] at hit
    exact fin _ (Draws.strWide (A := A.in1) hA1 s.heap.objs.size x t) hit
  · rw [ha] at hit
    exact fin _ (Draws.strAscii (A := A.in1) hA1 s.heap.objs.size x t) hit
theorem zip_it {l1 l2 : Addr} {xs ys : List Value} {Q : Value → Shared → Prop} (hA : A.handled = none) (S : St c L g own lm s) (hl1 : g.IsList l1 xs.toArray) (hl2 : g.IsList l2 ys.toArray)
    (h : ∀ I its g' s' wr, Le g g' → its.map (·.1) = wr → (∀ elts k pos, Itr prog w A (.Tuple elts k pos) g' I wr (min xs.length ys.length) (fun i v h => ∃ T x y, v = .ref T ∧ xs[i]? = some x ∧ ys[i]? = some y ∧ h.IsTuple T #[x, y]) s'.heap) → (∀ b ∈ wr, b ∉ c.wr) → St c L g' (its ++ own) lm s' → Q (.ref I) s') :
    wpAny (model prog w) A (call (.type "zip") [.ref l1, .ref l2]) (fun x s₁ => wpAny (model prog w) A (pyIter x) Q Nev s₁) Nev s := by
  have hl1' := isList_up hl1 S.keep
  have hl2' := isList_up hl2 S.keep
  refine call_zip_2 hl1' hl2' fun h' hz hTI hTO hi1 hi2 hsz hk => ?_
  obtain ⟨o1, ho1, r1⟩ := id hi1
  obtain ⟨o2, ho2, r2⟩ := id hi2
  have hlt1 : @LT.lt Nat _ l1 s.heap.objs.size := by obtain ⟨o, ho, _⟩ := hl1'; exact Heap.lt_size ho
  have hlt2 : @LT.lt Nat _ l2 s.heap.objs.size := by obtain ⟨o, ho, _⟩ := hl2'; exact Heap.lt_size ho
  obtain ⟨S', hw⟩ := S.newIts (its := [(s.heap.objs.size + 2, _), (s.heap.objs.size + 4, _), (s.heap.objs.size + 3, _), (s.heap.objs.size, o1), (s.heap.objs.size + 1, o2)]) (h' := h') (t' := s.toks) (fun b o e => hk b o e) (by simp) (fun p hp => by
    simp only [List.mem_cons, List.not_mem_nil, or_false] at hp
    rcases hp with rfl | rfl | rfl | rfl | rfl
    · exact ⟨none_at_size _ (by show _ ≤ s.heap.objs.size + 2; omega), hTI⟩
    · exact ⟨none_at_size _ (by show _ ≤ s.heap.objs.size + 4; omega), hz⟩
    · exact ⟨none_at_size _ (by show _ ≤ s.heap.objs.size + 3; omega), hTO⟩
    · exact ⟨none_at_size _ (Nat.le_refl _), ho1⟩
    · exact ⟨none_at_size _ (Nat.le_succ _), ho2⟩)
  obtain ⟨g', le, S2, hgT⟩ := S'.freeze (pre := []) rfl (hw _ (.head _))
  have W := (WalksT.zip2 (prog := prog) (w := w) hA (s.heap.objs.size + 4) (s.heap.objs.size + 2) (s.heap.objs.size + 3) s.heap.objs.size (s.heap.objs.size + 1) l1 l2
    (by constructor <;> refine adr_ne ?_ <;> omega) xs.toArray ys.toArray).toU
  have st0 := And.intro hz (And.intro hTI (And.intro (show ∃ a b, IsPair h' (s.heap.objs.size + 3) a b from ⟨_, _, hTO⟩) (And.intro hi1 (And.intro hi2 (And.intro (isList_up hl1 S'.keep) (isList_up hl2 S'.keep))))))
  refine W.self 0 _ _ _ st0 ?_
  refine h _ [(s.heap.objs.size + 4, _), (s.heap.objs.size + 3, _), (s.heap.objs.size, o1), (s.heap.objs.size + 1, o2)] g' _ _ le rfl (fun elts k pos => Itr.mono ⟨_, _, _, KTurns.ofWalksU W, fun i h hs b hb => ?_, st0, fun b hb => ?_, fun s Q st hq => W.self 0 s Q _ st hq⟩ (by simp) fun i v h hp => ?_) (fun b hb => hw b (.tail _ hb)) S2
  · obtain ⟨x1, x2, ⟨_, _, x3⟩, ⟨_, x4, _⟩, ⟨_, x5, _⟩, _⟩ := hs
    simp only [List.map_cons, List.map_nil, List.mem_cons, List.not_mem_nil, or_false] at hb
    rcases hb with rfl | rfl | rfl | rfl
    · exact ⟨_, x1⟩
    · exact ⟨_, x3⟩
    · exact ⟨_, x4⟩
    · exact ⟨_, x5⟩
  · simp only [List.mem_cons, List.not_mem_nil, or_false] at hb
    rcases hb with rfl | rfl | rfl | rfl | rfl | rfl | rfl
    · exact .inl (by simp)
    · exact .inr ⟨_, hgT⟩
    · exact .inl (by simp)
    · exact .inl (by simp)
    · exact .inl (by simp)
    · obtain ⟨o, ho, _⟩ := hl1
      exact .inr ⟨o, le _ _ ho⟩
    · obtain ⟨o, ho, _⟩ := hl2
      exact .inr ⟨o, le _ _ ho⟩
  · obtain ⟨T, vals, rfl, ⟨x, y, hx, hy, rfl⟩, hT⟩ := hp
    exact ⟨T, x, y, rfl, by simpa using hx, by simpa using hy, hT⟩
end
end Mine
end
section
set_option genInjectivity false
set_option genSizeOf false
set_option maxRecDepth 100000
set_option maxHeartbeats 1000000
namespace Mine
section
variable {prog : Program} {w : World} {A : Around} {E : Value → Shared → Prop} {s : Shared} {K : Frag} {c : Cs} {L : Addr} {g : Heap} {own its : List (Addr × Obj)} {lm : List (Str × Value)} {env : Env}
theorem k_neg {i : Int} {k : Nat} {pos pos' : Pos} {Q : Value → Shared → Prop} (S : St c L g own lm s) (h : ∀ t s', St c L g own lm s' → Q (.int (-i) t) s') : wpAny (model prog w) A (eval (.UnaryOp .USub (.Constant (.int i) k pos) pos') env) Q E s :=
  PyProof.Rows.UnaryOp_ (wpAny_Constant_int (PyProof.Rows.neg_int (h _ _ (S.tok (t' := s.toks + 1 + 1)))))
theorem l_loc {x : Str} {v : Value} {Q : Value → Shared → Prop} (S : St c L g own lm s) (hv : lm.lookup x = some v) (hx : env.kindOf x = some .local) (hL : env.locals = L) (h : Q v s) (hk : env.scope.kind = .function := by rfl) :
    wpAny (model prog w) A (loadName env x) Q E s := by
  obtain ⟨m, hns, hm⟩ := S.ns
  exact wpAny_loadName_local hk hx (by rw [hL]; exact hns) (hm x v hv) h
theorem o_iadd {a b : Int} {t u : Tok} {Q : Value → Shared → Prop} (S : St c L g own lm s) (h : ∀ t s', St c L g own lm s' → Q (.int (a + b) t) s') : wpAny (model prog w) A (inplaceOp .Add (.int a t) (.int b u)) Q E s := PyProof.Rows.iadd_int (h _ _ S.tok)
end

/-! ## the model of what is told -/
abbrev Sp := List (List Int × List Str)
structure Md where
  cased : Int → Bool
  sim : Int → Nm → Option Int
  spe : Int → Nm → Option Sp
def codesL : List Int := [65, 97, 454, 223, 769]
structure MdOk (T : Md) : Prop where
  off : ∀ n, n ∉ codesL → T.cased n = false ∧ ∀ m, T.sim n m = none ∧ T.spe n m = none
  sp : ∀ n m Ls, T.spe n m = some Ls → SpOk Ls
  im : ∀ n m i, T.sim n m = some i → i ∈ codesL ++ [8072]
/-- a row -/
def Md.f (T : Md) (n : Int) (x : Str) : Option PyData :=
  if x = Str.ofString "cased" then some (.bool (T.cased n))
  else if x = Str.ofString "uc" then (T.sim n .uc).map .int
  else if x = Str.ofString "lc" then (T.sim n .lc).map .int
  else if x = Str.ofString "tc" then (T.sim n .tc).map .int
  else if x = Str.ofString "suc" then (T.spe n .uc).map fun Ls => .list (dS Ls)
  else if x = Str.ofString "slc" then (T.spe n .lc).map fun Ls => .list (dS Ls)
  else if x = Str.ofString "stc" then (T.spe n .tc).map fun Ls => .list (dS Ls)
  else none
theorem f_cased (T : Md) (n : Int) : T.f n (Str.ofString "cased") = some (.bool (T.cased n)) := if_pos rfl
theorem f_s (T : Md) (n : Int) (m : Nm) : T.f n m.s = (T.sim n m).map .int := by
  unfold Md.f Nm.s
  cases m
  · rw [if_neg (by decide), if_pos rfl]
  · rw [if_neg (by decide), if_neg (by decide), if_pos rfl]
  · rw [if_neg (by decide), if_neg (by decide), if_neg (by decide), if_pos rfl]
theorem f_ss (T : Md) (n : Int) (m : Nm) : T.f n m.ss = (T.spe n m).map fun Ls => .list (dS Ls) := by
  unfold Md.f Nm.ss
  cases m
  · rw [if_neg (by decide), if_neg (by decide), if_neg (by decide), if_neg (by decide), if_pos rfl]
  · rw [if_neg (by decide), if_neg (by decide), if_neg (by decide), if_neg (by decide), if_neg (by decide), if_pos rfl]
  · rw [if_neg (by decide), if_neg (by decide), if_neg (by decide), if_neg (by decide), if_neg (by decide), if_neg (by decide), if_pos rfl]
theorem f_out (T : Md) (n : Int) (x : Str) (h : x ∉ nms7) : T.f n x = none := by
  unfold Md.f
  simp only [nms7, List.mem_cons, List.not_mem_nil, or_false, not_or] at h
  obtain ⟨h1, h2, h3, h4, h5, h6, h7⟩ := h
  rw [if_neg h1, if_neg h2, if_neg h3, if_neg h4, if_neg h5, if_neg h6, if_neg h7]
/-- what the database tells -/
def Md.F (T : Md) (x : Str) (n : Int) : PyData := (T.f n x).getD (dfl x)
theorem nm_s (m : Nm) : m.s ∈ nms7 := by cases m <;> decide
theorem nm_ss (m : Nm) : m.ss ∈ nms7 := by cases m <;> decide
theorem cased_7 : Str.ofString "cased" ∈ nms7 := by decide
theorem F_cased (T : Md) (n : Int) : T.F (Str.ofString "cased") n = .bool (T.cased n) := by unfold Md.F; rw [f_cased]; rfl
theorem F_s (T : Md) (n : Int) (m : Nm) : T.F m.s n = match T.sim n m with | none => .none | some i => .int i := by
  unfold Md.F
  rw [f_s]
  cases T.sim n m with
  | none => cases m <;> rfl
  | some i => rfl
theorem F_ss (T : Md) (n : Int) (m : Nm) : T.F m.ss n = match T.spe n m with | none => .tuple [] | some Ls => .list (dS Ls) := by
  unfold Md.F
  rw [f_ss]
  cases T.spe n m with
  | none => cases m <;> rfl
  | some i => rfl
def Md.simp (T : Md) (n : Int) : Nm → Int
  | .uc => (T.sim n .uc).getD n
  | .lc => (T.sim n .lc).getD n
  | .tc => (T.sim n .tc).getD ((T.sim n .uc).getD n)
/-- the first special case that fits -/
def spec1 (Ls : Sp) (base : Str) : Option (List Int) := (Ls.find? fun p => !p.2.isEmpty && p.2.all (· == base)).map (·.1)
def spec0 (Ls : Sp) : Option (List Int) := (Ls.find? fun p => p.2.isEmpty).map (·.1)
def spec (Ls : Sp) (base : Str) : Option (List Int) := (spec1 Ls base).or (spec0 Ls)
def Md.full (T : Md) (n : Int) (m : Nm) (base : Str) : List Int := (spec ((T.spe n m).getD []) base).getD [T.simp n m]
end Mine
end
section
set_option maxRecDepth 100000
set_option maxHeartbeats 1000000
namespace Mine
section
variable {prog : Program} {w : World} {A : Around} {s : Shared} {K : Frag} {g : Heap}
theorem kn_sub {g : Heap} {kvs} (h : Kn g kvs (nmsT.map (·, .tuple []) ++ nmsN.map (·, .none) ++ nmsF.map (·, .bool false))) : Kn g kvs (nms7.map fun x => (x, dfl x)) := h.sub fun p hp => by
  simp only [nms7, List.map_cons, List.map_nil, List.mem_cons, List.not_mem_nil, or_false] at hp
  have e1 : dfl (Str.ofString "cased") = .bool false := rfl
  have e2 : dfl (Str.ofString "uc") = .none := rfl
  have e3 : dfl (Str.ofString "lc") = .none := rfl
  have e4 : dfl (Str.ofString "tc") = .none := rfl
  have e5 : dfl (Str.ofString "suc") = .tuple [] := rfl
  have e6 : dfl (Str.ofString "slc") = .tuple [] := rfl
  have e7 : dfl (Str.ofString "stc") = .tuple [] := rfl
  rw [e1, e2, e3, e4, e5, e6, e7] at hp
  rcases hp with rfl | rfl | rfl | rfl | rfl | rfl | rfl
  · exact List.mem_append_right _ (List.mem_map.mpr ⟨_, by decide, rfl⟩)
  · exact List.mem_append_left _ (List.mem_append_right _ (List.mem_map.mpr ⟨_, by decide, rfl⟩))
  · exact List.mem_append_left _ (List.mem_append_right _ (List.mem_map.mpr ⟨_, by decide, rfl⟩))
  · exact List.mem_append_left _ (List.mem_append_right _ (List.mem_map.mpr ⟨_, by decide, rfl⟩))
  · exact List.mem_append_left _ (List.mem_append_left _ (List.mem_map.mpr ⟨_, by decide, rfl⟩))
  · exact List.mem_append_left _ (List.mem_append_left _ (List.mem_map.mpr ⟨_, by decide, rfl⟩))
  · exact List.mem_append_left _ (List.mem_append_left _ (List.mem_map.mpr ⟨_, by decide, rfl⟩))
theorem daI_spec (X : Fns K) (Y : Cls K) (G : Gl K g) (hg : Le g s.heap) (hA : Rm A 6) {x dx : Addr} {od : Obj} (hx : g.get? x = some (instObj Y.da dx)) (ha : AtD od [])
    (hm : s.heap.get? dx = some od) (hoff : g.get? dx = none) {R : Result → Shared → Prop}
    (h : ∀ g' s' od' M, Aft s g [dx] g' [(M, edict), (dx, od')] s' → DaS prog w Y g' x dx M od' → R (.ok (.ret .none)) s') : codeAny (model prog w) A (.call (.ref Y.daI) ⟨[.ref x], []⟩) R s := by
  refine enter (own := [(dx, od)]) (binds := [(Str.ofString "self", .ref x)]) (lm := [(Str.ofString "self", .ref x)]) Y.hdaI.s G hg (by have := hA.d; omega) (fun p hp => by rw [List.mem_singleton.mp hp]; exact hm) (by simp) (fun a ha => by rw [List.mem_singleton.mp ha]; exact hoff) (fun _ _ _ _ _ _ => BindsTo.of_eq rfl) (by decide) ⟨.inl rfl, trivial⟩ ⟨rfl, trivial⟩ (fun L cdv cs s₁ hz => ?_) rfl rfl rfl
  intro envz Az cz lmz S Qf hFr hFn
  cases hz
  replace S : St _ L g [(dx, od)] _ _ := S
  (repeat' (walk_at "x"))
  refine call_fn0 S G X.hdflts.n X.hdflts.k rfl (callC (dflts_spec X G S.keep ((hA.deeper _).le (by omega)) fun F o kvs g1 s A' hF hFo ho hkn => ?_))
  replace S := S.back0 A'
  replace G := G.up A'.le
  replace hx := A'.le _ _ hx
  (repeat' (walk_at "x"))
  refine a_set S G Y.daK Y.da1 hx (pre := []) rfl ha (by simp) fun od s ha S => ?_
  replace ha : AtD od [(Str.ofString "defaults", .ref F)] := ha
  (repeat' (walk_at "x"))
  refine d_empty S G fun M s hM hMw S => ?_
  (repeat' (walk_at "x"))
  refine a_set S G Y.daK Y.da2 hx (pre := [(M, edict)]) rfl ha (by simp) fun od s ha S => ?_
  replace ha : AtD od [(Str.ofString "defaults", .ref F), (Str.ofString "maps", .ref M)] := ha
  (repeat' (walk_at "x"))
  refine d_empty S G fun P s hP hPw S => ?_
  replace S := S.dropH hPw
  (repeat' (walk_at "x"))
  refine a_set S G Y.daK Y.da3 hx (pre := [(M, edict)]) rfl ha (by simp) fun od s ha S => ?_
  replace ha : AtD od [(Str.ofString "defaults", .ref F), (Str.ofString "maps", .ref M), (Str.ofString "properties", .ref P)] := ha
  (repeat' (walk_at "x"))
  refine d_empty S G fun P s hP hPw S => ?_
  replace S := S.dropH hPw
  (repeat' (walk_at "x"))
  refine a_set S G Y.daK Y.da4 hx (pre := [(M, edict)]) rfl ha (by simp) fun od s ha S => ?_
  (repeat' (walk_at "x"))
  exact h _ _ _ M S.aft ⟨hx, ⟨F, _, _, ha, hF, o, kvs, hFo, ho, kn_sub hkn⟩, hM⟩

end
end Mine
end
section
set_option maxRecDepth 100000
set_option maxHeartbeats 1000000
namespace Mine
section
variable {prog : Program} {w : World} {A : Around} {s : Shared} {K : Frag} {g : Heap}
theorem initB {x : Addr} {R : Result → Shared → Prop} {s : Shared} (h : R (.ok (.ret (.ref x))) s) : InitBack x R (.ok (.ret .none)) s := ⟨rfl, h⟩
theorem find_split (ms : List Mp) (x : Str) {p : Mp} (h : ms.find? (fun p => p.name == x) = some p) : ∃ pre post, ms = pre ++ p :: post ∧ p.name = x ∧ ∀ q ∈ pre, q.name ≠ x := by
  obtain ⟨h1, pre, post, h2, h3⟩ := List.find?_eq_some_iff_append.mp h
  exact ⟨pre, post, h2, beq_iff_eq.mp h1, fun q hq e => by have := h3 q hq; simp [e] at this⟩
theorem find_none (ms : List Mp) (x : Str) (h : ms.find? (fun p => p.name == x) = none) : ∀ q ∈ ms, q.name ≠ x := fun q hq e => by
  have := List.find?_eq_none.mp h q hq
  simp [e] at this
theorem mapOf_spec (X : Fns K) (Y : Cls K) (G : Gl K g) (hg : Le g s.heap) (hA : Rm A 6) {xd dd M : Addr} {od : Obj} {ms : List Mp} {own : List (Addr × Obj)} {x : Str} {t : Tok} (H : DaS prog w Y g xd dd M od) (hd : g.get? dd = some od) (D : DaM prog w Y g M ms own) (hx7 : x ∈ nms7) (hz : ms.length ≤ 1000)
    (how : ∀ p ∈ own, s.heap.get? p.1 = some p.2) (hnd : (own.map (·.1)).Nodup) (hoff : ∀ a ∈ own.map (·.1), g.get? a = none) {R : Result → Shared → Prop}
    (h : ∀ own' g' s' pre p post, Aft s g (own.map (·.1)) g' own' s' → DaM prog w Y g' M (pre ++ p :: post) own' → (∀ q ∈ pre, q.name ≠ x) → p.name = x → (pre ++ p :: post = ms ∨ (pre = ms ∧ post = [] ∧ p.rows = [(0, dfl x)])) → R (.ok (.ret (.ref p.x))) s') :
    codeAny (model prog w) A (.call (.ref Y.daM) ⟨[.ref xd, .str x t], []⟩) R s := by
  refine enter (binds := [(Str.ofString "self", .ref xd), (Str.ofString "name", .str x t)]) (lm := [(Str.ofString "self", .ref xd), (Str.ofString "name", .str x t)]) Y.hdaM.s G hg (by have := hA.d; omega) how hnd hoff (fun _ _ _ _ _ _ => BindsTo.of_eq rfl) (by decide) ⟨.inl rfl, .inl rfl, trivial⟩ ⟨rfl, rfl, trivial⟩ (fun L cdv cs s₁ hz => ?_) rfl rfl rfl
  intro envz Az cz lmz S Qf hFr hFn
  cases hz
  replace S : St _ L g own _ _ := S
  obtain ⟨hxd, ⟨F, aa, ab, ha, hF, oF, kF, hoF, hdF, hkn⟩, hM⟩ := H
  obtain ⟨⟨oM, rfl, hoM⟩, hok⟩ := D
  (repeat' (walk_at "x"))
  refine a_get S G Y.daK Y.da2 hxd (S.keep _ _ hd) ha rfl rfl fun s S => ?_
  refine d_notIn S hM (own_dict S (.head _) hoM) (sk _ _) fun s S => ?_
  (repeat' (walk_at "x"))
  cases e : ms.find? (fun p => p.name == x) with
  | some p =>
    have hv : valueAt (keysOf ms) x = some (.ref p.x) := by rw [find_mp, e]; rfl
    refine ite_nt (by rw [hv]; rfl) ?_
    (repeat' (walk_at "x"))
    refine a_get S G Y.daK Y.da2 hxd (S.keep _ _ hd) ha rfl rfl fun s S => ?_
    (repeat' (walk_at "x"))
    refine d_item S (own_dict S (.head _) hoM) (sk _ _) hv (fun s S => ?_) (by with_unfolding_all rfl)
    obtain ⟨pre, post, rfl, hn, hp⟩ := find_split ms x e
    (repeat' (walk_at "x"))
    exact h _ g _ pre p post S.aft ⟨⟨oM, rfl, hoM⟩, hok⟩ hp hn (.inl rfl)
  | none =>
    have hv : valueAt (keysOf ms) x = none := by rw [find_mp, e]; rfl
    have hfr := find_none ms x e
    refine ite_nf (by rw [hv]; rfl) ?_
    (repeat' (walk_at "x"))
    refine call_fn S G Y.rmN Y.rmKp rfl ?_
    (repeat' (walk_at "x"))
    refine a_get S G Y.daK Y.da1 hxd (S.keep _ _ hd) ha rfl rfl fun s S => ?_
    obtain ⟨dv, hdv, rdv⟩ := hkn (x, dfl x) (List.mem_map.mpr ⟨x, hx7, rfl⟩)
    have hFd : g.DictOf (PySem.strKind prog w) F kF := Heap.dictOf_iff.mpr ⟨oF, hoF, hdF⟩
    refine gm_get (dictOf_up hFd S.keep) ?_
    refine dg1 (PySem.strKind prog w) S hF ?_
    (repeat' (walk_at "x"))
    refine ⟨_, _, _, x, kF, S, sk _ _, dictOf_up hFd S.keep, fun s S => ?_⟩
    rw [hdv]
    (repeat' (walk_at "x"))
    refine kin_and S G (mk_inst S G Y.rmK Y.hrmI.n Y.hrmI.t fun xm dx g1 s le hxm hdx S => ?_)
    replace G := G.up le
    replace rdv := rdv.up le
    replace hxd := le _ _ hxd
    replace hd := le _ _ hd
    replace S : St _ L _ ([(dx, emptyDict)] ++ _) _ _ := S
    refine rmI_spec X Y G S.keep ((hA.deeper _).le (n := 5) (by omega)).init hxm AtD.empty rdv (S.ow (dx, emptyDict) (.head _)) (S.offo dx (.head _)) fun g2 s od2 A' hrm => ?_
    refine initB ?_
    replace S := S.back A'
    have le2 := A'.le
    replace G := G.up le2
    replace hxd := le2 _ _ hxd
    replace hd := le2 _ _ hd
    replace hxm := le2 _ _ hxm
    (repeat' (walk_at "x"))
    refine a_get S G Y.daK Y.da2 hxd (S.keep _ _ hd) ha rfl rfl fun s S => ?_
    (repeat' (walk_at "x"))
    refine d_set (pre := [(dx, od2)]) S rfl hoM (sk x t) (by unfold keysOf; rw [List.length_map]; omega) fun oM s hoM S => ?_
    have hst : stored (keysOf ms) x (.ref xm) = keysOf (ms ++ [⟨x, xm, dx, od2, dv, [(0, dfl x)]⟩]) := by
      unfold stored
      have : ¬ ((keysOf ms).any fun kv => decide (kv.1 = x)) = true := fun e => by
        obtain ⟨p, hp, e⟩ := List.any_eq_true.mp e
        exact valueAt_none_iff.mp hv (List.mem_map.mpr ⟨p, hp, of_decide_eq_true e⟩)
      rw [if_neg this]
      unfold keysOf
      rw [List.map_append]; rfl
    rw [hst] at hoM
    (repeat' (walk_at "x"))
    refine a_get S G Y.daK Y.da2 hxd (S.keep _ _ hd) ha rfl rfl fun s S => ?_
    (repeat' (walk_at "x"))
    have hv2 : valueAt (keysOf (ms ++ [⟨x, xm, dx, od2, dv, [(0, dfl x)]⟩])) x = some (.ref xm) := by rw [← hst, valueAt_store, if_pos rfl]
    refine d_item S (own_dict S (.tail _ (.head _)) hoM) (sk _ _) hv2 (fun s S => ?_) (by with_unfolding_all rfl)
    have S2 : St _ L g2 ((M, oM) :: (ms ++ [(⟨x, xm, dx, od2, dv, [(0, dfl x)]⟩ : Mp)]).map Mp.own) _ _ := S.perm (by
      rw [List.map_append]
      exact List.perm_append_comm (l₁ := (M, oM) :: ms.map Mp.own) (l₂ := [(dx, od2)]))
    (repeat' (walk_at "x"))
    refine h _ g2 _ ms ⟨x, xm, dx, od2, dv, [(0, dfl x)]⟩ [] S2.aft ⟨⟨oM, rfl, hoM⟩, fun p hp => ?_⟩ hfr rfl (.inr ⟨rfl, rfl, rfl⟩)
    rcases List.mem_append.mp hp with hp | hp
    · exact (hok p hp).up (le.trans le2)
    · rw [List.mem_singleton.mp hp]
      exact ⟨hxm, hrm, ⟨by simp, ⟨_, _, rfl⟩, fun q hq => by rw [List.mem_singleton.mp hq]; exact dfl_ok x⟩⟩

end
end Mine
end
section
set_option maxRecDepth 100000
set_option maxHeartbeats 1000000
namespace Mine
section
variable {prog : Program} {w : World} {A : Around} {s : Shared} {K : Frag} {g : Heap}
theorem gv_split {pre post : List Mp} {p : Mp} {x : Str} (hn : ∀ q ∈ pre, q.name ≠ x) (hp : p.name = x) (y : Str) (n : Int) : gv (pre ++ p :: post) y n = if y = x then rval p.rows n else gv (pre ++ post) y n := by
  unfold gv
  rw [List.find?_append, List.find?_append, List.find?_cons]
  by_cases h : y = x
  · subst h
    rw [if_pos rfl, List.find?_eq_none.mpr (fun q hq => by have := hn q hq; simp [this]), hp, beq_self_eq_true]
    rfl
  · rw [if_neg h, hp, beq_eq_false_iff_ne.mpr (fun e => h e.symm)]
theorem rval_one (d : PyData) {n : Int} (h : 0 ≤ n) : rval [(0, d)] n = d := by
  unfold rval cut
  rw [List.filter_cons_of_pos (by simpa using h)]
  rfl
theorem gv_made {ms pre post : List Mp} {p : Mp} {x : Str} (h : pre ++ p :: post = ms ∨ (pre = ms ∧ post = [] ∧ p.rows = [(0, dfl x)])) (hn : ∀ q ∈ pre, q.name ≠ x) (hp : p.name = x) (y : Str) {n : Int} (h0 : 0 ≤ n) : gv (pre ++ p :: post) y n = gv ms y n := by
  rcases h with rfl | ⟨rfl, rfl, e⟩
  · rfl
  · rw [gv_split hn hp, List.append_nil, e, rval_one _ h0]
    by_cases h : y = x
    · rw [if_pos h]
      unfold gv
      rw [List.find?_eq_none.mpr (fun q hq => by have := hn q hq; simp [h, this]), h]
    · rw [if_neg h]
theorem like_sound : ∀ a b, Vok a → Vok b → like a b = true → a = b := fun _ _ ha hb h => like_eq ha hb h
theorem daP_spec (X : Fns K) (Y : Cls K) (G : Gl K g) (hg : Le g s.heap) (hA : Rm A 15) {xd dd M : Addr} {od : Obj} {ms : List Mp} {own : List (Addr × Obj)} {x : Str} {t ta tb : Tok} {a : Int} {v : Value} {d : PyData} (H : DaS prog w Y g xd dd M od) (hd : g.get? dd = some od) (D : DaM prog w Y g M ms own) (hx7 : x ∈ nms7) (hz : ms.length ≤ 1000) (hrz : ∀ p ∈ ms, p.rows.length ≤ 1000)
    (h0 : 0 < a) (ha1 : a < 1114111) (hv : Rd g v d) (hk : Vok d)
    (how : ∀ p ∈ own, s.heap.get? p.1 = some p.2) (hnd : (own.map (·.1)).Nodup) (hoff : ∀ a ∈ own.map (·.1), g.get? a = none) {R : Result → Shared → Prop}
    (h : ∀ own' g' s' ms', Aft s g (own.map (·.1)) g' own' s' → DaM prog w Y g' M ms' own' → (∀ y n, 0 ≤ n → gv ms' y n = if y = x ∧ n = a then d else gv ms y n) → ms'.length ≤ ms.length + 1 → (∀ B, 1 ≤ B → (∀ p ∈ ms, p.rows.length ≤ B) → ∀ p ∈ ms', p.rows.length ≤ B + 2) → R (.ok (.ret .none)) s') :
    codeAny (model prog w) A (.call (.ref Y.daP) ⟨[.ref xd, .str x t, .int a ta, .int a tb, v], []⟩) R s := by
  refine enter (binds := [(Str.ofString "self", .ref xd), (Str.ofString "name", .str x t), (Str.ofString "first", .int a ta), (Str.ofString "last", .int a tb), (Str.ofString "value", v)]) (lm := [(Str.ofString "self", .ref xd), (Str.ofString "name", .str x t), (Str.ofString "first", .int a ta), (Str.ofString "last", .int a tb), (Str.ofString "value", v)]) Y.hdaP.s G hg (by have := hA.d; omega) how hnd hoff (fun _ _ _ _ _ _ => BindsTo.of_eq rfl) (by decide) ⟨.inl rfl, .inl rfl, .inl rfl, .inl rfl, .inl rfl, trivial⟩ ⟨rfl, rfl, rfl, rfl, rfl, trivial⟩ (fun L cdv cs s₁ hz => ?_) rfl rfl rfl
  intro envz Az cz lmz S Qf hFr hFn
  cases hz
  replace S : St _ L g own _ _ := S
  obtain ⟨hxd, ⟨F, aa, ab, ha, hF, oF, kF, hoF, hdF, hkn⟩, hM⟩ := id H
  (repeat' (walk_at "x"))
  refine a_meth S G Y.daK Y.hdaM hxd (S.keep _ _ hd) ha rfl ?_
  refine call_m Y.hdaM.k G ?_
  (repeat' (walk_at "x"))
  refine kin_and S G (callC (mapOf_spec X Y G S.keep ((hA.deeper _).le (by omega)) H hd D hx7 hz S.ow S.nd S.offo fun own' g1 s pre p post A' D' hn hp hms => ?_))
  replace S := S.backA A'
  have le := A'.le
  replace G := G.up le
  replace hv := hv.up le
  obtain ⟨⟨oM, rfl, hoM⟩, hok⟩ := D'
  have mp : MpOk Y g1 p := hok p (by simp)
  obtain ⟨la, lb, hap, i1, i2⟩ := id mp.rd
  have hrp : p.rows.length ≤ 1000 := by
    rcases hms with e | ⟨_, _, e⟩
    · exact hrz p (by rw [← e]; simp)
    · rw [e]; simp
  have S2 : St _ L g1 ([(p.dx, p.od)] ++ ((M, oM) :: (pre ++ post).map Mp.own)) _ _ := S.perm (by
    rw [List.map_append, List.map_append, List.map_cons]
    exact (List.perm_middle (l₁ := (M, oM) :: pre.map Mp.own)).symm)
  clear S
  have S := S2
  clear S2
  (repeat' (walk_at "x"))
  refine a_meth S G Y.rmK Y.hrmP mp.hx (S.ow (p.dx, p.od) (.head _)) hap rfl ?_
  refine call_m Y.hrmP.k G ?_
  (repeat' (walk_at "x"))
  refine kin_and S G (callC (rmP_spec X Y G S.keep ((hA.deeper _).le (by omega)) mp.hx (S.ow (p.dx, p.od) (.head _)) (S.offo _ (.head _)) mp.rd mp.rw hrp h0 (Int.le_refl _) ha1 hv hk fun od' g2 s A2 hrd => ?_))
  replace S := S.back A2
  have le2 := A2.le
  (repeat' (walk_at "x"))
  obtain ⟨p', hp'⟩ : ∃ p' : Mp, p' = ⟨p.name, p.x, p.dx, od', p.dv, rput p.rows a a d like⟩ := ⟨_, rfl⟩
  have S2 : St _ L g2 ((M, oM) :: (pre ++ p' :: post).map Mp.own) _ _ := S.perm (by
    rw [List.map_append, List.map_append, List.map_cons, hp']
    exact List.perm_middle (l₁ := (M, oM) :: pre.map Mp.own))
  have hkeys : keysOf (pre ++ p' :: post) = keysOf (pre ++ p :: post) := by
    unfold keysOf
    rw [List.map_append, List.map_append, List.map_cons, List.map_cons, hp']
  have hrw := rput_RW (b := a) mp.rw (lk := like) hk h0 (Int.le_refl _)
  (repeat' (walk_at "x"))
  refine h _ g2 _ (pre ++ p' :: post) S2.aft ⟨⟨oM, rfl, by rw [hkeys]; exact hoM⟩, fun q hq => ?_⟩ (fun y n hn0 => ?_) ?_ (fun B hB hall q hq => ?_)
  · rcases List.mem_append.mp hq with hq | hq
    · exact (hok q (List.mem_append_left _ hq)).up le2
    · rcases List.mem_cons.mp hq with rfl | hq
      · subst hp'
        exact ⟨le2 _ _ mp.hx, hrd, hrw⟩
      · exact (hok q (List.mem_append_right _ (.tail _ hq))).up le2
  · rw [← gv_made hms hn hp y hn0, gv_split hn hp, gv_split hn (p := p') (by rw [hp']; exact hp)]
    have hr : rval p'.rows n = if n = a then d else rval p.rows n := by
      rw [hp']
      show rval (rput p.rows a a d like) n = _
      rw [rput_get mp.rw like_sound hk h0 (Int.le_refl _) hn0]
      by_cases e : n = a
      · rw [if_pos e, if_pos ⟨by omega, by omega⟩]
      · rw [if_neg e, if_neg (by omega)]
    rw [hr]
    by_cases e1 : y = x
    · rw [if_pos e1, if_pos e1]
      by_cases e2 : n = a
      · rw [if_pos e2, if_pos ⟨e1, e2⟩]
      · rw [if_neg e2, if_neg (fun q => e2 q.2)]
    · rw [if_neg e1, if_neg e1, if_neg (fun q => e1 q.1)]
  · have : (pre ++ p :: post).length ≤ ms.length + 1 := by
      rcases hms with e | ⟨rfl, rfl, _⟩
      · rw [e]; omega
      · simp
    rw [List.length_append, List.length_cons] at this ⊢
    (repeat' (walk_at "x"))
    exact this
  · have hall' : ∀ q ∈ pre ++ p :: post, q.rows.length ≤ B := by
      rcases hms with e | ⟨rfl, rfl, e⟩
      · rw [e]; exact hall
      · intro q hq
        rcases List.mem_append.mp hq with hq | hq
        · exact hall q hq
        · rw [List.mem_singleton.mp hq, e]; simpa using hB
    rcases List.mem_append.mp hq with hq | hq
    · have := hall' q (List.mem_append_left _ hq); omega
    · rcases List.mem_cons.mp hq with rfl | hq
      · have h1 := hall' p (by simp)
        have h2 := rput_len2 p.rows a a (by omega) d like
        rw [hp']
        show (rput p.rows a a d like).length ≤ _
        omega
      · have := hall' q (List.mem_append_right _ (.tail _ hq)); omega
theorem daG_spec (X : Fns K) (Y : Cls K) (G : Gl K g) (hg : Le g s.heap) (hA : Rm A 5) {xd : Addr} {F : Str → Int → PyData} {x : Str} {t tn : Tok} {n : Int} (H : Dat prog w Y g xd F) (hx7 : x ∈ nms7) (hn : 0 ≤ n) {R : Result → Shared → Prop}
    (h : ∀ v g' s', Aft s g [] g' [] s' → Rd g' v (F x n) → R (.ok (.ret v)) s') :
    codeAny (model prog w) A (.call (.ref Y.daG) ⟨[.ref xd, .str x t, .int n tn], []⟩) R s := by
  refine enter0 [(Str.ofString "self", .ref xd), (Str.ofString "name", .str x t), (Str.ofString "code", .int n tn)] Y.hdaG.s G hg (hA.le (by omega)) (fun _ _ _ _ _ _ => rfl) (by decide) ⟨.inl rfl, .inl rfl, .inl rfl, trivial⟩ ⟨rfl, rfl, rfl, trivial⟩ (fun L cdv cs s₁ hz => ?_) rfl rfl rfl
  intro envz Az cz lmz S Qf hFr hFn
  cases hz
  obtain ⟨dd, M, od, ms, oM, ⟨hxd, ⟨F0, aa, ab, ha, hF, oF, kF, hoF, hdF, hkn⟩, hM⟩, hd, hoM, hdM, hok, hval⟩ := H
  have hMd : g.DictOf (PySem.strKind prog w) M (keysOf ms) := Heap.dictOf_iff.mpr ⟨oM, hoM, hdM⟩
  have hFd : g.DictOf (PySem.strKind prog w) F0 kF := Heap.dictOf_iff.mpr ⟨oF, hoF, hdF⟩
  have hgv := hval x hx7 n hn
  (repeat' (walk_at "x"))
  refine a_get S G Y.daK Y.da2 hxd (S.keep _ _ hd) ha rfl rfl fun s S => ?_
  refine d_in S hM (dictOf_up hMd S.keep) (sk _ _) fun s S => ?_
  (repeat' (walk_at "x"))
  cases e : ms.find? (fun p => p.name == x) with
  | some p =>
    have hv : valueAt (keysOf ms) x = some (.ref p.x) := by rw [find_mp, e]; rfl
    refine ite_is (by rw [hv]; rfl) ?_
    (repeat' (walk_at "x"))
    refine a_get S G Y.daK Y.da2 hxd (S.keep _ _ hd) ha rfl rfl fun s S => ?_
    (repeat' (walk_at "x"))
    refine d_item S (dictOf_up hMd S.keep) (sk _ _) hv (fun s S => ?_) (by with_unfolding_all rfl)
    obtain ⟨mp, hpd, hpz⟩ := hok p (List.mem_of_find?_eq_some e)
    obtain ⟨la, lb, hap, i1, i2⟩ := id mp.rd
    refine a_meth S G Y.rmK Y.hrmG mp.hx (S.keep _ _ hpd) hap rfl ?_
    refine call_m Y.hrmG.k G ?_
    (repeat' (walk_at "x"))
    refine kin_and S G (callC (rmG_spec X Y G S.keep ((hA.deeper _).le (by omega)) mp.hx hpd mp.rd mp.rw hpz hn fun v g2 s A2 hv => ?_))
    replace S := S.back0 A2
    (repeat' (walk_at "x"))
    refine h v g2 s S.aft ?_
    rw [← hgv]
    unfold gv
    rw [e]
    exact hv
  | none =>
    have hv : valueAt (keysOf ms) x = none := by rw [find_mp, e]; rfl
    refine ite_isnt (by rw [hv]; rfl) ?_
    (repeat' (walk_at "x"))
    refine a_get S G Y.daK Y.da1 hxd (S.keep _ _ hd) ha rfl rfl fun s S => ?_
    obtain ⟨dv, hdv, rdv⟩ := hkn (x, dfl x) (List.mem_map.mpr ⟨x, hx7, rfl⟩)
    refine gm_get (dictOf_up hFd S.keep) ?_
    refine dg1 (PySem.strKind prog w) S hF ?_
    (repeat' (walk_at "x"))
    refine ⟨_, _, _, x, kF, S, sk _ _, dictOf_up hFd S.keep, fun s S => ?_⟩
    rw [hdv]
    (repeat' (walk_at "x"))
    refine h dv g s S.aft ?_
    rw [← hgv]
    unfold gv
    rw [e]
    exact rdv

end
end Mine
end
section
set_option maxRecDepth 100000
set_option maxHeartbeats 1000000
namespace Mine
section
variable {prog : Program} {w : World} {A : Around} {s : Shared} {K : Frag} {g : Heap}
theorem dat_meth {pl : Sem Bool} {E : Value → Shared → Prop} {c : Cs} {L : Addr} {own : List (Addr × Obj)} {lm : List (Str × Value)} {Y : Cls K} {xd : Addr} {F : Str → Int → PyData} {Q : Value × List Value → Shared → Prop} (S : St c L g own lm s) (G : Gl K g) (H : Dat prog w Y g xd F) (h : Q (.ref Y.daG, [.ref xd]) s) :
    wpAny (model prog w) A (getMethod (.ref xd) (Str.ofString "get") pl) Q E s := by
  obtain ⟨dd, M, od, ms, oM, ⟨hxd, ⟨F0, aa, ab, ha, hF, oF, kF, hoF, hdF, hkn⟩, hM⟩, hd, _⟩ := H
  exact a_meth S G Y.daK Y.hdaG hxd (S.keep _ _ hd) ha rfl h
theorem supper_spec (X : Fns K) (Y : Cls K) (G : Gl K g) (hg : Le g s.heap) (hA : Rm A 6) {xd : Addr} {T : Md} {n : Int} {tn : Tok} (H : Dat prog w Y g xd T.F) (hn : 0 ≤ n) {R : Result → Shared → Prop}
    (h : ∀ t g' s', Aft s g [] g' [] s' → R (.ok (.ret (.int (T.simp n .uc) t))) s') :
    codeAny (model prog w) A (.call (.ref X.supper) ⟨[.int n tn, .ref xd], []⟩) R s := by
  refine enter0 [(Str.ofString "code", .int n tn), (Str.ofString "data", .ref xd)] X.hsupper.s G hg (hA.le (by omega)) (fun _ _ _ _ _ _ => rfl) (by decide) ⟨.inl rfl, .inl rfl, trivial⟩ ⟨rfl, rfl, trivial⟩ (fun L cdv cs s₁ hz => ?_) rfl rfl rfl
  intro envz Az cz lmz S Qf hFr hFn
  cases hz
  (repeat' (walk_at "x"))
  refine dat_meth S G H ?_
  refine call_m Y.hdaG.k G ?_
  (repeat' (walk_at "x"))
  refine kin_and S G (callC (daG_spec X Y G S.keep ((hA.deeper _).le (by omega)) H (nm_s .uc) hn fun v g1 s A' hv => ?_))
  replace S := S.back0 A'
  rw [F_s] at hv
  cases e : T.sim n .uc with
  | none =>
    rw [e] at hv
    obtain ⟨as, hv⟩ := hv
    cases hv
    (repeat' (walk_at "x"))
    have := h tn g1 _ S.aft
    unfold Md.simp at this
    rw [e] at this
    (repeat' (walk_at "x"))
    exact this
  | some i =>
    rw [e] at hv
    obtain ⟨t, rfl⟩ := rd_int hv
    (repeat' (walk_at "x"))
    have := h t g1 _ S.aft
    unfold Md.simp at this
    rw [e] at this
    (repeat' (walk_at "x"))
    exact this
theorem slower_spec (X : Fns K) (Y : Cls K) (G : Gl K g) (hg : Le g s.heap) (hA : Rm A 6) {xd : Addr} {T : Md} {n : Int} {tn : Tok} (H : Dat prog w Y g xd T.F) (hn : 0 ≤ n) {R : Result → Shared → Prop}
    (h : ∀ t g' s', Aft s g [] g' [] s' → R (.ok (.ret (.int (T.simp n .lc) t))) s') :
    codeAny (model prog w) A (.call (.ref X.slower) ⟨[.int n tn, .ref xd], []⟩) R s := by
  refine enter0 [(Str.ofString "code", .int n tn), (Str.ofString "data", .ref xd)] X.hslower.s G hg (hA.le (by omega)) (fun _ _ _ _ _ _ => rfl) (by decide) ⟨.inl rfl, .inl rfl, trivial⟩ ⟨rfl, rfl, trivial⟩ (fun L cdv cs s₁ hz => ?_) rfl rfl rfl
  intro envz Az cz lmz S Qf hFr hFn
  cases hz
  (repeat' (walk_at "x"))
  refine dat_meth S G H ?_
  refine call_m Y.hdaG.k G ?_
  (repeat' (walk_at "x"))
  refine kin_and S G (callC (daG_spec X Y G S.keep ((hA.deeper _).le (by omega)) H (nm_s .lc) hn fun v g1 s A' hv => ?_))
  replace S := S.back0 A'
  rw [F_s] at hv
  cases e : T.sim n .lc with
  | none =>
    rw [e] at hv
    obtain ⟨as, hv⟩ := hv
    cases hv
    (repeat' (walk_at "x"))
    have := h tn g1 _ S.aft
    unfold Md.simp at this
    rw [e] at this
    (repeat' (walk_at "x"))
    exact this
  | some i =>
    rw [e] at hv
    obtain ⟨t, rfl⟩ := rd_int hv
    (repeat' (walk_at "x"))
    have := h t g1 _ S.aft
    unfold Md.simp at this
    rw [e] at this
    (repeat' (walk_at "x"))
    exact this
theorem stitle_spec (X : Fns K) (Y : Cls K) (G : Gl K g) (hg : Le g s.heap) (hA : Rm A 7) {xd : Addr} {T : Md} {n : Int} {tn : Tok} (H : Dat prog w Y g xd T.F) (hn : 0 ≤ n) {R : Result → Shared → Prop}
    (h : ∀ t g' s', Aft s g [] g' [] s' → R (.ok (.ret (.int (T.simp n .tc) t))) s') :
    codeAny (model prog w) A (.call (.ref X.stitle) ⟨[.int n tn, .ref xd], []⟩) R s := by
  refine enter0 [(Str.ofString "code", .int n tn), (Str.ofString "data", .ref xd)] X.hstitle.s G hg (hA.le (by omega)) (fun _ _ _ _ _ _ => rfl) (by decide) ⟨.inl rfl, .inl rfl, trivial⟩ ⟨rfl, rfl, trivial⟩ (fun L cdv cs s₁ hz => ?_) rfl rfl rfl
  intro envz Az cz lmz S Qf hFr hFn
  cases hz
  (repeat' (walk_at "x"))
  refine dat_meth S G H ?_
  refine call_m Y.hdaG.k G ?_
  (repeat' (walk_at "x"))
  refine kin_and S G (callC (daG_spec X Y G S.keep ((hA.deeper _).le (by omega)) H (nm_s .tc) hn fun v g1 s A' hv => ?_))
  replace S := S.back0 A'
  rw [F_s] at hv
  cases e : T.sim n .tc with
  | none =>
    rw [e] at hv
    obtain ⟨as, hv⟩ := hv
    cases hv
    replace G := G.up A'.le
    (repeat' (walk_at "x"))
    refine call_fn S G X.hsupper.n X.hsupper.k rfl ?_
    (repeat' (walk_at "x"))
    refine kin_and S G (callC (supper_spec X Y G S.keep ((hA.deeper _).le (by omega)) (H.up A'.le) hn fun t g2 s A2 => ?_))
    replace S := S.back0 A2
    have := h t g2 _ S.aft
    unfold Md.simp at this ⊢
    rw [e] at this
    (repeat' (walk_at "x"))
    exact this
  | some i =>
    rw [e] at hv
    obtain ⟨t, rfl⟩ := rd_int hv
    (repeat' (walk_at "x"))
    have := h t g1 _ S.aft
    unfold Md.simp at this
    rw [e] at this
    (repeat' (walk_at "x"))
    exact this

end
end Mine
end
section
set_option maxRecDepth 100000
set_option maxHeartbeats 1000000
namespace Mine
section
variable {prog : Program} {w : World} {A : Around} {s : Shared} {K : Frag} {g : Heap}
theorem sls_upto {E : Value → Shared → Prop} {c : Cs} {L : Addr} {own : List (Addr × Obj)} {lm : List (Str × Value)} {value slice : PySem.Expr} {x : Str} {t uj : Tok} {j : Int} {Q : Value → Shared → Prop} (S : St c L g own lm s) (hz : x.length ≤ 1000000)
    (h : ∀ t' s', St c L g own lm s' → Q (.str (Txt.slice x none (some j)) t') s')
    (hs : subscripted slice false (.str x t) (.ref s.heap.objs.size) = operate [.ref s.heap.objs.size, .str x t] (getItem (.str x t) (.ref s.heap.objs.size)) := by with_unfolding_all rfl)
    (ht : ∀ r, letTemporaryGo value (.str x t) r = pure () := by intro _; with_unfolding_all rfl) :
    wpAny (model prog w) A (subscriptTail value slice (.str x t) (.ref s.heap.objs.size)) Q E { s with heap := s.heap.push { cls := .type "slice", data := .fields #[.none, .int j uj, .none] } } :=
  tail_of_ItemOn (SBG.sliceItem_ns (Fm := fun s => St c L g own lm s) (fun _ _ _ S => S.le fun _ _ e => Heap.get?_push_of_some _ e) S (fun s' t' S' => h t' s' S') (by have sl : sizeLine = 16777216 := rfl; omega)) hs ht
def brkS (cp : Nat) : Bool := Txt.contains (Str.ofString "-_") ⟨#[cp]⟩
def baseOf (x : Str) : Str := match x.cps.toList.findIdx? brkS with | none => x | some i => Txt.slice x none (some (i : Int))
theorem base_spec (X : Fns K) (G : Gl K g) (hg : Le g s.heap) (hA : Rm A 2) {x : Str} {t : Tok} (hz : x.length ≤ 1000) {R : Result → Shared → Prop}
    (h : ∀ t' g' s', Aft s g [] g' [] s' → R (.ok (.ret (.str (baseOf x) t'))) s') :
    codeAny (model prog w) A (.call (.ref X.base) ⟨[.str x t], []⟩) R s := by
  refine enter0 [(Str.ofString "language", .str x t)] X.hbase.s G hg (hA.le (by omega)) (fun _ _ _ _ _ _ => rfl) (by decide) ⟨.inl rfl, trivial⟩ ⟨rfl, trivial⟩ (fun L cdv cs s₁ hz => ?_) rfl rfl rfl
  intro envz Az cz lmz S Qf hFr hFn
  cases hz
  (repeat' (walk_at "x"))
  refine enum_itS hA.h S fun I its s wr hI It hW S => ?_
  refine forI (fun i g₁ own₁ lm₁ => own₁ = [] ∧ lm₁ = [(Str.ofString "language", .str x t)] ∧ ∀ j cp, x.cps[j]? = some cp → j < i → brkS cp = false)
    hI (It _ _ _) hW S ⟨rfl, rfl, fun _ _ _ h => absurd h (Nat.not_lt_zero _)⟩ ⟨rfl, trivial⟩ (fun i v g₁ own₁ lm₁ s its hi hP le J S Qn hQn hQc hQb hQr => ?_) (fun gE own₁ lm₁ s le S J => ?_)
  · obtain ⟨rfl, rfl, hJ⟩ := J
    refine St.letl S ?_
    intro lmz S
    obtain ⟨T, ti, cp, u, rfl, hcp, hT⟩ := hP
    replace G := G.up le
    refine asg2 hA.h S hT fun s S => ?_
    (repeat' (walk_at "x"))
    refine SB.contains ?_
    (repeat' (walk_at "x"))
    refine ite_b (fun hc => ?_) (fun hc => ?_)
    · (repeat' (walk_at "x"))
      refine sls_upto S (by omega) fun t' s S => ?_
      have e : baseOf x = Txt.slice x none (some (i : Int)) := by
        have : x.cps.toList.findIdx? brkS = some i := by
          have hl : i < x.cps.toList.length := by simpa using hi
          refine List.findIdx?_eq_some_iff_getElem.mpr ⟨hl, ?_, fun j hj => ?_⟩
          · have : x.cps.toList[i] = cp := by
              have := hcp
              rw [← Array.getElem?_toList, List.getElem?_eq_getElem hl] at this
              exact Option.some.inj this
            rw [this]; exact hc
          · have hl2 : j < x.cps.toList.length := Nat.lt_trans hj hl
            rw [hJ j x.cps.toList[j] (by rw [← Array.getElem?_toList, List.getElem?_eq_getElem hl2]) hj]
            exact Bool.false_ne_true
        unfold baseOf
        rw [this]
      have S' : St _ L g₁ ([] ++ []) _ s := S.drop (List.sublist_append_right _ _) (fun _ h => nomatch h)
      have := h t' g₁ s (S'.aft)
      rw [e] at this
      (repeat' (walk_at "x"))
      exact this
    · (repeat' (walk_at "x"))
      (repeat' (walk_at "x"))
      refine forEnd (own₂ := []) S (Le.refl _) ⟨rfl, rfl, fun j cp' h1 h2 => ?_⟩ ⟨rfl, trivial⟩
      rcases Nat.lt_succ_iff_lt_or_eq.mp h2 with h | h
      · exact hJ j cp' h1 h
      · subst h
        rw [hcp] at h1
        cases h1
        exact hc
  · obtain ⟨rfl, rfl, hJ⟩ := J
    refine St.letl S ?_
    intro lmz S
    (repeat' (walk_at "x"))
    have e : baseOf x = x := by
      have : x.cps.toList.findIdx? brkS = none := by
        rw [List.findIdx?_eq_none_iff]
        intro cp hcp
        obtain ⟨j, hj⟩ := List.mem_iff_getElem?.mp hcp
        rw [Array.getElem?_toList] at hj
        have hlt : j < x.cps.size := (Array.getElem?_eq_some_iff.mp hj).1
        exact hJ j cp hj hlt
      unfold baseOf
      rw [this]
    have := h t gE s S.aft
    rw [e] at this
    (repeat' (walk_at "x"))
    exact this

end
end Mine
end
section
set_option maxRecDepth 100000
set_option maxHeartbeats 1000000
namespace Mine
section
variable {prog : Program} {w : World} {A : Around} {s : Shared} {K : Frag} {g : Heap}
theorem len_s {E : Value → Shared → Prop} {c : Cs} {L : Addr} {own : List (Addr × Obj)} {lm : List (Str × Value)} {x : Str} {t : Tok} {Q : Value → Shared → Prop} (S : St c L g own lm s) (hz : x.length ≤ 1000000) (h : ∀ t s', St c L g own lm s' → Q (.int x.length t) s') : wpAny (model prog w) A (call (.builtin "len") [.str x t]) Q E s :=
  P.len_str (by omega) (h _ _ (S.tok (t' := s.toks + 1 + 1)))
theorem ctxt_spec (X : Fns K) (G : Gl K g) (hg : Le g s.heap) (hA : Rm A 2) {x : Str} {t : Tok} (hx : x = Str.ofString "tr" ∨ x = Str.ofString "lt") {v1 v2 v3 : Value} {R : Result → Shared → Prop}
    (h : ∀ g' s', Aft s g [] g' [] s' → R (.ok (.ret .none)) s') :
    codeAny (model prog w) A (.call (.ref X.ctxt) ⟨[.str x t, v1, v2, v3], []⟩) R s := by
  refine enter0 [(Str.ofString "word", .str x t), (Str.ofString "text", v1), (Str.ofString "at", v2), (Str.ofString "data", v3)] X.hctxt.s G hg (hA.le (by omega)) (fun _ _ _ _ _ _ => rfl) (by decide) ⟨.inl rfl, .inl rfl, .inl rfl, .inl rfl, trivial⟩ ⟨rfl, rfl, rfl, rfl, trivial⟩ (fun L cdv cs s₁ hz => ?_) rfl rfl rfl
  intro envz Az cz lmz S Qf hFr hFn
  cases hz
  have n1 : (x == Str.ofString "Final_Sigma") = false := by rcases hx with rfl | rfl <;> decide
  have n2 : (x == Str.ofString "After_Soft_Dotted") = false := by rcases hx with rfl | rfl <;> decide
  have n3 : (x == Str.ofString "More_Above") = false := by rcases hx with rfl | rfl <;> decide
  have n4 : (x == Str.ofString "Before_Dot") = false := by rcases hx with rfl | rfl <;> decide
  have n5 : (x == Str.ofString "After_I") = false := by rcases hx with rfl | rfl <;> decide
  (repeat' (walk_at "x"))
  refine ite_isnt n1 ?_
  (repeat' (walk_at "x"))
  refine ite_isnt n2 ?_
  (repeat' (walk_at "x"))
  refine ite_isnt n3 ?_
  (repeat' (walk_at "x"))
  refine ite_isnt n4 ?_
  (repeat' (walk_at "x"))
  refine ite_isnt n5 ?_
  (repeat' (walk_at "x"))
  exact h g _ S.aft
theorem cond_spec (X : Fns K) (Y : Cls K) (G : Gl K g) (hg : Le g s.heap) (hA : Rm A 4) {x l : Str} {t tl : Tok} (hx : x = Str.ofString "tr" ∨ x = Str.ofString "lt") {v1 v2 v3 : Value} {R : Result → Shared → Prop}
    (h : ∀ g' s', Aft s g [] g' [] s' → R (.ok (.ret (.bool (x == l)))) s') :
    codeAny (model prog w) A (.call (.ref X.cond) ⟨[.str x t, v1, v2, v3, .str l tl], []⟩) R s := by
  refine enter0 [(Str.ofString "word", .str x t), (Str.ofString "text", v1), (Str.ofString "at", v2), (Str.ofString "data", v3), (Str.ofString "language", .str l tl)] X.hcond.s G hg (hA.le (by omega)) (fun _ _ _ _ _ _ => rfl) (by decide) ⟨.inl rfl, .inl rfl, .inl rfl, .inl rfl, .inl rfl, trivial⟩ ⟨rfl, rfl, rfl, rfl, rfl, trivial⟩ (fun L cdv cs s₁ hz => ?_) rfl rfl rfl
  intro envz Az cz lmz S Qf hFr hFn
  cases hz
  have hz : x.length ≤ 1000000 := by rcases hx with rfl | rfl <;> decide
  have n1 : (Txt.slice x none (some ((Str.ofString "Not_").length : Int)) == Str.ofString "Not_") = false := by rcases hx with rfl | rfl <;> decide
  (repeat' (walk_at "x"))
  refine len_s S (by decide) fun t s S => ?_
  (repeat' (walk_at "x"))
  refine sls_upto S hz fun t s S => ?_
  (repeat' (walk_at "x"))
  refine ite_isnt n1 ?_
  (repeat' (walk_at "x"))
  refine call_fn S G X.hctxt.n X.hctxt.k rfl ?_
  (repeat' (walk_at "x"))
  refine kin_and S G (callC (ctxt_spec X G S.keep ((hA.deeper _).le (by omega)) hx fun g1 s A' => ?_))
  replace S := S.back0 A'
  (repeat' (walk_at "x"))
  exact h g1 _ S.aft
theorem conds_spec (X : Fns K) (Y : Cls K) (G : Gl K g) (hg : Le g s.heap) (hA : Rm A 5) {T : Addr} {ws : List Str} {l : Str} {tl : Tok} (hT : Rd g (.ref T) (.tuple (ws.map PyData.str))) (hws : ∀ x ∈ ws, x = Str.ofString "tr" ∨ x = Str.ofString "lt") {v1 v2 v3 : Value} {R : Result → Shared → Prop}
    (h : ∀ g' s', Aft s g [] g' [] s' → R (.ok (.ret (.bool (ws.all (· == l))))) s') :
    codeAny (model prog w) A (.call (.ref X.conds) ⟨[.ref T, v1, v2, v3, .str l tl], []⟩) R s := by
  refine enter0 [(Str.ofString "words", .ref T), (Str.ofString "text", v1), (Str.ofString "at", v2), (Str.ofString "data", v3), (Str.ofString "language", .str l tl)] X.hconds.s G hg (hA.le (by omega)) (fun _ _ _ _ _ _ => rfl) (by decide) ⟨.inl rfl, .inl rfl, .inl rfl, .inl rfl, .inl rfl, trivial⟩ ⟨rfl, rfl, rfl, rfl, rfl, trivial⟩ (fun L cdv cs s₁ hz => ?_) rfl rfl rfl
  intro envz Az cz lmz S Qf hFr hFn
  cases hz
  (repeat' (walk_at "x"))
  refine start_rdT hA.h S hT fun I its s hI It hW S => ?_
  refine forI (fun i g₁ own₁ lm₁ => own₁ = [] ∧ lm₁ = [(Str.ofString "words", .ref T), (Str.ofString "text", v1), (Str.ofString "at", v2), (Str.ofString "data", v3), (Str.ofString "language", .str l tl)] ∧ ∀ j x, ws[j]? = some x → j < i → (x == l) = true)
    hI (It _) hW S ⟨rfl, rfl, fun _ _ _ h => absurd h (Nat.not_lt_zero _)⟩ ⟨rfl, rfl, rfl, rfl, rfl, trivial⟩ (fun i v g₁ own₁ lm₁ s its hi hP le J S Qn hQn hQc hQb hQr => ?_) (fun gE own₁ lm₁ s le S J => ?_)
  · obtain ⟨rfl, rfl, hJ⟩ := J
    refine St.letl S ?_
    intro lmz S
    obtain ⟨d, hd, hv⟩ := hP
    rw [List.getElem?_map] at hd
    obtain ⟨x, hx, rfl⟩ := Option.map_eq_some_iff.mp hd
    obtain ⟨t, rfl⟩ := rd_str hv
    replace G := G.up le
    (repeat' (walk_at "x"))
    refine call_fn S G X.hcond.n X.hcond.k rfl ?_
    (repeat' (walk_at "x"))
    refine kin_and S G (callC (cond_spec X Y G S.keep ((hA.deeper _).le (by omega)) (hws x (List.mem_of_getElem? hx)) fun g1 s A' => ?_))
    replace S := S.back0 A'
    (repeat' (walk_at "x"))
    cases e : (x == l)
    · refine ite_nf rfl ?_
      (repeat' (walk_at "x"))
      have e2 : ws.all (· == l) = false := by
        rw [List.all_eq_false]
        exact ⟨x, List.mem_of_getElem? hx, by rw [e]; exact Bool.false_ne_true⟩
      have S' : St _ L g1 ([] ++ []) _ s := S.drop (List.sublist_append_right _ _) (fun _ h => nomatch h)
      have := h g1 s S'.aft
      rw [e2] at this
      (repeat' (walk_at "x"))
      exact this
    · refine ite_nt rfl ?_
      (repeat' (walk_at "x"))
      (repeat' (walk_at "x"))
      refine forEnd (own₂ := []) S A'.le ⟨rfl, rfl, fun j x' h1 h2 => ?_⟩ ⟨rfl, rfl, rfl, rfl, rfl, trivial⟩
      rcases Nat.lt_succ_iff_lt_or_eq.mp h2 with h | h
      · exact hJ j x' h1 h
      · subst h
        rw [hx] at h1
        cases h1
        exact e
  · obtain ⟨rfl, rfl, hJ⟩ := J
    refine St.letl S ?_
    intro lmz S
    (repeat' (walk_at "x"))
    have e2 : ws.all (· == l) = true := by
      rw [List.all_eq_true]
      intro x hx
      obtain ⟨j, hj⟩ := List.mem_iff_getElem?.mp hx
      exact hJ j x hj (by have := (List.getElem?_eq_some_iff.mp hj).1; simpa using this)
    have := h gE s S.aft
    rw [e2] at this
    (repeat' (walk_at "x"))
    exact this

end
end Mine
end
section
set_option maxRecDepth 100000
set_option maxHeartbeats 1000000
namespace Mine
section
variable {prog : Program} {w : World} {A : Around} {s : Shared} {K : Frag} {g : Heap}
def optT : Option (List Int) → PyData
  | none => .none
  | some c => dT c
theorem spec1_app (a b : Sp) (l : Str) : spec1 (a ++ b) l = (spec1 a l).or (spec1 b l) := by
  unfold spec1
  rw [List.find?_append]
  cases a.find? (fun p => !p.2.isEmpty && p.2.all (· == l)) <;> rfl
theorem spec0_app (a b : Sp) : spec0 (a ++ b) = (spec0 a).or (spec0 b) := by
  unfold spec0
  rw [List.find?_append]
  cases a.find? (fun p => p.2.isEmpty) <;> rfl
theorem dS_get {Ls : Sp} {i : Nat} {d : PyData} (h : (dS Ls)[i]? = some d) : ∃ p, Ls[i]? = some p ∧ d = .tuple [dT p.1, .tuple (p.2.map PyData.str)] := by
  unfold dS at h
  rw [List.getElem?_map] at h
  obtain ⟨p, hp, rfl⟩ := Option.map_eq_some_iff.mp h
  exact ⟨p, hp, rfl⟩
theorem menu_ok {ws : List Str} (h : ws ∈ menu5) : (∀ x ∈ ws, x = Str.ofString "tr" ∨ x = Str.ofString "lt") ∧ Fine 1 (.tuple (ws.map PyData.str)) := by
  simp only [menu5, List.mem_cons, List.not_mem_nil, or_false] at h
  have k1 : PyData.strOk (Str.ofString "tr") = true := by decide +kernel
  have k2 : PyData.strOk (Str.ofString "lt") = true := by decide +kernel
  rcases h with rfl | rfl | rfl | rfl | rfl
  · exact ⟨by simp, .tuple (by simp)⟩
  · exact ⟨by simp, .tuple (by simp)⟩
  · exact ⟨by simp, .tuple (fun d hd => by rw [List.map_singleton, List.mem_singleton] at hd; rw [hd]; exact .str k1)⟩
  · exact ⟨by simp, .tuple (fun d hd => by rw [List.map_singleton, List.mem_singleton] at hd; rw [hd]; exact .str k2)⟩
  · exact ⟨by simp, .tuple (fun d hd => by
      simp only [List.map_cons, List.map_nil, List.mem_cons, List.not_mem_nil, or_false] at hd
      rcases hd with rfl | rfl
      · exact .str k1
      · exact .str k2)⟩
theorem tup2 {h : Heap} {v : Value} {d e : PyData} (r : Rd h v (.tuple [d, e])) : ∃ T a b, v = .ref T ∧ h.IsTuple T #[a, b] ∧ Rd h a d ∧ Rd h b e := by
  obtain ⟨T, vs, rfl, hT, r⟩ := rd_tuple r
  cases r with
  | cons ra r =>
    cases r with
    | cons rb r =>
      cases r
      exact ⟨T, _, _, rfl, hT, ra, rb⟩
theorem cspec_spec (X : Fns K) (Y : Cls K) (G : Gl K g) (hg : Le g s.heap) (hA : Rm A 12) {xd tl : Addr} {T : Md} {ns : List Int} {i0 : Nat} {n : Int} {m : Nm} {l : Str} {ta tm tb : Tok} (H : Dat prog w Y g xd T.F) (hT : MdOk T) (hx : Rd g (.ref tl) (.list (dI ns))) (hzl : ns.length ≤ 1000) (hi0 : ns[i0]? = some n) (hn : 0 ≤ n) {R : Result → Shared → Prop}
    (h : ∀ v g' s', Aft s g [] g' [] s' → Rd g' v (optT (spec ((T.spe n m).getD []) l)) → R (.ok (.ret v)) s') :
    codeAny (model prog w) A (.call (.ref X.spec) ⟨[.ref tl, .int i0 ta, .ref xd, .str m.ss tm, .str l tb], []⟩) R s := by
  refine enter0 [(Str.ofString "text", .ref tl), (Str.ofString "at", .int i0 ta), (Str.ofString "data", .ref xd), (Str.ofString "name", .str m.ss tm), (Str.ofString "language", .str l tb)] X.hspec.s G hg (hA.le (by omega)) (fun _ _ _ _ _ _ => rfl) (by decide) ⟨.inl rfl, .inl rfl, .inl rfl, .inl rfl, .inl rfl, trivial⟩ ⟨rfl, rfl, rfl, rfl, rfl, trivial⟩ (fun L cdv cs s₁ hz => ?_) rfl rfl rfl
  intro envz Az cz lmz S Qf hFr hFn
  cases hz
  (repeat' (walk_at "x"))
  refine dat_meth S G H ?_
  refine call_m Y.hdaG.k G ?_
  (repeat' (walk_at "x"))
  refine item_rd S hx (by omega) (dI_get (n := n) (by simpa using hi0)) (by simp; omega) fun nv hnv => ?_
  obtain ⟨tn, rfl⟩ := rd_int hnv
  (repeat' (walk_at "x"))
  refine kin_and S G (callC (daG_spec X Y G S.keep ((hA.deeper _).le (by omega)) H (nm_ss m) hn fun dv g1 s A' hv => ?_))
  replace S := S.back0 A'
  replace G := G.up A'.le
  rw [F_ss] at hv
  cases e : T.spe n m with
  | none =>
    rw [e] at hv
    obtain ⟨dT0, vs, rfl, hdT, hvs⟩ := rd_tuple hv
    refine start_rdT hA.h S hv fun I its s hI It hW S => ?_
    refine forI (fun i g₁ own₁ lm₁ => g₁ = g1 ∧ own₁ = [] ∧ lm₁ = [(Str.ofString "plain", Value.none)]) hI (It _) hW S ⟨rfl, rfl, rfl⟩ ⟨rfl, trivial⟩ (fun i v g₁ own₁ lm₁ s its hi hP le J S Qn hQn hQc hQb hQr => absurd hi (Nat.not_lt_zero _)) (fun gE own₁ lm₁ s le S J => ?_)
    obtain ⟨rfl, rfl, rfl⟩ := J
    refine St.letl S ?_
    intro lmz S
    (repeat' (walk_at "x"))
    refine h _ gE s S.aft ?_
    rw [e]
    exact .none
  | some Ls =>
    rw [e] at hv
    have hok := hT.sp n m Ls e
    obtain ⟨dL, vs, rfl, hdL, hvs⟩ := rd_list hv
    refine start_rdL hA.h S hv fun I its s hI It hW S => ?_
    refine forI (fun i g₁ own₁ lm₁ => own₁ = [] ∧ spec1 (Ls.take i) l = none ∧ ∃ pv, lm₁ = [(Str.ofString "plain", pv), (Str.ofString "text", .ref tl), (Str.ofString "at", .int i0 ta), (Str.ofString "data", .ref xd), (Str.ofString "name", .str m.ss tm), (Str.ofString "language", .str l tb)] ∧ Rd g₁ pv (optT (spec0 (Ls.take i))))
      hI (It _) hW S ⟨rfl, rfl, _, rfl, .none⟩ ⟨rfl, rfl, rfl, rfl, rfl, rfl, trivial⟩ (fun i v g₁ own₁ lm₁ s its hi hP le J S Qn hQn hQc hQb hQr => ?_) (fun gE own₁ lm₁ s le S J => ?_)
    · obtain ⟨rfl, hs1, pv, rfl, hpv⟩ := J
      refine St.letl S ?_
      intro lmz S
      obtain ⟨d, hd, hv⟩ := hP
      obtain ⟨p, hp, rfl⟩ := dS_get hd
      obtain ⟨T2, mv, wv, rfl, hT2, hmv, hwv⟩ := tup2 hv
      obtain ⟨k1, k2⟩ := menu_ok (hok.2 p (List.mem_of_getElem? hp)).2
      have et : Ls.take (i + 1) = Ls.take i ++ [p] := by rw [List.take_succ, hp]; rfl
      have es : Ls = Ls.take i ++ (p :: Ls.drop (i + 1)) := by
        obtain ⟨hlt, e⟩ := List.getElem?_eq_some_iff.mp hp
        conv => lhs; rw [← List.take_append_drop i Ls, List.drop_eq_getElem_cons hlt, e]
      replace G := G.up le
      replace hmv := hmv.up le
      replace hwv := hwv.up le
      obtain ⟨wT, wvs, rfl, hwT, hwr⟩ := rd_tuple hwv
      refine asg2 hA.h S (isTuple_up hT2 (le.trans S.keep)) fun s S => ?_
      (repeat' ((fail_if_success (with_reducible show wpAny _ _ (exec (PySem.Stmt.If _ _ _ _) _) _ _ _)); walk_at "x"))
      (repeat' (walk_at "x"))
      refine mk_tuple (ds := []) S .nil (Nat.zero_le _) fun D g2 s le2 S hD => ?_
      replace G := G.up le2
      refine eq_rd S (hwv.up le2) hD (k2.shaped (by decide)) (Fine.shaped (n := 1) (.tuple fun _ h => nomatch h) (by decide)) (hA.deeper _) (by omega) ?_
      (repeat' (walk_at "x"))
      have ev : PyData.eqv (.tuple (p.2.map PyData.str)) (.tuple []) = p.2.isEmpty := by
        cases p.2 <;> simp [PyData.eqv, PyData.eqvAll]
      rw [ev]
      cases ew : p.2.isEmpty
      · refine ite_isnt rfl ?_
        (repeat' (walk_at "x"))
        refine call_fn S G X.hconds.n X.hconds.k rfl ?_
        (repeat' (walk_at "x"))
        refine kin_and S G (callC (conds_spec X Y G S.keep ((hA.deeper _).le (by omega)) (hwv.up le2) k1 fun g3 s A3 => ?_))
        replace S := S.back0 A3
        (repeat' (walk_at "x"))
        cases ea : p.2.all (· == l)
        · refine ite_isnt rfl ?_
          (repeat' (walk_at "x"))
          (repeat' (walk_at "x"))
          refine forEnd (own₂ := []) S (le2.trans A3.le) ⟨rfl, ?_, pv, rfl, ?_⟩ ⟨rfl, rfl, rfl, rfl, rfl, rfl, trivial⟩
          · rw [et, spec1_app, hs1]
            simp [spec1, ew, ea]
          · rw [et, spec0_app]
            have : spec0 [p] = none := by simp [spec0, ew]
            rw [this, Option.or_none]
            exact hpv.up (le2.trans A3.le)
        · refine ite_is rfl ?_
          (repeat' (walk_at "x"))
          have S' : St _ L g3 ([] ++ []) _ s := S.drop (List.sublist_append_right _ _) (fun _ h => nomatch h)
          (repeat' (walk_at "x"))
          refine h _ g3 s S'.aft ?_
          rw [e]
          show Rd g3 mv (optT ((spec1 Ls l).or (spec0 Ls)))
          rw [es, spec1_app, hs1]
          have : spec1 (p :: Ls.drop (i + 1)) l = some p.1 := by simp [spec1, ew, ea]
          rw [this]
          exact hmv.up (le2.trans A3.le)
      · refine ite_is rfl ?_
        have n1 : spec1 [p] l = none := by simp [spec1, ew]
        have n0 : spec0 [p] = some p.1 := by simp [spec0, ew]
        cases e0 : spec0 (Ls.take i) with
        | none =>
          rw [e0] at hpv
          obtain ⟨as, hpv⟩ := hpv
          cases hpv
          (repeat' (walk_at "x"))
          (repeat' (walk_at "x"))
          refine forEnd (own₂ := []) S le2 ⟨rfl, ?_, mv, rfl, ?_⟩ ⟨rfl, rfl, rfl, rfl, rfl, rfl, trivial⟩
          · rw [et, spec1_app, hs1, n1]; rfl
          · rw [et, spec0_app, e0, n0]
            exact hmv.up le2
        | some cs =>
          rw [e0] at hpv
          obtain ⟨pa, pvs, rfl, hpa, hpr⟩ := rd_tuple hpv
          (repeat' (walk_at "x"))
          (repeat' (walk_at "x"))
          refine forEnd (own₂ := []) S le2 ⟨rfl, ?_, _, rfl, ?_⟩ ⟨rfl, rfl, rfl, rfl, rfl, rfl, trivial⟩
          · rw [et, spec1_app, hs1, n1]; rfl
          · rw [et, spec0_app, e0]
            exact hpv.up le2
    · obtain ⟨rfl, hs1, pv, rfl, hpv⟩ := J
      refine St.letl S ?_
      intro lmz S
      rw [List.take_of_length_le (by simp [dS])] at hs1 hpv
      (repeat' (walk_at "x"))
      refine h _ gE s S.aft ?_
      rw [e]
      show Rd gE pv (optT ((spec1 Ls l).or (spec0 Ls)))
      rw [hs1]
      exact hpv

end
end Mine
end
section
set_option maxRecDepth 100000
set_option maxHeartbeats 1000000
namespace Mine
section
variable {prog : Program} {w : World} {A : Around} {s : Shared} {K : Frag} {g : Heap}
theorem enterD {own : List (Addr × Obj)} {R : Result → Shared → Prop} {f T : Addr} {name qual : Str} {params : Arguments} {body : List Stmt} {scope : Scope} {args : List Value} (binds lm : List (Str × Value))
    (hf : FnIs K f name qual params body scope (.ref T)) (hd : ∃ v o n, K.lookup T = some o ∧ o.data = .seq #[v] n) (G : Gl K g) (hg : Le g s.heap) (hA : A.depth < recursionLimit)
    (how : ∀ p ∈ own, s.heap.get? p.1 = some p.2) (hnd : (own.map (·.1)).Nodup) (hoff : ∀ a ∈ own.map (·.1), g.get? a = none)
    (hbind : ∀ v o n, s.heap.get? T = some o → o.data = .seq #[v] n → ∀ kV doc pm an cdv ct, BindsTo s (fnOf name qual params body scope (.ref T) kV doc pm an cdv ct) ⟨args, []⟩ binds)
    (hcn : ((cellsFrom 0 scope.names []).map (·.1)).Nodup) (hkind : KindsOk scope (s.heap.objs.size + 1) binds)
    (hm : AllP (fun p => bindL (fun x => scope.names.lookup x) binds (fun _ => none) p.1 = some p.2) lm)
    (h : ∀ L cdv cs s₁, Zip2 (fun nc co => co.1 = nc.2 ∧ co.2.data = .cell (bindC (fun x => scope.names.lookup x) binds (fun _ => none) nc.1)) (cellsFrom (L + 1) scope.names []) cs →
      let e := fe scope L f qual cdv; let a := A.deeper e; let c : Cs := ⟨s, g, own.map (·.1)⟩; let l := lm; St c L g (cs ++ own) l s₁ →
      ∀ Q : Flow → Shared → Prop, (∀ v s', R (.ok (.ret v)) s' → Q (.ret v) s') → (∀ s', R (.ok (.ret .none)) s' → Q .next s') → wpAny (model prog w) a (execs body e) Q Nev s₁)
    (hco : scope.isCoroutine = false) (hgen : scope.isGenerator = false) (hk : scope.kind = .function) :
    codeAny (model prog w) A (.call (.ref f) ⟨args, []⟩) R s := by
  obtain ⟨v, o, n, e1, e2⟩ := hd
  exact enter binds lm hf G hg hA how hnd hoff (hbind v o n (hg _ _ (G.kin _ _ e1)) e2) hcn hkind hm h hco hgen hk
theorem upat_spec (X : Fns K) (Y : Cls K) (G : Gl K g) (hg : Le g s.heap) (hA : Rm A 13) {xd tl : Addr} {T : Md} {ns : List Int} {i0 : Nat} {n : Int} {l : Str} {ta tb : Tok} (H : Dat prog w Y g xd T.F) (hT : MdOk T) (hx : Rd g (.ref tl) (.list (dI ns))) (hzl : ns.length ≤ 1000) (hi0 : ns[i0]? = some n) (hn : 0 ≤ n) (hl : l.length ≤ 1000) {R : Result → Shared → Prop}
    (h : ∀ v g' s', Aft s g [] g' [] s' → Rd g' v (dT (T.full n .uc (baseOf l))) → R (.ok (.ret v)) s') :
    codeAny (model prog w) A (.call (.ref X.upat) ⟨[.ref tl, .int i0 ta, .ref xd, .str l tb], []⟩) R s := by
  refine enterD (own := []) [(Str.ofString "text", .ref tl), (Str.ofString "at", .int i0 ta), (Str.ofString "data", .ref xd), (Str.ofString "language", .str l tb)] [(Str.ofString "text", .ref tl), (Str.ofString "at", .int i0 ta), (Str.ofString "data", .ref xd), (Str.ofString "language", .str l tb)] X.hupat.s X.hupat.d G hg (by have := hA.d; omega) (fun _ h => nomatch h) List.nodup_nil (fun _ h => nomatch h) (fun _ _ _ hT hS _ _ _ _ _ _ => BindsTo.of_defaults rfl hT hS rfl rfl) (by decide) ⟨.inl rfl, .inl rfl, .inl rfl, .inl rfl, trivial⟩ ⟨rfl, rfl, rfl, rfl, trivial⟩ (fun L cdv cs s₁ hz => ?_) rfl rfl rfl
  intro envz Az cz lmz S Qf hFr hFn
  cases hz
  (repeat' (walk_at "x"))
  refine call_fn S G X.hspec.n X.hspec.k rfl ?_
  (repeat' (walk_at "x"))
  refine call_fn S G X.hbase.n X.hbase.k rfl ?_
  (repeat' (walk_at "x"))
  refine kin_and S G (callC (base_spec X G S.keep ((hA.deeper _).le (by omega)) hl fun tb2 g1 s A1 => ?_))
  replace S := S.back0 A1
  replace G := G.up A1.le
  replace H := H.up A1.le
  replace hx := hx.up A1.le
  (repeat' (walk_at "x"))
  refine kin_and S G (callC (cspec_spec (m := .uc) X Y G S.keep ((hA.deeper _).le (by omega)) H hT hx hzl hi0 hn fun fv g2 s A2 hfv => ?_))
  replace S := S.back0 A2
  replace G := G.up A2.le
  replace H := H.up A2.le
  replace hx := hx.up A2.le
  (repeat' (walk_at "x"))
  cases e : spec ((T.spe n .uc).getD []) (baseOf l) with
  | none =>
    rw [e] at hfv
    obtain ⟨as, hfv⟩ := hfv
    cases hfv
    (repeat' (walk_at "x"))
    refine call_fn S G X.hsupper.n X.hsupper.k rfl ?_
    (repeat' (walk_at "x"))
    refine item_rd S hx (by omega) (dI_get (n := n) (by simpa using hi0)) (by simp; omega) fun nv hnv => ?_
    obtain ⟨tn, rfl⟩ := rd_int hnv
    (repeat' (walk_at "x"))
    refine kin_and S G (callC (supper_spec X Y G S.keep ((hA.deeper _).le (by omega)) H hn fun t g3 s A3 => ?_))
    replace S := S.back0 A3
    (repeat' (walk_at "x"))
    refine mk_tuple S (.one (.int _ t)) (Nat.le_of_ble_eq_true rfl) fun D g4 s le4 S hD => ?_
    (repeat' (walk_at "x"))
    refine h _ g4 s S.aft ?_
    unfold Md.full
    rw [e]
    exact hD
  | some c =>
    rw [e] at hfv
    obtain ⟨pa, pvs, rfl, hpa, hpr⟩ := rd_tuple hfv
    (repeat' (walk_at "x"))
    refine h _ g2 s S.aft ?_
    unfold Md.full
    rw [e]
    exact hfv
theorem loat_spec (X : Fns K) (Y : Cls K) (G : Gl K g) (hg : Le g s.heap) (hA : Rm A 13) {xd tl : Addr} {T : Md} {ns : List Int} {i0 : Nat} {n : Int} {l : Str} {ta tb : Tok} (H : Dat prog w Y g xd T.F) (hT : MdOk T) (hx : Rd g (.ref tl) (.list (dI ns))) (hzl : ns.length ≤ 1000) (hi0 : ns[i0]? = some n) (hn : 0 ≤ n) (hl : l.length ≤ 1000) {R : Result → Shared → Prop}
    (h : ∀ v g' s', Aft s g [] g' [] s' → Rd g' v (dT (T.full n .lc (baseOf l))) → R (.ok (.ret v)) s') :
    codeAny (model prog w) A (.call (.ref X.loat) ⟨[.ref tl, .int i0 ta, .ref xd, .str l tb], []⟩) R s := by
  refine enterD (own := []) [(Str.ofString "text", .ref tl), (Str.ofString "at", .int i0 ta), (Str.ofString "data", .ref xd), (Str.ofString "language", .str l tb)] [(Str.ofString "text", .ref tl), (Str.ofString "at", .int i0 ta), (Str.ofString "data", .ref xd), (Str.ofString "language", .str l tb)] X.hloat.s X.hloat.d G hg (by have := hA.d; omega) (fun _ h => nomatch h) List.nodup_nil (fun _ h => nomatch h) (fun _ _ _ hT hS _ _ _ _ _ _ => BindsTo.of_defaults rfl hT hS rfl rfl) (by decide) ⟨.inl rfl, .inl rfl, .inl rfl, .inl rfl, trivial⟩ ⟨rfl, rfl, rfl, rfl, trivial⟩ (fun L cdv cs s₁ hz => ?_) rfl rfl rfl
  intro envz Az cz lmz S Qf hFr hFn
  cases hz
  (repeat' (walk_at "x"))
  refine call_fn S G X.hspec.n X.hspec.k rfl ?_
  (repeat' (walk_at "x"))
  refine call_fn S G X.hbase.n X.hbase.k rfl ?_
  (repeat' (walk_at "x"))
  refine kin_and S G (callC (base_spec X G S.keep ((hA.deeper _).le (by omega)) hl fun tb2 g1 s A1 => ?_))
  replace S := S.back0 A1
  replace G := G.up A1.le
  replace H := H.up A1.le
  replace hx := hx.up A1.le
  (repeat' (walk_at "x"))
  refine kin_and S G (callC (cspec_spec (m := .lc) X Y G S.keep ((hA.deeper _).le (by omega)) H hT hx hzl hi0 hn fun fv g2 s A2 hfv => ?_))
  replace S := S.back0 A2
  replace G := G.up A2.le
  replace H := H.up A2.le
  replace hx := hx.up A2.le
  (repeat' (walk_at "x"))
  cases e : spec ((T.spe n .lc).getD []) (baseOf l) with
  | none =>
    rw [e] at hfv
    obtain ⟨as, hfv⟩ := hfv
    cases hfv
    (repeat' (walk_at "x"))
    refine call_fn S G X.hslower.n X.hslower.k rfl ?_
    (repeat' (walk_at "x"))
    refine item_rd S hx (by omega) (dI_get (n := n) (by simpa using hi0)) (by simp; omega) fun nv hnv => ?_
    obtain ⟨tn, rfl⟩ := rd_int hnv
    (repeat' (walk_at "x"))
    refine kin_and S G (callC (slower_spec X Y G S.keep ((hA.deeper _).le (by omega)) H hn fun t g3 s A3 => ?_))
    replace S := S.back0 A3
    (repeat' (walk_at "x"))
    refine mk_tuple S (.one (.int _ t)) (Nat.le_of_ble_eq_true rfl) fun D g4 s le4 S hD => ?_
    (repeat' (walk_at "x"))
    refine h _ g4 s S.aft ?_
    unfold Md.full
    rw [e]
    exact hD
  | some c =>
    rw [e] at hfv
    obtain ⟨pa, pvs, rfl, hpa, hpr⟩ := rd_tuple hfv
    (repeat' (walk_at "x"))
    refine h _ g2 s S.aft ?_
    unfold Md.full
    rw [e]
    exact hfv
theorem tiat_spec (X : Fns K) (Y : Cls K) (G : Gl K g) (hg : Le g s.heap) (hA : Rm A 13) {xd tl : Addr} {T : Md} {ns : List Int} {i0 : Nat} {n : Int} {l : Str} {ta tb : Tok} (H : Dat prog w Y g xd T.F) (hT : MdOk T) (hx : Rd g (.ref tl) (.list (dI ns))) (hzl : ns.length ≤ 1000) (hi0 : ns[i0]? = some n) (hn : 0 ≤ n) (hl : l.length ≤ 1000) {R : Result → Shared → Prop}
    (h : ∀ v g' s', Aft s g [] g' [] s' → Rd g' v (dT (T.full n .tc (baseOf l))) → R (.ok (.ret v)) s') :
    codeAny (model prog w) A (.call (.ref X.tiat) ⟨[.ref tl, .int i0 ta, .ref xd, .str l tb], []⟩) R s := by
  refine enterD (own := []) [(Str.ofString "text", .ref tl), (Str.ofString "at", .int i0 ta), (Str.ofString "data", .ref xd), (Str.ofString "language", .str l tb)] [(Str.ofString "text", .ref tl), (Str.ofString "at", .int i0 ta), (Str.ofString "data", .ref xd), (Str.ofString "language", .str l tb)] X.htiat.s X.htiat.d G hg (by have := hA.d; omega) (fun _ h => nomatch h) List.nodup_nil (fun _ h => nomatch h) (fun _ _ _ hT hS _ _ _ _ _ _ => BindsTo.of_defaults rfl hT hS rfl rfl) (by decide) ⟨.inl rfl, .inl rfl, .inl rfl, .inl rfl, trivial⟩ ⟨rfl, rfl, rfl, rfl, trivial⟩ (fun L cdv cs s₁ hz => ?_) rfl rfl rfl
  intro envz Az cz lmz S Qf hFr hFn
  cases hz
  (repeat' (walk_at "x"))
  refine call_fn S G X.hspec.n X.hspec.k rfl ?_
  (repeat' (walk_at "x"))
  refine call_fn S G X.hbase.n X.hbase.k rfl ?_
  (repeat' (walk_at "x"))
  refine kin_and S G (callC (base_spec X G S.keep ((hA.deeper _).le (by omega)) hl fun tb2 g1 s A1 => ?_))
  replace S := S.back0 A1
  replace G := G.up A1.le
  replace H := H.up A1.le
  replace hx := hx.up A1.le
  (repeat' (walk_at "x"))
  refine kin_and S G (callC (cspec_spec (m := .tc) X Y G S.keep ((hA.deeper _).le (by omega)) H hT hx hzl hi0 hn fun fv g2 s A2 hfv => ?_))
  replace S := S.back0 A2
  replace G := G.up A2.le
  replace H := H.up A2.le
  replace hx := hx.up A2.le
  (repeat' (walk_at "x"))
  cases e : spec ((T.spe n .tc).getD []) (baseOf l) with
  | none =>
    rw [e] at hfv
    obtain ⟨as, hfv⟩ := hfv
    cases hfv
    (repeat' (walk_at "x"))
    refine call_fn S G X.hstitle.n X.hstitle.k rfl ?_
    (repeat' (walk_at "x"))
    refine item_rd S hx (by omega) (dI_get (n := n) (by simpa using hi0)) (by simp; omega) fun nv hnv => ?_
    obtain ⟨tn, rfl⟩ := rd_int hnv
    (repeat' (walk_at "x"))
    refine kin_and S G (callC (stitle_spec X Y G S.keep ((hA.deeper _).le (by omega)) H hn fun t g3 s A3 => ?_))
    replace S := S.back0 A3
    (repeat' (walk_at "x"))
    refine mk_tuple S (.one (.int _ t)) (Nat.le_of_ble_eq_true rfl) fun D g4 s le4 S hD => ?_
    (repeat' (walk_at "x"))
    refine h _ g4 s S.aft ?_
    unfold Md.full
    rw [e]
    exact hD
  | some c =>
    rw [e] at hfv
    obtain ⟨pa, pvs, rfl, hpa, hpr⟩ := rd_tuple hfv
    (repeat' (walk_at "x"))
    refine h _ g2 s S.aft ?_
    unfold Md.full
    rw [e]
    exact hfv

end
end Mine
end
section
set_option maxRecDepth 100000
set_option maxHeartbeats 1000000
namespace Mine
theorem ext_tup (l : Addr) (items : Array Value) (n : Nat) (b : Addr) (more : Array Value) (k : Nat) (dd : Option Addr) (sl : Array (Option Value)) (h1 : ¬(!items.isEmpty && Builtin.List.listTooLong (items.size + more.size)) = true) (h2 : items.size ≤ sizeLine) (h3 : items.size + more.size ≤ sizeLine + 1) :
    Meets (Builtin.«list.extend» ⟨[.ref l, .ref b], []⟩) (fun _ R s => s.heap.get? l = some { cls := .type "list", dict := none, data := .seq items n, slots := #[] } ∧ s.heap.get? b = some { cls := .type "tuple", dict := dd, data := .seq more k, slots := sl } ∧ R (.ok (.ret Value.none)) { s with heap := s.heap.update l (Obj.mapSeq fun x => x ++ more), toks := s.toks }) :=
  .of_wp fun prog w A R s h => by
    obtain ⟨hp, g, d, tk, os⟩ := s
    obtain ⟨hl, hb, h⟩ := h
    have t1 := AutoSeq1.sub_tuple_tuple
    have t2 := AutoSeq1.sub_list_list
    have t3 := AutoSeq1.sub_tuple_list
    have t4 := AutoSeq1.sub_list_tuple
    have hz' : (items ++ more).size ≤ sizeLine + 1 := by rw [Array.size_append]; exact h3
    wp_walk using (wpAny_updateSeq hl rfl (hz := h2) (_hz' := hz')), AutoSeq1.wpAny_loadPart' hl, AutoSeq1.wpAny_loadPart' hb
    exact ⟨_, rfl, h⟩
section
variable {prog : Program} {w : World} {A : Around} {E : Value → Shared → Prop} {s : Shared} {K : Frag} {c : Cs} {L : Addr} {g : Heap} {own : List (Addr × Obj)} {lm : List (Str × Value)} {env : Env}
theorem l_extR {a b : Addr} {xs ys : List Value} {k : Nat} {pre post : List (Addr × Obj)} {Q : Value → Shared → Prop} (S : St c L g own lm s) (hown : own = pre ++ (a, lobj xs k) :: post) (hb : s.heap.IsTuple b ys.toArray) (hz : xs.length ≤ 1000000) (hy : ys.length ≤ 1000000)
    (h : ∀ k' s', St c L g (pre ++ (a, lobj (xs ++ ys) k') :: post) lm s' → Q .none s') : wpAny (model prog w) A (call (.builtin "list.extend") [.ref a, .ref b]) Q E s := by
  obtain ⟨⟨cls, dd, data, sl⟩, ho2, hc2, n2, hd2⟩ := id hb
  simp only at hc2 hd2
  subst hc2 hd2
  have ho := S.ow (a, lobj xs k) (by rw [hown]; simp)
  have sl' : sizeLine = 16777216 := rfl
  obtain ⟨k', S'⟩ := S.turnSeq (t' := s.toks) hown (f := fun x => x ++ ys.toArray) (ys := xs ++ ys) (by simp)
  exact call_meets F.slot_list_extend ⟨_, ho, rfl⟩ F.entry_list_extend (F.args_list_extend_2 _ _) (ext_tup a xs.toArray k b ys.toArray n2 dd sl (extend_door (by simp; omega)) (by simp; omega) (by simp; omega)) ⟨ho, ho2, h k' _ S'⟩
end
end Mine
end
section
set_option genInjectivity false
set_option genSizeOf false
set_option maxRecDepth 100000
set_option maxHeartbeats 1000000
namespace Mine
section
variable {prog : Program} {w : World} {A : Around} {s : Shared} {K : Frag} {g : Heap}
theorem cjoin_spec (X : Fns K) (G : Gl K g) (hg : Le g s.heap) (hA : Rm A 2) {l : Addr} {ps : List (List Int)} (hl : Rd g (.ref l) (.list (dP ps))) (hz : ps.length ≤ 1000) (hp : ∀ p ∈ ps, p.length ≤ 10) {R : Result → Shared → Prop}
    (h : ∀ r g' s', Aft s g [] g' [] s' → Rd g' (.ref r) (.list (dI ps.flatten)) → R (.ok (.ret (.ref r))) s') :
    codeAny (model prog w) A (.call (.ref X.cjoin) ⟨[.ref l], []⟩) R s := by
  refine enter0 [(Str.ofString "pieces", .ref l)] X.hcjoin.s G hg (hA.le (by omega)) (fun _ _ _ _ _ _ => rfl) (by decide) ⟨.inl rfl, trivial⟩ ⟨rfl, trivial⟩ (fun L cdv cs s₁ hz => ?_) rfl rfl rfl
  intro envz Az cz lmz S Qf hFr hFn
  cases hz
  (repeat' (walk_at "x"))
  refine new_list S (Nat.zero_le _) fun F s hF S => ?_
  (repeat' (walk_at "x"))
  refine start_rdL hA.h S hl fun I its s hI It hW S => ?_
  refine forI (fun i g₁ own₁ lm₁ => ∃ xs k, own₁ = [(F, lobj xs k)] ∧ lm₁ = [(Str.ofString "found", .ref F)] ∧ RdA g₁ xs (dI (ps.take i).flatten) ∧ (ps.take i).flatten.length ≤ 10 * i)
    hI (It _) hW S ⟨[], _, rfl, rfl, .nil, by simp⟩ ⟨rfl, trivial⟩ (fun i v g₁ own₁ lm₁ s its hi hP le J S Qn hQn hQc hQb hQr => ?_) (fun gE own₁ lm₁ s le S J => ?_)
  · obtain ⟨xs, k, rfl, rfl, hxs, hlen⟩ := J
    refine St.letl S ?_
    intro lmz S
    obtain ⟨d, hd, hv⟩ := hP
    rw [List.getElem?_map] at hd
    obtain ⟨p, hpi, rfl⟩ := Option.map_eq_some_iff.mp hd
    have et : (ps.take (i + 1)).flatten = (ps.take i).flatten ++ p := by rw [List.take_succ, hpi]; simp
    have hpl := hp p (List.mem_of_getElem? hpi)
    obtain ⟨T, vs, rfl, hT, hr⟩ := rd_tuple (hv.up le)
    replace G := G.up le
    have h1 := hxs.length
    have h2 := hr.length
    have h3 : i < ps.length := (List.getElem?_eq_some_iff.mp hpi).1
    rw [List.length_map] at h1 h2
    (repeat' (walk_at "x"))
    refine gm_extend S (k := k) (xs := xs) (by simp) ?_
    (repeat' (walk_at "x"))
    refine l_extR (pre := its) (post := []) S rfl (isTuple_up hT S.keep) (by omega) (by omega) fun k' s S => ?_
    (repeat' (walk_at "x"))
    (repeat' (walk_at "x"))
    refine forEnd (own₂ := [(F, lobj (xs ++ vs) k')]) S (Le.refl _) ⟨xs ++ vs, k', rfl, rfl, ?_, ?_⟩ ⟨rfl, trivial⟩
    · rw [et, dI_app]; exact hxs.app hr
    · rw [et, List.length_append]; omega
  · obtain ⟨xs, k, rfl, rfl, hxs, hlen⟩ := J
    refine St.letl S ?_
    intro lmz S
    rw [List.take_of_length_le (by simp [dP])] at hxs
    (repeat' (walk_at "x"))
    obtain ⟨g', le', S, hF'⟩ := S.freeze (pre := []) rfl hF
    (repeat' (walk_at "x"))
    exact h _ g' _ S.aft (.list (lobj_is hF') (hxs.up le'))
structure LangOk (l b : Str) : Prop where
  z : l.length ≤ 1000
  zb : b.length ≤ 1000
  e : baseOf l = b
  bb : baseOf b = b
  el : (b == Str.ofString "el") = false
  nl : (b == Str.ofString "nl") = false
def langs : List Str := [Str.ofString "", Str.ofString "tr", Str.ofString "tr-Latn", Str.ofString "tr_TR", Str.ofString "lt"]
theorem lang_ok {l : Str} (h : l ∈ langs) : ∃ b, LangOk l b := by
  simp only [langs, List.mem_cons, List.not_mem_nil, or_false] at h
  rcases h with rfl | rfl | rfl | rfl | rfl
  · exact ⟨Str.ofString "", by decide +kernel, by decide +kernel, by decide +kernel, by decide +kernel, by decide +kernel, by decide +kernel⟩
  · exact ⟨Str.ofString "tr", by decide +kernel, by decide +kernel, by decide +kernel, by decide +kernel, by decide +kernel, by decide +kernel⟩
  · exact ⟨Str.ofString "tr", by decide +kernel, by decide +kernel, by decide +kernel, by decide +kernel, by decide +kernel, by decide +kernel⟩
  · exact ⟨Str.ofString "tr", by decide +kernel, by decide +kernel, by decide +kernel, by decide +kernel, by decide +kernel, by decide +kernel⟩
  · exact ⟨Str.ofString "lt", by decide +kernel, by decide +kernel, by decide +kernel, by decide +kernel, by decide +kernel, by decide +kernel⟩

end
end Mine
end
section
set_option maxRecDepth 100000
set_option maxHeartbeats 1000000
namespace Mine
section
variable {prog : Program} {w : World} {A : Around} {s : Shared} {K : Frag} {g : Heap}
theorem full_len {T : Md} (hT : MdOk T) (n : Int) (m : Nm) (b : Str) : (T.full n m b).length ≤ 10 := by
  unfold Md.full
  cases e : spec ((T.spe n m).getD []) b with
  | none => simp
  | some c =>
    show c.length ≤ 10
    cases e2 : T.spe n m with
    | none => rw [e2] at e; simp [spec, spec1, spec0] at e
    | some Ls =>
      rw [e2] at e
      have hok := (hT.sp n m Ls e2).2
      replace e : (spec1 Ls b).or (spec0 Ls) = some c := e
      have key : ∃ p ∈ Ls, p.1 = c := by
        cases e3 : spec1 Ls b with
        | some c' =>
          rw [e3] at e
          cases e
          obtain ⟨p, hp, rfl⟩ := Option.map_eq_some_iff.mp e3
          exact ⟨p, List.mem_of_find?_eq_some hp, rfl⟩
        | none =>
          rw [e3] at e
          obtain ⟨p, hp, rfl⟩ := Option.map_eq_some_iff.mp e
          exact ⟨p, List.mem_of_find?_eq_some hp, rfl⟩
      obtain ⟨p, hp, rfl⟩ := key
      have := (hok p hp).1
      omega
theorem lopcs_spec (X : Fns K) (Y : Cls K) (G : Gl K g) (hg : Le g s.heap) (hA : Rm A 14) {xd tl : Addr} {T : Md} {ns : List Int} {l b : Str} {tb : Tok} (H : Dat prog w Y g xd T.F) (hT : MdOk T) (hx : Rd g (.ref tl) (.list (dI ns))) (hzl : ns.length ≤ 100) (hns : ∀ n ∈ ns, 0 ≤ n) (hl : LangOk l b) {R : Result → Shared → Prop}
    (h : ∀ r g' s', Aft s g [] g' [] s' → Rd g' (.ref r) (.list (dP (ns.map fun n => T.full n .lc b))) → R (.ok (.ret (.ref r))) s') :
    codeAny (model prog w) A (.call (.ref X.lopcs) ⟨[.ref tl, .ref xd, .str l tb], []⟩) R s := by
  refine enterD (own := []) [(Str.ofString "text", .ref tl), (Str.ofString "data", .ref xd), (Str.ofString "language", .str l tb)] [] X.hlopcs.s X.hlopcs.d G hg (by have := hA.d; omega) (fun _ h => nomatch h) List.nodup_nil (fun _ h => nomatch h) (fun _ _ _ hT hS _ _ _ _ _ _ => BindsTo.of_defaults rfl hT hS rfl rfl) (by decide) ⟨.inr ⟨rfl, rfl⟩, .inr ⟨rfl, rfl⟩, .inr ⟨rfl, rfl⟩, trivial⟩ trivial (fun L cdv cs s₁ hz => ?_) rfl rfl rfl
  intro envz Az cz lmz S Qf hFr hFn
  obtain ⟨o1, cs1, rfl, hd1, hz⟩ := zipS hz
  obtain ⟨o2, cs2, rfl, hd2, hz⟩ := zipS hz
  obtain ⟨o3, rfl, hd3⟩ := zip1 hz
  replace hd1 : o1.data = .cell (some (.str l tb)) := hd1
  replace hd2 : o2.data = .cell (some (.ref xd)) := hd2
  replace hd3 : o3.data = .cell (some (.ref tl)) := hd3
  have hfr := enter_fresh S rfl
  obtain ⟨g1, le1, S, hc1⟩ := S.cell hd1 (hfr _ (.head _))
  obtain ⟨g2, le2, S, hc2⟩ := S.cell hd2 (hfr _ (.tail _ (.head _)))
  obtain ⟨g3, le3, S, hc3⟩ := S.cell hd3 (hfr _ (.tail _ (.tail _ (.head _))))
  replace hc1 := hc1.keeps (le2.trans le3)
  replace hc2 := hc2.keeps le3
  have le := (le1.trans le2).trans le3
  replace G := G.up le
  replace H := H.up le
  replace hx := hx.up le
  replace S : St _ L g3 [] _ _ := S
  (repeat' (walk_at "x"))
  refine lc (cl := [(Str.ofString "text", L + 1), (Str.ofString "language", L + 3), (Str.ofString "data", L + 2)]) rfl rfl (by decide) ?_
  (repeat' (walk_at "x"))
  refine len_rd S hx (by simp; omega) fun tn s S => ?_
  rw [List.length_map]
  (repeat' (walk_at "x"))
  refine range1_it hA.h S (by omega) fun I its s hI It hW S => ?_
  refine compT (fun j g₂ own₂ ys => own₂ = [] ∧ RdA g₂ ys (dP ((ns.take j).map fun n => T.full n .lc b)))
    hI (It _) hW S (by omega) (by decide) rfl ⟨rfl, .nil⟩ (fun C hid j v g₂ own₂ ys s hj hP le2 J hl' S Qe Qs hQe hQs => ?_) (fun D k2 g₂ own₂ ys s hD le2 S J hl' => ?_)
  · obtain ⟨rfl, hys⟩ := J
    refine St.letl S ?_
    intro lmz S
    obtain ⟨t, rfl⟩ := hP
    have hj' : j < ns.length := by omega
    have hnj : ns[j]? = some ns[j] := List.getElem?_eq_getElem hj'
    replace G := G.up le2
    replace hc1 := hc1.keeps le2
    replace hc2 := hc2.keeps le2
    replace hc3 := hc3.keeps le2
    (repeat' (walk_at "x"))
    refine call_fn S G X.hloat.n X.hloat.k rfl ?_
    (repeat' (walk_at "x"))
    refine call_fn S G X.hbase.n X.hbase.k rfl ?_
    (repeat' (walk_at "x"))
    refine kin_and S G (callC (base_spec X G S.keep ((hA.deeper _).le (by omega)) hl.z fun tb2 g4 s A1 => ?_))
    replace S := S.back0 A1
    replace G := G.up A1.le
    rw [hl.e]
    (repeat' (walk_at "x"))
    refine kin_and S G (callC (loat_spec X Y G S.keep ((hA.deeper _).le (by omega)) ((H.up le2).up A1.le) hT ((hx.up le2).up A1.le) (by omega) hnj (hns _ (List.getElem_mem hj')) hl.zb fun fv g5 s A2 hfv => ?_))
    replace S := S.back0 A2
    rw [hl.bb] at hfv
    (repeat' (walk_at "x"))
    refine ⟨g5, [], _, A1.le.trans A2.le, S, rfl, ?_⟩
    have et : ns.take (j + 1) = ns.take j ++ [ns[j]] := by rw [List.take_succ, hnj]; rfl
    rw [et, List.map_append]
    unfold dP
    rw [List.map_append]
    exact (hys.up (A1.le.trans A2.le)).app (.one hfv)
  · obtain ⟨rfl, hys⟩ := J
    refine St.letl S ?_
    intro lmz S
    rw [List.take_of_length_le (by omega)] at hys
    obtain ⟨g', le', S, hF'⟩ := S.freeze (pre := []) rfl hD
    (repeat' (walk_at "x"))
    exact h _ g' _ S.aft (.list (lobj_is hF') (hys.up le'))
theorem uppcs_spec (X : Fns K) (Y : Cls K) (G : Gl K g) (hg : Le g s.heap) (hA : Rm A 14) {xd tl : Addr} {T : Md} {ns : List Int} {l b : Str} {tb : Tok} (H : Dat prog w Y g xd T.F) (hT : MdOk T) (hx : Rd g (.ref tl) (.list (dI ns))) (hzl : ns.length ≤ 100) (hns : ∀ n ∈ ns, 0 ≤ n) (hl : LangOk l b) {R : Result → Shared → Prop}
    (h : ∀ r g' s', Aft s g [] g' [] s' → Rd g' (.ref r) (.list (dP (ns.map fun n => T.full n .uc b))) → R (.ok (.ret (.ref r))) s') :
    codeAny (model prog w) A (.call (.ref X.uppcs) ⟨[.ref tl, .ref xd, .str l tb], []⟩) R s := by
  refine enterD (own := []) [(Str.ofString "text", .ref tl), (Str.ofString "data", .ref xd), (Str.ofString "language", .str l tb)] [] X.huppcs.s X.huppcs.d G hg (by have := hA.d; omega) (fun _ h => nomatch h) List.nodup_nil (fun _ h => nomatch h) (fun _ _ _ hT hS _ _ _ _ _ _ => BindsTo.of_defaults rfl hT hS rfl rfl) (by decide) ⟨.inr ⟨rfl, rfl⟩, .inr ⟨rfl, rfl⟩, .inr ⟨rfl, rfl⟩, trivial⟩ trivial (fun L cdv cs s₁ hz => ?_) rfl rfl rfl
  intro envz Az cz lmz S Qf hFr hFn
  obtain ⟨o1, cs1, rfl, hd1, hz⟩ := zipS hz
  obtain ⟨o2, cs2, rfl, hd2, hz⟩ := zipS hz
  obtain ⟨o3, rfl, hd3⟩ := zip1 hz
  replace hd1 : o1.data = .cell (some (.str l tb)) := hd1
  replace hd2 : o2.data = .cell (some (.ref xd)) := hd2
  replace hd3 : o3.data = .cell (some (.ref tl)) := hd3
  have hfr := enter_fresh S rfl
  obtain ⟨g1, le1, S, hc1⟩ := S.cell hd1 (hfr _ (.head _))
  obtain ⟨g2, le2, S, hc2⟩ := S.cell hd2 (hfr _ (.tail _ (.head _)))
  obtain ⟨g3, le3, S, hc3⟩ := S.cell hd3 (hfr _ (.tail _ (.tail _ (.head _))))
  replace hc1 := hc1.keeps (le2.trans le3)
  replace hc2 := hc2.keeps le3
  have le := (le1.trans le2).trans le3
  replace G := G.up le
  replace H := H.up le
  replace hx := hx.up le
  replace S : St _ L g3 [] _ _ := S
  (repeat' (walk_at "x"))
  refine call_fn S G X.hbase.n X.hbase.k rfl ?_
  (repeat' (walk_at "x"))
  refine kin_and S G (callC (base_spec X G S.keep ((hA.deeper _).le (by omega)) hl.z fun tb2 g4 s A1 => ?_))
  replace S := S.back0 A1
  have le0 := A1.le
  replace G := G.up le0
  replace H := H.up le0
  replace hx := hx.up le0
  replace hc1 := hc1.keeps le0
  replace hc2 := hc2.keeps le0
  replace hc3 := hc3.keeps le0
  rw [hl.e]
  (repeat' (walk_at "x"))
  refine ite_isnt hl.el ?_
  (repeat' (walk_at "x"))
  refine lc (cl := [(Str.ofString "text", L + 1), (Str.ofString "language", L + 3), (Str.ofString "data", L + 2)]) rfl rfl (by decide) ?_
  (repeat' (walk_at "x"))
  refine len_rd S hx (by simp; omega) fun tn s S => ?_
  rw [List.length_map]
  (repeat' (walk_at "x"))
  refine range1_it hA.h S (by omega) fun I its s hI It hW S => ?_
  refine compT (fun j g₂ own₂ ys => own₂ = [] ∧ RdA g₂ ys (dP ((ns.take j).map fun n => T.full n .uc b)))
    hI (It _) hW S (by omega) (by decide) rfl ⟨rfl, .nil⟩ (fun C hid j v g₂ own₂ ys s hj hP le2 J hl' S Qe Qs hQe hQs => ?_) (fun D k2 g₂ own₂ ys s hD le2 S J hl' => ?_)
  · obtain ⟨rfl, hys⟩ := J
    refine St.letl S ?_
    intro lmz S
    obtain ⟨t, rfl⟩ := hP
    have hj' : j < ns.length := by omega
    have hnj : ns[j]? = some ns[j] := List.getElem?_eq_getElem hj'
    replace G := G.up le2
    replace hc1 := hc1.keeps le2
    replace hc2 := hc2.keeps le2
    replace hc3 := hc3.keeps le2
    (repeat' (walk_at "x"))
    refine call_fn S G X.hupat.n X.hupat.k rfl ?_
    (repeat' (walk_at "x"))
    refine call_fn S G X.hbase.n X.hbase.k rfl ?_
    (repeat' (walk_at "x"))
    refine kin_and S G (callC (base_spec X G S.keep ((hA.deeper _).le (by omega)) hl.z fun tb2 g4 s A1 => ?_))
    replace S := S.back0 A1
    replace G := G.up A1.le
    rw [hl.e]
    (repeat' (walk_at "x"))
    refine kin_and S G (callC (upat_spec X Y G S.keep ((hA.deeper _).le (by omega)) ((H.up le2).up A1.le) hT ((hx.up le2).up A1.le) (by omega) hnj (hns _ (List.getElem_mem hj')) hl.zb fun fv g5 s A2 hfv => ?_))
    replace S := S.back0 A2
    rw [hl.bb] at hfv
    (repeat' (walk_at "x"))
    refine ⟨g5, [], _, A1.le.trans A2.le, S, rfl, ?_⟩
    have et : ns.take (j + 1) = ns.take j ++ [ns[j]] := by rw [List.take_succ, hnj]; rfl
    rw [et, List.map_append]
    unfold dP
    rw [List.map_append]
    exact (hys.up (A1.le.trans A2.le)).app (.one hfv)
  · obtain ⟨rfl, hys⟩ := J
    refine St.letl S ?_
    intro lmz S
    rw [List.take_of_length_le (by omega)] at hys
    obtain ⟨g', le', S, hF'⟩ := S.freeze (pre := []) rfl hD
    (repeat' (walk_at "x"))
    exact h _ g' _ S.aft (.list (lobj_is hF') (hys.up le'))
theorem lower_spec (X : Fns K) (Y : Cls K) (G : Gl K g) (hg : Le g s.heap) (hA : Rm A 15) {xd tl : Addr} {T : Md} {ns : List Int} {l b : Str} {tb : Tok} (H : Dat prog w Y g xd T.F) (hT : MdOk T) (hx : Rd g (.ref tl) (.list (dI ns))) (hzl : ns.length ≤ 100) (hns : ∀ n ∈ ns, 0 ≤ n) (hl : LangOk l b) {R : Result → Shared → Prop}
    (h : ∀ r g' s', Aft s g [] g' [] s' → Rd g' (.ref r) (.list (dI (ns.map fun n => T.full n .lc b).flatten)) → R (.ok (.ret (.ref r))) s') :
    codeAny (model prog w) A (.call (.ref X.lower) ⟨[.ref tl, .ref xd, .str l tb], []⟩) R s := by
  refine enterD (own := []) [(Str.ofString "text", .ref tl), (Str.ofString "data", .ref xd), (Str.ofString "language", .str l tb)] [(Str.ofString "text", .ref tl), (Str.ofString "data", .ref xd), (Str.ofString "language", .str l tb)] X.hlower.s X.hlower.d G hg (by have := hA.d; omega) (fun _ h => nomatch h) List.nodup_nil (fun _ h => nomatch h) (fun _ _ _ hT hS _ _ _ _ _ _ => BindsTo.of_defaults rfl hT hS rfl rfl) (by decide) ⟨.inl rfl, .inl rfl, .inl rfl, trivial⟩ ⟨rfl, rfl, rfl, trivial⟩ (fun L cdv cs s₁ hz => ?_) rfl rfl rfl
  intro envz Az cz lmz S Qf hFr hFn
  cases hz
  (repeat' (walk_at "x"))
  refine call_fn S G X.hcjoin.n X.hcjoin.k rfl ?_
  (repeat' (walk_at "x"))
  refine call_fn S G X.hlopcs.n X.hlopcs.k rfl ?_
  (repeat' (walk_at "x"))
  refine kin_and S G (callC (lopcs_spec X Y G S.keep ((hA.deeper _).le (by omega)) H hT hx hzl hns hl fun r g1 s A1 hr => ?_))
  replace S := S.back0 A1
  replace G := G.up A1.le
  (repeat' (walk_at "x"))
  refine kin_and S G (callC (cjoin_spec X G S.keep ((hA.deeper _).le (by omega)) hr (by simp; omega) (fun p hp => by
    obtain ⟨n, _, rfl⟩ := List.mem_map.mp hp
    exact full_len hT n .lc b) fun r g2 s A2 hr => ?_))
  replace S := S.back0 A2
  (repeat' (walk_at "x"))
  exact h r g2 s S.aft hr
theorem upper_spec (X : Fns K) (Y : Cls K) (G : Gl K g) (hg : Le g s.heap) (hA : Rm A 15) {xd tl : Addr} {T : Md} {ns : List Int} {l b : Str} {tb : Tok} (H : Dat prog w Y g xd T.F) (hT : MdOk T) (hx : Rd g (.ref tl) (.list (dI ns))) (hzl : ns.length ≤ 100) (hns : ∀ n ∈ ns, 0 ≤ n) (hl : LangOk l b) {R : Result → Shared → Prop}
    (h : ∀ r g' s', Aft s g [] g' [] s' → Rd g' (.ref r) (.list (dI (ns.map fun n => T.full n .uc b).flatten)) → R (.ok (.ret (.ref r))) s') :
    codeAny (model prog w) A (.call (.ref X.upper) ⟨[.ref tl, .ref xd, .str l tb], []⟩) R s := by
  refine enterD (own := []) [(Str.ofString "text", .ref tl), (Str.ofString "data", .ref xd), (Str.ofString "language", .str l tb)] [(Str.ofString "text", .ref tl), (Str.ofString "data", .ref xd), (Str.ofString "language", .str l tb)] X.hupper.s X.hupper.d G hg (by have := hA.d; omega) (fun _ h => nomatch h) List.nodup_nil (fun _ h => nomatch h) (fun _ _ _ hT hS _ _ _ _ _ _ => BindsTo.of_defaults rfl hT hS rfl rfl) (by decide) ⟨.inl rfl, .inl rfl, .inl rfl, trivial⟩ ⟨rfl, rfl, rfl, trivial⟩ (fun L cdv cs s₁ hz => ?_) rfl rfl rfl
  intro envz Az cz lmz S Qf hFr hFn
  cases hz
  (repeat' (walk_at "x"))
  refine call_fn S G X.hcjoin.n X.hcjoin.k rfl ?_
  (repeat' (walk_at "x"))
  refine call_fn S G X.huppcs.n X.huppcs.k rfl ?_
  (repeat' (walk_at "x"))
  refine kin_and S G (callC (uppcs_spec X Y G S.keep ((hA.deeper _).le (by omega)) H hT hx hzl hns hl fun r g1 s A1 hr => ?_))
  replace S := S.back0 A1
  replace G := G.up A1.le
  (repeat' (walk_at "x"))
  refine kin_and S G (callC (cjoin_spec X G S.keep ((hA.deeper _).le (by omega)) hr (by simp; omega) (fun p hp => by
    obtain ⟨n, _, rfl⟩ := List.mem_map.mp hp
    exact full_len hT n .uc b) fun r g2 s A2 hr => ?_))
  replace S := S.back0 A2
  (repeat' (walk_at "x"))
  exact h r g2 s S.aft hr

end
end Mine
end
section
set_option maxRecDepth 100000
set_option maxHeartbeats 1000000
namespace Mine
section
variable {prog : Program} {w : World} {A : Around} {s : Shared} {K : Frag} {g : Heap}
theorem first_spec (X : Fns K) (Y : Cls K) (G : Gl K g) (hg : Le g s.heap) (hA : Rm A 7) {xd tl : Addr} {T : Md} {ns : List Int} {lo hi : Nat} {ta tb : Tok} (H : Dat prog w Y g xd T.F) (hx : Rd g (.ref tl) (.list (dI ns))) (hzl : ns.length ≤ 100) (hns : ∀ n ∈ ns, 0 ≤ n) (hlo : lo ≤ hi) (hhi : hi ≤ ns.length) {R : Result → Shared → Prop}
    (h1 : ∀ k t g' s', Aft s g [] g' [] s' → lo ≤ k → k < hi → T.cased (ns.getD k 0) = true → (∀ j, lo ≤ j → j < k → T.cased (ns.getD j 0) = false) → R (.ok (.ret (.int (k : Nat) t))) s')
    (h2 : ∀ g' s', Aft s g [] g' [] s' → (∀ j, lo ≤ j → j < hi → T.cased (ns.getD j 0) = false) → R (.ok (.ret .none)) s') :
    codeAny (model prog w) A (.call (.ref X.first) ⟨[.ref tl, .int lo ta, .int hi tb, .ref xd], []⟩) R s := by
  refine enter0 [(Str.ofString "text", .ref tl), (Str.ofString "low", .int lo ta), (Str.ofString "high", .int hi tb), (Str.ofString "data", .ref xd)] X.hfirst.s G hg (hA.le (by omega)) (fun _ _ _ _ _ _ => rfl) (by decide) ⟨.inl rfl, .inl rfl, .inl rfl, .inl rfl, trivial⟩ ⟨rfl, rfl, rfl, rfl, trivial⟩ (fun L cdv cs s₁ hz => ?_) rfl rfl rfl
  intro envz Az cz lmz S Qf hFr hFn
  cases hz
  (repeat' (walk_at "x"))
  refine range2_it hA.h S (by omega) fun I its s hI It hW S => ?_
  refine forI (fun i g₁ own₁ lm₁ => own₁ = [] ∧ lm₁ = [(Str.ofString "text", .ref tl), (Str.ofString "low", .int lo ta), (Str.ofString "high", .int hi tb), (Str.ofString "data", .ref xd)] ∧ ∀ j, lo ≤ j → j < lo + i → T.cased (ns.getD j 0) = false)
    hI (It _) hW S ⟨rfl, rfl, fun j _ _ => by omega⟩ ⟨rfl, rfl, rfl, rfl, trivial⟩ (fun i v g₁ own₁ lm₁ s its hi' hP le J S Qn hQn hQc hQb hQr => ?_) (fun gE own₁ lm₁ s le S J => ?_)
  · obtain ⟨rfl, rfl, hJ⟩ := J
    refine St.letl S ?_
    intro lmz S
    obtain ⟨t, rfl⟩ := hP
    have e0 : ((lo : Int) + (i : Int)) = ((lo + i : Nat) : Int) := by omega
    rw [e0]
    generalize hk : lo + i = k at *
    have hk2 : k < ns.length := by omega
    have hnk : ns[k]? = some ns[k] := List.getElem?_eq_getElem hk2
    have hgd : ns.getD k 0 = ns[k] := by rw [List.getD_eq_getElem?_getD, hnk]; rfl
    replace G := G.up le
    (repeat' (walk_at "x"))
    refine dat_meth S G (H.up le) ?_
    refine call_m Y.hdaG.k G ?_
    (repeat' (walk_at "x"))
    refine item_rd S (hx.up le) (by omega) (dI_get (n := ns[k]) (by simpa using hnk)) (by simp; omega) fun nv hnv => ?_
    obtain ⟨tn, rfl⟩ := rd_int hnv
    (repeat' (walk_at "x"))
    refine kin_and S G (callC (daG_spec X Y G S.keep ((hA.deeper _).le (by omega)) (H.up le) cased_7 (hns _ (List.getElem_mem hk2)) fun dv g1 s A' hv => ?_))
    replace S := S.back0 A'
    rw [F_cased] at hv
    obtain ⟨as, hv⟩ := hv
    cases hv
    (repeat' (walk_at "x"))
    cases ec : T.cased ns[k]
    · refine ite_isnt rfl ?_
      (repeat' (walk_at "x"))
      (repeat' (walk_at "x"))
      refine forEnd (own₂ := []) S A'.le ⟨rfl, rfl, fun j a b => ?_⟩ ⟨rfl, rfl, rfl, rfl, trivial⟩
      by_cases hj : j < k
      · exact hJ j a hj
      · have : j = k := by omega
        rw [this, hgd]; exact ec
    · refine ite_is rfl ?_
      (repeat' (walk_at "x"))
      have S' : St _ L g1 ([] ++ []) _ s := S.drop (List.sublist_append_right _ _) (fun _ h => nomatch h)
      exact h1 k _ g1 s S'.aft (by omega) (by omega) (by rw [hgd]; exact ec) hJ
  · obtain ⟨rfl, rfl, hJ⟩ := J
    refine St.letl S ?_
    intro lmz S
    (repeat' (walk_at "x"))
    exact h2 gE s S.aft fun j a b => hJ j a (by omega)

end
end Mine
end
section
set_option maxRecDepth 100000
set_option maxHeartbeats 1000000
namespace Mine
section
variable {prog : Program} {w : World} {A : Around} {s : Shared} {K : Frag} {g : Heap}
def wI (ws : List Nat) : List Int := ws.map fun (k : Nat) => (k : Int)
def begs (n : Nat) (ws : List Nat) : List Nat := 0 :: ws.filter fun k => decide (0 < k ∧ k < n)
def segs (n : Nat) (ws : List Nat) : List (Nat × Nat) := ((begs n ws).zip ((begs n ws).tail ++ [n])).filter fun p => decide (p.1 < p.2)
def dPr (ps : List (Nat × Nat)) : List PyData := ps.map fun p => .tuple [.int p.1, .int p.2]
theorem len_dI (ns : List Int) : (dI ns).length = ns.length := List.length_map _
theorem len_wI (ws : List Nat) : (wI ws).length = ws.length := List.length_map _
theorem wI_get {ws : List Nat} {i : Nat} {d : PyData} (h : (dI (wI ws))[i]? = some d) : ∃ k : Nat, ws[i]? = some k ∧ d = .int k := by
  rw [List.getElem?_map] at h
  obtain ⟨x, hx, rfl⟩ := Option.map_eq_some_iff.mp h
  unfold wI at hx
  rw [List.getElem?_map] at hx
  obtain ⟨k, hk, rfl⟩ := Option.map_eq_some_iff.mp hx
  exact ⟨k, hk, rfl⟩
theorem take_snoc {α : Type} {l : List α} {i : Nat} {x : α} (h : l[i]? = some x) : l.take (i + 1) = l.take i ++ [x] := by rw [List.take_succ, h]; rfl
theorem ite_d2 {P p q : Prop} [Decidable P] (h1 : P → p) (h2 : ¬P → q) : if decide P = true then p else q := ite_d h1 h2
theorem segs_spec (X : Fns K) (G : Gl K g) (hg : Le g s.heap) (hA : Rm A 3) {tl wl : Addr} {ns : List Int} {ws : List Nat} (hx : Rd g (.ref tl) (.list (dI ns))) (hzl : ns.length ≤ 100) (hwl : Rd g (.ref wl) (.list (dI (wI ws)))) (hzw : ws.length ≤ 100) {R : Result → Shared → Prop}
    (h : ∀ r g' s', Aft s g [] g' [] s' → Rd g' (.ref r) (.list (dPr (segs ns.length ws))) → R (.ok (.ret (.ref r))) s') :
    codeAny (model prog w) A (.call (.ref X.segs) ⟨[.ref tl, .ref wl], []⟩) R s := by
  refine enter (own := []) (binds := [(Str.ofString "text", .ref tl), (Str.ofString "words", .ref wl)]) (lm := [(Str.ofString "words", .ref wl)]) X.hsegs.s G hg (by have := hA.d; omega) (fun _ h => nomatch h) List.nodup_nil (fun _ h => nomatch h) (fun _ _ _ _ _ _ => BindsTo.of_eq rfl) (by decide) ⟨.inr ⟨rfl, rfl⟩, .inl rfl, trivial⟩ ⟨rfl, trivial⟩ (fun L cdv cs s₁ hz => ?_) rfl rfl rfl
  intro envz Az cz lmz S Qf hFr hFn
  obtain ⟨o1, rfl, hd1⟩ := zip1 hz
  replace hd1 : o1.data = .cell (some (.ref tl)) := hd1
  obtain ⟨g1, le1, S, hc1⟩ := S.cell hd1 (enter_fresh S rfl _ (.head _))
  replace S : St _ L g1 [] _ _ := S
  replace G := G.up le1
  replace hx := hx.up le1
  replace hwl := hwl.up le1
  (repeat' (walk_at "x"))
  refine mk_list (ds := dI (wI [0])) S (.one (.int _ _)) (Nat.le_of_ble_eq_true rfl) fun Z g2 s le S hZ => ?_
  (((try replace G := G.up le); (try replace hle := Le.trans hle le); (try replace hc1 := hc1.keeps le); (try replace hc2 := hc2.keeps le); (try replace hc3 := hc3.keeps le); (try replace hxs := hxs.up le); (try replace hys := hys.up le); (try replace hT := hT.up le); (try replace h1 := h1.up le); (try replace h2 := h2.up le); (try replace h3 := h3.up le); (try replace h4 := h4.up le); (try replace h5 := h5.up le); (try replace hD := hD.up le); (try replace hW := hW.up le)))
  replace hx := hx.up le
  replace hwl := hwl.up le
  (repeat' (walk_at "x"))
  refine lc (cl := [(Str.ofString "text", L + 1)]) rfl rfl (by decide) ?_
  (repeat' (walk_at "x"))
  refine start_rdL hA.h S hwl fun I its s hI It hW S => ?_
  refine compT (fun j g₂ own₂ ys => own₂ = [] ∧ RdA g₂ ys (dI (wI ((ws.take j).filter fun k => decide (0 < k ∧ k < ns.length)))))
    hI (It _) hW S (by simp [wI]; omega) (by decide) rfl ⟨rfl, .nil⟩ (fun C hid j v g₂ own₂ ys s hj hP le2 J hl' S Qe Qs hQe hQs => ?_) (fun D k2 g₂ own₂ ys s hD le2 S J hl' => ?_)
  · obtain ⟨rfl, hys⟩ := J
    refine St.letl S ?_
    intro lmz S
    obtain ⟨d, hd, hv⟩ := hP
    obtain ⟨k, hk, rfl⟩ := wI_get hd
    obtain ⟨t, rfl⟩ := rd_int hv
    have le := le2
    (((try replace G := G.up le); (try replace hle := Le.trans hle le); (try replace hc1 := hc1.keeps le); (try replace hc2 := hc2.keeps le); (try replace hc3 := hc3.keeps le); (try replace hxs := hxs.up le); (try replace hys := hys.up le); (try replace hT := hT.up le); (try replace h1 := h1.up le); (try replace h2 := h2.up le); (try replace h3 := h3.up le); (try replace h4 := h4.up le); (try replace h5 := h5.up le); (try replace hD := hD.up le); (try replace hW := hW.up le)))
    have et := take_snoc hk
    (repeat' (walk_at "x"))
    refine ite_d (fun c1 => ?_) (fun c1 => ?_)
    · (repeat' (walk_at "x"))
      refine len_rd S (hx.up le2) (by simp; omega) fun tn s S => ?_
      rw [List.length_map]
      (repeat' (walk_at "x"))
      refine ite_d (fun c2 => ?_) (fun c2 => ?_)
      · (repeat' (walk_at "x"))
        (repeat' (walk_at "x"))
        refine ⟨_, [], _, Le.refl _, S, rfl, ?_⟩
        rw [et, List.filter_append, List.filter_cons_of_pos (by simp; omega), List.filter_nil]
        unfold wI
        rw [List.map_append]
        exact hys.snocI (.int _ _)
      · (repeat' (walk_at "x"))
        refine ⟨_, [], _, Le.refl _, S, rfl, ?_⟩
        rw [et, List.filter_append, List.filter_cons_of_neg (by simp; omega), List.filter_nil, List.append_nil]
        exact hys
    · (repeat' (walk_at "x"))
      refine ⟨_, [], _, Le.refl _, S, rfl, ?_⟩
      rw [et, List.filter_append, List.filter_cons_of_neg (by simp; omega), List.filter_nil, List.append_nil]
      exact hys
  · obtain ⟨rfl, hys⟩ := J
    refine St.letl S ?_
    intro lmz S
    rw [List.take_of_length_le (by simp [wI])] at hys
    obtain ⟨g', le', S, hF'⟩ := S.freeze (pre := []) rfl hD
    have hB : Rd g' (.ref D) _ := .list (lobj_is hF') (hys.up le')
    have le := le2.trans le'
    (((try replace G := G.up le); (try replace hle := Le.trans hle le); (try replace hc1 := hc1.keeps le); (try replace hc2 := hc2.keeps le); (try replace hc3 := hc3.keeps le); (try replace hxs := hxs.up le); (try replace hys := hys.up le); (try replace hT := hT.up le); (try replace h1 := h1.up le); (try replace h2 := h2.up le); (try replace h3 := h3.up le); (try replace h4 := h4.up le); (try replace h5 := h5.up le); (try replace hD := hD.up le); (try replace hW := hW.up le)))
    replace hx := hx.up le
    have hfl := List.length_filter_le (fun k => decide (0 < k ∧ k < ns.length)) ws
    refine addR S (hZ.up le) hB (by simp [wI]) (by rw [len_dI, len_wI]; omega) fun B g3 s le3 S hB => ?_
    replace hB : Rd g3 (.ref B) (.list (dI (wI (begs ns.length ws)))) := hB
    have hbl : (begs ns.length ws).length ≤ 101 := by unfold begs; simp only [List.length_cons]; omega
    replace G := G.up le3
    replace hx := hx.up le3
    replace hc1 := hc1.keeps le3
    (repeat' (walk_at "x"))
    refine lc (cl := []) rfl rfl (by decide) ?_
    (repeat' (walk_at "x"))
    refine slR_from S hB (by simp [wI]; omega) (by decide) fun B1 g4 s le4 S hB1 => ?_
    replace G := G.up le4
    replace hx := hx.up le4
    replace hc1 := hc1.keeps le4
    replace hB := hB.up le4
    (repeat' (walk_at "x"))
    refine len_rd S hx (by simp; omega) fun tn s S => ?_
    rw [List.length_map]
    (repeat' (walk_at "x"))
    refine mk_list (ds := dI (wI [ns.length])) S (.one (.int _ _)) (Nat.le_of_ble_eq_true rfl) fun Z2 g5 s le5 S hZ2 => ?_
    refine addR S (hB1.up le5) hZ2 (by simp [wI]; omega) (by simp [wI]) fun B2 g6 s le6 S hB2 => ?_
    replace hB2 : Rd g6 (.ref B2) (.list (dI (wI ((begs ns.length ws).tail ++ [ns.length])))) := by
      have e : dI (wI ((begs ns.length ws).tail ++ [ns.length])) = (dI (wI (begs ns.length ws))).drop (1 : Int).toNat ++ dI (wI [ns.length]) := by
        show _ = (dI (wI (begs ns.length ws))).drop 1 ++ _
        unfold wI dI
        rw [List.map_append, List.map_append, List.drop_one, List.map_tail, List.map_tail]
      rw [e]; exact hB2
    replace G := G.up (le5.trans le6)
    replace hB := hB.up (le5.trans le6)
    obtain ⟨_, xs1, q1, hL1, hr1⟩ := rd_list hB
    cases q1
    obtain ⟨_, xs2, q2, hL2, hr2⟩ := rd_list hB2
    cases q2
    have hlen1 := hr1.length
    have hlen2 := hr2.length
    (repeat' (walk_at "x"))
    refine zip_it hA.h S hL1 hL2 fun I its g7 s wr le7 hI It hW S => ?_
    replace G := G.up le7
    refine compT (fun j g₂ own₂ ys => own₂ = [] ∧ RdA g₂ ys (dPr ((((begs ns.length ws).zip ((begs ns.length ws).tail ++ [ns.length])).take j).filter fun p => decide (p.1 < p.2))))
      hI (It _ _ _) hW S (by rw [hlen1]; simp [wI]; omega) (by decide) rfl ⟨rfl, .nil⟩ (fun C hid j v g₂ own₂ ys s hj hP le2 J hl' S Qe Qs hQe hQs => ?_) (fun D k2 g₂ own₂ ys s hD le2 S J hl' => ?_)
    · obtain ⟨rfl, hys⟩ := J
      refine St.letl S ?_
      intro lmz S
      obtain ⟨T, x, y, rfl, hx1, hy1, hT⟩ := hP
      obtain ⟨d1, hd1, r1⟩ := hr1.at hx1
      obtain ⟨d2, hd2, r2⟩ := hr2.at hy1
      obtain ⟨a, ha, rfl⟩ := wI_get hd1
      obtain ⟨b, hb, rfl⟩ := wI_get hd2
      obtain ⟨ta, rfl⟩ := rd_int r1
      obtain ⟨tb, rfl⟩ := rd_int r2
      have hz : ((begs ns.length ws).zip ((begs ns.length ws).tail ++ [ns.length]))[j]? = some (a, b) := by
        rw [List.getElem?_zip_eq_some]; exact ⟨ha, hb⟩
      have et := take_snoc hz
      replace G := G.up le2
      refine asg2 hA.h S hT fun s S => ?_
      (repeat' (walk_at "x"))
      refine ite_d (fun c => ?_) (fun c => ?_)
      · (repeat' (walk_at "x"))
        refine mk_tuple S (.cons (.int _ _) (.one (.int _ _))) (Nat.le_of_ble_eq_true rfl) fun P ga s lea S hP => ?_
        (repeat' (walk_at "x"))
        refine ⟨ga, [], _, lea, S, rfl, ?_⟩
        rw [et, List.filter_append, List.filter_cons_of_pos (by simp; omega), List.filter_nil]
        unfold dPr
        rw [List.map_append]
        exact (hys.up lea).app (.one hP)
      · (repeat' (walk_at "x"))
        refine ⟨_, [], _, Le.refl _, S, rfl, ?_⟩
        rw [et, List.filter_append, List.filter_cons_of_neg (by simp; omega), List.filter_nil, List.append_nil]
        exact hys
    · obtain ⟨rfl, hys⟩ := J
      refine St.letl S ?_
      intro lmz S
      rw [List.take_of_length_le (by simp [hlen1, hlen2, wI])] at hys
      obtain ⟨g', le', S, hF'⟩ := S.freeze (pre := []) rfl hD
      (repeat' (walk_at "x"))
      exact h _ g' _ S.aft (.list (lobj_is hF') (hys.up le'))

end
end Mine
end
section
set_option genInjectivity false
set_option genSizeOf false
set_option maxRecDepth 100000
set_option maxHeartbeats 1000000
namespace Mine
def bgB (T : Md) (ns : List Int) (ws : List Nat) (k : Nat) : Bool := (List.range k).any fun j => T.cased (ns.getD j 0) && ws.all fun w => !decide (j < w ∧ w ≤ k)
def tval (T : Md) (ns : List Int) (ws : List Nat) (b : Str) (k : Nat) : List Int :=
  if bgB T ns ws k = true then T.full (ns.getD k 0) .lc b else if T.cased (ns.getD k 0) = true then T.full (ns.getD k 0) .tc b else [ns.getD k 0]
def titl (T : Md) (ns : List Int) (ws : List Nat) (b : Str) : List (List Int) := (List.range ns.length).map (tval T ns ws b)
theorem bgB_iff {T : Md} {ns : List Int} {ws : List Nat} {k : Nat} : bgB T ns ws k = true ↔ ∃ j, j < k ∧ T.cased (ns.getD j 0) = true ∧ ∀ w ∈ ws, ¬ (j < w ∧ w ≤ k) := by
  unfold bgB
  rw [List.any_eq_true]
  constructor
  · rintro ⟨j, hj, h⟩
    rw [Bool.and_eq_true, List.all_eq_true] at h
    exact ⟨j, List.mem_range.mp hj, h.1, fun w hw => by have := h.2 w hw; simp at this; omega⟩
  · rintro ⟨j, hj, h1, h2⟩
    refine ⟨j, List.mem_range.mpr hj, ?_⟩
    rw [Bool.and_eq_true, List.all_eq_true]
    exact ⟨h1, fun w hw => by have := h2 w hw; simp; omega⟩
/-- the words' stretches -/
inductive Part (n : Nat) (ws : List Nat) : Nat → List (Nat × Nat) → Prop
  | nil : Part n ws n []
  | cons {a b : Nat} {l : List (Nat × Nat)} : a < b → b ≤ n → (∀ w ∈ ws, ¬ (a < w ∧ w < b)) → (a = 0 ∨ a ∈ ws) → Part n ws b l → Part n ws a ((a, b) :: l)
theorem part_of {n : Nat} {ws : List Nat} : ∀ (r : List Nat) (a : Nat), a < n → (a :: r).Pairwise (· < ·) → (∀ x ∈ r, x < n ∧ x ∈ ws) → (a = 0 ∨ a ∈ ws) → (∀ w ∈ ws, a < w → w < n → w ∈ r) →
    Part n ws a (((a :: r).zip (r ++ [n])).filter fun p => decide (p.1 < p.2)) := by
  intro r
  induction r with
  | nil =>
    intro a h1 _ _ h3 h4
    show Part n ws a (([(a, n)] : List (Nat × Nat)).filter fun p => decide (p.1 < p.2))
    rw [List.filter_cons_of_pos (by simpa using h1), List.filter_nil]
    exact .cons h1 (Nat.le_refl _) (fun w hw h => by have := h4 w hw h.1 h.2; cases this) h3 .nil
  | cons b r ih =>
    intro a h1 hs h2 h3 h4
    have hab := (List.pairwise_cons.mp hs).1 b (.head _)
    have hs2 := (List.pairwise_cons.mp hs).2
    show Part n ws a (((a, b) :: ((b :: r).zip (r ++ [n]))).filter fun p => decide (p.1 < p.2))
    rw [List.filter_cons_of_pos (by simpa using hab)]
    refine .cons hab (Nat.le_of_lt (h2 b (.head _)).1) (fun w hw h => ?_) h3 (ih b (h2 b (.head _)).1 hs2 (fun x hx => h2 x (.tail _ hx)) (.inr (h2 b (.head _)).2) fun w hw h5 h6 => ?_)
    · have h7 := h4 w hw h.1 (Nat.lt_trans h.2 (h2 b (.head _)).1)
      rcases List.mem_cons.mp h7 with e | e
      · omega
      · have := (List.pairwise_cons.mp hs2).1 w e
        omega
    · have h7 := h4 w hw (Nat.lt_trans hab h5) h6
      rcases List.mem_cons.mp h7 with e | e
      · omega
      · exact e
theorem part_segs {n : Nat} {ws : List Nat} (hs : ws.Pairwise (· < ·)) : Part n ws 0 (segs n ws) := by
  unfold segs begs
  by_cases hn : 0 < n
  · refine part_of _ 0 hn ?_ (fun x hx => ?_) (.inl rfl) fun w hw h1 h2 => ?_
    · rw [List.pairwise_cons]
      refine ⟨fun x hx => ?_, hs.filter _⟩
      have := of_decide_eq_true (List.mem_filter.mp hx).2
      exact this.1
    · have := List.mem_filter.mp hx
      exact ⟨(of_decide_eq_true this.2).2, this.1⟩
    · exact List.mem_filter.mpr ⟨hw, decide_eq_true ⟨h1, h2⟩⟩
  · have : n = 0 := by omega
    subst this
    have e : ws.filter (fun k => decide (0 < k ∧ k < 0)) = [] := List.filter_eq_nil_iff.mpr fun k _ => by simp
    rw [e]
    exact .nil
theorem bg_in {T : Md} {ns : List Int} {ws : List Nat} {a b k : Nat} (h0 : a = 0 ∨ a ∈ ws) (hg : ∀ w ∈ ws, ¬ (a < w ∧ w < b)) (h1 : a ≤ k) (h2 : k < b) : bgB T ns ws k = true ↔ ∃ j, a ≤ j ∧ j < k ∧ T.cased (ns.getD j 0) = true := by
  rw [bgB_iff]
  constructor
  · rintro ⟨j, hj, hc, hw⟩
    refine ⟨j, ?_, hj, hc⟩
    rcases h0 with h | h
    · omega
    · have := hw a h
      omega
  · rintro ⟨j, h3, h4, hc⟩
    exact ⟨j, h4, hc, fun w hw h => hg w hw ⟨by omega, by omega⟩⟩
/-- right up to a place, untouched behind it -/
structure OkTo (T : Md) (ns : List Int) (ws : List Nat) (b : Str) (m : Nat) (vals : List (List Int)) : Prop where
  len : vals.length = ns.length
  lo : ∀ k, k < m → k < ns.length → vals[k]? = some (tval T ns ws b k)
  hi : ∀ k, m ≤ k → k < ns.length → vals[k]? = some [ns.getD k 0]
section
variable {T : Md} {ns : List Int} {ws : List Nat} {b : Str} {m : Nat} {vals : List (List Int)}
theorem OkTo.start : OkTo T ns ws b 0 (ns.map fun n => [n]) := ⟨by simp, fun k h => by omega, fun k _ h => by
  rw [List.getElem?_map, List.getElem?_eq_getElem h, List.getD_eq_getElem?_getD, List.getElem?_eq_getElem h]; rfl⟩
theorem OkTo.set (h : OkTo T ns ws b m vals) {v : List Int} (hv : v = tval T ns ws b m) : OkTo T ns ws b (m + 1) (vals.set m v) := by
  refine ⟨by rw [List.length_set]; exact h.len, fun k h1 h2 => ?_, fun k h1 h2 => ?_⟩
  · rw [List.getElem?_set]
    by_cases e : m = k
    · subst e
      rw [if_pos rfl, if_pos (by rw [h.len]; exact h2), hv]
    · rw [if_neg e]; exact h.lo k (by omega) h2
  · rw [List.getElem?_set, if_neg (by omega)]
    exact h.hi k (by omega) h2
theorem OkTo.skip (h : OkTo T ns ws b m vals) {m' : Nat} (hm : m ≤ m') (hs : ∀ k, m ≤ k → k < m' → k < ns.length → tval T ns ws b k = [ns.getD k 0]) : OkTo T ns ws b m' vals := by
  refine ⟨h.len, fun k h1 h2 => ?_, fun k h1 h2 => h.hi k (by omega) h2⟩
  by_cases e : k < m
  · exact h.lo k e h2
  · rw [hs k (by omega) h1 h2]
    exact h.hi k (by omega) h2
theorem OkTo.all (h : OkTo T ns ws b ns.length vals) : vals = titl T ns ws b := by
  refine List.ext_getElem? fun k => ?_
  unfold titl
  by_cases hk : k < ns.length
  · rw [h.lo k hk hk, List.getElem?_map, List.getElem?_range hk]; rfl
  · rw [List.getElem?_eq_none (by rw [h.len]; omega), List.getElem?_eq_none (by simp; omega)]
end
/-- the law's own reading -/
def lt (T : Md) (ws : List Nat) (b : Str) : Nat → Bool → List Int → List (List Int)
  | _, _, [] => []
  | i, bg, n :: r =>
    let bg' := if i ∈ ws then false else bg
    if bg' = true then T.full n .lc b :: lt T ws b (i + 1) true r
    else if T.cased n = true then T.full n .tc b :: lt T ws b (i + 1) true r
    else [n] :: lt T ws b (i + 1) false r
theorem lt_eq {T : Md} {ws : List Nat} {b : Str} {ns : List Int} : ∀ (r : List Int) (i : Nat) (bg : Bool), ns.drop i = r → (bg = true ↔ ∃ j, j < i ∧ T.cased (ns.getD j 0) = true ∧ ∀ w ∈ ws, ¬ (j < w ∧ w < i)) → lt T ws b i bg r = (List.range' i r.length).map (tval T ns ws b) := by
  intro r
  induction r with
  | nil => intro i bg _ _; rfl
  | cons n r ih =>
    intro i bg hd hbg
    have hi : ns[i]? = some n := by
      have := congrArg List.head? hd
      rwa [List.head?_drop] at this
    have hg : ns.getD i 0 = n := by rw [List.getD_eq_getElem?_getD, hi]; rfl
    have hd' : ns.drop (i + 1) = r := by
      have := congrArg List.tail hd
      rwa [List.tail_drop] at this
    have e1 : (if i ∈ ws then false else bg) = bgB T ns ws i := by
      rw [Bool.eq_iff_iff, bgB_iff]
      by_cases hm : i ∈ ws
      · rw [if_pos hm]
        refine ⟨fun h => (by cases h), fun ⟨j, h1, _, h3⟩ => absurd ⟨h1, Nat.le_refl i⟩ (h3 i hm)⟩
      · rw [if_neg hm, hbg]
        constructor
        · rintro ⟨j, h1, h2, h3⟩
          refine ⟨j, h1, h2, fun w hw h => h3 w hw ⟨h.1, ?_⟩⟩
          rcases Nat.lt_or_eq_of_le h.2 with h | h
          · exact h
          · exact absurd (h ▸ hw) hm
        · rintro ⟨j, h1, h2, h3⟩
          exact ⟨j, h1, h2, fun w hw h => h3 w hw ⟨h.1, Nat.le_of_lt h.2⟩⟩
    have step : ∀ bg2 : Bool, (bg2 = true ↔ bgB T ns ws i = true ∨ T.cased n = true) → lt T ws b (i + 1) bg2 r = (List.range' (i + 1) r.length).map (tval T ns ws b) := fun bg2 hb2 => by
      refine ih (i + 1) bg2 hd' ?_
      rw [hb2, bgB_iff]
      constructor
      · rintro (⟨j, h1, h2, h3⟩ | h)
        · exact ⟨j, by omega, h2, fun w hw h => h3 w hw ⟨h.1, by omega⟩⟩
        · exact ⟨i, by omega, by rw [hg]; exact h, fun w _ h => by omega⟩
      · rintro ⟨j, h1, h2, h3⟩
        by_cases hj : j < i
        · exact .inl ⟨j, hj, h2, fun w hw h => h3 w hw ⟨h.1, by omega⟩⟩
        · have : j = i := by omega
          subst this
          exact .inr (hg ▸ h2)
    rw [List.length_cons, List.range'_succ, List.map_cons]
    unfold lt
    dsimp only
    rw [e1]
    unfold tval
    rw [hg]
    cases hb : bgB T ns ws i with
    | true =>
      rw [if_pos rfl, if_pos rfl, step true (by rw [hb]; simp)]
      rfl
    | false =>
      rw [if_neg Bool.false_ne_true, if_neg Bool.false_ne_true]
      cases hc : T.cased n with
      | true =>
        rw [if_pos rfl, if_pos rfl, step true (by rw [hc]; simp)]
        rfl
      | false =>
        rw [if_neg Bool.false_ne_true, if_neg Bool.false_ne_true, step false (by rw [hb, hc]; simp)]
        rfl
theorem lt_titl {T : Md} {ws : List Nat} {b : Str} {ns : List Int} : lt T ws b 0 false ns = titl T ns ws b := by
  rw [lt_eq (ns := ns) ns 0 false rfl ⟨fun h => (by cases h), fun ⟨j, h, _⟩ => absurd h (Nat.not_lt_zero j)⟩]
  unfold titl
  rw [List.range_eq_range']
end Mine
end
section
set_option maxRecDepth 100000
set_option maxHeartbeats 1000000
namespace Mine
section
variable {prog : Program} {w : World} {A : Around} {s : Shared} {K : Frag} {g : Heap}
theorem dPr_get {ps : List (Nat × Nat)} {i : Nat} {d : PyData} (h : (dPr ps)[i]? = some d) : ∃ p, ps[i]? = some p ∧ d = .tuple [.int p.1, .int p.2] := by
  unfold dPr at h
  rw [List.getElem?_map] at h
  obtain ⟨p, hp, rfl⟩ := Option.map_eq_some_iff.mp h
  exact ⟨p, hp, rfl⟩
theorem dP_set (vals : List (List Int)) (i : Nat) (v : List Int) : dP (vals.set i v) = (dP vals).set i (dT v) := List.map_set
theorem St.assoc {c : Cs} {L : Addr} {a b r : List (Addr × Obj)} {lm : List (Str × Value)} (S : St c L g (a ++ (b ++ r)) lm s) : St c L g ((a ++ b) ++ r) lm s := by
  rw [List.append_assoc]; exact S
theorem tval_plain {T : Md} {ns : List Int} {ws : List Nat} {b : Str} {a e k : Nat} (h0 : a = 0 ∨ a ∈ ws) (hg : ∀ w ∈ ws, ¬ (a < w ∧ w < e)) (h1 : a ≤ k) (h2 : k < e) (hq : ∀ j, a ≤ j → j ≤ k → T.cased (ns.getD j 0) = false) : tval T ns ws b k = [ns.getD k 0] := by
  unfold tval
  rw [if_neg (fun h => by
    obtain ⟨j, h3, h4, h5⟩ := (bg_in h0 hg h1 h2).mp h
    rw [hq j h3 (Nat.le_of_lt h4)] at h5; cases h5), if_neg (by rw [hq k h1 (Nat.le_refl _)]; exact Bool.false_ne_true)]
theorem tval_title {T : Md} {ns : List Int} {ws : List Nat} {b : Str} {a e k : Nat} (h0 : a = 0 ∨ a ∈ ws) (hg : ∀ w ∈ ws, ¬ (a < w ∧ w < e)) (h1 : a ≤ k) (h2 : k < e) (hq : ∀ j, a ≤ j → j < k → T.cased (ns.getD j 0) = false) (hc : T.cased (ns.getD k 0) = true) : tval T ns ws b k = T.full (ns.getD k 0) .tc b := by
  unfold tval
  rw [if_neg (fun h => by
    obtain ⟨j, h3, h4, h5⟩ := (bg_in h0 hg h1 h2).mp h
    rw [hq j h3 h4] at h5; cases h5), if_pos hc]
theorem tval_lower {T : Md} {ns : List Int} {ws : List Nat} {b : Str} {a e k j : Nat} (h0 : a = 0 ∨ a ∈ ws) (hg : ∀ w ∈ ws, ¬ (a < w ∧ w < e)) (h1 : a ≤ k) (h2 : k < e) (h3 : a ≤ j) (h4 : j < k) (hc : T.cased (ns.getD j 0) = true) : tval T ns ws b k = T.full (ns.getD k 0) .lc b := by
  unfold tval
  rw [if_pos ((bg_in h0 hg h1 h2).mpr ⟨j, h3, h4, hc⟩)]
theorem getD_of {ns : List Int} {k : Nat} (h : k < ns.length) : ns[k]? = some (ns.getD k 0) := by
  rw [List.getD_eq_getElem?_getD, List.getElem?_eq_getElem h]; rfl
theorem getD_nn {ns : List Int} (hns : ∀ n ∈ ns, 0 ≤ n) (k : Nat) : 0 ≤ ns.getD k 0 := by
  rw [List.getD_eq_getElem?_getD]
  cases e : ns[k]? with
  | none => exact Int.le_refl _
  | some n => exact hns n (List.mem_of_getElem? e)
theorem tipcs_spec (X : Fns K) (Y : Cls K) (G : Gl K g) (hg : Le g s.heap) (hA : Rm A 14) {xd tl wl : Addr} {T : Md} {ns : List Int} {ws : List Nat} {l b : Str} {tb : Tok} (H : Dat prog w Y g xd T.F) (hT : MdOk T) (hx : Rd g (.ref tl) (.list (dI ns))) (hzl : ns.length ≤ 100) (hns : ∀ n ∈ ns, 0 ≤ n) (hwl : Rd g (.ref wl) (.list (dI (wI ws)))) (hzw : ws.length ≤ 100) (hws : ws.Pairwise (· < ·)) (hl : LangOk l b) {R : Result → Shared → Prop}
    (h : ∀ r g' s', Aft s g [] g' [] s' → Rd g' (.ref r) (.list (dP (titl T ns ws b))) → R (.ok (.ret (.ref r))) s') :
    codeAny (model prog w) A (.call (.ref X.tipcs) ⟨[.ref tl, .ref xd, .ref wl, .str l tb], []⟩) R s := by
  refine enterD (own := []) [(Str.ofString "text", .ref tl), (Str.ofString "data", .ref xd), (Str.ofString "words", .ref wl), (Str.ofString "language", .str l tb)] [(Str.ofString "text", .ref tl), (Str.ofString "data", .ref xd), (Str.ofString "words", .ref wl), (Str.ofString "language", .str l tb)] X.htipcs.s X.htipcs.d G hg (by have := hA.d; omega) (fun _ h => nomatch h) List.nodup_nil (fun _ h => nomatch h) (fun _ _ _ hT hS _ _ _ _ _ _ => BindsTo.of_defaults rfl hT hS rfl rfl) (by decide) ⟨.inl rfl, .inl rfl, .inl rfl, .inl rfl, trivial⟩ ⟨rfl, rfl, rfl, rfl, trivial⟩ (fun L cdv cs s₁ hz => ?_) rfl rfl rfl
  intro envz Az cz lmz S Qf hFr hFn
  cases hz
  (repeat' (walk_at "x"))
  refine call_fn S G X.hbase.n X.hbase.k rfl ?_
  (repeat' (walk_at "x"))
  refine kin_and S G (callC (base_spec X G S.keep ((hA.deeper _).le (by omega)) hl.z fun tb2 g1 s A1 => ?_))
  replace S := S.back0 A1
  have le := A1.le
  replace G := G.up le
  replace H := H.up le
  replace hx := hx.up le
  replace hwl := hwl.up le
  rw [hl.e]
  (repeat' (walk_at "x"))
  refine la (cl := []) rfl rfl rfl (by decide) ?_
  (repeat' (walk_at "x"))
  refine start_rdL hA.h S hx fun I its s hI It hW S => ?_
  refine compA (fun j g₂ own₂ ys => own₂ = [] ∧ RdA g₂ ys (dP ((ns.take j).map fun n => [n])))
    hI (It _) hW S (by simp; omega) (by decide) rfl rfl rfl ⟨rfl, .nil⟩ (fun C hid j v g₂ own₂ ys s hj hP le2 J hl' S Qe Qs hQe hQs => ?_) (fun F k g₂ own₂ ys s hF le2 S J hl' => ?_)
  · obtain ⟨rfl, hys⟩ := J
    refine St.letl S ?_
    intro lmz S
    obtain ⟨d, hd, hv⟩ := hP
    rw [List.getElem?_map] at hd
    obtain ⟨n, hn, rfl⟩ := Option.map_eq_some_iff.mp hd
    obtain ⟨t, rfl⟩ := rd_int hv
    replace G := G.up le2
    (repeat' (walk_at "x"))
    refine mk_tuple (ds := dI [n]) S (.one (.int _ _)) (Nat.le_of_ble_eq_true rfl) fun D g3 s le3 S hD => ?_
    (repeat' (walk_at "x"))
    refine ⟨g3, [], _, le3, S, rfl, ?_⟩
    rw [take_snoc hn, List.map_append]
    unfold dP
    rw [List.map_append]
    exact (hys.up le3).app (.one hD)
  · obtain ⟨rfl, hys⟩ := J
    refine St.letl S ?_
    intro lmz S
    rw [List.take_of_length_le (by simp)] at hys
    replace G := G.up le2
    replace H := H.up le2
    replace hx := hx.up le2
    replace hwl := hwl.up le2
    (repeat' (walk_at "x"))
    refine call_fn S G X.hsegs.n X.hsegs.k rfl ?_
    (repeat' (walk_at "x"))
    refine kin_and S G (callC (segs_spec X G S.keep ((hA.deeper _).le (by omega)) hx hzl hwl hzw fun sg g3 s A3 hsg => ?_))
    replace S : St _ L g3 [(F, lobj ys k)] _ _ := S.back (ownc := []) (own' := []) A3
    replace G := G.up A3.le
    replace H := H.up A3.le
    replace hx := hx.up A3.le
    replace hys := hys.up A3.le
    have OK0 : OkTo T ns ws b 0 (ns.map fun n => [n]) := OkTo.start
    refine start_rdL hA.h S hsg fun I its s hI It hW S => ?_
    refine forI (fun i g₁ own₁ lm₁ => ∃ vs k a vals, own₁ = [(F, lobj vs k)] ∧ lm₁ = [(Str.ofString "found", .ref F), (Str.ofString "base", .str b tb2), (Str.ofString "text", .ref tl), (Str.ofString "data", .ref xd), (Str.ofString "words", .ref wl), (Str.ofString "language", .str l tb)] ∧ RdA g₁ vs (dP vals) ∧ OkTo T ns ws b a vals ∧ Part ns.length ws a ((segs ns.length ws).drop i))
      hI (It _) hW S ⟨ys, k, 0, _, rfl, rfl, hys, OK0, part_segs hws⟩ ⟨rfl, rfl, rfl, rfl, rfl, rfl, trivial⟩ (fun i v g₁ own₁ lm₁ s its hi hP le J S Qn hQn hQc hQb hQr => ?_) (fun gE own₁ lm₁ s le S J => ?_)
    · obtain ⟨vs, k, a, vals, rfl, rfl, hvs, OK, PA⟩ := J
      refine St.letl S ?_
      intro lmz S
      obtain ⟨d, hd, hv⟩ := hP
      obtain ⟨p, hp, rfl⟩ := dPr_get hd
      obtain ⟨T2, v1, v2, rfl, hT2, r1, r2⟩ := tup2 hv
      obtain ⟨t1, rfl⟩ := rd_int r1
      obtain ⟨t2, rfl⟩ := rd_int r2
      have hdrop : (segs ns.length ws).drop i = p :: (segs ns.length ws).drop (i + 1) := by
        obtain ⟨hlt, e⟩ := List.getElem?_eq_some_iff.mp hp
        rw [List.drop_eq_getElem_cons hlt, e]
      rw [hdrop] at PA
      replace G := G.up le
      replace H := H.up le
      replace hx := hx.up le
      cases PA with
      | cons hab hbn hgap ha0 PA' =>
      rename_i b'
      have hvl : vs.length = ns.length := by rw [hvs.length]; unfold dP; rw [List.length_map, OK.len]
      refine asg2 hA.h S (isTuple_up hT2 (le.trans S.keep)) fun s S => ?_
      (repeat' (walk_at "x"))
      refine call_fn S G X.hfirst.n X.hfirst.k rfl ?_
      (repeat' (walk_at "x"))
      refine kin_and S G (callC (first_spec X Y G S.keep ((hA.deeper _).le (by omega)) H hx hzl hns (Nat.le_of_lt hab) hbn (fun k0 tk g4 s A4 q1 q2 q3 q4 => ?_) (fun g4 s A4 q => ?_)))
      · replace S : St _ L g4 (its ++ [(F, lobj vs k)]) _ _ := S.back (ownc := []) (own' := []) A4
        replace G := G.up A4.le
        replace H := H.up A4.le
        replace hx := hx.up A4.le
        replace hvs := hvs.up A4.le
        have hk0 : k0 < ns.length := by omega
        (repeat' (walk_at "x"))
        refine call_fn S G X.htiat.n X.htiat.k rfl ?_
        (repeat' (walk_at "x"))
        refine kin_and S G (callC (tiat_spec X Y G S.keep ((hA.deeper _).le (by omega)) H hT hx (by omega) (getD_of hk0) (getD_nn hns k0) hl.zb fun fv g5 s A5 hfv => ?_))
        replace S : St _ L g5 (its ++ [(F, lobj vs k)]) _ _ := S.back (ownc := []) (own' := []) A5
        replace G := G.up A5.le
        replace H := H.up A5.le
        replace hx := hx.up A5.le
        replace hvs := hvs.up A5.le
        rw [hl.bb] at hfv
        (repeat' (walk_at "x"))
        refine l_set (pre := its) (post := []) S rfl (by omega) (by rw [hvl]; omega) (by omega) fun k' s S => ?_
        rw [Int.toNat_natCast] at S
        have hvs2 := hvs.set hfv k0
        rw [← dP_set] at hvs2
        have OK2 := (OK.skip q1 fun k h1 h2 h3 => tval_plain ha0 hgap h1 (by omega) fun j h4 h5 => q4 j h4 (by omega)).set (v := T.full (ns.getD k0 0) .tc b) (tval_title ha0 hgap q1 q2 q4 q3).symm
        (repeat' (walk_at "x"))
        refine range2_it hA.h S (by omega) fun I2 its2 s hI2 It2 hW2 S => ?_
        refine forI (fun i2 g₂ own₂ lm₂ => ∃ vs2 k2 vals2, own₂ = its ++ [(F, lobj vs2 k2)] ∧ lm₂ = [(Str.ofString "found", .ref F), (Str.ofString "base", .str b tb2), (Str.ofString "text", .ref tl), (Str.ofString "data", .ref xd), (Str.ofString "words", .ref wl), (Str.ofString "language", .str l tb), (Str.ofString "first", .int k0 tk), (Str.ofString "high", .int b' t2)] ∧ RdA g₂ vs2 (dP vals2) ∧ OkTo T ns ws b (k0 + 1 + i2) vals2)
          hI2 (It2 _) hW2 S ⟨_, _, _, rfl, rfl, hvs2, OK2⟩ ⟨rfl, rfl, rfl, rfl, rfl, rfl, rfl, rfl, trivial⟩ (fun i2 v g₁ own₁ lm₁ s its2 hi2 hP le5 J S Qi hPn hPc hPb hPr => ?_) (fun gE own₁ lm₁ s le5 S J => ?_)
        · obtain ⟨vs2, k2, vals2, rfl, rfl, hvs2, OK2⟩ := J
          refine St.letl S ?_
          intro lmz S
          obtain ⟨t, rfl⟩ := hP
          have e0 : ((k0 : Int) + 1 + (i2 : Int)) = ((k0 + 1 + i2 : Nat) : Int) := by omega
          rw [e0]
          have hm : k0 + 1 + i2 < b' := by omega
          generalize hmd : k0 + 1 + i2 = m at *
          replace G := G.up le5
          have hvl2 : vs2.length = ns.length := by rw [hvs2.length]; unfold dP; rw [List.length_map, OK2.len]
          (repeat' (walk_at "x"))
          refine call_fn S G X.hloat.n X.hloat.k rfl ?_
          (repeat' (walk_at "x"))
          refine kin_and S G (callC (loat_spec X Y G S.keep ((hA.deeper _).le (by omega)) (H.up le5) hT (hx.up le5) (by omega) (getD_of (k := m) (by omega)) (getD_nn hns m) hl.zb fun fv g6 s A6 hfv => ?_))
          replace S := St.assoc (a := its2) (b := its) (r := [(F, lobj vs2 k2)]) (S.back (ownc := []) (own' := []) A6)
          rw [hl.bb] at hfv
          (repeat' (walk_at "x"))
          refine l_set (pre := its2 ++ its) (post := []) S rfl (by omega) (by rw [hvl2]; omega) (by omega) fun k' s S => ?_
          rw [Int.toNat_natCast] at S
          have hvs3 := (hvs2.up A6.le).set hfv m
          rw [← dP_set] at hvs3
          (repeat' (walk_at "x"))
          (repeat' (walk_at "x"))
          refine forEnd (own₂ := its ++ [(F, lobj (vs2.set m fv) k')]) (by simpa using S) A6.le ⟨_, k', _, rfl, rfl, hvs3, ?_⟩ ⟨rfl, rfl, rfl, rfl, rfl, rfl, rfl, rfl, trivial⟩
          have := OK2.set (v := T.full (ns.getD m 0) .lc b) (tval_lower ha0 hgap (by omega) hm q1 (by omega) q3).symm
          rw [show k0 + 1 + (i2 + 1) = m + 1 by omega]
          (repeat' (walk_at "x"))
          exact this
        · obtain ⟨vs2, k2, vals2, rfl, rfl, hvs2, OK2⟩ := J
          refine St.letl S ?_
          intro lmz S
          rw [show k0 + 1 + ((b' : Int) - ((k0 : Int) + 1)).toNat = b' by omega] at OK2
          (repeat' (walk_at "x"))
          refine ite_isnt hl.nl ?_
          (repeat' (walk_at "x"))
          (repeat' (walk_at "x"))
          refine forEnd (own₂ := [(F, lobj vs2 k2)]) S ((A4.le.trans A5.le).trans le5) ⟨_, k2, b', _, rfl, rfl, hvs2, OK2, PA'⟩ ⟨rfl, rfl, rfl, rfl, rfl, rfl, trivial⟩
      · replace S := S.back (ownc := []) (own' := []) A4
        (repeat' (walk_at "x"))
        (repeat' (walk_at "x"))
        refine forEnd (own₂ := [(F, lobj vs k)]) S A4.le ⟨vs, k, b', vals, rfl, rfl, hvs.up A4.le, OK.skip (Nat.le_of_lt hab) fun k h1 h2 _ => tval_plain ha0 hgap h1 h2 fun j h3 h4 => q j h3 (by omega), PA'⟩ ⟨rfl, rfl, rfl, rfl, rfl, rfl, trivial⟩
    · obtain ⟨vs, k, a, vals, rfl, rfl, hvs, OK, PA⟩ := J
      refine St.letl S ?_
      intro lmz S
      rw [List.drop_of_length_le (by simp [dPr])] at PA
      cases PA
      (repeat' (walk_at "x"))
      obtain ⟨g', le', S, hF'⟩ := S.freeze (pre := []) rfl hF
      rw [OK.all] at hvs
      (repeat' (walk_at "x"))
      exact h _ g' _ S.aft (.list (lobj_is hF') (hvs.up le'))

end
end Mine
end
section
set_option maxRecDepth 100000
set_option maxHeartbeats 1000000
namespace Mine
section
variable {prog : Program} {w : World} {A : Around} {s : Shared} {K : Frag} {g : Heap}
theorem title_spec (X : Fns K) (Y : Cls K) (G : Gl K g) (hg : Le g s.heap) (hA : Rm A 15) {xd tl wl : Addr} {T : Md} {ns : List Int} {ws : List Nat} {l b : Str} {tb : Tok} (H : Dat prog w Y g xd T.F) (hT : MdOk T) (hx : Rd g (.ref tl) (.list (dI ns))) (hzl : ns.length ≤ 100) (hns : ∀ n ∈ ns, 0 ≤ n) (hwl : Rd g (.ref wl) (.list (dI (wI ws)))) (hzw : ws.length ≤ 100) (hws : ws.Pairwise (· < ·)) (hl : LangOk l b) {R : Result → Shared → Prop}
    (h : ∀ r g' s', Aft s g [] g' [] s' → Rd g' (.ref r) (.list (dI (titl T ns ws b).flatten)) → R (.ok (.ret (.ref r))) s') :
    codeAny (model prog w) A (.call (.ref X.title) ⟨[.ref tl, .ref xd, .ref wl, .str l tb], []⟩) R s := by
  refine enterD (own := []) [(Str.ofString "text", .ref tl), (Str.ofString "data", .ref xd), (Str.ofString "words", .ref wl), (Str.ofString "language", .str l tb)] [(Str.ofString "text", .ref tl), (Str.ofString "data", .ref xd), (Str.ofString "words", .ref wl), (Str.ofString "language", .str l tb)] X.htitle.s X.htitle.d G hg (by have := hA.d; omega) (fun _ h => nomatch h) List.nodup_nil (fun _ h => nomatch h) (fun _ _ _ hT hS _ _ _ _ _ _ => BindsTo.of_defaults rfl hT hS rfl rfl) (by decide) ⟨.inl rfl, .inl rfl, .inl rfl, .inl rfl, trivial⟩ ⟨rfl, rfl, rfl, rfl, trivial⟩ (fun L cdv cs s₁ hz => ?_) rfl rfl rfl
  intro envz Az cz lmz S Qf hFr hFn
  cases hz
  (repeat' (walk_at "x"))
  refine call_fn S G X.hcjoin.n X.hcjoin.k rfl ?_
  (repeat' (walk_at "x"))
  refine call_fn S G X.htipcs.n X.htipcs.k rfl ?_
  (repeat' (walk_at "x"))
  refine kin_and S G (callC (tipcs_spec X Y G S.keep ((hA.deeper _).le (by omega)) H hT hx hzl hns hwl hzw hws hl fun r g1 s A1 hr => ?_))
  replace S := S.back0 A1
  replace G := G.up A1.le
  (repeat' (walk_at "x"))
  refine kin_and S G (callC (cjoin_spec X G S.keep ((hA.deeper _).le (by omega)) hr (by simp [titl]; omega) (fun p hp => by
    obtain ⟨k, _, rfl⟩ := List.mem_map.mp hp
    unfold tval
    split
    · exact full_len hT _ _ b
    · split
      · exact full_len hT _ _ b
      · simp) fun r g2 s A2 hr => ?_))
  replace S := S.back0 A2
  (repeat' (walk_at "x"))
  exact h r g2 s S.aft hr

end
end Mine
end
section
set_option maxRecDepth 100000
set_option maxHeartbeats 1000000
namespace Mine
section
variable {prog : Program} {w : World} {A : Around} {E : Value → Shared → Prop} {s : Shared} {K : Frag} {c : Cs} {L : Addr} {g : Heap} {own : List (Addr × Obj)} {lm : List (Str × Value)} {env : Env}
theorem item_last {value slice : PySem.Expr} {l : Addr} {xs : List Value} {x : Value} {n : Nat} {u : Tok} {Q : Value → Shared → Prop} (S : St c L g own lm s) (hm : (l, lobj (xs ++ [x]) n) ∈ own) (h : Q x s)
    (hs : subscripted slice false (.ref l) (.int (-1) u) = operate [.ref l, .int (-1) u] (getItem (.ref l) (.int (-1) u)) := by with_unfolding_all rfl) :
    wpAny (model prog w) A (subscriptTail value slice (.ref l) (.int (-1) u)) Q E s := by
  have hl : s.heap.IsList l (xs ++ [x]).toArray := lobj_is (S.ow _ hm)
  refine tail_any hl.typeIs slot_list_getitem.lookup (wpAny_getItem_list_neg hl (by decide) (by simp; omega) (by decide) ?_ h) hs
  have e : ((-1 : Int) + ((xs ++ [x]).toArray.size : Int)).toNat = xs.length := by simp; omega
  rw [e]
  simp
theorem item_tup {value slice : PySem.Expr} {t : Addr} {vs : List Value} {x : Value} {k : Int} {u : Tok} {Q : Value → Shared → Prop} (hT : s.heap.IsTuple t vs.toArray) (h0 : 0 ≤ k) (hz : vs.length ≤ 1000000) (hx : vs[k.toNat]? = some x) (h : Q x s)
    (hs : subscripted slice false (.ref t) (.int k u) = operate [.ref t, .int k u] (getItem (.ref t) (.int k u)) := by with_unfolding_all rfl) :
    wpAny (model prog w) A (subscriptTail value slice (.ref t) (.int k u)) Q E s := by
  have hlt : k.toNat < vs.length := (List.getElem?_eq_some_iff.mp hx).1
  refine PyProof.Rows.item_tupleT (l := vs) (j := k.toNat) hT (by omega) (by omega) ?_ hx h hs
  unfold seqIndex?
  have e : (if k < 0 then k + (vs.length : Int) else k) = k := if_neg (by omega)
  simp only [e]
  have h1 : (decide (0 ≤ k) && decide (k < (vs.length : Int))) = true := by simp; omega
  rw [if_pos h1]
end
abbrev Ed := Int × Int × Int × Int
def dQ (q : Ed) : PyData := .tuple [.int q.1, .int q.2.1, .int q.2.2.1, .int q.2.2.2]
def edStep (n : Int) (st : List Ed × Int) (i : Int) (p : List Int) : List Ed × Int :=
  (if p = [n] then st.1 else match st.1.getLast? with
    | some q => if q.2.1 = i then st.1.dropLast ++ [(q.1, i + 1, q.2.2.1, st.2 + p.length)] else st.1 ++ [(i, i + 1, st.2, st.2 + p.length)]
    | none => [(i, i + 1, st.2, st.2 + p.length)], st.2 + p.length)
def edGo (ns : List Int) : Nat → List (List Int) → List Ed × Int → List Ed
  | _, [], st => st.1
  | i, p :: ps, st => edGo ns (i + 1) ps (edStep (ns.getD i 0) st i p)
theorem edStep_len (n : Int) (st : List Ed × Int) (i : Int) (p : List Int) : (edStep n st i p).1.length ≤ st.1.length + 1 := by
  unfold edStep
  dsimp only
  split
  · omega
  · split
    · split
      · simp
      · simp
    · simp
theorem dI_inj : ∀ {a b : List Int}, dI a = dI b → a = b
  | [], [], _ => rfl
  | [], _ :: _, h => by cases h
  | _ :: _, [], h => by cases h
  | x :: r, y :: q, h => by
    simp only [dI, List.map_cons, List.cons.injEq, PyData.int.injEq] at h
    rw [h.1, dI_inj (a := r) (b := q) h.2]
theorem dT_inj {a b : List Int} (h : dT a = dT b) : a = b := dI_inj (by injection h)
theorem Fine.dQ {n : Nat} (q : Ed) : Fine (n + 1) (dQ q) := .tuple fun d hd => by
  simp only [List.mem_cons, List.not_mem_nil, or_false] at hd
  rcases hd with rfl | rfl | rfl | rfl <;> exact .int _
theorem Fine.dQs {n : Nat} (qs : List Ed) : Fine (n + 2) (.list (qs.map Mine.dQ)) := .list fun d hd => by
  obtain ⟨q, _, rfl⟩ := List.mem_map.mp hd
  exact .dQ q
end Mine
end
section
set_option maxRecDepth 100000
set_option maxHeartbeats 1000000
namespace Mine
section
variable {prog : Program} {w : World} {A : Around} {s : Shared} {K : Frag} {g : Heap}
theorem RdA.unsnoc {h : Heap} : ∀ {ds : List PyData} {d : PyData} {vs : List Value}, RdA h vs (ds ++ [d]) → ∃ vs' v, vs = vs' ++ [v] ∧ RdA h vs' ds ∧ Rd h v d
  | [], _, _, .cons r .nil => ⟨[], _, rfl, .nil, r⟩
  | _ :: _, _, _, .cons r q => by
    obtain ⟨vs', v, rfl, q', r'⟩ := RdA.unsnoc q
    exact ⟨_ :: vs', v, rfl, .cons r q', r'⟩
theorem rdA4 {h : Heap} {a b c d : PyData} {vs : List Value} (r : RdA h vs [a, b, c, d]) : ∃ v0 v1 v2 v3, vs = [v0, v1, v2, v3] ∧ Rd h v0 a ∧ Rd h v1 b ∧ Rd h v2 c ∧ Rd h v3 d := by
  cases r with
  | cons r0 r =>
    cases r with
    | cons r1 r =>
      cases r with
      | cons r2 r =>
        cases r with
        | cons r3 r =>
          cases r
          exact ⟨_, _, _, _, rfl, r0, r1, r2, r3⟩
theorem len_tup {E : Value → Shared → Prop} {c : Cs} {L : Addr} {own : List (Addr × Obj)} {lm : List (Str × Value)} {a : Addr} {vs : List Value} {Q : Value → Shared → Prop} (S : St c L g own lm s) (hT : s.heap.IsTuple a vs.toArray) (hz : vs.length ≤ 1000000) (h : ∀ t s', St c L g own lm s' → Q (.int vs.length t) s') : wpAny (model prog w) A (call (.builtin "len") [.ref a]) Q E s :=
  PyProof.Rows.len_tuple hT (by simp; omega) (by simpa using h _ _ (S.tok (t' := s.toks + 1 + 1)))
theorem edits_spec (X : Fns K) (G : Gl K g) (hg : Le g s.heap) (hA : Rm A 12) {tl pl : Addr} {ns : List Int} {ps : List (List Int)} (hx : Rd g (.ref tl) (.list (dI ns))) (hzl : ns.length ≤ 100) (hp : Rd g (.ref pl) (.list (dP ps))) (hlen : ps.length = ns.length) (hps : ∀ p ∈ ps, p.length ≤ 10) {R : Result → Shared → Prop}
    (h : ∀ r g' s', Aft s g [] g' [] s' → Rd g' (.ref r) (.list ((edGo ns 0 ps ([], 0)).map dQ)) → R (.ok (.ret (.ref r))) s') :
    codeAny (model prog w) A (.call (.ref X.edits) ⟨[.ref tl, .ref pl], []⟩) R s := by
  refine enter0 [(Str.ofString "text", .ref tl), (Str.ofString "pieces", .ref pl)] X.hedits.s G hg (hA.le (by omega)) (fun _ _ _ _ _ _ => rfl) (by decide) ⟨.inl rfl, .inl rfl, trivial⟩ ⟨rfl, rfl, trivial⟩ (fun L cdv cs s₁ hz => ?_) rfl rfl rfl
  intro envz Az cz lmz S Qf hFr hFn
  cases hz
  obtain ⟨cc, hcc⟩ : ∃ cc : Cs, cc = ⟨s, g, []⟩ := ⟨_, rfl⟩
  replace S : St cc L g [] lmz s₁ := by rw [hcc]; exact S
  have hw0 : cc.wr = [] := by rw [hcc]
  (repeat' (walk_at "x"))
  refine new_list S (Nat.zero_le _) fun F s hF S => ?_
  (repeat' (walk_at "x"))
  obtain ⟨_, pvs, q1, hL, hr⟩ := rd_list hp
  cases q1
  have hplen := hr.length
  refine enum_itL hA.h S hL fun I its s wr hI It hW S => ?_
  refine forI (fun i g₁ own₁ lm₁ => ∃ xs k st tp, own₁ = [(F, lobj xs k)] ∧ lm₁ = [(Str.ofString "found", .ref F), (Str.ofString "place", .int st.2 tp), (Str.ofString "text", .ref tl), (Str.ofString "pieces", .ref pl)] ∧ RdA g₁ xs (st.1.map dQ) ∧ st.1.length ≤ i ∧ edGo ns i (ps.drop i) st = edGo ns 0 ps ([], 0))
    hI (It _ _ _) hW S (lm₁ := [(Str.ofString "found", .ref F), (Str.ofString "place", .int 0 t), (Str.ofString "text", .ref tl), (Str.ofString "pieces", .ref pl)]) ⟨[], 0, ([], 0), t, rfl, rfl, .nil, Nat.le_refl _, rfl⟩ ⟨rfl, rfl, rfl, rfl, trivial⟩ (fun i v g₁ own₁ lm₁ s its hi hP le J S Qn hQn hQc hQb hQr => ?_) (fun gE own₁ lm₁ s le S J => ?_)
  · obtain ⟨xs, k, ⟨qs, pc⟩, tp, rfl, rfl, hxs, hqs, hgo⟩ := J
    refine St.letl S ?_
    intro lmz S
    obtain ⟨T, ti, x, rfl, hx1, hT⟩ := hP
    obtain ⟨d, hd, r1⟩ := hr.at hx1
    rw [List.getElem?_map] at hd
    obtain ⟨p, hpi, rfl⟩ := Option.map_eq_some_iff.mp hd
    obtain ⟨PT, pvs2, rfl, hPT, hpr⟩ := rd_tuple r1
    have hi' : i < ns.length := by rw [← hlen]; exact (List.getElem?_eq_some_iff.mp hpi).1
    have hpl := hps p (List.mem_of_getElem? hpi)
    have hpvl := hpr.length
    rw [len_dI] at hpvl
    have hdrop : ps.drop i = p :: ps.drop (i + 1) := by
      obtain ⟨hlt, e⟩ := List.getElem?_eq_some_iff.mp hpi
      rw [List.drop_eq_getElem_cons hlt, e]
    rw [hdrop] at hgo
    replace G := G.up le
    replace hx := hx.up le
    replace r1 := r1.up le
    have hxl := hxs.length
    have hq100 : qs.length ≤ 100 := Nat.le_trans hqs (by omega)
    rw [List.length_map] at hxl
    refine asg2 hA.h S hT fun s S => ?_
    (repeat' ((fail_if_success (with_reducible show wpAny _ _ (exec (PySem.Stmt.If _ _ _ _) _) _ _ _)); walk_at "x"))
    refine cutR (J := fun s => ∃ g2 xs k, Le g₁ g2 ∧ RdA g2 xs ((edStep (ns.getD i 0) (qs, pc) i p).1.map dQ) ∧ St cc L g2 (its ++ [(F, lobj xs k)]) [(Str.ofString "piece", .ref PT), (Str.ofString "at", .int i ti), (Str.ofString "found", .ref F), (Str.ofString "place", .int pc tp), (Str.ofString "text", .ref tl), (Str.ofString "pieces", .ref pl)] s) ?_ ?_
    · intro Qc hCn
      (repeat' (walk_at "x"))
      refine item_rd S hx (by omega) (dI_get (n := ns.getD i 0) (by simpa using getD_of hi')) (by simp; omega) fun nv hnv => ?_
      (repeat' (walk_at "x"))
      refine mk_tuple (ds := dI [ns.getD i 0]) S (.one hnv) (Nat.le_of_ble_eq_true rfl) fun D g2 s le2 S hD => ?_
      replace G := G.up le2
      refine ne_rd S (r1.up le2) hD ((Fine.intT (n := 0) p).shaped (by decide)) ((Fine.intT (n := 0) [ns.getD i 0]).shaped (by decide)) (hA.deeper _) (by omega) ?_
      (repeat' (walk_at "x"))
      by_cases hpn : p = [ns.getD i 0]
      · refine ite_nt (by rw [hpn]; exact eqv_refl (Fine.intT (n := 0) _).1) ?_
        (repeat' (walk_at "x"))
        refine ⟨rfl, g2, xs, k, le2, ?_, S.vars _ (AllP.all ⟨rfl, rfl, rfl, rfl, rfl, rfl, trivial⟩)⟩
        have : (edStep (ns.getD i 0) (qs, pc) i p).1 = qs := by unfold edStep; exact if_pos hpn
        rw [this]
        exact hxs.up le2
      · refine ite_nf (eqv_ne (Fine.intT (n := 0) p) (Fine.intT (n := 0) _) fun e => hpn (dT_inj e)) ?_
        (repeat' (walk_at "x"))
        refine new_list S (Nat.zero_le _) fun Em s hEm S => ?_
        refine ne_data (Rd.list (lobj_is (S.ow (F, lobj xs k) (by simp))) ((hxs.up le2).up S.keep)) (Rd.list (lobj_is (S.ow (Em, lobj [] 0) (.head _))) .nil) ((Fine.dQs (n := 0) qs).shaped (by decide)) rfl (by have := hA.u; show _ + 3 + 64 < _; omega) ?_
        replace S := S.dropH hEm
        (repeat' (walk_at "x"))
        rcases List.eq_nil_or_concat qs with rfl | ⟨qs', q, rfl⟩
        · refine ite_nt rfl ?_
          (repeat' (walk_at "x"))
          refine gm_append S (k := k) (xs := xs) (by simp) ?_
          (repeat' (walk_at "x"))
          refine len_tup S (isTuple_up hPT ((le.trans le2).trans S.keep)) (by omega) fun t s S => ?_
          rw [hpvl]
          (repeat' (walk_at "x"))
          refine mk_tuple (ds := [.int i, .int (i + 1), .int pc, .int (pc + p.length)]) S (.cons (.int _ _) (.cons (.int _ _) (.cons (.int _ _) (.one (.int _ _))))) (Nat.le_of_ble_eq_true rfl) fun D2 g3 s le3 S hD2 => ?_
          (repeat' (walk_at "x"))
          refine l_append (xs := xs) (k := k) (pre := its) (post := []) S rfl (by omega) fun k' s S => ?_
          (repeat' (walk_at "x"))
          refine ⟨rfl, g3, _, k', le2.trans le3, ?_, S.vars _ (AllP.all ⟨rfl, rfl, rfl, rfl, rfl, rfl, trivial⟩)⟩
          have : (edStep (ns.getD i 0) ([], pc) i p).1 = [((i : Int), (i : Int) + 1, pc, pc + p.length)] := by unfold edStep; exact if_neg hpn
          rw [this]
          exact (hxs.up (le2.trans le3)).app (.one hD2)
        · rw [List.concat_eq_append] at hxs hxl hqs hgo hq100 hCn ⊢
          have hne : PyData.eqv (.list ((qs' ++ [q]).map dQ)) (.list []) = false := by cases qs' <;> rfl
          refine ite_nf hne ?_
          obtain ⟨xs', x', rfl, hxs', hx'⟩ : ∃ xs' x', xs = xs' ++ [x'] ∧ RdA g₁ xs' (qs'.map dQ) ∧ Rd g₁ x' (dQ q) := by
            rw [List.map_append] at hxs
            exact RdA.unsnoc hxs
          obtain ⟨QT, qvs, rfl, hQT, hqr⟩ := rd_tuple hx'
          obtain ⟨v0, v1, v2, v3, rfl, w0, w1, w2, w3⟩ := rdA4 hqr
          obtain ⟨t0, rfl⟩ := rd_int w0
          obtain ⟨t1, rfl⟩ := rd_int w1
          obtain ⟨t2, rfl⟩ := rd_int w2
          have hgl : (qs' ++ [q]).getLast? = some q := by simp
          (repeat' (walk_at "x"))
          refine item_last (xs := xs') (x := .ref QT) (n := k) S (by simp) ?_
          (repeat' (walk_at "x"))
          refine item_tup (isTuple_up hQT (le2.trans S.keep)) (by decide) (Nat.le_of_ble_eq_true rfl) (x := .int q.2.1 t1) rfl ?_
          (repeat' (walk_at "x"))
          refine ite_eq (fun hc => ?_) (fun hc => ?_)
          · (repeat' (walk_at "x"))
            refine item_last (xs := xs') (x := .ref QT) (n := k) S (by simp) ?_
            (repeat' (walk_at "x"))
            refine item_tup (isTuple_up hQT (le2.trans S.keep)) (by decide) (Nat.le_of_ble_eq_true rfl) (x := .int q.1 t0) rfl ?_
            (repeat' (walk_at "x"))
            refine item_last (xs := xs') (x := .ref QT) (n := k) S (by simp) ?_
            (repeat' (walk_at "x"))
            refine item_tup (isTuple_up hQT (le2.trans S.keep)) (by decide) (Nat.le_of_ble_eq_true rfl) (x := .int q.2.2.1 t2) rfl ?_
            (repeat' (walk_at "x"))
            refine len_tup S (isTuple_up hPT ((le.trans le2).trans S.keep)) (by omega) fun t s S => ?_
            rw [hpvl]
            (repeat' (walk_at "x"))
            refine mk_tuple (ds := [.int q.1, .int (i + 1), .int q.2.2.1, .int (pc + p.length)]) S (.cons (.int _ _) (.cons (.int _ _) (.cons (.int _ _) (.one (.int _ _))))) (Nat.le_of_ble_eq_true rfl) fun D2 g3 s le3 S hD2 => ?_
            (repeat' (walk_at "x"))
            refine l_setLast (xs := xs') (pre := its) (post := []) S rfl (by simp at hxl hq100; omega) fun k' s S => ?_
            (repeat' (walk_at "x"))
            refine ⟨rfl, g3, _, k', le2.trans le3, ?_, S.vars _ (AllP.all ⟨rfl, rfl, rfl, rfl, rfl, rfl, trivial⟩)⟩
            have : (edStep (ns.getD i 0) (qs' ++ [q], pc) i p).1 = qs' ++ [(q.1, (i : Int) + 1, q.2.2.1, pc + p.length)] := by
              unfold edStep
              dsimp only
              rw [if_neg hpn, hgl]
              dsimp only
              rw [if_pos hc, List.dropLast_concat]
            rw [this, List.map_append]
            exact (hxs'.up (le2.trans le3)).app (.one hD2)
          · (repeat' (walk_at "x"))
            refine gm_append S (k := k) (xs := xs' ++ [.ref QT]) (by simp) ?_
            (repeat' (walk_at "x"))
            refine len_tup S (isTuple_up hPT ((le.trans le2).trans S.keep)) (by omega) fun t s S => ?_
            rw [hpvl]
            (repeat' (walk_at "x"))
            refine mk_tuple (ds := [.int i, .int (i + 1), .int pc, .int (pc + p.length)]) S (.cons (.int _ _) (.cons (.int _ _) (.cons (.int _ _) (.one (.int _ _))))) (Nat.le_of_ble_eq_true rfl) fun D2 g3 s le3 S hD2 => ?_
            (repeat' (walk_at "x"))
            refine l_append (xs := xs' ++ [.ref QT]) (k := k) (pre := its) (post := []) S rfl (by simp at hxl hq100 ⊢; omega) fun k' s S => ?_
            (repeat' (walk_at "x"))
            refine ⟨rfl, g3, _, k', le2.trans le3, ?_, S.vars _ (AllP.all ⟨rfl, rfl, rfl, rfl, rfl, rfl, trivial⟩)⟩
            have : (edStep (ns.getD i 0) (qs' ++ [q], pc) i p).1 = qs' ++ [q] ++ [((i : Int), (i : Int) + 1, pc, pc + p.length)] := by
              unfold edStep
              dsimp only
              rw [if_neg hpn, hgl]
              dsimp only
              rw [if_neg hc]
            rw [this, List.map_append]
            exact (hxs.up (le2.trans le3)).app (.one hD2)
    · rintro s ⟨g2, xs2, k2, le2, hxs2, S⟩
      refine St.letl S ?_
      intro lmz S
      replace G := G.up le2
      (repeat' (walk_at "x"))
      refine len_tup S (isTuple_up hPT ((le.trans le2).trans S.keep)) (by omega) fun t s S => ?_
      rw [hpvl]
      (repeat' (walk_at "x"))
      (repeat' (walk_at "x"))
      refine forEnd (own₂ := [(F, lobj xs2 k2)]) S le2 ⟨xs2, k2, edStep (ns.getD i 0) (qs, pc) i p, _, rfl, rfl, hxs2, ?_, hgo⟩ ⟨rfl, rfl, rfl, rfl, trivial⟩
      have := edStep_len (ns.getD i 0) (qs, pc) i p
      exact Nat.le_trans this (Nat.succ_le_succ hqs)
  · obtain ⟨xs, k, ⟨qs, pc⟩, tp, rfl, rfl, hxs, hqs, hgo⟩ := J
    refine St.letl S ?_
    intro lmz S
    rw [List.drop_of_length_le (by rw [hplen]; simp [dP])] at hgo
    replace hgo : qs = _ := hgo
    (repeat' (walk_at "x"))
    obtain ⟨g', le', S, hF'⟩ := S.freeze (pre := []) rfl hF
    rw [← hgo] at h
    subst hcc
    (repeat' (walk_at "x"))
    exact h _ g' _ S.aft (.list (lobj_is hF') (hxs.up le'))
theorem stretch_spec (X : Fns K) (G : Gl K g) (hg : Le g s.heap) (hA : Rm A 12) {tl pl : Addr} {ns : List Int} {ps : List (List Int)} (hx : Rd g (.ref tl) (.list (dI ns))) (hzl : ns.length ≤ 100) (hp : Rd g (.ref pl) (.list (dP ps))) (hlen : ps.length = ns.length) (hps : ∀ p ∈ ps, p.length ≤ 10) {R : Result → Shared → Prop}
    (h : ∀ r g' s', Aft s g [] g' [] s' → Rd g' (.ref r) (.list ((edGo ns 0 ps ([], 0)).map dQ)) → R (.ok (.ret (.ref r))) s') :
    codeAny (model prog w) A (.call (.ref X.stretch) ⟨[.ref tl, .ref pl], []⟩) R s := by
  refine enter0 [(Str.ofString "text", .ref tl), (Str.ofString "pieces", .ref pl)] X.hstretch.s G hg (hA.le (by omega)) (fun _ _ _ _ _ _ => rfl) (by decide) ⟨.inl rfl, .inl rfl, trivial⟩ ⟨rfl, rfl, trivial⟩ (fun L cdv cs s₁ hz => ?_) rfl rfl rfl
  intro envz Az cz lmz S Qf hFr hFn
  cases hz
  obtain ⟨cc, hcc⟩ : ∃ cc : Cs, cc = ⟨s, g, []⟩ := ⟨_, rfl⟩
  replace S : St cc L g [] lmz s₁ := by rw [hcc]; exact S
  have hw0 : cc.wr = [] := by rw [hcc]
  (repeat' (walk_at "x"))
  refine new_list S (Nat.zero_le _) fun F s hF S => ?_
  (repeat' (walk_at "x"))
  obtain ⟨_, pvs, q1, hL, hr⟩ := rd_list hp
  cases q1
  have hplen := hr.length
  refine enum_itL hA.h S hL fun I its s wr hI It hW S => ?_
  refine forI (fun i g₁ own₁ lm₁ => ∃ xs k st tp, own₁ = [(F, lobj xs k)] ∧ lm₁ = [(Str.ofString "found", .ref F), (Str.ofString "place", .int st.2 tp), (Str.ofString "text", .ref tl), (Str.ofString "pieces", .ref pl)] ∧ RdA g₁ xs (st.1.map dQ) ∧ st.1.length ≤ i ∧ edGo ns i (ps.drop i) st = edGo ns 0 ps ([], 0))
    hI (It _ _ _) hW S (lm₁ := [(Str.ofString "found", .ref F), (Str.ofString "place", .int 0 t), (Str.ofString "text", .ref tl), (Str.ofString "pieces", .ref pl)]) ⟨[], 0, ([], 0), t, rfl, rfl, .nil, Nat.le_refl _, rfl⟩ ⟨rfl, rfl, rfl, rfl, trivial⟩ (fun i v g₁ own₁ lm₁ s its hi hP le J S Qn hQn hQc hQb hQr => ?_) (fun gE own₁ lm₁ s le S J => ?_)
  · obtain ⟨xs, k, ⟨qs, pc⟩, tp, rfl, rfl, hxs, hqs, hgo⟩ := J
    refine St.letl S ?_
    intro lmz S
    obtain ⟨T, ti, x, rfl, hx1, hT⟩ := hP
    obtain ⟨d, hd, r1⟩ := hr.at hx1
    rw [List.getElem?_map] at hd
    obtain ⟨p, hpi, rfl⟩ := Option.map_eq_some_iff.mp hd
    obtain ⟨PT, pvs2, rfl, hPT, hpr⟩ := rd_tuple r1
    have hi' : i < ns.length := by rw [← hlen]; exact (List.getElem?_eq_some_iff.mp hpi).1
    have hpl := hps p (List.mem_of_getElem? hpi)
    have hpvl := hpr.length
    rw [len_dI] at hpvl
    have hdrop : ps.drop i = p :: ps.drop (i + 1) := by
      obtain ⟨hlt, e⟩ := List.getElem?_eq_some_iff.mp hpi
      rw [List.drop_eq_getElem_cons hlt, e]
    rw [hdrop] at hgo
    replace G := G.up le
    replace hx := hx.up le
    replace r1 := r1.up le
    have hxl := hxs.length
    have hq100 : qs.length ≤ 100 := Nat.le_trans hqs (by omega)
    rw [List.length_map] at hxl
    refine asg2 hA.h S hT fun s S => ?_
    (repeat' ((fail_if_success (with_reducible show wpAny _ _ (exec (PySem.Stmt.If _ _ _ _) _) _ _ _)); walk_at "x"))
    refine len_tup S (isTuple_up hPT (le.trans S.keep)) (by omega) fun tz s S => ?_
    rw [hpvl]
    (repeat' ((fail_if_success (with_reducible show wpAny _ _ (exec (PySem.Stmt.If _ _ _ _) _) _ _ _)); walk_at "x"))
    refine cutR (J := fun s => ∃ g2 xs k, Le g₁ g2 ∧ RdA g2 xs ((edStep (ns.getD i 0) (qs, pc) i p).1.map dQ) ∧ St cc L g2 (its ++ [(F, lobj xs k)]) [(Str.ofString "behind", .int (pc + p.length) t), (Str.ofString "piece", .ref PT), (Str.ofString "at", .int i ti), (Str.ofString "found", .ref F), (Str.ofString "place", .int pc tp), (Str.ofString "text", .ref tl), (Str.ofString "pieces", .ref pl)] s) ?_ ?_
    · intro Qc hCn
      (repeat' (walk_at "x"))
      refine item_rd S hx (by omega) (dI_get (n := ns.getD i 0) (by simpa using getD_of hi')) (by simp; omega) fun nv hnv => ?_
      (repeat' (walk_at "x"))
      refine mk_tuple (ds := dI [ns.getD i 0]) S (.one hnv) (Nat.le_of_ble_eq_true rfl) fun D g2 s le2 S hD => ?_
      replace G := G.up le2
      refine ne_rd S (r1.up le2) hD ((Fine.intT (n := 0) p).shaped (by decide)) ((Fine.intT (n := 0) [ns.getD i 0]).shaped (by decide)) (hA.deeper _) (by omega) ?_
      (repeat' (walk_at "x"))
      by_cases hpn : p = [ns.getD i 0]
      · refine ite_nt (by rw [hpn]; exact eqv_refl (Fine.intT (n := 0) _).1) ?_
        (repeat' (walk_at "x"))
        refine ⟨rfl, g2, xs, k, le2, ?_, S.vars _ (AllP.all ⟨rfl, rfl, rfl, rfl, rfl, rfl, rfl, trivial⟩)⟩
        have : (edStep (ns.getD i 0) (qs, pc) i p).1 = qs := by unfold edStep; exact if_pos hpn
        rw [this]
        exact hxs.up le2
      · refine ite_nf (eqv_ne (Fine.intT (n := 0) p) (Fine.intT (n := 0) _) fun e => hpn (dT_inj e)) ?_
        (repeat' (walk_at "x"))
        refine new_list S (Nat.zero_le _) fun Em s hEm S => ?_
        refine ne_data (Rd.list (lobj_is (S.ow (F, lobj xs k) (by simp))) ((hxs.up le2).up S.keep)) (Rd.list (lobj_is (S.ow (Em, lobj [] 0) (.head _))) .nil) ((Fine.dQs (n := 0) qs).shaped (by decide)) rfl (by have := hA.u; show _ + 3 + 64 < _; omega) ?_
        replace S := S.dropH hEm
        (repeat' (walk_at "x"))
        rcases List.eq_nil_or_concat qs with rfl | ⟨qs', q, rfl⟩
        · refine ite_nt rfl ?_
          (repeat' (walk_at "x"))
          refine gm_append S (k := k) (xs := xs) (by simp) ?_
          (repeat' (walk_at "x"))
          refine mk_tuple (ds := [.int i, .int (i + 1), .int pc, .int (pc + p.length)]) S (.cons (.int _ _) (.cons (.int _ _) (.cons (.int _ _) (.one (.int _ _))))) (Nat.le_of_ble_eq_true rfl) fun D2 g3 s le3 S hD2 => ?_
          (repeat' (walk_at "x"))
          refine l_append (xs := xs) (k := k) (pre := its) (post := []) S rfl (by omega) fun k' s S => ?_
          (repeat' (walk_at "x"))
          refine ⟨rfl, g3, _, k', le2.trans le3, ?_, S.vars _ (AllP.all ⟨rfl, rfl, rfl, rfl, rfl, rfl, rfl, trivial⟩)⟩
          have : (edStep (ns.getD i 0) ([], pc) i p).1 = [((i : Int), (i : Int) + 1, pc, pc + p.length)] := by unfold edStep; exact if_neg hpn
          rw [this]
          exact (hxs.up (le2.trans le3)).app (.one hD2)
        · rw [List.concat_eq_append] at hxs hxl hqs hgo hq100 hCn ⊢
          have hne : PyData.eqv (.list ((qs' ++ [q]).map dQ)) (.list []) = false := by cases qs' <;> rfl
          refine ite_nf hne ?_
          obtain ⟨xs', x', rfl, hxs', hx'⟩ : ∃ xs' x', xs = xs' ++ [x'] ∧ RdA g₁ xs' (qs'.map dQ) ∧ Rd g₁ x' (dQ q) := by
            rw [List.map_append] at hxs
            exact RdA.unsnoc hxs
          obtain ⟨QT, qvs, rfl, hQT, hqr⟩ := rd_tuple hx'
          obtain ⟨v0, v1, v2, v3, rfl, w0, w1, w2, w3⟩ := rdA4 hqr
          obtain ⟨t0, rfl⟩ := rd_int w0
          obtain ⟨t1, rfl⟩ := rd_int w1
          obtain ⟨t2, rfl⟩ := rd_int w2
          have hgl : (qs' ++ [q]).getLast? = some q := by simp
          (repeat' (walk_at "x"))
          refine item_last (xs := xs') (x := .ref QT) (n := k) S (by simp) ?_
          (repeat' (walk_at "x"))
          refine item_tup (isTuple_up hQT (le2.trans S.keep)) (by decide) (Nat.le_of_ble_eq_true rfl) (x := .int q.2.1 t1) rfl ?_
          (repeat' (walk_at "x"))
          refine ite_eq (fun hc => ?_) (fun hc => ?_)
          · (repeat' (walk_at "x"))
            refine item_last (xs := xs') (x := .ref QT) (n := k) S (by simp) ?_
            (repeat' (walk_at "x"))
            refine item_tup (isTuple_up hQT (le2.trans S.keep)) (by decide) (Nat.le_of_ble_eq_true rfl) (x := .int q.1 t0) rfl ?_
            (repeat' (walk_at "x"))
            refine item_last (xs := xs') (x := .ref QT) (n := k) S (by simp) ?_
            (repeat' (walk_at "x"))
            refine item_tup (isTuple_up hQT (le2.trans S.keep)) (by decide) (Nat.le_of_ble_eq_true rfl) (x := .int q.2.2.1 t2) rfl ?_
            (repeat' (walk_at "x"))
            refine mk_tuple (ds := [.int q.1, .int (i + 1), .int q.2.2.1, .int (pc + p.length)]) S (.cons (.int _ _) (.cons (.int _ _) (.cons (.int _ _) (.one (.int _ _))))) (Nat.le_of_ble_eq_true rfl) fun D2 g3 s le3 S hD2 => ?_
            (repeat' (walk_at "x"))
            refine l_setLast (xs := xs') (pre := its) (post := []) S rfl (by simp at hxl hq100; omega) fun k' s S => ?_
            (repeat' (walk_at "x"))
            refine ⟨rfl, g3, _, k', le2.trans le3, ?_, S.vars _ (AllP.all ⟨rfl, rfl, rfl, rfl, rfl, rfl, rfl, trivial⟩)⟩
            have : (edStep (ns.getD i 0) (qs' ++ [q], pc) i p).1 = qs' ++ [(q.1, (i : Int) + 1, q.2.2.1, pc + p.length)] := by
              unfold edStep
              dsimp only
              rw [if_neg hpn, hgl]
              dsimp only
              rw [if_pos hc, List.dropLast_concat]
            rw [this, List.map_append]
            exact (hxs'.up (le2.trans le3)).app (.one hD2)
          · (repeat' (walk_at "x"))
            refine gm_append S (k := k) (xs := xs' ++ [.ref QT]) (by simp) ?_
            (repeat' (walk_at "x"))
            refine mk_tuple (ds := [.int i, .int (i + 1), .int pc, .int (pc + p.length)]) S (.cons (.int _ _) (.cons (.int _ _) (.cons (.int _ _) (.one (.int _ _))))) (Nat.le_of_ble_eq_true rfl) fun D2 g3 s le3 S hD2 => ?_
            (repeat' (walk_at "x"))
            refine l_append (xs := xs' ++ [.ref QT]) (k := k) (pre := its) (post := []) S rfl (by simp at hxl hq100 ⊢; omega) fun k' s S => ?_
            (repeat' (walk_at "x"))
            refine ⟨rfl, g3, _, k', le2.trans le3, ?_, S.vars _ (AllP.all ⟨rfl, rfl, rfl, rfl, rfl, rfl, rfl, trivial⟩)⟩
            have : (edStep (ns.getD i 0) (qs' ++ [q], pc) i p).1 = qs' ++ [q] ++ [((i : Int), (i : Int) + 1, pc, pc + p.length)] := by
              unfold edStep
              dsimp only
              rw [if_neg hpn, hgl]
              dsimp only
              rw [if_neg hc]
            rw [this, List.map_append]
            exact (hxs.up (le2.trans le3)).app (.one hD2)
    · rintro s ⟨g2, xs2, k2, le2, hxs2, S⟩
      refine St.letl S ?_
      intro lmz S
      replace G := G.up le2
      (repeat' (walk_at "x"))
      (repeat' (walk_at "x"))
      refine forEnd (own₂ := [(F, lobj xs2 k2)]) S le2 ⟨xs2, k2, edStep (ns.getD i 0) (qs, pc) i p, _, rfl, rfl, hxs2, ?_, hgo⟩ ⟨rfl, rfl, rfl, rfl, trivial⟩
      have := edStep_len (ns.getD i 0) (qs, pc) i p
      exact Nat.le_trans this (Nat.succ_le_succ hqs)
  · obtain ⟨xs, k, ⟨qs, pc⟩, tp, rfl, rfl, hxs, hqs, hgo⟩ := J
    refine St.letl S ?_
    intro lmz S
    rw [List.drop_of_length_le (by rw [hplen]; simp [dP])] at hgo
    replace hgo : qs = _ := hgo
    (repeat' (walk_at "x"))
    obtain ⟨g', le', S, hF'⟩ := S.freeze (pre := []) rfl hF
    rw [← hgo] at h
    subst hcc
    (repeat' (walk_at "x"))
    exact h _ g' _ S.aft (.list (lobj_is hF') (hxs.up le'))

end
end Mine
end
section
set_option maxRecDepth 100000
set_option maxHeartbeats 1000000
namespace Mine
section
variable {prog : Program} {w : World} {A : Around} {E : Value → Shared → Prop} {s : Shared} {K : Frag} {c : Cs} {L : Addr} {g : Heap} {own : List (Addr × Obj)} {lm : List (Str × Value)} {env : Env}
/-- a name in a cell is stored -/
theorem s_cell {x : Str} {v : Value} {v₀ : Option Value} {k : Addr} {o : Obj} {pre post : List (Addr × Obj)} {Q : Unit → Shared → Prop} (S : St c L g own lm s) (hown : own = pre ++ (k, o) :: post) (hc : env.cells.lookup x = some k) (hd : o.data = .cell v₀) (hx : env.kindOf x = some .cell)
    (h : ∀ o' s', o'.data = .cell (some v) → St c L g (pre ++ (k, o') :: post) lm s' → Q () s') (hk : env.scope.kind = .function := by rfl) : wpAny (model prog w) A (storeName env x v) Q E s := by
  have ho := S.ow (k, o) (by rw [hown]; simp)
  refine wpAny_storeName_cell hk hx hc ⟨o, ho, hd⟩ fun h' hcell hs => ?_
  obtain ⟨o', ho', hd'⟩ := hcell
  exact h o' _ hd' (S.turn hown ho' hs.extBut)
end
/-- one row -/
def RowS (prog : Program) (w : World) (g : Heap) (r : Addr) (T : Md) (n : Int) : Prop :=
  (r == sysModules) = false ∧ ∃ ro rkv, g.get? r = some ro ∧ ro.IsDictOf (PySem.strKind prog w) rkv ∧
    (∀ m : Nm, match T.sim n m with | none => valueAt rkv m.s = none | some i => ∃ v, valueAt rkv m.s = some v ∧ Rd g v (.int i)) ∧
    (∀ m : Nm, match T.spe n m with | none => valueAt rkv m.ss = none | some Ls => ∃ v, valueAt rkv m.ss = some v ∧ Rd g v (.list (dS Ls)))
theorem RowS.up {prog : Program} {w : World} {g g' : Heap} {r : Addr} {T : Md} {n : Int} (h : RowS prog w g r T n) (le : Le g g') : RowS prog w g' r T n := by
  obtain ⟨h0, ro, rkv, h1, h2, h3, h4⟩ := h
  refine ⟨h0, ro, rkv, le _ _ h1, h2, fun m => ?_, fun m => ?_⟩
  · have := h3 m
    cases e : T.sim n m with
    | none => rw [e] at this; exact this
    | some i => rw [e] at this; obtain ⟨v, a, b⟩ := this; exact ⟨v, a, b.up le⟩
  · have := h4 m
    cases e : T.spe n m with
    | none => rw [e] at this; exact this
    | some i => rw [e] at this; obtain ⟨v, a, b⟩ := this; exact ⟨v, a, b.up le⟩
/-- what is told -/
def ToldIs (prog : Program) (w : World) (g : Heap) (tr : Addr) (T : Md) : Prop :=
  (tr == sysModules) = false ∧ ∃ o kvs, g.get? tr = some o ∧ o.IsDictOf (PySem.intKind prog w) kvs ∧ kvs.map (·.1) = codesL ∧
    ∀ n ∈ codesL, ∃ r ro rkv, valueAt kvs n = some (.ref r) ∧ (r == sysModules) = false ∧ g.get? r = some ro ∧ ro.IsDictOf (PySem.strKind prog w) rkv ∧ DF g rkv (T.f n) ∧ rkv.length ≤ 20
theorem ToldIs.up {prog : Program} {w : World} {g g' : Heap} {tr : Addr} {T : Md} (h : ToldIs prog w g tr T) (le : Le g g') : ToldIs prog w g' tr T := by
  obtain ⟨h0, o, kvs, h1, h2, h3, h4⟩ := h
  refine ⟨h0, o, kvs, le _ _ h1, h2, h3, fun n hn => ?_⟩
  obtain ⟨r, ro, rkv, a, b, c, d, e, f⟩ := h4 n hn
  exact ⟨r, ro, rkv, a, b, le _ _ c, d, e.up le, f⟩
theorem row_of {prog : Program} {w : World} {g : Heap} {r : Addr} {ro : Obj} {rkv : List (Str × Value)} {T : Md} {n : Int} (h0 : (r == sysModules) = false) (h1 : g.get? r = some ro) (h2 : ro.IsDictOf (PySem.strKind prog w) rkv) (h3 : DF g rkv (T.f n)) : RowS prog w g r T n := by
  refine ⟨h0, ro, rkv, h1, h2, fun m => ?_, fun m => ?_⟩
  · have := h3 m.s
    rw [f_s] at this
    cases e : T.sim n m with
    | none => rw [e] at this; exact this
    | some i => rw [e] at this; exact this
  · have := h3 m.ss
    rw [f_ss] at this
    cases e : T.spe n m with
    | none => rw [e] at this; exact this
    | some i => rw [e] at this; exact this
theorem row_empty {prog : Program} {w : World} {g : Heap} {E : Addr} {T : Md} {n : Int} (hT : MdOk T) (hn : n ∉ codesL) (h0 : (E == sysModules) = false) (h1 : g.get? E = some edict) : RowS prog w g E T n := by
  refine ⟨h0, edict, [], h1, edict_is, fun m => ?_, fun m => ?_⟩
  · rw [((hT.off n hn).2 m).1]; rfl
  · rw [((hT.off n hn).2 m).2]; rfl
theorem row_get {prog : Program} {w : World} {g : Heap} {tr E : Addr} {T : Md} (n : Int) (H : ToldIs prog w g tr T) (hT : MdOk T) (h0 : (E == sysModules) = false) (h1 : g.get? E = some edict) :
    ∃ o kvs r, g.get? tr = some o ∧ o.IsDictOf (PySem.intKind prog w) kvs ∧ (valueAt kvs n).getD (.ref E) = .ref r ∧ RowS prog w g r T n := by
  obtain ⟨_, o, kvs, a1, a2, a3, a4⟩ := H
  by_cases hn : n ∈ codesL
  · obtain ⟨r, ro, rkv, b1, b2, b3, b4, b5, b6⟩ := a4 n hn
    exact ⟨o, kvs, r, a1, a2, by rw [b1]; rfl, row_of b2 b3 b4 b5⟩
  · have : valueAt kvs n = none := valueAt_none_iff.mpr (by rw [a3]; exact hn)
    exact ⟨o, kvs, E, a1, a2, by rw [this]; rfl, row_empty hT hn h0 h1⟩
end Mine
end
section
set_option maxRecDepth 100000
set_option maxHeartbeats 1000000
namespace Mine
section
variable {prog : Program} {w : World} {A : Around} {s : Shared} {K : Frag} {g : Heap}
theorem gm_get2 {prog : Program} {w : World} {A : Around} {E : Value → Shared → Prop} {s : Shared} {KK : Type} [DecidableEq KK] {knd : KeyKind prog w KK} {kvs : List (KK × Value)} {d : Addr} {o : Obj} {pl : Sem Bool} {Q : Value × List Value → Shared → Prop} (hg : g.get? d = some o) (ho : o.IsDictOf knd kvs) (hk : Le g s.heap) (h : Q (.builtin "dict.get", [.ref d]) s) :
    wpAny (model prog w) A (getMethod (.ref d) (PySem.Str.ofString "get") pl) Q E s := gm_get (Heap.dictOf_iff.mpr ⟨o, hk _ _ hg, ho⟩) h
theorem simple_spec (X : Fns K) (G : Gl K g) (hg : Le g s.heap) (hA : Rm A 3) {tr : Addr} {T : Md} {n : Int} {m : Nm} {tn tm : Tok} (H : ToldIs prog w g tr T) (hT : MdOk T) {R : Result → Shared → Prop}
    (h : ∀ t g' s', Aft s g [] g' [] s' → R (.ok (.ret (.int (T.simp n m) t))) s') :
    codeAny (model prog w) A (.call (.ref X.simple) ⟨[.ref tr, .int n tn, .str m.s tm], []⟩) R s := by
  refine enter0 [(Str.ofString "told", .ref tr), (Str.ofString "code", .int n tn), (Str.ofString "name", .str m.s tm)] X.hsimple.s G hg (hA.le (by omega)) (fun _ _ _ _ _ _ => rfl) (by decide) ⟨.inl rfl, .inl rfl, .inl rfl, trivial⟩ ⟨rfl, rfl, rfl, trivial⟩ (fun L cdv cs s₁ hz => ?_) rfl rfl rfl
  intro envz Az cz lmz S Qf hFr hFn
  cases hz
  obtain ⟨cc, hcc⟩ : ∃ cc : Cs, cc = ⟨s, g, []⟩ := ⟨_, rfl⟩
  replace S : St cc L g [] lmz s₁ := by rw [hcc]; exact S
  have h0 := H.1
  (repeat' (walk_at "x"))
  obtain ⟨o, kvs, k1, k2, -, -⟩ := H.2
  refine gm_get2 k1 k2 S.keep ?_
  refine dg2 (PySem.intKind prog w) S h0 ?_
  (repeat' (walk_at "x"))
  refine d_empty S G fun E s hE hEw S => ?_
  obtain ⟨g1, le, S, hE1⟩ := S.freeze (pre := []) rfl hEw
  replace S : St _ L g1 [] _ _ := S
  obtain ⟨o, kvs, r, k1, k2, k3, RW⟩ := row_get n (H.up le) hT hE hE1
  refine ⟨g1, [], _, n, kvs, S, ik n tn, Heap.dictOf_iff.mpr ⟨o, S.keep _ _ k1, k2⟩, fun s S => ?_⟩
  rw [k3]
  replace G := G.up le
  obtain ⟨r0, ro, rkv, r1, r2, r3, r4⟩ := RW
  have r3m := r3 m
  have r3u := r3 .uc
  (repeat' (walk_at "x"))
  refine gm_get2 r1 r2 S.keep ?_
  refine dg2 (PySem.strKind prog w) S r0 ?_
  (repeat' (walk_at "x"))
  have fin : ∀ (d : Int) (td : Tok) (lm : List (Str × Value)) (s' : Shared), (T.simp n m = (T.sim n m).getD d) → St cc L g1 [] lm s' → R (.ok (.ret ((valueAt rkv m.s).getD (.int d td)))) s' := fun d td lm s' hd S => by
    subst hcc
    cases e : T.sim n m with
    | none =>
      rw [e] at r3m
      rw [r3m]
      have := h td g1 s' S.aft
      rw [hd, e] at this
      (repeat' (walk_at "x"))
      exact this
    | some i =>
      rw [e] at r3m
      obtain ⟨v, q1, q2⟩ := r3m
      obtain ⟨ti, rfl⟩ := rd_int q2
      rw [q1]
      have := h ti g1 s' S.aft
      rw [hd, e] at this
      (repeat' (walk_at "x"))
      exact this
  cases m with
  | uc =>
    refine ite_isnt (by decide) ?_
    (repeat' (walk_at "x"))
    exact ⟨_, _, _, _, rkv, S, sk _ _, Heap.dictOf_iff.mpr ⟨ro, S.keep _ _ r1, r2⟩, fun s S => hFr _ _ (fin n tn _ s rfl S)⟩
  | lc =>
    refine ite_isnt (by decide) ?_
    (repeat' (walk_at "x"))
    exact ⟨_, _, _, _, rkv, S, sk _ _, Heap.dictOf_iff.mpr ⟨ro, S.keep _ _ r1, r2⟩, fun s S => hFr _ _ (fin n tn _ s rfl S)⟩
  | tc =>
    refine ite_is (by decide) ?_
    (repeat' (walk_at "x"))
    refine gm_get2 r1 r2 S.keep ?_
    refine dg2 (PySem.strKind prog w) S r0 ?_
    (repeat' (walk_at "x"))
    refine ⟨_, _, _, Nm.uc.s, rkv, S, sk _ _, Heap.dictOf_iff.mpr ⟨ro, S.keep _ _ r1, r2⟩, fun s S => ?_⟩
    cases e : T.sim n .uc with
    | none =>
      rw [e] at r3u
      rw [r3u]
      exact ⟨_, _, _, _, rkv, S, sk _ _, Heap.dictOf_iff.mpr ⟨ro, S.keep _ _ r1, r2⟩, fun s S => hFr _ _ (fin n tn _ s (by unfold Md.simp; rw [e]; rfl) S)⟩
    | some i =>
      rw [e] at r3u
      obtain ⟨v, q1, q2⟩ := r3u
      obtain ⟨ti, rfl⟩ := rd_int q2
      rw [q1]
      exact ⟨_, _, _, _, rkv, S, sk _ _, Heap.dictOf_iff.mpr ⟨ro, S.keep _ _ r1, r2⟩, fun s S => hFr _ _ (fin i ti _ s (by unfold Md.simp; rw [e]; rfl) S)⟩

end
end Mine
end
section
set_option genInjectivity false
set_option genSizeOf false
set_option maxRecDepth 100000
set_option maxHeartbeats 1000000
namespace Mine
section
variable {prog : Program} {w : World} {A : Around} {s : Shared} {K : Frag} {g : Heap}
theorem dg2t {prog : Program} {w : World} {A : Around} {E : Value → Shared → Prop} {s : Shared} {c : Cs} {L : Addr} {own : List (Addr × Obj)} {lm : List (Str × Value)} {env : Env} {KK : Type} [DecidableEq KK] {d : Addr} {pos : Pos} {e e' : PySem.Expr} {Q : Value → Shared → Prop} (knd : KeyKind prog w KK) (_S : St c L g own lm s) (hd : (d == sysModules) = false)
    (h : wpAny (model prog w) A (eval e env) (fun key s₁ => wpAny (model prog w) A (eval e' env) (fun dflt s₂ => ∃ g₁ own₁ lm₁ k kvs, St c L g₁ own₁ lm₁ s₂ ∧ knd.is k key = true ∧ s₂.heap.DictOf knd d kvs ∧ ∀ s₃, St c L g₁ own₁ lm₁ s₃ → 0 < s₃.toks → Q ((valueAt kvs k).getD dflt) s₃) E s₁) E s)
    (he : backTo pos (starEach [e, e'] env) = [(false, eval e env), (false, eval e' env)] := by rfl) :
    wpAny (model prog w) A (callWith pos (.builtin "dict.get") [.ref d] (backTo pos (starEach [e, e'] env)) []) Q E s := by
  rw [he]
  refine wpAny_dict_get2 (knd := knd) hd (wpAny_mono h (fun key s₁ h₁ => wpAny_mono h₁ (fun dflt s₂ h₂ => ?_) fun _ _ e => e) fun _ _ e => e)
  obtain ⟨g₁, own₁, lm₁, k, kvs, S, hk, hm, hq⟩ := h₂
  exact ⟨k, valueAt kvs, hk, hm.mapOf, hq _ S.tok (Nat.succ_pos _)⟩
structure LangL (l b : Str) : Prop where
  ok : LangOk l b
  sp : (Txt.split (Txt.replace l (Str.ofString "_") (Str.ofString "-")) (Str.ofString "-")).head? = some b
  sz : (Txt.replace l (Str.ofString "_") (Str.ofString "-")).length ≤ 1000
  sz2 : (Builtin.Str.partsBetween (Txt.replace l (Str.ofString "_") (Str.ofString "-")) (Builtin.Str.occurrences (Txt.replace l (Str.ofString "_") (Str.ofString "-")) (Str.ofString "-") 0 (Txt.replace l (Str.ofString "_") (Str.ofString "-")).length ((Txt.replace l (Str.ofString "_") (Str.ofString "-")).length + 1)) (Str.ofString "-").length).length ≤ 1000
  okb : PyData.strOk b = true
theorem lang_l {l : Str} (h : l ∈ langs) : ∃ b, LangL l b := by
  obtain ⟨b, hb⟩ := lang_ok h
  refine ⟨b, hb, ?_, ?_, ?_, ?_⟩
  all_goals
    try rw [← hb.e]
    clear hb
    simp only [langs, List.mem_cons, List.not_mem_nil, or_false] at h
    rcases h with rfl | rfl | rfl | rfl | rfl <;> decide +kernel
def c1 (b : Str) (p : List Int × List Str) : Bool := !p.2.isEmpty && p.2.all (· == b)
def c0 (p : List Int × List Str) : Bool := p.2.isEmpty
def fulls (Ls : Sp) (b : Str) : List (List Int) := (Ls.filter (c1 b)).map (·.1) ++ (Ls.filter c0).map (·.1)
theorem fulls_head (Ls : Sp) (b : Str) : (fulls Ls b).head? = spec Ls b := by
  unfold fulls spec spec1 spec0
  rw [List.head?_append, List.head?_map, List.head?_map, List.head?_filter, List.head?_filter]
  rfl
theorem split_part {E : Value → Shared → Prop} {c : Cs} {L : Addr} {own : List (Addr × Obj)} {lm : List (Str × Value)} {x b : Str} {t u : Tok} {Q : Value → Shared → Prop} (S : St c L g own lm s) (hx : x.length ≤ 1000) (hp : (Builtin.Str.partsBetween x (Builtin.Str.occurrences x (Str.ofString "-") 0 x.length (x.length + 1)) (Str.ofString "-").length).length ≤ 1000)
    (hb : (Txt.split x (Str.ofString "-")).head? = some b)
    (h : ∀ D l t' s', St c L g own lm s' → s'.heap.IsList D (strValues ((b, t') :: l)).toArray → Q (.ref D) s') : wpAny (model prog w) A (call (.builtin "str.split") [.str x t, .str (Str.ofString "-") u]) Q E s := by
  have sl : sizeLine = 16777216 := rfl
  refine SCG.split1 (Fm := fun s => St c L g own lm s) (fun _ _ _ S => S.le fun _ _ e => Heap.get?_push_of_some _ e) S (by decide) (fun D l s' hl S' hL => ?_) (by omega) (by omega)
  cases l with
  | nil =>
    rw [← hl] at hb; cases hb
  | cons p l =>
    rw [← hl] at hb
    obtain ⟨b', t'⟩ := p
    cases hb
    exact h D l t' s' S' hL
theorem add_s {E : Value → Shared → Prop} {c : Cs} {L : Addr} {own : List (Addr × Obj)} {lm : List (Str × Value)} {x y : Str} {t u : Tok} {Q : Value → Shared → Prop} (S : St c L g own lm s) (hz : x.length + y.length ≤ 1000) (h : ∀ t' s', St c L g own lm s' → Q (.str (x ++ y) t') s') : wpAny (model prog w) A (binaryOp .Add (.str x t) (.str y u)) Q E s :=
  SB.add (fun t' k => h t' _ (S.tok (t' := k))) (by have sl : sizeLine = 16777216 := rfl; omega)
theorem ss_eq (m : Nm) : Str.ofString "s" ++ m.s = m.ss := by cases m <;> decide
theorem s_len (m : Nm) : m.s.length ≤ 10 := by cases m <;> decide
theorem full_spec (X : Fns K) (G : Gl K g) (hg : Le g s.heap) (hA : Rm A 12) {tr : Addr} {T : Md} {n : Int} {m : Nm} {l b : Str} {tn tm tl : Tok} (H : ToldIs prog w g tr T) (hT : MdOk T) (hl : LangL l b) {R : Result → Shared → Prop}
    (h : ∀ v g' s', Aft s g [] g' [] s' → Rd g' v (dT (T.full n m b)) → R (.ok (.ret v)) s') :
    codeAny (model prog w) A (.call (.ref X.full) ⟨[.ref tr, .int n tn, .str m.s tm, .str l tl], []⟩) R s := by
  refine enter (own := []) (binds := [(Str.ofString "told", .ref tr), (Str.ofString "code", .int n tn), (Str.ofString "name", .str m.s tm), (Str.ofString "language", .str l tl)]) (lm := [(Str.ofString "told", .ref tr), (Str.ofString "code", .int n tn), (Str.ofString "name", .str m.s tm), (Str.ofString "language", .str l tl)]) X.hfull.s G hg (by have := hA.d; omega) (fun _ h => nomatch h) List.nodup_nil (fun _ h => nomatch h) (fun _ _ _ _ _ _ => BindsTo.of_eq rfl) (by decide) ⟨.inl rfl, .inl rfl, .inl rfl, .inl rfl, trivial⟩ ⟨rfl, rfl, rfl, rfl, trivial⟩ (fun L cdv cs s₁ hz => ?_) rfl rfl rfl
  intro envz Az cz lmz S Qf hFr hFn
  obtain ⟨o1, rfl, hd1⟩ := zip1 hz
  replace hd1 : o1.data = .cell none := hd1
  have hcw := enter_fresh S rfl _ (.head _)
  have h0 := H.1
  (repeat' (walk_at "x"))
  refine PyProof.Rows.Assign_Tuple (PyProof.Rows.Tuple_ ?_) rfl (by with_unfolding_all rfl)
  (repeat' (walk_at "x"))
  obtain ⟨o, kvs, k1, k2, -, -⟩ := H.2
  refine gm_get2 k1 k2 S.keep ?_
  refine dg2 (PySem.intKind prog w) S h0 ?_
  (repeat' (walk_at "x"))
  refine d_empty S G fun E s hE hEw S => ?_
  obtain ⟨g1, le, S, hE1⟩ := S.freeze (pre := []) rfl hEw
  replace S : St _ L g1 ((L + 1, o1) :: []) _ _ := S
  obtain ⟨o, kvs, r, k1, k2, k3, RW⟩ := row_get n (H.up le) hT hE hE1
  refine ⟨g1, _, _, n, kvs, S, ik n tn, Heap.dictOf_iff.mpr ⟨o, S.keep _ _ k1, k2⟩, fun s S => ?_⟩
  rw [k3]
  replace G := G.up le
  replace H := H.up le
  obtain ⟨r0, ro, rkv, r1, r2, r3, r4⟩ := RW
  (repeat' (walk_at "x"))
  refine gm_get2 r1 r2 S.keep ?_
  refine dg2t (PySem.strKind prog w) S r0 ?_
  (repeat' (walk_at "x"))
  refine add_s S (by have := s_len m; have : (Str.ofString "s").length = 1 := by decide
                     omega) fun ts s S => ?_
  rw [ss_eq]
  (repeat' (walk_at "x"))
  refine new_list S (Nat.zero_le _) fun N s hN S => ?_
  obtain ⟨g2, le2, S, hN2⟩ := S.freeze (pre := []) rfl hN
  replace S : St _ L g2 ((L + 1, o1) :: []) _ _ := S
  replace G := G.up le2
  replace H := H.up le2
  refine ⟨g2, _, _, m.ss, rkv, S, sk _ _, Heap.dictOf_iff.mpr ⟨ro, S.keep _ _ (le2 _ _ r1), r2⟩, fun s S htk => ?_⟩
  obtain ⟨rv, hrv, hrr⟩ : ∃ rv, (valueAt rkv m.ss).getD (.ref N) = .ref rv ∧ Rd g2 (.ref rv) (.list (dS ((T.spe n m).getD []))) := by
    have r4m := r4 m
    cases e : T.spe n m with
    | none =>
      rw [e] at r4m
      rw [r4m]
      exact ⟨N, rfl, .list (lobj_is hN2) .nil⟩
    | some Ls =>
      rw [e] at r4m
      obtain ⟨v, q1, q2⟩ := r4m
      obtain ⟨a, vs, rfl, q3, q4⟩ := rd_list q2
      rw [q1]
      exact ⟨a, rfl, q2.up le2⟩
  rw [hrv]
  repeat' ((fail_if_success (with_reducible show wpAny _ _ (eval (PySem.Expr.Constant _ _ _) _) _ _ _)); walk_at "x")
  refine GM.replace ?_
  repeat' ((fail_if_success (with_reducible show wpAny _ _ (eval (PySem.Expr.Constant _ _ _) _) _ _ _)); walk_at "x")
  refine wpAny_Constant_str ?_
  repeat' ((fail_if_success (with_reducible show wpAny _ _ (eval (PySem.Expr.Constant _ _ _) _) _ _ _)); walk_at "x")
  refine wpAny_Constant_str ?_
  (repeat' (walk_at "x"))
  have hrb : l.length + (l.length + 1) * (Str.ofString "-").length ≤ 16777216 := by
    have := hl.ok.z
    have e : (Str.ofString "-").length = 1 := by decide
    rw [e]; omega
  refine SC.replace (x := l) (y := Str.ofString "_") (z := Str.ofString "-") (Nat.ne_of_gt htk) (Nat.succ_ne_zero _) (Nat.ne_of_lt (Nat.lt_succ_self _)) (by decide) hrb fun t' k => ?_
  replace S := S.tok (t' := k)
  (repeat' (walk_at "x"))
  refine GM.split ?_
  (repeat' (walk_at "x"))
  refine split_part S hl.sz hl.sz2 hl.sp fun D l2 t2 s S hL => ?_
  refine wpAny_Constant_int ?_
  replace S := S.tok (t' := s.toks + 1)
  refine item_l hL (by decide) (by decide) (x := .str b t2) rfl ?_ (by with_unfolding_all rfl)
  (repeat' (walk_at "x"))
  refine new_tuple S (Nat.le_of_ble_eq_true rfl) fun P s hP S => ?_
  refine asg2 hA.h S (tobj_is (S.ow _ (.head _))) fun s S => ?_
  replace S := S.dropH hP
  (repeat' (walk_at "x"))
  refine s_cell (pre := []) S rfl rfl hd1 rfl fun o2 s hd2 S => ?_
  obtain ⟨g3, le3, S, hc1⟩ := S.cell hd2 hcw
  replace G := G.up le3
  replace H := H.up le3
  replace hrr := hrr.up le3
  generalize hLs : (T.spe n m).getD [] = Ls at hrr
  have hok : ∀ p ∈ Ls, p.1.length ≤ 2 ∧ p.2 ∈ menu5 := by
    cases e : T.spe n m with
    | none => rw [e] at hLs; rw [← hLs]; exact fun _ h => nomatch h
    | some Ls' => rw [e] at hLs; rw [← hLs]; exact (hT.sp n m Ls' e).2
  have hLz : Ls.length ≤ 2 := by
    cases e : T.spe n m with
    | none => rw [e] at hLs; rw [← hLs]; exact Nat.zero_le _
    | some Ls' => rw [e] at hLs; rw [← hLs]; exact (hT.sp n m Ls' e).1
  have hdz : (dS Ls).length = Ls.length := by simp [dS]
  (repeat' (walk_at "x"))
  refine la (cl := [(Str.ofString "base", L + 1)]) rfl rfl rfl (by decide) ?_
  (repeat' (walk_at "x"))
  refine start_rdL hA.h S hrr fun I its s hI It hW S => ?_
  refine compA (fun j g₂ own₂ ys => own₂ = [] ∧ RdA g₂ ys (dP (((Ls.take j).filter (c1 b)).map (·.1))))
    hI (It _) hW S (by omega) (by decide) rfl rfl rfl ⟨rfl, .nil⟩ (fun C hid j v g₂ own₂ ys s hj hP le4 J hl' S Qe Qs hQe hQs => ?_) (fun F k g₂ own₂ ys s hF le4 S J hl' => ?_)
  · obtain ⟨rfl, hys⟩ := J
    refine St.letl S ?_
    intro lmz S
    obtain ⟨d, hd, hv⟩ := hP
    obtain ⟨p, hp, rfl⟩ := dS_get hd
    obtain ⟨T2, mv, wv, rfl, hT2, hmv, hwv⟩ := tup2 hv
    obtain ⟨q1, q2⟩ := menu_ok (hok p (List.mem_of_getElem? hp)).2
    replace G := G.up le4
    replace hc1 := hc1.keeps le4
    replace hmv := hmv.up le4
    replace hwv := hwv.up le4
    obtain ⟨wT, wvs, rfl, hwT, hwr⟩ := rd_tuple hwv
    refine asg2 hA.h S (isTuple_up hT2 (le4.trans S.keep)) fun s S => ?_
    (repeat' (walk_at "x"))
    have hz1 : (p.2.map PyData.str).length ≤ 2 := by
      have := (hok p (List.mem_of_getElem? hp)).2
      simp only [menu5, List.mem_cons, List.not_mem_nil, or_false] at this
      rcases this with e | e | e | e | e <;> rw [e] <;> exact Nat.le_of_ble_eq_true rfl
    have et := take_snoc hp
    refine mk_tuple (ds := []) S .nil (Nat.zero_le _) fun D0 g5 s le5 S hD0 => ?_
    replace G := G.up le5
    replace hc1 := hc1.keeps le5
    replace hwv := hwv.up le5
    replace hmv := hmv.up le5
    refine ne_rd S hwv hD0 (q2.shaped (by decide)) (Fine.shaped (n := 1) (.tuple fun _ h => nomatch h) (by decide)) (hA.deeper _) (by omega) ?_
    (repeat' (walk_at "x"))
    have ev : PyData.eqv (.tuple (p.2.map PyData.str)) (.tuple []) = p.2.isEmpty := by
      cases p.2 <;> simp [PyData.eqv, PyData.eqvAll]
    rw [ev]
    cases ew : p.2.isEmpty
    · refine ite_nf rfl ?_
      (repeat' (walk_at "x"))
      refine lc (cl := [(Str.ofString "base", L + 1)]) rfl rfl (by decide) ?_
      (repeat' (walk_at "x"))
      refine start_rdT hA.h S hwv fun I2 its2 s hI2 It2 hW2 S => ?_
      refine compT (fun j2 g₂ own₂ zs => own₂ = hid ++ [] ∧ RdA g₂ zs (((p.2.take j2).filter (fun x => x != b)).map PyData.str))
        hI2 (It2 _) hW2 S (by omega) (by decide) rfl ⟨rfl, .nil⟩ (fun C2 hid2 j2 v g₂ own₂ zs s hj2 hP2 le6 J hl2 S Pe Ps hPe hPs => ?_) (fun D2 k2 g₂ own₂ zs s hD2 le6 S J hl2 => ?_)
      · obtain ⟨rfl, hzs⟩ := J
        refine St.letl S ?_
        intro lmz S
        obtain ⟨d, hd, hv⟩ := hP2
        rw [List.getElem?_map] at hd
        obtain ⟨x, hx, rfl⟩ := Option.map_eq_some_iff.mp hd
        obtain ⟨tx, rfl⟩ := rd_str hv
        have ex := take_snoc hx
        replace G := G.up le6
        replace hc1 := hc1.keeps le6
        (repeat' (walk_at "x"))
        refine ite_b (fun hc => ?_) (fun hc => ?_)
        · (repeat' (walk_at "x"))
          (repeat' (walk_at "x"))
          refine ⟨_, hid ++ [], _, Le.refl _, S, rfl, ?_⟩
          rw [ex, List.filter_append, List.filter_cons_of_pos (p := fun x => x != b) hc, List.filter_nil, List.map_append]
          exact hzs.app (.one (.str _ _))
        · (repeat' (walk_at "x"))
          refine ⟨_, hid ++ [], _, Le.refl _, S, rfl, ?_⟩
          rw [ex, List.filter_append, List.filter_cons_of_neg (p := fun x => x != b) (by rw [hc]; exact Bool.false_ne_true), List.filter_nil, List.append_nil]
          exact hzs
      · obtain ⟨rfl, hzs⟩ := J
        refine St.letl S ?_
        intro lmz S
        rw [List.take_of_length_le (by simp)] at hzs
        obtain ⟨g6, le7, S, hD3⟩ := S.freeze (pre := []) rfl hD2
        replace S : St _ C g6 (hid ++ []) _ _ := S
        have hZ : Rd g6 (.ref D2) _ := .list (lobj_is hD3) (hzs.up le7)
        replace G := G.up (le6.trans le7)
        have le8 := le5.trans (le6.trans le7)
        (repeat' (walk_at "x"))
        refine mk_list (ds := []) S .nil (Nat.zero_le _) fun D4 g7 s le9 S hD4 => ?_
        have hfz : Fine 1 (.list ((p.2.filter (fun x => x != b)).map PyData.str)) := .list fun d hd => by
          obtain ⟨x, hx, rfl⟩ := List.mem_map.mp hd
          have hx2 := (List.mem_filter.mp hx).1
          rcases q1 x hx2 with rfl | rfl
          · exact .str (by decide +kernel)
          · exact .str (by decide +kernel)
        refine eq_rd S (hZ.up le9) hD4 (hfz.shaped (by decide)) (Fine.shaped (n := 1) (.list fun _ h => nomatch h) (by decide)) (hA.deeper _) (by omega) ?_
        (repeat' (walk_at "x"))
        have ev2 : PyData.eqv (.list ((p.2.filter (fun x => x != b)).map PyData.str)) (.list []) = p.2.all (· == b) := by
          have : PyData.eqv (.list ((p.2.filter (fun x => x != b)).map PyData.str)) (.list []) = (p.2.filter (fun x => x != b)).isEmpty := by
            cases p.2.filter (fun x => x != b) <;> simp [PyData.eqv, PyData.eqvAll]
          rw [this, Bool.eq_iff_iff, List.isEmpty_iff, List.filter_eq_nil_iff, List.all_eq_true]
          simp
        rw [ev2]
        refine ite_b (fun hc => ?_) (fun hc => ?_)
        · (repeat' (walk_at "x"))
          (repeat' (walk_at "x"))
          refine ⟨_, [], _, le8.trans le9, S, rfl, ?_⟩
          rw [et, List.filter_append, List.filter_cons_of_pos (by show (!p.2.isEmpty && p.2.all (· == b)) = true; rw [ew, hc]; rfl), List.filter_nil, List.map_append]
          unfold dP
          rw [List.map_append]
          exact (hys.up (le8.trans le9)).app (.one (hmv.up ((le6.trans le7).trans le9)))
        · (repeat' (walk_at "x"))
          refine ⟨_, [], _, le8.trans le9, S, rfl, ?_⟩
          rw [et, List.filter_append, List.filter_cons_of_neg (by show ¬ (!p.2.isEmpty && p.2.all (· == b)) = true; rw [ew, hc]; exact Bool.false_ne_true), List.filter_nil, List.append_nil]
          exact hys.up (le8.trans le9)
    · refine ite_nt rfl ?_
      (repeat' (walk_at "x"))
      refine ⟨_, [], _, le5, S, rfl, ?_⟩
      rw [et, List.filter_append, List.filter_cons_of_neg (by show ¬ (!p.2.isEmpty && p.2.all (· == b)) = true; rw [ew]; exact Bool.false_ne_true), List.filter_nil, List.append_nil]
      exact hys.up le5
  · obtain ⟨rfl, hys⟩ := J
    refine St.letl S ?_
    intro lmz S
    rw [List.take_of_length_le (by omega)] at hys
    obtain ⟨g5, le5, S, hF5⟩ := S.freeze (pre := []) rfl hF
    replace S : St _ L g5 [] _ _ := S
    have hF6 : Rd g5 (.ref F) (.list (dP ((Ls.filter (c1 b)).map (·.1)))) := .list (lobj_is hF5) (hys.up le5)
    replace G := G.up (le4.trans le5)
    replace hrr := hrr.up (le4.trans le5)
    replace H := H.up (le4.trans le5)
    have hfl := List.length_filter_le (c1 b) Ls
    have hfl0 := List.length_filter_le c0 Ls
    (repeat' (walk_at "x"))
    refine lc (cl := []) rfl rfl (by decide) ?_
    (repeat' (walk_at "x"))
    refine start_rdL hA.h S hrr fun I its s hI It hW S => ?_
    refine compT (fun j g₂ own₂ ys => own₂ = [] ∧ RdA g₂ ys (dP (((Ls.take j).filter c0).map (·.1))))
      hI (It _) hW S (by omega) (by decide) rfl ⟨rfl, .nil⟩ (fun C hid j v g₂ own₂ ys s hj hP le6 J hl' S Qe Qs hQe hQs => ?_) (fun F2 k2 g₂ own₂ ys s hF2 le6 S J hl' => ?_)
    · obtain ⟨rfl, hys⟩ := J
      refine St.letl S ?_
      intro lmz S
      obtain ⟨d, hd, hv⟩ := hP
      obtain ⟨p, hp, rfl⟩ := dS_get hd
      obtain ⟨T2, mv, wv, rfl, hT2, hmv, hwv⟩ := tup2 hv
      obtain ⟨q1, q2⟩ := menu_ok (hok p (List.mem_of_getElem? hp)).2
      replace G := G.up le6
      replace hmv := hmv.up le6
      replace hwv := hwv.up le6
      have et := take_snoc hp
      obtain ⟨wT, wvs, rfl, hwT, hwr⟩ := rd_tuple hwv
      refine asg2 hA.h S (isTuple_up hT2 (le6.trans S.keep)) fun s S => ?_
      (repeat' (walk_at "x"))
      refine mk_tuple (ds := []) S .nil (Nat.zero_le _) fun D0 g7 s le7 S hD0 => ?_
      refine eq_rd S (hwv.up le7) hD0 (q2.shaped (by decide)) (Fine.shaped (n := 1) (.tuple fun _ h => nomatch h) (by decide)) (hA.deeper _) (by omega) ?_
      (repeat' (walk_at "x"))
      have ev : PyData.eqv (.tuple (p.2.map PyData.str)) (.tuple []) = p.2.isEmpty := by
        cases p.2 <;> simp [PyData.eqv, PyData.eqvAll]
      rw [ev]
      refine ite_b (fun hc => ?_) (fun hc => ?_)
      · (repeat' (walk_at "x"))
        (repeat' (walk_at "x"))
        refine ⟨_, [], _, le7, S, rfl, ?_⟩
        rw [et, List.filter_append, List.filter_cons_of_pos (p := c0) hc, List.filter_nil, List.map_append]
        unfold dP
        rw [List.map_append]
        exact (hys.up le7).app (.one (hmv.up le7))
      · (repeat' (walk_at "x"))
        refine ⟨_, [], _, le7, S, rfl, ?_⟩
        rw [et, List.filter_append, List.filter_cons_of_neg (p := c0) (by show ¬ p.2.isEmpty = true; rw [hc]; exact Bool.false_ne_true), List.filter_nil, List.append_nil]
        exact hys.up le7
    · obtain ⟨rfl, hys⟩ := J
      refine St.letl S ?_
      intro lmz S
      rw [List.take_of_length_le (by omega)] at hys
      obtain ⟨g7, le7, S, hF7⟩ := S.freeze (pre := []) rfl hF2
      replace S : St _ L g7 [] _ _ := S
      have hF8 : Rd g7 (.ref F2) (.list (dP ((Ls.filter c0).map (·.1)))) := .list (lobj_is hF7) (hys.up le7)
      replace G := G.up (le6.trans le7)
      replace H := H.up (le6.trans le7)
      refine addR S (hF6.up (le6.trans le7)) hF8 (by simp [dP]; omega) (by simp [dP]; omega) fun B g8 s le8 S hB => ?_
      replace hB : Rd g8 (.ref B) (.list (dP (fulls Ls b))) := by
        unfold fulls dP
        rw [List.map_append]; exact hB
      have hfz : (fulls Ls b).length ≤ 10 := by unfold fulls; rw [List.length_append, List.length_map, List.length_map]; omega
      replace G := G.up le8
      replace H := H.up le8
      (repeat' (walk_at "x"))
      refine mk_list (ds := dP []) S .nil (Nat.zero_le _) fun D4 g9 s le9 S hD4 => ?_
      replace G := G.up le9
      replace H := H.up le9
      replace hB := hB.up le9
      refine ne_rd S hB hD4 ((Fine.pieces (n := 0) (fulls Ls b)).shaped (by decide)) ((Fine.pieces (n := 0) []).shaped (by decide)) (hA.deeper _) (by omega) ?_
      (repeat' (walk_at "x"))
      have hsp := fulls_head Ls b
      cases ef : fulls Ls b with
      | nil =>
        rw [ef] at hsp
        refine ite_nt rfl ?_
        (repeat' (walk_at "x"))
        refine call_fn S G X.hsimple.n X.hsimple.k rfl ?_
        (repeat' (walk_at "x"))
        refine kin_and S G (callC (simple_spec X G S.keep ((hA.deeper _).le (by omega)) H hT fun ts ga s Aa => ?_))
        replace S := S.back0 Aa
        (repeat' (walk_at "x"))
        refine mk_tuple (ds := dI [T.simp n m]) S (.one (.int _ _)) (Nat.le_of_ble_eq_true rfl) fun Dz gb s leb S hDz => ?_
        (repeat' (walk_at "x"))
        refine h _ gb s S.aft ?_
        unfold Md.full
        rw [hLs, ← hsp]
        exact hDz
      | cons c r =>
        rw [ef] at hsp hB
        refine ite_nf rfl ?_
        (repeat' (walk_at "x"))
        refine item_rd S hB (by decide) (d := dT c) rfl (by rw [ef] at hfz; simp [dP] at hfz ⊢; omega) fun cv hcv => ?_
        (repeat' (walk_at "x"))
        refine h _ g9 s S.aft ?_
        unfold Md.full
        rw [hLs, ← hsp]
        exact hcv

end
end Mine
end
section
set_option maxRecDepth 100000
set_option maxHeartbeats 1000000
namespace Mine
section
variable {prog : Program} {w : World} {A : Around} {s : Shared} {K : Frag} {g : Heap}
theorem wI_any (ws : List Nat) (i : Nat) : (wI ws).any (· == (i : Int)) = decide (i ∈ ws) := by
  rw [Bool.eq_iff_iff, List.any_eq_true, decide_eq_true_iff]
  unfold wI
  constructor
  · rintro ⟨x, hx, e⟩
    obtain ⟨k, hk, rfl⟩ := List.mem_map.mp hx
    have : k = i := by have := beq_iff_eq.mp e; omega
    exact this ▸ hk
  · intro h
    exact ⟨i, List.mem_map.mpr ⟨i, h, rfl⟩, by simp⟩
theorem told_cased {tr : Addr} {T : Md} {n : Int} (H : ToldIs prog w g tr T) (hn : n ∈ codesL) : ∃ o kvs r ro rkv v, g.get? tr = some o ∧ o.IsDictOf (PySem.intKind prog w) kvs ∧ valueAt kvs n = some (.ref r) ∧ g.get? r = some ro ∧ ro.IsDictOf (PySem.strKind prog w) rkv ∧ valueAt rkv (Str.ofString "cased") = some v ∧ Rd g v (.bool (T.cased n)) := by
  obtain ⟨_, o, kvs, a1, a2, a3, a4⟩ := H
  obtain ⟨r, ro, rkv, b1, b2, b3, b4, b5, b6⟩ := a4 n hn
  obtain ⟨v, v1, v2⟩ := b5.have (f_cased T n)
  exact ⟨o, kvs, r, ro, rkv, v, a1, a2, b1, b3, b4, v1, v2⟩
theorem ltitle_spec (X : Fns K) (G : Gl K g) (hg : Le g s.heap) (hA : Rm A 13) {tr xl wl : Addr} {T : Md} {ns : List Int} {ws : List Nat} {l b : Str} {tl : Tok} (H : ToldIs prog w g tr T) (hT : MdOk T) (hx : Rd g (.ref xl) (.list (dI ns))) (hzl : ns.length ≤ 100) (hns : ∀ n ∈ ns, n ∈ codesL) (hwl : Rd g (.ref wl) (.list (dI (wI ws)))) (hl : LangL l b) {R : Result → Shared → Prop}
    (h : ∀ r g' s', Aft s g [] g' [] s' → Rd g' (.ref r) (.list (dP (titl T ns ws b))) → R (.ok (.ret (.ref r))) s') :
    codeAny (model prog w) A (.call (.ref X.ltitle) ⟨[.ref tr, .ref xl, .ref wl, .str l tl], []⟩) R s := by
  refine enter0 [(Str.ofString "told", .ref tr), (Str.ofString "text", .ref xl), (Str.ofString "wants", .ref wl), (Str.ofString "language", .str l tl)] X.hltitle.s G hg (hA.le (by omega)) (fun _ _ _ _ _ _ => rfl) (by decide) ⟨.inl rfl, .inl rfl, .inl rfl, .inl rfl, trivial⟩ ⟨rfl, rfl, rfl, rfl, trivial⟩ (fun L cdv cs s₁ hz => ?_) rfl rfl rfl
  intro envz Az cz lmz S Qf hFr hFn
  cases hz
  obtain ⟨cc, hcc⟩ : ∃ cc : Cs, cc = ⟨s, g, []⟩ := ⟨_, rfl⟩
  replace S : St cc L g [] lmz s₁ := by rw [hcc]; exact S
  have hw0 : cc.wr = [] := by rw [hcc]
  (repeat' (walk_at "x"))
  refine new_list S (Nat.zero_le _) fun F s hF S => ?_
  (repeat' (walk_at "x"))
  obtain ⟨_, pvs, q1, hL, hr⟩ := rd_list hx
  cases q1
  have hplen := hr.length
  refine enum_itL hA.h S hL fun I its s wr hI It hW S => ?_
  refine forI (fun i g₁ own₁ lm₁ => ∃ xs k bg out, own₁ = [(F, lobj xs k)] ∧ lm₁ = [(Str.ofString "found", .ref F), (Str.ofString "is_begun", .bool bg), (Str.ofString "told", .ref tr), (Str.ofString "text", .ref xl), (Str.ofString "wants", .ref wl), (Str.ofString "language", .str l tl)] ∧ RdA g₁ xs (dP out) ∧ out.length ≤ i ∧ titl T ns ws b = out ++ lt T ws b i bg (ns.drop i))
    hI (It _ _ _) hW S (lm₁ := [(Str.ofString "found", .ref F), (Str.ofString "is_begun", .bool false), (Str.ofString "told", .ref tr), (Str.ofString "text", .ref xl), (Str.ofString "wants", .ref wl), (Str.ofString "language", .str l tl)]) ⟨[], 0, false, [], rfl, rfl, .nil, Nat.le_refl _, lt_titl.symm⟩ ⟨rfl, rfl, rfl, rfl, rfl, rfl, trivial⟩ (fun i v g₁ own₁ lm₁ s its hi hP le J S Qn hQn hQc hQb hQr => ?_) (fun gE own₁ lm₁ s le S J => ?_)
  · obtain ⟨xs, k, bg, out, rfl, rfl, hxs, hout, hlt⟩ := J
    refine St.letl S ?_
    intro lmz S
    obtain ⟨T1, ti, x, rfl, hx1, hT1⟩ := hP
    obtain ⟨d, hd, r1⟩ := hr.at hx1
    rw [List.getElem?_map] at hd
    obtain ⟨n, hni, rfl⟩ := Option.map_eq_some_iff.mp hd
    obtain ⟨tn, rfl⟩ := rd_int r1
    have hn := hns n (List.mem_of_getElem? hni)
    have hdrop : ns.drop i = n :: ns.drop (i + 1) := by
      obtain ⟨hlt, e⟩ := List.getElem?_eq_some_iff.mp hni
      rw [List.drop_eq_getElem_cons hlt, e]
    rw [hdrop] at hlt
    unfold lt at hlt
    dsimp only at hlt
    have hi' : i < ns.length := (List.getElem?_eq_some_iff.mp hni).1
    replace G := G.up le
    replace H := H.up le
    replace hwl := hwl.up le
    have hxl := hxs.length
    unfold dP at hxl
    rw [List.length_map] at hxl
    refine asg2 hA.h S hT1 fun s S => ?_
    (repeat' ((fail_if_success (with_reducible show wpAny _ _ (exec (PySem.Stmt.If _ _ _ _) _) _ _ _)); walk_at "x"))
    refine cutR (J := fun s => St cc L g₁ (its ++ [(F, lobj xs k)]) [(Str.ofString "is_begun", .bool (if i ∈ ws then false else bg)), (Str.ofString "code", .int n tn), (Str.ofString "at", .int i ti), (Str.ofString "found", .ref F), (Str.ofString "told", .ref tr), (Str.ofString "text", .ref xl), (Str.ofString "wants", .ref wl), (Str.ofString "language", .str l tl)] s) ?_ ?_
    · intro Qc hCn
      (repeat' (walk_at "x"))
      obtain ⟨_, wvs, q2, hwL, hwr⟩ := rd_list hwl
      cases q2
      refine PyProof.Rows.in_list_ints (isList_up hwL S.keep) hwr.ints ?_
      rw [wI_any]
      (repeat' (walk_at "x"))
      refine ite_d (fun hm => ?_) (fun hm => ?_)
      · (repeat' (walk_at "x"))
        refine ⟨rfl, S.vars _ (AllP.all ⟨?_, rfl, rfl, rfl, rfl, rfl, rfl, rfl, trivial⟩)⟩
        dsimp only
        rw [if_pos hm]; rfl
      · (repeat' (walk_at "x"))
        refine ⟨rfl, S.vars _ (AllP.all ⟨?_, rfl, rfl, rfl, rfl, rfl, rfl, rfl, trivial⟩)⟩
        dsimp only
        rw [if_neg hm]; rfl
    · intro s S
      generalize (if i ∈ ws then false else bg) = bg2 at hlt S
      have snoc : ∀ (g2 : Heap) (fv : Value) (p : List Int), Le g₁ g2 → Rd g2 fv (dT p) → RdA g2 (xs ++ [fv]) (dP (out ++ [p])) := fun g2 fv p le2 r => by
        unfold dP
        rw [List.map_append]
        exact (hxs.up le2).app (.one r)
      have hol : ∀ p : List Int, (out ++ [p]).length ≤ i + 1 := fun p => by rw [List.length_append]; simp; omega
      (repeat' (walk_at "x"))
      cases bg2 with
      | true =>
        refine ite_is rfl ?_
        rw [if_pos rfl] at hlt
        (repeat' (walk_at "x"))
        refine gm_append S (k := k) (xs := xs) (by simp) ?_
        (repeat' (walk_at "x"))
        refine call_fn S G X.hfull.n X.hfull.k rfl ?_
        (repeat' (walk_at "x"))
        refine kin_and S G (callC (full_spec (m := .lc) X G S.keep ((hA.deeper _).le (by omega)) H hT hl fun fv g2 s A2 hfv => ?_))
        replace S : St cc L g2 (its ++ [(F, lobj xs k)]) _ _ := S.back (ownc := []) (own' := []) A2
        (repeat' (walk_at "x"))
        refine l_append (xs := xs) (k := k) (pre := its) (post := []) S rfl (by omega) fun k' s S => ?_
        (repeat' (walk_at "x"))
        (repeat' (walk_at "x"))
        refine forEnd (own₂ := [(F, lobj (xs ++ [fv]) k')]) S A2.le ⟨_, k', true, out ++ [T.full n .lc b], rfl, rfl, snoc _ _ _ A2.le hfv, hol _, by rw [hlt, List.append_assoc]; rfl⟩ ⟨rfl, rfl, rfl, rfl, rfl, rfl, trivial⟩
      | false =>
        refine ite_isnt rfl ?_
        rw [if_neg Bool.false_ne_true] at hlt
        obtain ⟨o, kvs, r, ro, rkv, cv, a1, a2, a3, a4, a5, a6, a7⟩ := told_cased H hn
        (repeat' (walk_at "x"))
        refine d_item S (Heap.dictOf_iff.mpr ⟨o, S.keep _ _ a1, a2⟩) (ik n tn) a3 (fun s S => ?_) (by with_unfolding_all rfl)
        (repeat' (walk_at "x"))
        refine d_item S (Heap.dictOf_iff.mpr ⟨ro, S.keep _ _ a4, a5⟩) (sk _ _) a6 (fun s S => ?_) (by with_unfolding_all rfl)
        obtain ⟨as, a7⟩ := a7
        cases a7
        (repeat' (walk_at "x"))
        cases ec : T.cased n with
        | true =>
          refine ite_is rfl ?_
          rw [ec, if_pos rfl] at hlt
          (repeat' (walk_at "x"))
          refine gm_append S (k := k) (xs := xs) (by simp) ?_
          (repeat' (walk_at "x"))
          refine call_fn S G X.hfull.n X.hfull.k rfl ?_
          (repeat' (walk_at "x"))
          refine kin_and S G (callC (full_spec (m := .tc) X G S.keep ((hA.deeper _).le (by omega)) H hT hl fun fv g2 s A2 hfv => ?_))
          replace S : St cc L g2 (its ++ [(F, lobj xs k)]) _ _ := S.back (ownc := []) (own' := []) A2
          (repeat' (walk_at "x"))
          refine l_append (xs := xs) (k := k) (pre := its) (post := []) S rfl (by omega) fun k' s S => ?_
          (repeat' (walk_at "x"))
          (repeat' (walk_at "x"))
          refine forEnd (own₂ := [(F, lobj (xs ++ [fv]) k')]) S A2.le ⟨_, k', true, out ++ [T.full n .tc b], rfl, rfl, snoc _ _ _ A2.le hfv, hol _, by rw [hlt, List.append_assoc]; rfl⟩ ⟨rfl, rfl, rfl, rfl, rfl, rfl, trivial⟩
        | false =>
          refine ite_isnt rfl ?_
          rw [ec, if_neg Bool.false_ne_true] at hlt
          (repeat' (walk_at "x"))
          refine gm_append S (k := k) (xs := xs) (by simp) ?_
          (repeat' (walk_at "x"))
          refine mk_tuple (ds := dI [n]) S (.one (.int _ _)) (Nat.le_of_ble_eq_true rfl) fun D2 g3 s le3 S hD2 => ?_
          (repeat' (walk_at "x"))
          refine l_append (xs := xs) (k := k) (pre := its) (post := []) S rfl (by omega) fun k' s S => ?_
          (repeat' (walk_at "x"))
          (repeat' (walk_at "x"))
          refine forEnd (own₂ := [(F, lobj (xs ++ [.ref D2]) k')]) S le3 ⟨_, k', false, out ++ [[n]], rfl, rfl, snoc _ _ _ le3 hD2, hol _, by rw [hlt, List.append_assoc]; rfl⟩ ⟨rfl, rfl, rfl, rfl, rfl, rfl, trivial⟩
  · obtain ⟨xs, k, bg, out, rfl, rfl, hxs, hout, hlt⟩ := J
    refine St.letl S ?_
    intro lmz S
    rw [List.drop_of_length_le (by rw [hplen, len_dI]; exact Nat.le_refl _)] at hlt
    unfold lt at hlt
    rw [List.append_nil] at hlt
    (repeat' (walk_at "x"))
    obtain ⟨g', le', S, hF'⟩ := S.freeze (pre := []) rfl (by rw [hw0]; exact fun h => nomatch h)
    rw [← hlt] at hxs
    subst hcc
    (repeat' (walk_at "x"))
    exact h _ g' _ S.aft (.list (lobj_is hF') (hxs.up le'))

end
end Mine
end
section
set_option maxRecDepth 100000
set_option maxHeartbeats 1000000
namespace Mine
section
variable {prog : Program} {w : World} {A : Around} {s : Shared} {c : Cs} {L : Addr} {g : Heap} {own its : List (Addr × Obj)} {lm : List (Str × Value)} {env : Env}
variable {elt t0 i0 t1 i1 : PySem.Expr} {scope : Scope} {pos : Pos} {it acc : Value}
abbrev lc2 (elt t0 i0 t1 i1 : PySem.Expr) (scope : Scope) (pos : Pos) : PySem.Expr := .ListComp elt [⟨t0, i0, [], 0⟩, ⟨t1, i1, [], 0⟩] scope pos
theorem turn2_0 : compTurn (lc2 elt t0 i0 t1 i1 scope pos) 0 it acc env = (standAt i0.pos >>= fun _ => pyNext it >>= fun r => match r with
      | none => pure (.done .next)
      | some v => letOwnedTupleGo t0 it v >>= fun _ => assign t0 env v >>= fun _ =>
        (eval i1 env >>= fun x => standAt i1.pos >>= fun _ => foldedSetIterable i1 env x >>= fun x => holding [x] (pyIter x) >>= fun j => runOwn (.compStart (lc2 elt t0 i0 t1 i1 scope pos) 1 j acc env) env >>= fun _ => again (.compLoop (lc2 elt t0 i0 t1 i1 scope pos) 0 it acc env))) := by rfl
theorem turn2_1 : compTurn (lc2 elt t0 i0 t1 i1 scope pos) 1 it acc env = (standAt i1.pos >>= fun _ => pyNext it >>= fun r => match r with
      | none => pure (.done .next)
      | some v => letOwnedTupleGo t1 it v >>= fun _ => assign t1 env v >>= fun _ =>
        (eval elt env >>= fun x => call (.builtin "list.append") [acc, x] >>= fun _ => pure ()) >>= fun _ => again (.compLoop (lc2 elt t0 i0 t1 i1 scope pos) 1 it acc env)) := by rfl
theorem start2_1 {R : Result → Shared → Prop} (h0 : codeAny (model prog w) A (.compLoop (lc2 elt t0 i0 t1 i1 scope pos) 1 it acc env) R s)
    (h : wpAny (model prog w) A (pyIter it) (fun it' s' => codeAny (model prog w) A (.compLoop (lc2 elt t0 i0 t1 i1 scope pos) 1 it' acc env) R s') Nev s) :
    codeAny (model prog w) A (.compStart (lc2 elt t0 i0 t1 i1 scope pos) 1 it acc env) R s := by
  refine codeAny_of_tree ?_
  show wpAny _ _ ((compStart (lc2 elt t0 i0 t1 i1 scope pos) 1 it acc env).onRaise (fun x => do noteFrame x env; standAt theWindowsPlace)) _ _ s
  refine wpAny_notedAt (noted_of ?_)
  unfold compStart
  show wpAny _ _ (ask >>= _) _ _ s
  refine wpAny_bind (wpAny_askSetting (wpAny_ite ?_))
  split
  · exact wpAny_pure (And.intro rfl h0)
  · refine wpAny_bind (wpAny_rule ?_)
    show wpAny _ _ (standAt i1.pos >>= _) _ _ s
    exact wpAny_bind (wpAny_standAt (wpAny_bind (wpAny_mono h (fun it' s' h' => wpAny_pure (And.intro rfl h')) fun _ _ x => x)))
theorem loop2_1 {R : Result → Shared → Prop} (I : Nat → Shared → Prop)
    (turn : ∀ n s, I n s → wpAny (model prog w) A (pyNext it) (fun r s₁ => match r with
      | none => R (.ok .next) s₁
      | some v => wpAny (model prog w) A (letOwnedTupleGo t1 it v) (fun _ s₁' => wpAny (model prog w) A (assign t1 env v) (fun _ s₂ => wpAny (model prog w) A (eval elt env) (fun x s₄ =>
              wpAny (model prog w) A (call (.builtin "list.append") [acc, x]) (fun _ s₅ => ∃ m, m < n ∧ I m s₅) Nev s₄) Nev s₂) Nev s₁') Nev s₁) Nev s)
    (n : Nat) (h : I n s) : codeAny (model prog w) A (.compLoop (lc2 elt t0 i0 t1 i1 scope pos) 1 it acc env) R s := by
  refine codeAny_loop rfl I (fun n s hI => ?_) n h
  show wpAny _ A ((compTurn (lc2 elt t0 i0 t1 i1 scope pos) 1 it acc env).onRaise (fun x => do noteFrame x env; theTreesLotGoes x)) _ _ s
  refine wpAny_noted (noted_of ?_)
  rw [turn2_1]
  refine wpAny_bind (wpAny_standAt (wpAny_bind (wpAny_mono (turn n s hI) (fun r s₁ h₁ => ?_) fun _ _ h' => h')))
  cases r with
  | none => exact wpAny_pure h₁
  | some v =>
    exact wpAny_bind (wpAny_mono h₁ (fun _ s₁' h₁' => wpAny_bind (wpAny_mono h₁' (fun _ s₂ h₂ => wpAny_bind (wpAny_bind (wpAny_mono h₂ (fun x s₄ h₄ => wpAny_bind (wpAny_mono h₄ (fun _ s₅ h₅ => wpAny_pure (wpAny_pure ⟨rfl, h₅⟩)) fun _ _ h' => h')) fun _ _ h' => h'))) fun _ _ h' => h')) fun _ _ h' => h')
theorem loop2_0 {R : Result → Shared → Prop} (I : Nat → Shared → Prop) (hs : ∀ x, foldedSetIterable i1 env x = pure x)
    (turn : ∀ n s, I n s → wpAny (model prog w) A (pyNext it) (fun r s₁ => match r with
      | none => R (.ok .next) s₁
      | some v => wpAny (model prog w) A (letOwnedTupleGo t0 it v) (fun _ s₁' => wpAny (model prog w) A (assign t0 env v) (fun _ s₂ => wpAny (model prog w) A (eval i1 env) (fun x s₃ => wpAny (model prog w) A (pyIter x) (fun j s₄ =>
              codeAny (model prog w) A (.compStart (lc2 elt t0 i0 t1 i1 scope pos) 1 j acc env) (fun r s₅ => match r with | .ok _ => ∃ m, m < n ∧ I m s₅ | .error _ => False) s₄) Nev s₃) Nev s₂) Nev s₁') Nev s₁) Nev s)
    (n : Nat) (h : I n s) : codeAny (model prog w) A (.compLoop (lc2 elt t0 i0 t1 i1 scope pos) 0 it acc env) R s := by
  refine codeAny_loop rfl I (fun n s hI => ?_) n h
  show wpAny _ A ((compTurn (lc2 elt t0 i0 t1 i1 scope pos) 0 it acc env).onRaise (fun x => do noteFrame x env; theTreesLotGoes x)) _ _ s
  refine wpAny_noted (noted_of ?_)
  rw [turn2_0]
  refine wpAny_bind (wpAny_standAt (wpAny_bind (wpAny_mono (turn n s hI) (fun r s₁ h₁ => ?_) fun _ _ h' => h')))
  cases r with
  | none => exact wpAny_pure h₁
  | some v =>
    refine wpAny_bind (wpAny_mono h₁ (fun _ s₁' h₁' => wpAny_bind (wpAny_mono h₁' (fun _ s₂ h₂ => wpAny_bind (wpAny_mono h₂ (fun x s₃ h₃ => wpAny_bind (wpAny_standAt (wpAny_bind (wpAny_of_eq (hs x) (wpAny_bind (wpAny_holding (wpAny_mono h₃ (fun j s₄ h₄ => wpAny_bind ?_) fun _ _ h' => h'))))))) fun _ _ h' => h')) fun _ _ h' => h')) fun _ _ h' => h')
    refine wpAny_runOwn ?_
    refine codeAny_mono (M := model prog w) h₄ fun r s₅ h₅ => ?_
    cases r with
    | ok f => exact wpAny_pure ⟨rfl, h₅⟩
    | error e => exact h₅.elim
end
end Mine
end
section
set_option maxRecDepth 100000
set_option maxHeartbeats 1000000
namespace Mine
section
variable {prog : Program} {w : World} {A : Around} {s : Shared} {c : Cs} {L : Addr} {g : Heap} {own its : List (Addr × Obj)} {lm : List (Str × Value)} {env : Env}
variable {elt t0 i0 t1 i1 target : PySem.Expr} {scope : Scope} {pos : Pos} {it acc : Value}
theorem RdA.of_get {h : Heap} : ∀ {vs : List Value} {ds : List PyData}, vs.length = ds.length → (∀ (j : Nat) d, ds[j]? = some d → ∃ v, vs[j]? = some v ∧ Rd h v d) → RdA h vs ds
  | [], [], _, _ => .nil
  | [], _ :: _, e, _ => by cases e
  | _ :: _, [], e, _ => by cases e
  | v :: vs, d :: ds, e, k => by
    obtain ⟨v', e1, r⟩ := k 0 d rfl
    cases e1
    exact .cons r (RdA.of_get (by simpa using e) fun j d' hj => k (j + 1) d' hj)
/-- one turn of an iterator -/
theorem itr_turn {I C : Addr} {fp wr : List Addr} {n i : Nat} {P Md : Nat → Value → Heap → Prop} {Sti : Nat → Heap → Prop} {Q : Option Value → Shared → Prop}
    (W : KTurns prog w A target I fp wr n P Md Sti) (hlive : ∀ i h, Sti i h → ∀ b ∈ wr, ∃ o, h.get? b = some o) (hfp : ∀ b ∈ fp, b ∈ wr ∨ ∃ o, g.get? b = some o) (hw : ∀ b ∈ wr, b ∉ c.wr)
    (S : St c C g (its ++ own) lm s) (hits : its.map (·.1) = wr) (hst : Sti i s.heap) (hi : i ≤ n)
    (h1 : ∀ v s₁, i < n → (∀ Q' : Unit → Shared → Prop, (∀ its₂ s₂, its₂.map (·.1) = wr → P i v s₂.heap → St c C g (its₂ ++ own) lm s₂ → (∀ g₂ own₂ lm₂ C₂ s₃, Le g g₂ → St c C₂ g₂ (its₂ ++ own₂) lm₂ s₃ → Sti (i + 1) s₃.heap) → Q' () s₂) → wpAny (model prog w) A (letOwnedTupleGo target (.ref I) v) Q' Nev s₁) → Q (some v) s₁)
    (h2 : i = n → ∀ s₁, St c C g own lm s₁ → Q none s₁) : wpAny (model prog w) A (pyNext (.ref I)) Q Nev s := by
  by_cases hlt : i < n
  · refine W.item i _ _ _ hlt hst fun v h₁ tk₁ hMd hk₁ => h1 v _ hlt fun Q' hQ' => ?_
    refine W.go i v _ _ _ hMd fun h₂ hP hst₂ hk₂ => ?_
    obtain ⟨its₂, hm₂, ho₂⟩ := its_at (hlive _ _ hst₂)
    have S₂ : St c C g (its₂ ++ own) lm { s with heap := h₂, toks := tk₁ } :=
      S.turnIts (fun b o hb x => hk₂ b o (by rw [← hits]; exact hb) (hk₁ b o (by rw [← hits]; exact hb) x)) (hm₂.trans hits.symm) ho₂ fun b hb => hw b (hits ▸ hb)
    refine hQ' its₂ _ hm₂ hP S₂ fun g₂ own₂ lm₂ C₂ s₃ hle S₃ => W.frame _ _ _ hst₂ fun b hb o e => ?_
    rcases hfp b hb with h | ⟨o', h⟩
    · rw [← hm₂] at h
      obtain ⟨p, hp, hpb⟩ := List.mem_map.mp h
      have e1 := ho₂ p hp
      rw [hpb, e] at e1
      cases e1
      have := S₃.ow p (List.mem_append_left _ hp)
      rw [← hpb]; exact this
    · have e1 := S₂.keep b o' h
      change h₂.get? b = some o' at e1
      rw [e] at e1
      cases e1
      exact S₃.keep b _ (hle b _ h)
  · have hin : i = n := by omega
    subst hin
    refine W.done _ _ _ hst fun h₁ tk₁ hk₁ => h2 rfl _ ?_
    have S₁ : St c C g own lm s := S.drop (List.sublist_append_right _ _) fun b hb => by
      have := S.wo b hb
      rw [List.map_append, List.mem_append] at this
      exact this.resolve_left fun q => hw b (hits ▸ q) hb
    refine S₁.ext fun b o hb e => hk₁ b o (fun q => ?_) e
    have hq : b ∈ its.map (·.1) := by rw [hits]; exact q
    have nd := S.nodup
    rw [List.nodup_cons, List.map_append, List.mem_append, List.nodup_append] at nd
    rcases hb with hb | ⟨o', hb⟩ | ⟨hb, o', hb'⟩
    · rcases List.mem_cons.mp hb with rfl | hb
      · exact nd.1 (.inl hq)
      · exact nd.2.2.2 b hq b hb rfl
    · have := S.off b (.tail _ (by rw [List.map_append]; exact List.mem_append_left _ hq))
      rw [this] at hb; cases hb
    · rcases S.mw b (.tail _ (by rw [List.map_append]; exact List.mem_append_left _ hq)) with h | h
      · exact hb h
      · rw [h] at hb'; cases hb'
/-- the inner loop: its items are appended -/
theorem join_in {x1 : Str} {pe pt : Pos} {I C D : Addr} {wr : List Addr} {n k : Nat} {P : Nat → Value → Heap → Prop} {R : Result → Shared → Prop} {pre post : List (Addr × Obj)} {xs : List Value}
    (hits : its.map (·.1) = wr) (X : Itr prog w A (.Name x1 pt) g I wr n P s.heap) (hw : ∀ b ∈ wr, b ∉ c.wr) (S : St c C g (its ++ (pre ++ (D, lobj xs k) :: post)) [] s) (hz : xs.length + n ≤ 1000000)
    (hx : env.kindOf x1 = some .local) (hL : env.locals = C) (hk : env.scope.kind = .function) (hd : (x1 == ("__debug__" : Str)) = false)
    (done : ∀ ys k' s', ys.length = n → (∀ j v, ys[j]? = some v → ∃ h, P j v h) → St c C g (pre ++ (D, lobj (xs ++ ys) k') :: post) [] s' → R (.ok .next) s') :
    codeAny (model prog w) A (.compLoop (lc2 (.Name x1 pe) t0 i0 (.Name x1 pt) i1 scope pos) 1 (.ref I) (.ref D) env) R s := by
  obtain ⟨fp, Md, Sti, W, hlive, hst, hfp, _⟩ := X
  refine loop2_1 (fun m s' => ∃ i k' ys its', St c C g (its' ++ (pre ++ (D, lobj (xs ++ ys) k') :: post)) [] s' ∧ its'.map (·.1) = wr ∧ Sti i s'.heap ∧ ys.length = i ∧ (∀ j v, ys[j]? = some v → ∃ h, P j v h) ∧ m = n + 1 - i ∧ i ≤ n) ?_ (n + 1)
    ⟨0, k, [], its, by rw [List.append_nil]; exact S, hits, hst, rfl, fun j v h => by simp at h, rfl, Nat.zero_le _⟩
  rintro m s' ⟨i, k', ys, its', S', hits', hst', hys, hP', rfl, hi⟩
  refine itr_turn W hlive hfp hw S' hits' hst' hi (fun v s₁ hlt go => ?_) (fun hin s₁ S₁ => ?_)
  · refine go _ fun its₂ s₂ hm₂ hPv S₂ fr => ?_
    refine wpAny_assign_Name (s_loc S₂ hx hL (fun s₃ S₃ => ?_) hk)
    refine n_loc (v := v) S₃ (by simp) hx hL ?_ hk hd
    refine l_append (xs := xs ++ ys) (k := k') (pre := its₂ ++ pre) (post := post) S₃ (by simp) (by rw [List.length_append]; omega) fun k2 s₄ S₄ => ?_
    have S₅ : St c C g (its₂ ++ (pre ++ (D, lobj (xs ++ (ys ++ [v])) k2) :: post)) [] s₄ := by
      have := S₄.vars [] (fun _ h => nomatch h)
      simpa using this
    refine ⟨n + 1 - (i + 1), by omega, i + 1, k2, ys ++ [v], its₂, S₅, hm₂, fr g _ _ _ _ (Le.refl _) S₅, by rw [List.length_append, hys]; rfl, fun j u hj => ?_, rfl, hlt⟩
    by_cases hji : j < ys.length
    · rw [List.getElem?_append_left hji] at hj
      exact hP' j u hj
    · rw [List.getElem?_append_right (by omega)] at hj
      have : j - ys.length = 0 := by
        rcases Nat.eq_zero_or_pos (j - ys.length) with h | h
        · exact h
        · rw [List.getElem?_eq_none (by simp; omega)] at hj; cases hj
      rw [this] at hj
      cases hj
      have : j = i := by omega
      subst this
      exact ⟨_, hPv⟩
  · exact done ys k' s₁ (by omega) hP' S₁
/-- the outer loop over tuples of ints -/
theorem join_out {x0 x1 : Str} {pe pt p0 p1 : Pos} {I C D : Addr} {wr : List Addr} {k : Nat} {R : Result → Shared → Prop} {post : List (Addr × Obj)} {ps : List (List Int)} (hA : A.handled = none) (hps : ∀ p ∈ ps, p.length ≤ 10) (hlen : ps.length ≤ 1000)
    (hits : its.map (·.1) = wr) (X : Itr prog w A (.Name x0 p0) g I wr (dP ps).length (fun i v _ => ∃ d, (dP ps)[i]? = some d ∧ Rd g v d) s.heap) (hw : ∀ b ∈ wr, b ∉ c.wr) (S : St c C g (its ++ ((D, lobj [] k) :: post)) [] s)
    (hx0 : env.kindOf x0 = some .local) (hx : env.kindOf x1 = some .local) (hL : env.locals = C) (hk : env.scope.kind = .function) (hd0 : (x0 == ("__debug__" : Str)) = false) (hd : (x1 == ("__debug__" : Str)) = false) (hs : ∀ x, foldedSetIterable (.Name x0 p1) env x = pure x)
    (done : ∀ xs k' s', RdA g xs (dI ps.flatten) → St c C g ((D, lobj xs k') :: post) [] s' → R (.ok .next) s') :
    codeAny (model prog w) A (.compLoop (lc2 (.Name x1 pe) (.Name x0 p0) i0 (.Name x1 pt) (.Name x0 p1) scope pos) 0 (.ref I) (.ref D) env) R s := by
  obtain ⟨fp, Md, Sti, W, hlive, hst, hfp, _⟩ := X
  refine loop2_0 (fun m s' => ∃ i k' xs its', St c C g (its' ++ ((D, lobj xs k') :: post)) [] s' ∧ its'.map (·.1) = wr ∧ Sti i s'.heap ∧ RdA g xs (dI (ps.take i).flatten) ∧ (ps.take i).flatten.length ≤ 10 * i ∧ m = (dP ps).length + 1 - i ∧ i ≤ (dP ps).length) hs ?_ ((dP ps).length + 1)
    ⟨0, k, [], its, S, hits, hst, .nil, Nat.le_refl _, rfl, Nat.zero_le _⟩
  rintro m s' ⟨i, k', xs, its', S', hits', hst', hxs, hlf, rfl, hi⟩
  refine itr_turn W hlive hfp hw S' hits' hst' hi (fun v s₁ hlt go => ?_) (fun hin s₁ S₁ => ?_)
  · refine go _ fun its₂ s₂ hm₂ hPv S₂ fr => ?_
    obtain ⟨d, hdi, hv⟩ := hPv
    rw [List.getElem?_map] at hdi
    obtain ⟨p, hp, rfl⟩ := Option.map_eq_some_iff.mp hdi
    have et : (ps.take (i + 1)).flatten = (ps.take i).flatten ++ p := by rw [List.take_succ, hp]; simp
    have hpl := hps p (List.mem_of_getElem? hp)
    have hil : i < ps.length := (List.getElem?_eq_some_iff.mp hp).1
    obtain ⟨T, vs, rfl, hT, hr⟩ := rd_tuple hv
    have hxl : xs.length = (ps.take i).flatten.length := by rw [hxs.length]; exact List.length_map _
    refine wpAny_assign_Name (s_loc S₂ hx0 hL (fun s₃ S₃ => ?_) hk)
    refine n_loc (v := .ref T) S₃ (by simp) hx0 hL ?_ hk hd0
    refine start_rdT hA S₃ hv fun I2 its3 s₄ hI2 It2 hW2 S₄ => ?_
    have hvl : (dI p).length ≤ 10 := by unfold dI; rw [List.length_map]; exact hpl
    have S₅ : St c C g (its3 ++ (its₂ ++ (D, lobj xs k') :: post)) [] s₄ := S₄.vars [] (fun _ h => nomatch h)
    have fin := join_in (t0 := .Name x0 p0) (i0 := i0) (i1 := .Name x0 p1) (scope := scope) (pos := pos) (pe := pe) (R := fun r s₅ => match r with | .ok _ => ∃ m, m < (dP ps).length + 1 - i ∧ ∃ i k' xs its', St c C g (its' ++ ((D, lobj xs k') :: post)) [] s₅ ∧ its'.map (·.1) = wr ∧ Sti i s₅.heap ∧ RdA g xs (dI (ps.take i).flatten) ∧ (ps.take i).flatten.length ≤ 10 * i ∧ m = (dP ps).length + 1 - i ∧ i ≤ (dP ps).length | .error _ => False)
      hI2 (It2 (.Name x1 pt)) hW2 S₅ (by omega) hx hL hk hd (fun ys k2 s₅ hyl hyP S₆ => ⟨(dP ps).length + 1 - (i + 1), by omega, i + 1, k2, xs ++ ys, its₂, S₆, hm₂, fr g _ _ _ _ (Le.refl _) S₆, ?_, by rw [et, List.length_append]; omega, rfl, hlt⟩)
    · refine start2_1 fin ?_
      obtain ⟨_, _, _, _, _, st0, _, hself⟩ := It2 (.Name x1 pt)
      exact hself _ _ st0 fin
    · rw [et]
      have : RdA g ys (dI p) := RdA.of_get (by rw [hyl]) fun j d hj => by
        have hjl : j < ys.length := by rw [hyl]; exact (List.getElem?_eq_some_iff.mp hj).1
        obtain ⟨_, d', e1, e2⟩ := hyP j ys[j] (List.getElem?_eq_getElem hjl)
        rw [hj] at e1
        cases e1
        exact ⟨_, List.getElem?_eq_getElem hjl, e2⟩
      rw [dI_app]
      exact hxs.app this
  · rw [List.take_of_length_le (by rw [hin]; simp [dP])] at hxs
    exact done xs k' s₁ hxs S₁
end
end Mine
end
section
set_option maxRecDepth 100000
set_option maxHeartbeats 1000000
namespace Mine
section
variable {prog : Program} {w : World} {A : Around} {s : Shared} {c : Cs} {L : Addr} {g : Heap} {own its : List (Addr × Obj)} {lm : List (Str × Value)} {env : Env}
theorem lcG {elt target iter : PySem.Expr} {ifs : List PySem.Expr} {gs : List Comprehension} {scope : Scope} {pos : Pos} {cl : List (Str × Addr)} {E : Value → Shared → Prop} {Q : Value → Shared → Prop}
    (hclos : closureFor scope env = pure cl) (hkind : scope.kind = .function) (hnames : ∀ x ∈ scope.names, x.2 = .local → scope.names.lookup x.1 = some .local)
    (h : wpAny (model prog w) A (eval iter env) (fun x s₁ => wpAny (model prog w) A (pyIter x) (fun it s₂ => wpAny (model prog w) A (newList []) (fun acc s₃ =>
      wpAny (model prog w) A (newFunctionEnv scope env.globals cl [] env.qual none .none (some env)) (fun cenv s₄ =>
        codeAny (model prog w) A (.compStart (.ListComp elt (⟨target, iter, ifs, 0⟩ :: gs) scope pos) 0 it acc { cenv with scope := relabel scope env }) (compPost (model prog w) A E none Q acc cenv.locals) s₄) E s₃) E s₂) E s₁) E s)
    (hs : ∀ x, foldedSetIterable iter env x = pure x := by intro _; rfl) :
    wpAny (model prog w) A (eval (.ListComp elt (⟨target, iter, ifs, 0⟩ :: gs) scope pos) env) Q E s := by
  rw [eval_ListComp]
  exact wpAny_comprehension_free rfl hs hclos hkind hnames h
theorem compE {use : Option (Value → Sem Unit)} {elt target iter : PySem.Expr} {ifs : List PySem.Expr} {gs : List Comprehension} {scope : Scope} {pos : Pos} {cl : List (Str × Addr)} {I : Addr} {wr : List Addr} {n : Nat} {P : Nat → Value → Heap → Prop} {Q : Value → Shared → Prop}
    (X : Itr prog w A target g I wr n P s.heap) (S : St c L g (its ++ own) lm s)
    (hcell : ∀ y ∈ scope.names, y.2 ≠ .cell) (hkind : scope.kind = .function)
    (h : ∀ C D s₁ oL, D ∉ c.wr → St c C g (its ++ ((D, lobj [] 0) :: (L, oL) :: own)) [] s₁ → Itr prog w A target g I wr n P s₁.heap →
      (∀ g' hd own' lmc s', St c C g' (hd ++ (L, oL) :: own') lmc s' → St c L g' (hd ++ own') lm s') →
      codeAny (model prog w) A (.compLoop (.ListComp elt (⟨target, iter, ifs, 0⟩ :: gs) scope pos) 0 (.ref I) (.ref D) (compEnvC scope cl C env)) (compPost (model prog w) A Nev use Q (.ref D) C) s₁) :
    wpAny (model prog w) A (newList []) (fun acc s₃ => wpAny (model prog w) A (newFunctionEnv scope env.globals cl [] env.qual none .none (some env)) (fun cenv s₄ =>
        codeAny (model prog w) A (.compStart (.ListComp elt (⟨target, iter, ifs, 0⟩ :: gs) scope pos) 0 (.ref I) acc { cenv with scope := relabel scope env }) (compPost (model prog w) A Nev use Q acc cenv.locals) s₄) Nev s₃) Nev s := by
  obtain ⟨oL, hoL⟩ := S.getL
  refine wpAny_newObj_type (wpAny_newFunctionEnv hcell (by intro y hy; simp at hy) (fun h₁ hns₁ hsb₁ => ?_) hkind)
  have S1 := S.push (lobj [] 0) rfl (t' := s.toks)
  dsimp only at hns₁ hsb₁ ⊢
  have hk : Le (s.heap.push (lobj [] 0)) h₁ := fun b o e => hsb₁.extBut b o (Nat.ne_of_lt (Heap.lt_size e)) (Heap.get?_push_of_some _ e)
  have S2 := S1.inner (h' := h₁) (t' := s.toks + ([] : List (Str × Value)).length) (Heap.get?_push_of_some _ hoL) (none_at_size _ (Nat.le_refl _)) hk hns₁ (hd := (s.heap.objs.size, lobj [] 0) :: its) (own' := own) rfl
  have S3 : St c (s.heap.push (lobj [] 0)).objs.size g (its ++ ((s.heap.objs.size, lobj [] 0) :: (L, oL) :: own)) [] { s with heap := h₁, toks := s.toks + ([] : List (Str × Value)).length } := S2.perm (by
    have : (its ++ ((s.heap.objs.size, lobj [] 0) :: (L, oL) :: own)).Perm ((s.heap.objs.size, lobj [] 0) :: (its ++ (L, oL) :: own)) := List.perm_middle
    exact this)
  have X3 : Itr prog w A target g I wr n P h₁ := by
    obtain ⟨fp, Md, Sti, W, hlive, hst, hfp, hself⟩ := X
    exact ⟨fp, Md, Sti, W, hlive, W.frame _ _ _ hst fun b _ o e => hk b o (Heap.get?_push_of_some _ e), hfp, hself⟩
  have loop := h _ _ _ oL (S.notWr (none_at_size _ (Nat.le_refl _))) S3 X3 fun g' hd own' lmc s' S' => S.outer hoL S'
  refine codeAny_compStart_list loop (noted_of ?_)
  obtain ⟨fp, Md, Sti, W, hlive, hst, hfp, hself⟩ := X3
  exact hself _ _ hst loop
/-- the block's end -/
theorem comp_post {C D : Addr} {oL : Obj} {k : Nat} {own' : List (Addr × Obj)} {xs : List Value} {g' : Heap} {s' : Shared} {lm' : List (Str × Value)} {Q : Value → Shared → Prop}
    (SC : St c C g' ((D, lobj xs k) :: (L, oL) :: own') [] s') (SL : St c L g' ((D, lobj xs k) :: own') lm' s')
    (h : ∀ s'', St c L g' ((D, lobj xs k) :: own') lm' s'' → Q (.ref D) s'') : compPost (model prog w) A Nev none Q (.ref D) C (.ok .next) s' := by
  obtain ⟨m, hm, _⟩ := SC.ns
  refine ⟨m, hm, fun h' hs => h _ (SL.ext (t' := s'.toks) fun b o hb e => (hs.2 b fun q => ?_).trans e)⟩
  have nd := List.nodup_cons.mp SC.nodup
  rcases hb with hb | ⟨o', hb⟩ | ⟨hb, o', hb'⟩
  · refine nd.1 ?_
    rw [← q]
    rcases List.mem_cons.mp hb with h | h
    · rw [h]; simp
    · simp only [List.map_cons, List.mem_cons] at h ⊢
      rcases h with h | h
      · exact .inl h
      · exact .inr (.inr h)
  · have := SC.off C (.head _)
    rw [← q, hb] at this; cases this
  · rcases SC.mw C (.head _) with h | h
    · exact hb (q ▸ h)
    · rw [← q, hb'] at h; cases h
end
end Mine
end
section
set_option maxRecDepth 100000
set_option maxHeartbeats 1000000
namespace Mine
section
variable {prog : Program} {w : World} {A : Around} {s : Shared} {K : Frag} {g : Heap}
theorem joined_spec (X : Fns K) (G : Gl K g) (hg : Le g s.heap) (hA : Rm A 2) {l : Addr} {ps : List (List Int)} (hl : Rd g (.ref l) (.list (dP ps))) (hz : ps.length ≤ 1000) (hp : ∀ p ∈ ps, p.length ≤ 10) {R : Result → Shared → Prop}
    (h : ∀ r g' s', Aft s g [] g' [] s' → Rd g' (.ref r) (.list (dI ps.flatten)) → R (.ok (.ret (.ref r))) s') :
    codeAny (model prog w) A (.call (.ref X.joined) ⟨[.ref l], []⟩) R s := by
  refine enter0 [(Str.ofString "pieces", .ref l)] X.hjoined.s G hg (hA.le (by omega)) (fun _ _ _ _ _ _ => rfl) (by decide) ⟨.inl rfl, trivial⟩ ⟨rfl, trivial⟩ (fun L cdv cs s₁ hz => ?_) rfl rfl rfl
  intro envz Az cz lmz S Qf hFr hFn
  cases hz
  (repeat' (walk_at "x"))
  refine lcG (cl := []) rfl rfl (by decide) ?_
  (repeat' (walk_at "x"))
  refine start_rdL hA.h S hl fun I its s hI It hW S => ?_
  refine compE (own := []) (It _) S (by decide) rfl fun C D s₁ oL hD S X3 out => ?_
  refine join_out hA.h hp hz hI X3 hW S rfl rfl rfl rfl rfl rfl (fun _ => rfl) fun xs k' s' hxs SC => ?_
  refine comp_post SC (out g [(D, lobj xs k')] [] [] s' SC) fun s S => ?_
  obtain ⟨g', le', S, hF'⟩ := S.freeze (pre := []) rfl hD
  (repeat' (walk_at "x"))
  exact h _ g' _ S.aft (.list (lobj_is hF') (hxs.up le'))

end
end Mine
end
section
set_option maxRecDepth 100000
set_option maxHeartbeats 1000000
namespace Mine
section
variable {prog : Program} {w : World} {A : Around} {s : Shared} {K : Frag} {g : Heap}
theorem St.rot {c : Cs} {L : Addr} {a a' b : List (Addr × Obj)} {lm : List (Str × Value)} (S : St c L g (a ++ (a' ++ b)) lm s) : St c L g (b ++ (a ++ a')) lm s := S.perm (by
  have e : a ++ (a' ++ b) = (a ++ a') ++ b := (List.append_assoc _ _ _).symm
  rw [e]
  exact List.perm_append_comm)
theorem St.tor {c : Cs} {L : Addr} {a a' b : List (Addr × Obj)} {lm : List (Str × Value)} (S : St c L g (b ++ (a ++ a')) lm s) : St c L g (a ++ (a' ++ b)) lm s := S.perm (by
  have e : a ++ (a' ++ b) = (a ++ a') ++ b := (List.append_assoc _ _ _).symm
  rw [e]
  exact List.perm_append_comm)
theorem fine_dS {Ls : Sp} (h : SpOk Ls) : Fine 4 (.list (dS Ls)) := .list fun d hd => by
  obtain ⟨p, hp, rfl⟩ := List.mem_map.mp hd
  refine .tuple fun d hd => ?_
  simp only [List.mem_cons, List.not_mem_nil, or_false] at hd
  rcases hd with rfl | rfl
  · exact Fine.intT (n := 1) p.1
  · exact (menu_ok (h.2 p hp).2).2.mono (by decide)
theorem f_vok {T : Md} (hT : MdOk T) {n : Int} {x : Str} {d : PyData} (h : T.f n x = some d) : Vok d := by
  have hx : x ∈ nms7 := Classical.byContradiction fun hx => by rw [f_out T n x hx] at h; cases h
  simp only [nms7, List.mem_cons, List.not_mem_nil, or_false] at hx
  have k1 : ∀ m : Nm, T.f n m.s = some d → Vok d := fun m h => by
    rw [f_s] at h
    obtain ⟨i, _, rfl⟩ := Option.map_eq_some_iff.mp h
    exact .inl (.int _)
  have k2 : ∀ m : Nm, T.f n m.ss = some d → Vok d := fun m h => by
    rw [f_ss] at h
    obtain ⟨Ls, e, rfl⟩ := Option.map_eq_some_iff.mp h
    exact .inl ((fine_dS (hT.sp n m Ls e)).mono (by decide))
  rcases hx with rfl | rfl | rfl | rfl | rfl | rfl | rfl
  · rw [f_cased] at h
    cases h
    exact .inr ⟨_, rfl⟩
  · exact k1 .uc h
  · exact k1 .lc h
  · exact k1 .tc h
  · exact k2 .uc h
  · exact k2 .lc h
  · exact k2 .tc h
theorem codes_pos {n : Int} (h : n ∈ codesL) : 0 < n ∧ n < 1114111 := by
  simp only [codesL, List.mem_cons, List.not_mem_nil, or_false] at h
  omega
def gvIs (T : Md) (ms : List Mp) (cs : List Int) (code : Int) (ks : List Str) : Prop := ∀ x ∈ nms7, ∀ n, 0 ≤ n → gv ms x n = if n = code ∧ x ∈ ks then T.F x n else if n ∈ cs then T.F x n else dfl x
theorem gvIs_put {T : Md} {ms ms' : List Mp} {cs : List Int} {code : Int} {ks : List Str} {x : Str} {d : PyData} (h : gvIs T ms cs code ks) (hx : T.f code x = some d) (hp : ∀ y n, 0 ≤ n → gv ms' y n = if y = x ∧ n = code then d else gv ms y n) : gvIs T ms' cs code (ks ++ [x]) := fun y hy n hn => by
  rw [hp y n hn]
  by_cases e1 : y = x ∧ n = code
  · obtain ⟨rfl, rfl⟩ := e1
    rw [if_pos ⟨rfl, rfl⟩, if_pos ⟨rfl, by simp⟩]
    unfold Md.F
    rw [hx]; rfl
  · rw [if_neg e1, h y hy n hn]
    by_cases e2 : n = code
    · have e3 : y ≠ x := fun e => e1 ⟨e, e2⟩
      have : (n = code ∧ y ∈ ks ++ [x]) ↔ (n = code ∧ y ∈ ks) := by simp [e3]
      simp only [this]
    · simp only [e2, false_and, if_false]
theorem gvIs_next {T : Md} {ms : List Mp} {cs : List Int} {code : Int} {ks : List Str} (h : gvIs T ms cs code ks) (hk : ∀ x, x ∉ ks → T.f code x = none) (c2 : Int) : gvIs T ms (cs ++ [code]) c2 [] := fun y hy n hn => by
  rw [h y hy n hn]
  by_cases e1 : n = code
  · subst e1
    by_cases e2 : y ∈ ks
    · simp [e2]
    · have : T.F y n = dfl y := by unfold Md.F; rw [hk y e2]; rfl
      simp [e2, this]
  · simp [e1]
theorem gvIs_code {T : Md} {ms : List Mp} {cs : List Int} {c1 : Int} (h : gvIs T ms cs c1 []) (c2 : Int) : gvIs T ms cs c2 [] := fun y hy n hn => by
  rw [h y hy n hn]
  simp
theorem F_off {T : Md} (hT : MdOk T) {n : Int} (hn : n ∉ codesL) (x : Str) (hx : x ∈ nms7) : T.F x n = dfl x := by
  obtain ⟨h1, h2⟩ := hT.off n hn
  have k1 : ∀ m : Nm, T.F m.s n = dfl m.s := fun m => by unfold Md.F; rw [f_s, (h2 m).1]; rfl
  have k2 : ∀ m : Nm, T.F m.ss n = dfl m.ss := fun m => by unfold Md.F; rw [f_ss, (h2 m).2]; rfl
  simp only [nms7, List.mem_cons, List.not_mem_nil, or_false] at hx
  rcases hx with rfl | rfl | rfl | rfl | rfl | rfl | rfl
  · rw [F_cased, h1]; rfl
  · exact k1 .uc
  · exact k1 .lc
  · exact k1 .tc
  · exact k2 .uc
  · exact k2 .lc
  · exact k2 .tc
theorem ldata_spec (X : Fns K) (Y : Cls K) (G : Gl K g) (hg : Le g s.heap) (hA : Rm A 20) {tr : Addr} {T : Md} (H : ToldIs prog w g tr T) (hT : MdOk T) {R : Result → Shared → Prop}
    (h : ∀ xd g' s', Aft s g [] g' [] s' → Dat prog w Y g' xd T.F → R (.ok (.ret (.ref xd))) s') :
    codeAny (model prog w) A (.call (.ref X.data) ⟨[.ref tr], []⟩) R s := by
  refine enter0 [(Str.ofString "told", .ref tr)] X.hdata.s G hg (hA.le (by omega)) (fun _ _ _ _ _ _ => rfl) (by decide) ⟨.inl rfl, trivial⟩ ⟨rfl, trivial⟩ (fun L cdv cs s₁ hz => ?_) rfl rfl rfl
  intro envz Az cz lmz S Qf hFr hFn
  cases hz
  obtain ⟨cc, hcc⟩ : ∃ cc : Cs, cc = ⟨s, g, []⟩ := ⟨_, rfl⟩
  replace S : St cc L g [] lmz s₁ := by rw [hcc]; exact S
  have hw0 : ∀ a, a ∉ cc.wr := by rw [hcc]; exact fun _ h => nomatch h
  (repeat' (walk_at "x"))
  refine call_fn0 S G Y.daN Y.daKp rfl (mk_inst (rest := []) S G Y.daK Y.hdaI.n Y.hdaI.t fun xd dd g1 s le hxd hdd S => ?_)
  replace G := G.up le
  replace H := H.up le
  replace S : St cc L g1 ([(dd, emptyDict)] ++ []) _ _ := S
  refine daI_spec X Y G S.keep ((hA.deeper _).le (m := 7) (by omega)).init hxd AtD.empty (S.ow (dd, emptyDict) (.head _)) (S.offo dd (.head _)) fun g2 s od M A' HD => ?_
  refine initB ?_
  replace S : St cc L g2 ([(M, edict)] ++ (dd, od) :: []) _ _ := S.back A'
  replace G := G.up A'.le
  replace H := H.up A'.le
  obtain ⟨g3, le3, S, hdd3⟩ := S.freeze rfl (hw0 dd)
  replace S : St cc L g3 [(M, edict)] _ _ := S
  replace G := G.up le3
  replace H := H.up le3
  replace HD := HD.up le3
  have D0 : DaM prog w Y g3 M [] [(M, edict)] := ⟨⟨edict, rfl, edict_is⟩, fun _ h => nomatch h⟩
  have V0 : gvIs T [] [] 0 [] := fun x hx n hn => by simp [gv]
  obtain ⟨tr0, o, kvs, k1, k2, k3, k4⟩ := H
  have hkl : kvs.length = 5 := by have := congrArg List.length k3; rw [List.length_map] at this; exact this
  (repeat' (walk_at "x"))
  refine start_keys (knd := PySem.intKind prog w) hA.h S (Heap.dictOf_iff.mpr ⟨o, k1, k2⟩) tr0 fun I its s hI It hW S => ?_
  refine forI (fun i g₁ own₁ lm₁ => ∃ ms, DaM prog w Y g₁ M ms own₁ ∧ lm₁ = [(Str.ofString "data", .ref xd), (Str.ofString "told", .ref tr)] ∧ ms.length ≤ 20 * i ∧ (∀ p ∈ ms, p.rows.length ≤ 1 + 2 * (20 * i)) ∧ gvIs T ms (codesL.take i) 0 [])
    hI (It _) hW S ⟨[], D0, rfl, Nat.zero_le _, (fun _ h => nomatch h), V0⟩ ⟨rfl, rfl, trivial⟩ (fun i v g₁ own₁ lm₁ s its hi hP le J S Qn hQn hQc hQb hQr => ?_) (fun gE own₁ lm₁ s le S J => ?_)
  · obtain ⟨ms, D, rfl, hmz, hrz, V⟩ := J
    refine St.letl S ?_
    intro lmz S
    obtain ⟨code, rv0, hkv, hv⟩ := hP
    obtain ⟨tc, rfl⟩ := Value.isInt_shape hv
    have hci : codesL[i]? = some code := by rw [← k3, List.getElem?_map, hkv]; rfl
    have hcm : code ∈ codesL := List.mem_of_getElem? hci
    obtain ⟨r, ro, rkv, b1, b2, b3, b4, b5, b6⟩ := k4 code hcm
    obtain ⟨hc0, hc1⟩ := codes_pos hcm
    replace G := G.up le
    (repeat' (walk_at "x"))
    refine d_item S (Heap.dictOf_iff.mpr ⟨o, (le.trans S.keep) _ _ k1, k2⟩) (ik code tc) b1 (fun s S => ?_) (by with_unfolding_all rfl)
    (repeat' (walk_at "x"))
    refine start_keys (knd := PySem.strKind prog w) hA.h S (Heap.dictOf_iff.mpr ⟨ro, le _ _ b3, b4⟩) b2 fun I2 its2 s hI2 It2 hW2 S => ?_
    refine forI (fun j g₂ own₂ lm₂ => ∃ ms own3, own₂ = its ++ own3 ∧ DaM prog w Y g₂ M ms own3 ∧ lm₂ = [(Str.ofString "data", .ref xd), (Str.ofString "told", .ref tr), (Str.ofString "code", .int code tc)] ∧ ms.length ≤ 20 * i + j ∧ (∀ p ∈ ms, p.rows.length ≤ 1 + 2 * (20 * i + j)) ∧ gvIs T ms (codesL.take i) code ((rkv.map (·.1)).take j))
      hI2 (It2 _) hW2 S ⟨ms, own₁, rfl, D, rfl, hmz, hrz, gvIs_code V code⟩ ⟨rfl, rfl, rfl, trivial⟩ (fun j v g₂ own₂ lm₂ s its2 hj hP2 le2 J S Qi hPn hPc hPb hPr => ?_) (fun gE own₂ lm₂ s le2 S J => ?_)
    · obtain ⟨ms, own3, rfl, D, rfl, hmz, hrz, V⟩ := J
      refine St.letl S ?_
      intro lmz S
      obtain ⟨x, xv, hxv, hv2⟩ := hP2
      obtain ⟨tx, rfl⟩ := Value.isStrOf_shape hv2
      have hi5 : i < 5 := by rw [← hkl]; exact hi
      have hxk : (rkv.map (·.1))[j]? = some x := by rw [List.getElem?_map, hxv]; rfl
      have hxm : x ∈ rkv.map (·.1) := List.mem_of_getElem? hxk
      obtain ⟨u, hu⟩ : ∃ u, valueAt rkv x = some u := by
        cases e : valueAt rkv x with
        | none => exact absurd hxm (valueAt_none_iff.mp e)
        | some u => exact ⟨u, rfl⟩
      obtain ⟨d, hd, hud⟩ := b5.cases hu
      have hx7 : x ∈ nms7 := Classical.byContradiction fun hx => by rw [f_out T code x hx] at hd; cases hd
      have le12 := le.trans le2
      replace G := G.up le2
      obtain ⟨hxd3, ⟨F0, aa, ab, ha, -, -⟩, -⟩ := id (HD.up le12)
      have hdd4 := le12 _ _ hdd3
      (repeat' (walk_at "x"))
      refine a_meth S G Y.daK Y.hdaP hxd3 (S.keep _ _ hdd4) ha rfl ?_
      refine call_m Y.hdaP.k G ?_
      (repeat' (walk_at "x"))
      refine d_item S (Heap.dictOf_iff.mpr ⟨o, (le12.trans S.keep) _ _ k1, k2⟩) (ik code tc) b1 (fun s S => ?_) (by with_unfolding_all rfl)
      (repeat' (walk_at "x"))
      refine d_item S (Heap.dictOf_iff.mpr ⟨ro, (le12.trans S.keep) _ _ b3, b4⟩) (sk x tx) hu (fun s S => ?_) (by with_unfolding_all rfl)
      (repeat' (walk_at "x"))
      replace S := S.rot
      refine kin_and S G (callC (daP_spec X Y G S.keep ((hA.deeper _).le (by omega)) (HD.up le12) hdd4 D hx7 (by omega) (fun p hp => by have := hrz p hp; omega) hc0 hc1 (hud.up le12) (f_vok hT hd) S.pow S.pnd S.poff fun own4 g4 s ms' A4 D4 hval hl4 hr4 => ?_))
      replace S := (S.back A4).tor
      (repeat' (walk_at "x"))
      (repeat' (walk_at "x"))
      refine forEnd (own₂ := its ++ own4) S A4.le ⟨ms', own4, rfl, D4, rfl, by omega, fun p hp => ?_, ?_⟩ ⟨rfl, rfl, rfl, trivial⟩
      · have := hr4 (1 + 2 * (20 * i + j)) (by omega) hrz p hp
        omega
      · rw [take_snoc hxk]
        exact gvIs_put V hd hval
    · obtain ⟨ms, own3, rfl, D, rfl, hmz, hrz, V⟩ := J
      refine St.letl S ?_
      intro lmz S
      have hnext : gvIs T ms (codesL.take (i + 1)) 0 [] := by
        rw [take_snoc hci]
        refine gvIs_next V (fun x hx => ?_) 0
        have : valueAt rkv x = none := valueAt_none_iff.mpr (by rwa [List.take_of_length_le (by rw [List.length_map]; exact Nat.le_refl _)] at hx)
        cases e : T.f code x with
        | none => rfl
        | some d => obtain ⟨v, q, _⟩ := b5.have e; rw [this] at q; cases q
      (repeat' (walk_at "x"))
      (repeat' (walk_at "x"))
      exact forEnd S le2 ⟨ms, D, rfl, by omega, fun p hp => by have := hrz p hp; omega, hnext⟩ ⟨rfl, rfl, trivial⟩
  · obtain ⟨ms, D, rfl, hmz, hrz, V⟩ := J
    refine St.letl S ?_
    intro lmz S
    rw [hkl] at hrz V
    obtain ⟨⟨oM, rfl, hoM⟩, hok⟩ := D
    (repeat' (walk_at "x"))
    obtain ⟨g9, le9, S, hfz⟩ := St.freezeL (ownc := (M, oM) :: ms.map Mp.own) (rest := []) (by rw [List.append_nil]; exact S) (fun a _ => hw0 a)
    subst hcc
    (repeat' (walk_at "x"))
    refine h xd g9 _ S.aft ⟨dd, M, od, ms, oM, HD.up (le.trans le9), (le.trans le9) _ _ hdd3, hfz _ (.head _), hoM, fun p hp => ⟨(hok p hp).up le9, hfz _ (.tail _ (List.mem_map_of_mem hp)), by have := hrz p hp; omega⟩, fun x hx n hn => ?_⟩
    rw [V x hx n hn, show codesL.take 5 = codesL from rfl]
    by_cases hc : n ∈ codesL
    · simp [hc]
    · rw [F_off hT hc x hx]
      simp [hc]

end
end Mine
end
section
set_option maxRecDepth 100000
set_option maxHeartbeats 1000000
namespace Mine
section
variable {prog : Program} {w : World} {A : Around} {s : Shared} {K : Frag} {g : Heap}
theorem sl_rev {E : Value → Shared → Prop} {c : Cs} {L : Addr} {own : List (Addr × Obj)} {lm : List (Str × Value)} {value slice : PySem.Expr} {l : Addr} {vs : List Value} {t : Tok} {Q : Value → Shared → Prop} (S : St c L g own lm s) (hl : s.heap.IsList l vs.toArray) (hz : vs.length ≤ 1000000)
    (h : ∀ D s', D ∉ c.wr → St c L g ((D, lobj vs.reverse 0) :: own) lm s' → Q (.ref D) s')
    (hs : subscripted slice false (.ref l) (.ref s.heap.objs.size) = operate [.ref l, .ref s.heap.objs.size] (getItem (.ref l) (.ref s.heap.objs.size)) := by with_unfolding_all rfl) :
    wpAny (model prog w) A (subscriptTail value slice (.ref l) (.ref s.heap.objs.size)) Q E { s with heap := s.heap.push (slObj .none .none (.int (-1) t)) } := by
  have hn := S.notWr (none_at_size s.heap (Nat.le_refl _))
  have S1 := S.push (slObj .none .none (.int (-1) t)) rfl (t' := s.toks)
  have hl1 : (s.heap.push (slObj .none .none (.int (-1) t))).IsList l vs.toArray := hl.push _
  refine tail_any (Heap.IsList.typeIs (s := { s with heap := s.heap.push (slObj .none .none (.int (-1) t)) }) hl1) slot_list_getitem.lookup ?_ hs
  refine wpAny_getItem_list_slice (lo := none) (hi := none) (st := some (-1)) hl1 (Heap.IsSliceOf.new ..) .none .none (.int _ _) (by decide) ?_ (by rw [List.size_toArray]; have sl : sizeLine = 16777216 := rfl; omega)
  rw [krv_pick]
  have S2 := S1.push (lobj vs.reverse 0) rfl (t' := s.toks)
  have hn2 := S1.notWr (none_at_size (s.heap.push (slObj .none .none (.int (-1) t))) (Nat.le_refl _))
  refine h _ _ hn2 (S2.drop (List.Sublist.cons_cons _ (List.sublist_cons_self _ _)) fun b hb => ?_)
  have := S2.wo b hb
  simp only [List.map_cons, List.mem_cons] at this ⊢
  rcases this with h | h | h
  · exact .inl h
  · exact absurd (h ▸ hb) hn
  · exact .inr h
theorem deck_spec (X : Fns K) (G : Gl K g) (hg : Le g s.heap) (hA : Rm A 3) {sl : Addr} {ns : List Int} (hx : Rd g (.ref sl) (.list (dI ns))) (hz : ns.length ≤ 100) {R : Result → Shared → Prop}
    (h : ∀ d own' g' s', Aft s g [] g' own' s' → Dk prog w own' d 0 → R (.ok (.ret (.ref d))) s') :
    codeAny (model prog w) A (.call (.ref X.deck) ⟨[.ref sl], []⟩) R s := by
  refine enter0 [(Str.ofString "script", .ref sl)] X.hdeck.s G hg (hA.le (by omega)) (fun _ _ _ _ _ _ => rfl) (by decide) ⟨.inl rfl, trivial⟩ ⟨rfl, trivial⟩ (fun L cdv cs s₁ hz => ?_) rfl rfl rfl
  intro envz Az cz lmz S Qf hFr hFn
  cases hz
  (repeat' (walk_at "x"))
  refine lc (cl := []) rfl rfl (by decide) ?_
  (repeat' (walk_at "x"))
  refine slR_upto S hx (by rw [len_dI]; omega) (by decide) fun D1 g1 s le1 S h1 => ?_
  replace G := G.up le1
  rw [show (dI ns).take (20 : Int).toNat = dI (ns.take 20) from List.map_take.symm] at h1
  refine start_rdL hA.h S h1 fun I its s hI It hW S => ?_
  refine compT (fun j g₂ own₂ ys => own₂ = [] ∧ RdA g₂ ys (dI ((ns.take 20).take j)))
    hI (It _) hW S (by rw [len_dI]; simp; omega) (by decide) rfl ⟨rfl, .nil⟩ (fun C hid j v g₂ own₂ ys s hj hP le2 J hl' S Qe Qs hQe hQs => ?_) (fun D k g₂ own₂ ys s hD le2 S J hl' => ?_)
  · obtain ⟨rfl, hys⟩ := J
    refine St.letl S ?_
    intro lmz S
    obtain ⟨d, hd, hv⟩ := hP
    rw [List.getElem?_map] at hd
    obtain ⟨n, hn, rfl⟩ := Option.map_eq_some_iff.mp hd
    obtain ⟨t, rfl⟩ := rd_int hv
    replace G := G.up le2
    (repeat' (walk_at "x"))
    refine call_int_int ?_
    (repeat' (walk_at "x"))
    refine ⟨_, [], _, Le.refl _, S, rfl, ?_⟩
    rw [take_snoc hn]
    exact hys.snocI (.int _ _)
  · obtain ⟨rfl, hys⟩ := J
    refine St.letl S ?_
    intro lmz S
    rw [List.take_of_length_le (by simp)] at hys
    obtain ⟨g3, le3, S, hD3⟩ := S.freeze (pre := []) rfl hD
    replace S : St _ L g3 [] _ _ := S
    have hDr : Rd g3 (.ref D) _ := .list (lobj_is hD3) (hys.up le3)
    replace G := G.up (le2.trans le3)
    (repeat' (walk_at "x"))
    refine start_rdL hA.h S hDr fun I its s hI It hW S => ?_
    refine forI (fun i g₁ own₁ lm₁ => own₁ = [] ∧ ∃ m tm, lm₁ = [(Str.ofString "cells", .ref D), (Str.ofString "mixed", .int m tm)])
      hI (It _) hW S ⟨rfl, _, _, rfl⟩ ⟨rfl, rfl, trivial⟩ (fun i v g₁ own₁ lm₁ s its hi hP le J S Qn hQn hQc hQb hQr => ?_) (fun gE own₁ lm₁ s le S J => ?_)
    · obtain ⟨rfl, m, tm, rfl⟩ := J
      refine St.letl S ?_
      intro lmz S
      obtain ⟨d, hd, hv⟩ := hP
      rw [List.getElem?_map] at hd
      obtain ⟨n, hn, rfl⟩ := Option.map_eq_some_iff.mp hd
      obtain ⟨t, rfl⟩ := rd_int hv
      replace G := G.up le
      (repeat' (walk_at "x"))
      (repeat' (walk_at "x"))
      exact forEnd (own₂ := []) S (Le.refl _) ⟨rfl, _, _, rfl⟩ ⟨rfl, rfl, trivial⟩
    · obtain ⟨rfl, m, tm, rfl⟩ := J
      refine St.letl S ?_
      intro lmz S
      replace G := G.up le
      have hDr2 := hDr.up le
      (repeat' (walk_at "x"))
      (with_reducible refine d_dispT (PySem.strKind prog w) S G ?_ ?_ ?_ ?_)
      · rfl
      · rfl
      · exact ⟨by decide, by decide⟩
      intro F s hF hFw S
      (repeat' (walk_at "x"))
      obtain ⟨_, vs, q1, hL, hr⟩ := rd_list hDr2
      cases q1
      have hvl := hr.length
      rw [len_dI] at hvl
      have htk : (ns.take 20).length ≤ 20 := by rw [List.length_take]; omega
      refine sl_rev S (isList_up hL S.keep) (by omega) fun C2 s hC2 S => ?_
      (repeat' (walk_at "x"))
      refine ⟨gE, [(C2, _)], [], _, _, S, carr_cons (sk _ _) (carr_cons (sk _ _) (carr_cons (sk _ _) carr_nil)), fun o s ho S => ?_⟩
      have hr2 := hr.rev
      rw [show (dI (ns.take 20)).reverse = dI (ns.take 20).reverse from List.map_reverse.symm] at hr2
      have S2 : St _ L gE [(F, o), (C2, lobj vs.reverse 0)] _ s := S.perm (List.Perm.swap _ _ _)
      (repeat' (walk_at "x"))
      exact h F _ gE s S2.aft ⟨o, C2, _, _, _, m, _, _, rfl, ho, hr2.ints, by rw [List.length_reverse]; omega, by decide, by decide⟩

end
end Mine
end
section
set_option genInjectivity false
set_option genSizeOf false
set_option maxRecDepth 100000
set_option maxHeartbeats 1000000
namespace Mine
section
variable {prog : Program} {w : World} {A : Around} {s : Shared} {K : Frag} {g : Heap}
def updN {α : Type} (f : Nm → α) (m : Nm) (v : α) : Nm → α := fun m' => match m, m' with
  | .uc, .uc => v
  | .lc, .lc => v
  | .tc, .tc => v
  | _, _ => f m'
theorem f_sim (T : Md) (n : Int) (m : Nm) (i : Int) (y : Str) : (if y = m.s then some (.int i) else T.f n y) = ({ T with sim := fun k => updN (T.sim k) m (some i) } : Md).f n y := by
  by_cases h : y = m.s
  · subst h
    rw [if_pos rfl, f_s]
    cases m <;> rfl
  · rw [if_neg h]
    cases m with
    | uc => have h' : y ≠ Str.ofString "uc" := h; simp only [Md.f, updN, if_neg h']
    | lc => have h' : y ≠ Str.ofString "lc" := h; simp only [Md.f, updN, if_neg h']
    | tc => have h' : y ≠ Str.ofString "tc" := h; simp only [Md.f, updN, if_neg h']
theorem f_spe (T : Md) (n : Int) (m : Nm) (Ls : Sp) (y : Str) : (if y = m.ss then some (.list (dS Ls)) else T.f n y) = ({ T with spe := fun k => updN (T.spe k) m (some Ls) } : Md).f n y := by
  by_cases h : y = m.ss
  · subst h
    rw [if_pos rfl, f_ss]
    cases m <;> rfl
  · rw [if_neg h]
    cases m with
    | uc => have h' : y ≠ Str.ofString "suc" := h; simp only [Md.f, updN, if_neg h']
    | lc => have h' : y ≠ Str.ofString "slc" := h; simp only [Md.f, updN, if_neg h']
    | tc => have h' : y ≠ Str.ofString "stc" := h; simp only [Md.f, updN, if_neg h']
theorem DF.congr {KK : Type} [DecidableEq KK] {g : Heap} {kvs : List (KK × Value)} {f f' : KK → Option PyData} (h : DF g kvs f) (e : ∀ y, f y = f' y) : DF g kvs f' := by
  have : f = f' := funext e
  rw [← this]; exact h
/-- a row under way -/
structure RowB (prog : Program) (w : World) (g : Heap) (oR : Obj) (T : Md) (n : Int) (z : Nat) : Prop where
  kv : ∃ rkv, oR.IsDictOf (PySem.strKind prog w) rkv ∧ DF g rkv (T.f n) ∧ rkv.length ≤ z
  sp : ∀ m Ls, T.spe n m = some Ls → SpOk Ls
  im : ∀ m i, T.sim n m = some i → i ∈ codesL ++ [8072]
theorem RowB.up {g g' : Heap} {oR : Obj} {T : Md} {n : Int} {z : Nat} (h : RowB prog w g oR T n z) (le : Le g g') : RowB prog w g' oR T n z := by
  obtain ⟨⟨rkv, a, b, c⟩, h2, h3⟩ := h
  exact ⟨⟨rkv, a, b.up le, c⟩, h2, h3⟩
theorem updN_cases {α : Type} {f : Nm → α} {m m' : Nm} {v : α} : updN f m v m' = v ∨ updN f m v m' = f m' := by
  cases m <;> cases m' <;> first | exact .inl rfl | exact .inr rfl
theorem set_sim {E : Value → Shared → Prop} {c : Cs} {L : Addr} {own : List (Addr × Obj)} {lm : List (Str × Value)} {r : Addr} {oR : Obj} {T : Md} {n i : Int} {m : Nm} {z : Nat} {v : Value} {t : Tok} {pre post : List (Addr × Obj)} {Q : Unit → Shared → Prop} (S : St c L g own lm s) (hown : own = pre ++ (r, oR) :: post)
    (B : RowB prog w g oR T n z) (hz : z ≤ 1000) (hv : Rd g v (.int i)) (hi : i ∈ codesL ++ [8072])
    (h : ∀ oR' T' s', RowB prog w g oR' T' n (z + 1) → T'.cased n = T.cased n → St c L g (pre ++ (r, oR') :: post) lm s' → Q () s') : wpAny (model prog w) A (setItem (.ref r) (.str m.s t) v) Q E s := by
  obtain ⟨⟨rkv, a, b, c0⟩, h2, h3⟩ := B
  refine d_set S hown a (sk _ t) (by omega) fun oR' s' ho S' => ?_
  refine h oR' { T with sim := fun k => updN (T.sim k) m (some i) } s' ⟨⟨_, ho, (b.store hv).congr (f_sim T n m i), ?_⟩, h2, fun m' i' e => ?_⟩ rfl S'
  · have := stored_length_le rkv m.s v; omega
  · rcases updN_cases (f := T.sim n) (m := m) (m' := m') (v := some i) with q | q
    · have : some i = some i' := q.symm.trans e
      cases this
      exact hi
    · exact h3 m' i' (q.symm.trans e)
theorem set_spe {E : Value → Shared → Prop} {c : Cs} {L : Addr} {own : List (Addr × Obj)} {lm : List (Str × Value)} {r : Addr} {oR : Obj} {T : Md} {n : Int} {Ls : Sp} {m : Nm} {z : Nat} {v : Value} {t : Tok} {pre post : List (Addr × Obj)} {Q : Unit → Shared → Prop} (S : St c L g own lm s) (hown : own = pre ++ (r, oR) :: post)
    (B : RowB prog w g oR T n z) (hz : z ≤ 1000) (hv : Rd g v (.list (dS Ls))) (hi : SpOk Ls)
    (h : ∀ oR' T' s', RowB prog w g oR' T' n (z + 1) → T'.cased n = T.cased n → St c L g (pre ++ (r, oR') :: post) lm s' → Q () s') : wpAny (model prog w) A (setItem (.ref r) (.str m.ss t) v) Q E s := by
  obtain ⟨⟨rkv, a, b, c0⟩, h2, h3⟩ := B
  refine d_set S hown a (sk _ t) (by omega) fun oR' s' ho S' => ?_
  refine h oR' { T with spe := fun k => updN (T.spe k) m (some Ls) } s' ⟨⟨_, ho, (b.store hv).congr (f_spe T n m Ls), ?_⟩, fun m' Ls' e => ?_, h3⟩ rfl S'
  · have := stored_length_le rkv m.ss v; omega
  · rcases updN_cases (f := T.spe n) (m := m) (m' := m') (v := some Ls) with q | q
    · have : some Ls = some Ls' := q.symm.trans e
      cases this
      exact hi
    · exact h2 m' Ls' (q.symm.trans e)
theorem St.dkOut {c : Cs} {L : Addr} {a b dk r : List (Addr × Obj)} {p : Addr × Obj} {lm : List (Str × Value)} (S : St c L g (a ++ (p :: (b ++ (dk ++ r)))) lm s) : St c L g (dk ++ (a ++ (p :: (b ++ r)))) lm s := by
  have e1 : a ++ (p :: (b ++ (dk ++ r))) = (a ++ p :: b) ++ (dk ++ r) := by simp
  have e2 : a ++ (p :: (b ++ r)) = (a ++ p :: b) ++ r := by simp
  rw [e1] at S
  rw [e2]
  exact S.mid
theorem St.dkIn {c : Cs} {L : Addr} {a b dk r : List (Addr × Obj)} {p : Addr × Obj} {lm : List (Str × Value)} (S : St c L g (dk ++ (a ++ (p :: (b ++ r)))) lm s) : St c L g (a ++ (p :: (b ++ (dk ++ r)))) lm s := by
  have e1 : a ++ (p :: (b ++ (dk ++ r))) = (a ++ p :: b) ++ (dk ++ r) := by simp
  have e2 : a ++ (p :: (b ++ r)) = (a ++ p :: b) ++ r := by simp
  rw [e2] at S
  rw [e1]
  exact S.mid
theorem f_congr {T T' : Md} {n n' : Int} (h1 : T.cased n = T'.cased n') (h2 : T.sim n = T'.sim n') (h3 : T.spe n = T'.spe n') : T.f n = T'.f n' := by
  funext y
  unfold Md.f
  rw [h1, h2, h3]
/-- what is told so far -/
structure TolB (prog : Program) (w : World) (g : Heap) (oF : Obj) (T : Md) (cs : List Int) : Prop where
  kv : ∃ kvs, oF.IsDictOf (PySem.intKind prog w) kvs ∧ kvs.map (·.1) = cs ∧ ∀ n ∈ cs, ∃ r ro rkv, valueAt kvs n = some (.ref r) ∧ (r == sysModules) = false ∧ g.get? r = some ro ∧ ro.IsDictOf (PySem.strKind prog w) rkv ∧ DF g rkv (T.f n) ∧ rkv.length ≤ 20
  off : ∀ n, n ∉ cs → T.cased n = false ∧ ∀ m, T.sim n m = none ∧ T.spe n m = none
  sp : ∀ n m Ls, T.spe n m = some Ls → SpOk Ls
  im : ∀ n m i, T.sim n m = some i → i ∈ codesL ++ [8072]
theorem TolB.up {g g' : Heap} {oF : Obj} {T : Md} {cs : List Int} (h : TolB prog w g oF T cs) (le : Le g g') : TolB prog w g' oF T cs := by
  obtain ⟨⟨kvs, a, b, c⟩, h2, h3, h4⟩ := h
  refine ⟨⟨kvs, a, b, fun n hn => ?_⟩, h2, h3, h4⟩
  obtain ⟨r, ro, rkv, q1, q2, q3, q4, q5, q6⟩ := c n hn
  exact ⟨r, ro, rkv, q1, q2, le _ _ q3, q4, q5.up le, q6⟩
def withRow (T T1 : Md) (code : Int) : Md := ⟨fun k => if k = code then T1.cased code else T.cased k, fun k => if k = code then T1.sim code else T.sim k, fun k => if k = code then T1.spe code else T.spe k⟩
theorem TolB.add {oF oF' oR : Obj} {T T1 : Md} {cs : List Int} {code : Int} {r : Addr} {kvs : List (Int × Value)} (h : TolB prog w g oF T cs) (hc : code ∉ cs) (hr : RowB prog w g oR T1 code 20) (hr0 : (r == sysModules) = false) (hg : g.get? r = some oR)
    (hk : oF.IsDictOf (PySem.intKind prog w) kvs) (hkc : kvs.map (·.1) = cs) (hkr : ∀ n ∈ cs, ∃ r ro rkv, valueAt kvs n = some (.ref r) ∧ (r == sysModules) = false ∧ g.get? r = some ro ∧ ro.IsDictOf (PySem.strKind prog w) rkv ∧ DF g rkv (T.f n) ∧ rkv.length ≤ 20)
    (ho : oF'.IsDictOf (PySem.intKind prog w) (stored kvs code (.ref r))) : TolB prog w g oF' (withRow T T1 code) (cs ++ [code]) := by
  obtain ⟨⟨rkv, q1, q2, q3⟩, q4, q5⟩ := hr
  have hne : ∀ n ∈ cs, n ≠ code := fun n hn e => hc (e ▸ hn)
  refine ⟨⟨_, ho, ?_, fun n hn => ?_⟩, fun n hn => ?_, fun n m Ls e => ?_, fun n m i e => ?_⟩
  · unfold stored
    have : ¬ (kvs.any fun kv => decide (kv.1 = code)) = true := fun e => by
      obtain ⟨p, hp, e⟩ := List.any_eq_true.mp e
      exact hc (hkc ▸ List.mem_map.mpr ⟨p, hp, of_decide_eq_true e⟩)
    rw [if_neg this, List.map_append, hkc]
    rfl
  · rcases List.mem_append.mp hn with hn | hn
    · obtain ⟨r', ro', rkv', p1, p2, p3, p4, p5, p6⟩ := hkr n hn
      refine ⟨r', ro', rkv', by rw [valueAt_store, if_neg (hne n hn)]; exact p1, p2, p3, p4, ?_, p6⟩
      rw [f_congr (T := withRow T T1 code) (T' := T) (n := n) (n' := n) (if_neg (hne n hn)) (if_neg (hne n hn)) (if_neg (hne n hn))]
      exact p5
    · rw [List.mem_singleton.mp hn]
      refine ⟨r, oR, rkv, by rw [valueAt_store, if_pos rfl], hr0, hg, q1, ?_, q3⟩
      rw [f_congr (T := withRow T T1 code) (T' := T1) (n := code) (n' := code) (if_pos rfl) (if_pos rfl) (if_pos rfl)]
      exact q2
  · have h1 : n ∉ cs := fun e => hn (List.mem_append_left _ e)
    have h2 : n ≠ code := fun e => hn (by rw [e]; simp)
    obtain ⟨a, b⟩ := h.off n h1
    refine ⟨(if_neg h2).trans a, fun m => ⟨?_, ?_⟩⟩
    · show (if n = code then T1.sim code else T.sim n) m = none
      rw [if_neg h2]; exact (b m).1
    · show (if n = code then T1.spe code else T.spe n) m = none
      rw [if_neg h2]; exact (b m).2
  · have e : (if n = code then T1.spe code else T.spe n) m = some Ls := e
    by_cases h2 : n = code
    · rw [if_pos h2] at e; exact q4 m Ls e
    · rw [if_neg h2] at e; exact h.sp n m Ls e
  · have e : (if n = code then T1.sim code else T.sim n) m = some i := e
    by_cases h2 : n = code
    · rw [if_pos h2] at e; exact q5 m i e
    · rw [if_neg h2] at e; exact h.im n m i e

end
end Mine
end
section
set_option maxRecDepth 100000
set_option maxHeartbeats 1000000
namespace Mine
section
variable {prog : Program} {w : World} {A : Around} {s : Shared} {K : Frag} {g : Heap}
theorem St.unassoc {c : Cs} {L : Addr} {a b r : List (Addr × Obj)} {lm : List (Str × Value)} (S : St c L g ((a ++ b) ++ r) lm s) : St c L g (a ++ (b ++ r)) lm s := by
  rw [List.append_assoc] at S; exact S
def nms3 : List Nm := [.uc, .lc, .tc]
theorem told_spec (X : Fns K) (G : Gl K g) (hg : Le g s.heap) (hA : Rm A 20) {d : Addr} {own : List (Addr × Obj)} {u : Int} (D : Dk prog w own d u) (hu : u + 1000 < 2 ^ 62)
    (how : ∀ p ∈ own, s.heap.get? p.1 = some p.2) (hnd : (own.map (·.1)).Nodup) (hoff : ∀ a ∈ own.map (·.1), g.get? a = none) {R : Result → Shared → Prop}
    (h : ∀ tr T own' g' s' u', Aft s g (own.map (·.1)) g' own' s' → Dk prog w own' d u' → u' ≤ u + 200 → MdOk T → ToldIs prog w g' tr T → R (.ok (.ret (.ref tr))) s') :
    codeAny (model prog w) A (.call (.ref X.told) ⟨[.ref d], []⟩) R s := by
  refine enter (binds := [(Str.ofString "deck", .ref d)]) (lm := [(Str.ofString "deck", .ref d)]) X.htold.s G hg (by have := hA.d; omega) how hnd hoff (fun _ _ _ _ _ _ => BindsTo.of_eq rfl) (by decide) ⟨.inl rfl, trivial⟩ ⟨rfl, trivial⟩ (fun L cdv cs s₁ hz => ?_) rfl rfl rfl
  intro envz Az cz lmz S Qf hFr hFn
  cases hz
  obtain ⟨cc, hcc⟩ : ∃ cc : Cs, cc = ⟨s, g, own.map (·.1)⟩ := ⟨_, rfl⟩
  replace S : St cc L g own lmz s₁ := by rw [hcc]; exact S
  (repeat' (walk_at "x"))
  refine d_empty S G fun F s hF hFw S => ?_
  (repeat' (walk_at "x"))
  replace S : St cc L g (own ++ [(F, edict)]) _ _ := S.perm (List.perm_append_comm (l₁ := own) (l₂ := [(F, edict)]))
  refine call_fn0 S G X.hcodes.n X.hcodes.k rfl (callC (codes_spec X G S.keep ((hA.deeper _).le (by omega)) fun cr g1 s A1 hcr => ?_))
  replace S : St cc L g1 (own ++ [(F, edict)]) _ _ := S.back (ownc := []) (own' := []) A1
  replace G := G.up A1.le
  have T0 : TolB prog w g1 edict ⟨fun _ => false, fun _ _ => none, fun _ _ => none⟩ [] := ⟨⟨[], edict_is, rfl, (fun _ h => nomatch h)⟩, fun n _ => ⟨rfl, fun m => ⟨rfl, rfl⟩⟩, (fun _ _ _ e => nomatch e), (fun _ _ _ e => nomatch e)⟩
  refine start_rdL hA.h S hcr fun I its s hI It hW S => ?_
  refine forI (fun i g₁ own₁ lm₁ => ∃ dk oF T u', own₁ = dk ++ [(F, oF)] ∧ lm₁ = [(Str.ofString "found", .ref F), (Str.ofString "deck", .ref d)] ∧ Dk prog w dk d u' ∧ u' ≤ u + 37 * i ∧ TolB prog w g₁ oF T (codesL.take i))
    hI (It _) hW S ⟨own, edict, _, u, rfl, rfl, D, by omega, T0⟩ ⟨rfl, rfl, trivial⟩ (fun i v g₁ own₁ lm₁ s its hi hP le J S Qn hQn hQc hQb hQr => ?_) (fun gE own₁ lm₁ s le S J => ?_)
  · obtain ⟨dk, oF, T, u1, rfl, rfl, D1, hu1, TB⟩ := J
    refine St.letl S ?_
    intro lmz S
    obtain ⟨dd, hdd, hv⟩ := hP
    rw [List.getElem?_map] at hdd
    obtain ⟨code, hci, rfl⟩ := Option.map_eq_some_iff.mp hdd
    obtain ⟨tc, rfl⟩ := rd_int hv
    replace hci : codesL[i]? = some code := hci
    have hi5 : i < 5 := hi
    have hcn : code ∉ codesL.take i := by
      have hi6 := hi5
      rcases i with _ | _ | _ | _ | _ | i
      · cases hci; decide
      · cases hci; decide
      · cases hci; decide
      · cases hci; decide
      · cases hci; decide
      · omega
    replace G := G.up le
    (repeat' (walk_at "x"))
    (with_reducible refine d_dispT (PySem.strKind prog w) S G ?_ ?_ ?_ ?_)
    · rfl
    · rfl
    · exact ⟨by decide, by decide⟩
    intro r s hr0 hrw S
    (repeat' (walk_at "x"))
    refine call_fn S G X.hdraw.n X.hdraw.k rfl ?_
    (repeat' (walk_at "x"))
    replace S := St.dkOut (a := []) S
    refine kin_and S G (callC (draw_spec X G S.keep ((hA.deeper _).le (by omega)) D1 (by omega) (by decide) S.pow S.pnd S.poff fun rr dk g2 s t' A2 D1 r0 r1 => ?_))
    replace S := St.dkIn (a := []) (S.back A2)
    replace S : St cc L g2 ((r, edict) :: (its ++ (dk ++ [(F, oF)]))) _ _ := S
    replace G := G.up A2.le
    replace TB := TB.up A2.le
    (repeat' (walk_at "x"))
    refine ⟨g2, [], _, _, _, S, carr_cons (sk _ _) carr_nil, fun oR s ho S => ?_⟩
    replace ho : oR.IsDictOf (PySem.strKind prog w) [(Str.ofString "cased", .bool (decide (0 < rr)))] := ho
    have RB0 : RowB prog w g2 oR ⟨fun _ => decide (0 < rr), fun _ _ => none, fun _ _ => none⟩ code 1 := ⟨⟨_, ho, fun x => by
      by_cases hx : x = Str.ofString "cased"
      · subst hx
        rw [f_cased]
        exact ⟨_, by rw [valueAt_cons, if_pos rfl], .bool _⟩
      · have : Md.f ⟨fun _ => decide (0 < rr), fun _ _ => none, fun _ _ => none⟩ code x = none := by
          unfold Md.f
          rw [if_neg hx]
          simp
        rw [this]
        show valueAt _ x = none
        rw [valueAt_cons, if_neg (fun e => hx e.symm)]
        rfl, Nat.le_refl _⟩, (fun _ _ e => nomatch e), (fun _ _ e => nomatch e)⟩
    (repeat' (walk_at "x"))
    refine mk_tuple (ds := nms3.map fun m => PyData.str m.s) S (.cons (.str _ _) (.cons (.str _ _) (.one (.str _ _)))) (Nat.le_of_ble_eq_true rfl) fun NT g3 s le3 S hNT => ?_
    replace G := G.up le3
    replace TB := TB.up le3
    replace RB0 := RB0.up le3
    refine start_rdT hA.h S hNT fun I2 its2 s hI2 It2 hW2 S => ?_
    refine forI (fun j g₂ own₂ lm₂ => ∃ dk oR T1 u', own₂ = (r, oR) :: (its ++ (dk ++ [(F, oF)])) ∧ lm₂ = [(Str.ofString "row", .ref r), (Str.ofString "code", .int code tc), (Str.ofString "found", .ref F), (Str.ofString "deck", .ref d)] ∧ Dk prog w dk d u' ∧ u' ≤ u1 + 1 + 12 * j ∧ RowB prog w g₂ oR T1 code (1 + 2 * j))
      hI2 (It2 _) hW2 S ⟨dk, oR, _, u1 + 1, rfl, rfl, D1, by omega, RB0⟩ ⟨rfl, rfl, rfl, rfl, trivial⟩ (fun j v g₂ own₂ lm₂ s its2 hj hP2 le2 J S Qi hPn hPc hPb hPr => ?_) (fun gE own₂ lm₂ s le2 S J => ?_)
    · obtain ⟨dk, oR, T1, u2, rfl, rfl, D2, hu2, RB⟩ := J
      refine St.letl S ?_
      intro lmz S
      obtain ⟨dd, hdd, hv⟩ := hP2
      rw [List.getElem?_map] at hdd
      obtain ⟨m, hm, rfl⟩ := Option.map_eq_some_iff.mp hdd
      obtain ⟨tm, rfl⟩ := rd_str hv
      have hj3 : j < 3 := hj
      replace G := G.up le2
      (repeat' ((fail_if_success (with_reducible show wpAny _ _ (exec (PySem.Stmt.If _ _ _ _) _) _ _ _)); walk_at "x"))
      refine cutR (J := fun s => ∃ g4 dk oR T1 u', Le g₂ g4 ∧ Dk prog w dk d u' ∧ u' ≤ u1 + 1 + 12 * j + 2 ∧ RowB prog w g4 oR T1 code (1 + 2 * j + 1) ∧ St cc L g4 (its2 ++ ((r, oR) :: (its ++ (dk ++ [(F, oF)])))) [(Str.ofString "name", .str m.s tm), (Str.ofString "row", .ref r), (Str.ofString "code", .int code tc), (Str.ofString "found", .ref F), (Str.ofString "deck", .ref d)] s) ?_ ?_
      · intro Qc hCn
        (repeat' (walk_at "x"))
        refine call_fn S G X.hdraw.n X.hdraw.k rfl ?_
        (repeat' (walk_at "x"))
        replace S := St.dkOut S
        refine kin_and S G (callC (draw_spec X G S.keep ((hA.deeper _).le (by omega)) D2 (by omega) (by decide) S.pow S.pnd S.poff fun rr dk g4 s t' A4 D4 r0 r1 => ?_))
        replace S := St.dkIn (S.back A4)
        replace G := G.up A4.le
        replace RB := RB.up A4.le
        (repeat' (walk_at "x"))
        refine ite_eq (fun hc => ?_) (fun hc => ?_)
        · (repeat' (walk_at "x"))
          refine call_fn S G X.hpick.n X.hpick.k rfl ?_
          (repeat' (walk_at "x"))
          refine call_fn0 S G X.hcodes.n X.hcodes.k rfl (callC (codes_spec X G S.keep ((hA.deeper _).le (by omega)) fun cr2 g5 s A5 hcr2 => ?_))
          replace S : St cc L g5 (its2 ++ ((r, oR) :: (its ++ (dk ++ [(F, oF)])))) _ _ := S.back (ownc := []) (own' := []) A5
          replace G := G.up A5.le
          replace RB := RB.up A5.le
          (repeat' (walk_at "x"))
          refine mk_list (ds := [.int 8072]) S (.one (.int _ _)) (Nat.le_of_ble_eq_true rfl) fun L8 g6 s le6 S hL8 => ?_
          refine addR S (hcr2.up le6) hL8 (by decide) (by decide) fun B g7 s le7 S hB => ?_
          replace G := G.up (le6.trans le7)
          replace RB := RB.up (le6.trans le7)
          (repeat' (walk_at "x"))
          replace S := St.dkOut S
          refine kin_and S G (callC (pick_spec X G S.keep ((hA.deeper _).le (by omega)) D4 (by omega) hB (by decide) S.pow S.pnd S.poff fun pv x dk g8 s A8 D8 hx hpv => ?_))
          replace S := St.dkIn (S.back A8)
          replace G := G.up A8.le
          replace RB := RB.up A8.le
          obtain ⟨iv, hiv, rfl⟩ : ∃ iv, iv ∈ codesL ++ [8072] ∧ x = .int iv := by
            rcases List.mem_append.mp hx with hx | hx
            · obtain ⟨iv, h1, rfl⟩ := List.mem_map.mp hx
              exact ⟨iv, List.mem_append_left _ h1, rfl⟩
            · exact ⟨8072, by simp, by rwa [List.mem_singleton] at hx⟩
          (repeat' (walk_at "x"))
          refine set_sim (pre := its2) S rfl RB (by omega) hpv hiv fun oR' T' s RB' _ S => ?_
          (repeat' (walk_at "x"))
          exact ⟨rfl, g8, dk, oR', T', u2 + 1 + 1, ((A4.le.trans A5.le).trans (le6.trans le7)).trans A8.le, D8, by omega, RB', S⟩
        · (repeat' (walk_at "x"))
          obtain ⟨⟨rkv, q1, q2, q3⟩, q4, q5⟩ := RB
          exact ⟨rfl, g4, dk, oR, T1, u2 + 1, A4.le, D4, by omega, ⟨⟨rkv, q1, q2, by omega⟩, q4, q5⟩, S⟩
      · rintro s ⟨g4, dk, oR, T1, u3, le4, D3, hu3, RB, S⟩
        refine St.letl S ?_
        intro lmz S
        replace G := G.up le4
        (repeat' ((fail_if_success (with_reducible show wpAny _ _ (exec (PySem.Stmt.If _ _ _ _) _) _ _ _)); walk_at "x"))
        refine cutR (J := fun s => ∃ g5 dk oR T1 u', Le g4 g5 ∧ Dk prog w dk d u' ∧ u' ≤ u1 + 1 + 12 * j + 12 ∧ RowB prog w g5 oR T1 code (1 + 2 * j + 2) ∧ St cc L g5 (its2 ++ ((r, oR) :: (its ++ (dk ++ [(F, oF)])))) [(Str.ofString "name", .str m.s tm), (Str.ofString "row", .ref r), (Str.ofString "code", .int code tc), (Str.ofString "found", .ref F), (Str.ofString "deck", .ref d)] s) ?_ ?_
        · intro Qc hCn
          (repeat' (walk_at "x"))
          refine call_fn S G X.hdraw.n X.hdraw.k rfl ?_
          (repeat' (walk_at "x"))
          replace S := St.dkOut S
          refine kin_and S G (callC (draw_spec X G S.keep ((hA.deeper _).le (by omega)) D3 (by omega) (by decide) S.pow S.pnd S.poff fun rr dk g5 s t' A5 D5 r0 r1 => ?_))
          replace S := St.dkIn (S.back A5)
          replace G := G.up A5.le
          replace RB := RB.up A5.le
          (repeat' (walk_at "x"))
          refine ite_eq (fun hc => ?_) (fun hc => ?_)
          · (repeat' (walk_at "x"))
            refine call_fn S G X.hlspec.n X.hlspec.k rfl ?_
            (repeat' (walk_at "x"))
            replace S := St.dkOut S
            refine kin_and S G (callC (special_spec X G S.keep ((hA.deeper _).le (by omega)) D5 (by omega) S.pow S.pnd S.poff fun pv Ls dk g8 s u8 A8 D8 hu8 hLs hpv => ?_))
            replace S := St.dkIn (S.back A8)
            replace G := G.up A8.le
            replace RB := RB.up A8.le
            (repeat' (walk_at "x"))
            refine add_s S (by have := s_len m; have e : (Str.ofString "s").length = 1 := by decide
                               rw [e]; omega) fun ts s S => ?_
            rw [ss_eq]
            refine set_spe (pre := its2) S rfl RB (by omega) hpv hLs fun oR' T' s RB' _ S => ?_
            (repeat' (walk_at "x"))
            exact ⟨rfl, g8, dk, oR', T', u8, A5.le.trans A8.le, D8, by omega, RB', S⟩
          · (repeat' (walk_at "x"))
            obtain ⟨⟨rkv, q1, q2, q3⟩, q4, q5⟩ := RB
            exact ⟨rfl, g5, dk, oR, T1, u3 + 1, A5.le, D5, by omega, ⟨⟨rkv, q1, q2, by omega⟩, q4, q5⟩, S⟩
        · rintro s ⟨g5, dk, oR, T1, u4, le5, D4, hu4, RB, S⟩
          refine St.letl S ?_
          intro lmz S
          (repeat' (walk_at "x"))
          (repeat' (walk_at "x"))
          exact forEnd (own₂ := (r, oR) :: (its ++ (dk ++ [(F, oF)]))) S (le4.trans le5) ⟨dk, oR, T1, u4, rfl, rfl, D4, by omega, RB⟩ ⟨rfl, rfl, rfl, rfl, trivial⟩
    · obtain ⟨dk, oR, T1, u2, rfl, rfl, D2, hu2, RB⟩ := J
      refine St.letl S ?_
      intro lmz S
      replace G := G.up le2
      replace TB := TB.up le2
      have hl3 : ((nms3.map fun m => PyData.str m.s).length : Int) = 3 := rfl
      (repeat' (walk_at "x"))
      obtain ⟨g4, le4, S, hrg⟩ := S.freeze (pre := []) rfl hrw
      replace S := St.assoc (a := its) (b := dk) (r := [(F, oF)]) S
      replace TB := TB.up le4
      replace RB := RB.up le4
      obtain ⟨⟨kvs, k1, k2, k3⟩, k4, k5, k6⟩ := id TB
      refine d_set (pre := its ++ dk) (post := []) S rfl k1 (ik code tc) (by have := congrArg List.length k2; rw [List.length_map] at this; rw [this, List.length_take]; omega) fun oF' s hoF S => ?_
      (repeat' (walk_at "x"))
      have RB2 : RowB prog w g4 oR T1 code 20 := by
        obtain ⟨⟨rkv, q1, q2, q3⟩, q4, q5⟩ := RB
        exact ⟨⟨rkv, q1, q2, Nat.le_trans q3 (by decide)⟩, q4, q5⟩
      have TB' := TB.add hcn RB2 hr0 hrg k1 k2 k3 hoF
      rw [← take_snoc hci] at TB'
      (repeat' (walk_at "x"))
      refine forEnd (own₂ := dk ++ [(F, oF')]) (St.unassoc S) (((A2.le.trans le3).trans le2).trans le4) ⟨dk, oF', _, u2, rfl, rfl, D2, by omega, TB'⟩ ⟨rfl, rfl, trivial⟩
  · obtain ⟨dk, oF, T, u1, rfl, rfl, D1, hu1, TB⟩ := J
    refine St.letl S ?_
    intro lmz S
    have hl5 : ((dI codes5).length : Int) = 5 := rfl
    (repeat' (walk_at "x"))
    obtain ⟨g9, le9, S, hFg⟩ := S.freeze (pre := dk) rfl (by subst hcc; exact hFw)
    rw [List.append_nil] at S
    obtain ⟨⟨kvs, k1, k2, k3⟩, k4, k5, k6⟩ := TB.up le9
    subst hcc
    (repeat' (walk_at "x"))
    exact h F T dk g9 _ u1 S.aft D1 (by omega) ⟨k4, k5, k6⟩ ⟨hF, oF, kvs, hFg, k1, k2, k3⟩

end
end Mine
end
section
set_option maxRecDepth 100000
set_option maxHeartbeats 1000000
namespace Mine
section
variable {prog : Program} {w : World} {A : Around} {s : Shared} {K : Frag} {g : Heap}
theorem c_listR {E : Value → Shared → Prop} {c : Cs} {L : Addr} {own : List (Addr × Obj)} {lm : List (Str × Value)} {l : Addr} {ds : List PyData} {Q : Value → Shared → Prop} (S : St c L g own lm s) (hl : Rd g (.ref l) (.list ds)) (hz : ds.length ≤ 100000)
    (h : ∀ D g' s', Le g g' → St c L g' own lm s' → Rd g' (.ref D) (.list ds) → Q (.ref D) s') : wpAny (model prog w) A (call (.type "list") [.ref l]) Q E s := by
  obtain ⟨_, vs, q, hL, hr⟩ := rd_list hl
  cases q
  refine c_listS S (isList_up hL S.keep) (by have := hr.length; omega) fun D k s' hD S' => ?_
  obtain ⟨g', le, S2, hg⟩ := S'.freeze (pre := []) rfl hD
  exact h D g' s' le S2 (.list (lobj_is hg) (hr.up le))
theorem edGo_len (ns : List Int) : ∀ (ps : List (List Int)) (i : Nat) (st : List Ed × Int) {z : Nat}, st.1.length + ps.length ≤ z → (edGo ns i ps st).length ≤ z
  | [], _, st, z, h => by simpa [edGo] using h
  | p :: ps, i, st, z, h => by
    unfold edGo
    refine edGo_len ns ps (i + 1) _ ?_
    have := edStep_len (ns.getD i 0) st i p
    rw [List.length_cons] at h
    omega
theorem titl_len {T : Md} (hT : MdOk T) {ns : List Int} {ws : List Nat} {b : Str} : ∀ p ∈ titl T ns ws b, p.length ≤ 10 := fun p hp => by
  obtain ⟨k, _, rfl⟩ := List.mem_map.mp hp
  unfold tval
  split
  · exact full_len hT _ _ b
  · split
    · exact full_len hT _ _ b
    · simp
/-- [_law_full(told, code, name, language) for code in text] -/
theorem right_spec (X : Fns K) (Y : Cls K) (G : Gl K g) (hg : Le g s.heap) (hA : Rm A 20) {tr xd tl wl : Addr} {T : Md} {ns : List Int} {ws : List Nat} {l b : Str} {tb : Tok} (HT : ToldIs prog w g tr T) (H : Dat prog w Y g xd T.F) (hT : MdOk T) (hx : Rd g (.ref tl) (.list (dI ns))) (hzl : ns.length ≤ 90) (hns : ∀ n ∈ ns, n ∈ codesL) (hwl : Rd g (.ref wl) (.list (dI (wI ws)))) (hzw : ws.length ≤ 100) (hws : ws.Pairwise (· < ·)) (hl : LangL l b) {R : Result → Shared → Prop}
    (h : ∀ g' s', Aft s g [] g' [] s' → R (.ok (.ret (.bool true))) s') :
    codeAny (model prog w) A (.call (.ref X.right) ⟨[.ref tr, .ref xd, .ref tl, .ref wl, .str l tb], []⟩) R s := by
  have hn0 : ∀ n ∈ ns, 0 ≤ n := fun n hn => Int.le_of_lt (codes_pos (hns n hn)).1
  refine enter (own := []) (binds := [(Str.ofString "told", .ref tr), (Str.ofString "data", .ref xd), (Str.ofString "text", .ref tl), (Str.ofString "wants", .ref wl), (Str.ofString "language", .str l tb)]) (lm := [(Str.ofString "data", .ref xd), (Str.ofString "text", .ref tl), (Str.ofString "wants", .ref wl)]) X.hright.s G hg (by have := hA.d; omega) (fun _ h => nomatch h) List.nodup_nil (fun _ h => nomatch h) (fun _ _ _ _ _ _ => BindsTo.of_eq rfl) (by decide) ⟨.inr ⟨rfl, rfl⟩, .inl rfl, .inl rfl, .inl rfl, .inr ⟨rfl, rfl⟩, trivial⟩ ⟨rfl, rfl, rfl, trivial⟩ (fun L cdv cs s₁ hz => ?_) rfl rfl rfl
  intro envz Az cz lmz S Qf hFr hFn
  obtain ⟨o1, cs1, rfl, hd1, hz⟩ := zipS hz
  obtain ⟨o2, rfl, hd2⟩ := zip1 hz
  replace hd1 : o1.data = .cell (some (.str l tb)) := hd1
  replace hd2 : o2.data = .cell (some (.ref tr)) := hd2
  have hfr := enter_fresh S rfl
  obtain ⟨g1, le1, S, hc1⟩ := S.cell hd1 (hfr _ (.head _))
  obtain ⟨g2, le2, S, hc2⟩ := S.cell hd2 (hfr _ (.tail _ (.head _)))
  replace hc1 := hc1.keeps le2
  replace S : St _ L g2 [] _ _ := S
  have le := le1.trans le2
  replace G := G.up le
  replace HT := HT.up le
  replace H := H.up le
  replace hx := hx.up le
  replace hwl := hwl.up le
  (repeat' (walk_at "x"))
  refine c_listR S hx (by rw [len_dI]; omega) fun was g3 s le3 S hwas => ?_
  replace G := G.up le3
  replace HT := HT.up le3
  replace hx := hx.up le3
  replace hc1 := hc1.keeps le3
  replace hc2 := hc2.keeps le3
  (repeat' (walk_at "x"))
  refine lc (cl := [(Str.ofString "told", L + 1), (Str.ofString "language", L + 2)]) rfl rfl (by decide) ?_
  (repeat' (walk_at "x"))
  refine start_rdL hA.h S hx fun I its s hI It hW S => ?_
  refine compT (fun j g₂ own₂ ys => own₂ = [] ∧ RdA g₂ ys (dP ((ns.take j).map fun n => T.full n .uc b)))
    hI (It _) hW S (by rw [len_dI]; omega) (by decide) rfl ⟨rfl, .nil⟩ (fun C hid j v g₂ own₂ ys s hj hP le4 J hl' S Qe Qs hQe hQs => ?_) (fun D k2 g₂ own₂ ys s hD le4 S J hl' => ?_)
  · obtain ⟨rfl, hys⟩ := J
    refine St.letl S ?_
    intro lmz S
    obtain ⟨d, hd, hv⟩ := hP
    rw [List.getElem?_map] at hd
    obtain ⟨n, hn, rfl⟩ := Option.map_eq_some_iff.mp hd
    obtain ⟨t, rfl⟩ := rd_int hv
    replace G := G.up le4
    replace hc1 := hc1.keeps le4
    replace hc2 := hc2.keeps le4
    (repeat' (walk_at "x"))
    refine call_fn S G X.hfull.n X.hfull.k rfl ?_
    (repeat' (walk_at "x"))
    refine kin_and S G (callC (full_spec (m := .uc) X G S.keep ((hA.deeper _).le (by omega)) (HT.up le4) hT hl fun fv g5 s A2 hfv => ?_))
    replace S := S.back0 A2
    (repeat' (walk_at "x"))
    refine ⟨g5, [], _, A2.le, S, rfl, ?_⟩
    rw [take_snoc hn, List.map_append]
    unfold dP
    rw [List.map_append]
    exact (hys.up A2.le).app (.one hfv)
  · obtain ⟨rfl, hys⟩ := J
    refine St.letl S ?_
    intro lmz S
    rw [List.take_of_length_le (by simp)] at hys
    obtain ⟨g5, le5, S, hF'⟩ := S.freeze (pre := []) rfl hD
    replace S : St _ L g5 [] _ _ := S
    have hLg : Rd g5 (.ref D) (.list (dP (ns.map fun n => T.full n .uc b))) := .list (lobj_is hF') (hys.up le5)
    have le45 := le4.trans le5
    replace G := G.up le45
    replace HT := HT.up le45
    replace hx := hx.up le45
    replace hc1 := hc1.keeps le45
    replace hc2 := hc2.keeps le45
    replace H := H.up (le3.trans le45)
    replace hwl := hwl.up (le3.trans le45)
    replace hwas := hwas.up le45
    (repeat' (walk_at "x"))
    refine la (cl := [(Str.ofString "told", L + 1), (Str.ofString "language", L + 2)]) rfl rfl rfl (by decide) ?_
    (repeat' (walk_at "x"))
    refine start_rdL hA.h S hx fun I its s hI It hW S => ?_
    refine compA (fun j g₂ own₂ ys => own₂ = [] ∧ RdA g₂ ys (dP ((ns.take j).map fun n => T.full n .lc b)))
      hI (It _) hW S (by rw [len_dI]; omega) (by decide) rfl rfl rfl ⟨rfl, .nil⟩ (fun C hid j v g₂ own₂ ys s hj hP le4 J hl' S Qe Qs hQe hQs => ?_) (fun D2 k2 g₂ own₂ ys s hD le4 S J hl' => ?_)
    · obtain ⟨rfl, hys⟩ := J
      refine St.letl S ?_
      intro lmz S
      obtain ⟨d, hd, hv⟩ := hP
      rw [List.getElem?_map] at hd
      obtain ⟨n, hn, rfl⟩ := Option.map_eq_some_iff.mp hd
      obtain ⟨t, rfl⟩ := rd_int hv
      have le := le4
      (((try replace G := G.up le); (try replace hc1 := hc1.keeps le); (try replace hc2 := hc2.keeps le); (try replace HT := HT.up le); (try replace H := H.up le); (try replace hx := hx.up le); (try replace hwl := hwl.up le); (try replace hwas := hwas.up le); (try replace hLg := hLg.up le); (try replace hSm := hSm.up le); (try replace hDu := hDu.up le)))
      (repeat' (walk_at "x"))
      refine call_fn S G X.hfull.n X.hfull.k rfl ?_
      (repeat' (walk_at "x"))
      refine kin_and S G (callC (full_spec (m := .lc) X G S.keep ((hA.deeper _).le (by omega)) HT hT hl fun fv g5 s A2 hfv => ?_))
      replace S := S.back0 A2
      (repeat' (walk_at "x"))
      refine ⟨g5, [], _, A2.le, S, rfl, ?_⟩
      rw [take_snoc hn, List.map_append]
      unfold dP
      rw [List.map_append]
      exact (hys.up A2.le).app (.one hfv)
    obtain ⟨rfl, hys⟩ := J
    refine St.letl S ?_
    intro lmz S
    rw [List.take_of_length_le (by simp)] at hys
    obtain ⟨g6, le6, S, hF6⟩ := S.freeze (pre := []) rfl hD
    replace S : St _ L g6 [] _ _ := S
    have hSm : Rd g6 (.ref D2) (.list (dP (ns.map fun n => T.full n .lc b))) := .list (lobj_is hF6) (hys.up le6)
    have le := le4.trans le6
    replace hys := hSm
    clear hSm
    (((try replace G := G.up le); (try replace hc1 := hc1.keeps le); (try replace hc2 := hc2.keeps le); (try replace HT := HT.up le); (try replace H := H.up le); (try replace hx := hx.up le); (try replace hwl := hwl.up le); (try replace hwas := hwas.up le); (try replace hLg := hLg.up le); (try replace hSm := hSm.up le); (try replace hDu := hDu.up le)))
    have hSm := hys
    (repeat' (walk_at "x"))
    refine call_fn S G X.hupper.n X.hupper.k rfl ?_
    (repeat' (walk_at "x"))
    refine kin_and S G (callC (upper_spec X Y G S.keep ((hA.deeper _).le (by omega)) H hT hx (by omega) hn0 hl.ok fun r ga s Aa hr => ?_))
    replace S := S.back0 Aa
    have le := Aa.le
    (((try replace G := G.up le); (try replace hc1 := hc1.keeps le); (try replace hc2 := hc2.keeps le); (try replace HT := HT.up le); (try replace H := H.up le); (try replace hx := hx.up le); (try replace hwl := hwl.up le); (try replace hwas := hwas.up le); (try replace hLg := hLg.up le); (try replace hSm := hSm.up le); (try replace hDu := hDu.up le)))
    (repeat' (walk_at "x"))
    refine call_fn S G X.hjoined.n X.hjoined.k rfl ?_
    (repeat' (walk_at "x"))
    refine kin_and S G (callC (joined_spec X G S.keep ((hA.deeper _).le (by omega)) hLg (by rw [List.length_map]; omega) (fun p hp => by
      obtain ⟨n, _, rfl⟩ := List.mem_map.mp hp
      exact full_len hT n _ b) fun q gb s Ab hq => ?_))
    replace S := S.back0 Ab
    have le := Ab.le
    (((try replace G := G.up le); (try replace hc1 := hc1.keeps le); (try replace hc2 := hc2.keeps le); (try replace HT := HT.up le); (try replace H := H.up le); (try replace hx := hx.up le); (try replace hwl := hwl.up le); (try replace hwas := hwas.up le); (try replace hLg := hLg.up le); (try replace hSm := hSm.up le); (try replace hDu := hDu.up le)))
    replace hr := hr.up le
    refine ne_rd S hr hq ((Fine.ints (n := 0) _).shaped (by decide)) ((Fine.ints (n := 0) _).shaped (by decide)) (hA.deeper _) (by omega) ?_
    (repeat' (walk_at "x"))
    refine ite_nt (eqv_refl (Fine.ints (n := 0) _).1) ?_
    (repeat' (walk_at "x"))
    refine call_fn S G X.hlower.n X.hlower.k rfl ?_
    (repeat' (walk_at "x"))
    refine kin_and S G (callC (lower_spec X Y G S.keep ((hA.deeper _).le (by omega)) H hT hx (by omega) hn0 hl.ok fun r ga s Aa hr => ?_))
    replace S := S.back0 Aa
    have le := Aa.le
    (((try replace G := G.up le); (try replace hc1 := hc1.keeps le); (try replace hc2 := hc2.keeps le); (try replace HT := HT.up le); (try replace H := H.up le); (try replace hx := hx.up le); (try replace hwl := hwl.up le); (try replace hwas := hwas.up le); (try replace hLg := hLg.up le); (try replace hSm := hSm.up le); (try replace hDu := hDu.up le)))
    (repeat' (walk_at "x"))
    refine call_fn S G X.hjoined.n X.hjoined.k rfl ?_
    (repeat' (walk_at "x"))
    refine kin_and S G (callC (joined_spec X G S.keep ((hA.deeper _).le (by omega)) hSm (by rw [List.length_map]; omega) (fun p hp => by
      obtain ⟨n, _, rfl⟩ := List.mem_map.mp hp
      exact full_len hT n _ b) fun q gb s Ab hq => ?_))
    replace S := S.back0 Ab
    have le := Ab.le
    (((try replace G := G.up le); (try replace hc1 := hc1.keeps le); (try replace hc2 := hc2.keeps le); (try replace HT := HT.up le); (try replace H := H.up le); (try replace hx := hx.up le); (try replace hwl := hwl.up le); (try replace hwas := hwas.up le); (try replace hLg := hLg.up le); (try replace hSm := hSm.up le); (try replace hDu := hDu.up le)))
    replace hr := hr.up le
    refine ne_rd S hr hq ((Fine.ints (n := 0) _).shaped (by decide)) ((Fine.ints (n := 0) _).shaped (by decide)) (hA.deeper _) (by omega) ?_
    (repeat' (walk_at "x"))
    refine ite_nt (eqv_refl (Fine.ints (n := 0) _).1) ?_
    (repeat' (walk_at "x"))
    refine call_fn S G X.huppcs.n X.huppcs.k rfl ?_
    (repeat' (walk_at "x"))
    refine kin_and S G (callC (uppcs_spec X Y G S.keep ((hA.deeper _).le (by omega)) H hT hx (by omega) hn0 hl.ok fun r ga s Aa hr => ?_))
    replace S := S.back0 Aa
    have le := Aa.le
    (((try replace G := G.up le); (try replace hc1 := hc1.keeps le); (try replace hc2 := hc2.keeps le); (try replace HT := HT.up le); (try replace H := H.up le); (try replace hx := hx.up le); (try replace hwl := hwl.up le); (try replace hwas := hwas.up le); (try replace hLg := hLg.up le); (try replace hSm := hSm.up le); (try replace hDu := hDu.up le)))
    (repeat' (walk_at "x"))
    refine c_listR S hr (by simp [dP]; omega) fun q gb s le S hq => ?_
    (((try replace G := G.up le); (try replace hc1 := hc1.keeps le); (try replace hc2 := hc2.keeps le); (try replace HT := HT.up le); (try replace H := H.up le); (try replace hx := hx.up le); (try replace hwl := hwl.up le); (try replace hwas := hwas.up le); (try replace hLg := hLg.up le); (try replace hSm := hSm.up le); (try replace hDu := hDu.up le)))
    (repeat' (walk_at "x"))
    refine ne_rd S hq hLg ((Fine.pieces (n := 0) _).shaped (by decide)) ((Fine.pieces (n := 0) _).shaped (by decide)) (hA.deeper _) (by omega) ?_
    (repeat' (walk_at "x"))
    refine ite_nt (eqv_refl (Fine.pieces (n := 0) _).1) ?_
    (repeat' (walk_at "x"))
    refine call_fn S G X.hlopcs.n X.hlopcs.k rfl ?_
    (repeat' (walk_at "x"))
    refine kin_and S G (callC (lopcs_spec X Y G S.keep ((hA.deeper _).le (by omega)) H hT hx (by omega) hn0 hl.ok fun r ga s Aa hr => ?_))
    replace S := S.back0 Aa
    have le := Aa.le
    (((try replace G := G.up le); (try replace hc1 := hc1.keeps le); (try replace hc2 := hc2.keeps le); (try replace HT := HT.up le); (try replace H := H.up le); (try replace hx := hx.up le); (try replace hwl := hwl.up le); (try replace hwas := hwas.up le); (try replace hLg := hLg.up le); (try replace hSm := hSm.up le); (try replace hDu := hDu.up le)))
    (repeat' (walk_at "x"))
    refine c_listR S hr (by simp [dP]; omega) fun q gb s le S hq => ?_
    (((try replace G := G.up le); (try replace hc1 := hc1.keeps le); (try replace hc2 := hc2.keeps le); (try replace HT := HT.up le); (try replace H := H.up le); (try replace hx := hx.up le); (try replace hwl := hwl.up le); (try replace hwas := hwas.up le); (try replace hLg := hLg.up le); (try replace hSm := hSm.up le); (try replace hDu := hDu.up le)))
    (repeat' (walk_at "x"))
    refine ne_rd S hq hSm ((Fine.pieces (n := 0) _).shaped (by decide)) ((Fine.pieces (n := 0) _).shaped (by decide)) (hA.deeper _) (by omega) ?_
    (repeat' (walk_at "x"))
    refine ite_nt (eqv_refl (Fine.pieces (n := 0) _).1) ?_
    (repeat' (walk_at "x"))
    refine call_fn S G X.hltitle.n X.hltitle.k rfl ?_
    (repeat' (walk_at "x"))
    refine kin_and S G (callC (ltitle_spec X G S.keep ((hA.deeper _).le (by omega)) HT hT hx (by omega) hns hwl hl fun Du ga s Aa hDu => ?_))
    replace S := S.back0 Aa
    have le := Aa.le
    (((try replace G := G.up le); (try replace hc1 := hc1.keeps le); (try replace hc2 := hc2.keeps le); (try replace HT := HT.up le); (try replace H := H.up le); (try replace hx := hx.up le); (try replace hwl := hwl.up le); (try replace hwas := hwas.up le); (try replace hLg := hLg.up le); (try replace hSm := hSm.up le); (try replace hDu := hDu.up le)))
    (repeat' (walk_at "x"))
    refine call_fn S G X.htipcs.n X.htipcs.k rfl ?_
    (repeat' (walk_at "x"))
    refine kin_and S G (callC (tipcs_spec X Y G S.keep ((hA.deeper _).le (by omega)) H hT hx (by omega) hn0 hwl hzw hws hl.ok fun r ga s Aa hr => ?_))
    replace S := S.back0 Aa
    have le := Aa.le
    (((try replace G := G.up le); (try replace hc1 := hc1.keeps le); (try replace hc2 := hc2.keeps le); (try replace HT := HT.up le); (try replace H := H.up le); (try replace hx := hx.up le); (try replace hwl := hwl.up le); (try replace hwas := hwas.up le); (try replace hLg := hLg.up le); (try replace hSm := hSm.up le); (try replace hDu := hDu.up le)))
    (repeat' (walk_at "x"))
    refine c_listR S hr (by simp [dP, titl]; omega) fun q gb s le S hq => ?_
    (((try replace G := G.up le); (try replace hc1 := hc1.keeps le); (try replace hc2 := hc2.keeps le); (try replace HT := HT.up le); (try replace H := H.up le); (try replace hx := hx.up le); (try replace hwl := hwl.up le); (try replace hwas := hwas.up le); (try replace hLg := hLg.up le); (try replace hSm := hSm.up le); (try replace hDu := hDu.up le)))
    (repeat' (walk_at "x"))
    refine ne_rd S hq hDu ((Fine.pieces (n := 0) _).shaped (by decide)) ((Fine.pieces (n := 0) _).shaped (by decide)) (hA.deeper _) (by omega) ?_
    (repeat' (walk_at "x"))
    refine ite_nt (eqv_refl (Fine.pieces (n := 0) _).1) ?_
    (repeat' (walk_at "x"))
    refine call_fn S G X.htitle.n X.htitle.k rfl ?_
    (repeat' (walk_at "x"))
    refine kin_and S G (callC (title_spec X Y G S.keep ((hA.deeper _).le (by omega)) H hT hx (by omega) hn0 hwl hzw hws hl.ok fun r ga s Aa hr => ?_))
    replace S := S.back0 Aa
    have le := Aa.le
    (((try replace G := G.up le); (try replace hc1 := hc1.keeps le); (try replace hc2 := hc2.keeps le); (try replace HT := HT.up le); (try replace H := H.up le); (try replace hx := hx.up le); (try replace hwl := hwl.up le); (try replace hwas := hwas.up le); (try replace hLg := hLg.up le); (try replace hSm := hSm.up le); (try replace hDu := hDu.up le)))
    (repeat' (walk_at "x"))
    refine call_fn S G X.hjoined.n X.hjoined.k rfl ?_
    (repeat' (walk_at "x"))
    refine kin_and S G (callC (joined_spec X G S.keep ((hA.deeper _).le (by omega)) hDu (by simp [titl]; omega) (fun p hp => titl_len hT p hp) fun q gb s Ab hq => ?_))
    replace S := S.back0 Ab
    have le := Ab.le
    (((try replace G := G.up le); (try replace hc1 := hc1.keeps le); (try replace hc2 := hc2.keeps le); (try replace HT := HT.up le); (try replace H := H.up le); (try replace hx := hx.up le); (try replace hwl := hwl.up le); (try replace hwas := hwas.up le); (try replace hLg := hLg.up le); (try replace hSm := hSm.up le); (try replace hDu := hDu.up le)))
    replace hr := hr.up le
    refine ne_rd S hr hq ((Fine.ints (n := 0) _).shaped (by decide)) ((Fine.ints (n := 0) _).shaped (by decide)) (hA.deeper _) (by omega) ?_
    (repeat' (walk_at "x"))
    refine ite_nt (eqv_refl (Fine.ints (n := 0) _).1) ?_
    (repeat' (walk_at "x"))
    refine ne_rd S hx hwas ((Fine.ints (n := 0) _).shaped (by decide)) ((Fine.ints (n := 0) _).shaped (by decide)) (hA.deeper _) (by omega) ?_
    (repeat' (walk_at "x"))
    refine ite_nt (eqv_refl (Fine.ints (n := 0) _).1) ?_
    (repeat' (walk_at "x"))
    refine lc (cl := []) rfl rfl (by decide) ?_
    (repeat' (walk_at "x"))
    refine call_fn S G X.hedits.n X.hedits.k rfl ?_
    (repeat' (walk_at "x"))
    have hpl : ∀ p ∈ ns.map fun n => T.full n .uc b, p.length ≤ 10 := fun p hp => by
      obtain ⟨n, _, rfl⟩ := List.mem_map.mp hp
      exact full_len hT n _ b
    refine kin_and S G (callC (edits_spec X G S.keep ((hA.deeper _).le (by omega)) hx (by omega) hLg (by simp) hpl fun r ga s Aa hr => ?_))
    replace S := S.back0 Aa
    have le := Aa.le
    (((try replace G := G.up le); (try replace hc1 := hc1.keeps le); (try replace hc2 := hc2.keeps le); (try replace HT := HT.up le); (try replace H := H.up le); (try replace hx := hx.up le); (try replace hwl := hwl.up le); (try replace hwas := hwas.up le); (try replace hLg := hLg.up le); (try replace hSm := hSm.up le); (try replace hDu := hDu.up le)))
    (repeat' (walk_at "x"))
    generalize hqs : edGo ns 0 (ns.map fun n => T.full n .uc b) ([], 0) = qs at hr
    have hqz : qs.length ≤ 1000 := by rw [← hqs]; exact edGo_len _ _ _ _ (by simp; omega)
    refine start_rdL hA.h S hr fun I its s hI It hW S => ?_
    refine compT (fun j g₂ own₂ ys => own₂ = [] ∧ RdA g₂ ys ((qs.take j).map dQ))
      hI (It _) hW S (by rw [List.length_map]; omega) (by decide) rfl ⟨rfl, .nil⟩ (fun C hid j v g₂ own₂ ys s hj hP le4 J hl' S Qe Qs hQe hQs => ?_) (fun D3 k3 g₂ own₂ ys s hD3 le4 S J hl' => ?_)
    · obtain ⟨rfl, hys⟩ := J
      refine St.letl S ?_
      intro lmz S
      obtain ⟨d, hd, hv⟩ := hP
      rw [List.getElem?_map] at hd
      obtain ⟨q0, hn, rfl⟩ := Option.map_eq_some_iff.mp hd
      have hv2 := hv.up le4
      obtain ⟨TT, tvs, rfl, hTT, htr⟩ := rd_tuple hv2
      have le := le4
      (((try replace G := G.up le); (try replace hc1 := hc1.keeps le); (try replace hc2 := hc2.keeps le); (try replace HT := HT.up le); (try replace H := H.up le); (try replace hx := hx.up le); (try replace hwl := hwl.up le); (try replace hwas := hwas.up le); (try replace hLg := hLg.up le); (try replace hSm := hSm.up le); (try replace hDu := hDu.up le)))
      (repeat' (walk_at "x"))
      refine call_tuple_same (isTuple_up hTT S.keep) ?_
      (repeat' (walk_at "x"))
      refine ⟨_, [], _, Le.refl _, S, rfl, ?_⟩
      rw [take_snoc hn, List.map_append]
      exact hys.app (.one hv2)
    · obtain ⟨rfl, hys⟩ := J
      refine St.letl S ?_
      intro lmz S
      rw [List.take_of_length_le (by simp)] at hys
      obtain ⟨g9, le9, S, hF9⟩ := S.freeze (pre := []) rfl hD3
      replace S : St _ L g9 [] _ _ := S
      have hE : Rd g9 (.ref D3) (.list (qs.map dQ)) := .list (lobj_is hF9) (hys.up le9)
      have le := le4.trans le9
      (((try replace G := G.up le); (try replace hc1 := hc1.keeps le); (try replace hc2 := hc2.keeps le); (try replace HT := HT.up le); (try replace H := H.up le); (try replace hx := hx.up le); (try replace hwl := hwl.up le); (try replace hwas := hwas.up le); (try replace hLg := hLg.up le); (try replace hSm := hSm.up le); (try replace hDu := hDu.up le)))
      (repeat' (walk_at "x"))
      refine call_fn S G X.hstretch.n X.hstretch.k rfl ?_
      (repeat' (walk_at "x"))
      refine kin_and S G (callC (stretch_spec X G S.keep ((hA.deeper _).le (by omega)) hx (by omega) hLg (by simp) hpl fun r2 gb s Ab hr2 => ?_))
      replace S := S.back0 Ab
      rw [hqs] at hr2
      refine eq_rd S (hE.up Ab.le) hr2 ((Fine.dQs (n := 0) _).shaped (by decide)) ((Fine.dQs (n := 0) _).shaped (by decide)) (hA.deeper _) (by omega) ?_
      rw [eqv_refl (Fine.dQs (n := 0) _).1]
      (repeat' (walk_at "x"))
      exact h gb s S.aft

end
end Mine
end
section
set_option maxRecDepth 100000
set_option maxHeartbeats 1000000
namespace Mine
section
variable {prog : Program} {w : World} {A : Around} {s : Shared} {K : Frag} {g : Heap}
theorem St.nilR {c : Cs} {L : Addr} {own : List (Addr × Obj)} {lm : List (Str × Value)} (S : St c L g (own ++ []) lm s) : St c L g own lm s := S.drop (by simp) fun b hb => by simpa using S.wo b hb
theorem St.sw {c : Cs} {L : Addr} {a b : List (Addr × Obj)} {lm : List (Str × Value)} (S : St c L g (a ++ b) lm s) : St c L g (b ++ a) lm s := S.perm List.perm_append_comm
theorem St.l2 {c : Cs} {L : Addr} {a a' b : List (Addr × Obj)} {lm : List (Str × Value)} (S : St c L g (a ++ (a' ++ b)) lm s) : St c L g (b ++ (a ++ a')) lm s := S.perm (by rw [← List.append_assoc a a' b]; exact List.perm_append_comm)
theorem St.r2 {c : Cs} {L : Addr} {a a' b : List (Addr × Obj)} {lm : List (Str × Value)} (S : St c L g (b ++ (a ++ a')) lm s) : St c L g (a ++ (a' ++ b)) lm s := S.perm (by rw [← List.append_assoc a a' b]; exact List.perm_append_comm)
/-- the law answers True -/
theorem law_spec (X : Fns K) (Y : Cls K) (G : Gl K g) (hg : Le g s.heap) (hA : Rm A 25) {fl : Addr} (hf : Fn K "law" fl 99) {sl : Addr} {ns : List Int} (hx : Rd g (.ref sl) (.list (dI ns))) (hzn : ns.length ≤ 100) {R : Result → Shared → Prop}
    (h : ∀ g' s', Aft s g [] g' [] s' → R (.ok (.ret (.bool true))) s') :
    codeAny (model prog w) A (.call (.ref fl) ⟨[.ref sl], []⟩) R s := by
  refine enter (own := []) (binds := [(Str.ofString "script", .ref sl)]) (lm := [(Str.ofString "script", .ref sl)]) hf.s G hg (by have := hA.d; omega) (fun _ h => nomatch h) List.nodup_nil (fun _ h => nomatch h) (fun _ _ _ _ _ _ => BindsTo.of_eq rfl) (by decide) ⟨.inl rfl, trivial⟩ ⟨rfl, trivial⟩ (fun L cdv cs s₁ hz => ?_) rfl rfl rfl
  intro envz Az cz lmz S Qf hFr hFn
  obtain ⟨o3, cs3, rfl, hd3, hz⟩ := zipS hz
  obtain ⟨o2, cs2, rfl, hd2, hz⟩ := zipS hz
  obtain ⟨o1, rfl, hd1⟩ := zip1 hz
  replace hd3 : o3.data = .cell none := hd3
  replace hd2 : o2.data = .cell none := hd2
  replace hd1 : o1.data = .cell none := hd1
  have hfr := enter_fresh S rfl
  replace S : St _ L g [(L + 3, o3), (L + 2, o2), (L + 1, o1)] _ s₁ := S
  (repeat' (walk_at "x"))
  refine call_fn S G X.hdeck.n X.hdeck.k rfl ?_
  (repeat' (walk_at "x"))
  refine kin_and S G (callC (deck_spec X G S.keep ((hA.deeper _).le (by omega)) hx (by omega) fun d dk g1 s A1 D => ?_))
  replace S : St _ L g1 (dk ++ [(L + 3, o3), (L + 2, o2), (L + 1, o1)]) _ _ := S.back (ownc := []) A1
  have le := A1.le
  (((try replace G := G.up le); (try replace hc1 := hc1.keeps le); (try replace hc2 := hc2.keeps le); (try replace HT := HT.up le); (try replace H := H.up le)))
  (repeat' (walk_at "x"))
  refine s_cell (pre := dk ++ [(L + 3, o3), (L + 2, o2)]) (post := []) S (by simp) rfl hd1 rfl fun o1 s hd1 S => ?_
  obtain ⟨g2, le, S, hF1⟩ := S.freeze rfl (hfr _ (by simp))
  have hc1 : g2.IsCell (L + 1) (some (.ref d)) := ⟨o1, hF1, hd1⟩
  replace S := S.nilR
  replace G := G.up le
  (repeat' (walk_at "x"))
  refine call_fn S G X.htold.n X.htold.k rfl ?_
  (repeat' (walk_at "x"))
  refine kin_and S G (callC (told_spec X G S.keep ((hA.deeper _).le (by omega)) D (by decide) S.pow S.pnd S.poff fun tr T dk g3 s u1 A3 D hu1 hT HT => ?_))
  replace S := S.back A3
  have le := A3.le
  replace G := G.up le
  replace hc1 := hc1.keeps le
  (repeat' (walk_at "x"))
  refine s_cell (pre := dk ++ [(L + 3, o3)]) (post := []) S (by simp) rfl hd2 rfl fun o2 s hd2 S => ?_
  obtain ⟨g4, le, S, hF2⟩ := S.freeze rfl (hfr _ (by simp))
  have hc2 : g4.IsCell (L + 2) (some (.ref tr)) := ⟨o2, hF2, hd2⟩
  replace S := S.nilR
  replace G := G.up le
  replace hc1 := hc1.keeps le
  replace HT := HT.up le
  (repeat' (walk_at "x"))
  refine call_fn S G X.hdata.n X.hdata.k rfl ?_
  (repeat' (walk_at "x"))
  refine kin_and S G (callC (ldata_spec X Y G S.keep ((hA.deeper _).le (by omega)) HT hT fun xd g5 s A5 H => ?_))
  replace S := S.back0 A5
  have le := A5.le
  replace G := G.up le
  replace hc1 := hc1.keeps le
  replace hc2 := hc2.keeps le
  replace HT := HT.up le
  (repeat' (walk_at "x"))
  refine call_fn0 S G X.hcodes.n X.hcodes.k rfl (callC (codes_spec X G S.keep ((hA.deeper _).le (by omega)) fun cr g6 s A6 hcr => ?_))
  replace S := S.back0 A6
  have le := A6.le
  (((try replace G := G.up le); (try replace hc1 := hc1.keeps le); (try replace hc2 := hc2.keeps le); (try replace HT := HT.up le); (try replace H := H.up le)))
  (repeat' (walk_at "x"))
  refine mk_list (ds := [.int 122]) S (.one (.int _ _)) (Nat.le_of_ble_eq_true rfl) fun L8 g7 s le S hL8 => ?_
  (((try replace G := G.up le); (try replace hc1 := hc1.keeps le); (try replace hc2 := hc2.keeps le); (try replace HT := HT.up le); (try replace H := H.up le)))
  refine addR S (hcr.up le) hL8 (by decide) (by decide) fun B g8 s le S hB => ?_
  (((try replace G := G.up le); (try replace hc1 := hc1.keeps le); (try replace hc2 := hc2.keeps le); (try replace HT := HT.up le); (try replace H := H.up le)))
  refine start_rdL hA.h S hB fun I its s hI It hW S => ?_
  refine forI (fun i g₁ own₁ lm₁ => ∃ o v0, own₁ = dk ++ [(L + 3, o)] ∧ o.data = .cell v0 ∧ lm₁ = [(Str.ofString "data", .ref xd)])
    hI (It _) hW S ⟨o3, _, rfl, hd3, rfl⟩ ⟨rfl, trivial⟩ (fun i v g₁ own₁ lm₁ s its hi hP le J S Qn hQn hQc hQb hQr => ?_) (fun gE own₁ lm₁ s le S J => ?_)
  · obtain ⟨o, v0, rfl, hd, rfl⟩ := J
    refine St.letl S ?_
    intro lmz S
    obtain ⟨dd, hdd, hv⟩ := hP
    obtain ⟨n, rfl, hn0⟩ : ∃ n, dd = .int n ∧ 0 ≤ n := by
      have hm := List.mem_of_getElem? hdd
      rcases List.mem_append.mp hm with hm | hm
      · obtain ⟨n, hn, rfl⟩ := List.mem_map.mp hm
        exact ⟨n, rfl, Int.le_of_lt (codes_pos hn).1⟩
      · exact ⟨122, List.mem_singleton.mp hm, by decide⟩
    obtain ⟨tn, rfl⟩ := rd_int hv
    (((try replace G := G.up le); (try replace hc1 := hc1.keeps le); (try replace hc2 := hc2.keeps le); (try replace HT := HT.up le); (try replace H := H.up le)))
    (repeat' (walk_at "x"))
    refine s_cell (pre := its ++ dk) (post := []) S (by simp) rfl hd rfl fun o s hd S => ?_
    replace S := S.unassoc
    (repeat' (walk_at "x"))
    refine call_fn S G X.hsupper.n X.hsupper.k rfl ?_
    (repeat' (walk_at "x"))
    refine n_cell S rfl (by simp) hd rfl ?_
    (repeat' (walk_at "x"))
    refine kin_and S G (callC (supper_spec X Y G S.keep ((hA.deeper _).le (by omega)) H hn0 fun t1 g9 s A9 => ?_))
    replace S := S.back0 A9
    have le9 := A9.le
    have le := le9
    (((try replace G := G.up le); (try replace hc1 := hc1.keeps le); (try replace hc2 := hc2.keeps le); (try replace HT := HT.up le); (try replace H := H.up le)))
    (repeat' (walk_at "x"))
    refine call_fn S G X.hslower.n X.hslower.k rfl ?_
    (repeat' (walk_at "x"))
    refine n_cell S rfl (by simp) hd rfl ?_
    (repeat' (walk_at "x"))
    refine kin_and S G (callC (slower_spec X Y G S.keep ((hA.deeper _).le (by omega)) H hn0 fun t2 g10 s A10 => ?_))
    replace S := S.back0 A10
    have le10 := A10.le
    have le := le10
    (((try replace G := G.up le); (try replace hc1 := hc1.keeps le); (try replace hc2 := hc2.keeps le); (try replace HT := HT.up le); (try replace H := H.up le)))
    (repeat' (walk_at "x"))
    refine call_fn S G X.hstitle.n X.hstitle.k rfl ?_
    (repeat' (walk_at "x"))
    refine n_cell S rfl (by simp) hd rfl ?_
    (repeat' (walk_at "x"))
    refine kin_and S G (callC (stitle_spec X Y G S.keep ((hA.deeper _).le (by omega)) H hn0 fun t3 g11 s A11 => ?_))
    replace S := S.back0 A11
    have le11 := A11.le
    have le := le11
    (((try replace G := G.up le); (try replace hc1 := hc1.keeps le); (try replace hc2 := hc2.keeps le); (try replace HT := HT.up le); (try replace H := H.up le)))
    (repeat' (walk_at "x"))
    refine mk_list (ds := dI (nms3.map (T.simp n))) S (.cons (.int _ _) (.cons (.int _ _) (.one (.int _ _)))) (Nat.le_of_ble_eq_true rfl) fun FL g12 s le12 S hFL => ?_
    have le := le12
    (((try replace G := G.up le); (try replace hc1 := hc1.keeps le); (try replace hc2 := hc2.keeps le); (try replace HT := HT.up le); (try replace H := H.up le)))
    (repeat' (walk_at "x"))
    refine lc (cl := [(Str.ofString "told", L + 2), (Str.ofString "code", L + 3)]) rfl rfl (by decide) ?_
    (repeat' (walk_at "x"))
    refine mk_tuple (ds := nms3.map fun m => PyData.str m.s) S (.cons (.str _ _) (.cons (.str _ _) (.one (.str _ _)))) (Nat.le_of_ble_eq_true rfl) fun NT g13 s le13 S hNT => ?_
    have le := le13
    (((try replace G := G.up le); (try replace hc1 := hc1.keeps le); (try replace hc2 := hc2.keeps le); (try replace HT := HT.up le); (try replace H := H.up le)))
    refine start_rdT hA.h S hNT fun I2 its2 s hI2 It2 hW2 S => ?_
    refine compT (fun j g₂ own₂ ys => own₂ = its ++ (dk ++ [(L + 3, o)]) ∧ RdA g₂ ys (dI ((nms3.take j).map (T.simp n))))
      hI2 (It2 _) hW2 S (by decide) (by decide) rfl ⟨rfl, .nil⟩ (fun C hid j v g₂ own₂ ys s hj hP le4 J hl' S Qe Qs hQe hQs => ?_) (fun D2 k2 g₂ own₂ ys s hD2 le4 S J hl' => ?_)
    · obtain ⟨rfl, hys⟩ := J
      refine St.letl S ?_
      intro lmz S
      obtain ⟨d2, hd2', hv⟩ := hP
      rw [List.getElem?_map] at hd2'
      obtain ⟨m, hm, rfl⟩ := Option.map_eq_some_iff.mp hd2'
      obtain ⟨t, rfl⟩ := rd_str hv
      have le := le4
      (((try replace G := G.up le); (try replace hc1 := hc1.keeps le); (try replace hc2 := hc2.keeps le); (try replace HT := HT.up le); (try replace H := H.up le)))
      (repeat' (walk_at "x"))
      refine call_fn S G X.hsimple.n X.hsimple.k rfl ?_
      (repeat' (walk_at "x"))
      refine n_cell S rfl (by simp) hd rfl ?_
      (repeat' (walk_at "x"))
      refine kin_and S G (callC (simple_spec X G S.keep ((hA.deeper _).le (by omega)) HT hT fun t5 g5 s A2 => ?_))
      replace S := S.back0 A2
      (repeat' (walk_at "x"))
      refine ⟨g5, _, _, A2.le, S, rfl, ?_⟩
      rw [take_snoc hm, List.map_append]
      exact (hys.up A2.le).snocI (.int _ _)
    · obtain ⟨rfl, hys⟩ := J
      refine St.letl S ?_
      intro lmz S
      rw [List.take_of_length_le (by decide)] at hys
      obtain ⟨g14, le14, S, hF14⟩ := S.freeze (pre := []) rfl hD2
      replace S : St _ L g14 (its ++ (dk ++ [(L + 3, o)])) _ _ := S
      have hSm : Rd g14 (.ref D2) (.list (dI (nms3.map (T.simp n)))) := .list (lobj_is hF14) (hys.up le14)
      have le := le4.trans le14
      (((try replace G := G.up le); (try replace hc1 := hc1.keeps le); (try replace hc2 := hc2.keeps le); (try replace HT := HT.up le); (try replace H := H.up le)))
      replace hFL := (hFL.up le13).up le
      (repeat' (walk_at "x"))
      refine ne_rd S hFL hSm ((Fine.ints (n := 0) _).shaped (by decide)) ((Fine.ints (n := 0) _).shaped (by decide)) (hA.deeper _) (by omega) ?_
      (repeat' (walk_at "x"))
      refine ite_nt (eqv_refl (Fine.ints (n := 0) _).1) ?_
      (repeat' (walk_at "x"))
      (repeat' (walk_at "x"))
      exact forEnd (own₂ := dk ++ [(L + 3, o)]) S ((((le9.trans le10).trans le11).trans le12).trans (le13.trans le)) ⟨o, _, rfl, hd, rfl⟩ ⟨rfl, trivial⟩
  · obtain ⟨o, v0, rfl, hd, rfl⟩ := J
    refine St.letl S ?_
    intro lmz S
    (((try replace G := G.up le); (try replace hc1 := hc1.keeps le); (try replace hc2 := hc2.keeps le); (try replace HT := HT.up le); (try replace H := H.up le)))
    (repeat' (walk_at "x"))
    replace S : St _ L gE dk _ s := S.drop (List.sublist_append_left _ _) (fun _ hb => nomatch hb)
    refine range1_it hA.h S ⟨by decide, by decide⟩ fun I its s hI It hW S => ?_
    refine forI (fun i g₁ own₁ lm₁ => ∃ u', Dk prog w own₁ d u' ∧ u' ≤ 200 + 20 * i ∧ lm₁ = [(Str.ofString "data", .ref xd)])
      hI (It _) hW S ⟨u1, D, by omega, rfl⟩ ⟨rfl, trivial⟩ (fun i v g₁ dk lm₁ s its hi hP le J S Qn hQn hQc hQb hQr => ?_) (fun gE own₁ lm₁ s le S J => ?_)
    · obtain ⟨u2, D, hu2, rfl⟩ := J
      refine St.letl S ?_
      intro lmz S
      obtain ⟨ti, rfl⟩ := hP
      have hi2 : i < 2 := hi
      (((try replace G := G.up le); (try replace hc1 := hc1.keeps le); (try replace hc2 := hc2.keeps le); (try replace HT := HT.up le); (try replace H := H.up le)))
      (repeat' (walk_at "x"))
      refine la (cl := [(Str.ofString "deck", L + 1)]) rfl rfl rfl (by decide) ?_
      (repeat' (walk_at "x"))
      refine call_fn S G X.hdraw.n X.hdraw.k rfl ?_
      (repeat' (walk_at "x"))
      replace S := St.sw S
      refine kin_and S G (callC (draw_spec X G S.keep ((hA.deeper _).le (by omega)) D (by omega) (by decide) S.pow S.pnd S.poff fun r1 dk g2 s t' A2 D r0 r6 => ?_))
      replace S := St.sw (S.back A2)
      have le2 := A2.le
      have le := le2
      (((try replace G := G.up le); (try replace hc1 := hc1.keeps le); (try replace hc2 := hc2.keeps le); (try replace HT := HT.up le); (try replace H := H.up le)))
      (repeat' (walk_at "x"))
      refine range1_it hA.h S ⟨r0, by omega⟩ fun I2 its2 s hI2 It2 hW2 S => ?_
      refine compA (fun j g₂ own₂ ys => ∃ dk u' ms, own₂ = its ++ dk ∧ Dk prog w dk d u' ∧ u' ≤ 201 + 20 * i + j ∧ RdA g₂ ys (dI ms) ∧ (∀ n ∈ ms, n ∈ codesL) ∧ ms.length = j)
        hI2 (It2 _) hW2 S (by omega) (by decide) rfl rfl rfl ⟨dk, u2 + 1, [], rfl, D, by omega, .nil, (fun _ h => nomatch h), rfl⟩ (fun C hid j v g₃ own₂ ys s hj hP le4 J hl' S Qe Qs hQe hQs => ?_) (fun D2 k2 g₃ own₂ ys s hD2 le4 S J hl' => ?_)
      · obtain ⟨dk, u3, ms, rfl, D, hu3, hys, hms, hml⟩ := J
        refine St.letl S ?_
        intro lmz S
        obtain ⟨tj, rfl⟩ := hP
        have le := le4
        (((try replace G := G.up le); (try replace hc1 := hc1.keeps le); (try replace hc2 := hc2.keeps le); (try replace HT := HT.up le); (try replace H := H.up le)))
        (repeat' (walk_at "x"))
        refine call_fn S G X.hpick.n X.hpick.k rfl ?_
        (repeat' (walk_at "x"))
        refine call_fn0 S G X.hcodes.n X.hcodes.k rfl (callC (codes_spec X G S.keep ((hA.deeper _).le (by omega)) fun cr g6 s A6 hcr => ?_))
        replace S := S.back0 A6
        have le6 := A6.le
        have le := le6
        (((try replace G := G.up le); (try replace hc1 := hc1.keeps le); (try replace hc2 := hc2.keeps le); (try replace HT := HT.up le); (try replace H := H.up le)))
        (repeat' (walk_at "x"))
        replace S := St.l2 S
        refine kin_and S G (callC (pick_spec X G S.keep ((hA.deeper _).le (by omega)) D (by omega) hcr (by decide) S.pow S.pnd S.poff fun pv x dk g8 s A8 D hx8 hpv => ?_))
        replace S := St.r2 (S.back A8)
        obtain ⟨n, hn, rfl⟩ := List.mem_map.mp hx8
        (repeat' (walk_at "x"))
        refine ⟨g8, _, _, le6.trans A8.le, S, dk, u3 + 1, ms ++ [n], rfl, D, by omega, (hys.up (le6.trans A8.le)).snocI hpv, fun k hk => ?_, by rw [List.length_append, hml]; rfl⟩
        rcases List.mem_append.mp hk with hk | hk
        · exact hms k hk
        · rw [List.mem_singleton.mp hk]; exact hn
      · obtain ⟨dk, u3, ms, rfl, D, hu3, hys, hms, hml⟩ := J
        refine St.letl S ?_
        intro lmz S
        obtain ⟨g6, le6, S, hF6⟩ := S.freeze (pre := []) rfl hD2
        replace S : St _ L g6 (its ++ dk) _ _ := S
        have htx : Rd g6 (.ref D2) (.list (dI ms)) := .list (lobj_is hF6) (hys.up le6)
        have leA := (le2.trans le4).trans le6
        have le := le4.trans le6
        (((try replace G := G.up le); (try replace hc1 := hc1.keeps le); (try replace hc2 := hc2.keeps le); (try replace HT := HT.up le); (try replace H := H.up le)))
        (repeat' (walk_at "x"))
        refine la (cl := [(Str.ofString "deck", L + 1)]) rfl rfl rfl (by decide) ?_
        (repeat' (walk_at "x"))
        obtain ⟨_, tvs, q1, hL, hr⟩ := rd_list htx
        cases q1
        have hln := hr.length
        rw [len_dI] at hln
        refine len_l S (isList_up hL S.keep) (by rw [List.size_toArray]; omega) fun tt s S => ?_
        (repeat' (walk_at "x"))
        refine range1_it hA.h S (by rw [List.size_toArray]; omega) fun I3 its3 s hI3 It3 hW3 S => ?_
        refine compA (fun j g₂ own₂ ys => ∃ dk u' ws, own₂ = its ++ dk ∧ Dk prog w dk d u' ∧ u' ≤ 210 + 20 * i + j ∧ RdA g₂ ys (dI (wI ws)) ∧ ws.Pairwise (· < ·) ∧ (∀ k ∈ ws, k < j) ∧ ws.length ≤ j)
          hI3 (It3 _) hW3 S (by rw [List.size_toArray]; omega) (by decide) rfl rfl rfl ⟨dk, u3, [], rfl, D, by omega, .nil, .nil, (fun _ h => nomatch h), Nat.le_refl _⟩ (fun C hid j v g₃ own₂ ys s hj hP le4 J hl' S Qe Qs hQe hQs => ?_) (fun D3 k3 g₃ own₂ ys s hD3 le4 S J hl' => ?_)
        · obtain ⟨dk, u4, ws, rfl, D, hu4, hys, hwp, hwk, hwl⟩ := J
          refine St.letl S ?_
          intro lmz S
          obtain ⟨tj, rfl⟩ := hP
          rw [List.size_toArray] at hj
          have le := le4
          (((try replace G := G.up le); (try replace hc1 := hc1.keeps le); (try replace hc2 := hc2.keeps le); (try replace HT := HT.up le); (try replace H := H.up le)))
          (repeat' (walk_at "x"))
          refine call_fn S G X.hdraw.n X.hdraw.k rfl ?_
          (repeat' (walk_at "x"))
          replace S := St.l2 S
          refine kin_and S G (callC (draw_spec X G S.keep ((hA.deeper _).le (by omega)) D (by omega) (by decide) S.pow S.pnd S.poff fun rr dk g8 s t' A8 D _ _ => ?_))
          replace S := St.r2 (S.back A8)
          have le8 := A8.le
          (repeat' (walk_at "x"))
          refine ite_eq (fun hc => ?_) (fun hc => ?_)
          · (repeat' (walk_at "x"))
            (repeat' (walk_at "x"))
            refine ⟨g8, _, _, le8, S, dk, u4 + 1, ws ++ [j], rfl, D, by omega, ?_, ?_, ?_, by rw [List.length_append]; exact Nat.succ_le_succ hwl⟩
            · unfold wI
              rw [List.map_append]
              exact (hys.up le8).snocI (.int _ _)
            · exact List.pairwise_append.mpr ⟨hwp, List.pairwise_singleton _ _, fun a ha b hb => by rw [List.mem_singleton.mp hb]; exact hwk a ha⟩
            · intro k hk
              rcases List.mem_append.mp hk with hk | hk
              · exact Nat.lt_succ_of_lt (hwk k hk)
              · rw [List.mem_singleton.mp hk]; exact Nat.lt_succ_self _
          · (repeat' (walk_at "x"))
            (repeat' (walk_at "x"))
            exact ⟨g8, _, _, le8, S, dk, u4 + 1, ws, rfl, D, by omega, hys.up le8, hwp, fun k hk => Nat.lt_succ_of_lt (hwk k hk), Nat.le_succ_of_le hwl⟩
        · obtain ⟨dk, u4, ws, rfl, D, hu4, hys, hwp, hwk, hwl⟩ := J
          refine St.letl S ?_
          intro lmz S
          rw [List.size_toArray] at hwl hu4
          obtain ⟨g7, le7, S, hF7⟩ := S.freeze (pre := []) rfl hD3
          replace S : St _ L g7 (its ++ dk) _ _ := S
          have hwr : Rd g7 (.ref D3) (.list (dI (wI ws))) := .list (lobj_is hF7) (hys.up le7)
          have le := le4.trans le7
          have leB := leA.trans le
          (((try replace G := G.up le); (try replace hc1 := hc1.keeps le); (try replace hc2 := hc2.keeps le); (try replace HT := HT.up le); (try replace H := H.up le)))
          replace htx := htx.up le
          (repeat' (walk_at "x"))
          refine call_fn S G X.hpick.n X.hpick.k rfl ?_
          (repeat' (walk_at "x"))
          refine mk_list (ds := langs.map PyData.str) S (.cons (.str _ _) (.cons (.str _ _) (.cons (.str _ _) (.cons (.str _ _) (.one (.str _ _)))))) (Nat.le_of_ble_eq_true rfl) fun LL g9 s le9 S hLL => ?_
          have le := le9
          (((try replace G := G.up le); (try replace hc1 := hc1.keeps le); (try replace hc2 := hc2.keeps le); (try replace HT := HT.up le); (try replace H := H.up le)))
          (repeat' (walk_at "x"))
          replace S := St.sw S
          refine kin_and S G (callC (pick_spec X G S.keep ((hA.deeper _).le (by omega)) D (by omega) hLL (by decide) S.pow S.pnd S.poff fun pv x dk g10 s A10 D hx10 hpv => ?_))
          replace S := St.sw (S.back A10)
          obtain ⟨l, hl, rfl⟩ := List.mem_map.mp hx10
          obtain ⟨tl, rfl⟩ := rd_str hpv
          obtain ⟨b, hlb⟩ := lang_l hl
          have le := A10.le
          (((try replace G := G.up le); (try replace hc1 := hc1.keeps le); (try replace hc2 := hc2.keeps le); (try replace HT := HT.up le); (try replace H := H.up le)))
          replace htx := htx.up (le9.trans le)
          replace hwr := hwr.up (le9.trans le)
          have leC := leB.trans (le9.trans le)
          (repeat' (walk_at "x"))
          refine call_fn S G X.hright.n X.hright.k rfl ?_
          (repeat' (walk_at "x"))
          refine kin_and S G (callC (right_spec X Y G S.keep ((hA.deeper _).le (by omega)) HT H hT htx (by omega) hms hwr (by omega) hwp hlb fun g11 s A11 => ?_))
          replace S := S.back0 A11
          (repeat' (walk_at "x"))
          refine ite_nt rfl ?_
          (repeat' (walk_at "x"))
          (repeat' (walk_at "x"))
          exact forEnd (own₂ := dk) S (leC.trans A11.le) ⟨u4 + 1, D, by omega, rfl⟩ ⟨rfl, trivial⟩
    · obtain ⟨u2, D, hu2, rfl⟩ := J
      refine St.letl S ?_
      intro lmz S
      (repeat' (walk_at "x"))
      exact h gE s (S.drop (List.nil_sublist _) (fun _ h => nomatch h)).aft

end
end Mine
end
section
set_option maxRecDepth 1000000
set_option maxHeartbeats 0
namespace Mine
theorem main0 : PySem.Challenge.rw_nt0064_01.Holds := head (by
  intro w s₀ s₁ mg mb G Y fa o pm cd doc dV kV ho hd hcd hD hmg hg args vals as hpre hlay hrd hwl hlo
  obtain ⟨K, kin, hK⟩ := Y
  obtain ⟨X⟩ := get_fns hK
  obtain ⟨Y⟩ := get_cls hK
  obtain ⟨fl, hfl⟩ := get_fn hK (x := "law") (n := 99) 37 rfl rfl
  have hfa : mg "law" = some (.ref fl) := mg_of kin G.T.g hfl.n
  have hfe : some (Value.ref fa) = some (.ref fl) := hmg.symm.trans hfa
  cases hfe
  have GL : Gl K s₁.heap := ⟨kin, G.T.nolimit, ⟨mg, G.T.g⟩, ⟨mb, G.T.b, G.T.builtins⟩⟩
  wrow_args hpre hlay hrd hwl hlo
  rename_i ns _ _ _ _ _ _ _ sl vs _ hL _ _ _ hI _ hz _
  refine enter_call ?_
  refine law_spec X Y GL (Le.refl _) ⟨by decide +kernel, by decide +kernel, rfl⟩ hfl (.list hL (.ofInts hI)) (by omega) fun g' s' A => GoodW.toG ⟨.inl ⟨_, .bool true, [], rfl, fun _ => rfl, .bool true, ?_, fun _ => ⟨.nil, fun _ h => nomatch h⟩⟩, fun b o e => A.fk b o e (fun h => nomatch h), ?_, ?_⟩
  · first | rfl | wrow_post
  · obtain ⟨_, _, rfl⟩ := A.nx
    rfl
  · obtain ⟨_, _, rfl⟩ := A.nx
    exact hg)
end Mine
end
theorem PySem.Challenge.cw_nt0064_01_holds : PySem.Challenge.rw_nt0064_01.Holds := by
  exact Mine.main0
