import PyProof.Rows.All
import Wide.All
import OpenK.AllK
import Wide.FinOn
import HandS.ForMost
import HandS.Lambda
import HandS.GenOver
import PyProof.GenQ
import PyProof.CodeObjX
import HandS.GenList
import HandS.TryOnly
import HandS.Iter
import HandS.Zip
import KE.GoesMore
import HandS.List
import HandS.SortKw
import KE.DatumOrd
import HandS.TupMul
import HandS.Codes
import HandS.WordsExc
import HandS.ForExc
import HandS.Steps
import HandS.TupAny
import HandS.WordsDict
import HandS.Style
import KE.KStateDown
import HandS.Head0
import HandS.Head1
import HandS.Head2
import HandS.HeadEnd
import HandS.HeadHook1
import HandS.HeadHook2
import HandS.HeadHook3
import HandS.HeadHook4
import HandS.EndBits
import HandS.EndTab
import HandS.HeadWalk
import PySem.Challenge.RW_crossloom_k63_whole_switch_at_any_size
set_option Elab.async false
set_option linter.all false
set_option maxRecDepth 100000
set_option maxHeartbeats 2000000
/-! GX: generator expressions over the hand layer. 1: the block's frame, its context. -/
namespace GX
open PySem PySem.Spec PyProof.Rows L2 GenW

/-- the frame of a generator expression: laid, its cells laid, its first iterator bound -/
theorem newEnv_gen {M : Model} {A : Around} {E : Value → Shared → Prop} {s : Shared} {scope : Scope} {globals : Addr} {closure : List (Str × Addr)} {qual : Str} {code : Value} {bi : Addr} {it : Value} {Q : Env → Shared → Prop}
    (hk : scope.kind = .function) (h0 : scope.names.lookup (".0" : Str) = some NameKind.local)
    (hQ : ∀ h' tk, h'.Ns s.heap.objs.size (fun y => if y = (".0" : Str) then some it else none) → Heap.SameBut s.heap.objs.size (pushCells (s.heap.push { cls := .type "frame", data := .dict #[] }) scope.names) h' →
      Q (newEnv scope s.heap.objs.size globals (cellsFrom (s.heap.objs.size + 1) scope.names closure) qual none code none bi) { s with heap := h', toks := tk }) :
    wpAny M A (newFunctionEnv scope globals closure [(".0", it)] qual none code none bi) Q E s := by
  simp only [newFunctionEnv, Option.isSome_none, Bool.false_eq_true, if_false]
  refine wpAny_bind (wpAny_alloc ?_)
  refine wpAny_bind (wpAny_layCells _ (fun name kind cells => by cases hkc : kind == NameKind.cell <;> simp [hkc]) _ _ _ _ ?_)
  rw [show ({ s with heap := s.heap.push { cls := .type "frame", data := .dict #[] } } : Shared).heap.objs.size = s.heap.objs.size + 1 from Heap.size_push ..]
  rw [List.forIn_cons]
  have hns : (pushCells (s.heap.push { cls := .type "frame", data := .dict #[] }) scope.names).Ns s.heap.objs.size (fun _ => none) :=
    (Heap.Ns.new s.heap (.type "frame")).keeps (pushCells_keeps _ _)
  refine wpAny_bind (wpAny_bind (wpAny_bind (wpAny_storeName_local (env := newEnv scope s.heap.objs.size globals (cellsFrom (s.heap.objs.size + 1) scope.names closure) qual none code none bi) h0 hns (fun h' hn' hs' => ?_) (by show (scope.kind == .class || (scope.kind == .module && _)) = false; rw [hk]; rfl))))
  refine wpAny_pure ?_
  simp only [List.forIn_nil]
  exact wpAny_pure (wpAny_pure (hQ _ _ hn' hs'))

/-- the environment of the block -/
def gEnv (X : Cx) (scope : Scope) (C : Addr) (code : Value) (bi : Addr) : Env :=
  newEnv scope C X.env.globals (cellsFrom (C + 1) scope.names (cloFrom X.env.cells scope.names [])) (X.env.qual ++ "<genexpr>.") none code none bi
/-- the block's context: it runs in A, begun at s, over the iterator's objects at fp -/
def gCx (X : Cx) (A : Around) (s : Shared) (H : Hp) (genv : Env) (fp : List Addr) (pn : List (Addr × Obj)) : Cx where
  prog := X.prog
  w := X.w
  K := X.K
  mg := X.mg
  base := X.base
  A := A
  N := X.N
  s_0 := s
  H_0 := H
  env := genv
  outer := X.stack
  stack := genv :: X.stack
  ex := fp
  fn := fun x => genv.scope.names.lookup x == some .cell
  calm := true
  pn := pn
  xe := fun _ _ => False
section
variable {X : Cx} {pins : List (Addr × Obj)} {σ : L2.St} {H : Hp} {s : Shared}
theorem gen_start {scope : Scope} {own : List (Str × Nat)} {fp : List Addr} {A : Around} {code : Value} {h1 : Heap} {tk : Nat} {m : Str → Option Value} (I : Inv X pins σ H s) (ok : BlkOk X.N X.env.scope scope own) (hN : X.N.Nodup) (hfp : ∀ b ∈ fp, FpOk X pins H b ∧ b < s.heap.objs.size)
    (hA : A.frames = some (gEnv X scope s.heap.objs.size code builtinsNs :: X.stack)) (hh : A.handled = none)
    (hns : h1.Ns s.heap.objs.size m) (hsb : Heap.SameBut s.heap.objs.size (pushCells (s.heap.push { cls := .type "frame", data := .dict #[] }) scope.names) h1) :
    Inv (gCx X A s H (gEnv X scope s.heap.objs.size code builtinsNs) fp []) [] (wipe σ (own.map (·.2))) H { s with heap := h1, toks := tk } := by
  have hfree : ∀ y ∈ scope.names, y.2 = .free → ∃ c, X.env.cells.lookup y.1 = some c := fun y hy e => by
    rcases ok.free y hy e with k | k
    · exact I.ok.has _ (.inl k)
    · exact I.ok.has _ (.inr k)
  generalize hg : gEnv X scope s.heap.objs.size code builtinsNs = genv at hA
  have hL : genv.locals = s.heap.objs.size := by rw [← hg]; rfl
  have hfr : genv.frame = some genv.locals := by rw [← hg]; rfl
  have hcl : genv.cells = cellsFrom (s.heap.objs.size + 1) scope.names (cloFrom X.env.cells scope.names []) := by rw [← hg]; rfl
  have hsc : genv.scope = scope := by rw [← hg]; rfl
  rw [← Heap.size_push s.heap { cls := .type "frame", data := .dict #[] }] at hcl
  have kp : ∀ b o, s.heap.get? b = some o → h1.get? b = some o := fun b o e =>
    hsb.extBut b o (Nat.ne_of_lt (Heap.lt_size e)) (pushCells_keeps _ _ _ _ (Heap.get?_push_of_some _ e))
  have cm : ∀ {y c}, (y, c) ∈ cloFrom X.env.cells scope.names [] → X.env.cells.lookup y = some c ∧ c < s.heap.objs.size := fun {y c} hm => by
    rcases cloFrom_mem hm with hm | ⟨h1, rfl⟩
    · cases hm
    · obtain ⟨c, hc⟩ := hfree _ h1 rfl
      rw [hc]
      obtain ⟨w, z⟩ := I.cell _ _ hc
      exact ⟨rfl, z.lt⟩
  have mem : ∀ {y c}, genv.cells.lookup y = some c → (X.env.cells.lookup y = some c ∧ c < s.heap.objs.size) ∨ (s.heap.objs.size + 1 ≤ c ∧ CellAt h1 c none) := fun {y c} e => by
    rw [hcl] at e
    rcases cells_mem (PySem.mem_of_lookup e) with hm | ⟨_, h2, h3⟩
    · exact .inl (cm hm)
    · rw [Heap.size_push] at h2
      exact .inr ⟨h2, h3.sameBut hsb (Nat.ne_of_gt h2)⟩
  have look : ∀ {y}, scope.names.lookup y = some .free → ∃ c, genv.cells.lookup y = some c ∧ X.env.cells.lookup y = some c := fun {y} hl => by
    have hy : (y, NameKind.free) ∈ scope.names := PySem.mem_of_lookup hl
    obtain ⟨c', e'⟩ := L2.mem_lookup (cells_acc (names := scope.names) (n := (s.heap.push { cls := .type "frame", data := .dict #[] }).objs.size) (cloFrom_has (cells := X.env.cells) (acc := []) hy))
    rw [← hcl] at e'
    refine ⟨c', e', ?_⟩
    rw [hcl] at e'
    rcases cells_mem (PySem.mem_of_lookup e') with hm | ⟨h1, _, _⟩
    · exact (cm hm).1
    · have := ok.uniq _ h1
      rw [hl] at this; cases this
  have okB : (gCx X A s H genv fp []).Ok := by
    refine ⟨I.ok.mod, by show genv.scope.kind = _; rw [hsc]; exact ok.kind, by show genv.globals = _; rw [← hg]; exact I.ok.glob, by show genv.builtins = _; rw [← hg]; rfl, by show s.heap.objs.size ≤ genv.locals; rw [hL]; exact Nat.le_refl _,
      fun y z c e1 e2 => ?_, fun y hy => ?_, fun y c z e => ?_, fun _ => hh, hA, .inr ⟨rfl, hfr⟩, fun b hb => ⟨?_, fun y c e z => ?_⟩, I.bs, Nat.le_trans I.ok.bsz I.sz, fun b o e hb => ?_, fun b hb z => ?_, I.stack, I.stkFree⟩
    · have e1 : genv.cells.lookup y = some c := e1
      have e2 : genv.cells.lookup z = some c := e2
      rw [hcl] at e1 e2
      refine cells_inj (fun p hp => ?_) (fun y z c a b => I.ok.inj y z c (cm a).1 (cm b).1) (PySem.mem_of_lookup e1) (PySem.mem_of_lookup e2)
      rw [Heap.size_push]
      exact Nat.lt_succ_of_lt (cm (y := p.1) (c := p.2) hp).2
    · show ∃ c, genv.cells.lookup y = some c
      have hy : genv.scope.names.lookup y = some .cell ∨ genv.scope.names.lookup y = some .free := hy
      rw [hsc] at hy
      rcases hy with hy | hy
      · obtain ⟨c, hm⟩ := cells_has (n := (s.heap.push { cls := .type "frame", data := .dict #[] }).objs.size) (acc := cloFrom X.env.cells scope.names []) (PySem.mem_of_lookup hy)
        obtain ⟨c', e'⟩ := L2.mem_lookup hm
        exact ⟨c', by rw [hcl]; exact e'⟩
      · obtain ⟨c, h1, _⟩ := look hy
        exact ⟨c, h1⟩
    · have z : (genv.scope.names.lookup y == some NameKind.cell) = true := z
      rw [hsc] at z
      have z : scope.names.lookup y = some .cell := by simpa using z
      have e : genv.cells.lookup y = some c := e
      rw [hcl] at e
      rcases cells_mem (PySem.mem_of_lookup e) with hm | ⟨_, h2, _⟩
      · rcases cloFrom_mem hm with hm | ⟨h1, _⟩
        · cases hm
        · have q := ok.uniq _ h1
          rw [z] at q; cases q
      · rw [Heap.size_push] at h2
        exact Nat.le_of_succ_le h2
    · show b ≠ genv.locals
      rw [hL]; exact Nat.ne_of_lt (hfp b hb).2
    · have e : genv.cells.lookup y = some c := e
      rcases mem e with ⟨h1, _⟩ | ⟨h1, _⟩
      · exact (hfp b hb).1.2.2.2.2.1 y c h1 z
      · have h2 : s.heap.objs.size + 1 ≤ b := by rw [← z]; exact h1
        exact absurd (Nat.lt_of_lt_of_le (hfp b hb).2 (Nat.le_of_succ_le h2)) (Nat.lt_irrefl _)
    · rcases (hfp b hb).1.2.2.2.1 with z | z
      · exact I.ok.noex b o e z
      · exact absurd (Nat.lt_of_lt_of_le (Heap.lt_size e) (Nat.le_trans I.ok.bsz z)) (Nat.lt_irrefl _)
    · rcases List.mem_cons.mp (I.stkSub b z) with z | z
      · exact (hfp b hb).1.2.1 z
      · exact (hfp b hb).1.2.2.1 z
  refine ⟨okB, rfl, I.bare, Un.kept kp, ⟨m, ?_, fun i y av e1 e2 e3 => ?_⟩, fun y c e => ?_, ?_, fun y c e => ?_, fun p hp => ?_, I.hok.kept kp, by rw [wipe_length]; exact I.len⟩
  · show Heap.Ns _ genv.locals _
    rw [hL]
    exact hns
  · obtain ⟨e2, hne⟩ := wipe_some e2
    have hfr : scope.names.lookup y = some .free := by
      have e3 : Vis genv.scope y := e3
      rw [hsc] at e3
      have no : ∀ k, scope.names.lookup y = some k → ¬ (k = .local ∨ k = .cell) := fun k e hh => by
        rcases ok.own _ (PySem.mem_of_lookup e) hh with e' | e'
        · obtain ⟨p, hp, hpy⟩ := List.mem_map.mp e'
          have e3 := ok.ix p hp
          have : p.1 = y := hpy
          rw [this] at e3
          exact hne (List.mem_map.mpr ⟨p, hp, nodup_ix hN e3 e1⟩)
        · exact e' (List.mem_of_getElem? e1)
      rcases e3 with e3 | e3 | e3
      · exact absurd (.inl rfl) (no _ e3)
      · exact absurd (.inr rfl) (no _ e3)
      · exact e3
    obtain ⟨m, hn, hl⟩ := I.loc
    have hvis : Vis X.env.scope y := (ok.free _ (PySem.mem_of_lookup hfr) rfl).elim (fun k => .inr (.inl k)) (fun k => .inr (.inr k))
    obtain ⟨w, r, q⟩ := hl i y av e1 e2 hvis
    have hkf : genv.kindOf y = some .free := by
      show genv.scope.names.lookup y = _
      rw [hsc]; exact hfr
    refine ⟨w, r, .inr ⟨.inr hkf, ?_⟩⟩
    obtain ⟨c, h1, h2⟩ := look hfr
    rcases q with ⟨k, _⟩ | ⟨_, c', e', z⟩
    · have k : X.env.scope.names.lookup y = some .local := k
      rcases ok.free _ (PySem.mem_of_lookup hfr) rfl with k' | k' <;> rw [show X.env.scope.names.lookup y = _ from k'] at k <;> cases k
    · rw [h2] at e'; cases e'
      exact ⟨c, h1, z.keeps kp⟩
  · have e : genv.cells.lookup y = some c := e
    rcases mem e with ⟨h1, _⟩ | ⟨_, z⟩
    · obtain ⟨w, z⟩ := I.cell y c h1
      exact ⟨w, z.keeps kp⟩
    · exact ⟨_, z⟩
  · show H genv.locals = none
    rw [hL]; exact I.hok.fresh (Nat.le_refl _)
  · have e : genv.cells.lookup y = some c := e
    rcases mem e with ⟨h1, _⟩ | ⟨h1, _⟩
    · exact I.freeC y c h1
    · exact I.hok.fresh (Nat.le_of_succ_le h1)
  · exact absurd (show p ∈ ([] : List (Addr × Obj)) ++ [] from hp) (by simp)
end
end GX
set_option Elab.async false
set_option linter.all false
set_option maxRecDepth 100000
set_option maxHeartbeats 2000000
/-! GX 2: tables of code objects, the code object of a generator expression. -/
namespace GX
open PySem PySem.Spec PyProof.Rows L2 GenW

/-- a code object whose table lies at P -/
def CodeX (c P : Addr) : HO := .ext fun h => PySem.W.CodeHd h c P
theorem codeX_ne {c P : Addr} (ps : Array Value) : CodeX c P ≠ .tbl ps := fun z => by
  unfold CodeX at z
  cases z
/-- a table, so many levels deep: each code object that it tells is known, and its own table -/
def TabD (av : Addr) : Nat → Hp → Addr → Prop
  | 0, H, P => ∃ ps : Array Value, H P = some (.tbl ps) ∧ TriplesOk ps.toList ∧ ∃ o, H av = some o
  | d + 1, H, P => ∃ ps : Array Value, H P = some (.tbl ps) ∧ TriplesOk ps.toList ∧ (∃ o, H av = some o) ∧
      ∀ (pos : Pos) (cv : Value), codeAmong pos ps.toList = some cv → ∃ c P', cv = .ref c ∧ H c = some (CodeX c P') ∧ P' ≠ av ∧ TabD av d H P'
theorem TabD.tab {av : Addr} {d : Nat} {H : Hp} {P : Addr} (t : TabD av d H P) : ∃ ps : Array Value, H P = some (.tbl ps) ∧ TriplesOk ps.toList ∧ ∃ o, H av = some o := by
  cases d with
  | zero => exact t
  | succ d => obtain ⟨ps, h1, h2, h3, _⟩ := t; exact ⟨ps, h1, h2, h3⟩
theorem TabD.ext {av : Addr} {d : Nat} {H H' : Hp} {P : Addr} (t : TabD av d H P) (e : ∀ b o, H b = some o → H' b = some o) : TabD av d H' P := by
  induction d generalizing P with
  | zero => obtain ⟨ps, h1, h2, o, h3⟩ := t; exact ⟨ps, e _ _ h1, h2, o, e _ _ h3⟩
  | succ d ih =>
    obtain ⟨ps, h1, h2, ⟨o, h0⟩, h3⟩ := t
    refine ⟨ps, e _ _ h1, h2, ⟨o, e _ _ h0⟩, fun pos cv hc => ?_⟩
    obtain ⟨c, P', e1, e2, e4, e3⟩ := h3 pos cv hc
    exact ⟨c, P', e1, e _ _ e2, e4, ih e3⟩
/-- all but what may be written stays -/
theorem TabD.keep {av : Addr} {d : Nat} {H H' : Hp} {P : Addr} (t : TabD av d H P) (e : ∀ b ps, H b = some (.tbl ps) → H' b = some (.tbl ps)) (e2 : ∀ b φ, H b = some (.ext φ) → H' b = some (.ext φ)) (e3 : ∃ o, H' av = some o) : TabD av d H' P := by
  induction d generalizing P with
  | zero => obtain ⟨ps, h1, h2, _⟩ := t; exact ⟨ps, e _ _ h1, h2, e3⟩
  | succ d ih =>
    obtain ⟨ps, h1, h2, _, h3⟩ := t
    refine ⟨ps, e _ _ h1, h2, e3, fun pos cv hc => ?_⟩
    obtain ⟨c, P', q1, q2, q4, q3⟩ := h3 pos cv hc
    exact ⟨c, P', q1, e2 _ _ q2, q4, ih q3⟩
theorem TabD.nil {av : Addr} {d : Nat} {H : Hp} {P : Addr} (h : H P = some (.tbl #[])) (h0 : ∃ o, H av = some o) : TabD av d H P := by
  cases d with
  | zero => exact ⟨#[], h, True.intro, h0⟩
  | succ d =>
    refine ⟨#[], h, True.intro, h0, fun pos cv hc => ?_⟩
    have z : codeAmong pos [] = some cv := hc
    simp [codeAmong] at z
/-- one table grows, all else stays -/
theorem TabD.ext1 {av : Addr} {d : Nat} {H H' : Hp} {P P0 : Addr} (t : TabD av d H P) (e : ∀ b o, H b = some o → b ≠ P0 → H' b = some o) (h0 : ∃ ps, H P0 = some (.tbl ps)) (h0' : ∃ o, H' P0 = some o) (t0 : ∀ e, e ≤ d → TabD av e H P0 → TabD av e H' P0) : TabD av d H' P := by
  have hav : (∃ o, H av = some o) → ∃ o, H' av = some o := fun ⟨o, h⟩ => by
    by_cases z : av = P0
    · rw [z]; exact h0'
    · exact ⟨o, e _ _ h z⟩
  induction d generalizing P with
  | zero =>
    by_cases hP : P = P0
    · rw [hP] at t ⊢
      exact t0 0 (Nat.le_refl _) t
    · obtain ⟨ps, h1, h2, h3⟩ := t
      exact ⟨ps, e _ _ h1 hP, h2, hav h3⟩
  | succ d ih =>
    by_cases hP : P = P0
    · rw [hP] at t ⊢
      exact t0 _ (Nat.le_refl _) t
    · obtain ⟨ps, h1, h2, h4, h3⟩ := t
      refine ⟨ps, e _ _ h1 hP, h2, hav h4, fun pos cv hc => ?_⟩
      obtain ⟨c, P', e1, e2, e4, e3⟩ := h3 pos cv hc
      refine ⟨c, P', e1, e _ _ e2 fun z => ?_, e4, ih e3 fun n hn => t0 n (Nat.le_succ_of_le hn)⟩
      obtain ⟨ps0, h0⟩ := h0
      rw [z, h0] at e2
      exact codeX_ne _ (Option.some.inj e2).symm
/-- the table at P0 has one code object more -/
theorem TabD.grow {av : Addr} {H H' : Hp} {P0 c P' : Addr} {pos : Pos} {ps : Array Value} (h0 : H P0 = some (.tbl ps)) (ht : TriplesOk ps.toList) (e : ∀ b o, H b = some o → b ≠ P0 → H' b = some o) (h1 : H' P0 = some (.tbl (ps ++ #[rawInt pos.line, rawInt pos.col, .ref c])))
    (h2 : H' c = some (CodeX c P')) (h3 : H' P' = some (.tbl #[])) (hne : P' ≠ av) (ha : ∃ o, H' av = some o) : ∀ d, TabD av d H P0 → TabD av d H' P0 := by
  have hl : (ps ++ #[rawInt pos.line, rawInt pos.col, Value.ref c]).toList = ps.toList ++ [rawInt pos.line, rawInt pos.col, .ref c] := by simp
  have htr : TriplesOk (ps ++ #[rawInt pos.line, rawInt pos.col, .ref c]).toList := by
    rw [hl]
    exact TriplesOk_snoc _ _ _ _ ht
  intro d
  induction d using Nat.strongRecOn with
  | ind d ih =>
    intro t
    cases d with
    | zero => exact ⟨_, h1, htr, ha⟩
    | succ d =>
      obtain ⟨ps2, z1, z2, _, z3⟩ := t
      rw [h0] at z1
      cases z1
      refine ⟨_, h1, htr, ha, fun pos2 cv hcv => ?_⟩
      rw [hl] at hcv
      rcases LamX.among_app _ ht hcv with z | z
      · obtain ⟨c2, P2, e1, e2, e4, e3⟩ := z3 pos2 cv z
        refine ⟨c2, P2, e1, e _ _ e2 fun zz => ?_, e4, e3.ext1 e ⟨_, h0⟩ ⟨_, h1⟩ fun n hn tn => ih n (Nat.lt_succ_of_le hn) tn⟩
        rw [zz, h0] at e2
        exact codeX_ne _ (Option.some.inj e2).symm
      · exact ⟨c, P', z, h2, hne, TabD.nil h3 ha⟩

/-- the module that the law's globals tell as __builtins__ -/
def BmOk (base : Heap) (mg : Str → Option Value) : Prop :=
  ∃ (bm : Addr) (ob : Obj), mg "__builtins__" = some (.ref bm) ∧ bm ≠ builtinsNs ∧ base.get? bm = some ob ∧ ob.cls = .type "module" ∧ ob.dict = some builtinsNs ∧ ob.data = .plain
/-- the code object at c with its table at P: written by the top, or made meanwhile -/
def CdAt (X : Cx) (H : Hp) (c P : Addr) : Prop := PySem.W.CodeHd X.base c P ∨ H c = some (CodeX c P)

section
variable {X : Cx} {pins : List (Addr × Obj)} {σ : L2.St} {H : Hp} {s : Shared}
theorem CdAt.hd {c P : Addr} (h : CdAt X H c P) (I : Inv X pins σ H s) : PySem.W.CodeHd s.heap c P := by
  rcases h with h | h
  · exact h.keeps fun b o e => I.bk b o e
  · obtain ⟨h1, _, _⟩ := I.hok c _ h
    exact h1
theorem inv_codeNew {P c P' : Addr} {ps more : Array Value} {h' : Heap} {t' : Nat} (I : Inv X pins σ H s) (hP : H P = some (.tbl ps)) (k : ∀ b o, b ≠ P → s.heap.get? b = some o → h'.get? b = some o)
    (hm : h'.get? P = some { cls := .none, data := .fields (ps ++ more) }) (hc : s.heap.objs.size ≤ c) (hP' : s.heap.objs.size ≤ P') (hcd : PySem.W.CodeHd h' c P') (hm' : h'.get? P' = some { cls := .none, data := .fields #[] }) (hcP' : c ≠ P') :
    Inv X pins σ (upd (upd (upd H P (.tbl (ps ++ more))) P' (.tbl #[])) c (CodeX c P')) { s with heap := h', toks := t' } := by
  have nC : H c = none := I.hok.fresh hc
  have nP' : H P' = none := I.hok.fresh hP'
  have nPc : P ≠ c := ne_of_none hP nC
  have nPP' : P ≠ P' := ne_of_none hP nP'
  have at_ : ∀ b, b ≠ P → b ≠ P' → b ≠ c → upd (upd (upd H P (.tbl (ps ++ more))) P' (.tbl #[])) c (CodeX c P') b = H b := fun b h1 h2 h3 => by rw [upd_ne h3, upd_ne h2, upd_ne h1]
  have atP : upd (upd (upd H P (.tbl (ps ++ more))) P' (.tbl #[])) c (CodeX c P') P = some (.tbl (ps ++ more)) := by rw [upd_ne nPc, upd_ne nPP', upd_same]
  have atP' : upd (upd (upd H P (.tbl (ps ++ more))) P' (.tbl #[])) c (CodeX c P') P' = some (.tbl #[]) := by rw [upd_ne (Ne.symm hcP'), upd_same]
  have nP : ∀ b u, H b = some u → (∀ q, u ≠ .tbl q) → b ≠ P := fun b u e q z => by
    rw [z, hP] at e
    exact q ps (Option.some.inj e).symm
  have nN : ∀ b, H b = none → b ≠ P := fun b e z => by
    rw [z, hP] at e
    cases e
  have ltc : ∀ b o, s.heap.get? b = some o → b ≠ c := fun b o e z => by
    rw [z] at e
    exact Nat.lt_irrefl _ (Nat.lt_of_lt_of_le (Heap.lt_size e) hc)
  have ltP : ∀ b o, s.heap.get? b = some o → b ≠ P' := fun b o e z => by
    rw [z] at e
    exact Nat.lt_irrefl _ (Nat.lt_of_lt_of_le (Heap.lt_size e) hP')
  have smc : ∀ b u, H b = some u → b ≠ c := fun b u e => ne_of_none e nC
  have smP : ∀ b u, H b = some u → b ≠ P' := fun b u e => ne_of_none e nP'
  refine I.step (g' := s.gens) (d' := s.drawn) (ch := []) (fun b hb => absurd hb (by simp)) (fun b o _ _ _ e n => k b o (nN b n) e) (fun b o _ _ _ e n => ⟨o.slots, k b o (nN b n) e⟩)
    (fun b o _ e n => by rw [at_ b (nN b n) (ltP b o e) (ltc b o e)]; exact n) (fun b o _ e => ?_) (fun b xs e => by rw [at_ b (nP b _ e (fun q z => by cases z)) (smP b _ e) (smc b _ e)]; exact e) (fun b o u e => by rw [at_ b (nP b _ e (fun q z => by cases z)) (smP b _ e) (smc b _ e)]; exact e) (fun b qs e => ?_) (fun m hn => ?_) (fun b u e => ?_) I.bare
  · by_cases hb : b = P
    · rw [hb]
      exact ⟨_, hm⟩
    · exact ⟨o, k b o hb e⟩
  · by_cases hb : b = P
    · rw [hb, hP] at e
      cases e
      rw [hb, atP]
      exact ⟨more, rfl⟩
    · rw [at_ b hb (smP b _ e) (smc b _ e), e]
      exact ⟨#[], by simp⟩
  · obtain ⟨ob, es, ep, ho, r⟩ := hn
    exact ⟨ob, es, ep, k _ ob (nN _ I.free) ho, r⟩
  · by_cases hb : b = c
    · rw [hb, upd_same] at e
      cases e
      rw [hb]
      refine ⟨hcd, ?_, fun h1 h2 x st => ?_⟩
      · obtain ⟨o, vs, _, _, _, _, _, _, _, e1, _⟩ := hcd
        exact ⟨o, e1⟩
      · obtain ⟨o, vs, f, tf, fl, tg, inF, tx, tt, e1, r⟩ := x
        exact ⟨o, vs, f, tf, fl, tg, inF, tx, tt, st _ e1, r⟩
    · by_cases hb2 : b = P
      · rw [hb2, atP] at e
        cases e
        rw [hb2]
        exact hm
      · by_cases hb3 : b = P'
        · rw [hb3, atP'] at e
          cases e
          rw [hb3]
          exact hm'
        · rw [at_ b hb2 hb3 hb] at e
          refine (I.hok b u e).stay (fun d v hd q => k d v ?_ q) (fun d q => by rw [at_ d (nP d _ q (fun q z => by cases z)) (smP d _ q) (smc d _ q)]; exact q) fun d xs q => by rw [at_ d (nP d _ q (fun q z => by cases z)) (smP d _ q) (smc d _ q)]; exact q
          rcases hd with z | z
          · rw [z]
            exact hb2
          · exact nP d _ z (fun q z => by cases z)

/-- what is left behind the making of a code object in the table at P -/
structure Coded (av : Addr) (d : Nat) (P : Addr) (H H1 : Hp) (cv : Value) (s s1 : Shared) : Prop where
  keep : ∀ b o, H b = some o → b ≠ P → H1 b = some o
  tab : ∀ e P2, TabD av e H P2 → TabD av e H1 P2
  tbl : ∃ ps, H P = some (.tbl ps) ∧ ∃ more, H1 P = some (.tbl (ps ++ more)) ∧ TriplesOk (ps ++ more).toList
  cv : ∀ e, d = e + 1 → ∃ (c P' : Addr), cv = .ref c ∧ H1 c = some (CodeX c P') ∧ P' ≠ av ∧ TabD av e H1 P'
  heap : ∀ b o, H b = none → s.heap.get? b = some o → s1.heap.get? b = some o
  free : ∀ b o, s.heap.get? b = some o → H b = none → H1 b = none
  size : s.heap.objs.size ≤ s1.heap.objs.size
  os : s1.os = s.os
  gens : s1.gens = s.gens
theorem gen_code {av : Addr} {d : Nat} {c P : Addr} {pos : Pos} {q : Str} {scope : Scope} {Q : Value → Shared → Prop} {E : Value → Shared → Prop} (I : Inv X pins σ H s) (hcode : X.env.code = .ref c) (hc : CdAt X H c P) (t : TabD av d H P)
    (h : ∀ cv H1 s1, Inv X pins σ H1 s1 → Coded av d P H H1 cv s s1 → Q cv s1) : wpAny (model X.prog X.w) X.A (genexprCode X.env pos q scope) Q E s := by
  obtain ⟨ps, hP, ht, hav⟩ := t.tab
  have hd := hc.hd I
  have hPs : s.heap.get? P = some { cls := .none, data := .fields ps } := I.hok P _ hP
  cases hf : codeAmong pos ps.toList with
  | none =>
    refine wpAny_genexprCodeX hcode (hd.code hPs ht) (hd.tab hPs) hf fun c' h' tk hx hge hlt hco' _ htab' hnew => ?_
    obtain ⟨P', hgeP, hcoP, htbP⟩ := hnew
    have hcd := PySem.W.CodeHd.of hcoP htbP
    have hcP' : c' ≠ P' := by
      obtain ⟨_, _, _, _, _, _, _, _, _, _, _, _, _, _, _, _, _, _, z⟩ := hcd
      exact z
    have nC : H c' = none := I.hok.fresh hge
    have nP' : H P' = none := I.hok.fresh hgeP
    have nPc : P ≠ c' := ne_of_none hP nC
    have nPP' : P ≠ P' := ne_of_none hP nP'
    have I1 := inv_codeNew (t' := tk) (more := #[rawInt pos.line, rawInt pos.col, .ref c']) I hP hx htab'.2 hge hgeP hcd htbP.2 hcP'
    have k1 : ∀ b o, H b = some o → b ≠ P → upd (upd (upd H P (.tbl (ps ++ #[rawInt pos.line, rawInt pos.col, .ref c']))) P' (.tbl #[])) c' (CodeX c' P') b = some o := fun b o e hb => by
      rw [upd_ne (ne_of_none e nC), upd_ne (ne_of_none e nP'), upd_ne hb]
      exact e
    have atP : upd (upd (upd H P (.tbl (ps ++ #[rawInt pos.line, rawInt pos.col, .ref c']))) P' (.tbl #[])) c' (CodeX c' P') P = some (.tbl (ps ++ #[rawInt pos.line, rawInt pos.col, .ref c'])) := by rw [upd_ne nPc, upd_ne nPP', upd_same]
    have atP' : upd (upd (upd H P (.tbl (ps ++ #[rawInt pos.line, rawInt pos.col, .ref c']))) P' (.tbl #[])) c' (CodeX c' P') P' = some (.tbl #[]) := by rw [upd_ne (Ne.symm hcP'), upd_same]
    have nav : P' ≠ av := fun z => by
      obtain ⟨o, ho⟩ := hav
      rw [← z, nP'] at ho
      cases ho
    have hav' : ∃ o, upd (upd (upd H P (.tbl (ps ++ #[rawInt pos.line, rawInt pos.col, .ref c']))) P' (.tbl #[])) c' (CodeX c' P') av = some o := by
      by_cases z : av = P
      · rw [z]; exact ⟨_, atP⟩
      · obtain ⟨o, ho⟩ := hav
        exact ⟨o, k1 _ _ ho z⟩
    refine h _ _ _ I1 ⟨k1, fun e P2 t2 => t2.ext1 k1 ⟨_, hP⟩ ⟨_, atP⟩ fun n _ tn => TabD.grow hP ht k1 atP upd_same atP' nav hav' n tn, ⟨ps, hP, _, atP, by
      have hl : (ps ++ #[rawInt pos.line, rawInt pos.col, Value.ref c']).toList = ps.toList ++ [rawInt pos.line, rawInt pos.col, .ref c'] := by simp
      rw [hl]; exact TriplesOk_snoc _ _ _ _ ht⟩, fun e _ => ⟨c', P', rfl, upd_same, nav, TabD.nil atP' hav'⟩, fun b o n e => hx b o (fun z => ?_) e, fun b o e n => ?_, Nat.le_trans hge (Nat.le_of_lt hlt), rfl, rfl⟩
    · rw [z, hP] at n
      cases n
    · have h1 : b ≠ c' := fun z => by
        rw [z] at e
        exact Nat.lt_irrefl _ (Nat.lt_of_lt_of_le (Heap.lt_size e) hge)
      have h2 : b ≠ P' := fun z => by
        rw [z] at e
        exact Nat.lt_irrefl _ (Nat.lt_of_lt_of_le (Heap.lt_size e) hgeP)
      have h3 : b ≠ P := fun z => by
        rw [z, hP] at n
        cases n
      rw [upd_ne h1, upd_ne h2, upd_ne h3]
      exact n
  | some cv =>
    refine wpAny_genexprCode_hit hcode (hd.code hPs ht) hf ?_
    refine h cv H s I ⟨fun b o e _ => e, fun e P2 t2 => t2, ⟨ps, hP, #[], by rw [hP]; simp, by simpa using ht⟩, fun e he => ?_, fun b o _ e => e, fun b o _ n => n, Nat.le_refl _, rfl, rfl⟩
    subst he
    obtain ⟨ps2, z1, _, _, z3⟩ := t
    rw [hP] at z1
    cases z1
    exact z3 pos cv hf
end
end GX
set_option Elab.async false
set_option linter.all false
set_option maxRecDepth 100000
set_option maxHeartbeats 4000000
/-! GX 3: the run of a generator expression's block, from wake to yield. -/
namespace GX
open PySem PySem.Spec PyProof.Rows L2 GenW

theorem Room.gen {k : Nat} {A : Around} (r : Room (k + 1) A) (env : Env) : Room k (A.in1.in1.deeper env) :=
  ⟨r.hd, by have := r.dp; show A.depth + 1 + 3 * k + 5 < _; omega, by have := r.un; show A.units + 1 + 1 + 3 + 16 * k + 200 < _; omega⟩

/-- between two turns: the block's Inv; the consumer's own objects at Sx, the iterator's at fp stand apart -/
structure GIx (Xg : Cx) (Sx fp : List Addr) (σ : L2.St) (H : Hp) (s : Shared) : Prop where
  inv : Inv Xg [] σ H s
  own : ∀ b ∈ Sx, FpOk Xg [] H b ∧ ∃ o, s.heap.get? b = some o ∧ ∀ v, o.data ≠ .cell v
  its : ∀ b ∈ fp, FpOk Xg [] H b
  dis : ∀ b ∈ Sx, b ∉ fp
/-- while the block sleeps its consumer changes its own objects -/
structure SleptX (Sx : List Addr) (s s' : Shared) : Prop where
  os : s'.os = s.os
  bare : AllBare s'.gens
  keep : ∀ b o, b ∉ Sx → s.heap.get? b = some o → s'.heap.get? b = some o
  own : ∀ b ∈ Sx, ∃ o, s'.heap.get? b = some o ∧ ∀ v, o.data ≠ .cell v
section
variable {Xg : Cx} {Sx fp : List Addr} {σ : L2.St} {H : Hp} {s s' : Shared}
theorem FpOk.at {X : Cx} {pins : List (Addr × Obj)} {H H' : Hp} {b : Addr} (f : FpOk X pins H b) (n : H' b = none) : FpOk X pins H' b := ⟨n, f.2⟩
theorem GIx.pinned (G : GIx Xg Sx fp σ H s) : Inv Xg (pinsAt Sx s.heap) σ H s ∧ ∀ b ∈ fp, FpOk Xg (pinsAt Sx s.heap) H b := by
  refine ⟨by simpa using G.inv.pinned (fun b hb => (G.own b hb).1) fun b hb => (G.own b hb).2, fun b hb => ?_⟩
  obtain ⟨f0, f1, f2, f3, f4, f5⟩ := G.its b hb
  refine ⟨f0, f1, f2, f3, f4, fun p hp => ?_⟩
  rcases List.mem_append.mp hp with z | z
  · exact f5 p (List.mem_append_left _ z)
  · intro e
    obtain ⟨h1, _⟩ := of_pinsAt z
    rw [e] at h1
    exact G.dis b h1 hb
theorem GIx.again {σ' : L2.St} {H' : Hp} {pl : List (Addr × Obj)} (G : GIx Xg Sx fp σ H s) (I : Inv Xg (pinsAt Sx s.heap ++ pl) σ' H' s') (hf : ∀ b ∈ fp, H' b = none) : GIx Xg Sx fp σ' H' s' where
  inv := I.pins_of fun p hp => by cases hp
  own := fun b hb => by
    obtain ⟨f, o, ho, hd⟩ := G.own b hb
    obtain ⟨e, n, _⟩ := I.pin (b, o) (List.mem_append_right _ (List.mem_append_left _ (mem_pinsAt hb ho)))
    exact ⟨FpOk.at f n, o, e, hd⟩
  its := fun b hb => FpOk.at (G.its b hb) (hf b hb)
  dis := G.dis
theorem GIx.same {σ' : L2.St} {H' : Hp} {pl : List (Addr × Obj)} (G : GIx Xg Sx fp σ H s) (I : Inv Xg (pinsAt Sx s.heap ++ pl) σ' H' s') : ∀ b ∈ Sx, s'.heap.get? b = s.heap.get? b := fun b hb => by
  obtain ⟨f, o, ho, hd⟩ := G.own b hb
  rw [ho]
  exact (I.pin (b, o) (List.mem_append_right _ (List.mem_append_left _ (mem_pinsAt hb ho)))).1
theorem GIx.woken (G : GIx Xg Sx fp σ H s) (z : SleptX Sx s s') : GIx Xg Sx fp σ H s' := by
  obtain ⟨z1, z2, z3, z4⟩ := z
  obtain ⟨hh, g, d, t, o⟩ := s'
  have ho : o = s.os := z1
  subst ho
  have nS : ∀ b u, H b = some u → b ∉ Sx := fun b u q hb => by
    rw [(G.own b hb).1.1] at q
    cases q
  have J : Inv Xg [] σ H { s with heap := hh, gens := g, drawn := d, toks := t } := by
    refine G.inv.step (g' := g) (t' := t) (d' := d) (ch := Sx) (fun b hb => ?_)
      (fun b ob _ _ hc q _ => z3 b ob hc q) (fun b ob _ _ hc q _ => ⟨ob.slots, z3 b ob hc q⟩) (fun _ _ _ _ n => n) (fun b ob hc q => ⟨ob, z3 b ob hc q⟩)
      (fun _ _ q => q) (fun _ _ _ q => q) (fun b ps q => ⟨#[], by rw [q]; simp⟩) (fun m hm => ?_) (fun b u q => ?_) z2
    · obtain ⟨f0, f1, f2, f3, f4, f5⟩ := (G.own b hb).1
      exact ⟨f3, f1, f4, f5⟩
    · obtain ⟨ob, es, ep, ho, r⟩ := hm
      exact ⟨ob, es, ep, z3 _ ob (fun hb => (G.own _ hb).1.2.1 rfl) ho, r⟩
    · refine (G.inv.hok b u q).stay (fun c v hc y => z3 c v ?_ y) (fun _ y => y) fun _ _ y => y
      rcases hc with y | y
      · rw [y]; exact nS b u q
      · exact nS c _ y
  exact ⟨J, fun b hb => ⟨(G.own b hb).1, z4 b hb⟩, G.its, G.dis⟩
end

section
variable {α : Type}
/-- a consumer: what it makes of an item (it goes on, or ends), its end -/
structure Con (α : Type) where
  step : α → V → (α → Prop) → (V → Prop) → Prop
  fin : α → V → Prop
  mono : ∀ {a v} {k k' : α → Prop} {q : V → Prop}, step a v k q → (∀ b, k b → k' b) → step a v k' q
/-- the reading of a generator expression, consumed -/
def tTurn (C : Con α) (J : It) (g : TG) (tt : TT) (te : TE) (σ0 : L2.St) (vs : List Nat) (Q : VK) (W : Nat → Nat → α → Hp → Prop) : Prop := ∀ i m acc H, W i m acc H →
  (J.stop i H ∧ ∀ v, C.fin acc v → Q v H) ∨ (J.go i H ∧ ∀ x H', J.yld i H x H' → g x σ0 H' fun σ2 H2 => wipe σ2 vs = σ0 ∧ tt σ2 H2 fun b H3 =>
    if b = true then te σ2 H3 fun y H4 => C.step acc y (fun acc' => ∃ m', m' < m ∧ W (i + 1) m' acc' H4) (fun v => Q v H4) else ∃ m', m' < m ∧ W (i + 1) m' acc H3)
variable (Xg : Cx) (Sx fp : List Addr) (C : Con α) (at_ : Heap → α → Prop) (σ0 : L2.St) (Q : VK)
def GY : Protocol := fun _ s₀ v s kap =>
  ∃ acc y σ2 H, ∃ K : α → Prop, at_ s₀.heap acc ∧ RelV y v ∧ GIx Xg Sx fp σ2 H s ∧ (∀ b ∈ Sx, s.heap.get? b = s₀.heap.get? b) ∧ C.step acc y K (fun v => Q v H) ∧
    ∀ acc' s', K acc' → SleptX Sx s s' → at_ s'.heap acc' → kap (.send .none) s'
def GR (_ : Nat) (s₀ s : Shared) : Prop := ∃ acc H, at_ s₀.heap acc ∧ GIx Xg Sx fp σ0 H s ∧ (∀ b ∈ Sx, s.heap.get? b = s₀.heap.get? b) ∧ ∀ v, C.fin acc v → Q v H
variable {Xg Sx fp C at_ σ0 Q} {W : Nat → Nat → α → Hp → Prop}
theorem seg_gen {Aw : Around} {tg iter elt : Expr} {ifs : List Expr} {scope : Scope} {pos : Pos} {it : Addr} {tn : Nat → Heap → Prop} {J : It} {g : TG} {tt : TT} {te : TE} {vs : List Nat}
    (hA : Aw.deeper Xg.env = Xg.A) (hx : Xg.xe = fun _ _ => False) (hc : Xg.calm = true) (hco : Xg.env.scope.isCoroutine = false)
    (T : Turn Xg.prog Xg.w Xg.K tg J fp it tn) (pg : PG Xg tg g) (pt : PTs Xg ifs tt) (pe : PE Xg elt te) (turn : tTurn C J g tt te σ0 vs Q W) (hwp : wipe σ0 vs = σ0) :
    ∀ (m n i : Nat) (acc : α) (H : Hp) (s₀ s : Shared), m < n → W i m acc H → at_ s₀.heap acc → GIx Xg Sx fp σ0 H s → tn i s.heap → (∀ b ∈ Sx, s.heap.get? b = s₀.heap.get? b) →
      Seg (model Xg.prog Xg.w) Aw (fun n s₀ r s₁ => r = .ok .next ∧ GR Xg Sx fp C at_ σ0 Q n s₀ s₁) (GY Xg Sx fp C at_ Q) n s₀
        (.compLoop (.GeneratorExp elt [⟨tg, iter, ifs, 0⟩] scope pos) 0 (.ref it) .none Xg.env)
        ((model Xg.prog Xg.w).den (.compLoop (.GeneratorExp elt [⟨tg, iter, ifs, 0⟩] scope pos) 0 (.ref it) .none Xg.env)) [] s := by
  have hover : Aw.over (.compLoop (.GeneratorExp elt [⟨tg, iter, ifs, 0⟩] scope pos) 0 (.ref it) .none Xg.env) [] = Xg.A := by rw [← hA]; rfl
  have hxe : ∀ (u : Value) (s : Shared), ¬ Xg.xe u s := fun u s z => by rw [hx] at z; exact z
  intro m
  induction m using Nat.strongRecOn with
  | ind m ih =>
    intro n i acc H s₀ s hmn w hat G st hS
    obtain ⟨I1, f1⟩ := G.pinned
    show Seg _ Aw _ _ n s₀ _ ((compTurn (.GeneratorExp elt [⟨tg, iter, ifs, 0⟩] scope pos) 0 (.ref it) .none Xg.env).onRaise (leaving Xg.env)) [] s
    rw [compTurn_gen, Sem.onRaise_eq_wrap]
    refine seg_bind_wrap (wpAny_standAt ?_)
    rcases turn i m acc H w with ⟨stop, qq⟩ | ⟨go, step⟩
    · refine seg_bind_wrap ?_
      rw [hover]
      refine wpAny_mono (T.done Xg rfl rfl rfl hc i _ s σ0 H (fun _ _ => False) I1 f1 st stop) (fun r s1 ⟨hr, J1⟩ => ?_) fun _ _ z => z.elim
      subst hr
      have G1 : GIx Xg Sx fp σ0 H s1 := G.again (pl := []) (by rw [List.append_nil]; exact J1) fun b hb => (G.its b hb).1
      exact seg_end (.ok .next) ⟨rfl, acc, H, hat, G1, fun b hb => (G.same (pl := []) (by rw [List.append_nil]; exact J1) b hb).trans (hS b hb), qq⟩
    · refine seg_bind_wrap ?_
      rw [hover]
      refine wpAny_mono (T.item Xg rfl rfl rfl hc i _ s σ0 H (fun _ _ => False) I1 f1 st go) (fun r s1 ⟨u, hr, h1⟩ => ?_) fun _ _ z => z.elim
      subst hr
      refine seg_bind_wrap ?_
      rw [hover]
      refine wpAny_mono h1 (fun _ s2 ⟨x, H2, I2, r2, y2, st2, n2⟩ => ?_) fun _ _ z => z.elim
      have f2 : ∀ b ∈ fp, FpOk Xg (pinsAt Sx s.heap) H2 b := fun b hb => FpOk.at (f1 b hb) (n2 b hb)
      have I2' := I2.pinned f2 (T.obj _ _ st2)
      refine seg_bind_wrap ?_
      rw [hover]
      refine wpAny_mono (pg.run _ s2 σ0 H2 x u _ I2' r2 (step x H2 y2)) (fun _ s3 ⟨σ3, H3, I3, hw3, q3⟩ => ?_) fun u s' z => (hxe u s' z).elim
      refine seg_bind_wrap ?_
      rw [hover]
      refine wpAny_mono (pt.run _ s3 σ3 H3 _ I3 q3) (fun b s4 ⟨H4, I4, q4⟩ => ?_) fun u s' z => (hxe u s' z).elim
      have fin : ∀ {s' : Shared} {H' : Hp}, Inv Xg (pinsAt Sx s.heap ++ pinsAt fp s2.heap) σ3 H' s' → GIx Xg Sx fp σ3 H' s' ∧ tn (i + 1) s'.heap ∧ ∀ b ∈ Sx, s'.heap.get? b = s₀.heap.get? b := fun {s' H'} I' => by
        have pin' : ∀ b ∈ fp, ∀ o, s2.heap.get? b = some o → s'.heap.get? b = some o ∧ H' b = none := fun b hb o e =>
          let z := I'.pin (b, o) (List.mem_append_right _ (List.mem_append_right _ (mem_pinsAt hb e)))
          ⟨z.1, z.2.1⟩
        refine ⟨G.again I' fun b hb => ?_, T.keep _ _ _ st2 fun b hb o e => (pin' b hb o e).1, fun b hb => (G.same I' b hb).trans (hS b hb)⟩
        obtain ⟨o, e, _⟩ := T.obj _ _ st2 b hb
        exact (pin' b hb o e).2
      have weak : ∀ {s' : Shared} {H' : Hp}, GIx Xg Sx fp σ3 H' s' → GIx Xg Sx fp σ0 H' s' := fun {s' H'} G' =>
        ⟨G'.inv.weak (by rw [← hw3, wipe_length]) fun j v e => by rw [← hw3] at e; exact (wipe_some e).1, G'.own, G'.its, G'.dis⟩
      cases b with
      | false =>
        simp only [Bool.false_eq_true, if_false] at q4 ⊢
        obtain ⟨m', hm, w'⟩ := q4
        obtain ⟨G4, st4, hS4⟩ := fin I4
        exact seg_again rfl (ih m' hm n (i + 1) acc H4 s₀ s4 (by omega) w' hat (weak G4) st4 hS4)
      | true =>
        simp only [if_true] at q4 ⊢
        have hy : ∀ v, yieldOut Xg.env v = yieldValue v := fun v => by simp only [yieldOut, hco, Bool.false_eq_true, if_false]
        simp only [hy]
        rw [Sem.bind_eq_wrap', Sem.bind_eq_wrap', Sem.wrap_wrap, Sem.wrap_wrap]
        refine seg_wrap ?_
        rw [hover]
        refine wpAny_mono (pe.run _ s4 σ3 H4 _ I4 q4) (fun v s5 ⟨yv, H5, I5, r5, q5⟩ => ?_) fun u s' z => (hxe u s' z).elim
        obtain ⟨G5, st5, hS5⟩ := fin I5
        obtain ⟨n, rfl⟩ : ∃ k, n = k + 1 := ⟨n - 1, by omega⟩
        refine seg_at (seg_yield rfl rfl rfl ⟨acc, yv, σ3, H5, _, hat, r5, G5, hS5, q5, fun acc' s' hK z hat' => ?_⟩)
        obtain ⟨m', hm, w'⟩ := hK
        refine seg_again rfl (ih m' hm n (i + 1) acc' H5 s' s' (by omega) w' hat' (weak (G5.woken z)) ?_ fun _ _ => rfl)
        exact T.keep _ _ _ st5 fun b hb o e => z.keep b o (fun zz => G5.dis b zz hb) e
end
end GX
set_option Elab.async false
set_option linter.all false
set_option maxRecDepth 100000
set_option maxHeartbeats 4000000
/-! GX 4: a generator expression's items are drawn; any, sum. -/
namespace GX
open PySem PySem.Spec PyProof.Rows L2 GenW

section
variable {α : Type}
variable (Xg : Cx) (Sx fp : List Addr) (C : Con α) (at_ : Heap → α → Prop) (σ0 : L2.St) (Q : VK) (Aw : Around) (a : Addr) (g : Nat)
/-- the generator at a (number g) is ready to be drawn, n items at most; its consumer has reckoned acc -/
def Ready (n : Nat) (acc : α) (s : Shared) : Prop := s.heap.IsGen a g ∧ s.heap.NoLimit ∧ at_ s.heap acc ∧ ∃ gs, s.gens[g]? = some gs ∧
  gs.Goes (model Xg.prog Xg.w) Aw (fun n s₀ r s₁ => r = .ok .next ∧ GR Xg Sx fp C at_ σ0 Q n s₀ s₁) (GY Xg Sx fp C at_ Q) n (.send .none) (s.setGen g .running)
variable {Xg Sx fp C at_ σ0 Q Aw a g}
theorem next_gen {A : Around} {go : Obj} {nm qn : Value} {n : Nat} {acc : α} {s : Shared} {Qk : Option Value → Shared → Prop} {E : Value → Shared → Prop} (hfun : ∀ h x y, at_ h x → at_ h y → x = y)
    (hpn : Xg.pn = [(a, go)]) (g1 : go.cls = .type "generator") (g2 : go.data = .fields #[.int g 0, nm, qn]) (g3 : go.slots = #[]) (hAw : Aw = A.in1) (hh : A.handled = none) (hroom : A.depth < recursionLimit)
    (h : Ready Xg Sx fp C at_ σ0 Q Aw a g n acc s)
    (hend : ∀ H s', GIx Xg Sx fp σ0 H s' → (∀ v, C.fin acc v → Q v H) → Qk none s')
    (hitem : ∀ y v H σ2 s', RelV y v → GIx Xg Sx fp σ2 H s' → (∀ b ∈ Sx, s'.heap.get? b = s.heap.get? b) →
      C.step acc y (fun acc' => ∀ s'', SleptX Sx s' s'' → s''.gens = s'.gens → at_ s''.heap acc' → ∃ k, n = k + 1 ∧ Ready Xg Sx fp C at_ σ0 Q Aw a g k acc' s'') (fun v => Q v H) → Qk (some v) s') :
    wpAny (model Xg.prog Xg.w) A (pyNext (.ref a)) Qk E s := by
  subst hAw
  obtain ⟨hg, hl, hat, gs, hgs, hgo⟩ := h
  have hgl : g < s.gens.size := (Array.getElem?_eq_some_iff.mp hgs).1
  refine wpAny_gsz (n := g + 1) hgl ?_
  refine wpAny_pyNext_genexpQ hh hl hroom hg hgs hgo (fun v s₁ gs' hb hv => ?_) (fun s₁ hp h' hk => ?_)
  · intro hsz
    obtain ⟨acc0, y, σ2, H, K, hat0, rv, G, hS, hst, kap⟩ := hv
    have e0 : acc0 = acc := hfun _ _ _ hat0 hat
    subst e0
    have hsz1 : g < s₁.gens.size := by
      have q : (s₁.setGen g gs').gens.size = s₁.gens.size := setGen_size _ _ _
      have hsz' : g + 1 ≤ (s₁.setGen g gs').gens.size := hsz
      omega
    have z0 : SleptX Sx s₁ (s₁.setGen g gs') := ⟨rfl, allBare_setGen G.inv.bare hb, fun b o _ e => e, fun b hb => (G.own b hb).2⟩
    have G1 := G.woken z0
    refine hitem y v H σ2 _ rv G1 hS (C.mono hst fun acc' hK s'' z hgen hat' => ?_)
    have G2 := G1.woken z
    have z2 : SleptX Sx s₁ (s''.setGen g .running) := ⟨z.os, allBare_setGen z.bare rfl, fun b o hb e => z.keep b o hb e, z.own⟩
    have hk := kap acc' (s''.setGen g .running) hK z2 hat'
    cases n with
    | zero => exact hk.elim
    | succ k =>
      refine ⟨k, rfl, ⟨go, nm, qn, ?_, g1, g2, g3⟩, G2.inv.nolimit, hat', gs', by rw [hgen]; exact setGen_at hsz1, hk⟩
      exact (G2.inv.pin (a, go) (List.mem_append_left _ (by rw [hpn]; exact List.mem_singleton.mpr rfl))).1
  · intro hsz
    obtain ⟨acc0, H, hat0, G, hS, hq⟩ := hp
    have e0 : acc0 = acc := hfun _ _ _ hat0 hat
    subst e0
    have z0 : SleptX Sx s₁ { s₁.setGen g .finished with heap := h' } := ⟨rfl, allBare_setGen (x := .finished) G.inv.bare rfl, fun b o _ e => hk b o e, fun b hb => by
      obtain ⟨_, o, ho, hd⟩ := G.own b hb
      exact ⟨o, hk b o ho, hd⟩⟩
    exact hend H _ (G.woken z0) hq
end

/-! ### any -/
def conAny : Con Unit where
  step := fun _ y k q => ∃ b, y = .bl b ∧ (b = true → q (.bl true)) ∧ (b = false → k ())
  fin := fun _ v => v = .bl false
  mono := fun ⟨b, e, h1, h2⟩ hk => ⟨b, e, h1, fun z => hk _ (h2 z)⟩
def atAny : Heap → Unit → Prop := fun _ _ => True
theorem any_loop {Xg : Cx} {fp : List Addr} {σ0 : L2.St} {Q : VK} {A : Around} {a : Addr} {g : Nat} {go : Obj} {nm qn : Value} {R : Result → Shared → Prop}
    (hpn : Xg.pn = [(a, go)]) (g1 : go.cls = .type "generator") (g2 : go.data = .fields #[.int g 0, nm, qn]) (g3 : go.slots = #[]) (hh : A.handled = none) (hroom : A.depth < recursionLimit)
    (hR : ∀ b H σ2 s', GIx Xg [] fp σ2 H s' → Q (.bl b) H → R (.ok (.ret (.bool b))) s') :
    ∀ (n : Nat) (s : Shared), Ready Xg [] fp conAny atAny σ0 Q A.in1.in1 a g n () s → codeAny (model Xg.prog Xg.w) A (.builtin "any.loop" ⟨[.ref a], []⟩) R s := by
  intro n
  induction n with
  | zero =>
    intro s h
    refine codeAny_builtin F.entry_any_loop ?_
    rw [Around.under_plainId F.plain_any_loop _]
    show wpAny _ A.in1 (pyNext (.ref a) >>= _) _ _ s
    refine wpAny_bind (next_gen (A := A.in1) (fun _ _ _ _ _ => rfl) hpn g1 g2 g3 rfl hh hroom h (fun H s' G hq => ?_) (fun y v H σ2 s' rv G _ hst => ?_))
    · exact wpAny_bind (wpAny_rule (wpAny_pure (hR false H _ s' G (hq _ rfl))))
    · obtain ⟨b, rfl, h1, h2⟩ := hst
      obtain rfl : v = Value.bool b := rv
      refine wpAny_bind (wpAny_holding (wpAny_truthy_bool ?_))
      refine wpAny_bind (wpAny_letGo ?_)
      cases b with
      | true =>
        simp only [if_true]
        exact wpAny_bind (wpAny_rule (wpAny_pure (hR true H _ s' G (h1 rfl))))
      | false =>
        obtain ⟨k, z, _⟩ := h2 rfl s' ⟨rfl, G.inv.bare, fun _ _ _ e => e, fun b hb => (G.own b hb).2⟩ rfl trivial
        cases z
  | succ n ih =>
    intro s h
    refine codeAny_builtin F.entry_any_loop ?_
    rw [Around.under_plainId F.plain_any_loop _]
    show wpAny _ A.in1 (pyNext (.ref a) >>= _) _ _ s
    refine wpAny_bind (next_gen (A := A.in1) (fun _ _ _ _ _ => rfl) hpn g1 g2 g3 rfl hh hroom h (fun H s' G hq => ?_) (fun y v H σ2 s' rv G _ hst => ?_))
    · exact wpAny_bind (wpAny_rule (wpAny_pure (hR false H _ s' G (hq _ rfl))))
    · obtain ⟨b, rfl, h1, h2⟩ := hst
      obtain rfl : v = Value.bool b := rv
      refine wpAny_bind (wpAny_holding (wpAny_truthy_bool ?_))
      refine wpAny_bind (wpAny_letGo ?_)
      cases b with
      | true =>
        simp only [if_true]
        exact wpAny_bind (wpAny_rule (wpAny_pure (hR true H _ s' G (h1 rfl))))
      | false =>
        obtain ⟨k, z, hk⟩ := h2 rfl s' ⟨rfl, G.inv.bare, fun _ _ _ e => e, fun b hb => (G.own b hb).2⟩ rfl trivial
        cases z
        simp only [Bool.false_eq_true, if_false]
        exact wpAny_pure ⟨plainId_quiet F.plain_any_loop _, ih s' hk⟩

/-! ### sum -/
def conSum : Con Int where
  step := fun acc y k _ => ∃ n, y = .int n ∧ InLong n ∧ InLong (acc + n) ∧ k (acc + n)
  fin := fun acc v => v = .int acc
  mono := fun ⟨n, e, h1, h2, h3⟩ hk => ⟨n, e, h1, h2, hk _ h3⟩
def atSum (S : Addr) : Heap → Int → Prop := fun h acc => ∃ t c, h.get? S = some { cls := .type "list", dict := none, data := .seq #[.int acc t] c, slots := #[] }
theorem atSum_fun {S : Addr} : ∀ h x y, atSum S h x → atSum S h y → x = y := fun h x y ⟨t, c, e⟩ ⟨t', c', e'⟩ => by
  rw [e] at e'
  have e2 := congrArg Obj.data (Option.some.inj e')
  injection e2 with e3 _
  have e4 : (#[Value.int x t] : Array Value).toList = (#[Value.int y t'] : Array Value).toList := by rw [e3]
  injection e4 with e5 _
  injection e5
theorem sum_loop {Xg : Cx} {fp : List Addr} {σ0 : L2.St} {Q : VK} {A : Around} {a S : Addr} {g : Nat} {go : Obj} {nm qn : Value} {R : Result → Shared → Prop}
    (hpn : Xg.pn = [(a, go)]) (g1 : go.cls = .type "generator") (g2 : go.data = .fields #[.int g 0, nm, qn]) (g3 : go.slots = #[]) (hh : A.handled = none) (hroom : A.depth < recursionLimit)
    (hR : ∀ i t H σ2 s', GIx Xg [S] fp σ2 H s' → Q (.int i) H → R (.ok (.ret (.int i t))) s') :
    ∀ (n : Nat) (acc : Int) (s : Shared), Ready Xg [S] fp conSum (atSum S) σ0 Q A.in1.in1 a g n acc s → codeAny (model Xg.prog Xg.w) A (.builtin "sum.loop" ⟨[.ref a, .ref S, rawInt 0, rawInt 0], []⟩) R s := by
  have one : ∀ (n : Nat) (acc : Int) (s : Shared), Ready Xg [S] fp conSum (atSum S) σ0 Q A.in1.in1 a g n acc s →
      (∀ k, n = k + 1 → ∀ acc' s', Ready Xg [S] fp conSum (atSum S) σ0 Q A.in1.in1 a g k acc' s' → codeAny (model Xg.prog Xg.w) A (.builtin "sum.loop" ⟨[.ref a, .ref S, rawInt 0, rawInt 0], []⟩) R s') →
      codeAny (model Xg.prog Xg.w) A (.builtin "sum.loop" ⟨[.ref a, .ref S, rawInt 0, rawInt 0], []⟩) R s := by
    intro n acc s h ih
    obtain ⟨t, c, hS⟩ := h.2.2.1
    refine codeAny_builtin F.entry_sum_loop ?_
    rw [Around.under_plainId F.plain_sum_loop _]
    show wpAny _ A.in1 (seqItems? (.ref S) >>= _) _ _ s
    refine wpAny_bind (wpAny_seqItems hS rfl ?_)
    show wpAny _ A.in1 (tryCatch (pyNext (.ref a)) _ >>= _) _ _ s
    refine wpAny_bind (wpAny_tryCatch (next_gen (A := A.in1) atSum_fun hpn g1 g2 g3 rfl hh hroom h (fun H s' G hq => ?_) (fun y v H σ2 s' rv G hSx hst => ?_)))
    · exact wpAny_pure (hR acc t H _ s' G (hq _ rfl))
    · obtain ⟨m, rfl, ⟨f1, f2⟩, ⟨f3, f4⟩, hk⟩ := hst
      obtain ⟨tv, rfl⟩ := rv
      have hS' := (hSx S (List.mem_singleton.mpr rfl)).trans hS
      have hc : ((decide (-(2 ^ 63) ≤ m) && decide (m < 2 ^ 63)) && (decide (-(2 ^ 63) ≤ acc + m) && decide (acc + m < 2 ^ 63))) = true := by
        simp only [Bool.and_eq_true, decide_eq_true_eq]
        exact ⟨⟨f1, f2⟩, f3, f4⟩
      show wpAny _ A.in1 (if (_ : Bool) = true then (mkInt (acc + m) >>= _) else _) _ _ _
      split
      · refine wpAny_bind (wpAny_mkInt ?_)
        show wpAny _ A.in1 (updateSeq S (fun _ => #[.int (acc + m) s'.toks]) >>= _) _ _ _
        refine wpAny_bind ?_
        refine wpAny_updateSeq hS' rfl (wpAny_pure ⟨plainId_quiet F.plain_sum_loop _, ?_⟩)
        have hnew := Heap.get?_update_self (Obj.mapSeq fun _ => #[Value.int (acc + m) s'.toks]) hS' rfl
        have z : SleptX [S] s' { s' with heap := s'.heap.update S (Obj.mapSeq fun _ => #[.int (acc + m) s'.toks]), toks := s'.toks + 1 } := by
          refine ⟨rfl, G.inv.bare, fun b o hb e => (Heap.get?_update_other _ _ (fun z : S = b => hb (by rw [z]; exact List.mem_singleton.mpr rfl))).trans e, fun b hb => ?_⟩
          have eb : b = S := List.mem_singleton.mp hb
          subst eb
          exact ⟨_, hnew, fun v z => by cases z⟩
        obtain ⟨k, e, hr⟩ := hk _ z rfl ⟨_, _, hnew⟩
        exact ih k e _ _ hr
      · rename_i hneg
        exact absurd hc hneg
  intro n
  induction n with
  | zero => exact fun acc s h => one 0 acc s h fun k e => by cases e
  | succ n ih => exact fun acc s h => one (n + 1) acc s h fun k e acc' s' hr => by cases e; exact ih acc' s' hr
end GX
set_option Elab.async false
set_option linter.all false
set_option maxRecDepth 100000
set_option maxHeartbeats 4000000
/-! GX 5: a generator expression is made; the rules for any(..) and sum(..). -/
namespace GX
open PySem PySem.Spec PyProof.Rows L2 GenW

structure Grown (av : Addr) (d : Nat) (P : Addr) (H H1 : Hp) (cv : Value) : Prop where
  keep : ∀ b o, H b = some o → b ≠ P → H1 b = some o
  tab : ∀ e P2, TabD av e H P2 → TabD av e H1 P2
  tbl : ∃ ps, H P = some (.tbl ps) ∧ ∃ more, H1 P = some (.tbl (ps ++ more)) ∧ TriplesOk (ps ++ more).toList
  cv : ∀ e, d = e + 1 → ∃ (c P' : Addr), cv = .ref c ∧ H1 c = some (CodeX c P') ∧ P' ≠ av ∧ TabD av e H1 P'
/-- the reading of a generator expression that C consumes; code: the maker's code object -/
def tGenP {α : Type} (av : Addr) (acc0 : α) (base : Heap) (code : Value) (d : Nat) (wi : TI) (TP : Value → It → L2.St → VK → (Nat → Nat → α → Hp → Prop) → Prop) (vs : List Nat) : TE := fun σ H Q =>
  wi σ H fun J H1 => ∃ c P, code = .ref c ∧ (PySem.W.CodeHd base c P ∨ H1 c = some (CodeX c P)) ∧ TabD av d H1 P ∧ ∀ cv H2, Grown av d P H1 H2 cv →
    ∃ W : Nat → Nat → α → Hp → Prop, (∃ m, W 0 m acc0 H2) ∧ TP cv J (wipe σ vs) Q W
/-- .. of one clause -/
def tGen {α : Type} (av : Addr) (C : Con α) (acc0 : α) (base : Heap) (code : Value) (d : Nat) (wi : TI) (g : TG) (tt : TT) (te : Value → TE) (vs : List Nat) : TE :=
  tGenP av acc0 base code d wi (fun cv J σ0 Q W => tTurn C J g tt (te cv) σ0 vs Q W) vs
theorem eval_GeneratorExpN (elt target iter : Expr) (ifs : List Expr) (more : List Comprehension) (scope : Scope) (pos : Pos) (env : Env) (hco : scope.isCoroutine = false) :
    eval (.GeneratorExp elt (⟨target, iter, ifs, 0⟩ :: more) scope pos) env = (do
      let x ← eval iter env
      standAt iter.pos
      let x ← genFold iter env x
      let it ← holding [x] (pyIter x)
      enterFrame
      let cl ← closureFor scope env
      let code ← genexprCode env pos (env.qual ++ "<genexpr>") scope
      let bi ← builtinsFor env.globals env.builtins
      let cenv ← newFunctionEnv scope env.globals cl [(".0", it)] (env.qual ++ "<genexpr>.") none code none bi
      newGenerator (.compStart (.GeneratorExp elt (⟨target, iter, ifs, 0⟩ :: more) scope pos) 0 it .none cenv) "<genexpr>" (env.qual ++ "<genexpr>")) := by
  rw [arm_eval_GeneratorExp]
  simp only [hco, Bool.false_eq_true, if_false]
  cases iter <;> rfl

theorem wipe_in {σ : L2.St} {i : Nat} : ∀ {vs : List Nat}, i ∈ vs → i < σ.length → (wipe σ vs)[i]? = some none
  | v :: vs, hi, hl => by
    unfold wipe
    by_cases e : v = i
    · subst e
      exact List.getElem?_set_self (by rw [wipe_length]; exact hl)
    · rw [List.getElem?_set_ne e]
      rcases List.mem_cons.mp hi with z | z
      · exact absurd z.symm e
      · exact wipe_in z hl
theorem wipe2 (σ : L2.St) (vs : List Nat) : wipe (wipe σ vs) vs = wipe σ vs := by
  apply List.ext_getElem?
  intro i
  by_cases hi : i ∈ vs
  · by_cases hl : i < σ.length
    · rw [wipe_in hi hl, wipe_in hi (by rw [wipe_length]; exact hl)]
    · rw [List.getElem?_eq_none (by rw [wipe_length, wipe_length]; omega), List.getElem?_eq_none (by rw [wipe_length]; omega)]
  · rw [wipe_out hi]
section
variable {X : Cx} {pins : List (Addr × Obj)} {σ : L2.St} {H : Hp} {s : Shared}
theorem gCx_pn {A : Around} {genv : Env} {fp : List Addr} {pn : List (Addr × Obj)} {s1 : Shared} {σ' : L2.St} {H' : Hp} (I : Inv (gCx X A s H genv fp []) [] σ' H' s1)
    (h : ∀ p ∈ pn, s1.heap.get? p.1 = some p.2 ∧ H' p.1 = none ∧ p.1 ≠ genv.locals ∧ p.1 ∉ frs X.stack ∧ ∀ v, p.2.data ≠ .cell v) : Inv (gCx X A s H genv fp pn) [] σ' H' s1 :=
  ⟨⟨I.ok.mod, I.ok.kind, I.ok.glob, I.ok.blt, I.ok.above, I.ok.inj, I.ok.has, I.ok.cab, I.ok.hd, I.ok.frames, I.ok.stk, I.ok.exf, I.ok.bs, I.ok.bsz, I.ok.noex, I.ok.exfs, I.ok.funs, I.ok.frf⟩, I.os, I.bare, I.base, I.loc, I.cell, I.free, I.freeC,
    fun p hp => h p (by have hp : p ∈ pn ++ [] := hp; simpa using hp), I.hok, I.len⟩

/-- a generator at a, made and not begun -/
def Made {α : Type} (X : Cx) (pins : List (Addr × Obj)) (σ : L2.St) (C : Con α) (acc0 : α) (Q : VK) (a : Addr) (s' : Shared) : Prop :=
  ∃ (sg : Shared) (Hg : Hp) (genv : Env) (fp : List Addr) (σ0 : L2.St) (g : Nat) (go : Obj) (nm qn : Value) (n : Nat),
    go.cls = .type "generator" ∧ go.data = .fields #[.int g 0, nm, qn] ∧ go.slots = #[] ∧ s'.heap.get? a = some go ∧
    (∀ (at_ : Heap → α → Prop) (Sx : List Addr) (s'' : Shared), at_ s''.heap acc0 → s''.os = s'.os → s''.gens = s'.gens → (∀ b o, s'.heap.get? b = some o → s''.heap.get? b = some o) →
      (∀ b ∈ Sx, s'.heap.objs.size ≤ b ∧ ∃ o, s''.heap.get? b = some o ∧ ∀ v, o.data ≠ .cell v) → Ready (gCx X (X.A.in1.in1.deeper genv) sg Hg genv fp [(a, go)]) Sx fp C at_ σ0 Q X.A.in1.in1 a g n acc0 s'') ∧
    ∀ Sx σ2 H' s'', GIx (gCx X (X.A.in1.in1.deeper genv) sg Hg genv fp [(a, go)]) Sx fp σ2 H' s'' → Inv X pins σ H' s''

/-- what the block's loop is to be shown -/
def SegOk {α : Type} (X : Cx) (C : Con α) (k : Nat) (tg iter elt : Expr) (ifs : List Expr) (more : List Comprehension) (scope : Scope) (pos : Pos) (TP : Value → It → L2.St → VK → (Nat → Nat → α → Hp → Prop) → Prop) (vs : List Nat) : Prop :=
  ∀ (Aw : Around) (s : Shared) (H : Hp) (L : Addr) (cv : Value) (fp : List Addr) (pn : List (Addr × Obj)) (Sx : List Addr) (at_ : Heap → α → Prop) (σ0 : L2.St) (Q : VK) (W : Nat → Nat → α → Hp → Prop) (it : Addr) (tn : Nat → Heap → Prop) (J : It),
    Room k (Aw.deeper (gEnv X scope L cv builtinsNs)) → Turn X.prog X.w X.K tg J fp it tn → TP cv J σ0 Q W → wipe σ0 vs = σ0 →
    ∀ (m n i : Nat) (acc : α) (H1 : Hp) (s₀ s1 : Shared), m < n → W i m acc H1 → at_ s₀.heap acc → GIx (gCx X (Aw.deeper (gEnv X scope L cv builtinsNs)) s H (gEnv X scope L cv builtinsNs) fp pn) Sx fp σ0 H1 s1 → tn i s1.heap → (∀ b ∈ Sx, s1.heap.get? b = s₀.heap.get? b) →
      Seg (model X.prog X.w) Aw (fun n s₀ r s₁ => r = .ok .next ∧ GR (gCx X (Aw.deeper (gEnv X scope L cv builtinsNs)) s H (gEnv X scope L cv builtinsNs) fp pn) Sx fp C at_ σ0 Q n s₀ s₁)
        (GY (gCx X (Aw.deeper (gEnv X scope L cv builtinsNs)) s H (gEnv X scope L cv builtinsNs) fp pn) Sx fp C at_ Q) n s₀
        (.compLoop (.GeneratorExp elt (⟨tg, iter, ifs, 0⟩ :: more) scope pos) 0 (.ref it) .none (gEnv X scope L cv builtinsNs))
        ((model X.prog X.w).den (.compLoop (.GeneratorExp elt (⟨tg, iter, ifs, 0⟩ :: more) scope pos) 0 (.ref it) .none (gEnv X scope L cv builtinsNs))) [] s1
theorem gen_makeP {α : Type} {av : Addr} {C : Con α} {acc0 : α} {d k : Nat} {tg iter elt : Expr} {ifs : List Expr} {more : List Comprehension} {scope : Scope} {pos : Pos} {own : List (Str × Nat)} {wi : TI} {TP : Value → It → L2.St → VK → (Nat → Nat → α → Hp → Prop) → Prop} {Q : VK} {Qk : Value → Shared → Prop}
    (hr : Room (k + 1) X.A) (bm : BmOk X.base X.mg) (hN : X.N.Nodup) (hi : PI X tg iter wi) (ok : BlkOk X.N X.env.scope scope own) (hco : scope.isCoroutine = false) (h0 : scope.names.lookup (".0" : Str) = some .local)
    (hseg : SegOk X C k tg iter elt ifs more scope pos TP (own.map (·.2)))
    (hs : ∀ v, genFold iter X.env v = pure v) (I : Inv X pins σ H s) (h : tGenP av acc0 X.base X.env.code d wi TP (own.map (·.2)) σ H Q)
    (hQ : ∀ a s', Made X pins σ C acc0 Q a s' → Qk (.ref a) s') : wpAny (model X.prog X.w) X.A (eval (.GeneratorExp elt (⟨tg, iter, ifs, 0⟩ :: more) scope pos) X.env) Qk X.xe s := by
  have hfree : ∀ y ∈ scope.names, y.2 = .free → ∃ c, X.env.cells.lookup y.1 = some c := fun y hy e => by
    rcases ok.free y hy e with k | k
    · exact I.ok.has _ (.inl k)
    · exact I.ok.has _ (.inr k)
  rw [eval_GeneratorExpN _ _ _ _ _ _ _ _ hco, closure_ok hfree]
  refine wpAny_bind (thn (hi.run pins s σ H _ I h) fun xv s1 hx => ?_)
  refine wpAny_bind (wpAny_standAt ?_)
  refine wpAny_bind (wpAny_of_eq (hs xv) ?_)
  refine wpAny_bind (wpAny_holding (thn hx fun itv s2 h2 => ?_))
  obtain ⟨it, fp, tn, J, H2, e, I2, T, st2, f2, c, P, hcode, hcd, htab, q⟩ := h2
  subst e
  refine wpAny_bind (wpAny_enterFrame I2.nolimit (by have := hr.dp; omega) ?_)
  refine wpAny_bind (wpAny_pure ?_)
  refine wpAny_bind (gen_code I2 hcode hcd htab fun cv H3 s3 I3 cd => ?_)
  obtain ⟨bmA, ob, e1, e2, e3, e4, e5, e6⟩ := bm
  refine wpAny_bind (wpAny_builtinsFor (m := X.mg) (by rw [I3.ok.glob]; exact I3.mod.glob.keeps I3.bk) e1 e2 (I3.bk _ _ e3) e4 e5 e6 ?_)
  refine wpAny_bind (newEnv_gen ok.kind h0 fun h4 tk hn4 hs4 => ?_)
  show wpAny _ _ (newGenerator (.compStart (.GeneratorExp elt (⟨tg, iter, ifs, 0⟩ :: more) scope pos) 0 (.ref it) .none (gEnv X scope s3.heap.objs.size cv builtinsNs)) "<genexpr>" (X.env.qual ++ "<genexpr>")) _ _ _
  simp only [newGenerator, newFields]
  refine wpAny_bind (wpAny_newGen (wpAny_bind (wpAny_mkText (wpAny_bind (wpAny_mkText (wpAny_newObj_type ?_ (by size_fits)))))))
  generalize hgo : ({ cls := .type "generator", data := .fields #[rawInt s3.gens.size, .str "<genexpr>" tk, .str (X.env.qual ++ "<genexpr>") (tk + 1)] } : Obj) = go
  obtain ⟨W, ⟨m0, w0⟩, turn⟩ := q cv H3 ⟨cd.keep, cd.tab, cd.tbl, cd.cv⟩
  have hh : X.A.handled = none := hr.hd
  -- the iterator's objects
  have f3 : ∀ b ∈ fp, FpOk X pins H3 b ∧ b < s3.heap.objs.size := fun b hb => by
    obtain ⟨o, eo, _⟩ := T.obj _ _ st2 b hb
    exact ⟨FpOk.at (f2 b hb) (cd.free b o eo (f2 b hb).1), Nat.lt_of_lt_of_le (Heap.lt_size eo) cd.size⟩
  have st3 : tn 0 s3.heap := T.keep _ _ _ st2 fun b hb o eo => cd.heap b o (f2 b hb).1 eo
  have hA : (X.A.in1.in1.deeper (gEnv X scope s3.heap.objs.size cv builtinsNs)).frames = some (gEnv X scope s3.heap.objs.size cv builtinsNs :: X.stack) := Around.frames_deeper (A := X.A.in1.in1) I3.ok.frames
  have I4 := gen_start (A := X.A.in1.in1.deeper (gEnv X scope s3.heap.objs.size cv builtinsNs)) (tk := tk) I3 ok hN f3 hA hh hn4 hs4
  have kp4 : ∀ b o, s3.heap.get? b = some o → h4.get? b = some o := fun b o e => hs4.extBut b o (Nat.ne_of_lt (Heap.lt_size e)) (pushCells_keeps _ _ _ _ (Heap.get?_push_of_some _ e))
  have sz4 : s3.heap.objs.size < h4.objs.size := by
    have := hn4.lt
    exact this
  have hgl : (h4.push go).get? h4.objs.size = some go := by
    rw [← hgo]
    exact Heap.get?_push_size _ rfl
  have hgd : ∀ v, go.data ≠ .cell v := fun v z => by
    rw [← hgo] at z
    cases z
  generalize hs5 : ({ s3 with heap := h4.push go, gens := s3.gens.push (.fresh (.compStart (.GeneratorExp elt (⟨tg, iter, ifs, 0⟩ :: more) scope pos) 0 (.ref it) .none (gEnv X scope s3.heap.objs.size cv builtinsNs))), toks := tk + 1 + 1 } : Shared) = s5
  have h5 : s5.heap = h4.push go := by rw [← hs5]
  have g5 : s5.gens = s3.gens.push (.fresh (.compStart (.GeneratorExp elt (⟨tg, iter, ifs, 0⟩ :: more) scope pos) 0 (.ref it) .none (gEnv X scope s3.heap.objs.size cv builtinsNs))) := by rw [← hs5]
  have b5 : AllBare s5.gens := by
    rw [g5]
    exact AllBare.push I3.bare rfl
  have I5 : Inv (gCx X (X.A.in1.in1.deeper (gEnv X scope s3.heap.objs.size cv builtinsNs)) s3 H3 (gEnv X scope s3.heap.objs.size cv builtinsNs) fp []) [] (wipe σ (own.map (·.2))) H3 s5 := by
    have kp : ∀ b o, h4.get? b = some o → s5.heap.get? b = some o := fun b o e => by
      rw [h5]
      exact Heap.get?_push_of_some _ e
    refine I4.call' (ch := []) (by rw [← hs5]) (Un.kept kp) (I4.hok.kept kp) b5 fun b z => by simp at z
  have ha5 : s5.heap.get? h4.objs.size = some go := by
    rw [h5]
    exact hgl
  have na : H3 h4.objs.size = none := I4.hok.fresh (Nat.le_refl _)
  have I6 : Inv (gCx X (X.A.in1.in1.deeper (gEnv X scope s3.heap.objs.size cv builtinsNs)) s3 H3 (gEnv X scope s3.heap.objs.size cv builtinsNs) fp [(h4.objs.size, go)]) [] (wipe σ (own.map (·.2))) H3 s5 := by
    refine gCx_pn I5 fun p hp => ?_
    rw [List.mem_singleton.mp hp]
    refine ⟨ha5, na, Nat.ne_of_gt sz4, fun hm => ?_, hgd⟩
    have := I3.stkSub _ hm
    rcases List.mem_cons.mp this with z | z
    · have h1 := I3.lt
      rw [← z] at h1
      have h1' : h4.objs.size < s3.heap.objs.size := h1
      omega
    · exact I3.nofs (Nat.le_of_lt sz4) z
  have sz5 : s5.heap.objs.size = h4.objs.size + 1 := by rw [h5, Heap.size_push]
  have hgen : ∀ s'' : Shared, s''.heap.get? h4.objs.size = some go → s''.heap.IsGen h4.objs.size s3.gens.size := fun s'' e => ⟨go, _, _, e, by rw [← hgo], by rw [← hgo]; rfl, by rw [← hgo]⟩
  have goal : Made X pins σ C acc0 Q h4.objs.size s5 := by
    refine ⟨s3, H3, gEnv X scope s3.heap.objs.size cv builtinsNs, fp, wipe σ (own.map (·.2)), s3.gens.size, go, _, _, m0 + 1, by rw [← hgo], by rw [← hgo]; rfl, by rw [← hgo], ha5, fun at_ Sx s'' hat hos hge hk hSx => ?_, fun Sx σ2 H' s'' G => ?_⟩
    · have I7 : Inv (gCx X (X.A.in1.in1.deeper (gEnv X scope s3.heap.objs.size cv builtinsNs)) s3 H3 (gEnv X scope s3.heap.objs.size cv builtinsNs) fp [(h4.objs.size, go)]) [] (wipe σ (own.map (·.2))) H3 s'' :=
        I6.call' (ch := []) hos (Un.kept hk) (I6.hok.kept hk) (by rw [hge]; exact b5) fun b z => by simp at z
      have G7 : GIx (gCx X (X.A.in1.in1.deeper (gEnv X scope s3.heap.objs.size cv builtinsNs)) s3 H3 (gEnv X scope s3.heap.objs.size cv builtinsNs) fp [(h4.objs.size, go)]) Sx fp (wipe σ (own.map (·.2))) H3 s'' := by
        refine ⟨I7, fun b hb => ⟨I6.fpOk (hSx b hb).1 (I6.hok.fresh (hSx b hb).1), (hSx b hb).2⟩, fun b hb => ⟨(f3 b hb).1.1, (I7.ok.exf b hb).1, I7.ok.exfs b hb, .inl hb, fun x c e => (I7.ok.exf b hb).2 x c e, fun p hp => ?_⟩, fun b hb hf => ?_⟩
        · have hp' : p = (h4.objs.size, go) := by have hp : p ∈ [(h4.objs.size, go)] ++ [] := hp; simpa using hp
          rw [hp']
          have := (f3 b hb).2
          exact fun z => by
            have z' : h4.objs.size = b := z
            have q : s3.heap.objs.size < b := by rw [← z']; exact sz4
            exact Nat.lt_irrefl _ (Nat.lt_trans q this)
        · have h1 := (hSx b hb).1
          have h2 := (f3 b hf).2
          rw [sz5] at h1
          exact Nat.lt_irrefl _ (Nat.lt_of_lt_of_le (Nat.lt_trans h2 sz4) (Nat.le_of_succ_le h1))
      have st7 : tn 0 s''.heap := T.keep _ _ _ st3 fun b hb o eo => hk b o (by rw [h5]; exact Heap.get?_push_of_some _ (kp4 b o eo))
      refine ⟨hgen s'' (hk _ _ ha5), I7.nolimit, hat, .fresh (.compStart (.GeneratorExp elt (⟨tg, iter, ifs, 0⟩ :: more) scope pos) 0 (.ref it) .none (gEnv X scope s3.heap.objs.size cv builtinsNs)), by rw [hge, g5]; exact Array.getElem?_push_size .., rfl, ?_⟩
      have z0 : SleptX Sx s'' (s''.setGen s3.gens.size .running) := ⟨rfl, allBare_setGen I7.bare rfl, fun b o _ e => e, fun b hb => (G7.own b hb).2⟩
      have loop := hseg X.A.in1.in1 s3 H3 s3.heap.objs.size cv fp [(h4.objs.size, go)] Sx at_ _ Q W it tn J (Room.gen hr _) T turn (wipe2 _ _)
        m0 (m0 + 1) 0 acc0 H3 (s''.setGen s3.gens.size .running) (s''.setGen s3.gens.size .running) (Nat.lt_succ_self _) w0 hat (G7.woken z0) st7 fun _ _ => rfl
      show Seg _ X.A.in1.in1 _ _ _ _ _ ((compStart (.GeneratorExp elt (⟨tg, iter, ifs, 0⟩ :: more) scope pos) 0 (.ref it) .none (gEnv X scope s3.heap.objs.size cv builtinsNs)).onRaise (leaving (gEnv X scope s3.heap.objs.size cv builtinsNs))) [] _
      unfold compStart
      rw [Sem.onRaise_eq_wrap]
      show Seg _ X.A.in1.in1 _ _ _ _ _ ((ask >>= _).wrap _ _ _ _) [] _
      refine seg_bind_wrap (wpAny_askSetting ?_)
      split
      · exact seg_again rfl loop
      · first
          | exact seg_bind_wrap (wpAny_rule (seg_bind_wrap (wpAny_standAt (seg_bind_wrap (T.self _ 0 _ _ _ st7 (seg_again rfl loop))))))
          | (refine seg_bind_wrap (wpAny_rule ?_); show Seg _ X.A.in1.in1 _ _ _ _ _ ((standAt iter.pos >>= _).wrap _ _ _ _) [] _; exact seg_bind_wrap (wpAny_standAt (seg_bind_wrap (T.self _ 0 _ _ _ st7 (seg_again rfl loop)))))
    · exact I3.call' (ch := fp) G.inv.os G.inv.base G.inv.hok G.inv.bare fun b hb => ⟨(f3 b hb).1.2.2.2.1, (f3 b hb).1.2.1, (f3 b hb).1.2.2.2.2.1, (f3 b hb).1.2.2.2.2.2⟩
  exact hQ _ _ goal
/-- one clause -/
theorem segOk1 {α : Type} {C : Con α} {k : Nat} {tg iter elt : Expr} {ifs : List Expr} {scope : Scope} {pos : Pos} {g : TG} {tt : TT} {te : Value → TE} {vs : List Nat} (hco : scope.isCoroutine = false)
    (hg : ∀ (A : Around) (s : Shared) (H : Hp) (C : Addr) (cv : Value) (fp : List Addr) (pn : List (Addr × Obj)), PG (gCx X A s H (gEnv X scope C cv builtinsNs) fp pn) tg g)
    (ht : ∀ (A : Around) (s : Shared) (H : Hp) (C : Addr) (cv : Value) (fp : List Addr) (pn : List (Addr × Obj)), Room k A → PTs (gCx X A s H (gEnv X scope C cv builtinsNs) fp pn) ifs tt)
    (he : ∀ (A : Around) (s : Shared) (H : Hp) (C : Addr) (cv : Value) (fp : List Addr) (pn : List (Addr × Obj)), Room k A → PE (gCx X A s H (gEnv X scope C cv builtinsNs) fp pn) elt (te cv)) :
    SegOk X C k tg iter elt ifs [] scope pos (fun cv J σ0 Q W => tTurn C J g tt (te cv) σ0 vs Q W) vs := fun Aw s H L cv fp pn Sx at_ σ0 Q W it tn J hr T turn hw =>
  seg_gen (Xg := gCx X (Aw.deeper (gEnv X scope L cv builtinsNs)) s H (gEnv X scope L cv builtinsNs) fp pn) rfl rfl rfl hco T (hg _ _ _ _ _ _ _) (ht _ _ _ _ _ _ _ hr) (he _ _ _ _ _ _ _ hr) turn hw
theorem gen_make {α : Type} {av : Addr} {C : Con α} {acc0 : α} {d k : Nat} {tg iter elt : Expr} {ifs : List Expr} {scope : Scope} {pos : Pos} {own : List (Str × Nat)} {wi : TI} {g : TG} {tt : TT} {te : Value → TE} {Q : VK} {Qk : Value → Shared → Prop}
    (hr : Room (k + 1) X.A) (bm : BmOk X.base X.mg) (hN : X.N.Nodup) (hi : PI X tg iter wi) (ok : BlkOk X.N X.env.scope scope own) (hco : scope.isCoroutine = false) (h0 : scope.names.lookup (".0" : Str) = some .local)
    (hg : ∀ (A : Around) (s : Shared) (H : Hp) (C : Addr) (cv : Value) (fp : List Addr) (pn : List (Addr × Obj)), PG (gCx X A s H (gEnv X scope C cv builtinsNs) fp pn) tg g)
    (ht : ∀ (A : Around) (s : Shared) (H : Hp) (C : Addr) (cv : Value) (fp : List Addr) (pn : List (Addr × Obj)), Room k A → PTs (gCx X A s H (gEnv X scope C cv builtinsNs) fp pn) ifs tt)
    (he : ∀ (A : Around) (s : Shared) (H : Hp) (C : Addr) (cv : Value) (fp : List Addr) (pn : List (Addr × Obj)), Room k A → PE (gCx X A s H (gEnv X scope C cv builtinsNs) fp pn) elt (te cv))
    (hs : ∀ v, genFold iter X.env v = pure v) (I : Inv X pins σ H s) (h : tGen av C acc0 X.base X.env.code d wi g tt te (own.map (·.2)) σ H Q)
    (hQ : ∀ a s', Made X pins σ C acc0 Q a s' → Qk (.ref a) s') : wpAny (model X.prog X.w) X.A (eval (.GeneratorExp elt [⟨tg, iter, ifs, 0⟩] scope pos) X.env) Qk X.xe s :=
  gen_makeP hr bm hN hi ok hco h0 (segOk1 hco hg ht he) hs I h hQ
end
end GX
set_option Elab.async false
set_option linter.all false
set_option maxRecDepth 100000
set_option maxHeartbeats 4000000
/-! GX 6: any(..), sum(..) of a generator expression. -/
namespace GX
open PySem PySem.Spec PyProof.Rows L2 GenW
section
variable {X : Cx}
theorem pe_anyP {av : Addr} {d k : Nat} {tg iter elt : Expr} {ifs : List Expr} {scope : Scope} {gpos p pos : Pos} {more : List Comprehension} {own : List (Str × Nat)} {wi : TI} {TP : Value → It → L2.St → VK → (Nat → Nat → Unit → Hp → Prop) → Prop}
    (hr : Room (k + 1) X.A) (bm : BmOk X.base X.mg) (hgl : Gl X "any") (hm : X.mg "any" = none) (hN : X.N.Nodup) (hi : PI X tg iter wi) (ok : BlkOk X.N X.env.scope scope own) (hco : scope.isCoroutine = false) (h0 : scope.names.lookup (".0" : Str) = some .local)
    (hseg : SegOk X conAny k tg iter elt ifs more scope gpos TP (own.map (·.2)))
    (hs : ∀ v, genFold iter X.env v = pure v := by intro _; rfl)
    (hst : starEach [.GeneratorExp elt (⟨tg, iter, ifs, 0⟩ :: more) scope gpos] X.env = (false, eval (.GeneratorExp elt (⟨tg, iter, ifs, 0⟩ :: more) scope gpos) X.env) :: starEach [] X.env := by rfl) :
    PE X (.Call (.Name "any" p) [.GeneratorExp elt (⟨tg, iter, ifs, 0⟩ :: more) scope gpos] [] pos) (tGenP av () X.base X.env.code d wi TP (own.map (·.2))) := by
  refine ⟨fun pins s σ H Q I h => ?_⟩
  refine wpAny_Call_Name_kw (ld_blt I hgl hm boot_any ?_)
  refine PyProof.Rows.callWith_builtin1 ?_ hst (by rfl)
  rw [hst]
  show wpAny _ _ (spliced ((false, eval (.GeneratorExp elt (⟨tg, iter, ifs, 0⟩ :: more) scope gpos) X.env) :: backTo pos (starEach [] X.env))) _ _ s
  refine Calls.spliced_cons (gen_makeP hr bm hN hi ok hco h0 hseg hs I h fun a s' hM => ?_)
  refine Calls.spliced_nil ?_
  obtain ⟨sg, Hg, genv, fp, σ0, gn, go, nm, qn, n, g1, g2, g3, hgo, hrd, hback⟩ := hM
  have hh : X.A.handled = none := hr.hd
  have hdp : X.A.depth < recursionLimit := by have := hr.dp; omega
  have rd := hrd atAny [] s' trivial rfl rfl (fun _ _ e => e) (fun b hb => by cases hb)
  refine call_function_tree F.kind_any F.plain_any F.entry_any (F.args_any1 _) ?_
  unfold Builtin.«any»
  refine wpAny_bind (m := oneArg "any" _) (wpAny_pure ?_)
  refine wpAny_bind (wpAny_pyIter_gen rd.1 ?_)
  refine wpAny_pure ⟨plainId_quiet F.plain_any_loop _, ?_⟩
  exact any_loop (Xg := gCx X (X.A.in1.in1.deeper genv) sg Hg genv fp [(a, go)]) (σ0 := σ0) (Q := Q) rfl g1 g2 g3 hh hdp (fun b H' σ2 s'' G q => ⟨.bl b, H', hback _ _ _ _ G, rfl, q⟩) n s' rd
theorem pe_anyG {av : Addr} {d k : Nat} {tg iter elt : Expr} {ifs : List Expr} {scope : Scope} {gpos p pos : Pos} {own : List (Str × Nat)} {wi : TI} {g : TG} {tt : TT} {te : Value → TE}
    (hr : Room (k + 1) X.A) (bm : BmOk X.base X.mg) (hgl : Gl X "any") (hm : X.mg "any" = none) (hN : X.N.Nodup) (hi : PI X tg iter wi) (ok : BlkOk X.N X.env.scope scope own) (hco : scope.isCoroutine = false) (h0 : scope.names.lookup (".0" : Str) = some .local)
    (hg : ∀ (A : Around) (s : Shared) (H : Hp) (C : Addr) (cv : Value) (fp : List Addr) (pn : List (Addr × Obj)), PG (gCx X A s H (gEnv X scope C cv builtinsNs) fp pn) tg g)
    (ht : ∀ (A : Around) (s : Shared) (H : Hp) (C : Addr) (cv : Value) (fp : List Addr) (pn : List (Addr × Obj)), Room k A → PTs (gCx X A s H (gEnv X scope C cv builtinsNs) fp pn) ifs tt)
    (he : ∀ (A : Around) (s : Shared) (H : Hp) (C : Addr) (cv : Value) (fp : List Addr) (pn : List (Addr × Obj)), Room k A → PE (gCx X A s H (gEnv X scope C cv builtinsNs) fp pn) elt (te cv))
    (hs : ∀ v, genFold iter X.env v = pure v := by intro _; rfl)
    (hst : starEach [.GeneratorExp elt [⟨tg, iter, ifs, 0⟩] scope gpos] X.env = (false, eval (.GeneratorExp elt [⟨tg, iter, ifs, 0⟩] scope gpos) X.env) :: starEach [] X.env := by rfl) :
    PE X (.Call (.Name "any" p) [.GeneratorExp elt [⟨tg, iter, ifs, 0⟩] scope gpos] [] pos) (tGen av conAny () X.base X.env.code d wi g tt te (own.map (·.2))) :=
  pe_anyP hr bm hgl hm hN hi ok hco h0 (segOk1 hco hg ht he) hs hst
theorem pe_sumP {av : Addr} {d k : Nat} {tg iter elt : Expr} {ifs : List Expr} {scope : Scope} {gpos p pos : Pos} {more : List Comprehension} {own : List (Str × Nat)} {wi : TI} {TP : Value → It → L2.St → VK → (Nat → Nat → Int → Hp → Prop) → Prop}
    (hr : Room (k + 1) X.A) (bm : BmOk X.base X.mg) (hgl : Gl X "sum") (hm : X.mg "sum" = none) (hN : X.N.Nodup) (hi : PI X tg iter wi) (ok : BlkOk X.N X.env.scope scope own) (hco : scope.isCoroutine = false) (h0 : scope.names.lookup (".0" : Str) = some .local)
    (hseg : SegOk X conSum k tg iter elt ifs more scope gpos TP (own.map (·.2)))
    (hs : ∀ v, genFold iter X.env v = pure v := by intro _; rfl)
    (hst : starEach [.GeneratorExp elt (⟨tg, iter, ifs, 0⟩ :: more) scope gpos] X.env = (false, eval (.GeneratorExp elt (⟨tg, iter, ifs, 0⟩ :: more) scope gpos) X.env) :: starEach [] X.env := by rfl) :
    PE X (.Call (.Name "sum" p) [.GeneratorExp elt (⟨tg, iter, ifs, 0⟩ :: more) scope gpos] [] pos) (tGenP av 0 X.base X.env.code d wi TP (own.map (·.2))) := by
  refine ⟨fun pins s σ H Q I h => ?_⟩
  refine wpAny_Call_Name_kw (ld_blt I hgl hm boot_sum ?_)
  refine PyProof.Rows.callWith_builtin1 ?_ hst (by rfl)
  rw [hst]
  show wpAny _ _ (spliced ((false, eval (.GeneratorExp elt (⟨tg, iter, ifs, 0⟩ :: more) scope gpos) X.env) :: backTo pos (starEach [] X.env))) _ _ s
  refine Calls.spliced_cons (gen_makeP hr bm hN hi ok hco h0 hseg hs I h fun a s' hM => ?_)
  refine Calls.spliced_nil ?_
  obtain ⟨sg, Hg, genv, fp, σ0, gn, go, nm, qn, n, g1, g2, g3, hgo, hrd, hback⟩ := hM
  have hh : X.A.handled = none := hr.hd
  have hdp : X.A.depth < recursionLimit := by have := hr.dp; omega
  refine call_function_tree F.kind_sum F.plain_sum F.entry_sum (F.args_sum1 _) ?_
  unfold Builtin.«sum»
  simp only [List.length_cons, List.length_nil]
  rw [if_neg (by decide)]
  refine wpAny_bind (wpAny_of_eq (show Builtin.Builtins.bindParams "sum" ["start"] 0 { } = pure [none] from rfl) ?_)
  refine wpAny_bind (wpAny_pyIter_gen ⟨go, nm, qn, hgo, g1, g2, g3⟩ ?_)
  refine wpAny_bind (wpAny_mkInt ?_)
  refine wpAny_bind (wpAny_pure ?_)
  simp only [List.forIn_cons, List.forIn_nil]
  refine wpAny_bind (wpAny_bind (wpAny_bind (wpAny_isInstance (T := "int") (b := false) (typeIs_int _ _ _) PySem.sub_int_str ?_)))
  simp only [Bool.false_eq_true, if_false]
  refine wpAny_pure (wpAny_bind (wpAny_bind (wpAny_isInstance (T := "int") (b := false) (typeIs_int _ _ _) PySem.sub_int_bytes ?_)))
  simp only [Bool.false_eq_true, if_false]
  refine wpAny_pure (wpAny_bind (wpAny_bind (wpAny_isInstance (T := "int") (b := false) (typeIs_int _ _ _) PySem.sub_int_bytearray ?_)))
  simp only [Bool.false_eq_true, if_false]
  refine wpAny_pure (wpAny_pure ?_)
  refine wpAny_bind (wpAny_newObj_type ?_)
  have hSnew := Heap.get?_push_size s'.heap (o := { cls := .type "list", dict := none, data := .seq ([Value.int 0 s'.toks] : List Value).toArray }) rfl
  have rd := hrd (atSum s'.heap.objs.size) [s'.heap.objs.size] { s' with heap := s'.heap.push { cls := .type "list", data := .seq ([Value.int 0 s'.toks] : List Value).toArray }, toks := s'.toks + 1 } ⟨_, _, hSnew⟩ rfl rfl (fun _ _ e => Heap.get?_push_of_some _ e)
    (fun b hb => by
      have eb : b = s'.heap.objs.size := List.mem_singleton.mp hb
      subst eb
      exact ⟨Nat.le_refl _, _, hSnew, fun v z => by cases z⟩)
  refine wpAny_pure ⟨plainId_quiet F.plain_sum_loop _, ?_⟩
  exact sum_loop (Xg := gCx X (X.A.in1.in1.deeper genv) sg Hg genv fp [(a, go)]) (σ0 := σ0) (Q := Q) rfl g1 g2 g3 hh hdp (fun i t H' σ2 s'' G q => ⟨.int i, H', hback _ _ _ _ G, ⟨t, rfl⟩, q⟩) n 0 _ rd
theorem pe_sumG {av : Addr} {d k : Nat} {tg iter elt : Expr} {ifs : List Expr} {scope : Scope} {gpos p pos : Pos} {own : List (Str × Nat)} {wi : TI} {g : TG} {tt : TT} {te : Value → TE}
    (hr : Room (k + 1) X.A) (bm : BmOk X.base X.mg) (hgl : Gl X "sum") (hm : X.mg "sum" = none) (hN : X.N.Nodup) (hi : PI X tg iter wi) (ok : BlkOk X.N X.env.scope scope own) (hco : scope.isCoroutine = false) (h0 : scope.names.lookup (".0" : Str) = some .local)
    (hg : ∀ (A : Around) (s : Shared) (H : Hp) (C : Addr) (cv : Value) (fp : List Addr) (pn : List (Addr × Obj)), PG (gCx X A s H (gEnv X scope C cv builtinsNs) fp pn) tg g)
    (ht : ∀ (A : Around) (s : Shared) (H : Hp) (C : Addr) (cv : Value) (fp : List Addr) (pn : List (Addr × Obj)), Room k A → PTs (gCx X A s H (gEnv X scope C cv builtinsNs) fp pn) ifs tt)
    (he : ∀ (A : Around) (s : Shared) (H : Hp) (C : Addr) (cv : Value) (fp : List Addr) (pn : List (Addr × Obj)), Room k A → PE (gCx X A s H (gEnv X scope C cv builtinsNs) fp pn) elt (te cv))
    (hs : ∀ v, genFold iter X.env v = pure v := by intro _; rfl)
    (hst : starEach [.GeneratorExp elt [⟨tg, iter, ifs, 0⟩] scope gpos] X.env = (false, eval (.GeneratorExp elt [⟨tg, iter, ifs, 0⟩] scope gpos) X.env) :: starEach [] X.env := by rfl) :
    PE X (.Call (.Name "sum" p) [.GeneratorExp elt [⟨tg, iter, ifs, 0⟩] scope gpos] [] pos) (tGen av conSum 0 X.base X.env.code d wi g tt te (own.map (·.2))) :=
  pe_sumP hr bm hgl hm hN hi ok hco h0 (segOk1 hco hg ht he) hs hst
end
end GX
set_option Elab.async false
set_option linter.all false
set_option maxRecDepth 100000
set_option maxHeartbeats 4000000
/-! GX 7: a generator expression of two clauses. -/
namespace GX
open PySem PySem.Spec PyProof.Rows L2 GenW
theorem compTurnG2_out (elt t0 i0 t1 i1 : Expr) (ifs0 ifs1 : List Expr) (scope : Scope) (pos : Pos) (it acc : Value) (env : Env) :
    compTurn (.GeneratorExp elt [⟨t0, i0, ifs0, 0⟩, ⟨t1, i1, ifs1, 0⟩] scope pos) 0 it acc env = (do
      standAt i0.pos
      match ← pyNext it with
      | none => pure (.done .next)
      | some v =>
        letOwnedTupleGo t0 it v
        assign t0 env v
        let mut ok := true
        for c in ifs0 do
          if ok then ok ← isTrue c env (eval c env)
        if ok then
          let x ← eval i1 env
          standAt i1.pos
          let x ← foldedSetIterable i1 env x
          let _ ← runOwn (.compStart (.GeneratorExp elt [⟨t0, i0, ifs0, 0⟩, ⟨t1, i1, ifs1, 0⟩] scope pos) 1 (← holding [x] (pyIter x)) acc env) env
        again (.compLoop (.GeneratorExp elt [⟨t0, i0, ifs0, 0⟩, ⟨t1, i1, ifs1, 0⟩] scope pos) 0 it acc env)) := by rfl
theorem compTurnG2_in (elt t0 i0 t1 i1 : Expr) (ifs0 ifs1 : List Expr) (scope : Scope) (pos : Pos) (it acc : Value) (env : Env) :
    compTurn (.GeneratorExp elt [⟨t0, i0, ifs0, 0⟩, ⟨t1, i1, ifs1, 0⟩] scope pos) 1 it acc env = (do
      standAt i1.pos
      match ← pyNext it with
      | none => pure (.done .next)
      | some v =>
        letOwnedTupleGo t1 it v
        assign t1 env v
        let mut ok := true
        for c in ifs1 do
          if ok then ok ← isTrue c env (eval c env)
        if ok then
          (do let v ← eval elt env; standAt elt.pos; let _ ← yieldOut env v)
        again (.compLoop (.GeneratorExp elt [⟨t0, i0, ifs0, 0⟩, ⟨t1, i1, ifs1, 0⟩] scope pos) 1 it acc env)) := by rfl
section
variable {α : Type}
/-- the reading of two clauses, consumed; the measure counts down over both -/
def tTurn2 (C : Con α) (J : It) (g : TG) (tt : TT) (wi1 : TI) (g1 : TG) (tt1 : TT) (te : TE) (σ0 : L2.St) (vs vs1 : List Nat) (Q : VK) (W : Nat → Nat → α → Hp → Prop) : Prop := ∀ i m acc H, W i m acc H →
  (J.stop i H ∧ ∀ v, C.fin acc v → Q v H) ∨ (J.go i H ∧ ∀ x H', J.yld i H x H' → g x σ0 H' fun σ2 H2 => wipe σ2 vs = σ0 ∧ tt σ2 H2 fun b H3 =>
    if b = true then wi1 σ2 H3 fun J1 H4 => ∃ W1 : Nat → Nat → α → Hp → Prop, (∃ m1, m1 < m ∧ W1 0 m1 acc H4) ∧ ∀ j m1 acc H, W1 j m1 acc H →
      (J1.stop j H ∧ ∃ m', m' ≤ m1 ∧ W (i + 1) m' acc H) ∨ (J1.go j H ∧ ∀ x1 H', J1.yld j H x1 H' → g1 x1 (wipe σ2 vs1) H' fun σ3 H5 => wipe σ3 vs1 = wipe σ2 vs1 ∧ tt1 σ3 H5 fun b1 H6 =>
        if b1 = true then te σ3 H6 fun y H7 => C.step acc y (fun acc' => ∃ m', m' < m1 ∧ W1 (j + 1) m' acc' H7) (fun v => Q v H7) else ∃ m', m' < m1 ∧ W1 (j + 1) m' acc H6)
    else ∃ m', m' < m ∧ W (i + 1) m' acc H3)
variable {Xg : Cx} {Sx fp : List Addr} {C : Con α} {at_ : Heap → α → Prop} {σ0 : L2.St} {Q : VK} {W : Nat → Nat → α → Hp → Prop}
/-- more iterators stand apart -/
theorem GIx.more {fp1 : List Addr} {σ : L2.St} {H : Hp} {s : Shared} (G : GIx Xg Sx fp σ H s) (h : ∀ b ∈ fp1, FpOk Xg [] H b) (d : ∀ b ∈ Sx, b ∉ fp1) : GIx Xg Sx (fp ++ fp1) σ H s :=
  ⟨G.inv, G.own, fun b hb => (List.mem_append.mp hb).elim (G.its b) (h b), fun b hb z => (List.mem_append.mp z).elim (G.dis b hb) (d b hb)⟩
theorem GIx.less {fp1 : List Addr} {σ : L2.St} {H : Hp} {s : Shared} (G : GIx Xg Sx (fp ++ fp1) σ H s) : GIx Xg Sx fp σ H s :=
  ⟨G.inv, G.own, fun b hb => G.its b (List.mem_append_left _ hb), fun b hb z => G.dis b hb (List.mem_append_left _ z)⟩
theorem GIx.weak {σ σ' : L2.St} {H : Hp} {s : Shared} (G : GIx Xg Sx fp σ H s) (hl : σ'.length = σ.length) (h : ∀ (j : Nat) v, σ'[j]? = some (some v) → σ[j]? = some (some v)) : GIx Xg Sx fp σ' H s :=
  ⟨G.inv.weak hl h, G.own, G.its, G.dis⟩
theorem seg_gen2 {Aw : Around} {tg iter elt tg1 iter1 : Expr} {ifs ifs1 : List Expr} {scope : Scope} {pos : Pos} {it : Addr} {tn : Nat → Heap → Prop} {J : It} {g g1 : TG} {tt tt1 : TT} {wi1 : TI} {te : TE} {vs vs1 : List Nat}
    (hA : Aw.deeper Xg.env = Xg.A) (hx : Xg.xe = fun _ _ => False) (hc : Xg.calm = true) (hco : Xg.env.scope.isCoroutine = false) (hv : ∀ i ∈ vs1, i ∈ vs) (hs1 : ∀ x, foldedSetIterable iter1 Xg.env x = pure x)
    (T : Turn Xg.prog Xg.w Xg.K tg J fp it tn) (pg : PG Xg tg g) (pt : PTs Xg ifs tt) (pi1 : PI Xg tg1 iter1 wi1) (pg1 : PG Xg tg1 g1) (pt1 : PTs Xg ifs1 tt1) (pe : PE Xg elt te) (turn : tTurn2 C J g tt wi1 g1 tt1 te σ0 vs vs1 Q W) (hwp : wipe σ0 vs = σ0) :
    ∀ (m n i : Nat) (acc : α) (H : Hp) (s₀ s : Shared), m < n → W i m acc H → at_ s₀.heap acc → GIx Xg Sx fp σ0 H s → tn i s.heap → (∀ b ∈ Sx, s.heap.get? b = s₀.heap.get? b) →
      Seg (model Xg.prog Xg.w) Aw (fun n s₀ r s₁ => r = .ok .next ∧ GR Xg Sx fp C at_ σ0 Q n s₀ s₁) (GY Xg Sx fp C at_ Q) n s₀
        (.compLoop (.GeneratorExp elt [⟨tg, iter, ifs, 0⟩, ⟨tg1, iter1, ifs1, 0⟩] scope pos) 0 (.ref it) .none Xg.env)
        ((model Xg.prog Xg.w).den (.compLoop (.GeneratorExp elt [⟨tg, iter, ifs, 0⟩, ⟨tg1, iter1, ifs1, 0⟩] scope pos) 0 (.ref it) .none Xg.env)) [] s := by
  generalize he : (Expr.GeneratorExp elt [⟨tg, iter, ifs, 0⟩, ⟨tg1, iter1, ifs1, 0⟩] scope pos) = ge
  have hover : Aw.over (.compLoop ge 0 (.ref it) .none Xg.env) [] = Xg.A := by rw [← hA, ← he]; rfl
  have hxe : ∀ (u : Value) (s : Shared), ¬ Xg.xe u s := fun u s z => by rw [hx] at z; exact z
  intro m
  induction m using Nat.strongRecOn with
  | ind m ih =>
    intro n i acc H s₀ s hmn w hat G st hS
    obtain ⟨I1, f1⟩ := G.pinned
    have hden : (model Xg.prog Xg.w).den (.compLoop ge 0 (.ref it) .none Xg.env) = (compTurn ge 0 (.ref it) .none Xg.env).onRaise (leaving Xg.env) := by rw [← he]; rfl
    rw [hden, ← he, compTurnG2_out, he, Sem.onRaise_eq_wrap]
    refine seg_bind_wrap (wpAny_standAt ?_)
    rcases turn i m acc H w with ⟨stop, qq⟩ | ⟨go, step⟩
    · refine seg_bind_wrap ?_
      rw [hover]
      refine wpAny_mono (T.done Xg rfl rfl rfl hc i _ s σ0 H (fun _ _ => False) I1 f1 st stop) (fun r s1 ⟨hr, J1⟩ => ?_) fun _ _ z => z.elim
      subst hr
      have G1 : GIx Xg Sx fp σ0 H s1 := G.again (pl := []) (by rw [List.append_nil]; exact J1) fun b hb => (G.its b hb).1
      exact seg_end (.ok .next) ⟨rfl, acc, H, hat, G1, fun b hb => (G.same (pl := []) (by rw [List.append_nil]; exact J1) b hb).trans (hS b hb), qq⟩
    · refine seg_bind_wrap ?_
      rw [hover]
      refine wpAny_mono (T.item Xg rfl rfl rfl hc i _ s σ0 H (fun _ _ => False) I1 f1 st go) (fun r s1 ⟨u, hr, h1⟩ => ?_) fun _ _ z => z.elim
      subst hr
      refine seg_bind_wrap ?_
      rw [hover]
      refine wpAny_mono h1 (fun _ s2 ⟨x, H2, I2, r2, y2, st2, n2⟩ => ?_) fun _ _ z => z.elim
      have f2 : ∀ b ∈ fp, FpOk Xg (pinsAt Sx s.heap) H2 b := fun b hb => FpOk.at (f1 b hb) (n2 b hb)
      have I2' := I2.pinned f2 (T.obj _ _ st2)
      refine seg_bind_wrap ?_
      rw [hover]
      refine wpAny_mono (pg.run _ s2 σ0 H2 x u _ I2' r2 (step x H2 y2)) (fun _ s3 ⟨σ3, H3, I3, hw3, q3⟩ => ?_) fun u s' z => (hxe u s' z).elim
      refine seg_bind_wrap ?_
      rw [hover]
      refine wpAny_mono (pt.run _ s3 σ3 H3 _ I3 q3) (fun b s4 ⟨H4, I4, q4⟩ => ?_) fun u s' z => (hxe u s' z).elim
      have fin : ∀ {s' : Shared} {σ' : L2.St} {H' : Hp}, Inv Xg (pinsAt Sx s.heap ++ pinsAt fp s2.heap) σ' H' s' → GIx Xg Sx fp σ' H' s' ∧ tn (i + 1) s'.heap ∧ ∀ b ∈ Sx, s'.heap.get? b = s₀.heap.get? b := fun {s' σ' H'} I' => by
        have pin' : ∀ b ∈ fp, ∀ o, s2.heap.get? b = some o → s'.heap.get? b = some o ∧ H' b = none := fun b hb o e =>
          let z := I'.pin (b, o) (List.mem_append_right _ (List.mem_append_right _ (mem_pinsAt hb e)))
          ⟨z.1, z.2.1⟩
        refine ⟨G.again I' fun b hb => ?_, T.keep _ _ _ st2 fun b hb o e => (pin' b hb o e).1, fun b hb => (G.same I' b hb).trans (hS b hb)⟩
        obtain ⟨o, e, _⟩ := T.obj _ _ st2 b hb
        exact (pin' b hb o e).2
      cases b with
      | false =>
        simp only [Bool.false_eq_true, if_false] at q4 ⊢
        obtain ⟨m', hm, w'⟩ := q4
        obtain ⟨G4, st4, hS4⟩ := fin I4
        exact seg_again (by rw [← he]; rfl) (ih m' hm n (i + 1) acc H4 s₀ s4 (by omega) w' hat (G4.weak (by rw [← hw3, wipe_length]) fun j v e => by rw [← hw3] at e; exact (wipe_some e).1) st4 hS4)
      | true =>
        simp only [if_true] at q4 ⊢
        refine seg_bind_wrap ?_
        rw [hover]
        refine wpAny_mono (pi1.run _ s4 σ3 H4 _ I4 q4) (fun xv s5 h5 => ?_) fun u s' z => (hxe u s' z).elim
        refine seg_bind_wrap (wpAny_standAt ?_)
        refine seg_bind_wrap (wpAny_of_eq (hs1 xv) ?_)
        refine seg_bind_wrap (wpAny_holding ?_)
        rw [hover]
        refine wpAny_mono h5 (fun itv s6 h6 => ?_) fun u s' z => (hxe u s' z).elim
        obtain ⟨it1, fp1, tn1, J1, H6, e1, I6, T1, st6i, f6, W1, ⟨m1, hm1, w1⟩, turn1⟩ := h6
        have disO := G.dis
        subst e1
        obtain ⟨G6', st6o, hS6⟩ := fin I6
        have f6' : ∀ b ∈ fp1, FpOk Xg [] H6 b := fun b hb => by
          obtain ⟨f0, f1, f2, f3, f4, f5⟩ := f6 b hb
          exact ⟨f0, f1, f2, f3, f4, fun p hp => f5 p (by
            rcases List.mem_append.mp hp with z | z
            · exact List.mem_append_left _ z
            · cases z)⟩
        have dS : ∀ b ∈ Sx, b ∉ fp1 := fun b hb hf => by
          obtain ⟨_, o, ho, _⟩ := G.own b hb
          exact (f6 b hf).2.2.2.2.2 (b, o) (List.mem_append_right _ (List.mem_append_left _ (mem_pinsAt hb ho))) rfl
        have dF : ∀ b ∈ fp, b ∉ fp1 := fun b hb hf => by
          obtain ⟨o, ho, _⟩ := T.obj _ _ st2 b hb
          exact (f6 b hf).2.2.2.2.2 (b, o) (List.mem_append_right _ (List.mem_append_right _ (mem_pinsAt hb ho))) rfl
        have dB : ∀ b ∈ Sx ++ fp, b ∉ fp1 := fun b hb => (List.mem_append.mp hb).elim (dS b) (dF b)
        have st6 : tn (i + 1) s6.heap := st6o
        have G6 : GIx Xg (Sx ++ fp) fp1 (wipe σ3 vs1) H6 s6 := GIx.weak ⟨I6.pins_of (fun p hp => by cases hp), fun b hb => (List.mem_append.mp hb).elim (G6'.own b) (fun hf => ⟨G6'.its b hf, T.obj _ _ st6 b hf⟩), f6', dB⟩ (wipe_length _ _) fun j v e => (wipe_some e).1
        have hl3 : σ0.length = (wipe σ3 vs1).length := by rw [wipe_length, ← hw3, wipe_length]
        have hk3 : ∀ (j : Nat) v, σ0[j]? = some (some v) → (wipe σ3 vs1)[j]? = some (some v) := fun j v e => by
          rw [← hw3] at e
          obtain ⟨e1, e2⟩ := wipe_some e
          rw [wipe_out fun z => e2 (hv j z)]
          exact e1
        refine seg_call fun p => ?_
        -- the inner loop, over the outer one's frame
        have back : ∀ {acc : α} {H : Hp} {s₀ s : Shared} {m' n : Nat}, m' < m → m' < n → W (i + 1) m' acc H → at_ s₀.heap acc → GIx Xg (Sx ++ fp) fp1 (wipe σ3 vs1) H s → tn (i + 1) s.heap → (∀ b ∈ Sx, s.heap.get? b = s₀.heap.get? b) →
            Seg (model Xg.prog Xg.w) Aw (fun n s₀ r s₁ => r = .ok .next ∧ GR Xg Sx fp C at_ σ0 Q n s₀ s₁) (GY Xg Sx fp C at_ Q) n s₀ (.compLoop ge 0 (.ref it) .none Xg.env) ((model Xg.prog Xg.w).den (.compLoop ge 0 (.ref it) .none Xg.env)) [] s :=
          fun {acc H s₀ s m' n} h1 h2 w' hat' G' st' hS' =>
            ih m' h1 n (i + 1) acc H s₀ s h2 w' hat' (GIx.weak ⟨G'.inv, fun b hb => G'.own b (List.mem_append_left _ hb), fun b hb => (G'.own b (List.mem_append_right _ hb)).1, G.dis⟩ hl3 hk3) st' hS'
        generalize hF : (Frame.ret _ none (id false) (id []) (Code.compLoop ge 0 (.ref it) .none Xg.env) p []) = F
        have hoverI : Aw.over (.compLoop ge 1 (.ref it1) .none Xg.env) [F] = Xg.A := by rw [← hF]; exact (over_loop (by rw [← he]; rfl) (by rw [← he]; rfl)).trans hover
        have leaf : ∀ {acc : α} {H : Hp} {s₀ s : Shared} {m' n : Nat}, m' < m → m' < n → W (i + 1) m' acc H → at_ s₀.heap acc → GIx Xg (Sx ++ fp) fp1 (wipe σ3 vs1) H s → tn (i + 1) s.heap → (∀ b ∈ Sx, s.heap.get? b = s₀.heap.get? b) →
            Seg (model Xg.prog Xg.w) Aw (fun n s₀ r s₁ => r = .ok .next ∧ GR Xg Sx fp C at_ σ0 Q n s₀ s₁) (GY Xg Sx fp C at_ Q) n s₀ (.compLoop ge 1 (.ref it1) .none Xg.env) (leafOf (.ok .next)) [F] s := by
          intro acc H s₀ s m' n h1 h2 w' hat' G' st' hS'
          rw [← hF]
          refine seg_leaf (.ok .next) ?_
          exact seg_again (by rw [← he]; rfl) (back h1 h2 w' hat' G' st' hS')
        have loop : ∀ (m1 n j : Nat) (acc : α) (H : Hp) (s₀ s : Shared), m1 < m → m1 < n → W1 j m1 acc H → at_ s₀.heap acc → GIx Xg (Sx ++ fp) fp1 (wipe σ3 vs1) H s → tn (i + 1) s.heap → tn1 j s.heap → (∀ b ∈ Sx, s.heap.get? b = s₀.heap.get? b) →
            Seg (model Xg.prog Xg.w) Aw (fun n s₀ r s₁ => r = .ok .next ∧ GR Xg Sx fp C at_ σ0 Q n s₀ s₁) (GY Xg Sx fp C at_ Q) n s₀ (.compLoop ge 1 (.ref it1) .none Xg.env) ((model Xg.prog Xg.w).den (.compLoop ge 1 (.ref it1) .none Xg.env)) [F] s := by
          intro m1
          induction m1 using Nat.strongRecOn with
          | ind m1 ih1 =>
            intro n j acc H s₀ s hm hmn w hat G st tt1' hS
            obtain ⟨I1, f1⟩ := G.pinned
            obtain ⟨hd1, hden1⟩ : ∃ hd, (model Xg.prog Xg.w).den (.compLoop ge 1 (.ref it1) .none Xg.env) = (compTurn ge 1 (.ref it1) .none Xg.env).onRaise hd := by rw [← he]; exact ⟨_, rfl⟩
            rw [hden1, ← he, compTurnG2_in, he, Sem.onRaise_eq_wrap]
            refine seg_bind_wrap (wpAny_standAt ?_)
            have still : ∀ {s' : Shared} {σ' : L2.St} {H' : Hp} {pl : List (Addr × Obj)}, Inv Xg (pinsAt (Sx ++ fp) s.heap ++ pl) σ' H' s' → tn (i + 1) s'.heap ∧ ∀ b ∈ Sx, s'.heap.get? b = s₀.heap.get? b := fun {s' σ' H' pl} I' =>
              ⟨T.keep _ _ _ st fun b hb o e => (G.same I' b (List.mem_append_right _ hb)).trans e, fun b hb => (G.same I' b (List.mem_append_left _ hb)).trans (hS b hb)⟩
            rcases turn1 j m1 acc H w with ⟨stop, m', hm', w'⟩ | ⟨go, step⟩
            · refine seg_bind_wrap ?_
              rw [hoverI]
              refine wpAny_mono (T1.done Xg rfl rfl rfl hc j _ s _ H (fun _ _ => False) I1 f1 tt1' stop) (fun r s1 ⟨hr, J1⟩ => ?_) fun _ _ z => z.elim
              subst hr
              have J1' : Inv Xg (pinsAt (Sx ++ fp) s.heap ++ []) (wipe σ3 vs1) H s1 := by rw [List.append_nil]; exact J1
              obtain ⟨st1, hS1⟩ := still J1'
              exact leaf (by omega) (by omega) w' hat (G.again J1' fun b hb => (G.its b hb).1) st1 hS1
            · refine seg_bind_wrap ?_
              rw [hoverI]
              refine wpAny_mono (T1.item Xg rfl rfl rfl hc j _ s _ H (fun _ _ => False) I1 f1 tt1' go) (fun r s1 ⟨u, hr, h1⟩ => ?_) fun _ _ z => z.elim
              subst hr
              refine seg_bind_wrap ?_
              rw [hoverI]
              refine wpAny_mono h1 (fun _ s2 ⟨x, H2, I2, r2, y2, st2, n2⟩ => ?_) fun _ _ z => z.elim
              have f2 : ∀ b ∈ fp1, FpOk Xg (pinsAt (Sx ++ fp) s.heap) H2 b := fun b hb => FpOk.at (f1 b hb) (n2 b hb)
              have I2' := I2.pinned f2 (T1.obj _ _ st2)
              refine seg_bind_wrap ?_
              rw [hoverI]
              refine wpAny_mono (pg1.run _ s2 _ H2 x u _ I2' r2 (step x H2 y2)) (fun _ s3 ⟨σ5, H3, I3, hw5, q3⟩ => ?_) fun u s' z => (hxe u s' z).elim
              refine seg_bind_wrap ?_
              rw [hoverI]
              refine wpAny_mono (pt1.run _ s3 σ5 H3 _ I3 q3) (fun b s4 ⟨H4, I4, q4⟩ => ?_) fun u s' z => (hxe u s' z).elim
              have fin1 : ∀ {s' : Shared} {H' : Hp}, Inv Xg (pinsAt (Sx ++ fp) s.heap ++ pinsAt fp1 s2.heap) σ5 H' s' → GIx Xg (Sx ++ fp) fp1 σ5 H' s' ∧ tn1 (j + 1) s'.heap := fun {s' H'} I' => by
                have pin' : ∀ b ∈ fp1, ∀ o, s2.heap.get? b = some o → s'.heap.get? b = some o ∧ H' b = none := fun b hb o e =>
                  let z := I'.pin (b, o) (List.mem_append_right _ (List.mem_append_right _ (mem_pinsAt hb e)))
                  ⟨z.1, z.2.1⟩
                refine ⟨G.again I' fun b hb => ?_, T1.keep _ _ _ st2 fun b hb o e => (pin' b hb o e).1⟩
                obtain ⟨o, e, _⟩ := T1.obj _ _ st2 b hb
                exact (pin' b hb o e).2
              have weak1 : ∀ {s' : Shared} {H' : Hp}, GIx Xg (Sx ++ fp) fp1 σ5 H' s' → GIx Xg (Sx ++ fp) fp1 (wipe σ3 vs1) H' s' := fun {s' H'} G' =>
                G'.weak (by rw [← hw5, wipe_length]) fun j v e => by rw [← hw5] at e; exact (wipe_some e).1
              cases b with
              | false =>
                simp only [Bool.false_eq_true, if_false] at q4 ⊢
                obtain ⟨m', hm', w'⟩ := q4
                obtain ⟨G4, tt4⟩ := fin1 I4
                obtain ⟨st4, hS4⟩ := still I4
                exact seg_again (by rw [← he]; rfl) (ih1 m' hm' n (j + 1) acc H4 s₀ s4 (by omega) (by omega) w' hat (weak1 G4) st4 tt4 hS4)
              | true =>
                simp only [if_true] at q4 ⊢
                have hy : ∀ v, yieldOut Xg.env v = yieldValue v := fun v => by simp only [yieldOut, hco, Bool.false_eq_true, if_false]
                simp only [hy]
                rw [Sem.bind_eq_wrap', Sem.bind_eq_wrap', Sem.wrap_wrap, Sem.wrap_wrap]
                refine seg_wrap ?_
                rw [hoverI]
                refine wpAny_mono (pe.run _ s4 σ5 H4 _ I4 q4) (fun v s5 ⟨yv, H5, I5, r5, q5⟩ => ?_) fun u s' z => (hxe u s' z).elim
                obtain ⟨G5, tt5⟩ := fin1 I5
                obtain ⟨st5, hS5⟩ := still I5
                obtain ⟨n, rfl⟩ : ∃ k, n = k + 1 := ⟨n - 1, by omega⟩
                have hspl : splitAtGen [F] = none := by rw [← hF]; rfl
                have hgrd : [F].any Frame.guarded = false := by rw [← hF]; rfl
                have G5o : GIx Xg Sx fp σ5 H5 s5 := ⟨G5.inv, fun b hb => G5.own b (List.mem_append_left _ hb), fun b hb => (G5.own b (List.mem_append_right _ hb)).1, fun b hb hf => by
                  obtain ⟨o, ho, _⟩ := (G5.own b (List.mem_append_left _ hb)).2
                  exact disO b hb hf⟩
                refine seg_at (seg_yield hspl rfl hgrd ⟨acc, yv, σ5, H5, _, hat, r5, G5o, hS5, q5, fun acc' s' hK z hat' => ?_⟩)
                obtain ⟨m', hm', w'⟩ := hK
                have kpf : ∀ b ∈ fp, s'.heap.get? b = s5.heap.get? b := fun b hb => by
                  obtain ⟨_, o, ho, _⟩ := G5.own b (List.mem_append_right _ hb)
                  rw [ho]
                  exact z.keep b o (fun zz => disO b zz hb) ho
                have z' : SleptX (Sx ++ fp) s5 s' := ⟨z.os, z.bare, fun b o hb e => z.keep b o (fun zz => hb (List.mem_append_left _ zz)) e, fun b hb => by
                  rcases List.mem_append.mp hb with hb | hb
                  · exact z.own b hb
                  · rw [kpf b hb]
                    exact (G5.own b (List.mem_append_right _ hb)).2⟩
                refine seg_again (by rw [← he]; rfl) (ih1 m' hm' n (j + 1) acc' H5 s' s' (by omega) (by omega) w' hat' (weak1 (G5.woken z')) ?_ ?_ fun _ _ => rfl)
                · exact T.keep _ _ _ st5 fun b hb o e => (kpf b hb).trans e
                · exact T1.keep _ _ _ tt5 fun b hb o e => z'.keep b o (fun zz => dB b zz hb) e
        have start := loop m1 n 0 acc H6 s₀ s6 hm1 (by omega) w1 hat G6 st6 st6i hS6
        obtain ⟨hdS, hdenS⟩ : ∃ hd, (model Xg.prog Xg.w).den (.compStart ge 1 (.ref it1) .none Xg.env) = (compStart ge 1 (.ref it1) .none Xg.env).onRaise hd := by rw [← he]; exact ⟨_, rfl⟩
        rw [hdenS]
        unfold compStart
        rw [Sem.onRaise_eq_wrap, show (((clausesOf ge)[1]?).elim false fun x => x.is_async != 0) = false by rw [← he]; rfl]
        rw [if_neg Bool.false_ne_true]
        show Seg _ Aw _ _ _ _ _ ((ask >>= _).wrap _ _ _ _) _ _
        refine seg_bind_wrap (wpAny_askSetting ?_)
        split
        · exact seg_again (by rw [← he]; rfl) start
        · refine seg_bind_wrap (wpAny_rule ?_)
          have hcl : (clausesOf ge)[1]? = some ⟨tg1, iter1, ifs1, 0⟩ := by rw [← he]; rfl
          simp only [hcl]
          show Seg _ Aw _ _ _ _ _ ((standAt iter1.pos >>= _).wrap _ _ _ _) _ _
          exact seg_bind_wrap (wpAny_standAt (seg_bind_wrap (T1.self _ 0 _ _ _ st6i (seg_again (by rw [← he]; rfl) start))))
end
section
variable {X : Cx}
theorem segOk2 {α : Type} {C : Con α} {k : Nat} {tg iter elt tg1 iter1 : Expr} {ifs ifs1 : List Expr} {scope : Scope} {pos : Pos} {g g1 : TG} {tt tt1 : TT} {wi1 : TI} {te : Value → TE} {vs vs1 : List Nat} (hco : scope.isCoroutine = false) (hv : ∀ i ∈ vs1, i ∈ vs) (hs1 : ∀ env x, foldedSetIterable iter1 env x = pure x)
    (hg : ∀ (A : Around) (s : Shared) (H : Hp) (C : Addr) (cv : Value) (fp : List Addr) (pn : List (Addr × Obj)), PG (gCx X A s H (gEnv X scope C cv builtinsNs) fp pn) tg g)
    (ht : ∀ (A : Around) (s : Shared) (H : Hp) (C : Addr) (cv : Value) (fp : List Addr) (pn : List (Addr × Obj)), Room k A → PTs (gCx X A s H (gEnv X scope C cv builtinsNs) fp pn) ifs tt)
    (hi1 : ∀ (A : Around) (s : Shared) (H : Hp) (C : Addr) (cv : Value) (fp : List Addr) (pn : List (Addr × Obj)), Room k A → PI (gCx X A s H (gEnv X scope C cv builtinsNs) fp pn) tg1 iter1 wi1)
    (hg1 : ∀ (A : Around) (s : Shared) (H : Hp) (C : Addr) (cv : Value) (fp : List Addr) (pn : List (Addr × Obj)), PG (gCx X A s H (gEnv X scope C cv builtinsNs) fp pn) tg1 g1)
    (ht1 : ∀ (A : Around) (s : Shared) (H : Hp) (C : Addr) (cv : Value) (fp : List Addr) (pn : List (Addr × Obj)), Room k A → PTs (gCx X A s H (gEnv X scope C cv builtinsNs) fp pn) ifs1 tt1)
    (he : ∀ (A : Around) (s : Shared) (H : Hp) (C : Addr) (cv : Value) (fp : List Addr) (pn : List (Addr × Obj)), Room k A → PE (gCx X A s H (gEnv X scope C cv builtinsNs) fp pn) elt (te cv)) :
    SegOk X C k tg iter elt ifs [⟨tg1, iter1, ifs1, 0⟩] scope pos (fun cv J σ0 Q W => tTurn2 C J g tt wi1 g1 tt1 (te cv) σ0 vs vs1 Q W) vs := fun Aw s H L cv fp pn Sx at_ σ0 Q W it tn J hr T turn hw =>
  seg_gen2 (Xg := gCx X (Aw.deeper (gEnv X scope L cv builtinsNs)) s H (gEnv X scope L cv builtinsNs) fp pn) rfl rfl rfl hco hv (hs1 _) T (hg _ _ _ _ _ _ _) (ht _ _ _ _ _ _ _ hr) (hi1 _ _ _ _ _ _ _ hr) (hg1 _ _ _ _ _ _ _) (ht1 _ _ _ _ _ _ _ hr) (he _ _ _ _ _ _ _ hr) turn hw
end
end GX
set_option Elab.async false
set_option linter.all false
set_option maxRecDepth 100000
set_option maxHeartbeats 4000000
/-! GX 8: a list comprehension of three clauses, by clauses. -/
namespace GX
open PySem PySem.Spec PyProof.Rows L2
section
variable (prog : Program) (w : World) (A : Around) (ge : Expr) (acc : Value) (env : Env)
/-- the tests of a clause -/
abbrev tests (ifs : List Expr) : Sem Bool := forIn ifs true fun c r => if r = true then do let ok ← isTrue c env (eval c env); pure (ForInStep.yield ok) else pure (ForInStep.yield r)
/-- a clause's loop, what stands inside it by its own word -/
def ClauseRule (d : Nat) (t : Expr) (ifs : List Expr) (Act : Shared → (Shared → Prop) → Prop) : Prop :=
  ∀ (it : Value) (R : Result → Shared → Prop) (I : Nat → Shared → Prop), (∀ n s, I n s → wpAny (model prog w) A (pyNext it) (fun r s₁ => match r with
      | none => R (.ok .next) s₁
      | some v => wpAny (model prog w) A (letOwnedTupleGo t it v) (fun _ s₁' => wpAny (model prog w) A (assign t env v) (fun _ s₂ =>
          wpAny (model prog w) A (tests env ifs) (fun ok s₃ => if ok = true then Act s₃ (fun s' => ∃ m, m < n ∧ I m s') else ∃ m, m < n ∧ I m s₃) (fun _ _ => False) s₂) (fun _ _ => False) s₁') (fun _ _ => False) s₁) (fun _ _ => False) s) →
    ∀ (n : Nat) (s : Shared), I n s → codeAny (model prog w) A (.compLoop ge d it acc env) R s
def actEmit (elt : Expr) : Shared → (Shared → Prop) → Prop := fun s Q =>
  wpAny (model prog w) A (eval elt env) (fun x s₄ => wpAny (model prog w) A (call (.builtin "list.append") [acc, x]) (fun _ s₅ => Q s₅) (fun _ _ => False) s₄) (fun _ _ => False) s
def actIn (d : Nat) (i1 : Expr) : Shared → (Shared → Prop) → Prop := fun s Q =>
  wpAny (model prog w) A (eval i1 env) (fun x s₄ => wpAny (model prog w) A (pyIter x) (fun it1 s₅ =>
    codeAny (model prog w) A (.compStart ge (d + 1) it1 acc env) (fun r s' => match r with | .ok _ => Q s' | .error _ => False) s₅) (fun _ _ => False) s₄) (fun _ _ => False) s
variable {prog w A ge acc env}
theorem clause_in {d : Nat} {t i i1 : Expr} {ifs : List Expr} (hs : ∀ x, foldedSetIterable i1 env x = pure x) (hq : ∀ it, (Code.compLoop ge d it acc env).quiet = true) (hu : ∀ it, A.under (.compLoop ge d it acc env) = A)
    (hd : ∀ it, (model prog w).den (.compLoop ge d it acc env) = (compTurn ge d it acc env).onRaise (fun x => do noteFrame x env; theTreesLotGoes x))
    (hT : ∀ it, compTurn ge d it acc env = (do
      standAt i.pos
      match ← pyNext it with
      | none => pure (.done .next)
      | some v =>
        letOwnedTupleGo t it v
        assign t env v
        let mut ok := true
        for c in ifs do
          if ok then ok ← isTrue c env (eval c env)
        if ok then
          let x ← eval i1 env
          standAt i1.pos
          let x ← foldedSetIterable i1 env x
          let _ ← runOwn (.compStart ge (d + 1) (← holding [x] (pyIter x)) acc env) env
        again (.compLoop ge d it acc env))) : ClauseRule prog w A ge acc env d t ifs (actIn prog w A ge acc env d i1) := by
  intro it R I turn n s h
  refine codeAny_loop (hq it) I (fun n s hI => ?_) n h
  rw [hu]
  show wpAny _ A ((model prog w).den (.compLoop ge d it acc env)) _ _ s
  rw [hd]
  refine wpAny_noted ?_
  rw [hT]
  refine wpAny_bind (wpAny_standAt (wpAny_bind (thnF (turn n s hI) fun r s₁ h₁ => ?_)))
  cases r with
  | none => exact wpAny_pure h₁
  | some v =>
    refine wpAny_bind (thnF h₁ fun _ s₁' h₁' => ?_)
    refine wpAny_bind (thnF h₁' fun _ s₂ h₂ => wpAny_bind (thnF h₂ fun ok s₃ h₃ => ?_))
    cases ok with
    | false => exact wpAny_pure ⟨rfl, h₃⟩
    | true =>
      refine wpAny_bind (thnF h₃ fun x s₄ h₄ => ?_)
      refine wpAny_bind (wpAny_standAt (wpAny_bind (wpAny_of_eq (hs x) (wpAny_bind (wpAny_holding (thnF h₄ fun it1 s₅ h₅ => ?_))))))
      refine wpAny_bind (wpAny_runOwn ?_)
      rw [Around.mark_none]
      refine codeAny_mono h₅ fun r s' hr => ?_
      cases r with
      | ok f =>
        first
          | exact wpAny_pure ⟨rfl, hr⟩
          | exact wpAny_bind (wpAny_pure (wpAny_pure ⟨rfl, hr⟩))
      | error e => exact hr.elim
theorem clause_emit {d : Nat} {t i elt : Expr} {ifs : List Expr} (hq : ∀ it, (Code.compLoop ge d it acc env).quiet = true) (hu : ∀ it, A.under (.compLoop ge d it acc env) = A)
    (hd : ∀ it, (model prog w).den (.compLoop ge d it acc env) = (compTurn ge d it acc env).onRaise (fun x => do noteFrame x env; theTreesLotGoes x))
    (hT : ∀ it, compTurn ge d it acc env = (do
      standAt i.pos
      match ← pyNext it with
      | none => pure (.done .next)
      | some v =>
        letOwnedTupleGo t it v
        assign t env v
        let mut ok := true
        for c in ifs do
          if ok then ok ← isTrue c env (eval c env)
        if ok then
          (do let _ ← call (.builtin "list.append") [acc, ← eval elt env])
        again (.compLoop ge d it acc env))) : ClauseRule prog w A ge acc env d t ifs (actEmit prog w A acc env elt) := by
  intro it R I turn n s h
  refine codeAny_loop (hq it) I (fun n s hI => ?_) n h
  rw [hu]
  show wpAny _ A ((model prog w).den (.compLoop ge d it acc env)) _ _ s
  rw [hd]
  refine wpAny_noted ?_
  rw [hT]
  refine wpAny_bind (wpAny_standAt (wpAny_bind (thnF (turn n s hI) fun r s₁ h₁ => ?_)))
  cases r with
  | none => exact wpAny_pure h₁
  | some v =>
    refine wpAny_bind (thnF h₁ fun _ s₁' h₁' => ?_)
    refine wpAny_bind (thnF h₁' fun _ s₂ h₂ => wpAny_bind (thnF h₂ fun ok s₃ h₃ => ?_))
    cases ok with
    | false => exact wpAny_pure ⟨rfl, h₃⟩
    | true => exact wpAny_bind (wpAny_bind (thnF h₃ fun x s₄ h₄ => wpAny_bind (thnF h₄ fun _ s₅ h₅ => wpAny_pure (wpAny_pure ⟨rfl, h₅⟩))))
/-- a later clause's start -/
theorem clause_start {R : Result → Shared → Prop} {s : Shared} {d : Nat} {t i : Expr} {ifs : List Expr} {it : Value} (hq : ∀ it, (Code.compLoop ge d it acc env).quiet = true) (hu : A.under (.compStart ge d it acc env) = A) (hcl : (clausesOf ge)[d]? = some ⟨t, i, ifs, 0⟩)
    (hd : (model prog w).den (.compStart ge d it acc env) = (compStart ge d it acc env).onRaise (fun x => do noteFrame x env; standAt theWindowsPlace))
    (h0 : codeAny (model prog w) A (.compLoop ge d it acc env) R s)
    (h : wpAny (model prog w) A (pyIter it) (fun it' s' => codeAny (model prog w) A (.compLoop ge d it' acc env) R s') (fun _ _ => False) s) :
    codeAny (model prog w) A (.compStart ge d it acc env) R s := by
  refine codeAny_of_tree ?_
  rw [hu]
  show wpAny _ _ ((model prog w).den (.compStart ge d it acc env)) _ _ s
  rw [hd]
  refine wpAny_notedAt ?_
  unfold compStart
  simp only [hcl]
  show wpAny _ _ (ask >>= _) _ _ s
  refine wpAny_bind (wpAny_askSetting (wpAny_ite ?_))
  split
  · first
      | exact wpAny_bind (wpAny_pure (wpAny_pure (And.intro (hq _) h0)))
      | exact wpAny_pure (And.intro (hq _) h0)
  · refine wpAny_bind (wpAny_rule ?_)
    exact wpAny_bind (wpAny_standAt (wpAny_bind (thnF h fun it' s' h' => wpAny_pure (And.intro (hq _) h'))))
end

/-- what stands inside a clause, read -/
structure Inside (X : Cx) (Act : Shared → (Shared → Prop) → Prop) (b : L2.St → Hp → (Hp → Prop) → Prop) (vs : List Nat) : Prop where
  mono : ∀ (s : Shared) (Q Q' : Shared → Prop), Act s Q → (∀ s', Q s' → Q' s') → Act s Q'
  run : ∀ (pins : List (Addr × Obj)) (s : Shared) (σ : L2.St) (H : Hp) (Nx : Hp → Prop), Inv X pins σ H s → b σ H Nx → Act s fun s' => ∃ H', Inv X pins (wipe σ vs) H' s' ∧ Nx H'
def bEmit (te : TE) (D : Addr) : L2.St → Hp → (Hp → Prop) → Prop := fun σ H Nx => te σ H fun y H7 => ∃ acc, H7 D = some (.lst acc) ∧ acc.length < sizeLine ∧ Nx (upd H7 D (.lst (acc ++ [y])))
def bIn (wi : TI) (g : TG) (tt : TT) (b : L2.St → Hp → (Hp → Prop) → Prop) (vs : List Nat) : L2.St → Hp → (Hp → Prop) → Prop := fun σ H Nx => wi σ H fun J H1 => ∃ W : Nat → Nat → Hp → Prop, (∃ m, W 0 m H1) ∧ ∀ j k H, W j k H →
  (J.stop j H ∧ Nx H) ∨ (J.go j H ∧ ∃ Nx1 : Hp → Prop, (∀ H', Nx1 H' → ∃ k', k' < k ∧ W (j + 1) k' H') ∧ ∀ x H', J.yld j H x H' → g x (wipe σ vs) H' fun σ3 H5 => wipe σ3 vs = wipe σ vs ∧ tt σ3 H5 fun b1 H6 => if b1 = true then b σ3 H6 Nx1 else Nx1 H6)
section
variable {X : Cx} {ge : Expr} {D : Addr}
theorem inside_emit {elt : Expr} {te : TE} (hx : X.xe = fun _ _ => False) (pe : PE X elt te) : Inside X (actEmit X.prog X.w X.A (.ref D) X.env elt) (bEmit te D) [] := by
  refine ⟨fun s Q Q' h hQ => thnF h fun x s' h' => thnF h' fun _ s'' h'' => hQ _ h'', fun pins s σ H Nx I h => ?_⟩
  have pr := pe.run pins s σ H _ I h
  rw [hx] at pr
  refine thnF pr fun z s17 ⟨yv, H17, I17, r17, acc, hD17, hz17, nx⟩ => ?_
  exact app_ok (X := X) I17 hD17 hz17 r17 fun s18 I18 => ⟨_, I18, nx⟩
theorem inside_in {Act : Shared → (Shared → Prop) → Prop} {b : L2.St → Hp → (Hp → Prop) → Prop} {d : Nat} {t i : Expr} {ifs : List Expr} {wi : TI} {g : TG} {tt : TT} {vs vs' : List Nat} (hx : X.xe = fun _ _ => False) (hc : X.calm = true) (hv : ∀ i ∈ vs', i ∈ vs)
    (hi : PI X t i wi) (pg : PG X t g) (pt : PTs X ifs tt) (ins : Inside X Act b vs') (rule : ClauseRule X.prog X.w X.A ge (.ref D) X.env (d + 1) t ifs Act)
    (hq : ∀ it, (Code.compLoop ge (d + 1) it (.ref D) X.env).quiet = true) (hus : ∀ it, X.A.under (.compStart ge (d + 1) it (.ref D) X.env) = X.A) (hcl : (clausesOf ge)[d + 1]? = some ⟨t, i, ifs, 0⟩)
    (hd : ∀ it, (model X.prog X.w).den (.compStart ge (d + 1) it (.ref D) X.env) = (compStart ge (d + 1) it (.ref D) X.env).onRaise (fun x => do noteFrame x X.env; standAt theWindowsPlace)) :
    Inside X (actIn X.prog X.w X.A ge (.ref D) X.env d i) (bIn wi g tt b vs) vs := by
  refine ⟨fun s Q Q' h hQ => thnF h fun x s' h' => thnF h' fun _ s'' h'' => codeAny_mono h'' fun r s3 h3 => (by cases r with | ok f => exact hQ _ h3 | error e => exact h3), fun pins s σ H Nx I h => ?_⟩
  have pr := hi.run pins s σ H _ I h
  rw [hx] at pr
  refine thnF pr fun xv s10 hx' => thnF hx' fun itv s11 h11 => ?_
  obtain ⟨it1, fp1, tn1, J1, H11, e1, I11, T1, st11, f11, W1, ⟨m1, w1⟩, turn1⟩ := h11
  subst e1
  have stat1 : ∀ {H' : Hp}, (∀ b ∈ fp1, H' b = none) → ∀ b ∈ fp1, FpOk X pins H' b := fun hn b hb => ⟨hn b hb, (f11 b hb).2⟩
  have loop1 : codeAny (model X.prog X.w) X.A (.compLoop ge (d + 1) (.ref it1) (.ref D) X.env) (fun r s' => match r with | .ok _ => ∃ H', Inv X pins (wipe σ vs) H' s' ∧ Nx H' | .error _ => False) s11 := by
    refine rule (.ref it1) _ (fun k s' => ∃ j H', Inv X pins (wipe σ vs) H' s' ∧ tn1 j s'.heap ∧ (∀ b ∈ fp1, H' b = none) ∧ W1 j k H') ?_ m1 _ ⟨0, H11, I11.weak (wipe_length _ _) (fun j v e => (wipe_some e).1), st11, fun b hb => (f11 b hb).1, w1⟩
    rintro k s12 ⟨j, H12, I12, st12, n12, w12⟩
    rcases turn1 j k H12 w12 with ⟨stop1, nx1⟩ | ⟨go1, Nx1, hNx1, step1⟩
    · refine thnF (T1.done X rfl rfl rfl hc j _ s12 (wipe σ vs) H12 (fun _ _ => False) I12 (stat1 n12) st12 stop1) fun r s13 ⟨hr, I13⟩ => ?_
      subst hr
      exact ⟨H12, I13, nx1⟩
    · refine thnF (T1.item X rfl rfl rfl hc j _ s12 (wipe σ vs) H12 (fun _ _ => False) I12 (stat1 n12) st12 go1) fun r s13 ⟨u1, hr, h13⟩ => ?_
      subst hr
      refine thnF h13 fun _ s14 ⟨x1, H14, I14, r14, y14, st14, n14⟩ => ?_
      have I14' := I14.pinned (stat1 n14) (T1.obj _ _ st14)
      have pgr := pg.run _ s14 (wipe σ vs) H14 x1 u1 _ I14' r14 (step1 x1 H14 y14)
      rw [hx] at pgr
      refine thnF pgr fun _ s15 ⟨σ15, H15, I15, hw15, q15⟩ => ?_
      have ptr := pt.run _ s15 σ15 H15 _ I15 q15
      rw [hx] at ptr
      refine thnF ptr fun b1 s16 ⟨H16, I16, q16⟩ => ?_
      have fin1 : ∀ {s' : Shared} {H' : Hp}, (∃ σ', (wipe σ vs).length = List.length σ' ∧ (∀ (j : Nat) v, (wipe σ vs)[j]? = some (some v) → σ'[j]? = some (some v)) ∧ Inv X (pins ++ pinsAt fp1 s14.heap) σ' H' s') → Nx1 H' → ∃ m, m < k ∧ ∃ j H', Inv X pins (wipe σ vs) H' s' ∧ tn1 j s'.heap ∧ (∀ b ∈ fp1, H' b = none) ∧ W1 j m H' := fun {s' H'} ⟨σ', hl, hk, I'⟩ nx => by
        obtain ⟨m', hm, w'⟩ := hNx1 H' nx
        have pin' : ∀ b ∈ fp1, ∀ o, s14.heap.get? b = some o → s'.heap.get? b = some o ∧ H' b = none := fun b hb o e =>
          let z := I'.pin (b, o) (List.mem_append_right _ (List.mem_append_right _ (mem_pinsAt hb e)))
          ⟨z.1, z.2.1⟩
        refine ⟨m', hm, j + 1, H', I'.unpinned.weak hl hk, T1.keep _ _ _ st14 fun b hb o e => (pin' b hb o e).1, fun b hb => ?_, w'⟩
        obtain ⟨o, e, _⟩ := T1.obj _ _ st14 b hb
        exact (pin' b hb o e).2
      have hl : (wipe σ vs).length = σ15.length := by rw [← hw15, wipe_length]
      have hk15 : ∀ (j : Nat) v, (wipe σ vs)[j]? = some (some v) → σ15[j]? = some (some v) := fun j v e => by rw [← hw15] at e; exact (wipe_some e).1
      cases b1 with
      | false =>
        simp only [Bool.false_eq_true, if_false] at q16 ⊢
        exact fin1 ⟨σ15, hl, hk15, I16⟩ q16
      | true =>
        simp only [if_true] at q16 ⊢
        have r := ins.run _ s16 σ15 H16 Nx1 I16 q16
        exact ins.mono _ _ _ r fun s' ⟨H', I', nx⟩ => fin1 ⟨wipe σ15 vs', hl.trans (wipe_length _ _).symm, fun j v e => by
          rw [← hw15] at e
          obtain ⟨e1, e2⟩ := wipe_some e
          rw [wipe_out fun z => e2 (hv j z)]
          exact e1, I'⟩ nx
  exact clause_start hq (hus _) hcl (hd _) loop1 (T1.self X.A 0 _ _ _ st11 loop1)

/-- behind the first clause's store and tests b's word -/
def tLcB (wi : TI) (g : TG) (tt : TT) (b : Addr → L2.St → Hp → (Hp → Prop) → Prop) (vs : List Nat) : TE := fun σ H Q => wi σ H fun J H1 => ∀ D, H1 D = none → ∃ W : Nat → Nat → Hp → Prop, (∃ m, W 0 m (upd H1 D (.lst []))) ∧ ∀ i m H, W i m H →
  (J.stop i H ∧ Q (.ref D) H) ∨ (J.go i H ∧ ∃ Nx : Hp → Prop, (∀ H', Nx H' → ∃ m', m' < m ∧ W (i + 1) m' H') ∧ ∀ x H', J.yld i H x H' → g x (wipe σ vs) H' fun σ2 H2 => wipe σ2 vs = wipe σ vs ∧ tt σ2 H2 fun b1 H3 =>
    if b1 = true then b D σ2 H3 Nx else Nx H3)
theorem lcB_core {pins : List (Addr × Obj)} {s : Shared} {σ : L2.St} {H : Hp} {Q : VK} {elt tg iter : Expr} {ifs : List Expr} {rest : List Comprehension} {scope : Scope} {own : List (Str × Nat)} {vs' : List Nat} {pos pos' : Pos} {wi : TI} {g : TG} {tt : TT} {b : Addr → L2.St → Hp → (Hp → Prop) → Prop} {Act : Env → Addr → Shared → (Shared → Prop) → Prop} {use : Option (Value → Sem Unit)} {Qf : Value → Shared → Prop}
    (hc : X.calm = true) (hN : X.N.Nodup) (I : Inv X pins σ H s) (hi : PI X tg iter wi) (ok : BlkOk X.N X.env.scope scope own) (hv : ∀ i ∈ vs', i ∈ own.map (·.2))
    (hg : ∀ (s : Shared) (H : Hp) (C : Addr) (cl : List (Str × Addr)) (fp : List Addr), PG (X.blk s H scope (compEnvC scope cl C X.env) fp) tg g) (ht : ∀ (s : Shared) (H : Hp) (C : Addr) (cl : List (Str × Addr)) (fp : List Addr), PTs (X.blk s H scope (compEnvC scope cl C X.env) fp) ifs tt)
    (hin : ∀ (s : Shared) (H : Hp) (C : Addr) (cl : List (Str × Addr)) (fp : List Addr) (D : Addr), Inside (X.blk s H scope (compEnvC scope cl C X.env) fp) (Act (compEnvC scope cl C X.env) D) (b D) vs')
    (rule : ∀ (C : Addr) (cl : List (Str × Addr)) (D : Addr), ClauseRule X.prog X.w X.A (.ListComp elt (⟨tg, iter, ifs, 0⟩ :: rest) scope pos) (.ref D) (compEnvC scope cl C X.env) 0 tg ifs (Act (compEnvC scope cl C X.env) D))
    (hs : ∀ x, foldedSetIterable iter X.env x = pure x)
    (h : tLcB wi g tt b (own.map (·.2)) σ H Q)
    (hRR : ∀ D C s' m H', Inv X pins σ H' s' → Q (.ref D) H' → s'.heap.Ns C m → FpOk X pins H' C → compPost (model X.prog X.w) X.A X.xe use Qf (.ref D) C (.ok .next) s') :
    wpAny (model X.prog X.w) X.A (comprehension (.ListComp elt (⟨tg, iter, ifs, 0⟩ :: rest) scope pos) scope X.env pos' (newList []) false (eval iter X.env) use) Qf X.xe s := by
  have hfree : ∀ y ∈ scope.names, y.2 = .free → ∃ c, X.env.cells.lookup y.1 = some c := fun y hy e => by
    rcases ok.free y hy e with k | k
    · exact I.ok.has _ (.inl k)
    · exact I.ok.has _ (.inr k)
  refine wpAny_comprehension_free (use := use) rfl hs (closure_ok hfree) ok.kind (fun y hy e => by rw [ok.uniq y hy, e])
    (thn (hi.run pins s σ H _ I h) fun xv s1 hx => thn hx fun itv s2 h2 => ?_)
  obtain ⟨it, fp, tn, J, H2, e, I2, T, st2, f2, q⟩ := h2
  subst e
  refine wpAny_newObj_type (newEnv_comp ?_) (by show 0 ≤ sizeLine; decide)
  generalize hD : s2.heap.objs.size = D
  have hDn : H2 D = none := I2.hok.fresh (Nat.le_of_eq hD)
  obtain ⟨W, ⟨m0, w0⟩, turn⟩ := q D hDn
  generalize hs3 : ({ s2 with heap := s2.heap.push { cls := .type "list", data := .seq ([] : List Value).toArray } } : Shared) = s3
  have I3 : Inv X pins σ (upd H2 D (.lst [])) s3 := by
    rw [← hs3]
    refine I2.laid (t' := s2.toks) (fun b o e => Heap.get?_push_of_some _ e) (Nat.le_of_eq hD) ⟨Nat.zero_le _, [], 0, .nil, ?_⟩
    rw [← hD]
    exact Heap.get?_push_size _ rfl
  have h3 : s3.heap = s2.heap.push { cls := .type "list", data := .seq ([] : List Value).toArray } := by rw [← hs3]
  have sz : ∀ b ∈ fp, b < s2.heap.objs.size := fun b hb => by
    obtain ⟨o, e, _⟩ := T.obj _ _ st2 b hb
    exact Heap.lt_size e
  have f3 : ∀ b ∈ fp, FpOk X pins (upd H2 D (.lst [])) b ∧ b < s3.heap.objs.size := fun b hb => by
    have hlt := sz b hb
    refine ⟨⟨?_, (f2 b hb).2⟩, by rw [h3, Heap.size_push]; exact Nat.lt_succ_of_lt hlt⟩
    rw [upd_ne (by rw [← hD]; exact Nat.ne_of_lt hlt)]
    exact (f2 b hb).1
  have st3 : tn 0 s3.heap := T.keep _ _ _ st2 fun b _ o e => by rw [h3]; exact Heap.get?_push_of_some _ e
  have I4 := block_start I3 ok hN f3
  have pg := hg s3 (upd H2 D (.lst [])) s3.heap.objs.size (cellsFrom (s3.heap.objs.size + 1) scope.names (cloFrom X.env.cells scope.names [])) fp
  have pt := ht s3 (upd H2 D (.lst [])) s3.heap.objs.size (cellsFrom (s3.heap.objs.size + 1) scope.names (cloFrom X.env.cells scope.names [])) fp
  have ins := hin s3 (upd H2 D (.lst [])) s3.heap.objs.size (cellsFrom (s3.heap.objs.size + 1) scope.names (cloFrom X.env.cells scope.names [])) fp D
  have rl := rule s3.heap.objs.size (cellsFrom (s3.heap.objs.size + 1) scope.names (cloFrom X.env.cells scope.names [])) D
  show codeAny _ _ (.compStart (.ListComp elt (⟨tg, iter, ifs, 0⟩ :: rest) scope pos) 0 (.ref it) (.ref D) (compEnvC scope (cellsFrom (s3.heap.objs.size + 1) scope.names (cloFrom X.env.cells scope.names [])) s3.heap.objs.size X.env)) (compPost (model X.prog X.w) X.A X.xe use Qf (.ref D) s3.heap.objs.size) { s3 with heap := pushCells (s3.heap.push { cls := .type "dict", data := .dict #[] }) scope.names }
  have nfp : ∀ b ∈ fp, (upd H2 D (.lst [])) b = none := fun b hb => (f3 b hb).1.1
  generalize hce : compEnvC scope (cellsFrom (s3.heap.objs.size + 1) scope.names (cloFrom X.env.cells scope.names [])) s3.heap.objs.size X.env = ce at I4 pg pt ins rl ⊢
  have cL : ce.locals = s3.heap.objs.size := by subst hce; rfl
  generalize hH3 : upd H2 D (.lst []) = H3 at I3 I4 pg pt ins w0 nfp f3
  generalize hs4 : ({ s3 with heap := pushCells (s3.heap.push { cls := .type "dict", data := .dict #[] }) scope.names } : Shared) = s4 at I4 ⊢
  have st4 : tn 0 s4.heap := T.keep _ _ _ st3 fun b _ o e => by rw [← hs4]; exact pushCells_keeps _ _ _ _ (Heap.get?_push_of_some _ e)
  have stat : ∀ {σ' : L2.St} {H' : Hp} {s' : Shared}, Inv (X.blk s3 H3 scope ce fp) [] σ' H' s' → (∀ b ∈ fp, H' b = none) → ∀ b ∈ fp, FpOk (X.blk s3 H3 scope ce fp) [] H' b := fun {σ' H' s'} I' hn b hb =>
    ⟨hn b hb, (I'.ok.exf b hb).1, I'.ok.exfs b hb, .inl hb, fun x c e => (I'.ok.exf b hb).2 x c e, fun p hp => absurd (show p ∈ ([] : List (Addr × Obj)) ++ [] from hp) (by simp)⟩
  have loop : codeAny (model X.prog X.w) X.A (.compLoop (.ListComp elt (⟨tg, iter, ifs, 0⟩ :: rest) scope pos) 0 (.ref it) (.ref D) ce) (compPost (model X.prog X.w) X.A X.xe use Qf (.ref D) s3.heap.objs.size) s4 := by
    refine rl (.ref it) _ (fun n s' => ∃ i H', Inv (X.blk s3 H3 scope ce fp) [] (wipe σ (own.map (·.2))) H' s' ∧ tn i s'.heap ∧ (∀ b ∈ fp, H' b = none) ∧ W i n H') ?_ m0 _ ⟨0, H3, I4, st4, nfp, w0⟩
    rintro n s5 ⟨i, H5, I5, st5, n5, w5⟩
    rcases turn i n H5 w5 with ⟨stop, qq⟩ | ⟨go, Nx, hNx, step⟩
    · refine thnF (T.done (X.blk s3 H3 scope ce fp) rfl rfl rfl hc i [] s5 _ H5 (fun _ _ => False) I5 (stat I5 n5) st5 stop) fun r s6 ⟨hr, I6⟩ => ?_
      subst hr
      have I7 : Inv X pins σ H5 s6 := I3.call' (ch := fp) I6.os I6.base I6.hok I6.bare fun b hb => ⟨(f3 b hb).1.2.2.2.1, (f3 b hb).1.2.1, (f3 b hb).1.2.2.2.2.1, (f3 b hb).1.2.2.2.2.2⟩
      have nC : H5 s3.heap.objs.size = none := by
        have z : H5 ce.locals = none := I6.free
        rw [cL] at z
        exact z
      obtain ⟨m, hn, _⟩ := I6.loc
      have hn : s6.heap.Ns ce.locals m := hn
      rw [cL] at hn
      exact hRR D s3.heap.objs.size s6 m H5 I7 qq hn (I3.fpOk (Nat.le_refl _) nC)
    · refine thnF (T.item (X.blk s3 H3 scope ce fp) rfl rfl rfl hc i [] s5 _ H5 (fun _ _ => False) I5 (stat I5 n5) st5 go) fun r s6 ⟨u, hr, h6⟩ => ?_
      subst hr
      refine thnF h6 fun _ s7 ⟨x, H7, I7, r7, y7, st7, n7⟩ => ?_
      have I7' := I7.pinned (stat I7 n7) (T.obj _ _ st7)
      refine thnF (pg.run _ s7 _ H7 x u _ I7' r7 (step x H7 y7)) fun _ s8 ⟨σ8, H8, I8, hw8, q8⟩ => ?_
      refine thnF (pt.run _ s8 σ8 H8 _ I8 q8) fun b1 s9 ⟨H9, I9, q9⟩ => ?_
      have fin : ∀ {σ9 : L2.St} {s' : Shared} {H' : Hp}, Inv (X.blk s3 H3 scope ce fp) ([] ++ pinsAt fp s7.heap) σ9 H' s' → (wipe σ (own.map (·.2))).length = σ9.length → (∀ (j : Nat) v, (wipe σ (own.map (·.2)))[j]? = some (some v) → σ9[j]? = some (some v)) → Nx H' →
          ∃ m, m < n ∧ ∃ i H', Inv (X.blk s3 H3 scope ce fp) [] (wipe σ (own.map (·.2))) H' s' ∧ tn i s'.heap ∧ (∀ b ∈ fp, H' b = none) ∧ W i m H' := fun {σ9 s' H'} I' hl hk nx => by
        obtain ⟨m', hm, w'⟩ := hNx H' nx
        have pin' : ∀ b ∈ fp, ∀ o, s7.heap.get? b = some o → s'.heap.get? b = some o ∧ H' b = none := fun b hb o e =>
          let z := I'.pin (b, o) (List.mem_append_right _ (List.mem_append_right _ (mem_pinsAt hb e)))
          ⟨z.1, z.2.1⟩
        refine ⟨m', hm, i + 1, H', (I'.unpinned (pins := [])).weak hl hk, T.keep _ _ _ st7 fun b hb o e => (pin' b hb o e).1, fun b hb => ?_, w'⟩
        obtain ⟨o, e, _⟩ := T.obj _ _ st7 b hb
        exact (pin' b hb o e).2
      have hl8 : (wipe σ (own.map (·.2))).length = σ8.length := by rw [← hw8, wipe_length]
      have hk8 : ∀ (j : Nat) v, (wipe σ (own.map (·.2)))[j]? = some (some v) → σ8[j]? = some (some v) := fun j v e => by
        rw [← hw8] at e
        exact (wipe_some e).1
      cases b1 with
      | false =>
        simp only [Bool.false_eq_true, if_false] at q9 ⊢
        exact fin I9 hl8 hk8 q9
      | true =>
        simp only [if_true] at q9 ⊢
        exact ins.mono _ _ _ (ins.run _ s9 σ8 H9 Nx I9 q9) fun s' ⟨H', I', nx⟩ => fin I' (hl8.trans (wipe_length _ _).symm) (fun j v e => by
          rw [← hw8] at e
          obtain ⟨e1, e2⟩ := wipe_some e
          rw [wipe_out fun z => e2 (hv j z)]
          exact e1) nx
  exact codeAny_compStart_list loop (T.self X.A 0 _ _ _ st4 loop)
theorem ps_setLcB {i : Nat} {y : Str} {py : Pos} {elt tg iter : Expr} {ifs : List Expr} {rest : List Comprehension} {scope : Scope} {own : List (Str × Nat)} {vs' : List Nat} {pos spos : Pos} {wi : TI} {g : TG} {tt : TT} {b : Addr → L2.St → Hp → (Hp → Prop) → Prop} {Act : Env → Addr → Shared → (Shared → Prop) → Prop} (hc : X.calm = true) (hN : X.N.Nodup) (hy : X.N[i]? = some y) (hyl : X.env.scope.names.lookup y = some .local)
    (hsw : swapsWith (.ListComp elt (⟨tg, iter, ifs, 0⟩ :: rest) scope pos) (some (.Name y py)) spos.line X.env = pure true) (hi : PI X tg iter wi) (ok : BlkOk X.N X.env.scope scope own) (hv : ∀ i ∈ vs', i ∈ own.map (·.2))
    (hg : ∀ (s : Shared) (H : Hp) (C : Addr) (cl : List (Str × Addr)) (fp : List Addr), PG (X.blk s H scope (compEnvC scope cl C X.env) fp) tg g) (ht : ∀ (s : Shared) (H : Hp) (C : Addr) (cl : List (Str × Addr)) (fp : List Addr), PTs (X.blk s H scope (compEnvC scope cl C X.env) fp) ifs tt)
    (hin : ∀ (s : Shared) (H : Hp) (C : Addr) (cl : List (Str × Addr)) (fp : List Addr) (D : Addr), Inside (X.blk s H scope (compEnvC scope cl C X.env) fp) (Act (compEnvC scope cl C X.env) D) (b D) vs')
    (rule : ∀ (C : Addr) (cl : List (Str × Addr)) (D : Addr), ClauseRule X.prog X.w X.A (.ListComp elt (⟨tg, iter, ifs, 0⟩ :: rest) scope pos) (.ref D) (compEnvC scope cl C X.env) 0 tg ifs (Act (compEnvC scope cl C X.env) D))
    (hs : ∀ x, foldedSetIterable iter X.env x = pure x := by intro _; rfl) :
    PS X (.Assign [.Name y py] (.ListComp elt (⟨tg, iter, ifs, 0⟩ :: rest) scope pos) spos) (tAsg (tLcB wi g tt b (own.map (·.2))) (gName i)) := by
  refine ⟨fun pins s σ H D I h => ?_⟩
  rw [exec_Assign_Name_used _ _ _ _ hsw]
  refine wpAny_bind (wpAny_standAt (wpAny_bind ?_))
  show wpAny _ X.A (do let _ ← comprehension (.ListComp elt (⟨tg, iter, ifs, 0⟩ :: rest) scope pos) scope X.env (firstIterPos (⟨tg, iter, ifs, 0⟩ :: rest) pos) (newList []) false (eval iter X.env) (some (assign (.Name y py) X.env))) _ _ s
  have h : tLcB wi g tt b (own.map (·.2)) σ H (fun x H1 => gName i x σ H1 D.nx) := h
  refine wpAny_bind (thn (lcB_core (Qf := fun _ s' => SP X pins D .next s') hc hN I hi ok hv hg ht hin rule hs h fun L C s' m H' I' q hn f => ?_) fun _ s' hq => wpAny_pure (wpAny_pure hq))
  show wpAny _ _ (assign (.Name y py) X.env (.ref L)) _ _ _
  refine wpAny_assign_Name (store_ok2 (v := V.ref L) I' hN hy (.inl hyl) rfl (fun s2 I2 ⟨a, sb, ha⟩ => ?_) (.inr hyl))
  obtain ⟨f0, f1, f2, f3, f4, f5⟩ := f
  have haC : C ≠ a := by
    rcases ha with z | z
    · rw [z]; exact f1
    · exact fun e => f4 y a z e.symm
  refine ⟨m, hn.sameBut sb haC, fun h3 sb3 => ?_⟩
  exact ⟨_, H', I2.turned (t' := s2.toks) (fun b o hb e => (sb3.2 b hb).trans e) f0 f1 f3 f4 f5, q⟩
/-- three clauses -/
theorem ps_setLc3 {i : Nat} {y : Str} {py : Pos} {elt tg iter tg1 iter1 tg2 iter2 : Expr} {ifs ifs1 ifs2 : List Expr} {scope : Scope} {own : List (Str × Nat)} {vs1 vs2 : List Nat} {pos spos : Pos} {wi wi1 wi2 : TI} {g g1 g2 : TG} {tt tt1 tt2 : TT} {te : TE} (hc : X.calm = true) (hN : X.N.Nodup) (hy : X.N[i]? = some y) (hyl : X.env.scope.names.lookup y = some .local)
    (hsw : swapsWith (.ListComp elt [⟨tg, iter, ifs, 0⟩, ⟨tg1, iter1, ifs1, 0⟩, ⟨tg2, iter2, ifs2, 0⟩] scope pos) (some (.Name y py)) spos.line X.env = pure true) (hi : PI X tg iter wi) (ok : BlkOk X.N X.env.scope scope own) (hv : ∀ i ∈ vs1, i ∈ own.map (·.2)) (hv2 : ∀ i ∈ vs2, i ∈ vs1)
    (hg : ∀ (s : Shared) (H : Hp) (C : Addr) (cl : List (Str × Addr)) (fp : List Addr), PG (X.blk s H scope (compEnvC scope cl C X.env) fp) tg g) (ht : ∀ (s : Shared) (H : Hp) (C : Addr) (cl : List (Str × Addr)) (fp : List Addr), PTs (X.blk s H scope (compEnvC scope cl C X.env) fp) ifs tt)
    (hi1 : ∀ (s : Shared) (H : Hp) (C : Addr) (cl : List (Str × Addr)) (fp : List Addr), PI (X.blk s H scope (compEnvC scope cl C X.env) fp) tg1 iter1 wi1)
    (hg1 : ∀ (s : Shared) (H : Hp) (C : Addr) (cl : List (Str × Addr)) (fp : List Addr), PG (X.blk s H scope (compEnvC scope cl C X.env) fp) tg1 g1) (ht1 : ∀ (s : Shared) (H : Hp) (C : Addr) (cl : List (Str × Addr)) (fp : List Addr), PTs (X.blk s H scope (compEnvC scope cl C X.env) fp) ifs1 tt1)
    (hi2 : ∀ (s : Shared) (H : Hp) (C : Addr) (cl : List (Str × Addr)) (fp : List Addr), PI (X.blk s H scope (compEnvC scope cl C X.env) fp) tg2 iter2 wi2)
    (hg2 : ∀ (s : Shared) (H : Hp) (C : Addr) (cl : List (Str × Addr)) (fp : List Addr), PG (X.blk s H scope (compEnvC scope cl C X.env) fp) tg2 g2) (ht2 : ∀ (s : Shared) (H : Hp) (C : Addr) (cl : List (Str × Addr)) (fp : List Addr), PTs (X.blk s H scope (compEnvC scope cl C X.env) fp) ifs2 tt2)
    (he : ∀ (s : Shared) (H : Hp) (C : Addr) (cl : List (Str × Addr)) (fp : List Addr), PE (X.blk s H scope (compEnvC scope cl C X.env) fp) elt te) (hs : ∀ x, foldedSetIterable iter X.env x = pure x := by intro _; rfl) (hs1 : ∀ env x, foldedSetIterable iter1 env x = pure x := by intro _ _; rfl) (hs2 : ∀ env x, foldedSetIterable iter2 env x = pure x := by intro _ _; rfl) :
    PS X (.Assign [.Name y py] (.ListComp elt [⟨tg, iter, ifs, 0⟩, ⟨tg1, iter1, ifs1, 0⟩, ⟨tg2, iter2, ifs2, 0⟩] scope pos) spos) (tAsg (tLcB wi g tt (fun D => bIn wi1 g1 tt1 (bIn wi2 g2 tt2 (bEmit te D) vs2) vs1) (own.map (·.2))) (gName i)) := by
  refine ps_setLcB (Act := fun env D => actIn X.prog X.w X.A (.ListComp elt [⟨tg, iter, ifs, 0⟩, ⟨tg1, iter1, ifs1, 0⟩, ⟨tg2, iter2, ifs2, 0⟩] scope pos) (.ref D) env 0 iter1) hc hN hy hyl hsw hi ok hv hg ht (fun s H C cl fp D => ?_) (fun C cl D => ?_) hs
  · have e2 := inside_emit (D := D) rfl (he s H C cl fp)
    have e1 := inside_in (X := X.blk s H scope (compEnvC scope cl C X.env) fp) (ge := .ListComp elt [⟨tg, iter, ifs, 0⟩, ⟨tg1, iter1, ifs1, 0⟩, ⟨tg2, iter2, ifs2, 0⟩] scope pos) (D := D) (d := 1) (vs := vs2) rfl hc (fun i hi => by cases hi) (hi2 s H C cl fp) (hg2 s H C cl fp) (ht2 s H C cl fp) e2
      (clause_emit (i := iter2) (fun _ => rfl) (fun _ => rfl) (fun _ => rfl) (fun _ => rfl)) (fun _ => rfl) (fun _ => rfl) rfl (fun _ => rfl)
    exact inside_in (X := X.blk s H scope (compEnvC scope cl C X.env) fp) (ge := .ListComp elt [⟨tg, iter, ifs, 0⟩, ⟨tg1, iter1, ifs1, 0⟩, ⟨tg2, iter2, ifs2, 0⟩] scope pos) (D := D) (d := 0) (vs := vs1) rfl hc hv2 (hi1 s H C cl fp) (hg1 s H C cl fp) (ht1 s H C cl fp) e1
      (clause_in (i := iter1) (hs2 _) (fun _ => rfl) (fun _ => rfl) (fun _ => rfl) (fun _ => rfl)) (fun _ => rfl) (fun _ => rfl) rfl (fun _ => rfl)
  · exact clause_in (i := iter) (hs1 _) (fun _ => rfl) (fun _ => rfl) (fun _ => rfl) (fun _ => rfl)
end
end GX
set_option Elab.async false
set_option linter.all false
set_option maxRecDepth 100000
set_option maxHeartbeats 4000000
/-! GX 9: a lambda handed to a def (the other tables stay); except with a tuple of classes. -/
namespace GX
open PySem PySem.Spec PyProof.Rows L2 LamX
/-- the table at P alone may have grown -/
def Let (P : Addr) (H H1 : Hp) : Prop := (∀ b o, H b = some o → b ≠ P → H1 b = some o) ∧ ∃ ps, H P = some (.tbl ps) ∧ ∃ ps', H1 P = some (.tbl ps') ∧ TriplesOk ps'.toList
section
variable {X : Cx} {pins : List (Addr × Obj)} {σ : L2.St} {H : Hp} {s : Shared}
theorem lam_make3 {T : List (Addr × Str)} {c P : Addr} {params : Arguments} {body : Expr} {scope : Scope} {pos : Pos} {E : Value → Shared → Prop} {Q : Value → Shared → Prop} (I : Inv X pins σ H s) (TB : TabB X.base X.mg c P) (hcode : X.env.code = .ref c)
    (hm : (P, X.env.qual ++ "<lambda>") ∈ T) (hu : ∀ p ∈ T, p.1 = P → p.2 = X.env.qual ++ "<lambda>") (hT : Tabs T H) (hdef : defaultsOf params X.env = ([], [])) (hfree : ∀ y ∈ scope.names, y.2 = .free → ∃ c, X.env.cells.lookup y.1 = some c)
    (h : ∀ (f c' : Addr) (pm ctv : Value) (H1 : Hp) (s' : Shared), Inv X pins σ H1 s' → Let P H H1 → Tabs T H1 →
      s'.heap.get? f = some (PySem.W.kla_obj "<lambda>" (X.env.qual ++ "<lambda>") params body scope (cloFrom X.env.cells scope.names []) pm c' ctv) → H1 f = none → f ∉ frs X.stack → H1 c' = some (CodeO c' (X.env.qual ++ "<lambda>")) → Q (.ref f) s') :
    wpAny (model X.prog X.w) X.A (eval (.Lambda params body scope pos) X.env) Q E s := by
  obtain ⟨ps, hP, ht, ha⟩ := hT _ hm
  refine PySem.W.kla_eval hdef ?_
  have bP : s.heap.BuiltinsAt X.mg P := TB.bm.keeps I.bk
  have hP' : s.heap.get? P = some { cls := .none, data := .fields ps } := I.hok P _ hP
  have nofr : ∀ f, s.heap.objs.size ≤ f → f ∉ frs X.stack := fun f hf z => by
    rcases List.mem_cons.mp (I.stkSub _ z) with e | e
    · have h1 := I.lt
      rw [← e] at h1
      exact Nat.lt_irrefl _ (Nat.lt_of_lt_of_le h1 hf)
    · exact I.nofs hf e
  cases hc : codeAmong pos ps.toList with
  | none =>
    refine PySem.W.kla_makeFunction (mg := X.mg) (c := c) (P := P) (ps := ps) (closure_ok hfree) I.ok.glob (I.mod.glob.keeps I.bk) hcode (TB.code.keeps I.bk) hP' ht hc TB.gP bP fun c' ctv h' tk hx hge hlt hrec htb => ?_
    obtain ⟨c2, oc, vs, t, e2, hoc, hd, hv⟩ := hrec
    cases e2
    have hsz : s.heap.objs.size ≤ h'.objs.size := Nat.le_trans hge (Nat.le_of_lt hlt)
    have nC : H c' = none := I.hok.fresh hge
    have I1 := inv_table (t' := tk) (more := #[rawInt pos.line, rawInt pos.col, .ref c']) (h' := h'.push (PySem.W.kla_obj "<lambda>" (X.env.qual ++ "<lambda>") params body scope (cloFrom X.env.cells scope.names []) ((X.mg "__name__").getD .none) c' ctv)) I hP
      (fun b o hb e => Heap.get?_push_of_some _ (hx b o hb e)) (Heap.get?_push_of_some _ htb) hge ⟨oc, vs, t, Heap.get?_push_of_some _ hoc, hd, hv⟩
    have hE : ExtN H (upd (upd H P (.tbl (ps ++ #[rawInt pos.line, rawInt pos.col, .ref c']))) c' (CodeO c' (X.env.qual ++ "<lambda>"))) := fun b o e n => by
      rw [upd_ne (ne_of_none e nC), upd_ne (fun z => n ps (Option.some.inj (e.symm.trans (by rw [z]; exact hP))))]
      exact e
    have eL : (ps ++ #[rawInt pos.line, rawInt pos.col, .ref c']).toList = ps.toList ++ [rawInt pos.line, rawInt pos.col, .ref c'] := by simp
    refine h h'.objs.size c' ((X.mg "__name__").getD .none) ctv _ _ I1 ⟨fun b o e n => by rw [upd_ne (ne_of_none e nC), upd_ne n]; exact e, ps, hP, _, by rw [upd_ne (ne_of_none hP nC), upd_same], by rw [eL]; exact PySem.TriplesOk_snoc _ _ _ _ ht⟩ (fun p hp => ?_) (Heap.get?_push_size _ rfl) ?_ (nofr _ hsz) upd_same
    · by_cases hb : p.1 = P
      · rw [hu p hp hb, hb]
        refine ⟨_, by rw [upd_ne (ne_of_none hP nC), upd_same], by rw [eL]; exact PySem.TriplesOk_snoc _ _ _ _ ht, fun p' cv hcv => ?_⟩
        rw [eL] at hcv
        rcases among_app _ ht hcv with z | z
        · obtain ⟨c0, e1, e2⟩ := ha p' cv z
          exact ⟨c0, e1, hE _ _ e2 codeO_ne⟩
        · exact ⟨c', z, upd_same⟩
      · obtain ⟨ps', a1, a2, a3⟩ := hT p hp
        refine ⟨ps', by rw [upd_ne (ne_of_none a1 nC), upd_ne hb]; exact a1, a2, fun p' cv hcv => ?_⟩
        obtain ⟨c0, e1, e2⟩ := a3 p' cv hcv
        exact ⟨c0, e1, hE _ _ e2 codeO_ne⟩
    · have n1 : h'.objs.size ≠ c' := Nat.ne_of_gt hlt
      have n2 : h'.objs.size ≠ P := Nat.ne_of_gt (Nat.lt_of_lt_of_le (Heap.lt_size hP') hsz)
      rw [upd_ne n1, upd_ne n2]
      exact I.hok.fresh hsz
  | some cv =>
    obtain ⟨c', e, hco⟩ := ha pos cv hc
    subst e
    refine PySem.W.kla_makeFunctionHit (mg := X.mg) (c := c) (P := P) (ps := ps) (closure_ok hfree) I.ok.glob (I.mod.glob.keeps I.bk) hcode (TB.code.keeps I.bk) hP' ht hc bP fun ctv h' tk hx hsz => ?_
    have I1 : Inv X pins σ H { s with heap := h'.push (PySem.W.kla_obj "<lambda>" (X.env.qual ++ "<lambda>") params body scope (cloFrom X.env.cells scope.names []) ((X.mg "__name__").getD .none) c' ctv), toks := tk } := I.kept fun b o e => Heap.get?_push_of_some _ (hx b o e)
    exact h h'.objs.size c' ((X.mg "__name__").getD .none) ctv H _ I1 ⟨fun b o e _ => e, ps, hP, ps, hP, ht⟩ hT (Heap.get?_push_size _ rfl) (I.hok.fresh hsz) (nofr _ hsz) hco
end
def tLam3 (P : Addr) (T : List (Addr × Str)) (TT : (XK → Hp → VK → Prop) → Hp → VK → Prop) (t : XK → TE) : TE := fun σ H Q => Tabs T H ∧ ∀ H1, Let P H H1 → Tabs T H1 → TT (fun E H' Q' => t E σ H' Q') H1 Q
section
variable {X : Cx}
theorem pe_lamcall3 {T : List (Addr × Str)} {TT : (XK → Hp → VK → Prop) → Hp → VK → Prop} {x a : Str} {g c P : Addr} {k : Nat} {pg : Arguments} {bg : List Stmt} {sg : Scope} {dV kV doc pm cdv ct oc : Value} {an od : Option Addr} {osl : Array (Option Value)} {Ng : List Str}
    {params : Arguments} {body : Expr} {scope : Scope} {t : XK → TE} {p lpos pos : Pos} (hg : Gl X x) (hm : X.mg x = some (.ref g)) (hk : PySem.W.keepIn X.K (.ref g) = true)
    (lk : X.K.lookup g = some ⟨oc, od, .func (PySem.W.fnOf x x pg bg sg dV kV doc pm an cdv ct), osl⟩) (hcg : PySem.W.codeIn X.K cdv x = true) (hb : L2.Binds X.K (PySem.W.fnOf x x pg bg sg dV kV doc pm an cdv ct) [a] []) (Sg : FnScope Ng [a] sg) (hNg : Ng[0]? = some a) (hva : Vis sg a)
    (hG : GivesTo X Ng x sg g cdv bg a (X.env.qual ++ "<lambda>") TT)
    (TB : TabB X.base X.mg c P) (hcode : X.env.code = .ref c) (hmT : (P, X.env.qual ++ "<lambda>") ∈ T) (hu : ∀ p ∈ T, p.1 = P → p.2 = X.env.qual ++ "<lambda>") (hr : Room (k + 2) X.A) (L : LamS X.env.scope scope) (hdef : defaultsOf params X.env = ([], []))
    (hbind : ∀ (q : Str) (cl : List (Str × Addr)) (pm cv ctv : Value), bindArgs (PySem.W.kla_fn "<lambda>" q params body scope cl pm cv ctv) ⟨[], []⟩ = pure [])
    (hbody : ∀ (A : Around) (outer : List Env) (s : Shared) (H : Hp) (E : XK) (f c' : Addr), Room k (A.deeper (lamEnv X scope s.heap.objs.size f c')) → PE (lamCx X A outer s H E scope f c') body (t E))
    (hdb : (x == ("__debug__" : Str)) = false := by decide) (hd : (a == ("__debug__" : Str)) = false := by decide) (hcd : (a == ("__classdict__" : Str)) = false := by decide) :
    PE X (.Call (.Name x p) [.Lambda params body scope lpos] [] pos) (tLam3 P T TT t) := by
  refine ⟨fun pins s σ H Q I h => ?_⟩
  obtain ⟨hT, h⟩ := h
  refine wpAny_Call_Name_kw (ld_glob I hg hm ?_ hdb)
  refine PySem.W.callWith_K (h₀ := X.base) I.ok.mod.kin hk ?_ (by rfl) (by rfl)
  show wpAny _ _ (spliced ((false, eval (.Lambda params body scope lpos) X.env) :: backTo pos (starEach [] X.env))) _ _ s
  refine Calls.spliced_cons (lam_make3 I TB hcode hmT hu hT hdef (L.has I.ok) fun f c' pm' ctv H1 s' I1 eN T1 hf hfn hfr hco => ?_)
  refine Calls.spliced_nil ⟨I1.kIn, ?_⟩
  have rc : codeAny (model X.prog X.w) X.A (.call (.ref g) ⟨[.ref f], []⟩) (CR C8.CX0 X.stack X.prog X.w H1 s' Q C8.E0) s' := by
    refine run_ofS (N := Ng) (ps := [a]) (us := [.ref f]) (vs := [.ref f]) lk hcg Sg hr I1.env0 (hb s' [.ref f] I1.kIn rfl) (.cons rfl .nil) rfl fun hr' => ?_
    obtain ⟨t', ht', hq'⟩ := hG f c' s' H1 Q (fun E H' Q' => t E σ H' Q') (fun W pn xe E p1 p2 tk hW => pe_act (i := 0) I1 L hf hfn hfr (hbind _ _ _ _ _) tk hW hr' (fun A outer s H hr2 => hbody A outer s H E f c' hr2) hNg hva hd hcd) hco (h H1 eN T1)
    exact ⟨t', ht'.nox, hq'⟩
  refine wpAny_call (codeAny_mono rc fun r s2 hq => ?_)
  cases r with
  | error e => exact (show False from hq).elim
  | ok fl =>
    cases fl with
    | ret u => exact I1.after hq
    | next => exact False.elim hq
    | brk => exact False.elim hq
    | cont => exact False.elim hq

end
/-! ### except (A, B, ..) -/
section
open PySem.W
variable {M : Model} {K : Frag}
theorem exmAny_each {cls : Value} : ∀ {cs : List Value} {b : Bool}, exmAny K cls cs = some b → ∀ c ∈ cs, ∃ b1, exmOne K cls c = some b1
  | [], _, _, c, hc => by cases hc
  | c0 :: r, b, h, c, hc => by
    obtain ⟨b1, d1, x1, y1, _⟩ := exmAny_cons h
    rcases List.mem_cons.mp hc with e | e
    · rw [e]; exact ⟨b1, x1⟩
    · exact exmAny_each y1 c e
theorem exm_tupN {cls : Value} {cs : List Value} {tp e : Addr} {b : Bool} {h : Heap} (X : K.In h) (LT : Looks M h (typeOf (.ref e)) cls) (hp : h.get? tp = some { cls := .type "tuple", data := .seq cs.toArray }) (hx : exmAny K cls cs = some b) :
    Looks M h (excMatches (.ref e) (.ref tp)) b := by
  intro A Q E s k₀ q
  obtain ⟨hh, g, d, tk, os⟩ := s
  have k : ∀ b o, h.get? b = some o → hh.get? b = some o := k₀
  have LT0 : Looks M h (isInstance (.ref tp) (.type "tuple")) true := ((Looks.ld hp).andThen .now).andThen (Looks.of_pure isSubtype_tuple_tuple)
  have LT := LT.keeps k
  have LT0 := LT0.keeps k
  have hp' := k _ _ hp
  unfold excMatches
  refine wpAny_bind (LT0.at ?_)
  dsimp only
  rw [if_pos rfl]
  first
    | refine wpAny_bind (wpAny_seqItems hp' rfl ?_)
    | refine wpAny_bind (wpAny_bind (wpAny_seqItems hp' rfl (wpAny_pure ?_)))
  show wpAny M A (forIn cs PUnit.unit _ >>= _) _ _ _
  have L1 : ∀ (l : List Value) (b : Bool), exmAny K cls l = some b → ∀ (Q : PUnit → Shared → Prop), Q PUnit.unit { heap := hh, gens := g, drawn := d, toks := tk, os := os } →
      wpAny M A (forIn l PUnit.unit fun c __s => do
          let __do_lift ← isExcClass c
          if (!__do_lift) = true then do
              rule "try.except-non-exception-class"
              raiseErrorWords "TypeError" "catching classes that do not inherit from BaseException is not allowed"
              pure (ForInStep.yield PUnit.unit)
            else pure (ForInStep.yield PUnit.unit)) Q E { heap := hh, gens := g, drawn := d, toks := tk, os := os } := by
    intro l
    induction l with
    | nil => intro b _ Q q; simp only [List.forIn_nil]; exact wpAny_pure q
    | cons c r ih =>
      intro b hb Q q
      obtain ⟨b1, d1, x1, y1, _⟩ := exmAny_cons hb
      obtain ⟨e1, _⟩ := exm_cls (M := M) X x1
      simp only [List.forIn_cons]
      refine wpAny_bind (wpAny_bind ((e1.keeps k).here ?_))
      simp only [Bool.not_true, Bool.false_eq_true, if_false]
      exact wpAny_pure (ih d1 y1 Q q)
  refine wpAny_bind (L1 cs b hx _ ?_)
  refine wpAny_bind (LT.here ?_)
  have L2 : ∀ (l : List Value) (b : Bool), exmAny K cls l = some b → ∀ (Q : Option Bool × Unit → Shared → Prop), (b = true → Q (some true, ()) { heap := hh, gens := g, drawn := d, toks := tk, os := os }) → (b = false → Q (none, ()) { heap := hh, gens := g, drawn := d, toks := tk, os := os }) →
      wpAny M A (forIn l ((none : Option Bool), ()) fun c __s => do
            let __do_lift ← isSubtype cls c
            if __do_lift = true then pure (ForInStep.done (some true, ())) else pure (ForInStep.yield (none, ()))) Q E { heap := hh, gens := g, drawn := d, toks := tk, os := os } := by
    intro l
    induction l with
    | nil => intro b hb Q _ q; simp only [List.forIn_nil]; exact wpAny_pure (q (Option.some.inj hb).symm)
    | cons c r ih =>
      intro b hb Q q1 q2
      obtain ⟨b1, d1, x1, y1, z1⟩ := exmAny_cons hb
      obtain ⟨_, S1⟩ := exm_cls (M := M) X x1
      simp only [List.forIn_cons]
      refine wpAny_bind (wpAny_bind ((S1.keeps k).here ?_))
      cases b1 with
      | true =>
        simp only [if_true]
        exact wpAny_pure (wpAny_pure (q1 (by rw [z1]; rfl)))
      | false =>
        simp only [Bool.false_eq_true, if_false]
        have e : b = d1 := by rw [z1]; rfl
        subst e
        exact wpAny_pure (ih b y1 Q q1 q2)
  refine wpAny_bind (L2 cs b hx _ (fun e => ?_) fun e => ?_)
  · subst e
    exact wpAny_pure q
  · subst e
    exact wpAny_pure q
end
section
def nmEs (l : List (Str × Pos × Value)) : List Expr := l.map fun x => .Name x.1 x.2.1
/-- what the clause wishes of an exception of the body -/
def wTup (K : PySem.W.Frag) (cs : List Value) (ts : Addr → Value → Option Addr → TS) (Wout : WX) (D : Ends) : WX := fun cls d σ H =>
  ∃ b, PySem.W.exmAny K cls cs = some b ∧ (b = true → ∀ a, H a = none → ts a cls d D σ H) ∧ (b = false → Wout cls d σ H)
variable {X : Cx} {l : List (Str × Pos × Value)} {x1 : Nat} {body suite : List Stmt} {b₀ : Stmt} {np pos pos' : Pos} {tb : WX → TS} {ts : Addr → Value → Option Addr → TS} {Wout : WX}
theorem ps_try_tup (hs : X.stack = X.env :: X.outer) (hf : X.env.frame = some X.env.locals) (hc : ∀ x ∈ l, Names X x.1 x.2.2) (hlen : l.length ≤ sizeLine) (tk : Takes X Wout)
    (hb : ∀ (W : WX) (pn : List (Addr × Obj)) (xe : Value → Shared → Prop), Takes (X.tr pn xe) W → PassesOwn (model X.prog X.w) X.A X.env xe → PSs (X.tr pn xe) body (tb W))
    (hsu : ∀ (a : Addr) (oe : Obj) (cls : Value) (d : Option Addr) (pn : List (Addr × Obj)), Zc cls d oe → (∃ vs, oe.data = .fields vs) → PSs (X.suite a ((a, oe) :: pn)) (b₀ :: suite) (ts a cls d)) :
    PS X (.Try body [.ExceptHandler (some (.Tuple (nmEs l) x1 np)) none (b₀ :: suite) pos'] [] [] pos) (fun D σ H => tb (wTup X.K (l.map (·.2.2)) ts Wout D) D σ H) := by
  refine ⟨fun pins s σ H D I h => ?_⟩
  have ok := I.ok
  have hfr : X.A.frames = some (X.env :: X.outer) := by rw [ok.frames, hs]
  refine wpAny_Try_except ?_
  refine wpAny_mono ((hb (wTup X.K (l.map (·.2.2)) ts Wout D) (X.pn ++ pins) (fun e s₁ => wpAny (model X.prog X.w) X.A (noteFrame e X.env) (fun _ s₂ => wpAny (model X.prog X.w) X.A (setFlight e none) (fun _ s₃ =>
    wpAny (model X.prog X.w) X.A (handleBy e X.env [.ExceptHandler (some (.Tuple (nmEs l) x1 np)) none (b₀ :: suite) pos']) (SP X pins D) X.xe s₃) X.xe s₂) X.xe s₁) (fun u s' xx => ?_) PassesOwn.looking).run [] s σ H D (I.toTry _) h) (fun f s1 hsp => ?_) (fun e s1 he => he)
  · -- the catch
    obtain ⟨a, B, sI, pins', σ', H', cls, d, rfl, J', nb, up, sky, na, os, ag, b, hb1, hyes, hno⟩ := xx
    have J : Inv X pins σ' H' sI := J'.ofTry ok
    have sky' : Sky B (X.env :: X.outer) a (Zc cls d) X.env.locals s'.heap := by rw [← hs]; exact sky
    show wpAny (model X.prog X.w) X.A (noteFrame (.ref a) X.env) _ _ _
    refine Sky.land Zc.steady hfr hf sky' fun h3 fl3 up3 => ?_
    have J3 : Inv X pins σ' H' { s' with heap := h3 } := J.landed nb fl3.1 (up.trans up3) os ag
    obtain ⟨oe3, vs3, he3, hz3, hd3⟩ := fl3.there
    have notFr : ∀ {h : Heap} {o : Obj} {vs : Array Value}, h.FunFrames B (X.env :: X.outer) → h.get? a = some o → o.data = .fields vs → a ∉ frs (X.env :: X.outer) := fun {h o vs} ff e dd hm => by
      obtain ⟨_, o', e', hnf⟩ := ff.mem hm
      rw [e] at e'; cases e'
      exact hnf _ dd
    have nfr := notFr fl3.2.2.1 he3 hd3
    have nL : a ≠ X.env.locals := fun z => nfr (List.mem_filterMap.mpr ⟨X.env, List.mem_cons_self, by rw [hf, z]⟩)
    have nF : a ∉ X.fs := fun hm => by
      obtain ⟨e, he, q⟩ := List.mem_filterMap.mp hm
      exact nfr (List.mem_filterMap.mpr ⟨e, List.mem_cons_of_mem _ he, q⟩)
    have S3 := J3.suite he3 hd3 na nL nF
    refine wpAny_handleBy_cons (codeAny_handlers_test ?_) (by intro q; cases q)
    have LT : PySem.W.Looks (model X.prog X.w) h3 (typeOf (.ref a)) cls := fun A Q E s k q => wpAny_typeOf_ref (k _ _ he3) (by rw [hz3.1]; exact q)
    have hnames : ∀ (l : List (Str × Pos × Value)), (∀ x ∈ l, Names X x.1 x.2.2) → ∀ (Q : List Value → Shared → Prop) (E : Value → Shared → Prop), Q (l.map (·.2.2)) { s' with heap := h3 } →
        wpAny (model X.prog X.w) (X.A.mark (some (.ref a))) (spliced (backTo np (starEach (nmEs l) X.env))) Q E { s' with heap := h3 } := by
      intro l
      induction l with
      | nil => intro _ Q E q; exact Calls.spliced_nil q
      | cons x r ih =>
        intro hn Q E q
        show wpAny _ _ (spliced ((false, eval (.Name x.1 x.2.1) X.env) :: backTo np (starEach (nmEs r) X.env))) _ _ _
        refine Calls.spliced_cons ?_
        have q' := ih (fun y hy => hn y (List.mem_cons_of_mem _ hy)) (fun vs s => Q (x.2.2 :: vs) s) E q
        obtain ⟨hg, hdbg, hm | ⟨hm, hv, hnn⟩⟩ := hn x List.mem_cons_self
        · exact ld_glob (X := X.suite a ((a, oe3) :: (X.pn ++ pins))) S3 hg hm q' hdbg
        · exact ld_blt (X := X.suite a ((a, oe3) :: (X.pn ++ pins))) S3 hg hm hv q' hnn hdbg
    refine wpAny_Tuple_spliced (hnames l hc _ _ ⟨by rw [List.length_map]; exact hlen, ?_⟩)
    generalize ht5 : ({ cls := .type "tuple", data := .seq (l.map (·.2.2)).toArray } : Obj) = to5
    have k5 : ∀ b o, h3.get? b = some o → (h3.push to5).get? b = some o := fun b o e => Heap.get?_push_of_some _ e
    have fl5 : HandSPX.FlyingZ B (X.env :: X.outer) a (Zc cls d) (h3.push to5) := by
      obtain ⟨k1, k2, k3, oe, vs, T, oT, ts', he, hz, hd, h1, nT, nTe, hT, hTd, hr⟩ := fl3
      exact ⟨fun b o e => k5 b o (k1 b o e), k2, k3.of_keeps fun b o hb _ => ⟨o, k5 b o hb, rfl⟩, oe, vs, T, oT, ts', k5 _ _ he, hz, hd, h1, nT, nTe, k5 _ _ hT, hTd, hr⟩
    have up5 : h3.UpToSlots (h3.push to5) := .of_keeps k5
    have fl3 := fl5
    have up3 := up3.trans up5
    have J3 : Inv X pins σ' H' { s' with heap := h3.push to5 } := J.landed nb fl3.1 (up.trans up3) os ag
    have LM := exm_tupN (M := model X.prog X.w) J3.kIn (LT.keeps k5) (tp := h3.objs.size) (by rw [← ht5]; exact Heap.get?_push_size _ rfl) hb1
    refine LM.here ?_
    cases b with
    | true =>
      refine codeAny_handlers_suite ?_
      refine HandSPX.lands_againZ fl3 fun h4 fl4 up4 => ?_
      have J4 : Inv X pins σ' H' { s' with heap := h4 } := J.landed nb fl4.1 ((up.trans up3).trans up4) os ag
      obtain ⟨oe4, vs4, he4, hz4, hd4⟩ := fl4.there
      have S4 := J4.suite he4 hd4 na nL nF
      refine wpAny_mono ((hsu a oe4 cls d (X.pn ++ pins) hz4 ⟨_, hd4⟩).run [] _ _ H' _ S4 (hyes rfl a na)) (fun f s6 hsp => ?_) (fun _ _ z => False.elim z)
      cases f with
      | next =>
        obtain ⟨σ6, H6, S6, q6⟩ := hsp
        exact ⟨_, _, S6.unsuite ok, q6⟩
      | brk =>
        obtain ⟨σ6, H6, S6, q6⟩ := hsp
        exact ⟨_, _, S6.unsuite ok, q6⟩
      | cont =>
        obtain ⟨σ6, H6, S6, q6⟩ := hsp
        exact ⟨_, _, S6.unsuite ok, q6⟩
      | ret u =>
        obtain ⟨v6, σ6, H6, S6, r6, q6⟩ := hsp
        exact ⟨_, _, _, S6.unsuite ok, r6, q6⟩
    | false =>
      show wpAny _ X.A (handleBy (.ref a) X.env []) _ _ _
      refine wpAny_handleBy_nil ?_
      obtain ⟨k1, k2, k3, oe, vs, T, oT, ts', he, hz, hd, h1, hr⟩ := id fl3
      unfold PySem.passOn
      refine wpAny_bind (wpAny_field he hd h1 ?_)
      rw [if_neg (show ¬ ((Value.ref T == Value.none) = true) from by simp)]
      have fin : wpAny (model X.prog X.w) X.A (setFlight (.ref a) X.env.frame) (fun _ s4 => wpAny (model X.prog X.w) X.A (throw (.ref a) : Sem Flow) (SP X pins D) X.xe s4) X.xe { s' with heap := h3.push to5 } := by
        rw [hf]
        refine HandSPX.setFlight_upZ fl3 fun h4 hh4 up4 => wpAny_throw (tk _ _ ?_)
        exact ⟨a, B, sI, pins, σ', H', cls, d, rfl, J, nb, (up.trans up3).trans up4, .inr (.inr (by rw [hs]; exact hh4)), na, os, ag, hno rfl⟩
      first
        | exact wpAny_bind (wpAny_pure (wpAny_bind fin))
        | exact wpAny_bind fin
  · cases f with
    | next =>
      obtain ⟨σ', H', J', q⟩ := hsp
      exact wpAny_execs_nil ⟨σ', H', J'.ofTry ok, q⟩
    | brk =>
      obtain ⟨σ', H', J', q⟩ := hsp
      exact ⟨σ', H', J'.ofTry ok, q⟩
    | cont =>
      obtain ⟨σ', H', J', q⟩ := hsp
      exact ⟨σ', H', J'.ofTry ok, q⟩
    | ret u =>
      obtain ⟨v, σ', H', J', r, q⟩ := hsp
      exact ⟨v, σ', H', J'.ofTry ok, r, q⟩
end
/-- told: try: return a() / except (..): return None -/
def TToldN (K : PySem.W.Frag) (cs : List Value) : (XK → Hp → VK → Prop) → Hp → VK → Prop := fun tl H Q =>
  tl (fun cls _ H' => PySem.W.exmAny K cls cs = some true ∧ Q .non H') H Q
theorem told_givesN {X : Cx} {Ng : List Str} {x a q : Str} {sg : Scope} {g : Addr} {cdg : Value} {l : List (Str × Pos × Value)} {x1 : Nat} {p1 p2 p3 p4 p5 p6 p7 p8 : Pos} {j : Nat} (hc : ∀ x ∈ l, sg.names.lookup x.1 = some .globalImplicit ∧ (x.1 == ("__debug__" : Str)) = false ∧ X.mg x.1 = some x.2.2) (hlen : l.length ≤ sizeLine)
    (h0 : ∀ f : Addr, (L2.start Ng [V.ref f])[0]? = some (some (V.ref f))) :
    GivesTo X Ng x sg g cdg [.Try [.Return (some (.Call (.Name a p1) [] [] p2)) p3] [.ExceptHandler (some (.Tuple (nmEs l) x1 p4)) none [.Return (some (.Constant .none j p5)) p6] p7] [] [] p8] a q (TToldN X.K (l.map (·.2.2))) := by
  intro f c' s H Q tl act hco h
  refine ⟨_, pss_one (ps_try_tup (X := (cxOf C8.CX0 X.prog X.w X.K X.mg X.base Ng x sg g cdg X.A X.stack s H C8.E0).nox)
      (tb := fun W D σ H => ∃ Ech : XK, (∀ cls d σ' H', Ech cls d H' → W cls d σ' H') ∧ σ[0]? = some (some (.ref f)) ∧ H c' = some (CodeO c' q) ∧ tl Ech H D.rt)
      rfl rfl (fun y hy => ⟨(hc y hy).1, (hc y hy).2.1, .inl (hc y hy).2.2⟩) hlen LamX.takes0 (fun W pn xe tk _ => ?_) (fun a oe cls d pn _ _ => pss_one (ps_ret pe_non))), ?_⟩
  · refine ⟨fun pins s' σ H' D I h' => ?_⟩
    obtain ⟨Ech, hW, h1, h2, h3⟩ := h'
    have hp := act W pn xe Ech p1 p2 tk hW
    have hq := pss_one (ps_ret (pos := p3) hp)
    exact hq.run pins s' σ H' D I ⟨h1, h2, h3⟩
  · exact ⟨fun cls _ H' => PySem.W.exmAny X.K cls (l.map (·.2.2)) = some true ∧ Q .non H', fun cls d σ' H' ⟨e1, e2⟩ => ⟨true, e1, fun _ a _ => e2, fun hb => by cases hb⟩, h0 f, hco, h⟩
end GX
set_option Elab.async false
set_option linter.all false
set_option maxRecDepth 100000
set_option maxHeartbeats 4000000
/-! GX 10: enumerate over a tuple; what an iterator runs through (Sq). -/
namespace GX
open PySem PySem.Spec PyProof.Rows L2
section
open Sem (wp)
open AutoSeq1 (wpAny_loadPart')
theorem meets_enumerate_newU (l : Addr) (items : Array Value) (n : Nat) (dct : Option Addr) (sl : Array (Option Value)) :
    Meets (Builtin.«enumerate.__new__» ⟨[.type "enumerate", .ref l], []⟩) (fun _ R s => s.heap.get? l = some { cls := .type "tuple", dict := dct, data := .seq items n, slots := sl } ∧
      R (.ok (.ret (.ref (s.heap.push { cls := .type "tuple_iterator", data := .fields #[.ref l, .int 0 0] }).objs.size)))
        { s with heap := (s.heap.push { cls := .type "tuple_iterator", data := .fields #[.ref l, .int 0 0] }).push { cls := .type "enumerate", data := .fields #[.none, .bool false, .ref s.heap.objs.size, rawInt 0, .none, .none] } }) :=
  .of_wp fun prog w A R s h => by
    obtain ⟨hp, g, d, tk, os⟩ := s; obtain ⟨hl, h⟩ := h
    have hsub := sub_enumerate
    have hL : Heap.IsTuple (Shared.heap ⟨hp, g, d, tk, os⟩) l items := ⟨_, hl, rfl, n, rfl⟩
    wp_walk using wpAny_loadPart' hl
    refine wpAny_stack_any fun st => wpAny_pure ?_
    split
    · rename_i c _ _ _ _ _
      cases (c == Value.type "enumerate")
      · wp_walk using wpAny_loadPart' hl, wpAny_pyIter_tuple hL
        exact ⟨_, rfl, h⟩
      · wp_walk using wpAny_loadPart' hl, wpAny_pyIter_tuple hL
        exact ⟨_, rfl, h⟩
    · wp_walk using wpAny_loadPart' hl, wpAny_pyIter_tuple hL
      exact ⟨_, rfl, h⟩


variable {prog : Program} {w : World} {A : Around} {E : Value → Shared → Prop} {s : Shared}
theorem call_enumerate_tup {l : Addr} {items : Array Value} {Q : Value → Shared → Prop} (hL : s.heap.IsTuple l items)
    (h : ∀ h', IsEnum h' (s.heap.objs.size + 1) s.heap.objs.size 0 .none → h'.IsTupleIter s.heap.objs.size l 0 → h'.objs.size = s.heap.objs.size + 2 →
      (∀ b o, s.heap.get? b = some o → h'.get? b = some o) → Q (.ref (s.heap.objs.size + 1)) { s with heap := h' }) :
    wpAny (model prog w) A (call (.type "enumerate") [.ref l]) Q E s := by
  obtain ⟨⟨c, dct, dt, sl⟩, hl, hc, n, hd⟩ := hL
  replace hc : c = .type "tuple" := hc
  replace hd : dt = .seq items n := hd
  subst hc hd
  refine callType_new F.called_enumerate (by decide) (F.typeCall_enumerate_1 _) (F.newCall_enumerate_1 _) (fun obj => F.args_object_init_2 obj _) F.entry_enumerate_new
    (meets_enumerate_newU l items n dct sl) ⟨hl, ?_⟩
  have hz : (s.heap.push { cls := .type "tuple_iterator", data := .fields #[.ref l, .int 0 0] }).objs.size = s.heap.objs.size + 1 := Heap.size_push ..
  show _ ∧ _
  rw [hz]
  have he : IsEnum ((s.heap.push { cls := .type "tuple_iterator", data := .fields #[.ref l, .int 0 0] }).push
      { cls := .type "enumerate", data := .fields #[.none, .bool false, .ref s.heap.objs.size, rawInt 0, .none, .none] }) (s.heap.objs.size + 1) s.heap.objs.size 0 .none := by
    have := Heap.get?_push_size (s.heap.push { cls := .type "tuple_iterator", data := .fields #[.ref l, .int 0 0] })
      (o := { cls := .type "enumerate", data := .fields #[.none, .bool false, .ref s.heap.objs.size, rawInt 0, .none, .none] }) rfl
    rw [hz] at this; exact this
  refine ⟨⟨_, he, rfl⟩, h _ he ⟨_, Heap.get?_push_of_some _ (Heap.get?_push_size _ rfl), rfl, rfl⟩ (by rw [Heap.size_push, hz]) fun b o x => Heap.get?_push_of_some _ (Heap.get?_push_of_some _ x)⟩


theorem enum_end_tup {e it a : Addr} {i : Nat} {c : Int} {old : Value} {items : Array Value} {Q : Option Value → Shared → Prop} (hh : A.handled = none) (he : IsEnum s.heap e it c old) (hit : s.heap.IsTupleIter it a i) (p : s.heap.IsTuple a items) (hx : items[i]? = none)
    (hQ : ∀ h', Heap.ExtBut it s.heap h' → Q none { s with heap := h' }) : wpAny (model prog w) A (pyNext (.ref e)) Q E s := by
  have hT : s.TypeIs (.ref e) "enumerate" := ⟨_, he, rfl⟩
  unfold pyNext
  refine wpAny_bind (wpAny_attempt (wpAny_callSpecial?_slot (name := Str.ofString "__next__") hT F.slot_enumerate_next
    (wpAny_call_entry F.slot_enumerate_next hT F.entry_enumerate_next ?_ (F.args_enumerate_next_1 _))))
  show wpAny _ _ (field (.ref e) 2 >>= _) _ _ _
  refine wpAny_bind (wpAny_field he rfl (x := .ref it) rfl ?_)
  refine wpAny_bind (wpAny_nextOf_tuple_end hh hit p hx fun h' x he' hx' => ?_)
  obtain ⟨o, ho, hc⟩ := hx'
  refine wpAny_bind (wpAny_isInstance (T := "StopIteration") (b := true) ⟨o, ho, hc⟩ isSubtype_stop ?_)
  exact wpAny_pure (hQ _ he')
end
def IteT (K : PySem.W.Frag) (a : Addr) : It :=
  ⟨fun i H => ∃ (xs : List V) (x : V), SqT K H a xs ∧ xs[i]? = some x, fun i H v H' => ∃ T x, v = .ref T ∧ H T = none ∧ H' = upd H T (.tup [.int (i : Nat), x]) ∧ ∀ xs, SqT K H a xs → xs[i]? = some x, fun i H => ∃ xs : List V, SqT K H a xs ∧ xs.length ≤ i⟩
theorem turn_enumT {P : Program} {w : World} {K : PySem.W.Frag} {elts : List Expr} {kk : Nat} {tpos : Pos} (a e it : Addr) :
    Turn P w K (.Tuple elts kk tpos) (IteT K a) [e, it] e (fun i h => (∃ old, IsEnum h e it ((i : Nat) : Int) old) ∧ h.IsTupleIter it a i ∧ e ≠ it) where
  mem := by simp
  obj := fun i h st b hb => by
    obtain ⟨⟨old, he⟩, ⟨o, ho, hc, hd⟩, _⟩ := st
    have e' : b = e ∨ b = it := by simpa using hb
    rcases e' with z | z
    · rw [z]; exact ⟨_, he, fun v q => nomatch q⟩
    · rw [z]; exact ⟨o, ho, fun v q => by rw [hd] at q; cases q⟩
  keep := fun i h h' st k => let ⟨⟨old, he⟩, hi, hne⟩ := st; ⟨⟨old, k e (by simp) _ he⟩, hi.at fun o q => k it (by simp) o q, hne⟩
  item := by
    intro X hP hw hK hc i pins s σ H E I hf st hg
    subst hP hw hK
    obtain ⟨⟨old, he⟩, hit, hne⟩ := st
    obtain ⟨xs, x, hq, hx⟩ := hg
    obtain ⟨its, rv, p, hz⟩ := I.tuple hq
    obtain ⟨u, hu, ru⟩ := rv.get hx
    have hel : e < s.heap.objs.size := Heap.lt_size he
    have hil : it < s.heap.objs.size := by obtain ⟨_, q, _⟩ := hit; exact Heap.lt_size q
    have p' : s.heap.IsTuple a its.toArray := p
    have hai : a ≠ it := fun z => by
      obtain ⟨o, e1, c1, _⟩ := p'
      obtain ⟨o2, e2, c2, _⟩ := hit
      rw [z, e2] at e1
      cases e1
      rw [c1] at c2
      exact absurd c2 (by decide)
    have hae : e ≠ a := fun z => by
      obtain ⟨o, e1, c1, _⟩ := p'
      rw [← z] at e1
      have he2 : s.heap.get? e = _ := he
      rw [he2] at e1
      cases e1
      have c2 : Value.type "enumerate" = Value.type "tuple" := c1
      exact absurd c2 (by decide)
    have hsz : its.toArray.size = xs.length := by simp [rv.length]
    have hilt : i < its.toArray.size := by
      rw [hsz]
      exact (List.getElem?_eq_some_iff.mp hx).1
    refine wpAny_pyNext_enum_itemD (Draws.tuple (A := X.A.in1) (I.ok.hd hc) it a hai its.toArray) he ⟨hit, p'⟩ hilt hne (by simp [hne, hae]) fun x' h' tk hx' ho hit' hT hsz hk => ?_
    obtain ⟨hit', _⟩ := hit'
    have ex : x' = u := by
      have e1 : its[i]? = some x' := by simpa using hx'
      rw [hu] at e1
      exact (Option.some.inj e1).symm
    subst ex
    refine ⟨_, rfl, wpAny_letOwnedTupleGo_enum (s := { s with heap := h', toks := tk + 1 }) ho fun h'' he' sb => ?_⟩
    have hT2 : h''.get? s.heap.objs.size = some { cls := .type "tuple", data := .seq #[.int i tk, x'] } := (sb.2 _ (Nat.ne_of_gt hel)).trans hT
    have new : ObjOk X.prog X.w (upd H s.heap.objs.size (.tup [.int (i : Nat), x])) h'' s.heap.objs.size (.tup [.int (i : Nat), x]) :=
      ⟨by show 2 ≤ sizeLine; decide, [.int i tk, x'], .cons ⟨_, rfl⟩ (.cons ru .nil), ⟨_, hT2, rfl, _, rfl⟩⟩
    have I1 : Inv X pins σ (upd H s.heap.objs.size (.tup [.int (i : Nat), x])) { s with heap := h'', toks := tk + 1 } :=
      I.turnedNew (ch := [e, it]) (fun b ob hb q => (sb.2 b (fun z => hb (by simp [z]))).trans (hk b ob (fun z => hb (by simp [z])) (fun z => hb (by simp [z])) q)) hf (Nat.le_refl _) new
    refine ⟨.ref s.heap.objs.size, _, I1, rfl, ⟨_, x, rfl, I.hok.fresh (Nat.le_refl _), rfl, fun ys hy => by rw [I.tuple_inj hy hq]; exact hx⟩, ⟨⟨x', ?_⟩, hit'.at fun o q => (sb.2 it (Ne.symm hne)).trans q, hne⟩, fun b hb => ?_⟩
    · have e1 : ((i + 1 : Nat) : Int) = (i : Int) + 1 := by omega
      rw [e1]; exact he'
    · have hb' : b < s.heap.objs.size := by
        have e' : b = e ∨ b = it := by simpa using hb
        rcases e' with z | z
        · rw [z]; exact hel
        · rw [z]; exact hil
      rw [upd_ne (Nat.ne_of_lt hb')]
      exact (hf b hb).1
  done := by
    intro X hP hw hK hc i pins s σ H E I hf st hg
    subst hP hw hK
    obtain ⟨⟨old, he⟩, hit, hne⟩ := st
    obtain ⟨xs, hq, hx⟩ := hg
    obtain ⟨its, rv, p, hz⟩ := I.tuple hq
    obtain ⟨f0, f1, f2, f3, f4, f5⟩ := hf it (by simp)
    have hl := rv.length
    have p' : s.heap.IsTuple a its.toArray := p
    have hai : a ≠ it := fun z => by
      obtain ⟨o, e1, c1, _⟩ := p'
      obtain ⟨o2, e2, c2, _⟩ := hit
      rw [z, e2] at e1
      cases e1
      rw [c1] at c2
      exact absurd c2 (by decide)
    have hnx : its.toArray[i]? = none := by simp; omega
    exact enum_end_tup (I.ok.hd hc) he hit p' hnx fun h' eb => ⟨rfl, I.turned (t' := s.toks) (fun b o hb q => eb b o hb q) f0 f1 f3 f4 f5⟩
  self := fun A i s Q E st h => let ⟨⟨_, he⟩, _⟩ := st; wpAny_pyIter_enum he h
def iEnumT (K : PySem.W.Frag) (ta : TA) : TI := fun σ H R => ta σ H fun vs H1 => ∃ a xs, vs = [.ref a] ∧ SqT K H1 a xs ∧ R (IteT K a) H1
theorem pi_enumT {X : Cx} {e : Expr} {ta : TA} {p pos tpos : Pos} {elts : List Expr} {kk : Nat} (hg : Gl X "enumerate") (hm : X.mg "enumerate" = none) (ha : PA X [e] ta) (hs : starEach [e] X.env = [(false, eval e X.env)] := by rfl) :
    PI X (.Tuple elts kk tpos) (.Call (.Name "enumerate" p) [e] [] pos) (iEnumT X.K ta) := by
  refine ⟨fun pins s σ H R I h => ?_⟩
  refine Call_ (ld_blt I hg hm boot_enumerate (PyProof.Rows.callWith_type1 (thn (ha.run pos pins s σ H _ I h) fun us s1 ⟨vs, H1, I1, r1, q1⟩ => ?_) hs rfl))
  obtain ⟨a, xs, ex, hq, q⟩ := q1
  subst ex
  cases r1 with
  | cons r rr =>
    cases rr
    cases r
    obtain ⟨its, rv, p', hz⟩ := I1.tuple hq
    refine call_enumerate_tup (show s1.heap.IsTuple a its.toArray from p') fun h' he hit hsz hk => wpAny_pyIter_enum he ?_
    have I2 : Inv X pins σ H1 { s1 with heap := h' } := I1.kept (t' := s1.toks) hk
    refine ⟨s1.heap.objs.size + 1, [s1.heap.objs.size + 1, s1.heap.objs.size], _, _, H1, rfl, I2, turn_enumT a (s1.heap.objs.size + 1) s1.heap.objs.size, ⟨⟨.none, he⟩, hit, Nat.succ_ne_self _⟩, fun b hb => ?_, q⟩
    have e' : b = s1.heap.objs.size + 1 ∨ b = s1.heap.objs.size := by simpa using hb
    have hle : s1.heap.objs.size ≤ b := by
      rcases e' with z | z
      · rw [z]; exact Nat.le_add_right _ _
      · rw [z]; exact Nat.le_refl _
    exact I1.fpOk hle (I1.hok.fresh hle)

end GX
set_option Elab.async false
set_option linter.all false
set_option maxRecDepth 100000
set_option maxHeartbeats 4000000
/-! GX 11: what an iterator runs through, once for all loops. -/
namespace GX
open PySem PySem.Spec PyProof.Rows L2 RZ
/-- J runs through n turns while St holds; Y: what the i-th turn yields -/
structure Sq (J : It) (n : Nat) (St : Hp → Prop) (Y : Nat → V → Hp → Hp → Prop) : Prop where
  go : ∀ i H, St H → i < n → J.go i H
  stop : ∀ i H, St H → n ≤ i → J.stop i H
  yld : ∀ i H x H', St H → i < n → J.yld i H x H' → Y i x H H'
def yAt (xs : List V) : Nat → V → Hp → Hp → Prop := fun i x H H' => xs[i]? = some x ∧ H' = H
def yEn (xs : List V) : Nat → V → Hp → Hp → Prop := fun i x H H' => ∃ T y, x = .ref T ∧ H T = none ∧ H' = upd H T (.tup [.int (i : Nat), y]) ∧ xs[i]? = some y
def yZip (xs ys : List V) : Nat → V → Hp → Hp → Prop := fun i v H H' => ∃ T x y, v = .ref T ∧ H T = none ∧ H' = upd H T (.tup [x, y]) ∧ xs[i]? = some x ∧ ys[i]? = some y
def yRg (lo : Int) : Nat → V → Hp → Hp → Prop := fun i x H H' => x = .int (lo + (i : Nat)) ∧ H' = H
section
variable {K : PySem.W.Frag} {a b : Addr} {xs ys : List V}
theorem sq_list : Sq (Itl K a) xs.length (fun H => SqL K H a xs) (yAt xs) :=
  ⟨fun i H h hi => ⟨xs, xs[i], h, List.getElem?_eq_getElem hi⟩, fun i H h hi => ⟨xs, h, hi⟩, fun i H x H' h hi y => ⟨y.2 xs h, y.1⟩⟩
theorem sq_tup : Sq (Itt K a) xs.length (fun H => SqT K H a xs) (yAt xs) :=
  ⟨fun i H h hi => ⟨xs, xs[i], h, List.getElem?_eq_getElem hi⟩, fun i H h hi => ⟨xs, h, hi⟩, fun i H x H' h hi y => ⟨y.2 xs h, y.1⟩⟩
theorem sq_rng {lo : Int} {n : Nat} : Sq (Itr lo n) n (fun _ => True) (yRg lo) :=
  ⟨fun i H _ hi => hi, fun i H _ hi => hi, fun i H x H' _ hi y => ⟨y.2, y.1⟩⟩
theorem sq_enum : Sq (Ite K a) xs.length (fun H => SqL K H a xs) (yEn xs) :=
  ⟨fun i H h hi => ⟨xs, xs[i], h, List.getElem?_eq_getElem hi⟩, fun i H h hi => ⟨xs, h, hi⟩, fun i H x H' h hi ⟨T, y, e1, e2, e3, e4⟩ => ⟨T, y, e1, e2, e3, e4 xs h⟩⟩
theorem sq_enumT : Sq (IteT K a) xs.length (fun H => SqT K H a xs) (yEn xs) :=
  ⟨fun i H h hi => ⟨xs, xs[i], h, List.getElem?_eq_getElem hi⟩, fun i H h hi => ⟨xs, h, hi⟩, fun i H x H' h hi ⟨T, y, e1, e2, e3, e4⟩ => ⟨T, y, e1, e2, e3, e4 xs h⟩⟩
theorem sq_zip (hl : xs.length = ys.length) : Sq (Itz K a b) xs.length (fun H => SqL K H a xs ∧ SqL K H b ys) (yZip xs ys) :=
  ⟨fun i H h hi => ⟨xs, ys, xs[i], ys[i]'(hl ▸ hi), h.1, h.2, List.getElem?_eq_getElem hi, List.getElem?_eq_getElem _⟩, fun i H h hi => ⟨xs, ys, h.1, h.2, .inl hi⟩,
    fun i H x H' h hi ⟨T, x, y, e1, e2, e3, e4, e5⟩ => ⟨T, x, y, e1, e2, e3, e4 xs h.1, e5 ys h.2⟩⟩
theorem sq_zipT (hl : xs.length = ys.length) : Sq (ItzT K a b) xs.length (fun H => SqT K H a xs ∧ SqT K H b ys) (yZip xs ys) :=
  ⟨fun i H h hi => ⟨xs, ys, xs[i], ys[i]'(hl ▸ hi), h.1, h.2, List.getElem?_eq_getElem hi, List.getElem?_eq_getElem _⟩, fun i H h hi => ⟨xs, ys, h.1, h.2, .inl hi⟩,
    fun i H x H' h hi ⟨T, x, y, e1, e2, e3, e4, e5⟩ => ⟨T, x, y, e1, e2, e3, e4 xs h.1, e5 ys h.2⟩⟩
end
section
variable {J : It} {n : Nat} {St : Hp → Prop} {Y : Nat → V → Hp → Hp → Prop}
theorem for_sq (s : Sq J n St Y) {g : TG} {tb : TS} {D : Ends} {σ : L2.St} {H : Hp} (Pv : Nat → L2.St → Hp → Prop) (h0 : Pv 0 σ H) (hl : ∀ i σ H, i ≤ n → Pv i σ H → St H)
    (hs : ∀ i x σ H H', i < n → Pv i σ H → Y i x H H' → g x σ H' fun σ2 H2 => tb { D with nx := Pv (i + 1), ct := Pv (i + 1), bk := D.nx } σ2 H2) (hd : ∀ σ H, Pv n σ H → D.nx σ H) :
    ∃ W : Nat → Nat → L2.St → Hp → Prop, (∃ m, W 0 m σ H) ∧ ∀ i m σ H, W i m σ H →
      (J.stop i H ∧ D.nx σ H) ∨ (J.go i H ∧ ∃ N : L2.St → Hp → Prop, (∀ σ' H', N σ' H' → ∃ m', m' < m ∧ W (i + 1) m' σ' H') ∧ ∀ x H', J.yld i H x H' → g x σ H' fun σ2 H2 => tb { D with nx := N, ct := N, bk := D.nx } σ2 H2) := by
  refine ⟨fun i m σ H => m = n - i ∧ i ≤ n ∧ Pv i σ H, ⟨n, by simp, Nat.zero_le _, h0⟩, ?_⟩
  rintro i m σ H ⟨rfl, hi, p⟩
  have q := hl i σ H hi p
  by_cases hlt : i < n
  · exact .inr ⟨s.go i H q hlt, Pv (i + 1), fun σ' H' p' => ⟨n - (i + 1), by omega, rfl, hlt, p'⟩, fun x H' y => hs i x σ H H' hlt p (s.yld i H x H' q hlt y)⟩
  · have e : i = n := by omega
    subst e
    exact .inl ⟨s.stop i H q (Nat.le_refl _), hd σ H p⟩
theorem lc_sq (s : Sq J n St Y) {g : TG} {tt : TT} {te : TE} {vs : List Nat} {σ : L2.St} {H1 : Hp} {D : Addr} {Qd : Hp → Prop} (Pv : Nat → Hp → Prop) (h0 : Pv 0 (upd H1 D (.lst []))) (hl : ∀ i H, i ≤ n → Pv i H → St H)
    (hs : ∀ i x H H', i < n → Pv i H → Y i x H H' → g x (wipe σ vs) H' fun σ2 H2 => wipe σ2 vs = wipe σ vs ∧ tt σ2 H2 fun b H3 =>
      if b = true then te σ2 H3 fun y H4 => ∃ acc, H4 D = some (.lst acc) ∧ acc.length < sizeLine ∧ Pv (i + 1) (upd H4 D (.lst (acc ++ [y]))) else Pv (i + 1) H3) (hd : ∀ H, Pv n H → Qd H) :
    ∃ W : Nat → Nat → Hp → Prop, (∃ m, W 0 m (upd H1 D (.lst []))) ∧ ∀ i m H, W i m H →
      (J.stop i H ∧ Qd H) ∨ (J.go i H ∧ ∃ Nx : Hp → Prop, (∀ H', Nx H' → ∃ m', m' < m ∧ W (i + 1) m' H') ∧ ∀ x H', J.yld i H x H' → g x (wipe σ vs) H' fun σ2 H2 => wipe σ2 vs = wipe σ vs ∧ tt σ2 H2 fun b H3 =>
        if b = true then te σ2 H3 fun y H4 => ∃ acc, H4 D = some (.lst acc) ∧ acc.length < sizeLine ∧ Nx (upd H4 D (.lst (acc ++ [y]))) else Nx H3) := by
  refine ⟨fun i m H => m = n - i ∧ i ≤ n ∧ Pv i H, ⟨n, by simp, Nat.zero_le _, h0⟩, ?_⟩
  rintro i m H ⟨rfl, hi, p⟩
  have q := hl i H hi p
  by_cases hlt : i < n
  · exact .inr ⟨s.go i H q hlt, Pv (i + 1), fun H' p' => ⟨n - (i + 1), by omega, rfl, hlt, p'⟩, fun x H' y => hs i x H H' hlt p (s.yld i H x H' q hlt y)⟩
  · have e : i = n := by omega
    subst e
    exact .inl ⟨s.stop i H q (Nat.le_refl _), hd H p⟩
/-- the first clause of a comprehension, an inner clause: b stands inside -/
theorem lcB_sq (s : Sq J n St Y) {g : TG} {tt : TT} {b : L2.St → Hp → (Hp → Prop) → Prop} {vs : List Nat} {σ : L2.St} {H1 : Hp} {D : Addr} {Qd : Hp → Prop} (Pv : Nat → Hp → Prop) (h0 : Pv 0 (upd H1 D (.lst []))) (hl : ∀ i H, i ≤ n → Pv i H → St H)
    (hs : ∀ i x H H', i < n → Pv i H → Y i x H H' → g x (wipe σ vs) H' fun σ2 H2 => wipe σ2 vs = wipe σ vs ∧ tt σ2 H2 fun b1 H3 => if b1 = true then b σ2 H3 (Pv (i + 1)) else Pv (i + 1) H3) (hd : ∀ H, Pv n H → Qd H) :
    ∃ W : Nat → Nat → Hp → Prop, (∃ m, W 0 m (upd H1 D (.lst []))) ∧ ∀ i m H, W i m H →
      (J.stop i H ∧ Qd H) ∨ (J.go i H ∧ ∃ Nx : Hp → Prop, (∀ H', Nx H' → ∃ m', m' < m ∧ W (i + 1) m' H') ∧ ∀ x H', J.yld i H x H' → g x (wipe σ vs) H' fun σ2 H2 => wipe σ2 vs = wipe σ vs ∧ tt σ2 H2 fun b1 H3 => if b1 = true then b σ2 H3 Nx else Nx H3) := by
  refine ⟨fun i m H => m = n - i ∧ i ≤ n ∧ Pv i H, ⟨n, by simp, Nat.zero_le _, h0⟩, ?_⟩
  rintro i m H ⟨rfl, hi, p⟩
  have q := hl i H hi p
  by_cases hlt : i < n
  · exact .inr ⟨s.go i H q hlt, Pv (i + 1), fun H' p' => ⟨n - (i + 1), by omega, rfl, hlt, p'⟩, fun x H' y => hs i x H H' hlt p (s.yld i H x H' q hlt y)⟩
  · have e : i = n := by omega
    subst e
    exact .inl ⟨s.stop i H q (Nat.le_refl _), hd H p⟩
theorem bIn_sq (s : Sq J n St Y) {g : TG} {tt : TT} {b : L2.St → Hp → (Hp → Prop) → Prop} {vs : List Nat} {σ : L2.St} {H1 : Hp} {Qd : Hp → Prop} (Pv : Nat → Hp → Prop) (h0 : Pv 0 H1) (hl : ∀ i H, i ≤ n → Pv i H → St H)
    (hs : ∀ i x H H', i < n → Pv i H → Y i x H H' → g x (wipe σ vs) H' fun σ2 H2 => wipe σ2 vs = wipe σ vs ∧ tt σ2 H2 fun b1 H3 => if b1 = true then b σ2 H3 (Pv (i + 1)) else Pv (i + 1) H3) (hd : ∀ H, Pv n H → Qd H) :
    ∃ W : Nat → Nat → Hp → Prop, (∃ m, W 0 m H1) ∧ ∀ i m H, W i m H →
      (J.stop i H ∧ Qd H) ∨ (J.go i H ∧ ∃ Nx : Hp → Prop, (∀ H', Nx H' → ∃ m', m' < m ∧ W (i + 1) m' H') ∧ ∀ x H', J.yld i H x H' → g x (wipe σ vs) H' fun σ2 H2 => wipe σ2 vs = wipe σ vs ∧ tt σ2 H2 fun b1 H3 => if b1 = true then b σ2 H3 Nx else Nx H3) := by
  refine ⟨fun i m H => m = n - i ∧ i ≤ n ∧ Pv i H, ⟨n, by simp, Nat.zero_le _, h0⟩, ?_⟩
  rintro i m H ⟨rfl, hi, p⟩
  have q := hl i H hi p
  by_cases hlt : i < n
  · exact .inr ⟨s.go i H q hlt, Pv (i + 1), fun H' p' => ⟨n - (i + 1), by omega, rfl, hlt, p'⟩, fun x H' y => hs i x H H' hlt p (s.yld i H x H' q hlt y)⟩
  · have e : i = n := by omega
    subst e
    exact .inl ⟨s.stop i H q (Nat.le_refl _), hd H p⟩
/-- any(..): p tells each turn's answer -/
theorem any_sq (s : Sq J n St Y) {g : TG} {tt : TT} {te : TE} {vs : List Nat} {σ0 : L2.St} {H : Hp} {Q : VK} (p : Nat → Bool) (Pv : Nat → Hp → Prop) (h0 : Pv 0 H) (hl : ∀ i H, i ≤ n → Pv i H → St H)
    (hs : ∀ i x H H', i < n → Pv i H → Y i x H H' → ∀ N : Hp → Prop, (p i = true → ∀ H, Pv (i + 1) H → Q (.bl true) H) → (p i = false → ∀ H, Pv (i + 1) H → N H) → g x σ0 H' fun σ2 H2 => wipe σ2 vs = σ0 ∧ tt σ2 H2 fun b H3 =>
      if b = true then te σ2 H3 fun y H4 => conAny.step () y (fun _ => N H4) (fun v => Q v H4) else N H3)
    (hT : ∀ i H, i < n → p i = true → Pv (i + 1) H → Q (.bl true) H) (hF : ∀ H, (∀ i, i < n → p i = false) → Pv n H → Q (.bl false) H) :
    ∃ W : Nat → Nat → Unit → Hp → Prop, (∃ m, W 0 m () H) ∧ tTurn conAny J g tt te σ0 vs Q W := by
  refine ⟨fun i m _ H => m = n - i ∧ i ≤ n ∧ Pv i H ∧ ∀ j, j < i → p j = false, ⟨n, by simp, Nat.zero_le _, h0, fun j hj => by omega⟩, ?_⟩
  rintro i m ⟨⟩ H ⟨rfl, hi, pv, hj⟩
  have q := hl i H hi pv
  by_cases hlt : i < n
  · refine .inr ⟨s.go i H q hlt, fun x H' y => hs i x H H' hlt pv (s.yld i H x H' q hlt y) _ (fun e H pv' => hT i H hlt e pv') fun e H pv' => ⟨n - (i + 1), by omega, rfl, hlt, pv', fun j h => ?_⟩⟩
    rcases Nat.lt_succ_iff_lt_or_eq.mp h with z | z
    · exact hj j z
    · rw [z]; exact e
  · have e : i = n := by omega
    subst e
    exact .inl ⟨s.stop i H q (Nat.le_refl _), fun v ev => by rw [show v = .bl false from ev]; exact hF H hj pv⟩
theorem anyStep {p : Bool} {N : Hp → Prop} {Pv : Hp → Prop} {Q : VK} {y : V} {H : Hp} (ey : y = .bl p) (hT : p = true → ∀ H, Pv H → Q (.bl true) H) (hF : p = false → ∀ H, Pv H → N H) (h : Pv H) : conAny.step () y (fun _ => N H) (fun v => Q v H) :=
  ⟨p, ey, fun e => hT e H h, fun e => hF e H h⟩
/-- sum(..): acc tells the sum so far -/
theorem sum_sq (s : Sq J n St Y) {g : TG} {tt : TT} {te : TE} {vs : List Nat} {σ0 : L2.St} {H : Hp} {Q : VK} (acc : Nat → Int) (a0 : acc 0 = 0) (Pv : Nat → Hp → Prop) (h0 : Pv 0 H) (hl : ∀ i H, i ≤ n → Pv i H → St H)
    (hs : ∀ i x H H', i < n → Pv i H → Y i x H H' → ∀ N : Int → Hp → Prop, (∀ H, Pv (i + 1) H → N (acc (i + 1)) H) → g x σ0 H' fun σ2 H2 => wipe σ2 vs = σ0 ∧ tt σ2 H2 fun b H3 =>
      if b = true then te σ2 H3 fun y H4 => conSum.step (acc i) y (fun a => N a H4) (fun v => Q v H4) else N (acc i) H3)
    (hQ : ∀ H, Pv n H → Q (.int (acc n)) H) :
    ∃ W : Nat → Nat → Int → Hp → Prop, (∃ m, W 0 m 0 H) ∧ tTurn conSum J g tt te σ0 vs Q W := by
  refine ⟨fun i m c H => m = n - i ∧ i ≤ n ∧ Pv i H ∧ c = acc i, ⟨n, by simp, Nat.zero_le _, h0, a0.symm⟩, ?_⟩
  rintro i m c H ⟨rfl, hi, pv, rfl⟩
  have q := hl i H hi pv
  by_cases hlt : i < n
  · exact .inr ⟨s.go i H q hlt, fun x H' y => hs i x H H' hlt pv (s.yld i H x H' q hlt y) (fun a H => ∃ m', m' < n - i ∧ m' = n - (i + 1) ∧ i + 1 ≤ n ∧ Pv (i + 1) H ∧ a = acc (i + 1)) fun H pv' => ⟨n - (i + 1), by omega, rfl, hlt, pv', rfl⟩⟩
  · have e : i = n := by omega
    subst e
    exact .inl ⟨s.stop i H q (Nat.le_refl _), fun v ev => by rw [show v = .int (acc i) from ev]; exact hQ H pv⟩
theorem sumStep {a a' v : Int} {N : Int → Hp → Prop} {Q : VK} {y : V} {H : Hp} (ey : y = .int v) (e : a + v = a') (h1 : 0 ≤ a ∧ a < 2 ^ 61) (h2 : 0 ≤ v ∧ v < 2 ^ 61) (h : N a' H) : conSum.step a y (fun a => N a H) (fun v => Q v H) :=
  ⟨v, ey, ⟨by omega, by omega⟩, ⟨by omega, by omega⟩, by rw [e]; exact h⟩
/-- two clauses -/
theorem sum2_sq (s : Sq J n St Y) {g g1 : TG} {tt tt1 : TT} {wi1 : TI} {te : TE} {vs vs1 : List Nat} {σ0 : L2.St} {H : Hp} {Q : VK} (k : Nat) (acc : Nat → Nat → Int) (a0 : acc 0 0 = 0) (Pv : Nat → Hp → Prop) (Pi : Nat → Nat → Hp → Prop) (hk : ∀ i, i < n → acc i k = acc (i + 1) 0) (h0 : Pv 0 H) (hl : ∀ i H, i ≤ n → Pv i H → St H) (hPi : ∀ i H, i < n → Pi i k H → Pv (i + 1) H)
    (hs : ∀ i x H H', i < n → Pv i H → Y i x H H' → g x σ0 H' fun σ2 H2 => wipe σ2 vs = σ0 ∧ tt σ2 H2 fun b H3 => b = true ∧ wi1 σ2 H3 fun J1 H4 => Pi i 0 H4 ∧ ∃ St1 Y1, Sq J1 k St1 Y1 ∧ (∀ j H, j ≤ k → Pi i j H → St1 H) ∧
      ∀ j x1 H H', j < k → Pi i j H → Y1 j x1 H H' → ∀ N : Int → Hp → Prop, (∀ H, Pi i (j + 1) H → N (acc i (j + 1)) H) → g1 x1 (wipe σ2 vs1) H' fun σ3 H5 => wipe σ3 vs1 = wipe σ2 vs1 ∧ tt1 σ3 H5 fun b1 H6 =>
        if b1 = true then te σ3 H6 fun y H7 => conSum.step (acc i j) y (fun a => N a H7) (fun v => Q v H7) else N (acc i j) H6)
    (mw : ∀ {σ H} {q q' : It → Hp → Prop}, wi1 σ H q → (∀ b H, q b H → q' b H) → wi1 σ H q') (mt : ∀ {σ H} {q q' : Bool → Hp → Prop}, tt σ H q → (∀ b H, q b H → q' b H) → tt σ H q') (mg : ∀ {x σ H} {q q' : L2.St → Hp → Prop}, g x σ H q → (∀ b H, q b H → q' b H) → g x σ H q')
    (hQ : ∀ H, Pv n H → Q (.int (acc n 0)) H) :
    ∃ W : Nat → Nat → Int → Hp → Prop, (∃ m, W 0 m 0 H) ∧ tTurn2 conSum J g tt wi1 g1 tt1 te σ0 vs vs1 Q W := by
  refine ⟨fun i m c H => m = (n - i) * (k + 1) ∧ i ≤ n ∧ Pv i H ∧ c = acc i 0, ⟨n * (k + 1), by simp, Nat.zero_le _, h0, a0.symm⟩, ?_⟩
  rintro i m c H ⟨rfl, hi, pv, rfl⟩
  have q := hl i H hi pv
  by_cases hlt : i < n
  · have em : (n - i) * (k + 1) = (n - (i + 1)) * (k + 1) + (k + 1) := by
      rw [← Nat.succ_mul]
      congr 1
      omega
    refine .inr ⟨s.go i H q hlt, fun x H' y => mg (hs i x H H' hlt pv (s.yld i H x H' q hlt y)) fun σ2 H2 ⟨w, h2⟩ => ⟨w, mt h2 fun b H3 ⟨eb, h3⟩ => ?_⟩⟩
    subst eb
    rw [if_pos rfl]
    refine mw h3 fun J1 H4 ⟨p0, St1, Y1, s1, hl1, step⟩ => ?_
    refine ⟨fun j m1 c H => m1 = (n - (i + 1)) * (k + 1) + (k - j) ∧ j ≤ k ∧ Pi i j H ∧ c = acc i j, ⟨(n - (i + 1)) * (k + 1) + k, by omega, by simp, Nat.zero_le _, p0, rfl⟩, ?_⟩
    rintro j m1 c H ⟨rfl, hj, pi, rfl⟩
    have q1 := hl1 j H hj pi
    by_cases hlt1 : j < k
    · exact .inr ⟨s1.go j H q1 hlt1, fun x1 H' y1 => step j x1 H H' hlt1 pi (s1.yld j H x1 H' q1 hlt1 y1) (fun a H => ∃ m', m' < (n - (i + 1)) * (k + 1) + (k - j) ∧ m' = (n - (i + 1)) * (k + 1) + (k - (j + 1)) ∧ j + 1 ≤ k ∧ Pi i (j + 1) H ∧ a = acc i (j + 1)) fun H pi' => ⟨_, by omega, rfl, hlt1, pi', rfl⟩⟩
    · have e : j = k := by omega
      subst e
      exact .inl ⟨s1.stop j H q1 (Nat.le_refl _), (n - (i + 1)) * (j + 1), by omega, rfl, hlt, hPi i H hlt pi, hk i hlt⟩
  · have e : i = n := by omega
    subst e
    exact .inl ⟨s.stop i H q (Nat.le_refl _), fun v ev => by rw [show v = .int (acc i 0) from ev]; exact hQ H pv⟩
end
end GX
set_option Elab.async false
set_option linter.all false
set_option maxRecDepth 100000
set_option maxHeartbeats 4000000
/-! GX 12: sum of a tuple of ints. -/
namespace GX
open PySem PySem.Spec PyProof.Rows L2
section
variable {prog : Program} {w : World} {A : Around} {E : Value → Shared → Prop} {s : Shared} {l : Addr} {its : List Value} {ns : List Int} {Q : Value → Shared → Prop}
theorem sum_rawT (hh : A.handled = none) (hl : s.heap.IsTuple l its.toArray) (hi : IntsAre its ns)
    (h : ∀ h' tk t', (∀ b o, s.heap.get? b = some o → h'.get? b = some o) → Q (.int ns.sum t') { s with heap := h', toks := tk }) : wpAny (model prog w) A (call (.builtin "sum") [.ref l]) Q E s := by
  obtain ⟨xs, e⟩ := hi.allInts.items
  have hn : numsOf (intItems xs).toList = ns := by rw [← e]; exact hi.numsOf
  rw [nums_intItems] at hn
  rw [e] at hl
  have hlt : l < s.heap.objs.size := by obtain ⟨_, e, _⟩ := hl; exact Heap.lt_size e
  refine PySem.call_sum_walkG (wpAny_pyIter_tuple hl ?_)
  refine ⟨_, [s.heap.objs.size, l], [s.heap.objs.size], _, _, _, numAt xs, rfl, Walks.tuple (A := A.in1) hh _ l (Nat.ne_of_lt hlt) (intItems xs), ⟨⟨_, Heap.get?_push_size _ rfl, rfl, rfl⟩, hl.push _⟩, fun b hb => ?_, (fun _ _ => intItems_at), fun h' tk t' hk => ?_⟩
  · show b < (s.heap.push _).objs.size
    rw [Heap.size_push]
    rcases List.mem_cons.mp hb with rfl | hb
    · exact Nat.lt_succ_self _
    · rcases List.mem_cons.mp hb with rfl | hb
      · exact Nat.lt_succ_of_lt hlt
      · cases hb
  · have hold : ∀ c o, s.heap.get? c = some o → h'.get? c = some o := fun c o e => by
      refine hk c o (fun hm => ?_) (Heap.get?_push_of_some _ e)
      rcases List.mem_cons.mp hm with e1 | hm
      · exact absurd (e1 ▸ Heap.lt_size e) (Nat.lt_irrefl _)
      · cases hm
    have := h h' tk t' hold
    rw [← hn] at this
    have e2 : preSum (numAt xs) (intItems xs).size = ((xs.toList.map (·.1)).sum : Int) := by
      rw [show (intItems xs).size = xs.size by simp [intItems], preSum_eq, List.take_of_length_le (by simp)]
    rw [e2]
    exact this
end
section
variable {X : Cx}
def rSumT (K : PySem.W.Frag) : List V → Hp → VK → Prop := fun vs H Q => ∃ (a : Addr) (ns : List Int), vs = [V.ref a] ∧ SqT K H a (ns.map V.int) ∧ Q (.int ns.sum) H
theorem cr_sumT (hc : X.calm = true) : CallR X (.builtin "sum") (rSumT X.K) := by
  intro pins s σ H vs us Q I r h
  obtain ⟨a, ns, rfl, hs, q⟩ := h
  obtain ⟨its, rv, hl, _⟩ := I.tuple hs
  rw [Vals.ref1 r]
  exact sum_rawT (I.ok.hd hc) (show s.heap.IsTuple a its.toArray from hl) rv.ints fun h' tk t' hk => ⟨.int _, H, I.kept hk, ⟨_, rfl⟩, q⟩
end
end GX
set_option Elab.async false
set_option linter.all false
set_option maxRecDepth 100000
set_option maxHeartbeats 4000000
/-! GX 13: min(xs, default=d) of a list of ints. -/
namespace GX
open PySem PySem.Spec PyProof.Rows L2 PySem.W
theorem minOf_le : ∀ (ys : List Int) (x : Int), minOf x ys ≤ x ∧ (∀ y ∈ ys, minOf x ys ≤ y) ∧ (minOf x ys = x ∨ minOf x ys ∈ ys)
  | [], x => ⟨Int.le_refl _, (fun y h => by cases h), Or.inl rfl⟩
  | z :: zs, x => by
    show (minOf (if DatumOrd.lt z x = true then z else x) zs) ≤ x ∧ _
    have e : minOf x (z :: zs) = minOf (if DatumOrd.lt z x = true then z else x) zs := rfl
    rw [e]
    have ih := minOf_le zs (if DatumOrd.lt z x = true then z else x)
    have hz : DatumOrd.lt z x = decide (z < x) := rfl
    rw [hz] at ih ⊢
    by_cases h : z < x
    · rw [decide_eq_true h] at ih ⊢
      simp only [if_true] at ih ⊢
      refine ⟨by omega, fun y hy => ?_, ?_⟩
      · rcases List.mem_cons.mp hy with q | q
        · rw [q]; exact ih.1
        · exact ih.2.1 y q
      · rcases ih.2.2 with q | q
        · rw [q]; exact .inr List.mem_cons_self
        · exact .inr (List.mem_cons_of_mem _ q)
    · rw [decide_eq_false h] at ih ⊢
      simp only [Bool.false_eq_true, if_false] at ih ⊢
      refine ⟨ih.1, fun y hy => ?_, ?_⟩
      · rcases List.mem_cons.mp hy with q | q
        · rw [q]; omega
        · exact ih.2.1 y q
      · rcases ih.2.2 with q | q
        · exact .inl q
        · exact .inr (List.mem_cons_of_mem _ q)
theorem dpInts {K : PySem.W.Frag} {H : Hp} : ∀ ns : List Int, DpAll K H (ns.map V.int) (ns.map PyData.int)
  | [] => .nil
  | n :: r => .cons (.int _) (dpInts r)
def rMinD (K : PySem.W.Frag) : List V → List V → Hp → VK → Prop := fun vs zs H Q => ∃ (a : Addr) (ns : List Int) (d : V), vs = [V.ref a] ∧ zs = [d] ∧ SqL K H a (ns.map V.int) ∧ 0 < ns.length ∧ ∀ m, m ∈ ns → (∀ y, y ∈ ns → m ≤ y) → Q (.int m) H
theorem cr_minD {X : Cx} (hc : X.calm = true) (hu : X.A.units + 64 < cLine) : CallRK X (.builtin "min") [("default" : Str)] (rMinD X.K) := by
  intro pins s σ H vs zs us ws Q I r rz h
  obtain ⟨a, ns, d, rfl, rfl, hs, hne, q⟩ := h
  obtain ⟨its, rv, hl, _⟩ := I.list hs
  rw [Vals.ref1 r]
  cases rz with
  | cons rd rn =>
    rename_i dv ws'
    cases rn
    obtain ⟨as, hr⟩ := Dp.readsAll I (ns.map PyData.int) _ its (dpInts ns) rv
    show wpAny _ _ (call (.builtin "min") [.ref a] [(("default" : Str), dv)]) _ _ s
    refine min_list_datum_default (α := Int) (xs := ns) (I.ok.hd hc) hl.isList ⟨as, hr⟩ (by show X.A.units + 1 + 0 < cLine; omega) (fun e => by rw [e] at hne; exact absurd hne (Nat.lt_irrefl 0)) fun y ys i v h' tk e hi hh hk => ?_
    have hm := minOf_le ys y
    have hv : ∃ t, v = .int (minOf y ys) t := by
      have hi' : its[i]? = some v := by simpa using hi
      obtain ⟨k, hk2⟩ : ∃ k : Int, ∃ t, v = .int k t := by
        have hlt : i < its.length := (List.getElem?_eq_some_iff.mp hi').1
        have hlt2 : i < (ns.map V.int).length := by rw [rv.length]; exact hlt
        obtain ⟨u, hu1, hu2⟩ := rv.get (i := i) (List.getElem?_eq_getElem hlt2)
        rw [hi'] at hu1
        cases hu1
        rw [List.getElem_map] at hu2
        obtain ⟨t, ht⟩ := hu2
        exact ⟨_, t, ht⟩
      obtain ⟨t, rfl⟩ := hk2
      obtain ⟨bs, rr⟩ := hh
      have rr' : Reads h' (.int k t) (.int (minOf y ys)) bs := rr
      cases rr'
      exact ⟨t, rfl⟩
    refine ⟨.int (minOf y ys), H, I.kept hk, hv, q _ ?_ fun z hz => ?_⟩
    · rw [e]
      rcases hm.2.2 with q | q
      · rw [q]; exact List.mem_cons_self
      · exact List.mem_cons_of_mem _ q
    · rw [e] at hz
      rcases List.mem_cons.mp hz with q | q
      · rw [q]; exact hm.1
      · exact hm.2.1 z q
end GX
set_option Elab.async false
set_option linter.all false
set_option maxRecDepth 100000
set_option maxHeartbeats 4000000
/-! GX 14: a tuple times one. -/
namespace GX
open PySem PySem.Spec PyProof.Rows L2
open Sem (wp)
open AutoSeq1 (wpAny_loadPart')
theorem tuple_mulOne (l : Addr) (items : Array Value) (n : Nat) (dd : Option Addr) (sl : Array (Option Value)) (u : Tok) :
    Meets (Builtin.«tuple.__mul__» ⟨[.ref l, .int 1 u], []⟩) (fun _ R s => s.heap.get? l = some { cls := .type "tuple", dict := dd, data := .seq items n, slots := sl } ∧ R (.ok (.ret (Value.ref l))) s) :=
  .of_wp fun prog w A R s h => by
    obtain ⟨hp, g, d, tk, os⟩ := s
    obtain ⟨hl, h⟩ := h
    have f1 := AutoSeq1.idx_int
    have c1 : (items.isEmpty || (1 : Int) == 1) = true := by simp
    wp_walk using wpAny_loadPart' hl
    repeat (first
      | (refine wpAny_ite_false (decide_eq_false (by decide)) ?_; wp_walk using wpAny_loadPart' hl)
      | (refine wpAny_ite_true (decide_eq_true c1) ?_; wp_walk using wpAny_loadPart' hl))

    exact ⟨_, rfl, h⟩
def rRepOne (K : PySem.W.Frag) : R2 := fun x y H Q => ∃ l xs, x = .ref l ∧ y = .int 1 ∧ SqT K H l xs ∧ Q (.ref l) H
section
variable {X : Cx}
theorem op_repOne : OpR X (binaryOp .Mult) (rRepOne X.K) := by
  intro pins s σ H x y v u Q I rx ry h
  obtain ⟨l, xs, rfl, rfl, hT, q⟩ := h
  cases rx
  obtain ⟨t, rfl⟩ := ry
  obtain ⟨its, r, ⟨⟨cls, dd, data, sl⟩, ho, hc, n, hd⟩, hs⟩ := I.tuple hT
  simp only at hc hd
  subst hc hd
  refine wpAny_binaryOp_repeat_ref (T := "tuple") (U := "int") (by decide) ⟨_, ho, rfl⟩ (fun s' => typeIs_int s' 1 t) noFill_tuple_mul F.fills_int_mul F.slot_int_rmul repeat_tuple F.slot_int_index.lookup
    (call_meets F.slot_int_rmul (typeIs_int s 1 t) F.entry_int_rmul (F.args_int_rmul_2 _ _) (int_rmul_tuple 1 t l its.toArray n dd sl)
      ⟨ho, rfl, ⟨_, ho, rfl⟩, call_meets F.slot_tuple_mul ⟨_, ho, rfl⟩ F.entry_tuple_mul (F.args_tuple_mul_2 _ _) (tuple_mulOne l its.toArray n dd sl t) ⟨ho, ?_⟩⟩)
  exact ⟨.ref l, H, I, rfl, q⟩
end
end GX
set_option Elab.async false
set_option linter.all false
set_option maxRecDepth 100000
set_option maxHeartbeats 4000000
/-! KX 1: the text by places, the tables, what a call leaves as it was. -/
namespace KX
open PySem PySem.Spec PyProof.Rows L2 GX
def top (i : Nat) : Stmt := PySem.Challenge.pw_crossloom_k63_whole_switch_at_any_size.main.body.getD i (.Pass ⟨0, 0, 0, 0⟩)
/-- the tables of code objects -/
structure Tb where
  how : Addr
  calls : Addr
  check : Addr
  served : Addr
  admit : Addr
  streams : Addr
abbrev lamQ : Str := "_law_streams.<locals>.<lambda>"
structure TbOk (T : Tb) (H : Hp) : Prop where
  how : TabD T.streams 0 H T.how
  calls : TabD T.streams 0 H T.calls
  check : TabD T.streams 1 H T.check
  served : TabD T.streams 0 H T.served
  admit : TabD T.streams 0 H T.admit
  lam : LamX.TabS H T.streams lamQ
  n1 : T.how ≠ T.streams
  n2 : T.calls ≠ T.streams
  n3 : T.check ≠ T.streams
  n4 : T.served ≠ T.streams
  n5 : T.admit ≠ T.streams
theorem TabS.keep {H H' : Hp} {P : Addr} {q : Str} (t : LamX.TabS H P q) (e : ∀ b ps, H b = some (.tbl ps) → H' b = some (.tbl ps)) (e2 : ∀ b φ, H b = some (.ext φ) → H' b = some (.ext φ)) : LamX.TabS H' P q := by
  obtain ⟨ps, h1, h2, h3⟩ := t
  refine ⟨ps, e _ _ h1, h2, fun pos cv hc => ?_⟩
  obtain ⟨c, e1, e3⟩ := h3 pos cv hc
  exact ⟨c, e1, e2 _ _ e3⟩
theorem TbOk.keep {T : Tb} {H H' : Hp} (t : TbOk T H) (e : ∀ b ps, H b = some (.tbl ps) → H' b = some (.tbl ps)) (e2 : ∀ b φ, H b = some (.ext φ) → H' b = some (.ext φ)) : TbOk T H' := by
  have e3 : ∃ o, H' T.streams = some o := by
    obtain ⟨ps, h1, _⟩ := t.lam
    exact ⟨_, e _ _ h1⟩
  exact ⟨t.how.keep e e2 e3, t.calls.keep e e2 e3, t.check.keep e e2 e3, t.served.keep e e2 e3, t.admit.keep e e2 e3, TabS.keep t.lam e e2, t.n1, t.n2, t.n3, t.n4, t.n5⟩
theorem TabD.let_ {av : Addr} {d : Nat} {H H' : Hp} {P : Addr} (t : TabD av d H P) (n : P ≠ av) (l : GX.Let av H H') : TabD av d H' P := by
  have e3 : ∃ o, H' av = some o := by
    obtain ⟨_, ps, h1, ps', h2, _⟩ := l
    exact ⟨_, h2⟩
  induction d generalizing P with
  | zero => obtain ⟨ps, h1, h2, _⟩ := t; exact ⟨ps, l.1 _ _ h1 n, h2, e3⟩
  | succ d ih =>
    obtain ⟨ps, h1, h2, _, h3⟩ := t
    refine ⟨ps, l.1 _ _ h1 n, h2, e3, fun pos cv hc => ?_⟩
    obtain ⟨c, P', q1, q2, q4, q3⟩ := h3 pos cv hc
    refine ⟨c, P', q1, l.1 _ _ q2 fun z => ?_, q4, ih q3 q4⟩
    obtain ⟨_, ps2, h4, _⟩ := l
    rw [z, h4] at q2
    exact codeX_ne _ (Option.some.inj q2).symm
/-- an object that may be written: a list or an instance, no table -/
inductive Wr : HO → Prop
  | lst (xs) : Wr (.lst xs)
  | ins (C dx fs) : Wr (.ins C dx fs)
/-- but for what stands at M all is as it was; the tables are in order -/
structure Fr (T : Tb) (M : List Addr) (H H' : Hp) : Prop where
  keep : ∀ b o, H b = some o → b ∉ M → (∀ ps, o ≠ .tbl ps) → H' b = some o
  tup : ∀ b xs, H b = some (.tup xs) → H' b = some (.tup xs)
  dom : ∀ b, H' b = none → H b = none
  tb : TbOk T H → TbOk T H'
section
variable {T : Tb} {M M' : List Addr} {H H1 H2 H' : Hp} {a b p : Addr} {o u : HO}
theorem Fr.refl (T : Tb) (M : List Addr) (H : Hp) : Fr T M H H := ⟨fun _ _ h _ _ => h, fun _ _ h => h, fun _ h => h, fun t => t⟩
theorem Fr.trans (x : Fr T M H H1) (y : Fr T M H1 H2) : Fr T M H H2 :=
  ⟨fun b o h n t => y.keep b o (x.keep b o h n t) n t, fun b xs h => y.tup b xs (x.tup b xs h), fun b h => x.dom b (y.dom b h), fun t => y.tb (x.tb t)⟩
theorem Fr.drop (x : Fr T M H H1) (h : ∀ a ∈ M, H a ≠ none → a ∈ M') : Fr T M' H H1 :=
  ⟨fun b o e n t => x.keep b o e (fun z => n (h b z (by rw [e]; intro q; cases q))) t, x.tup, x.dom, x.tb⟩
theorem Fr.mono (x : Fr T M H H1) (h : ∀ a ∈ M, a ∈ M') : Fr T M' H H1 := x.drop fun a ha _ => h a ha
theorem Fr.up (x : Fr T [] H H1) : Fr T M H H1 := x.mono fun a ha => by cases ha
theorem Fr.upd' (hM : H p ≠ none → p ∈ M) (hn : ∀ q, H p = some q → Wr q) : Fr T M H (upd H p o) := by
  have ne : ∀ b u, H b = some u → ¬ Wr u → b ≠ p := fun b u e n z => by
    rw [z] at e
    exact n (hn _ e)
  refine ⟨fun b u e n _ => ?_, fun b xs e => ?_, fun b e => ?_, fun t => ?_⟩
  · rw [upd_ne fun z => n (by rw [z]; exact hM (by rw [← z, e]; intro q; cases q))]
    exact e
  · rw [upd_ne (ne b _ e fun w => by cases w)]
    exact e
  · by_cases z : b = p
    · rw [z, upd_same] at e
      cases e
    · rw [upd_ne z] at e
      exact e
  · exact t.keep (fun b ps e => by rw [upd_ne (ne b _ e fun w => by cases w)]; exact e) fun b φ e => by rw [upd_ne (ne b _ e fun w => by cases w)]; exact e
theorem Fr.new (h : H p = none) : Fr T M H (upd H p o) := Fr.upd' (fun n => absurd h n) fun q e => by rw [h] at e; cases e
theorem Fr.set (hM : p ∈ M) (h : H p = some u) (w : Wr u) : Fr T M H (upd H p o) := Fr.upd' (fun _ => hM) fun q e => by rw [h] at e; cases e; exact w
theorem Fr.andNew (x : Fr T M H H1) (h : H1 p = none) : Fr T M H (upd H1 p o) := x.trans (Fr.new h)
theorem Fr.andSet (x : Fr T M H H1) (hM : p ∈ M) (h : H1 p = some u) (w : Wr u) : Fr T M H (upd H1 p o) := x.trans (Fr.set hM h w)
/-- an object that is new since H may be written -/
theorem Fr.own (x : Fr T M H H1) (h0 : H p = none) (h : H1 p = some u) (w : Wr u) : Fr T M H (upd H1 p o) := by
  have y : Fr T (p :: M) H (upd H1 p o) := (x.mono fun a ha => List.mem_cons_of_mem _ ha).trans (Fr.set List.mem_cons_self h w)
  exact y.drop fun a ha n => by
    rcases List.mem_cons.mp ha with z | z
    · rw [z] at n; exact absurd h0 n
    · exact z
theorem Fr.then (x : Fr T M H H1) (y : Fr T M' H1 H2) (h : ∀ a ∈ M', H a ≠ none → a ∈ M) : Fr T M H H2 := by
  have z : Fr T (M ++ M') H H2 := (x.mono fun a ha => List.mem_append_left _ ha).trans (y.mono fun a ha => List.mem_append_right _ ha)
  exact z.drop fun a ha n => (List.mem_append.mp ha).elim id fun q => h a q n
theorem Fr.lst (x : Fr T [] H H1) {xs : List V} (h : H a = some (.lst xs)) : H1 a = some (.lst xs) := x.keep a _ h (by simp) fun ps z => by cases z
theorem Fr.ins (x : Fr T [] H H1) {C dx : Addr} {fs : List (Str × V)} (h : H a = some (.ins C dx fs)) : H1 a = some (.ins C dx fs) := x.keep a _ h (by simp) fun ps z => by cases z
theorem Fr.lstN (x : Fr T M H H1) {xs : List V} (h : H a = some (.lst xs)) (n : a ∉ M) : H1 a = some (.lst xs) := x.keep a _ h n fun ps z => by cases z
theorem Fr.insN (x : Fr T M H H1) {C dx : Addr} {fs : List (Str × V)} (h : H a = some (.ins C dx fs)) (n : a ∉ M) : H1 a = some (.ins C dx fs) := x.keep a _ h n fun ps z => by cases z
theorem Fr.ne (x : Fr T M H H1) (h : H a = some o) (n : H1 b = none) : a ≠ b := ne_of_none h (x.dom b n)
/-- a generator expression's code object was made in one of the tables -/
theorem Fr.grown {d : Nat} {P : Addr} {cv : Value} (g : Grown T.streams d P H H' cv) (hP : TbOk T H → P ≠ T.streams) : Fr T M H H' := by
  obtain ⟨ps, hps, more, hm, htr⟩ := g.tbl
  have nP : ∀ b u, H b = some u → (∀ q, u ≠ .tbl q) → b ≠ P := fun b u e q z => by
    rw [z, hps] at e
    exact q ps (Option.some.inj e).symm
  refine ⟨fun b u e _ t => g.keep b u e (nP b u e t), fun b xs e => g.keep b _ e (nP b _ e fun q z => by cases z), fun b e => ?_, fun t => ?_⟩
  · cases q : H b with
    | none => rfl
    | some u =>
      by_cases z : b = P
      · rw [z, hm] at e
        cases e
      · rw [g.keep b u q z] at e
        cases e
  · have n := hP t
    refine ⟨g.tab _ _ t.how, g.tab _ _ t.calls, g.tab _ _ t.check, g.tab _ _ t.served, g.tab _ _ t.admit, ?_, t.n1, t.n2, t.n3, t.n4, t.n5⟩
    obtain ⟨ps2, h1, h2, h3⟩ := t.lam
    refine ⟨ps2, g.keep _ _ h1 (Ne.symm n), h2, fun pos cv hc => ?_⟩
    obtain ⟨c, e1, e2⟩ := h3 pos cv hc
    exact ⟨c, e1, g.keep _ _ e2 (nP _ _ e2 LamX.codeO_ne)⟩
theorem Fr.made (l : GX.Let T.streams H H') (hl : LamX.TabS H' T.streams lamQ) : Fr T M H H' := by
  obtain ⟨ps, hps, ps', hm, htr⟩ := l.2
  have nP : ∀ b u, H b = some u → (∀ q, u ≠ .tbl q) → b ≠ T.streams := fun b u e q z => by
    rw [z, hps] at e
    exact q ps (Option.some.inj e).symm
  refine ⟨fun b u e _ t => l.1 b u e (nP b u e t), fun b xs e => l.1 b _ e (nP b _ e fun q z => by cases z), fun b e => ?_, fun t => ?_⟩
  · cases q : H b with
    | none => rfl
    | some u =>
      by_cases z : b = T.streams
      · rw [z, hm] at e
        cases e
      · rw [l.1 b u q z] at e
        cases e
  · exact ⟨TabD.let_ t.how t.n1 l, TabD.let_ t.calls t.n2 l, TabD.let_ t.check t.n3 l, TabD.let_ t.served t.n4 l, TabD.let_ t.admit t.n5 l, hl, t.n1, t.n2, t.n3, t.n4, t.n5⟩
end
/-! ### the code object of a def -/
structure CodeOf (base : Heap) (mg : Str → Option Value) (c P : Addr) : Prop where
  hd : PySem.W.CodeHd base c P
  bm : BmOk base mg
/-- a def of the text whose code object lies at c -/
structure FunC (K : PySem.W.Frag) (x qual : Str) (st : Stmt) (f : Addr) (fd : FuncData) (c : Addr) : Prop where
  ex : ∃ (oc : Value) (od : Option Addr) (kV doc pm : Value) (an : Option Addr) (ct : Value) (osl : Array (Option Value)),
    fd = PySem.W.fnOf x qual (defArgs st) (defBody st) (defScope st) .none kV doc pm an (.ref c) ct ∧ K.lookup f = some ⟨oc, od, .func fd, osl⟩ ∧ PySem.W.codeIn K (.ref c) qual = true
  kp : PySem.W.keepIn K (.ref f) = true
section
variable {P : Program} {w : World} {K : PySem.W.Frag} {mg : Str → Option Value} {base : Heap}
theorem FunC.fn {x qual : Str} {st : Stmt} {f c : Addr} {fd : FuncData} (F : FunC K x qual st f fd c) : Fun K x qual st f fd := by
  obtain ⟨oc, od, kV, doc, pm, an, ct, osl, h1, h2, h3⟩ := F.ex
  exact ⟨⟨oc, od, kV, doc, pm, an, _, ct, osl, h1, h2, h3⟩, F.kp⟩
theorem FunC.ok {x qual : Str} {st : Stmt} {f c : Addr} {fd : FuncData} {N ps : List Str} {k : Nat} {sp : Sp} (F : FunC K x qual st f fd c) (S : FnScope N ps (defScope st)) (len : ∀ vs H Q E, sp vs H Q E → vs.length = ps.length)
    (hbody : ∀ (A : Around) (outer : List Env) (s : Shared) (H : Hp) (vs : List V) (Q : VK) (E : XK), Room k (A.deeper (envOfC qual (defScope st) s.heap.objs.size f (.ref c))) → sp vs H Q E →
      ∃ t, PSs (cxOf CX0 P w K mg base N qual (defScope st) f (.ref c) A outer s H E).nox (defBody st) t ∧ t { nx := fun _ H' => Q .non H', rt := Q } (start N vs) H) : FnOk P w K mg base CX0 (k + 1) f fd ps sp := by
  obtain ⟨oc, od, kV, doc, pm, an, ct, osl, rfl, lk, hcd⟩ := F.ex
  refine fn_of lk hcd S len fun A outer s H vs Q E hr hsp => ?_
  obtain ⟨t, h, q⟩ := hbody A outer s H vs Q E hr hsp
  exact ⟨t, h.nox, q⟩
theorem FunC.okX {x qual : Str} {st : Stmt} {f c : Addr} {fd : FuncData} {N ps : List Str} {k : Nat} {sp : Sp} (F : FunC K x qual st f fd c) (S : FnScope N ps (defScope st)) (len : ∀ vs H Q E, sp vs H Q E → vs.length = ps.length)
    (hbody : ∀ (A : Around) (outer : List Env) (s : Shared) (H : Hp) (vs : List V) (Q : VK) (E : XK), Room k (A.deeper (envOfC qual (defScope st) s.heap.objs.size f (.ref c))) → sp vs H Q E →
      ∃ t, PSs (cxOf (L2.CX P w) P w K mg base N qual (defScope st) f (.ref c) A outer s H E) (defBody st) t ∧ t { nx := fun _ H' => Q .non H', rt := Q } (start N vs) H) : FnOk P w K mg base (L2.CX P w) (k + 1) f fd ps sp := by
  obtain ⟨oc, od, kV, doc, pm, an, ct, osl, rfl, lk, hcd⟩ := F.ex
  exact fn_of lk hcd S len fun A outer s H vs Q E hr hsp => hbody A outer s H vs Q E hr hsp
end
end KX
set_option Elab.async false
set_option linter.all false
set_option maxRecDepth 100000
set_option maxHeartbeats 4000000
/-! KX 2: matrices; check_rates. -/
namespace KX
open PySem PySem.Spec PyProof.Rows L2 GX
/-- the builtins that the text reads -/
structure Bl (mg : Str → Option Value) : Prop where
  any : mg "any" = none
  sum : mg "sum" = none
  len : mg "len" = none
  range : mg "range" = none
  tuple : mg "tuple" = none
  list : mg "list" = none
  enumerate : mg "enumerate" = none
  zip : mg "zip" = none
  min : mg "min" = none
  max : mg "max" = none
  abs : mg "abs" = none
  int : mg "int" = none
  dict : mg "dict" = none
/-- a own exception class, as the top made it -/
structure ExcC (K : PySem.W.Frag) (mg : Str → Option Value) (n : Str) (C : Addr) : Prop where
  ex : PySem.W.excIn K C [.type "ValueError", .type "Exception", .type "BaseException", .type "object"] "ValueError.__new__" = true
  mg : mg n = some (.ref C)
  kp : PySem.W.keepIn K (.ref C) = true
  sub : PySem.W.subIn K (.ref C) (.type "BaseException") = some true
  ty : PySem.W.typeIn K (.ref C) = some (.type "type")
def rLen (K : PySem.W.Frag) : List V → Hp → VK → Prop := fun xs H Q => ∃ p ys, xs = [.ref p] ∧ (SqL K H p ys ∨ SqT K H p ys) ∧ Q (.int ys.length) H
theorem call_lenS {X : Cx} : CallR X (.builtin "len") (rLen X.K) := call_len_seq
def rTupOf (K : PySem.W.Frag) : List V → Hp → VK → Prop := fun xs H Q => ∃ p ys, xs = [.ref p] ∧ ((SqL K H p ys ∧ ∀ l, H l = none → Q (.ref l) (upd H l (.tup ys))) ∨ (SqT K H p ys ∧ Q (.ref p) H))
theorem call_tupOf {X : Cx} : CallR X (.type "tuple") (rTupOf X.K) := call_tuple_of
abbrev rLtI : R2 := rI0 fun i j => .bl (decide (i < j))
abbrev rGtI : R2 := rI0 fun i j => .bl (decide (j < i))
abbrev rLeI : R2 := rI0 fun i j => .bl (decide (i ≤ j))
abbrev rGeI : R2 := rI0 fun i j => .bl (decide (j ≤ i))
abbrev rAddI : R2 := rI0 fun i j => .int (i + j)
abbrev rSubI : R2 := rI0 fun i j => .int (i - j)
/-! ### sums, rows, matrices -/
def sm : Nat → (Nat → Nat) → Nat
  | 0, _ => 0
  | n + 1, f => sm n f + f n
theorem sm_le {n B : Nat} {f : Nat → Nat} (h : ∀ i, i < n → f i ≤ B) : sm n f ≤ n * B := by
  induction n with
  | zero => simp [sm]
  | succ n ih =>
    have h1 := ih fun i hi => h i (by omega)
    have h2 := h n (by omega)
    show sm n f + f n ≤ (n + 1) * B
    rw [Nat.succ_mul]
    omega
def rowI (m : Nat) (f : Nat → Nat) : List Int := (List.range m).map fun j => ((f j : Nat) : Int)
def rowV (m : Nat) (f : Nat → Nat) : List V := (rowI m f).map V.int
theorem rowI_sum (m : Nat) (f : Nat → Nat) : (rowI m f).sum = (sm m f : Int) := by
  induction m with
  | zero => rfl
  | succ n ih =>
    have e : rowI (n + 1) f = rowI n f ++ [((f n : Nat) : Int)] := by simp [rowI, List.range_succ]
    rw [e, List.sum_append, ih]
    simp [sm]
theorem rowV_len (m : Nat) (f : Nat → Nat) : (rowV m f).length = m := by simp [rowV, rowI]
theorem rowV_at {m : Nat} {f : Nat → Nat} {j : Nat} (h : j < m) : (rowV m f)[j]? = some (.int (f j : Nat)) := by simp [rowV, rowI, h]
theorem rowV_of {m : Nat} {f : Nat → Nat} {j : Nat} {x : V} (h : (rowV m f)[j]? = some x) : x = .int (f j : Nat) ∧ j < m := by
  have hj : j < m := by
    have := (List.getElem?_eq_some_iff.mp h).1
    rw [rowV_len] at this
    exact this
  rw [rowV_at hj] at h
  exact ⟨(Option.some.inj h).symm, hj⟩
/-- the rows bs of a matrix, each a list or a tuple of whole numbers -/
structure Rows (H : Hp) (bs : List Addr) (m : Nat) (ρ : Nat → Nat → Nat) : Prop where
  len : bs.length = m
  row : ∀ i b, bs[i]? = some b → H b = some (.tup (rowV m (ρ i))) ∨ H b = some (.lst (rowV m (ρ i)))
structure RowsT (H : Hp) (bs : List Addr) (m : Nat) (ρ : Nat → Nat → Nat) : Prop where
  len : bs.length = m
  row : ∀ i b, bs[i]? = some b → H b = some (.tup (rowV m (ρ i)))
def MatL (H : Hp) (a : Addr) (m : Nat) (ρ : Nat → Nat → Nat) : Prop := ∃ bs : List Addr, H a = some (.lst (bs.map V.ref)) ∧ Rows H bs m ρ
def MatT (H : Hp) (a : Addr) (m : Nat) (ρ : Nat → Nat → Nat) : Prop := ∃ bs : List Addr, H a = some (.lst (bs.map V.ref)) ∧ RowsT H bs m ρ
theorem RowsT.fr {T : Tb} {M : List Addr} {H H' : Hp} {bs : List Addr} {m : Nat} {ρ : Nat → Nat → Nat} (r : RowsT H bs m ρ) (f : Fr T M H H') : RowsT H' bs m ρ := ⟨r.len, fun i b h => f.tup b _ (r.row i b h)⟩
theorem RowsT.rows {H : Hp} {bs : List Addr} {m : Nat} {ρ : Nat → Nat → Nat} (r : RowsT H bs m ρ) : Rows H bs m ρ := ⟨r.len, fun i b h => .inl (r.row i b h)⟩
theorem Rows.fr {T : Tb} {H H' : Hp} {bs : List Addr} {m : Nat} {ρ : Nat → Nat → Nat} (r : Rows H bs m ρ) (f : Fr T [] H H') : Rows H' bs m ρ :=
  ⟨r.len, fun i b h => (r.row i b h).elim (fun q => .inl (f.tup b _ q)) fun q => .inr (f.lst q)⟩
theorem MatT.matL {H : Hp} {a : Addr} {m : Nat} {ρ : Nat → Nat → Nat} (h : MatT H a m ρ) : MatL H a m ρ := let ⟨bs, h1, h2⟩ := h; ⟨bs, h1, h2.rows⟩
theorem getRef {bs : List Addr} {i : Nat} {x : V} (h : (bs.map V.ref)[i]? = some x) : ∃ b, bs[i]? = some b ∧ x = .ref b := by
  rw [List.getElem?_map] at h
  cases q : bs[i]? with
  | none => rw [q] at h; cases h
  | some b => rw [q] at h; exact ⟨b, rfl, (Option.some.inj h).symm⟩
/-! ### check_rates -/
theorem pt_or {X : Cx} {a b : Expr} {t u : TT} {pos : Pos} (ha : PT X a t) (hb : PT X b u) : PT X (.BoolOp .Or [a, b] pos) (tOr t u) := (pw_or ha (pw_or1 hb)).pt
theorem pt_and {X : Cx} {a b : Expr} {t u : TT} {pos : Pos} (ha : PT X a t) (hb : PT X b u) : PT X (.BoolOp .And [a, b] pos) (tAnd t u) := (pw_and ha (pw_and1 hb)).pt
abbrev sCheck : Stmt := top 20
def spCheck (T : Tb) (BR : Addr) : Sp := fun vs H Q E => ∃ (ra : Addr) (m : Nat) (ρ : Nat → Nat → Nat) (sl : Nat), vs = [.ref ra, .int sl] ∧ TbOk T H ∧ MatL H ra m ρ ∧ m ≤ 100 ∧ sl ≤ 1000 ∧ (∀ i j, i < m → j < m → ρ i j ≤ 100000) ∧
  (∀ fa H', Fr T [] H H' → H fa = none → MatT H' fa m ρ → (∀ i, i < m → sm m (ρ i) ≤ sl) → (∀ j, j < m → sm m (fun i => ρ i j) ≤ sl) → Q (.ref fa) H') ∧
  (∀ H', Fr T [] H H' → ((∃ i, i < m ∧ sl < sm m (ρ i)) ∨ ∃ j, j < m ∧ sl < sm m (fun i => ρ i j)) → E (.ref BR) none H')
abbrev nCheck : List Str := ["rates", "slots", "found", "many", "row", "rate", "gate"]
theorem scCheck : FnScope nCheck ["rates", "slots"] (defScope sCheck) := ⟨rfl, rfl, rfl, by decide +kernel, rfl, by decide +kernel, by decide +kernel⟩
section
variable {P : Program} {w : World} {K : PySem.W.Frag} {mg : Str → Option Value} {base : Heap} {T : Tb}
theorem ok_check {f c BR : Addr} {fd : FuncData} (F : FunC K "check_rates" "check_rates" sCheck f fd c) (CO : CodeOf base mg c T.check) (B : Bl mg) (XB : ExcC K mg "BadRate" BR) : FnOk P w K mg base (L2.CX P w) 3 f fd ["rates", "slots"] (spCheck T BR) := by
  have nd := scCheck.nd
  refine F.okX scCheck (fun vs H Q E h => ?_) (fun A outer s H vs Q E hr h => ?_)
  · obtain ⟨ra, m, ρ, sl, rfl, _⟩ := h
    rfl
  · obtain ⟨ra, m, ρ, sl, rfl, hT, hM, hm, hsl, hb, hok, hno⟩ := h
    have raise : ∀ {m : Str} {j : Nat} {p p2 pos rpos : Pos}, PS (cxOf (L2.CX P w) P w K mg base nCheck "check_rates" (defScope sCheck) f (.ref c) A outer s H E) (.Raise (some (.Call (.Name "BadRate" p) [.Constant (.str m) j p2] [] pos)) none rpos) _ :=
      ps_raise rfl (takes_of rfl rfl rfl rfl) (pmk_own PySem.F.excBase_ValueError XB.ex XB.mg XB.kp (raises_own XB.sub XB.ty) rfl)
    refine ⟨_, C8.pss_cut (ps_set (i := 2) nd rfl (Or.inr rfl) (pe_lc (own := [("row", 4)]) (g := gName 4) (tt := tYes) (te := tCB (rTupOf K) (tCons (tVar 4) tNil)) rfl nd (pi_list (pv 0)) (blkOk_by (N := nCheck) (sc := defScope sCheck) (by decide +kernel)) (fun _ _ _ _ _ => pg_name (i := 4) nd rfl (Or.inl rfl)) (fun _ _ _ _ _ => pts_nil)
        (fun _ _ _ _ _ => pe_callTy call_tupOf (by rfl) B.tuple boot_tuple (pa_cons (pv 4) pa_nil))))
      (C8.pss_cut (ps_set (i := 3) nd rfl (Or.inr rfl) (pe_callB call_lenS (by rfl) B.len boot_len (pa_cons (pv 2) pa_nil)))
      (C8.pss_cut (ps_if (pt_val (pe_anyG (av := T.streams) (d := 1) (k := 1) (own := [("row", 4)]) (g := gName 4) (tt := tYes) (te := fun cv => tOrV (tOp rNe (tCB (rLen K) (tCons (tVar 4) tNil)) (tVar 3)) (tGen T.streams conAny () base cv 0 (iTup K (tVar 4)) (gName 5) tYes (fun _ => tOp rLtI (tVar 5) (tC (.int 0))) [5]))
          hr CO.bm rfl B.any nd (pi_list (pv 2)) (blkOk_by (N := nCheck) (sc := defScope sCheck) (by decide +kernel)) rfl rfl (fun _ _ _ _ _ _ _ => pg_name (i := 4) nd rfl (Or.inl rfl)) (fun _ _ _ _ _ _ _ _ => pts_nil) (fun _ _ _ _ _ _ _ hr1 => pe_or (pe_cmpR op_ne (pe_callB call_lenS (by rfl) B.len boot_len (pa_cons (pv 4) pa_nil)) (pv 3) rfl)
            (pe_one (pe_anyG (av := T.streams) (d := 0) (k := 0) (own := [("rate", 5)]) (g := gName 5) (tt := tYes) (te := fun _ => tOp rLtI (tVar 5) (tC (.int 0))) hr1 CO.bm rfl B.any nd (pi_tup (pv 4)) (blkOk_by (by kernel_rfl)) rfl rfl (fun _ _ _ _ _ _ _ => pg_name (i := 5) nd rfl (Or.inl rfl)) (fun _ _ _ _ _ _ _ _ => pts_nil) (fun _ _ _ _ _ _ _ _ => pe_cmpR op_lt (pv 5) pe_int rfl)))))) (pss_one raise) pss_nil)
      (pss_cons (ps_if (pt_or (pt_val (pe_anyG (av := T.streams) (d := 1) (k := 1) (own := [("row", 4)]) (g := gName 4) (tt := tYes) (te := fun _ => tOp rGtI (tCB (rSumT K) (tCons (tVar 4) tNil)) (tVar 1))
          hr CO.bm rfl B.any nd (pi_list (pv 2)) (blkOk_by (N := nCheck) (sc := defScope sCheck) (by decide +kernel)) rfl rfl (fun _ _ _ _ _ _ _ => pg_name (i := 4) nd rfl (Or.inl rfl)) (fun _ _ _ _ _ _ _ _ => pts_nil) (fun _ _ _ _ _ _ _ hr1 => pe_cmpR op_gt (pe_callB (cr_sumT rfl) (by rfl) B.sum boot_sum (pa_cons (pv 4) pa_nil)) (pv 1) rfl)))
          (pt_val (pe_anyG (av := T.streams) (d := 1) (k := 1) (own := [("gate", 6)]) (g := gName 6) (tt := tYes) (te := fun cv => tOp rGtI (tGen T.streams conSum 0 base cv 0 (iList K (tVar 2)) (gName 4) tYes (fun _ => tOp (rIxT K) (tVar 4) (tVar 6)) [4]) (tVar 1))
          hr CO.bm rfl B.any nd (pi_range1 rfl B.range (pa_cons (pv 3) pa_nil)) (blkOk_by (N := nCheck) (sc := defScope sCheck) (by decide +kernel)) rfl rfl (fun _ _ _ _ _ _ _ => pg_name (i := 6) nd rfl (Or.inr rfl)) (fun _ _ _ _ _ _ _ _ => pts_nil) (fun _ _ _ _ _ _ _ hr1 => pe_cmpR op_gt
            (pe_sumG (av := T.streams) (d := 0) (k := 0) (own := [("row", 4)]) (g := gName 4) (tt := tYes) (te := fun _ => tOp (rIxT K) (tVar 4) (tVar 6)) hr1 CO.bm rfl B.sum nd (pi_list (pv 2)) (blkOk_by (by kernel_rfl)) rfl rfl (fun _ _ _ _ _ _ _ => pg_name (i := 4) nd rfl (Or.inl rfl)) (fun _ _ _ _ _ _ _ _ => pts_nil) (fun _ _ _ _ _ _ _ _ => pe_ix ix_tup (pv 4) (pv 6) (fun _ _ => rfl)))
            (pv 1) rfl)))) (pss_one raise) pss_nil)
      (pss_one (ps_ret (pv 2)))))), ?_⟩
    have hra0 := hM
    obtain ⟨bs, hra, R⟩ := hM
    -- found = [tuple(row) for row in rates]
    refine ⟨fun σ1 H1 => ∃ fa cs, σ1 = [some (.ref ra), some (.int sl), some (.ref fa), none, none, none, none] ∧ Fr T [] H H1 ∧ H fa = none ∧ H1 fa = some (.lst (cs.map V.ref)) ∧ RowsT H1 cs m ρ, ?_, ?_⟩
    · refine ⟨_, rfl, ra, rfl, ⟨_, SqL.of hra⟩, fun D hD => ?_⟩
      refine lc_sq (sq_list (xs := bs.map V.ref)) (fun i H' => ∃ cs : List Addr, H' D = some (.lst (cs.map V.ref)) ∧ Fr T [] H H' ∧ cs.length = i ∧ ∀ j b, cs[j]? = some b → H' b = some (.tup (rowV m (ρ j)))) ⟨[], upd_same, Fr.new hD, rfl, fun j b h => by cases h⟩ (fun i H' _ ⟨cs, _, fr, _, _⟩ => SqL.of (fr.lst hra)) ?_ ?_
      · rintro i x H2 H2' hi ⟨cs, hDs, fr, hl, hc⟩ ⟨hx, rfl⟩
        obtain ⟨b, hb', rfl⟩ := getRef hx
        have nD : ∀ c o, H2' c = some o → (∀ xs, o ≠ .lst xs) → c ≠ D := fun c o h n z => by
          rw [z, hDs] at h
          exact n _ (Option.some.inj h).symm
        have hlen : (bs.map V.ref).length = m := by rw [List.length_map]; exact R.len
        have big : (cs.map V.ref).length < sizeLine := by
          rw [List.length_map, hl]
          have : i < m := by rw [← hlen]; exact hi
          exact small1000 (by omega)
        refine ⟨rfl, .ref b, rfl, b, rowV m (ρ i), rfl, ?_⟩
        have step : ∀ (H4 : Hp) (c : Addr), H4 D = some (.lst (cs.map V.ref)) → Fr T [] H H4 → (∀ j b, cs[j]? = some b → H4 b = some (.tup (rowV m (ρ j)))) → H4 c = some (.tup (rowV m (ρ i))) →
            ∃ acc, H4 D = some (.lst acc) ∧ acc.length < sizeLine ∧ ∃ cs' : List Addr, upd H4 D (.lst (acc ++ [.ref c])) D = some (.lst (cs'.map V.ref)) ∧ Fr T [] H (upd H4 D (.lst (acc ++ [.ref c]))) ∧ cs'.length = i + 1 ∧ ∀ j b, cs'[j]? = some b → upd H4 D (.lst (acc ++ [.ref c])) b = some (.tup (rowV m (ρ j))) := by
          intro H4 c h1 fr4 h2 h3
          refine ⟨_, h1, big, cs ++ [c], by rw [upd_same, List.map_append] <;> rfl, fr4.own hD h1 (.lst _), by simp [hl], fun j b hj => ?_⟩
          have key : ∀ b r, H4 b = some (.tup r) → upd H4 D (.lst (cs.map V.ref ++ [.ref c])) b = some (.tup r) := fun b r h => by
            rw [upd_ne fun z => by rw [z, h1] at h; cases h]
            exact h
          rcases Nat.lt_or_ge j cs.length with hj' | hj'
          · rw [List.getElem?_append_left hj'] at hj
            exact key _ _ (h2 j b hj)
          · rw [List.getElem?_append_right hj'] at hj
            have e0 : j - cs.length = 0 := by
              have := (List.getElem?_eq_some_iff.mp hj).1
              simp at this
              omega
            rw [e0] at hj
            have e1 : c = b := Option.some.inj hj
            have e2 : j = i := by omega
            rw [← e1, e2]
            exact key _ _ h3
        rcases R.row i b hb' with h | h
        · exact .inr ⟨SqT.of (fr.tup _ _ h), step _ b hDs fr hc (fr.tup _ _ h)⟩
        · refine .inl ⟨SqL.of (fr.lst h), fun l hl' => step _ l ?_ (fr.andNew hl') (fun j b hj => ?_) upd_same⟩
          · rw [upd_ne (ne_of_none hDs hl')]; exact hDs
          · rw [upd_ne (ne_of_none (hc j b hj) hl')]; exact hc j b hj
      · rintro H2 ⟨cs, hDs, fr, hl, hc⟩
        have hlen : (bs.map V.ref).length = m := by rw [List.length_map]; exact R.len
        exact ⟨D, cs, rfl, fr, hD, hDs, hl.trans hlen, hc⟩
    rintro σ1 H1 ⟨fa, cs, rfl, fr1, nfa, hfa, RT⟩
    -- many = len(found)
    refine ⟨fun σ2 H2 => σ2 = [some (.ref ra), some (.int sl), some (.ref fa), some (.int m), none, none, none] ∧ H2 = H1, ?_, ?_⟩
    · refine ⟨.ref fa, rfl, fa, _, rfl, .inl (SqL.of hfa), ?_⟩
      rw [List.length_map, RT.len]
      exact ⟨rfl, rfl⟩
    rintro σ2 H2 ⟨rfl, rfl⟩
    have hTH := fr1.tb hT
    have hmL : (cs.map V.ref).length = m := by rw [List.length_map]; exact RT.len
    -- if any(len(row) != many or any(..) for row in found)
    refine ⟨fun σ3 H3 => σ3 = [some (.ref ra), some (.int sl), some (.ref fa), some (.int m), none, none, none] ∧ Fr T [] H2 H3, ?_, ?_⟩
    · refine ⟨.ref fa, rfl, fa, rfl, ⟨_, SqL.of hfa⟩, c, T.check, rfl, .inl CO.hd, hTH.check, fun cv H3 g3 => ?_⟩
      obtain ⟨c', P', ecv, hc', nP', tab'⟩ := g3.cv 0 rfl
      have fr3 : Fr T [] H2 H3 := Fr.grown g3 fun t => t.n3
      let Pv : Nat → Hp → Prop := fun _ H' => Fr T [] H2 H' ∧ H' c' = some (CodeX c' P') ∧ TabD T.streams 0 H' P'
      refine any_sq (sq_list (xs := cs.map V.ref)) (fun _ => false) Pv ⟨fr3, hc', tab'⟩ (fun i H' _ p => SqL.of (p.1.lst hfa)) ?_ (fun i H' _ e => by cases e) fun H' _ p => ⟨false, rfl, rfl, p.1⟩
      rintro i x H4 H4' hi ⟨fr4, hc4, tab4⟩ ⟨hx, rfl⟩ N hNT hNF
      obtain ⟨b, hb', rfl⟩ := getRef hx
      have hrow := fr4.tup _ _ (RT.row i b hb')
      have him : i < m := by rw [← hmL]; exact hi
      refine ⟨rfl, .ref b, rfl, b, _, rfl, .inr (SqT.of hrow), .int m, rfl, rfl, false, by rw [rowV_len]; simp, ?_⟩
      refine ⟨.ref b, rfl, b, rfl, ⟨_, SqT.of hrow⟩, c', P', ecv, .inr hc4, tab4, fun cv5 H5 g5 => ?_⟩
      have fr5 : Fr T [] H2 H5 := fr4.trans (Fr.grown g5 fun _ => nP')
      refine any_sq (sq_tup (xs := rowV m (ρ i))) (fun _ => false) Pv ⟨fr5, g5.keep _ _ hc4 (fun z => ?_), g5.tab _ _ tab4⟩ (fun j H' _ p => SqT.of (p.1.tup _ _ (RT.row i b hb'))) ?_ (fun i H' _ e => by cases e) fun H' _ p => ⟨false, rfl, (fun e => by cases e), fun _ => hNF rfl _ p⟩
      · obtain ⟨ps, hps, _⟩ := g5.tbl
        rw [z, hps] at hc4
        exact codeX_ne _ (Option.some.inj hc4).symm
      · rintro j x H6 H6' hj p ⟨hx, rfl⟩ N2 hNT2 hNF2
        obtain ⟨rfl, hjm⟩ := rowV_of hx
        refine ⟨rfl, _, rfl, _, _, rfl, rfl, ?_⟩
        refine ⟨false, congrArg V.bl ?_, (fun e => by cases e), fun _ => hNF2 rfl _ p⟩
        simp
    rintro σ3 H3 ⟨rfl, fr3⟩
    have fr3' := fr1.trans fr3
    have hfa3 := fr3.lst hfa
    have RT3 := RT.fr fr3
    -- if any(sum(row) > slots ..) or any(sum(row[gate] ..) > slots ..)
    have s1 : ∀ i, (rowI m (ρ i)).sum = (sm m (ρ i) : Int) := fun i => rowI_sum m (ρ i)
    refine ⟨.ref fa, rfl, fa, rfl, ⟨_, SqL.of hfa3⟩, c, T.check, rfl, .inl CO.hd, (fr3'.tb hT).check, fun cv H4 g4 => ?_⟩
    have fr4 : Fr T [] H3 H4 := Fr.grown g4 fun t => t.n3
    refine any_sq (sq_list (xs := cs.map V.ref)) (fun i => decide (sl < sm m (ρ i))) (fun _ H' => Fr T [] H3 H') fr4 (fun i H' _ p => SqL.of (p.lst hfa3)) ?_ ?_ ?_
    · rintro i x H5 H5' hi fr5 ⟨hx, rfl⟩ N hNT hNF
      obtain ⟨b, hb', rfl⟩ := getRef hx
      have hrow := fr5.tup _ _ (RT3.row i b hb')
      refine ⟨rfl, .ref b, rfl, b, rowI m (ρ i), rfl, SqT.of hrow, .int sl, rfl, _, _, rfl, rfl, ?_⟩
      refine ⟨decide (sl < sm m (ρ i)), congrArg V.bl ?_, fun e => hNT e _ fr5, fun e => hNF e _ fr5⟩
      rw [s1 i, decide_eq_decide]
      omega
    · intro i H5 hi e fr5
      refine ⟨true, rfl, ?_⟩
      exact hno H5 (fr3'.trans fr5) (.inl ⟨i, by rw [← hmL]; exact hi, of_decide_eq_true e⟩)
    · intro H5 hall fr5
      refine ⟨false, rfl, ?_⟩
      have hrows : ∀ i, i < m → sm m (ρ i) ≤ sl := fun i hi => by
        have := hall i (by rw [hmL]; exact hi)
        have := of_decide_eq_false this
        omega
      refine ⟨_, rfl, _, rfl, (by omega), (by omega), c, T.check, rfl, .inl CO.hd, ((fr3'.trans fr5).tb hT).check, fun cv2 H6 g6 => ?_⟩
      obtain ⟨c', P', ecv, hc', nP', tab'⟩ := g6.cv 0 rfl
      have fr6 : Fr T [] H3 H6 := fr5.trans (Fr.grown g6 fun t => t.n3)
      let Pv : Nat → Hp → Prop := fun _ H' => Fr T [] H3 H' ∧ H' c' = some (CodeX c' P') ∧ TabD T.streams 0 H' P'
      refine any_sq (sq_rng (lo := 0) (n := m)) (fun j => decide (sl < sm m (fun i => ρ i j))) Pv ⟨fr6, hc', tab'⟩ (fun i H' _ p => trivial) ?_ ?_ ?_
      · rintro j x H7 H7' hj ⟨fr7, hc7, tab7⟩ ⟨rfl, rfl⟩ N hNT hNF
        refine ⟨rfl, .ref fa, rfl, fa, rfl, ⟨_, SqL.of (fr7.lst hfa3)⟩, c', P', ecv, .inr hc7, tab7, fun cv8 H8 g8 => ?_⟩
        have fr8 : Fr T [] H3 H8 := fr7.trans (Fr.grown g8 fun _ => nP')
        refine sum_sq (sq_list (xs := cs.map V.ref)) (fun i => ((sm i (fun i => ρ i j) : Nat) : Int)) rfl Pv ⟨fr8, g8.keep _ _ hc7 (fun z => ?_), g8.tab _ _ tab7⟩ (fun i H' _ p => SqL.of (p.1.lst hfa3)) ?_ ?_
        · obtain ⟨ps, hps, _⟩ := g8.tbl
          rw [z, hps] at hc7
          exact codeX_ne _ (Option.some.inj hc7).symm
        · rintro i x H9 H9' hi p ⟨hx, rfl⟩ N2 hN2
          obtain ⟨b, hb', rfl⟩ := getRef hx
          have him : i < m := by rw [← hmL]; exact hi
          refine ⟨rfl, .ref b, rfl, _, rfl, b, _, _, _, rfl, rfl, SqT.of (p.1.tup _ _ (RT3.row i b hb')), at_of (j := j) (by omega) (rowV_at hj), ?_⟩
          have b1 : sm i (fun i => ρ i j) ≤ i * 100000 := sm_le fun a ha => hb a j (by omega) hj
          have b2 := hb i j him hj
          exact sumStep (Q := fun _ _ => True) rfl (by show ((sm i (fun i => ρ i j) : Nat) : Int) + (ρ i j : Nat) = ((sm i (fun i => ρ i j) + ρ i j : Nat) : Int); omega) ⟨by omega, by omega⟩ ⟨by omega, by omega⟩ (hN2 _ p)
        · intro H9 p
          rw [hmL]
          refine ⟨.int sl, rfl, _, _, rfl, rfl, ?_⟩
          refine ⟨decide (sl < sm m (fun i => ρ i j)), congrArg V.bl ?_, fun e => hNT e _ p, fun e => hNF e _ p⟩
          rw [decide_eq_decide]
          omega
      · intro j H7 hj e p
        refine ⟨true, rfl, ?_⟩
        exact hno H7 (fr3'.trans p.1) (.inr ⟨j, hj, of_decide_eq_true e⟩)
      · intro H7 hall2 p
        refine ⟨false, rfl, ?_⟩
        refine ⟨.ref fa, rfl, ?_⟩
        exact hok fa H7 (fr3'.trans p.1) nfa ⟨cs, p.1.lst hfa3, RT3.fr p.1⟩ hrows fun j hj => by
          have := of_decide_eq_false (hall2 j hj)
          omega
end
end KX
set_option Elab.async false
set_option linter.all false
set_option maxRecDepth 10000
/-! CX 1: colouring, in plain numbers: chains of two colours, free colours. -/
namespace KX
/-- call n (of N) has the gate v on side s and the colour c -/
def Has (N : Nat) (g : Nat → Nat → Nat) (col : Nat → Option Nat) (s v c n : Nat) : Prop := n < N ∧ g s n = v ∧ col n = some c
/-- on neither side two calls of a gate have one colour -/
def Proper (N : Nat) (g : Nat → Nat → Nat) (col : Nat → Option Nat) : Prop := ∀ s v c n m, s ≤ 1 → Has N g col s v c n → Has N g col s v c m → n = m
def side (k : Nat) : Nat := if k % 2 = 0 then 1 else 0
def cc (here other k : Nat) : Nat := if k % 2 = 0 then here else other
def gt (g : Nat → Nat → Nat) (start : Nat) (f : Nat → Nat) (k : Nat) : Nat := if k = 0 then start else g (side k) (f (k - 1))
/-- the first L calls of the chain -/
def Chain (N : Nat) (g : Nat → Nat → Nat) (col : Nat → Option Nat) (start here other L : Nat) (f : Nat → Nat) : Prop :=
  ∀ k, k < L → Has N g col (side k) (gt g start f k) (cc here other k) (f k)
def swap (col : Nat → Option Nat) (here other L : Nat) (f : Nat → Nat) (n : Nat) : Option Nat :=
  if ∃ k, k < L ∧ f k = n then (if col n = some here then some other else some here) else col n
theorem side_le (k : Nat) : side k ≤ 1 := by unfold side; split <;> omega
theorem side_eo (k : Nat) : (side (k + 1) = 0 ∧ side k = 1) ∨ (side (k + 1) = 1 ∧ side k = 0) := by
  unfold side
  rcases Nat.mod_two_eq_zero_or_one k with h | h
  · left; constructor
    · rw [if_neg (by omega)]
    · rw [if_pos h]
  · right; constructor
    · rw [if_pos (by omega)]
    · rw [if_neg (by omega)]
theorem cc_par {here other i j : Nat} (hne : here ≠ other) (h : cc here other i = cc here other j) : i % 2 = j % 2 := by
  unfold cc at h
  rcases Nat.mod_two_eq_zero_or_one i with h1 | h1 <;> rcases Nat.mod_two_eq_zero_or_one j with h2 | h2
  · omega
  · rw [if_pos h1, if_neg (by omega)] at h; exact absurd h hne
  · rw [if_neg (by omega), if_pos h2] at h; exact absurd h.symm hne
  · omega
theorem cc_of {here other i j : Nat} (h : i % 2 = j % 2) : cc here other i = cc here other j := by unfold cc; rw [h]
theorem side_of {i j : Nat} (h : i % 2 = j % 2) : side i = side j := by unfold side; rw [h]
section
variable {N : Nat} {g : Nat → Nat → Nat} {col : Nat → Option Nat} {start here other L : Nat} {f : Nat → Nat}
theorem chain_inj (hp : Proper N g col) (hne : here ≠ other) (hfree : ∀ n, ¬ Has N g col 1 start other n) (ch : Chain N g col start here other L f) :
    ∀ i j, i < j → j < L → f i ≠ f j := by
  intro i
  induction i with
  | zero =>
    intro j hij hj e
    have h0 := ch 0 (by omega)
    have hj1 := ch j hj
    have hpar := cc_par hne (i := 0) (j := j) (by
      have a := h0.2.2
      have b := hj1.2.2
      rw [e] at a
      rw [a] at b
      exact Option.some.inj b)
    have hs : side j = 1 := by unfold side; rw [if_pos (by omega)]
    have hjm := ch (j - 1) (by omega)
    refine hfree (f (j - 1)) ⟨hjm.1, ?_, ?_⟩
    · have e1 : gt g start f j = g (side j) (f (j - 1)) := by unfold gt; rw [if_neg (by omega)]
      have e2 := hj1.2.1
      rw [e1, hs] at e2
      rw [← e2, ← e]
      exact h0.2.1
    · rw [hjm.2.2]
      unfold cc
      rw [if_neg (by omega)]
  | succ i ih =>
    intro j hij hj e
    have h0 := ch (i + 1) (by omega)
    have hj1 := ch j hj
    have hpar := cc_par hne (i := i + 1) (j := j) (by
      have a := h0.2.2
      have b := hj1.2.2
      rw [e] at a
      rw [a] at b
      exact Option.some.inj b)
    have hi := ch i (by omega)
    have hjm := ch (j - 1) (by omega)
    have e1 : gt g start f j = g (side j) (f (j - 1)) := by unfold gt; rw [if_neg (by omega)]
    have e2 : gt g start f (i + 1) = g (side (i + 1)) (f i) := by unfold gt; rw [if_neg (by omega), Nat.add_sub_cancel]
    have hs : side (i + 1) = side j := side_of hpar
    refine ih (j - 1) (by omega) (by omega) (hp (side j) (g (side j) (f j)) (cc here other i) _ _ (side_le _) ⟨hi.1, ?_, hi.2.2⟩ ⟨hjm.1, ?_, ?_⟩)
    · have a := h0.2.1
      rw [e2, e, hs] at a
      exact a.symm
    · have a := hj1.2.1
      rw [e1] at a
      exact a.symm
    · rw [hjm.2.2]
      exact congrArg some (cc_of (by omega))
/-- members of a list without repetition that all lie below N -/
theorem length_le_of_below : ∀ (N : Nat) (l : List Nat), l.Nodup → (∀ x ∈ l, x < N) → l.length ≤ N := by
  intro N
  induction N with
  | zero =>
    intro l _ h
    cases l with
    | nil => simp
    | cons a t => exact absurd (h a List.mem_cons_self) (by omega)
  | succ N ih =>
    intro l hn h
    by_cases hm : N ∈ l
    · have h1 := ih (l.erase N) (hn.erase N) (fun x hx => by
        have hx1 := List.mem_of_mem_erase hx
        have hx2 := h x hx1
        have : x ≠ N := fun z => by
          rw [z] at hx
          exact (List.Nodup.not_mem_erase hn) hx
        omega)
      rw [List.length_erase_of_mem hm] at h1
      omega
    · have h1 := ih l hn (fun x hx => by
        have hx2 := h x hx
        have : x ≠ N := fun z => hm (by rw [← z]; exact hx)
        omega)
      omega
theorem chain_short (hp : Proper N g col) (hne : here ≠ other) (hfree : ∀ n, ¬ Has N g col 1 start other n) (ch : Chain N g col start here other L f) : L ≤ N := by
  have h := length_le_of_below N ((List.range L).map f) (by
    unfold List.Nodup
    rw [List.pairwise_map]
    refine List.Pairwise.imp_of_mem ?_ (List.pairwise_lt_range (n := L))
    intro a b ha hb hab
    exact chain_inj hp hne hfree ch a b hab (List.mem_range.mp hb)) (fun x hx => by
      obtain ⟨k, hk, rfl⟩ := List.mem_map.mp hx
      exact (ch k (List.mem_range.mp hk)).1)
  simpa using h
theorem swap_in (ch : Chain N g col start here other L f) (hne : here ≠ other) {k : Nat} (hk : k < L) : swap col here other L f (f k) = some (cc here other (k + 1)) := by
  unfold swap
  rw [if_pos ⟨k, hk, rfl⟩, (ch k hk).2.2]
  rcases Nat.mod_two_eq_zero_or_one k with h | h
  · have e1 : cc here other k = here := by unfold cc; rw [if_pos h]
    have e2 : cc here other (k + 1) = other := by unfold cc; rw [if_neg (by omega)]
    rw [e1, e2, if_pos rfl]
  · have e1 : cc here other k = other := by unfold cc; rw [if_neg (by omega)]
    have e2 : cc here other (k + 1) = here := by unfold cc; rw [if_pos (by omega)]
    rw [e1, e2, if_neg fun z => hne (Option.some.inj z).symm]
theorem swap_out {n : Nat} (h : ¬ ∃ k, k < L ∧ f k = n) : swap col here other L f n = col n := by unfold swap; rw [if_neg h]
/-- one call of the chain and one beside it -/
theorem swap_mix (hp : Proper N g col) (hne : here ≠ other) (hfree : ∀ n, ¬ Has N g col 1 start other n) (ch : Chain N g col start here other L f) (hend : ∀ n, ¬ Has N g col (side L) (gt g start f L) (cc here other L) n)
    {s v i m : Nat} (hs : s ≤ 1) (hi : i < L) (hg : g s (f i) = v) (hm : m < N) (hgm : g s m = v) (hcm : col m = some (cc here other (i + 1))) : ∃ k, k < L ∧ f k = m := by
  have hi1 := ch i hi
  have side_cases : s = side (i + 1) ∨ s = side i := by
    rcases side_eo i with ⟨a, b⟩ | ⟨a, b⟩ <;> (rw [a, b]; omega)
  rcases side_cases with hsd | hsd
  · have e1 : gt g start f (i + 1) = g (side (i + 1)) (f i) := by unfold gt; rw [if_neg (by omega), Nat.add_sub_cancel]
    have hm2 : Has N g col (side (i + 1)) (gt g start f (i + 1)) (cc here other (i + 1)) m := ⟨hm, by rw [e1, ← hsd, hgm, hg], hcm⟩
    rcases Nat.lt_or_ge (i + 1) L with hl | hl
    · exact ⟨i + 1, hl, hp _ _ _ _ _ (side_le _) (ch (i + 1) hl) hm2⟩
    · have e : i + 1 = L := by omega
      rw [e] at hm2
      exact absurd hm2 (hend m)
  · cases i with
    | zero =>
      exfalso
      refine hfree m ⟨hm, ?_, hcm⟩
      have a := hi1.2.1
      have b : side 0 = 1 := rfl
      have hsd : s = 1 := hsd
      rw [b] at a
      rw [hsd] at hgm hg
      rw [hgm, ← hg, a]
      rfl
    | succ i =>
      have him := ch i (by omega)
      have e2 : gt g start f (i + 1) = g (side (i + 1)) (f i) := by unfold gt; rw [if_neg (by omega), Nat.add_sub_cancel]
      have a := hi1.2.1
      rw [e2] at a
      refine ⟨i, by omega, hp s v (cc here other i) _ _ hs ⟨him.1, ?_, him.2.2⟩ ⟨hm, hgm, ?_⟩⟩
      · rw [hsd, ← a, ← hsd]; exact hg
      · rw [hcm]; exact congrArg some (cc_of (by omega))
theorem swap_proper (hp : Proper N g col) (hne : here ≠ other) (hfree : ∀ n, ¬ Has N g col 1 start other n) (ch : Chain N g col start here other L f) (hend : ∀ n, ¬ Has N g col (side L) (gt g start f L) (cc here other L) n) :
    Proper N g (swap col here other L f) := by
  intro s v c n m hs hn hm
  by_cases an : ∃ k, k < L ∧ f k = n
  · obtain ⟨i, hi, rfl⟩ := an
    have cn := hn.2.2
    rw [swap_in ch hne hi] at cn
    by_cases am : ∃ k, k < L ∧ f k = m
    · obtain ⟨j, hj, rfl⟩ := am
      have cm := hm.2.2
      rw [swap_in ch hne hj] at cm
      have hpar := cc_par hne ((Option.some.inj cn).trans (Option.some.inj cm).symm)
      refine hp s v (cc here other i) _ _ hs ⟨hn.1, hn.2.1, (ch i hi).2.2⟩ ⟨hm.1, hm.2.1, ?_⟩
      rw [(ch j hj).2.2]
      exact congrArg some (cc_of (by omega))
    · have cm := hm.2.2
      rw [swap_out am] at cm
      exact absurd (swap_mix hp hne hfree ch hend hs hi hn.2.1 hm.1 hm.2.1 (by rw [cm, ← cn])) am
  · have cn := hn.2.2
    rw [swap_out an] at cn
    by_cases am : ∃ k, k < L ∧ f k = m
    · obtain ⟨j, hj, rfl⟩ := am
      have cm := hm.2.2
      rw [swap_in ch hne hj] at cm
      exact absurd (swap_mix hp hne hfree ch hend hs hj hm.2.1 hn.1 hn.2.1 (by rw [cn, ← cm])) an
    · have cm := hm.2.2
      rw [swap_out am] at cm
      exact hp s v c n m hs ⟨hn.1, hn.2.1, cn⟩ ⟨hm.1, hm.2.1, cm⟩
theorem swap_free1 (hp : Proper N g col) (hne : here ≠ other) (hfree : ∀ n, ¬ Has N g col 1 start other n) (ch : Chain N g col start here other L f) (hend : ∀ n, ¬ Has N g col (side L) (gt g start f L) (cc here other L) n) (n : Nat) :
    ¬ Has N g (swap col here other L f) 1 start here n := by
  intro hn
  by_cases an : ∃ k, k < L ∧ f k = n
  · obtain ⟨i, hi, rfl⟩ := an
    have cn := hn.2.2
    rw [swap_in ch hne hi] at cn
    have hpar := cc_par hne (i := i + 1) (j := 0) (Option.some.inj cn)
    refine hfree (f i) ⟨hn.1, hn.2.1, ?_⟩
    rw [(ch i hi).2.2]
    unfold cc
    rw [if_neg (by omega)]
  · have cn := hn.2.2
    rw [swap_out an] at cn
    rcases Nat.eq_zero_or_pos L with h0 | h0
    · rw [h0] at hend
      exact hend n ⟨hn.1, hn.2.1, cn⟩
    · exact an ⟨0, h0, hp 1 start here _ _ (by omega) (ch 0 h0) ⟨hn.1, hn.2.1, cn⟩⟩
theorem swap_free0 (hne : here ≠ other) (ch : Chain N g col start here other L f) {one : Nat} (h0 : ∀ n, ¬ Has N g col 0 one here n) (n : Nat) : ¬ Has N g (swap col here other L f) 0 one here n := by
  intro hn
  by_cases an : ∃ k, k < L ∧ f k = n
  · obtain ⟨i, hi, rfl⟩ := an
    have cn := hn.2.2
    rw [swap_in ch hne hi] at cn
    have hpar := cc_par hne (i := i + 1) (j := 0) (Option.some.inj cn)
    have hs : side i = 0 := by unfold side; rw [if_neg (by omega)]
    have hi1 := ch i hi
    have him := ch (i - 1) (by omega)
    have e2 : gt g start f i = g (side i) (f (i - 1)) := by unfold gt; rw [if_neg (by omega)]
    have a := hi1.2.1
    rw [e2, hs] at a
    refine h0 (f (i - 1)) ⟨him.1, by rw [← a]; exact hn.2.1, ?_⟩
    rw [him.2.2]
    unfold cc
    rw [if_pos (by omega)]
  · have cn := hn.2.2
    rw [swap_out an] at cn
    exact h0 n ⟨hn.1, hn.2.1, cn⟩
theorem swap_none (ch : Chain N g col start here other L f) (n : Nat) : (swap col here other L f n = none ↔ col n = none) ∧ ∀ c, swap col here other L f n = some c → col n = some c ∨ c = here ∨ c = other := by
  by_cases an : ∃ k, k < L ∧ f k = n
  · obtain ⟨i, hi, rfl⟩ := an
    unfold swap
    rw [if_pos ⟨i, hi, rfl⟩, (ch i hi).2.2]
    refine ⟨?_, fun c hc => ?_⟩
    · split <;> simp
    · split at hc
      · exact .inr (.inr (Option.some.inj hc).symm)
      · exact .inr (.inl (Option.some.inj hc).symm)
  · rw [swap_out an]
    exact ⟨Iff.rfl, fun c hc => .inl hc⟩
end
/-! ### a colour is free -/
def put (col : Nat → Option Nat) (k c : Nat) : Nat → Option Nat := fun n => if n = k then some c else col n
theorem put_proper {N : Nat} {g : Nat → Nat → Nat} {col : Nat → Option Nat} {k c : Nat} (hp : Proper N g col) (h0 : ∀ n, ¬ Has N g col 0 (g 0 k) c n) (h1 : ∀ n, ¬ Has N g col 1 (g 1 k) c n) : Proper N g (put col k c) := by
  have key : ∀ s v c' n, s ≤ 1 → Has N g (put col k c) s v c' k → Has N g (put col k c) s v c' n → n = k := by
    intro s v c' n hs hk hn
    have e1 : put col k c k = some c := by unfold put; rw [if_pos rfl]
    have ck := hk.2.2
    rw [e1] at ck
    have ec := Option.some.inj ck
    subst ec
    by_cases z : n = k
    · exact z
    · exfalso
      have cn := hn.2.2
      unfold put at cn
      rw [if_neg z] at cn
      have hv := hk.2.1
      have hs' : s = 0 ∨ s = 1 := by omega
      rcases hs' with e | e
      · subst e
        exact h0 n ⟨hn.1, by rw [hv]; exact hn.2.1, cn⟩
      · subst e
        exact h1 n ⟨hn.1, by rw [hv]; exact hn.2.1, cn⟩
  intro s v c' n m hs hn hm
  by_cases zn : n = k
  · subst zn
    exact (key s v c' m hs hn hm).symm
  · by_cases zm : m = k
    · subst zm
      exact key s v c' n hs hm hn
    · have cn := hn.2.2
      have cm := hm.2.2
      unfold put at cn cm
      rw [if_neg zn] at cn
      rw [if_neg zm] at cm
      exact hp s v c' n m hs ⟨hn.1, hn.2.1, cn⟩ ⟨hm.1, hm.2.1, cm⟩
/-- the calls that have the gate v on the side s -/
def deg (N : Nat) (g : Nat → Nat → Nat) (s v : Nat) : Nat := ((List.range N).filter fun n => g s n == v).length
theorem length_le_of_sub : ∀ (l l' : List Nat), l.Nodup → (∀ x ∈ l, x ∈ l') → l.length ≤ l'.length := by
  intro l
  induction l with
  | nil => intro l' _ _; simp
  | cons a t ih =>
    intro l' hn h
    have hn' := List.nodup_cons.mp hn
    have ha := h a List.mem_cons_self
    have h1 := ih (l'.erase a) hn'.2 (fun x hx => (List.mem_erase_of_ne (fun z => hn'.1 (by rw [← z]; exact hx))).mpr (h x (List.mem_cons_of_mem _ hx)))
    rw [List.length_erase_of_mem ha] at h1
    have : 0 < l'.length := List.length_pos_of_mem ha
    simp only [List.length_cons]
    omega
theorem free_colour {N slots : Nat} {g : Nat → Nat → Nat} {col : Nat → Option Nat} {s k : Nat} (hk : k < N) (hc : col k = none) (hd : deg N g s (g s k) ≤ slots) :
    ∃ c, c < slots ∧ ∀ n, ¬ Has N g col s (g s k) c n := by
  apply Classical.byContradiction
  intro hno
  have hall : ∀ c, c < slots → ∃ n, Has N g col s (g s k) c n := fun c hc => by
    apply Classical.byContradiction
    intro h
    exact hno ⟨c, hc, fun n hn => h ⟨n, hn⟩⟩
  have hch : ∃ f : Nat → Nat, ∀ c, c < slots → Has N g col s (g s k) c (f c) := by
    refine ⟨fun c => if h : c < slots then Classical.choose (hall c h) else 0, fun c h => ?_⟩
    simp only [h, dif_pos]
    exact Classical.choose_spec (hall c h)
  obtain ⟨f, hf⟩ := hch
  have hnd : ((List.range slots).map f).Nodup := by
    unfold List.Nodup
    rw [List.pairwise_map]
    refine List.Pairwise.imp_of_mem ?_ (List.pairwise_lt_range (n := slots))
    intro a b ha hb hab e
    have h1 := (hf a (List.mem_range.mp ha)).2.2
    have h2 := (hf b (List.mem_range.mp hb)).2.2
    rw [e, h2] at h1
    have := Option.some.inj h1
    omega
  have hk2 : k ∉ (List.range slots).map f := fun hm => by
    obtain ⟨c, hc1, e⟩ := List.mem_map.mp hm
    have h1 := (hf c (List.mem_range.mp hc1)).2.2
    rw [e, hc] at h1
    cases h1
  have hl := length_le_of_sub (k :: (List.range slots).map f) ((List.range N).filter fun n => g s n == g s k) (List.nodup_cons.mpr ⟨hk2, hnd⟩) (fun x hx => by
    rcases List.mem_cons.mp hx with e | hx
    · subst e
      simp [hk]
    · obtain ⟨c, hc1, rfl⟩ := List.mem_map.mp hx
      have h1 := hf c (List.mem_range.mp hc1)
      simp [h1.1, h1.2.1])
  simp only [List.length_cons, List.length_map, List.length_range] at hl
  unfold deg at hd
  omega
end KX
set_option Elab.async false
set_option linter.all false
set_option maxRecDepth 100000
set_option maxHeartbeats 4000000
/-! KX 3: attributes; Calls.at, first_free. -/
namespace KX
open PySem PySem.Spec PyProof.Rows L2 GX
def putG (f : Str) (v : V) : List (Str × V) → List (Str × V)
  | [] => [(f, v)]
  | (g, x) :: r => bif g == f then (g, v) :: r else (g, x) :: putG f v r
theorem putF_eq (f : Str) (v : V) : ∀ fs, putF f v fs = putG f v fs
  | [] => rfl
  | (g, x) :: r => by
    unfold putF putG
    by_cases h : g = f
    · subst h
      rw [if_pos rfl]
      simp
    · rw [if_neg h, putF_eq f v r]
      have : (g == f) = false := by simpa using h
      rw [this]
      rfl
theorem putF_to {f : Str} {v : V} {fs fs' : List (Str × V)} (h : putG f v fs = fs') : putF f v fs = fs' := (putF_eq f v fs).trans h
/-- a class whose instances bear these attributes -/
structure Kl (K : PySem.W.Frag) (C : Addr) (as : List Str) : Prop where
  cl : Cls K C
  na : ∀ f ∈ as, NoAttr K C f
/-! ### Calls -/
abbrev aCalls : List Str := ["calls", "left", "right", "colours"]
def fsCalls (lc lo : Addr) (left right : Nat) : List (Str × V) := [(("calls" : Str), .ref lc), (("left" : Str), .int left), (("right" : Str), .int right), (("colours" : Str), .ref lo)]
def oV : Option Nat → V
  | none => .non
  | some c => .int c
def colV (N : Nat) (col : Nat → Option Nat) : List V := (List.range N).map fun n => oV (col n)
theorem colV_len (N : Nat) (col : Nat → Option Nat) : (colV N col).length = N := by simp [colV]
theorem colV_at {N : Nat} {col : Nat → Option Nat} {n : Nat} (h : n < N) : (colV N col)[n]? = some (oV (col n)) := by simp [colV, h]
structure CallsAt (H : Hp) (C p lc lo : Addr) (ts : List Addr) (N left right : Nat) (g : Nat → Nat → Nat) (col : Nat → Option Nat) : Prop where
  ob : ∃ dx, H p = some (.ins C dx (fsCalls lc lo left right))
  cl : H lc = some (.lst (ts.map V.ref))
  co : H lo = some (.lst (colV N col))
  tl : ts.length = N
  tp : ∀ n b, ts[n]? = some b → H b = some (.tup [.int (g 0 n), .int (g 1 n)])
  ne : lc ≠ lo
section
variable {T : Tb} {H H' : Hp} {C p lc lo : Addr} {ts : List Addr} {N left right : Nat} {g : Nat → Nat → Nat} {col : Nat → Option Nat}
theorem CallsAt.fr (h : CallsAt H C p lc lo ts N left right g col) (f : Fr T [] H H') : CallsAt H' C p lc lo ts N left right g col := by
  obtain ⟨⟨dx, h1⟩, h2, h3, h4, h5, h6⟩ := h
  exact ⟨⟨dx, f.ins h1⟩, f.lst h2, f.lst h3, h4, fun n b e => f.tup _ _ (h5 n b e), h6⟩
end
def spAt (T : Tb) (C : Addr) : Sp := fun vs H Q _ => ∃ (p lc lo : Addr) (ts : List Addr) (N left right : Nat) (g : Nat → Nat → Nat) (col : Nat → Option Nat) (s v c : Nat), vs = [.ref p, .int s, .int v, .int c] ∧ CallsAt H C p lc lo ts N left right g col ∧ s ≤ 1 ∧
  (∀ n H', Fr T [] H H' → Has N g col s v c n → Q (.int n) H') ∧ (∀ H', Fr T [] H H' → (∀ n, ¬ Has N g col s v c n) → Q .non H')
abbrev sAt : Stmt := inClass (top 18) 2
abbrev nAt : List Str := ["self", "side", "gate", "colour", "number", "call"]
theorem scAt : FnScope nAt ["self", "side", "gate", "colour"] (defScope sAt) := ⟨rfl, rfl, rfl, by decide +kernel, rfl, by decide +kernel, by decide +kernel⟩
theorem eq_oV {o : Option Nat} {c : Nat} : scal (oV o) (.int c) = true ∧ (decide (oV o = .int c) = decide (o = some c)) := by
  cases o with
  | none => exact ⟨rfl, by simp [oV]⟩
  | some d => exact ⟨rfl, by simp [oV]; omega⟩
section
variable {P : Program} {w : World} {K : PySem.W.Frag} {mg : Str → Option Value} {base : Heap} {T : Tb}
theorem ok_at {f C : Addr} {fd : FuncData} (F : Fun K "at" "Calls.at" sAt f fd) (B : Bl mg) (KC : Kl K C aCalls) : FnOk P w K mg base CX0 1 f fd ["self", "side", "gate", "colour"] (spAt T C) := by
  have nd := scAt.nd
  refine F.ok scAt (fun vs H Q E h => ?_) (fun cdv A outer s0 H vs Q E hr h => ?_)
  · obtain ⟨p, lc, lo, ts, N, left, right, g, col, s, v, c, rfl, _⟩ := h
    rfl
  · obtain ⟨p, lc, lo, ts, N, left, right, g, col, s, v, c, rfl, CA, hs, hyes, hno⟩ := h
    refine ⟨_, pss_cons (ps_for PassesOwn.never rfl (pi_enum rfl B.enumerate (pa_cons (pe_fld (pv 0) rfl) pa_nil)) (pg_tup rfl (pgs_cons (pg_name (i := 4) nd rfl (Or.inl rfl)) (pgs_cons (pg_name (i := 5) nd rfl (Or.inl rfl)) pgs_nil)))
      (pss_one (ps_if (pt_and (pt_cmpR op_eq (pe_ix ix_tup (pv 5) (pv 1) (fun _ _ => rfl)) (pv 2) rfl) (pt_cmpR op_eq (pe_ix ix_list (pe_fld (pv 0) rfl) (pv 4) (fun _ _ => rfl)) (pv 3) rfl)) (pss_one (ps_ret (pv 4))) pss_nil)))
      (pss_one (ps_ret pe_non)), ?_⟩
    obtain ⟨dx, h1⟩ := CA.ob
    have hl : (ts.map V.ref).length = N := by rw [List.length_map]; exact CA.tl
    refine ⟨.ref p, rfl, p, C, dx, _, _, rfl, h1, KC.cl, KC.na _ (by simp), rfl, lc, _, rfl, SqL.of CA.cl, ?_⟩
    refine for_sq (sq_enum (xs := ts.map V.ref)) (fun i σ H' => ∃ x y, σ = [some (.ref p), some (.int s), some (.int v), some (.int c), x, y] ∧ Fr T [] H H' ∧ ∀ m, m < i → ¬ Has N g col s v c m) ⟨none, none, rfl, Fr.refl _ _ _, fun m hm => by omega⟩ (fun i σ H' _ ⟨_, _, _, fr, _⟩ => SqL.of (fr.lst CA.cl)) ?_ ?_
    · rintro i x σ H1 H1' hi ⟨x1, y1, rfl, fr, hm⟩ ⟨t, y, rfl, ht, rfl, hy⟩
      obtain ⟨b, hb, rfl⟩ := getRef hy
      have hiN : i < N := by rw [← hl]; exact hi
      have fr1 : Fr T [] H (upd H1 t (.tup [.int (i : Nat), .ref b])) := fr.andNew ht
      have CA1 := CA.fr fr1
      obtain ⟨dx1, h11⟩ := CA1.ob
      refine ⟨t, _, rfl, SqT.of upd_same, rfl, _, _, rfl, _, _, rfl, rfl, ?_⟩
      -- the test
      have hcall := CA1.tp i b hb
      have hat : atI [V.int (g 0 i), V.int (g 1 i)] (s : Int) = some (.int (g s i)) := by
        have : s = 0 ∨ s = 1 := by omega
        rcases this with e | e <;> (subst e; rfl)
      refine ⟨.ref b, rfl, _, rfl, b, _, _, _, rfl, rfl, SqT.of hcall, hat, _, rfl, rfl, _, rfl, ?_⟩
      by_cases e1 : g s i = v
      · rw [show decide (V.int ((g s i : Nat) : Int) = V.int ((v : Nat) : Int)) = true by simp [e1]]
        refine ⟨.ref p, rfl, p, C, dx1, _, _, rfl, h11, KC.cl, KC.na _ (by simp), rfl, _, rfl, lo, _, _, _, rfl, rfl, SqL.of CA1.co, at_of (j := i) rfl (colV_at hiN), _, rfl, eq_oV.1, _, rfl, ?_⟩
        rw [eq_oV.2]
        by_cases e2 : col i = some c
        · rw [decide_eq_true e2]
          exact ⟨_, rfl, hyes i _ fr1 ⟨hiN, e1, e2⟩⟩
        · rw [decide_eq_false e2]
          exact ⟨_, _, rfl, fr1, fun m hm' h => by
            rcases Nat.lt_succ_iff_lt_or_eq.mp hm' with z | z
            · exact hm m z h
            · rw [z] at h; exact e2 h.2.2⟩
      · rw [show decide (V.int ((g s i : Nat) : Int) = V.int ((v : Nat) : Int)) = false by simp; omega]
        exact ⟨_, _, rfl, fr1, fun m hm' h => by
            rcases Nat.lt_succ_iff_lt_or_eq.mp hm' with z | z
            · exact hm m z h
            · rw [z] at h; exact e1 h.2.1⟩
    · rintro σ H1 ⟨x1, y1, rfl, fr, hm⟩
      exact hno H1 fr fun n hn => hm n (by rw [hl]; exact hn.1) hn
end
end KX
set_option Elab.async false
set_option linter.all false
set_option maxRecDepth 100000
set_option maxHeartbeats 4000000
/-! KX 4: Calls.first_free. -/
namespace KX
open PySem PySem.Spec PyProof.Rows L2 GX
theorem eqv_nil (ds : List PyData) : PyData.eqv (.list ds) (.list []) = ds.isEmpty := by
  cases ds with
  | nil => rfl
  | cons a t => rfl
def natV (ns : List Nat) : List V := ns.map fun (c : Nat) => V.int c
theorem dpNats {K : PySem.W.Frag} {H : Hp} : ∀ ns : List Nat, DpAll K H (natV ns) (ns.map fun (c : Nat) => PyData.int c)
  | [] => .nil
  | n :: r => .cons (.int _) (dpNats r)
theorem shapedN : ∀ ns : List Nat, SeqAt.shaped (.list (ns.map fun (c : Nat) => PyData.int c)) = true := by
  intro ns
  induction ns with
  | nil => rfl
  | cons a t ih =>
    have : SeqAt.shaped (.list (PyData.int a :: t.map fun (c : Nat) => PyData.int c)) = (SeqAt.shaped (.int a) && SeqAt.shaped (.list (t.map fun (c : Nat) => PyData.int c))) := by rfl
    rw [List.map_cons, this, ih]
    rfl
/-- x != [], x a list -/
theorem neNil {K : PySem.W.Frag} {ta : TE} {σ : L2.St} {H : Hp} {Q : VK} (h : ta σ H fun x H1 => ∃ a xs ds, x = .ref a ∧ H1 a = some (.lst xs) ∧ (∀ H2, LamX.ExtN H1 H2 → DpAll K H2 xs ds) ∧ SeqAt.shaped (.list ds) = true ∧ ∀ p, H1 p = none → Q (.bl (!ds.isEmpty)) (upd H1 p (.lst []))) (mono : ∀ {q q' : VK}, ta σ H q → (∀ v H, q v H → q' v H) → ta σ H q') :
    tOp (rNeD K) ta (tLst tNil) σ H Q := by
  refine mono h fun x H1 ⟨a, xs, ds, e, h1, h2, h3, k⟩ => ?_
  subst e
  refine ⟨by show 0 ≤ sizeLine; decide, fun p hp => ?_⟩
  refine ⟨.list ds, .list [], .lst (SqL.of (by rw [upd_ne (ne_of_none h1 hp)]; exact h1)) (h2 _ fun b o hb _ => by rw [upd_ne (ne_of_none hb hp)]; exact hb), .lst (SqL.of upd_same) .nil, h3, rfl, ?_⟩
  rw [eqv_nil]
  exact k p hp
def spFF (T : Tb) (C : Addr) : Sp := fun vs H Q _ => ∃ (p lc lo : Addr) (ts : List Addr) (N left right : Nat) (g : Nat → Nat → Nat) (col : Nat → Option Nat) (s v many : Nat), vs = [.ref p, .int s, .int v, .int many] ∧ CallsAt H C p lc lo ts N left right g col ∧ s ≤ 1 ∧ many ≤ 1000 ∧
  (∃ c, c < many ∧ ∀ n, ¬ Has N g col s v c n) ∧ ∀ c H', Fr T [] H H' → c < many → (∀ n, ¬ Has N g col s v c n) → Q (.int c) H'
abbrev sFF : Stmt := inClass (top 18) 3
abbrev nFF : List Str := ["self", "side", "gate", "many", "good", "colour"]
theorem scFF : FnScope nFF ["self", "side", "gate", "many"] (defScope sFF) := ⟨rfl, rfl, rfl, by decide +kernel, rfl, by decide +kernel, by decide +kernel⟩
section
variable {P : Program} {w : World} {K : PySem.W.Frag} {mg : Str → Option Value} {base : Heap} {T : Tb}
theorem ok_ff {f fA C : Addr} {fd fdA : FuncData} (F : Fun K "first_free" "Calls.first_free" sFF f fd) (B : Bl mg) (KC : Kl K C aCalls) (GA : FnOk P w K mg base CX0 1 fA fdA ["self", "side", "gate", "colour"] (spAt T C)) (bA : Binds K fdA ["self", "side", "gate", "colour"] []) (mA : Meth K C "at" fA) :
    FnOk P w K mg base CX0 2 f fd ["self", "side", "gate", "many"] (spFF T C) := by
  have nd := scFF.nd
  refine F.ok scFF (fun vs H Q E h => ?_) (fun cdv A outer s0 H vs Q E hr h => ?_)
  · obtain ⟨p, lc, lo, ts, N, left, right, g, col, s, v, many, rfl, _⟩ := h
    rfl
  · obtain ⟨p, lc, lo, ts, N, left, right, g, col, s, v, many, rfl, CA, hs, hmany, hex, k⟩ := h
    refine ⟨_, C8.pss_cut (ps_setLc (i := 4) (own := [("colour", 5)]) (g := gName 5) (tt := tTest (tOp rIsN (tMeth C "at" (spAt T C) [] E0 (tVar 0) (tCons (tVar 1) (tCons (tVar 2) (tCons (tVar 5) tNil)))) (tC .non))) (te := tVar 5) (by rfl) nd rfl rfl (sw_true rfl rfl rfl (by decide +kernel)) (pi_range1 rfl B.range (pa_cons (pv 3) pa_nil))
        (blkOk_by (N := nFF) (sc := defScope sFF) (by decide +kernel)) (fun _ _ _ _ _ => pg_name (i := 5) nd rfl (Or.inl rfl)) (fun _ _ _ _ _ => pts_one (pt_cmpR op_isN1 (pe_meth (pv 0) KC.cl mA GA hr bA .nil pass0 (pa_cons (pv 1) (pa_cons (pv 2) (pa_cons (pv 5) pa_nil)))) pe_non rfl)) (fun _ _ _ _ _ => pv 5))
      (pss_one (ps_ret (pe_ifExp (pt_cmpR (op_neD hr.units) (pv 4) (pe_lst pa_nil) rfl) (pe_ix ix_list (pv 4) pe_int (fun _ _ => rfl)) pe_non))), ?_⟩
    refine ⟨fun σ1 H1 => ∃ D good, σ1 = [some (.ref p), some (.int s), some (.int v), some (.int many), some (.ref D), none] ∧ Fr T [] H H1 ∧ H1 D = some (.lst (natV good)) ∧ (∀ c ∈ good, c < many ∧ ∀ n, ¬ Has N g col s v c n) ∧ ∀ c, c < many → (∀ n, ¬ Has N g col s v c n) → c ∈ good, ?_, ?_⟩
    · refine ⟨_, rfl, _, rfl, (by omega), (by omega), fun D hD => ?_⟩
      refine lc_sq (sq_rng (lo := 0) (n := many)) (fun i H1 => ∃ good : List Nat, Fr T [] H H1 ∧ H1 D = some (.lst (natV good)) ∧ good.length ≤ i ∧ (∀ c ∈ good, c < many ∧ ∀ n, ¬ Has N g col s v c n) ∧ ∀ c, c < i → (∀ n, ¬ Has N g col s v c n) → c ∈ good) ⟨[], Fr.new hD, upd_same, Nat.zero_le _, fun c hc => by (cases hc), fun c hc => by omega⟩ (fun _ _ _ _ => trivial) ?_ ?_
      · rintro i x H1 H1' hi ⟨good, fr, hDg, hl, hg, hall⟩ ⟨rfl, rfl⟩
        have CA1 := CA.fr fr
        obtain ⟨dx, h1⟩ := CA1.ob
        refine ⟨rfl, .ref p, rfl, p, dx, _, rfl, h1, rfl, _, rfl, _, rfl, _, rfl, ?_⟩
        refine ⟨p, lc, lo, ts, N, left, right, g, col, s, v, i, by simp, CA1, hs, fun n H2 fr2 hn => ?_, fun H2 fr2 hno => ?_⟩
        · refine ⟨rfl, _, rfl, ?_⟩
          exact ⟨good, fr.trans fr2, fr2.lst hDg, by omega, hg, fun c hc hf => by
            rcases Nat.lt_succ_iff_lt_or_eq.mp hc with z | z
            · exact hall c z hf
            · rw [z] at hf; exact absurd hn (hf n)⟩
        · refine ⟨rfl, true, rfl, ?_⟩
          refine ⟨.int (0 + (i : Nat)), rfl, natV good, fr2.lst hDg, ?_, good ++ [i], ?_, ?_, by simp; omega, fun c hc => ?_, fun c hc hf => ?_⟩
          · rw [natV, List.length_map]; exact small1000 (by omega)
          · exact (fr.trans fr2).own hD (fr2.lst hDg) (.lst _)
          · rw [upd_same, natV, natV, List.map_append]
            simp
          · rcases List.mem_append.mp hc with z | z
            · exact hg c z
            · rw [List.mem_singleton.mp z]; exact ⟨hi, hno⟩
          · rcases Nat.lt_succ_iff_lt_or_eq.mp hc with z | z
            · exact List.mem_append_left _ (hall c z hf)
            · rw [z]; exact List.mem_append_right _ (List.mem_singleton.mpr rfl)
      · rintro H1 ⟨good, fr, hDg, _, hg, hall⟩
        exact ⟨D, good, rfl, fr, hDg, hg, hall⟩
    · rintro σ1 H1 ⟨D, good, rfl, fr, hDg, hg, hall⟩
      obtain ⟨c0, hc0, hf0⟩ := hex
      have hm := hall c0 hc0 hf0
      cases good with
      | nil => cases hm
      | cons c1 r =>
        refine neNil ⟨_, rfl, D, _, _, rfl, hDg, fun H2 _ => dpNats (c1 :: r), shapedN _, fun q hq => ?_⟩ (fun ⟨v, hv, h⟩ m => ⟨v, hv, m _ _ h⟩)
        refine ⟨true, rfl, ?_⟩
        have h2 := hg c1 List.mem_cons_self
        refine ⟨.ref D, rfl, D, natV (c1 :: r), _, _, rfl, rfl, SqL.of (by rw [upd_ne (ne_of_none hDg hq)]; exact hDg), at_of (j := 0) rfl rfl, k c1 _ (fr.andNew hq) h2.1 h2.2⟩
end
end KX
set_option Elab.async false
set_option linter.all false
set_option maxRecDepth 100000
set_option maxHeartbeats 4000000
/-! KX 5: Calls.exchange. -/
namespace KX
open PySem PySem.Spec PyProof.Rows L2 GX
theorem rI0_to {f : Int → Int → V} {i j : Int} {v : V} {H : Hp} {Q : VK} (e : f i j = v) (h : Q v H) : rI0 f (.int i) (.int j) H Q := ⟨i, j, rfl, rfl, by rw [e]; exact h⟩
theorem colV_congr {N : Nat} {c1 c2 : Nat → Option Nat} (h : ∀ n, n < N → c1 n = c2 n) : colV N c1 = colV N c2 := by
  unfold colV
  refine List.map_congr_left fun n hn => ?_
  rw [h n (List.mem_range.mp hn)]
theorem colV_set {N n : Nat} {col : Nat → Option Nat} {o : Option Nat} (hn : n < N) : (colV N col).set n (oV o) = colV N (fun k => if k = n then o else col k) := by
  apply List.ext_getElem?
  intro i
  by_cases hi : i < N
  · rw [colV_at hi]
    by_cases e : i = n
    · subst e
      rw [List.getElem?_set_self (by rw [colV_len]; exact hn)]
      simp
    · rw [List.getElem?_set_ne (Ne.symm e), colV_at hi, if_neg e]
  · rw [List.getElem?_eq_none (by rw [List.length_set, colV_len]; omega), List.getElem?_eq_none (by rw [colV_len]; omega)]
def spEx (T : Tb) (C : Addr) : Sp := fun vs H Q _ => ∃ (p lc lo : Addr) (ts : List Addr) (N left right : Nat) (g : Nat → Nat → Nat) (col : Nat → Option Nat) (start here other : Nat), vs = [.ref p, .int start, .int here, .int other] ∧ CallsAt H C p lc lo ts N left right g col ∧ N ≤ 1000 ∧
  Proper N g col ∧ here ≠ other ∧ (∀ n, ¬ Has N g col 1 start other n) ∧
  ∀ v L f H', Fr T [lo] H H' → Chain N g col start here other L f → (∀ n, ¬ Has N g col (side L) (gt g start f L) (cc here other L) n) → CallsAt H' C p lc lo ts N left right g (swap col here other L f) → Q v H'
abbrev sEx : Stmt := inClass (top 18) 4
abbrev nEx : List Str := ["self", "start", "here", "other", "side", "gate", "colour", "found", "number"]
theorem scEx : FnScope nEx ["self", "start", "here", "other"] (defScope sEx) := ⟨rfl, rfl, rfl, by decide +kernel, rfl, by decide +kernel, by decide +kernel⟩
section
variable {P : Program} {w : World} {K : PySem.W.Frag} {mg : Str → Option Value} {base : Heap} {T : Tb}
theorem ok_ex {f fA C : Addr} {fd fdA : FuncData} (F : Fun K "exchange" "Calls.exchange" sEx f fd) (B : Bl mg) (KC : Kl K C aCalls) (GA : FnOk P w K mg base CX0 1 fA fdA ["self", "side", "gate", "colour"] (spAt T C)) (bA : Binds K fdA ["self", "side", "gate", "colour"] []) (mA : Meth K C "at" fA) :
    FnOk P w K mg base CX0 2 f fd ["self", "start", "here", "other"] (spEx T C) := by
  have nd := scEx.nd
  refine F.ok scEx (fun vs H Q E h => ?_) (fun cdv A outer s0 H vs Q E hr h => ?_)
  · obtain ⟨p, lc, lo, ts, N, left, right, g, col, start, here, other, rfl, _⟩ := h
    rfl
  · obtain ⟨p, lc, lo, ts, N, left, right, g, col, start, here, other, rfl, CA, hN, hp, hne, hfree, k⟩ := h
    refine ⟨_, C8.pss_cut (ps_asg (pe_tup (pa_cons pe_int (pa_cons (pv 1) (pa_cons (pv 2) (pa_cons (pe_lst pa_nil) pa_nil))))) (pg_tup rfl (pgs_cons (pg_name (i := 4) nd rfl (Or.inl rfl)) (pgs_cons (pg_name (i := 5) nd rfl (Or.inl rfl)) (pgs_cons (pg_name (i := 6) nd rfl (Or.inl rfl)) (pgs_cons (pg_name (i := 7) nd rfl (Or.inl rfl)) pgs_nil))))))
      (C8.pss_cut (ps_set (i := 8) nd rfl (Or.inl rfl) (pe_meth (pv 0) KC.cl mA GA hr bA .nil pass0 (pa_cons (pv 4) (pa_cons (pv 5) (pa_cons (pv 6) pa_nil)))))
      (C8.pss_cut (ps_while PassesOwn.never (pt_cmpR op_notN1 (pv 8) pe_non rfl)
        (pss_cons (ps_expr (pe_bm PySem.F.plainAttrs_list PySem.F.slot_list_append PySem.F.type_list_append mt_append (pv 7) (pa_cons (pv 8) pa_nil)))
        (pss_cons (ps_set (i := 4) nd rfl (Or.inl rfl) (pe_op op_sub pe_int (pv 4)))
        (pss_cons (ps_set (i := 5) nd rfl (Or.inl rfl) (pe_ix ix_tup (pe_ix ix_list (pe_fld (pv 0) rfl) (pv 8) (fun _ _ => rfl)) (pv 4) (fun _ _ => rfl)))
        (pss_cons (ps_set (i := 6) nd rfl (Or.inl rfl) (pe_ifExp (pt_cmpR op_eq (pv 6) (pv 2) rfl) (pv 3) (pv 2)))
        (pss_one (ps_set (i := 8) nd rfl (Or.inl rfl) (pe_meth (pv 0) KC.cl mA GA hr bA .nil pass0 (pa_cons (pv 4) (pa_cons (pv 5) (pa_cons (pv 6) pa_nil)))))))))))
      (C8.pss_cut (ps_for PassesOwn.never rfl (pi_list (pv 7)) (pg_name (i := 8) nd rfl (Or.inl rfl)) (pss_one (ps_asg (pe_ifExp (pt_cmpR op_eq (pe_ix ix_list (pe_fld (pv 0) rfl) (pv 8) (fun _ _ => rfl)) (pv 2) rfl) (pv 3) (pv 2)) (pg_sub (pe_fld (pv 0) rfl) (pv 8) set_list))))
      (pss_one (ps_ret (pe_callTy call_tupOf (by rfl) B.tuple boot_tuple (pa_cons (pv 7) pa_nil))))))), ?_⟩
    obtain ⟨dx, h1⟩ := CA.ob
    have nap : ("at" : Str) ≠ "calls" := by decide +kernel
    -- the four names
    refine ⟨fun σ1 H1 => ∃ D, σ1 = [some (.ref p), some (.int start), some (.int here), some (.int other), some (.int (1 : Nat)), some (.int start), some (.int here), some (.ref D), none] ∧ Fr T [] H H1 ∧ H D = none ∧ H1 D = some (.lst []), ?_, ?_⟩
    · refine ⟨_, rfl, _, rfl, (by show 0 ≤ sizeLine; decide), fun D hD => ?_⟩
      refine ⟨(by show 4 ≤ sizeLine; decide), fun q hq => ?_⟩
      refine ⟨q, _, rfl, SqT.of upd_same, rfl, _, _, rfl, _, _, rfl, _, _, rfl, _, _, rfl, rfl, ?_⟩
      have hq0 : H q = none := (Fr.new (T := T) (M := []) (o := HO.lst []) hD).dom _ hq
      exact ⟨D, rfl, (Fr.new hD).andNew hq, hD, by rw [upd_ne (ne_of_none upd_same hq), upd_same]⟩
    rintro σ1 H1 ⟨D, rfl, fr1, nD, hD⟩
    have CA1 := CA.fr fr1
    obtain ⟨dx1, h11⟩ := CA1.ob
    -- the first look
    let Nx : Nat → (Nat → Nat) → Option Nat → Prop := fun L f o => match o with
      | some n => Has N g col (side L) (gt g start f L) (cc here other L) n
      | none => ∀ n, ¬ Has N g col (side L) (gt g start f L) (cc here other L) n
    let Iv : L2.St → Hp → Prop := fun σ H' => ∃ (L : Nat) (f : Nat → Nat) (o : Option Nat), σ = [some (.ref p), some (.int start), some (.int here), some (.int other), some (.int (side L : Nat)), some (.int (gt g start f L : Nat)), some (.int (cc here other L : Nat)), some (.ref D), some (oV o)] ∧
      Fr T [] H H' ∧ H' D = some (.lst (natV ((List.range L).map f))) ∧ Chain N g col start here other L f ∧ Nx L f o
    refine ⟨Iv, ?_, ?_⟩
    · refine ⟨.ref p, rfl, p, dx1, _, rfl, h11, rfl, _, rfl, _, rfl, _, rfl, ?_⟩
      refine ⟨p, lc, lo, ts, N, left, right, g, col, 1, start, here, rfl, CA1, by omega, fun n H2 fr2 hn => ?_, fun H2 fr2 hno => ?_⟩
      · exact ⟨0, id, some n, rfl, fr1.trans fr2, fr2.lst hD, (fun k hk => by omega), hn⟩
      · exact ⟨0, id, none, rfl, fr1.trans fr2, fr2.lst hD, (fun k hk => by omega), hno⟩
    rintro σ2 H2 iv2
    -- the while loop
    refine ⟨fun σ H' => ∃ (L : Nat) (f : Nat → Nat), σ = [some (.ref p), some (.int start), some (.int here), some (.int other), some (.int (side L : Nat)), some (.int (gt g start f L : Nat)), some (.int (cc here other L : Nat)), some (.ref D), some .non] ∧
      Fr T [] H H' ∧ H' D = some (.lst (natV ((List.range L).map f))) ∧ Chain N g col start here other L f ∧ (∀ n, ¬ Has N g col (side L) (gt g start f L) (cc here other L) n), ?_, ?_⟩
    · let W : Nat → L2.St → Hp → Prop := fun m σ H' => ∃ (L : Nat) (f : Nat → Nat) (o : Option Nat), m = N - L ∧ σ = [some (.ref p), some (.int start), some (.int here), some (.int other), some (.int (side L : Nat)), some (.int (gt g start f L : Nat)), some (.int (cc here other L : Nat)), some (.ref D), some (oV o)] ∧
        Fr T [] H H' ∧ H' D = some (.lst (natV ((List.range L).map f))) ∧ Chain N g col start here other L f ∧ Nx L f o
      obtain ⟨L0, f0, o0, e0, r0⟩ := iv2
      refine ⟨W, ⟨_, L0, f0, o0, rfl, e0, r0⟩, ?_⟩
      rintro m σ3 H3 ⟨L, f, o, rfl, rfl, fr3, hD3, ch, nx⟩
      have CA3 := CA.fr fr3
      obtain ⟨dx3, h13⟩ := CA3.ob
      cases o with
      | none =>
        refine ⟨_, rfl, rfl, false, rfl, ?_⟩
        exact ⟨L, f, rfl, fr3, hD3, ch, nx⟩
      | some n =>
        refine ⟨_, rfl, rfl, true, rfl, ?_⟩
        have nx' : Has N g col (side L) (gt g start f L) (cc here other L) n := nx
        let f' : Nat → Nat := fun k => if k = L then n else f k
        have fe : ∀ k, k < L → f' k = f k := fun k hk => by show (if k = L then n else f k) = f k; rw [if_neg (by omega)]
        have fL : f' L = n := by show (if L = L then n else f L) = n; rw [if_pos rfl]
        have gte : ∀ k, k ≤ L → gt g start f' k = gt g start f k := fun k hk => by
          unfold gt
          by_cases z : k = 0
          · rw [if_pos z, if_pos z]
          · rw [if_neg z, if_neg z, fe (k - 1) (by omega)]
        have ch' : Chain N g col start here other (L + 1) f' := fun k hk => by
          rcases Nat.lt_succ_iff_lt_or_eq.mp hk with z | z
          · rw [gte k (by omega), fe k z]; exact ch k z
          · subst z; rw [gte k (Nat.le_refl _), fL]; exact nx'
        have hle := chain_short hp hne hfree ch'
        have hch := chain_short hp hne hfree ch
        have gtn : gt g start f' (L + 1) = g (side (L + 1)) n := by unfold gt; rw [if_neg (by omega), Nat.add_sub_cancel, fL]
        have hl3 : ((List.range (L + 1)).map f') = (List.range L).map f ++ [n] := by
          rw [List.range_succ, List.map_append, List.map_singleton, fL]
          congr 1
          exact List.map_congr_left fun k hk => fe k (List.mem_range.mp hk)
        refine ⟨fun σ' H' => ∃ o', σ' = [some (.ref p), some (.int start), some (.int here), some (.int other), some (.int (side (L + 1) : Nat)), some (.int (gt g start f' (L + 1) : Nat)), some (.int (cc here other (L + 1) : Nat)), some (.ref D), some (oV o')] ∧
          Fr T [] H H' ∧ H' D = some (.lst (natV ((List.range (L + 1)).map f'))) ∧ Nx (L + 1) f' o', fun σ' H' ⟨o', e1, e2, e3, e4⟩ => ⟨N - (L + 1), by omega, L + 1, f', o', rfl, e1, e2, e3, ch', e4⟩, ?_⟩
        -- found.append(number)
        refine ⟨_, rfl, .inl ⟨rfl, _, SqL.of hD3⟩, _, rfl, D, _, _, rfl, rfl, hD3, by rw [natV, List.length_map, List.length_map, List.length_range]; exact small1000 (by omega), ?_⟩
        have fr4 : Fr T [] H (upd H3 D (.lst (natV ((List.range L).map f) ++ [.int n]))) := fr3.own nD hD3 (.lst _)
        have CA4 := CA.fr fr4
        obtain ⟨dx4, h14⟩ := CA4.ob
        -- side = 1 - side; gate = self.calls[number][side]
        have es : (1 : Int) - (side L : Nat) = (side (L + 1) : Nat) := by rcases side_eo L with ⟨a, b⟩ | ⟨a, b⟩ <;> rw [a, b] <;> rfl
        refine ⟨_, rfl, rI0_to (congrArg V.int es) ?_⟩
        obtain ⟨b, hb⟩ : ∃ b, ts[n]? = some b := ⟨_, List.getElem?_eq_getElem (by rw [CA.tl]; exact nx'.1)⟩
        have hb2 : (ts.map V.ref)[n]? = some (.ref b) := by rw [List.getElem?_map, hb]; rfl
        have hcall := CA4.tp n b hb
        have hat : atI [V.int (g 0 n), V.int (g 1 n)] ((side (L + 1) : Nat) : Int) = some (.int (g (side (L + 1)) n)) := by
          rcases side_eo L with ⟨a, b⟩ | ⟨a, b⟩ <;> rw [a] <;> rfl
        refine ⟨.ref p, rfl, p, C, dx4, _, _, rfl, h14, KC.cl, KC.na _ (by simp), rfl, _, rfl, lc, _, _, _, rfl, rfl, SqL.of CA4.cl, at_of (j := n) rfl hb2, _, rfl, b, _, _, _, rfl, rfl, SqT.of hcall, hat, ?_⟩
        -- colour = other if colour == here else here
        have hcol : ∀ Q : VK, Q (.int (cc here other (L + 1) : Nat)) (upd H3 D (.lst (natV ((List.range L).map f) ++ [.int n]))) → (tIf (tTest (tOp rEq (tVar 6) (tVar 2))) (tVar 3) (tVar 2)) [some (.ref p), some (.int start), some (.int here), some (.int other), some (.int (side (L + 1) : Nat)), some (.int (g (side (L + 1)) n : Nat)), some (.int (cc here other L : Nat)), some (.ref D), some (.int n)] (upd H3 D (.lst (natV ((List.range L).map f) ++ [.int n]))) Q := by
          intro Q hQ
          refine ⟨_, rfl, _, rfl, rfl, _, rfl, ?_⟩
          have e1 : decide (V.int ((cc here other L : Nat) : Int) = V.int ((here : Nat) : Int)) = decide (L % 2 = 0) := by
            rw [decide_eq_decide]
            constructor
            · intro z
              have z' : ((cc here other L : Nat) : Int) = here := by injection z
              unfold cc at z'
              by_cases e : L % 2 = 0
              · exact e
              · rw [if_neg e] at z'; omega
            · intro z
              unfold cc
              rw [if_pos z]
          rw [e1]
          by_cases e : L % 2 = 0
          · rw [decide_eq_true e]
            refine ⟨_, rfl, ?_⟩
            have : cc here other (L + 1) = other := by unfold cc; rw [if_neg (by omega)]
            rw [this] at hQ
            exact hQ
          · rw [decide_eq_false e]
            refine ⟨_, rfl, ?_⟩
            have : cc here other (L + 1) = here := by unfold cc; rw [if_pos (by omega)]
            rw [this] at hQ
            exact hQ
        refine hcol _ ?_
        refine ⟨.ref p, rfl, p, dx4, _, rfl, h14, rfl, _, rfl, _, rfl, _, rfl, ?_⟩
        refine ⟨p, lc, lo, ts, N, left, right, g, col, side (L + 1), g (side (L + 1)) n, cc here other (L + 1), rfl, CA4, side_le _, fun n2 H5 fr5 hn2 => ?_, fun H5 fr5 hno => ?_⟩
        · refine ⟨some n2, by rw [gtn]; rfl, fr4.trans fr5, ?_, ?_⟩
          · rw [hl3, natV, List.map_append]
            exact fr5.lst upd_same
          · show Has N g col (side (L + 1)) (gt g start f' (L + 1)) (cc here other (L + 1)) n2
            rw [gtn]; exact hn2
        · refine ⟨none, by rw [gtn]; rfl, fr4.trans fr5, ?_, ?_⟩
          · rw [hl3, natV, List.map_append]
            exact fr5.lst upd_same
          · show ∀ n2, ¬ Has N g col (side (L + 1)) (gt g start f' (L + 1)) (cc here other (L + 1)) n2
            rw [gtn]; exact hno
    · rintro σ3 H3 ⟨L, f, rfl, fr3, hD3, ch, hend⟩
      have hinj := chain_inj hp hne hfree ch
      have hch := chain_short hp hne hfree ch
      -- the colours are exchanged
      have hlen : (natV ((List.range L).map f)).length = L := by simp [natV]
      refine ⟨fun σ H' => σ[7]? = some (some (.ref D)) ∧ Fr T [lo] H H' ∧ H' D = some (.lst (natV ((List.range L).map f))) ∧ CallsAt H' C p lc lo ts N left right g (swap col here other L f), ?_, ?_⟩
      · refine ⟨_, rfl, D, rfl, ⟨_, SqL.of hD3⟩, ?_⟩
        refine for_sq (sq_list (xs := natV ((List.range L).map f))) (fun i σ H' => ∃ x, σ = [some (.ref p), some (.int start), some (.int here), some (.int other), some (.int (side L : Nat)), some (.int (gt g start f L : Nat)), some (.int (cc here other L : Nat)), some (.ref D), x] ∧ Fr T [lo] H H' ∧ H' D = some (.lst (natV ((List.range L).map f))) ∧ CallsAt H' C p lc lo ts N left right g (swap col here other i f)) ⟨_, rfl, fr3.up, hD3, ?_⟩ (fun i σ H' _ ⟨_, _, _, h, _⟩ => SqL.of h) ?_ ?_
        · have e : swap col here other 0 f = col := by
            funext n
            unfold swap
            rw [if_neg]
            rintro ⟨k, hk, _⟩
            omega
          rw [e]
          exact CA.fr fr3
        · rintro i x σ H4 H4' hi ⟨y, rfl, fr4, hD4, CA4⟩ ⟨hx, rfl⟩
          have hiL : i < L := by rw [← hlen]; exact hi
          have ex : x = .int (f i : Nat) := by
            simp [natV, hiL] at hx
            exact hx.symm
          subst ex
          obtain ⟨dx4, h14⟩ := CA4.ob
          have hfi := ch i hiL
          have nD4 : lo ≠ D := fun z => by
            have := CA.co
            rw [z, nD] at this
            cases this
          have cur : swap col here other i f (f i) = some (cc here other i) := by
            rw [swap_out, hfi.2.2]
            rintro ⟨k, hk, e⟩
            exact hinj k i hk hiL e
          have hval : ∀ Q : VK, Q (oV (swap col here other (i + 1) f (f i))) H4' → (tIf (tTest (tOp rEq (tOp (rIxL K) (tFld K (tVar 0) "colours") (tVar 8)) (tVar 2))) (tVar 3) (tVar 2)) [some (.ref p), some (.int start), some (.int here), some (.int other), some (.int (side L : Nat)), some (.int (gt g start f L : Nat)), some (.int (cc here other L : Nat)), some (.ref D), some (.int (f i : Nat))] H4' Q := by
            intro Q hQ
            have ch1 : Chain N g col start here other (i + 1) f := fun k hk => ch k (by omega)
            rw [swap_in ch1 hne (Nat.lt_succ_self i)] at hQ
            refine ⟨.ref p, rfl, p, C, dx4, _, _, rfl, h14, KC.cl, KC.na _ (by simp), rfl, _, rfl, lo, _, _, _, rfl, rfl, SqL.of CA4.co, at_of (j := f i) rfl (colV_at hfi.1), _, rfl, eq_oV.1, _, rfl, ?_⟩
            rw [eq_oV.2, cur]
            by_cases e : i % 2 = 0
            · have e1 : cc here other i = here := by unfold cc; rw [if_pos e]
              have e2 : cc here other (i + 1) = other := by unfold cc; rw [if_neg (by omega)]
              rw [e1, decide_eq_true rfl]
              rw [e2] at hQ
              exact ⟨_, rfl, hQ⟩
            · have e1 : cc here other i = other := by unfold cc; rw [if_neg e]
              have e2 : cc here other (i + 1) = here := by unfold cc; rw [if_pos (by omega)]
              rw [e1, decide_eq_false (fun z => hne (Option.some.inj z).symm)]
              rw [e2] at hQ
              exact ⟨_, rfl, hQ⟩
          refine hval _ ?_
          refine ⟨.ref p, rfl, p, C, dx4, _, _, rfl, h14, KC.cl, KC.na _ (by simp), rfl, _, rfl, lo, _, _, f i, rfl, rfl, CA4.co, ?_, ?_⟩
          · unfold ixN
            rw [if_pos (by omega), if_pos (by rw [colV_len]; have := hfi.1; omega)]
            simp
          · rw [colV_set hfi.1]
            have eC : colV N (fun k => if k = f i then swap col here other (i + 1) f (f i) else swap col here other i f k) = colV N (swap col here other (i + 1) f) := by
              refine colV_congr fun n hn => ?_
              by_cases e : n = f i
              · rw [if_pos e, e]
              · rw [if_neg e]
                unfold swap
                by_cases hk : ∃ k, k < i ∧ f k = n
                · obtain ⟨k, hk1, hk2⟩ := hk
                  rw [if_pos (show ∃ k, k < i ∧ f k = n from ⟨k, hk1, hk2⟩), if_pos (show ∃ k, k < i + 1 ∧ f k = n from ⟨k, by omega, hk2⟩)]
                · rw [if_neg hk, if_neg]
                  rintro ⟨k, hk1, hk2⟩
                  rcases Nat.lt_succ_iff_lt_or_eq.mp hk1 with z | z
                  · exact hk ⟨k, z, hk2⟩
                  · rw [z] at hk2; exact e hk2.symm
            rw [eC]
            have nlo : ∀ b u, H4' b = some u → (∀ xs, u ≠ .lst xs) → b ≠ lo := fun b u h n z => by
              rw [z, CA4.co] at h
              exact n _ (Option.some.inj h).symm
            refine ⟨_, rfl, fr4.andSet (List.mem_singleton.mpr rfl) CA4.co (.lst _), by rw [upd_ne nD4.symm]; exact hD4, ⟨dx4, ?_⟩, ?_, upd_same, CA4.tl, fun n b hb => ?_, CA4.ne⟩
            · rw [upd_ne (nlo _ _ h14 fun xs z => by cases z)]; exact h14
            · rw [upd_ne CA4.ne]; exact CA4.cl
            · have := CA4.tp n b hb
              rw [upd_ne (nlo _ _ this fun xs z => by cases z)]; exact this
        · rintro σ H4 ⟨y, rfl, fr4, hD4, CA4⟩
          rw [hlen] at CA4
          exact ⟨rfl, fr4, hD4, CA4⟩
      · rintro σ4 H4 ⟨h7, fr4, hD4, CA4⟩
        refine ⟨_, h7, D, _, rfl, .inl ⟨SqL.of hD4, fun l hl => ?_⟩⟩
        exact k _ L f _ (fr4.andNew hl) ch hend (CA4.fr (Fr.new (T := T) hl))
end
end KX
set_option Elab.async false
set_option linter.all false
set_option maxRecDepth 100000
set_option maxHeartbeats 4000000
/-! KX 6: Calls.colour. -/
namespace KX
open PySem PySem.Spec PyProof.Rows L2 GX
def spCol (T : Tb) (C : Addr) : Sp := fun vs H Q _ => ∃ (p lc lo : Addr) (ts : List Addr) (N left right : Nat) (g : Nat → Nat → Nat) (col : Nat → Option Nat) (n many : Nat), vs = [.ref p, .int n, .int many] ∧ CallsAt H C p lc lo ts N left right g col ∧ N ≤ 1000 ∧ many ≤ 1000 ∧
  Proper N g col ∧ n < N ∧ col n = none ∧ (∀ s, s ≤ 1 → deg N g s (g s n) ≤ many) ∧ (∀ m c, col m = some c → c < many) ∧
  ∀ v col' H', Fr T [lo] H H' → CallsAt H' C p lc lo ts N left right g col' → Proper N g col' → (∀ m, m ≠ n → (col' m = none ↔ col m = none)) → (∃ c, col' n = some c) → (∀ m c, col' m = some c → c < many) → Q v H'
abbrev sCol : Stmt := inClass (top 18) 5
abbrev nCol : List Str := ["self", "number", "many", "one", "other", "mine", "theirs", "moved"]
theorem scCol : FnScope nCol ["self", "number", "many"] (defScope sCol) := ⟨rfl, rfl, rfl, by decide +kernel, rfl, by decide +kernel, by decide +kernel⟩
section
variable {P : Program} {w : World} {K : PySem.W.Frag} {mg : Str → Option Value} {base : Heap} {T : Tb}
theorem ok_col {f fA fF fE C : Addr} {fd fdA fdF fdE : FuncData} (F : Fun K "colour" "Calls.colour" sCol f fd) (B : Bl mg) (KC : Kl K C aCalls) (GA : FnOk P w K mg base CX0 1 fA fdA ["self", "side", "gate", "colour"] (spAt T C)) (bA : Binds K fdA ["self", "side", "gate", "colour"] []) (mA : Meth K C "at" fA)
    (GF : FnOk P w K mg base CX0 2 fF fdF ["self", "side", "gate", "many"] (spFF T C)) (bF : Binds K fdF ["self", "side", "gate", "many"] []) (mF : Meth K C "first_free" fF)
    (GE : FnOk P w K mg base CX0 2 fE fdE ["self", "start", "here", "other"] (spEx T C)) (bE : Binds K fdE ["self", "start", "here", "other"] []) (mE : Meth K C "exchange" fE) :
    FnOk P w K mg base CX0 3 f fd ["self", "number", "many"] (spCol T C) := by
  have nd := scCol.nd
  refine F.ok scCol (fun vs H Q E h => ?_) (fun cdv A outer s0 H vs Q E hr h => ?_)
  · obtain ⟨p, lc, lo, ts, N, left, right, g, col, n, many, rfl, _⟩ := h
    rfl
  · obtain ⟨p, lc, lo, ts, N, left, right, g, col, n, many, rfl, CA, hN, hmany, hp, hn, hc, hdeg, hcl, k⟩ := h
    refine ⟨_, C8.pss_cut (ps_asg (pe_ix ix_list (pe_fld (pv 0) rfl) (pv 1) (fun _ _ => rfl)) (pg_tup rfl (pgs_cons (pg_name (i := 3) nd rfl (Or.inl rfl)) (pgs_cons (pg_name (i := 4) nd rfl (Or.inl rfl)) pgs_nil))))
      (C8.pss_cut (ps_par (i := 5) (j := 6) rfl nd rfl rfl (by decide) rfl rfl (pa_cons (pe_meth (pv 0) KC.cl mF GF hr bF .nil pass0 (pa_cons pe_int (pa_cons (pv 3) (pa_cons (pv 2) pa_nil)))) (pa_cons (pe_meth (pv 0) KC.cl mF GF hr bF .nil pass0 (pa_cons pe_int (pa_cons (pv 4) (pa_cons (pv 2) pa_nil)))) pa_nil)) rfl)
      (pss_cons (ps_if (pt_or (pt_cmpR op_isN1 (pv 5) pe_non rfl) (pt_cmpR op_isN1 (pv 6) pe_non rfl)) pss_never pss_nil)
      (pss_cons (ps_set (i := 7) nd rfl (Or.inl rfl) (pe_tup pa_nil))
      (C8.pss_cut (ps_if (pt_cmpR op_notN1 (pe_meth (pv 0) KC.cl mA GA (hr.mono (by decide)) bA .nil pass0 (pa_cons pe_int (pa_cons (pv 4) (pa_cons (pv 5) pa_nil)))) pe_non rfl) (pss_one (ps_set (i := 7) nd rfl (Or.inl rfl) (pe_meth (pv 0) KC.cl mE GE hr bE .nil pass0 (pa_cons (pv 4) (pa_cons (pv 5) (pa_cons (pv 6) pa_nil)))))) pss_nil)
      (pss_cons (ps_asg (pv 5) (pg_sub (pe_fld (pv 0) rfl) (pv 1) set_list))
      (pss_one (ps_ret (pv 7)))))))), ?_⟩
    obtain ⟨dx, h1⟩ := CA.ob
    obtain ⟨b, hb⟩ : ∃ b, ts[n]? = some b := ⟨_, List.getElem?_eq_getElem (by rw [CA.tl]; exact hn)⟩
    have hb2 : (ts.map V.ref)[n]? = some (.ref b) := by rw [List.getElem?_map, hb]; rfl
    refine ⟨fun σ1 H1 => σ1 = [some (.ref p), some (.int n), some (.int many), some (.int (g 0 n : Nat)), some (.int (g 1 n : Nat)), none, none, none] ∧ H1 = H, ?_, ?_⟩
    · exact ⟨.ref p, rfl, p, C, dx, _, _, rfl, h1, KC.cl, KC.na _ (by simp), rfl, _, rfl, lc, _, _, _, rfl, rfl, SqL.of CA.cl, at_of (j := n) rfl hb2, b, _, rfl, SqT.of (CA.tp n b hb), rfl, _, _, rfl, _, _, rfl, rfl, rfl, rfl⟩
    rintro σ1 H1 ⟨rfl, rfl⟩
    -- mine, theirs
    refine ⟨fun σ2 H2 => ∃ c d : Nat, σ2 = [some (.ref p), some (.int n), some (.int many), some (.int (g 0 n : Nat)), some (.int (g 1 n : Nat)), some (.int c), some (.int d), none] ∧ Fr T [] H1 H2 ∧ c < many ∧ d < many ∧ (∀ m, ¬ Has N g col 0 (g 0 n) c m) ∧ ∀ m, ¬ Has N g col 1 (g 1 n) d m, ?_, ?_⟩
    · refine ⟨.ref p, rfl, p, dx, _, rfl, h1, rfl, _, rfl, _, rfl, ?_⟩
      refine ⟨p, lc, lo, ts, N, left, right, g, col, 0, g 0 n, many, rfl, CA, by omega, hmany, free_colour hn hc (hdeg 0 (by omega)), fun c H2 fr2 hcm hcf => ?_⟩
      obtain ⟨dx2, h12⟩ := (CA.fr fr2).ob
      refine ⟨.ref p, rfl, p, dx2, _, rfl, h12, rfl, _, rfl, _, rfl, ?_⟩
      refine ⟨p, lc, lo, ts, N, left, right, g, col, 1, g 1 n, many, rfl, CA.fr fr2, by omega, hmany, free_colour hn hc (hdeg 1 (by omega)), fun d H3 fr3 hdm hdf => ?_⟩
      exact ⟨_, _, rfl, c, d, rfl, fr2.trans fr3, hcm, hdm, hcf, hdf⟩
    rintro σ2 H2 ⟨c, d, rfl, fr2, hcm, hdm, hcf, hdf⟩
    have CA2 := CA.fr fr2
    refine ⟨_, rfl, rfl, false, by simp, _, rfl, rfl, false, by simp, ?_⟩
    -- moved
    refine ⟨(by show 0 ≤ sizeLine; decide), fun q hq => ?_⟩
    have fr3 : Fr T [] H1 (upd H2 q (.tup [])) := fr2.andNew hq
    have CA3 := CA.fr fr3
    obtain ⟨dx3, h13⟩ := CA3.ob
    refine ⟨fun σ4 H4 => ∃ y col', σ4 = [some (.ref p), some (.int n), some (.int many), some (.int (g 0 n : Nat)), some (.int (g 1 n : Nat)), some (.int c), some (.int d), some y] ∧ Fr T [lo] H1 H4 ∧ CallsAt H4 C p lc lo ts N left right g col' ∧ Proper N g col' ∧ (∀ m, col' m = none ↔ col m = none) ∧ (∀ m e, col' m = some e → e < many) ∧ (∀ m, ¬ Has N g col' 0 (g 0 n) c m) ∧ ∀ m, ¬ Has N g col' 1 (g 1 n) c m, ?_, ?_⟩
    · refine ⟨.ref p, rfl, p, dx3, _, rfl, h13, rfl, _, rfl, _, rfl, ?_⟩
      refine ⟨p, lc, lo, ts, N, left, right, g, col, 1, g 1 n, c, rfl, CA3, by omega, fun m H4 fr4 hm => ?_, fun H4 fr4 hno => ?_⟩
      · refine ⟨rfl, true, rfl, ?_⟩
        have CA4 := CA3.fr fr4
        obtain ⟨dx4, h14⟩ := CA4.ob
        have hne : c ≠ d := fun z => by rw [z] at hm; exact hdf m hm
        refine ⟨.ref p, rfl, p, dx4, _, rfl, h14, rfl, _, rfl, _, rfl, _, rfl, ?_⟩
        refine ⟨p, lc, lo, ts, N, left, right, g, col, g 1 n, c, d, rfl, CA4, hN, hp, hne, hdf, fun v L f H5 fr5 ch hend CA5 => ?_⟩
        refine ⟨v, _, rfl, (fr3.trans fr4).up.trans fr5, CA5, swap_proper hp hne hdf ch hend, fun m => (swap_none ch m).1, fun m e he => ?_, swap_free0 hne ch hcf, swap_free1 hp hne hdf ch hend⟩
        rcases (swap_none ch m).2 e he with z | z | z
        · exact hcl m e z
        · omega
        · omega
      · refine ⟨rfl, false, rfl, ?_⟩
        exact ⟨_, col, rfl, (fr3.trans fr4).up, CA3.fr fr4, hp, fun m => Iff.rfl, hcl, hcf, hno⟩
    rintro σ4 H4 ⟨y, col', rfl, fr4, CA4, hp', hnone, hcl', hf0, hf1⟩
    obtain ⟨dx4, h14⟩ := CA4.ob
    refine ⟨_, rfl, .ref p, rfl, p, C, dx4, _, _, rfl, h14, KC.cl, KC.na _ (by simp), rfl, _, rfl, lo, _, _, n, rfl, rfl, CA4.co, ?_, ?_⟩
    · unfold ixN
      rw [if_pos (by omega), if_pos (by rw [colV_len]; omega)]
      simp
    have e1 : V.int ((c : Nat) : Int) = oV (some c) := rfl
    rw [e1, colV_set hn]
    have e2 : (fun k => if k = n then some c else col' k) = put col' n c := rfl
    rw [e2]
    have nlo : ∀ b u, H4 b = some u → (∀ xs, u ≠ .lst xs) → b ≠ lo := fun b u h n z => by
      rw [z, CA4.co] at h
      exact n _ (Option.some.inj h).symm
    refine ⟨_, rfl, ?_⟩
    refine k _ (put col' n c) _ (fr4.andSet (List.mem_singleton.mpr rfl) CA4.co (.lst _)) ⟨⟨dx4, ?_⟩, ?_, upd_same, CA4.tl, fun m b hb => ?_, CA4.ne⟩ (put_proper hp' hf0 hf1) (fun m hm => ?_) ⟨c, ?_⟩ fun m e he => ?_
    · rw [upd_ne (nlo _ _ h14 fun xs z => by cases z)]; exact h14
    · rw [upd_ne CA4.ne]; exact CA4.cl
    · have := CA4.tp m b hb
      rw [upd_ne (nlo _ _ this fun xs z => by cases z)]; exact this
    · unfold put
      rw [if_neg hm]
      exact hnone m
    · unfold put
      rw [if_pos rfl]
    · unfold put at he
      by_cases z : m = n
      · rw [if_pos z] at he
        have := Option.some.inj he
        omega
      · rw [if_neg z] at he
        exact hcl' m e he
end
end KX
set_option Elab.async false
set_option linter.all false
set_option maxRecDepth 100000
set_option maxHeartbeats 4000000
/-! KX 7: Calls made. -/
namespace KX
open PySem PySem.Spec PyProof.Rows L2 GX
theorem repFlat (n : Nat) (x : V) (f : Nat → V) (h : ∀ i, f i = x) : (List.replicate (((n : Nat) : Int)).toNat [x]).flatten = (List.range n).map f := by
  have e : (((n : Nat) : Int)).toNat = n := by omega
  rw [e]
  have e2 : (List.range n).map f = List.replicate n x := by
    apply List.ext_getElem?
    intro i
    by_cases hi : i < n
    · simp [hi, h]
    · simp [hi]
  rw [e2]
  clear e e2
  induction n with
  | zero => rfl
  | succ n ih => rw [List.replicate_succ, List.flatten_cons, ih, List.replicate_succ]; rfl
def spCI (T : Tb) (C : Addr) : Sp := fun vs H Q _ => ∃ (p dx ca : Addr) (ts : List Addr) (N left right : Nat) (g : Nat → Nat → Nat), vs = [.ref p, .ref ca, .int left, .int right] ∧ H p = some (.ins C dx []) ∧ TbOk T H ∧ H ca = some (.lst (ts.map V.ref)) ∧ ts.length = N ∧ N ≤ 1000 ∧
  (∀ n b, ts[n]? = some b → H b = some (.tup [.int (g 0 n), .int (g 1 n)])) ∧ (∀ n, n < N → g 0 n < left ∧ g 1 n < right) ∧
  ∀ lc lo H', Fr T [p] H H' → CallsAt H' C p lc lo ts N left right g (fun _ => none) → H lc = none → H lo = none → Q .non H'
abbrev sCI : Stmt := inClass (top 18) 0
abbrev nCI : List Str := ["self", "calls", "left", "right", "call", "one", "other"]
theorem scCI : FnScope nCI ["self", "calls", "left", "right"] (defScope sCI) := ⟨rfl, rfl, rfl, by decide +kernel, rfl, by decide +kernel, by decide +kernel⟩
section
variable {P : Program} {w : World} {K : PySem.W.Frag} {mg : Str → Option Value} {base : Heap} {T : Tb}
theorem ok_ci {f c C : Addr} {fd : FuncData} (F : FunC K "__init__" "Calls.__init__" sCI f fd c) (CO : CodeOf base mg c T.calls) (B : Bl mg) (KC : Kl K C aCalls) : FnOk P w K mg base CX0 2 f fd ["self", "calls", "left", "right"] (spCI T C) := by
  have nd := scCI.nd
  refine F.ok scCI (fun vs H Q E h => ?_) (fun A outer s0 H vs Q E hr h => ?_)
  · obtain ⟨p, dx, ca, ts, N, left, right, g, rfl, _⟩ := h
    rfl
  · obtain ⟨p, dx, ca, ts, N, left, right, g, rfl, hp, hT, hca, htl, hN, htp, hbd, k⟩ := h
    refine ⟨_, C8.pss_cut (ps_fld (pv 0) (pe_lc (own := [("call", 4)]) (g := gName 4) (tt := tYes) (te := tCB (rTupOf K) (tCons (tVar 4) tNil)) rfl nd (pi_list (pv 1)) (blkOk_by (N := nCI) (sc := defScope sCI) (by decide +kernel)) (fun _ _ _ _ _ => pg_name (i := 4) nd rfl (Or.inl rfl)) (fun _ _ _ _ _ => pts_nil)
        (fun _ _ _ _ _ => pe_callTy call_tupOf (by rfl) B.tuple boot_tuple (pa_cons (pv 4) pa_nil))) rfl)
      (C8.pss_cut (ps_if (pt_val (pe_anyG (av := T.streams) (d := 0) (k := 0) (own := [("one", 5), ("other", 6)]) (g := gTup K 2 (gCons (gName 5) (gCons (gName 6) gNil))) (tt := tYes) (te := fun _ => tOrV (tNotV (tChain rLeI rLtI (tC (.int 0)) (tVar 5) (tVar 2))) (tNotV (tChain rLeI rLtI (tC (.int 0)) (tVar 6) (tVar 3))))
          hr CO.bm rfl B.any nd (pi_list (pe_fld (pv 0) rfl)) (blkOk_by (N := nCI) (sc := defScope sCI) (by decide +kernel)) rfl rfl (fun _ _ _ _ _ _ _ => pg_tup rfl (pgs_cons (pg_name (i := 5) nd rfl (Or.inl rfl)) (pgs_cons (pg_name (i := 6) nd rfl (Or.inl rfl)) pgs_nil))) (fun _ _ _ _ _ _ _ _ => pts_nil)
          (fun _ _ _ _ _ _ _ _ => pe_or (pe_not (pe_chain op_le op_lt pe_int (pv 5) (pv 2))) (pe_one (pe_not (pe_chain op_le op_lt pe_int (pv 6) (pv 3))))))) pss_never pss_nil)
      (pss_cons (ps_fld (pv 0) (pv 2) rfl)
      (pss_cons (ps_fld (pv 0) (pv 3) rfl)
      (pss_one (ps_fld (pv 0) (pe_op op_rep (pe_lst (pa_cons pe_non pa_nil)) (pe_callB call_lenS (by rfl) B.len boot_len (pa_cons (pe_fld (pv 0) rfl) pa_nil))) rfl))))), ?_⟩
    have hl : (ts.map V.ref).length = N := by rw [List.length_map]; exact htl
    let σ0 : L2.St := [some (.ref p), some (.ref ca), some (.int left), some (.int right), none, none, none]
    refine ⟨fun σ1 H1 => ∃ lc, σ1 = σ0 ∧ Fr T [p] H H1 ∧ H lc = none ∧ H1 lc = some (.lst (ts.map V.ref)) ∧ H1 p = some (.ins C dx [(("calls" : Str), .ref lc)]), ?_, ?_⟩
    · refine ⟨_, rfl, ca, rfl, ⟨_, SqL.of hca⟩, fun D hD => ?_⟩
      refine lc_sq (sq_list (xs := ts.map V.ref)) (fun i H' => H' D = some (.lst ((ts.map V.ref).take i)) ∧ Fr T [] H H') ⟨by rw [List.take_zero, upd_same], Fr.new hD⟩ (fun i H' _ ⟨_, fr⟩ => SqL.of (fr.lst hca)) ?_ ?_
      · rintro i x H2 H2' hi ⟨hDs, fr⟩ ⟨hx, rfl⟩
        obtain ⟨b, hb', rfl⟩ := getRef hx
        refine ⟨rfl, .ref b, rfl, b, _, rfl, .inr ⟨SqT.of (fr.tup _ _ (htp i b hb')), ?_⟩⟩
        refine ⟨_, hDs, by rw [List.length_take]; exact small1000 (by omega), ?_, fr.own hD hDs (.lst _)⟩
        rw [upd_same, List.take_succ, hx]
        rfl
      · rintro H2 ⟨hDs, fr⟩
        have nDp : p ≠ D := ne_of_none hp hD
        refine ⟨.ref p, rfl, p, C, dx, [], rfl, fr.ins hp, KC.cl, KC.na _ (by simp), (by show 0 < 1000; decide), D, rfl, fr.up.andSet (List.mem_singleton.mpr rfl) (fr.ins hp) (.ins _ _ _), hD, ?_, upd_same⟩
        rw [upd_ne nDp.symm, hDs, List.take_of_length_le (Nat.le_refl _)]
    rintro σ1 H1 ⟨lc, rfl, fr1, nlc, hlc, hp1⟩
    have htp1 : ∀ n b, ts[n]? = some b → H1 b = some (.tup [.int (g 0 n), .int (g 1 n)]) := fun n b h => fr1.tup _ _ (htp n b h)
    refine ⟨fun σ2 H2 => σ2 = σ0 ∧ Fr T [] H1 H2, ?_, ?_⟩
    · refine ⟨.ref p, rfl, p, C, dx, _, _, rfl, hp1, KC.cl, KC.na _ (by simp), rfl, lc, rfl, ⟨_, SqL.of hlc⟩, c, T.calls, rfl, .inl CO.hd, (fr1.tb hT).calls, fun cv H2 g2 => ?_⟩
      have fr2 : Fr T [] H1 H2 := Fr.grown g2 fun t => t.n2
      refine any_sq (sq_list (xs := ts.map V.ref)) (fun _ => false) (fun _ H' => Fr T [] H1 H') fr2 (fun i H' _ p => SqL.of (p.lst hlc)) ?_ (fun i H' _ e => by cases e) fun H' _ p => ⟨false, rfl, rfl, p⟩
      rintro i x H3 H3' hi fr3 ⟨hx, rfl⟩ N1 hNT hNF
      obtain ⟨b, hb', rfl⟩ := getRef hx
      have hb := hbd i (by rw [← hl]; exact hi)
      refine ⟨b, _, rfl, SqT.of (fr3.tup _ _ (htp1 i b hb')), rfl, _, _, rfl, _, _, rfl, rfl, rfl, ?_⟩
      refine ⟨_, rfl, _, _, rfl, rfl, true, congrArg V.bl (decide_eq_true (by omega)), _, rfl, _, _, rfl, rfl, true, congrArg V.bl (decide_eq_true (by omega)), false, rfl, ?_⟩
      exact ⟨_, rfl, _, _, rfl, rfl, true, congrArg V.bl (decide_eq_true (by omega)), _, rfl, _, _, rfl, rfl, true, congrArg V.bl (decide_eq_true (by omega)), false, rfl, (fun e => by cases e), fun _ => hNF rfl _ fr3⟩
    rintro σ2 H2 ⟨rfl, fr2⟩
    have hp2 := fr2.ins hp1
    have hlc2 := fr2.lst hlc
    refine ⟨_, rfl, _, rfl, p, C, dx, _, rfl, hp2, KC.cl, KC.na _ (by simp), (by show 1 < 1000; decide), ?_⟩
    rw [putF_to (show putG "left" (.int left) [(("calls" : Str), V.ref lc)] = [(("calls" : Str), V.ref lc), (("left" : Str), .int left)] from rfl)]
    refine ⟨_, rfl, _, rfl, p, C, dx, _, rfl, upd_same, KC.cl, KC.na _ (by simp), (by show 2 < 1000; decide), ?_⟩
    rw [putF_to (show putG "right" (.int right) [(("calls" : Str), V.ref lc), (("left" : Str), V.int left)] = [(("calls" : Str), V.ref lc), (("left" : Str), .int left), (("right" : Str), .int right)] from rfl), upd_upd]
    have nlp : lc ≠ p := ne_of hlc2 hp2 (by intro z; cases z)
    refine ⟨(by show 1 ≤ sizeLine; decide), fun l hl' => ?_⟩
    have nl : p ≠ l := ne_of_none upd_same hl'
    rw [upd_ne nl.symm] at hl'
    have nll : lc ≠ l := ne_of_none hlc2 hl'
    refine ⟨_, rfl, p, C, dx, _, _, rfl, (by rw [upd_ne nl, upd_same]), KC.cl, KC.na _ (by simp), rfl, lc, _, rfl, .inl (SqL.of (by rw [upd_ne nll, upd_ne nlp]; exact hlc2)), ?_⟩
    refine ⟨l, _, _, rfl, rfl, upd_same, (by omega), (by rw [hl]; omega), (by rw [hl]; exact Nat.le_of_lt (small1000 (by simp; exact hN))), fun lo hlo => ?_⟩
    have nlo1 : l ≠ lo := ne_of_none upd_same hlo
    rw [upd_ne nlo1.symm] at hlo
    have nlo2 : p ≠ lo := ne_of_none upd_same hlo
    rw [upd_ne nlo2.symm] at hlo
    have nlo3 : lc ≠ lo := ne_of_none hlc2 hlo
    refine ⟨_, rfl, p, C, dx, _, rfl, (by rw [upd_ne nlo2, upd_ne nl, upd_same]), KC.cl, KC.na _ (by simp), (by show 3 < 1000; decide), ?_⟩
    rw [putF_to (show putG "colours" (.ref lo) [(("calls" : Str), V.ref lc), (("left" : Str), V.int left), (("right" : Str), .int right)] = fsCalls lc lo left right from rfl)]
    have H12 : Fr T [p] H H2 := fr1.trans fr2.up
    have nHlo : H lo = none := H12.dom _ hlo
    refine k lc lo _ ?_ ⟨⟨dx, upd_same⟩, ?_, ?_, htl, fun n b hb => ?_, nlo3⟩ nlc nHlo
    · refine Fr.andSet (u := .ins C dx _) (Fr.andNew (Fr.andNew (Fr.andSet H12 (List.mem_singleton.mpr rfl) hp2 (.ins _ _ _)) ?_) ?_) (List.mem_singleton.mpr rfl) (by rw [upd_ne nlo2, upd_ne nl, upd_same]) (.ins _ _ _)
      · rw [upd_ne nl.symm]; exact hl'
      · rw [upd_ne nlo1.symm, upd_ne nlo2.symm]; exact hlo
    · rw [upd_ne nlp, upd_ne nlo3, upd_ne nll, upd_ne nlp]; exact hlc2
    · rw [upd_ne nlo2.symm, upd_same, hl]
      exact congrArg (fun l => some (HO.lst l)) (repFlat N .non (fun _ => oV none) fun _ => rfl)
    · have h2 := fr2.tup _ _ (htp1 n b hb)
      have n1 : b ≠ p := ne_of h2 hp2 (by intro z; cases z)
      have n2 : b ≠ lo := ne_of_none h2 hlo
      have n3 : b ≠ l := ne_of_none h2 hl'
      rw [upd_ne n1, upd_ne n2, upd_ne n3, upd_ne n1]; exact h2
end
end KX
set_option Elab.async false
set_option linter.all false
set_option maxRecDepth 10000
/-! CX 2: the calls of a matrix, the plan of a colouring. -/
namespace KX
section
variable (m : Nat) (ρ : Nat → Nat → Nat)
def cellsU (i : Nat) : Nat → List (Nat × Nat)
  | 0 => []
  | j + 1 => cellsU i j ++ List.replicate (ρ i j) (i, j)
def rowsU : Nat → List (Nat × Nat)
  | 0 => []
  | i + 1 => rowsU i ++ cellsU ρ i m
end
section
variable {m : Nat} {ρ : Nat → Nat → Nat}
theorem cells_mem (i : Nat) : ∀ (j : Nat) (x : Nat × Nat), x ∈ cellsU ρ i j → x.1 = i ∧ x.2 < j := by
  intro j
  induction j with
  | zero => intro x h; cases h
  | succ j ih =>
    intro x h
    rcases List.mem_append.mp h with h | h
    · have := ih x h
      omega
    · have := List.eq_of_mem_replicate h
      subst this
      exact ⟨rfl, by simp⟩
theorem rows_mem : ∀ (i : Nat) (x : Nat × Nat), x ∈ rowsU m ρ i → x.1 < i ∧ x.2 < m := by
  intro i
  induction i with
  | zero => intro x h; cases h
  | succ i ih =>
    intro x h
    rcases List.mem_append.mp h with h | h
    · have := ih x h
      omega
    · have := cells_mem i m x h
      omega
theorem cells_len (i : Nat) : ∀ j, (cellsU ρ i j).length = sm j (ρ i) := by
  intro j
  induction j with
  | zero => rfl
  | succ j ih => show (cellsU ρ i j ++ _).length = sm j (ρ i) + ρ i j; rw [List.length_append, ih, List.length_replicate]
theorem rows_len : ∀ i, (rowsU m ρ i).length = sm i (fun i => sm m (ρ i)) := by
  intro i
  induction i with
  | zero => rfl
  | succ i ih => show (rowsU m ρ i ++ _).length = _; rw [List.length_append, ih, cells_len]; rfl
theorem cells_cnt (i a b : Nat) : ∀ j, (cellsU ρ i j).countP (fun x => x == (a, b)) = if i = a ∧ b < j then ρ a b else 0 := by
  intro j
  induction j with
  | zero => simp [cellsU]
  | succ j ih =>
    show (cellsU ρ i j ++ _).countP _ = _
    rw [List.countP_append, ih, List.countP_replicate]
    by_cases h1 : i = a
    · subst h1
      by_cases h2 : b < j
      · have : j ≠ b := by omega
        simp [h2, this, Nat.lt_succ_of_lt h2]
      · by_cases h3 : b = j
        · subst h3
          simp
        · have : j ≠ b := by omega
          have h4 : ¬ b < j + 1 := by omega
          simp [h2, h4, this]
    · simp [h1]
theorem rows_cnt (a b : Nat) : ∀ i, (rowsU m ρ i).countP (fun x => x == (a, b)) = if a < i ∧ b < m then ρ a b else 0 := by
  intro i
  induction i with
  | zero => simp [rowsU]
  | succ i ih =>
    show (rowsU m ρ i ++ _).countP _ = _
    rw [List.countP_append, ih, cells_cnt]
    by_cases h1 : a < i
    · have : i ≠ a := by omega
      simp [h1, this, Nat.lt_succ_of_lt h1]
    · by_cases h3 : a = i
      · subst h3
        simp
      · have h4 : ¬ a < i + 1 := by omega
        have : i ≠ a := by omega
        simp [h1, h4, this]
theorem cells_deg0 (i a : Nat) : ∀ j, (cellsU ρ i j).countP (fun x => x.1 == a) = if i = a then sm j (ρ i) else 0 := by
  intro j
  induction j with
  | zero => simp [cellsU, sm]
  | succ j ih =>
    show (cellsU ρ i j ++ _).countP _ = _
    rw [List.countP_append, ih, List.countP_replicate]
    by_cases h1 : i = a <;> simp [h1, sm]
theorem rows_deg0 (a : Nat) : ∀ i, (rowsU m ρ i).countP (fun x => x.1 == a) = if a < i then sm m (ρ a) else 0 := by
  intro i
  induction i with
  | zero => simp [rowsU]
  | succ i ih =>
    show (rowsU m ρ i ++ _).countP _ = _
    rw [List.countP_append, ih, cells_deg0]
    by_cases h1 : a < i
    · have : i ≠ a := by omega
      simp [h1, this, Nat.lt_succ_of_lt h1]
    · by_cases h3 : a = i
      · subst h3
        simp
      · have h4 : ¬ a < i + 1 := by omega
        have : i ≠ a := by omega
        simp [h1, h4, this]
theorem cells_deg1 (i b : Nat) : ∀ j, (cellsU ρ i j).countP (fun x => x.2 == b) = if b < j then ρ i b else 0 := by
  intro j
  induction j with
  | zero => simp [cellsU]
  | succ j ih =>
    show (cellsU ρ i j ++ _).countP _ = _
    rw [List.countP_append, ih, List.countP_replicate]
    by_cases h2 : b < j
    · have : j ≠ b := by omega
      simp [h2, this, Nat.lt_succ_of_lt h2]
    · by_cases h3 : b = j
      · subst h3
        simp
      · have : j ≠ b := by omega
        have h4 : ¬ b < j + 1 := by omega
        simp [h2, h4, this]
theorem rows_deg1 (b : Nat) : ∀ i, (rowsU m ρ i).countP (fun x => x.2 == b) = if b < m then sm i (fun i => ρ i b) else 0 := by
  intro i
  induction i with
  | zero => simp [rowsU, sm]
  | succ i ih =>
    show (rowsU m ρ i ++ _).countP _ = _
    rw [List.countP_append, ih, cells_deg1]
    by_cases h1 : b < m <;> simp [h1, sm]
end
/-- the sides of the n-th pair -/
def gl (cl : List (Nat × Nat)) (s n : Nat) : Nat := if s = 0 then (cl.getD n (0, 0)).1 else (cl.getD n (0, 0)).2
theorem filt_cnt {α : Type} (d : α) (cl : List α) (p : α → Bool) : ((List.range cl.length).filter fun n => p (cl.getD n d)).length = cl.countP p := by
  have e : (List.range cl.length).map (fun n => cl.getD n d) = cl := by
    apply List.ext_getElem?
    intro i
    by_cases hi : i < cl.length
    · simp [hi]
    · simp [hi]
  rw [← List.countP_eq_length_filter]
  conv => rhs; rw [← e]
  rw [List.countP_map]
  rfl
theorem deg_gl (cl : List (Nat × Nat)) (v : Nat) : deg cl.length (gl cl) 0 v = cl.countP (fun x => x.1 == v) ∧ deg cl.length (gl cl) 1 v = cl.countP (fun x => x.2 == v) :=
  ⟨filt_cnt (0, 0) cl (fun x => x.1 == v), filt_cnt (0, 0) cl (fun x => x.2 == v)⟩
/-! ### the plan -/
def planAt (g : Nat → Nat → Nat) (col : Nat → Option Nat) : Nat → Nat → Nat → Option Nat
  | 0, _, _ => none
  | k + 1, t, i => if col k = some t ∧ g 0 k = i then some (g 1 k) else planAt g col k t i
section
variable {N : Nat} {g : Nat → Nat → Nat} {col : Nat → Option Nat}
theorem plan_some : ∀ {k t i j : Nat}, planAt g col k t i = some j → ∃ n, n < k ∧ col n = some t ∧ g 0 n = i ∧ g 1 n = j := by
  intro k
  induction k with
  | zero => intro t i j h; cases h
  | succ k ih =>
    intro t i j h
    unfold planAt at h
    by_cases e : col k = some t ∧ g 0 k = i
    · rw [if_pos e] at h
      exact ⟨k, by omega, e.1, e.2, Option.some.inj h⟩
    · rw [if_neg e] at h
      obtain ⟨n, h1, h2⟩ := ih h
      exact ⟨n, by omega, h2⟩
theorem plan_of (hp : Proper N g col) : ∀ {k t i n : Nat}, k ≤ N → n < k → col n = some t → g 0 n = i → planAt g col k t i = some (g 1 n) := by
  intro k
  induction k with
  | zero => intro t i n _ h; omega
  | succ k ih =>
    intro t i n hk hn hc hg
    unfold planAt
    by_cases e : col k = some t ∧ g 0 k = i
    · rw [if_pos e]
      have := hp 0 i t k n (by omega) ⟨by omega, e.2, e.1⟩ ⟨by omega, hg, hc⟩
      rw [this]
    · rw [if_neg e]
      refine ih (by omega) ?_ hc hg
      have : n ≠ k := fun z => e (by rw [← z]; exact ⟨hc, hg⟩)
      omega
/-- what a plan of ρ promises: pl t i is the gate that i is sent to in slot t -/
structure PlanOk (m sl : Nat) (ρ : Nat → Nat → Nat) (pl : Nat → Nat → Option Nat) : Prop where
  lt : ∀ t i j, pl t i = some j → i < m ∧ j < m
  inj : ∀ t i i' j, pl t i = some j → pl t i' = some j → i = i'
  cnt : ∀ i j, i < m → j < m → ((List.range sl).filter fun t => pl t i == some j).length = ρ i j
theorem plan_ok {m sl : Nat} {ρ : Nat → Nat → Nat} (hp : Proper N g col) (hN : ∀ n, n < N → ∃ c, c < sl ∧ col n = some c) (hg : ∀ n, n < N → g 0 n < m ∧ g 1 n < m)
    (hc : ∀ i j, i < m → j < m → ((List.range N).filter fun n => g 0 n == i && g 1 n == j).length = ρ i j) : PlanOk m sl ρ (planAt g col N) where
  lt := fun t i j h => by
    obtain ⟨n, h1, h2, h3, h4⟩ := plan_some h
    have := hg n h1
    omega
  inj := fun t i i' j h h' => by
    obtain ⟨n, h1, h2, h3, h4⟩ := plan_some h
    obtain ⟨n', h1', h2', h3', h4'⟩ := plan_some h'
    have := hp 1 j t n n' (by omega) ⟨h1, h4, h2⟩ ⟨h1', h4', h2'⟩
    rw [← h3, ← h3', this]
  cnt := fun i j hi hj => by
    rw [← hc i j hi hj]
    apply Nat.le_antisymm
    · -- each slot has its call
      have hch : ∃ f : Nat → Nat, ∀ t, planAt g col N t i = some j → f t < N ∧ col (f t) = some t ∧ g 0 (f t) = i ∧ g 1 (f t) = j := by
        refine ⟨fun t => if h : planAt g col N t i = some j then Classical.choose (plan_some h) else 0, fun t h => ?_⟩
        simp only [h, dif_pos]
        exact Classical.choose_spec (plan_some h)
      obtain ⟨f, hf⟩ := hch
      have h := length_le_of_sub (((List.range sl).filter fun t => planAt g col N t i == some j).map f) ((List.range N).filter fun n => g 0 n == i && g 1 n == j) (by
        unfold List.Nodup
        rw [List.pairwise_map]
        have hnd : ((List.range sl).filter fun t => planAt g col N t i == some j).Nodup := List.Pairwise.filter _ List.nodup_range
        refine List.Pairwise.imp_of_mem ?_ hnd
        intro a b ha hb hab e
        have ha' : planAt g col N a i = some j := by simpa using (List.mem_filter.mp ha).2
        have hb' : planAt g col N b i = some j := by simpa using (List.mem_filter.mp hb).2
        have h1 := (hf a ha').2.1
        have h2 := (hf b hb').2.1
        rw [e, h2] at h1
        exact hab (Option.some.inj h1).symm) (fun x hx => by
          obtain ⟨t, ht, rfl⟩ := List.mem_map.mp hx
          have ht' : planAt g col N t i = some j := by simpa using (List.mem_filter.mp ht).2
          have := hf t ht'
          simp [this.1, this.2.2.1, this.2.2.2])
      simpa using h
    · have h := length_le_of_sub (((List.range N).filter fun n => g 0 n == i && g 1 n == j).map fun n => (col n).getD 0) ((List.range sl).filter fun t => planAt g col N t i == some j) (by
        unfold List.Nodup
        rw [List.pairwise_map]
        have hnd : ((List.range N).filter fun n => g 0 n == i && g 1 n == j).Nodup := List.Pairwise.filter _ List.nodup_range
        refine List.Pairwise.imp_of_mem ?_ hnd
        intro a b ha hb hab e
        have ha1 := List.mem_filter.mp ha
        have hb1 := List.mem_filter.mp hb
        have ha2 : g 0 a = i ∧ g 1 a = j := by simpa using ha1.2
        have hb2 : g 0 b = i ∧ g 1 b = j := by simpa using hb1.2
        obtain ⟨c, _, hca⟩ := hN a (List.mem_range.mp ha1.1)
        obtain ⟨d, _, hcb⟩ := hN b (List.mem_range.mp hb1.1)
        rw [hca, hcb] at e
        have e' : c = d := e
        subst e'
        exact hab (hp 0 i c a b (by omega) ⟨List.mem_range.mp ha1.1, ha2.1, hca⟩ ⟨List.mem_range.mp hb1.1, hb2.1, hcb⟩)) (fun x hx => by
          obtain ⟨n, hn, rfl⟩ := List.mem_map.mp hx
          have hn1 := List.mem_filter.mp hn
          have hn2 : g 0 n = i ∧ g 1 n = j := by simpa using hn1.2
          obtain ⟨c, hcs, hcn⟩ := hN n (List.mem_range.mp hn1.1)
          have := plan_of hp (Nat.le_refl N) (List.mem_range.mp hn1.1) hcn hn2.1
          rw [hcn]
          simp [hcs, this, hn2.2])
      simpa using h
end
end KX
set_option Elab.async false
set_option linter.all false
set_option maxRecDepth 100000
set_option maxHeartbeats 4000000
/-! KX 8: frame. -/
namespace KX
open PySem PySem.Spec PyProof.Rows L2 GX
structure PlanAt (H : Hp) (a : Addr) (m sl : Nat) (pl : Nat → Nat → Option Nat) : Prop where
  ex : ∃ bs : List Addr, H a = some (.tup (bs.map V.ref)) ∧ bs.length = sl ∧ ∀ t b, bs[t]? = some b → H b = some (.tup (colV m (pl t)))
theorem PlanAt.fr {T : Tb} {M : List Addr} {H H' : Hp} {a : Addr} {m sl : Nat} {pl : Nat → Nat → Option Nat} (h : PlanAt H a m sl pl) (f : Fr T M H H') : PlanAt H' a m sl pl := by
  obtain ⟨bs, h1, h2, h3⟩ := h.ex
  exact ⟨bs, f.tup _ _ h1, h2, fun t b e => f.tup _ _ (h3 t b e)⟩
/-- a list of pairs -/
structure PairsAt (H : Hp) (D : Addr) (L : List (Nat × Nat)) : Prop where
  ex : ∃ ts : List Addr, H D = some (.lst (ts.map V.ref)) ∧ ts.length = L.length ∧ ∀ (n : Nat) b, ts[n]? = some b → ∃ x, L[n]? = some x ∧ H b = some (.tup [.int (x.1 : Nat), .int (x.2 : Nat)])
section
variable {T : Tb} {H H' : Hp} {D b : Addr} {L : List (Nat × Nat)} {x : Nat × Nat}
theorem PairsAt.fr (h : PairsAt H D L) (f : Fr T [] H H') : PairsAt H' D L := by
  obtain ⟨ts, h1, h2, h3⟩ := h.ex
  refine ⟨ts, f.lst h1, h2, fun n b e => ?_⟩
  obtain ⟨x, e1, e2⟩ := h3 n b e
  exact ⟨x, e1, f.tup _ _ e2⟩
theorem PairsAt.app (h : PairsAt H D L) (hb : H b = some (.tup [.int (x.1 : Nat), .int (x.2 : Nat)])) (hL : L.length < 1000) : ∃ acc, H D = some (.lst acc) ∧ acc.length < sizeLine ∧ PairsAt (upd H D (.lst (acc ++ [.ref b]))) D (L ++ [x]) := by
  obtain ⟨ts, h1, h2, h3⟩ := h.ex
  have nD : ∀ c r, H c = some (.tup r) → c ≠ D := fun c r e z => by rw [z, h1] at e; cases e
  refine ⟨_, h1, by rw [List.length_map, h2]; exact small1000 (by omega), ⟨ts ++ [b], by rw [upd_same, List.map_append]; rfl, by simp [h2], fun n c e => ?_⟩⟩
  rcases Nat.lt_or_ge n ts.length with hn | hn
  · rw [List.getElem?_append_left hn] at e
    obtain ⟨y, e1, e2⟩ := h3 n c e
    exact ⟨y, by rw [List.getElem?_append_left (by rw [← h2]; exact hn)]; exact e1, by rw [upd_ne (nD _ _ e2)]; exact e2⟩
  · have e0 : n = ts.length := by
      have := (List.getElem?_eq_some_iff.mp e).1
      simp at this
      omega
    subst e0
    rw [List.getElem?_append_right (Nat.le_refl _), Nat.sub_self] at e
    have eb : b = c := Option.some.inj e
    subst eb
    exact ⟨x, by rw [h2, List.getElem?_append_right (Nat.le_refl _), Nat.sub_self]; rfl, by rw [upd_ne (nD _ _ hb)]; exact hb⟩
end
theorem sm_mono {f : Nat → Nat} {j k : Nat} (h : j ≤ k) : sm j f ≤ sm k f := by
  induction k with
  | zero =>
    have : j = 0 := by omega
    rw [this]; exact Nat.le_refl _
  | succ k ih =>
    rcases Nat.lt_or_ge j (k + 1) with hj | hj
    · have := ih (by omega)
      show sm j f ≤ sm k f + f k
      omega
    · have : j = k + 1 := by omega
      rw [this]; exact Nat.le_refl _
def spFrame (T : Tb) : Sp := fun vs H Q _ => ∃ (ra : Addr) (m : Nat) (ρ : Nat → Nat → Nat) (sl : Nat), vs = [.ref ra, .int sl] ∧ TbOk T H ∧ MatL H ra m ρ ∧ m ≤ 100 ∧ sl ≤ 1000 ∧ m * sl ≤ 1000 ∧ (∀ i j, i < m → j < m → ρ i j ≤ 100000) ∧ (∀ i, i < m → sm m (ρ i) ≤ sl) ∧ (∀ j, j < m → sm m (fun i => ρ i j) ≤ sl) ∧
  ∀ pa pl H', Fr T [] H H' → PlanAt H' pa m sl pl → PlanOk m sl ρ pl → Q (.ref pa) H'
abbrev sFrame : Stmt := top 21
abbrev nFrame : List Str := ["rates", "slots", "rows", "one", "gate", "calls", "coloured", "number", "slot", "found", "row", "rate", "turn"]
theorem scFrame : FnScope nFrame ["rates", "slots"] (defScope sFrame) := ⟨rfl, rfl, rfl, by decide +kernel, rfl, by decide +kernel, by decide +kernel⟩
section
variable {P : Program} {w : World} {K : PySem.W.Frag} {mg : Str → Option Value} {base : Heap} {T : Tb}
theorem ok_frame {f fC fI fL C BR : Addr} {fd fdC fdI fdL : FuncData} (F : Fun K "frame" "frame" sFrame f fd) (B : Bl mg) (KC : Kl K C aCalls)
    (GC : FnOk P w K mg base (L2.CX P w) 3 fC fdC ["rates", "slots"] (spCheck T BR)) (mC : mg "check_rates" = some (.ref fC)) (kC : PySem.W.keepIn K (.ref fC) = true) (bC : Binds K fdC ["rates", "slots"] [])
    (MI : Mk K C fI) (GI : FnOk P w K mg base CX0 2 fI fdI ["self", "calls", "left", "right"] (spCI T C)) (mI : mg "Calls" = some (.ref C)) (bI : Binds K fdI ["self", "calls", "left", "right"] [])
    (GL : FnOk P w K mg base CX0 3 fL fdL ["self", "number", "many"] (spCol T C)) (bL : Binds K fdL ["self", "number", "many"] []) (mL : Meth K C "colour" fL) :
    FnOk P w K mg base CX0 4 f fd ["rates", "slots"] (spFrame T) := by
  have nd := scFrame.nd
  refine F.ok scFrame (fun vs H Q E h => ?_) (fun cdv A outer s0 H vs Q E hr h => ?_)
  · obtain ⟨ra, m, ρ, sl, rfl, _⟩ := h
    rfl
  · obtain ⟨ra, m, ρ, sl, rfl, hT, hM, hm, hsl, hms, hb, hrow, hcol, k⟩ := h
    refine ⟨_, C8.pss_cut (ps_set (i := 2) nd rfl (Or.inr rfl) (pe_call GC hr rfl mC kC bC .nil passL (pa_cons (pv 0) (pa_cons (pv 1) pa_nil))))
      (C8.pss_cut (ps_setLc3 (i := 5) (own := [("one", 3), ("row", 10), ("gate", 4), ("rate", 11), ("turn", 12)]) (vs1 := [4, 11, 12]) (vs2 := [12]) (g := gTup K 2 (gCons (gName 3) (gCons (gName 10) gNil))) (tt := tYes) (wi1 := iEnumT K (tCons (tVar 10) tNil)) (g1 := gTup K 2 (gCons (gName 4) (gCons (gName 11) gNil))) (tt1 := tYes) (wi2 := iRng1 (tCons (tVar 11) tNil)) (g2 := gName 12) (tt2 := tYes) (te := tTup (tCons (tVar 3) (tCons (tVar 4) tNil)))
          rfl nd rfl rfl (sw_true rfl rfl rfl (by decide +kernel)) (pi_enum rfl B.enumerate (pa_cons (pv 2) pa_nil)) (blkOk_by (N := nFrame) (sc := defScope sFrame) (by decide +kernel)) (by decide) (by decide)
          (fun _ _ _ _ _ => pg_tup rfl (pgs_cons (pg_name (i := 3) nd rfl (Or.inl rfl)) (pgs_cons (pg_name (i := 10) nd rfl (Or.inl rfl)) pgs_nil))) (fun _ _ _ _ _ => pts_nil)
          (fun _ _ _ _ _ => pi_enumT rfl B.enumerate (pa_cons (pv 10) pa_nil)) (fun _ _ _ _ _ => pg_tup rfl (pgs_cons (pg_name (i := 4) nd rfl (Or.inl rfl)) (pgs_cons (pg_name (i := 11) nd rfl (Or.inl rfl)) pgs_nil))) (fun _ _ _ _ _ => pts_nil)
          (fun _ _ _ _ _ => pi_range1 rfl B.range (pa_cons (pv 11) pa_nil)) (fun _ _ _ _ _ => pg_name (i := 12) nd rfl (Or.inl rfl)) (fun _ _ _ _ _ => pts_nil)
          (fun _ _ _ _ _ => pe_tup (pa_cons (pv 3) (pa_cons (pv 4) pa_nil))))
      (C8.pss_cut (ps_set (i := 6) nd rfl (Or.inl rfl) (pe_make MI GI hr rfl mI bI .nil pass0 (pa_cons (pv 5) (pa_cons (pe_callB call_lenS (by rfl) B.len boot_len (pa_cons (pv 2) pa_nil)) (pa_cons (pe_callB call_lenS (by rfl) B.len boot_len (pa_cons (pv 2) pa_nil)) pa_nil)))))
      (C8.pss_cut (ps_for PassesOwn.never rfl (pi_range1 rfl B.range (pa_cons (pe_callB call_lenS (by rfl) B.len boot_len (pa_cons (pv 5) pa_nil)) pa_nil)) (pg_name (i := 7) nd rfl (Or.inl rfl)) (pss_one (ps_expr (pe_meth (pv 6) KC.cl mL GL hr bL .nil pass0 (pa_cons (pv 7) (pa_cons (pv 1) pa_nil))))))
      (C8.pss_cut (ps_setLc (i := 9) (own := [("slot", 8)]) (g := gName 8) (tt := tYes) (te := tOp rRep (tLst (tCons (tC .non) tNil)) (tCB (rLen K) (tCons (tVar 2) tNil))) (by rfl) nd rfl rfl (sw_true rfl rfl rfl (by decide +kernel)) (pi_range1 rfl B.range (pa_cons (pv 1) pa_nil))
          (blkOk_by (N := nFrame) (sc := defScope sFrame) (by decide +kernel)) (fun _ _ _ _ _ => pg_name (i := 8) nd rfl (Or.inl rfl)) (fun _ _ _ _ _ => pts_nil) (fun _ _ _ _ _ => pe_op op_rep (pe_lst (pa_cons pe_non pa_nil)) (pe_callB call_lenS (by rfl) B.len boot_len (pa_cons (pv 2) pa_nil))))
      (C8.pss_cut (ps_for PassesOwn.never rfl (pi_zip rfl B.zip (pa_cons (pv 5) (pa_cons (pe_fld (pv 6) rfl) pa_nil))) (pg_tup rfl (pgs_cons (pg_tup rfl (pgs_cons (pg_name (i := 3) nd rfl (Or.inl rfl)) (pgs_cons (pg_name (i := 4) nd rfl (Or.inl rfl)) pgs_nil))) (pgs_cons (pg_name (i := 8) nd rfl (Or.inl rfl)) pgs_nil)))
          (pss_one (ps_asg (pv 4) (pg_sub (pe_ix ix_list (pv 9) (pv 8) (fun _ _ => rfl)) (pv 3) set_list))))
      (pss_one (ps_ret (pe_callTy call_tupOf (by rfl) B.tuple boot_tuple (pa_cons (pe_lc (own := [("row", 10)]) (g := gName 10) (tt := tYes) (te := tCB (rTupOf K) (tCons (tVar 10) tNil)) rfl nd (pi_list (pv 9)) (blkOk_by (N := nFrame) (sc := defScope sFrame) (by decide +kernel)) (fun _ _ _ _ _ => pg_name (i := 10) nd rfl (Or.inl rfl)) (fun _ _ _ _ _ => pts_nil)
        (fun _ _ _ _ _ => pe_callTy call_tupOf (by rfl) B.tuple boot_tuple (pa_cons (pv 10) pa_nil))) pa_nil))))))))), ?_⟩
    let σ0 : Addr → Option V → Option V → Option V → L2.St := fun fa a b c => [some (.ref ra), some (.int sl), some (.ref fa), none, none, a, b, none, none, c, none, none, none]
    -- rows = check_rates(rates, slots)
    refine ⟨fun σ1 H1 => ∃ fa, σ1 = σ0 fa none none none ∧ Fr T [] H H1 ∧ MatT H1 fa m ρ, ?_, ?_⟩
    · refine ⟨_, rfl, _, rfl, ra, m, ρ, sl, rfl, hT, hM, hm, hsl, hb, fun fa H1 fr nfa mt _ _ => ⟨fa, rfl, fr, mt⟩, fun H1 fr h => ?_⟩
      rcases h with ⟨i, hi, h⟩ | ⟨j, hj, h⟩
      · exact absurd (hrow i hi) (by omega)
      · exact absurd (hcol j hj) (by omega)
    rintro σ1 H1 ⟨fa, rfl, fr1, bs, hfa, RT⟩
    have hbl : (bs.map V.ref).length = m := by rw [List.length_map]; exact RT.len
    have hT1 := fr1.tb hT
    have pre : ∀ i j t, i < m → j < m → t ≤ ρ i j → (rowsU m ρ i ++ cellsU ρ i j ++ List.replicate t (i, j)).length ≤ 1000 := fun i j t hi hj ht => by
      rw [List.length_append, List.length_append, rows_len, cells_len, List.length_replicate]
      have a1 : sm i (fun i => sm m (ρ i)) ≤ i * sl := sm_le fun a ha => hrow a (by omega)
      have a2 : sm (j + 1) (ρ i) ≤ sm m (ρ i) := sm_mono (by omega)
      have a3 := hrow i hi
      have a4 : (i + 1) * sl ≤ m * sl := Nat.mul_le_mul_right _ (by omega)
      have a5 : sm (j + 1) (ρ i) = sm j (ρ i) + ρ i j := rfl
      rw [Nat.succ_mul] at a4
      omega
    -- calls = [..]
    refine ⟨fun σ2 H2 => ∃ ca, σ2 = σ0 fa (some (.ref ca)) none none ∧ Fr T [] H1 H2 ∧ PairsAt H2 ca (rowsU m ρ m), ?_, ?_⟩
    · refine ⟨_, rfl, fa, _, rfl, SqL.of hfa, fun D hD => ?_⟩
      refine lcB_sq (sq_enum (xs := bs.map V.ref)) (fun i H' => Fr T [] H1 H' ∧ PairsAt H' D (rowsU m ρ i)) ⟨Fr.new hD, ⟨[], upd_same, rfl, fun n b h => by cases h⟩⟩ (fun i H' _ p => SqL.of (p.1.lst hfa)) ?_ ?_
      · rintro i x H2 H2' hi ⟨fr2, pa2⟩ ⟨t, y, rfl, ht, rfl, hy⟩
        obtain ⟨b, hb', rfl⟩ := getRef hy
        have him : i < m := by rw [← hbl]; exact hi
        have fr2' : Fr T [] H1 (upd H2 t (.tup [.int (i : Nat), .ref b])) := fr2.andNew ht
        refine ⟨t, _, rfl, SqT.of upd_same, rfl, _, _, rfl, _, _, rfl, rfl, rfl, ?_⟩
        have hrowb := fr2'.tup _ _ (RT.row i b hb')
        refine ⟨_, rfl, b, _, rfl, SqT.of hrowb, ?_⟩
        refine bIn_sq (sq_enumT (xs := rowV m (ρ i))) (fun j H' => Fr T [] H1 H' ∧ PairsAt H' D (rowsU m ρ i ++ cellsU ρ i j)) ⟨fr2', ?_⟩ (fun j H' _ p => SqT.of (p.1.tup _ _ (RT.row i b hb'))) ?_ ?_
        · have e : rowsU m ρ i ++ cellsU ρ i 0 = rowsU m ρ i := List.append_nil _
          rw [e]
          exact pa2.fr (Fr.new (T := T) ht)
        · rintro j x H3 H3' hj ⟨fr3, pa3⟩ ⟨t3, y3, rfl, ht3, rfl, hy3⟩
          obtain ⟨rfl, hjm⟩ := rowV_of hy3
          have fr3' : Fr T [] H1 (upd H3 t3 (.tup [.int (j : Nat), .int (ρ i j : Nat)])) := fr3.andNew ht3
          refine ⟨t3, _, rfl, SqT.of upd_same, rfl, _, _, rfl, _, _, rfl, rfl, rfl, ?_⟩
          have hbij := hb i j him hjm
          refine ⟨_, rfl, _, rfl, (by omega), (by omega), ?_⟩
          refine bIn_sq (sq_rng (lo := 0) (n := ρ i j)) (fun t H' => Fr T [] H1 H' ∧ PairsAt H' D (rowsU m ρ i ++ cellsU ρ i j ++ List.replicate t (i, j))) ⟨fr3', ?_⟩ (fun _ _ _ _ => trivial) ?_ ?_
          · have e : rowsU m ρ i ++ cellsU ρ i j ++ List.replicate 0 (i, j) = rowsU m ρ i ++ cellsU ρ i j := List.append_nil _
            rw [e]
            exact pa3.fr (Fr.new (T := T) ht3)
          · rintro t x H4 H4' htt ⟨fr4, pa4⟩ ⟨rfl, rfl⟩
            refine ⟨rfl, _, rfl, _, rfl, (by show 2 ≤ sizeLine; decide), fun q hq => ?_⟩
            have pa5 := pa4.fr (Fr.new (T := T) (o := HO.tup [V.int (i : Nat), V.int (j : Nat)]) hq)
            have hpre := pre i j (t + 1) him hjm htt
            have hlen1 : (rowsU m ρ i ++ cellsU ρ i j ++ List.replicate t (i, j)).length < 1000 := by
              simp only [List.length_append, List.length_replicate] at hpre ⊢
              omega
            obtain ⟨acc, h1, h2, h3⟩ := pa5.app (b := q) (x := (i, j)) upd_same hlen1
            refine ⟨acc, h1, h2, Fr.own (fr4.andNew hq) hD h1 (.lst _), ?_⟩
            have e : rowsU m ρ i ++ cellsU ρ i j ++ List.replicate (t + 1) (i, j) = rowsU m ρ i ++ cellsU ρ i j ++ List.replicate t (i, j) ++ [(i, j)] := by
              rw [List.replicate_succ', ← List.append_assoc]
            rw [e]
            exact h3
          · rintro H4 ⟨fr4, pa4⟩
            refine ⟨fr4, ?_⟩
            rw [List.append_assoc] at pa4
            exact pa4
        · rintro H3 ⟨fr3, pa3⟩
          rw [rowV_len] at pa3
          exact ⟨fr3, pa3⟩
      · rintro H2 ⟨fr2, pa2⟩
        rw [hbl] at pa2
        exact ⟨D, rfl, fr2, pa2⟩
    rintro σ2 H2 ⟨ca, rfl, fr2, pa2⟩
    obtain ⟨ts, hca, htl, htp⟩ := pa2.ex
    have hfa2 := fr2.lst hfa
    generalize hcl : rowsU m ρ m = cl at pa2 htl htp
    have hg : ∀ n, n < cl.length → gl cl 0 n < m ∧ gl cl 1 n < m := fun n hn => by
      have hm1 : cl.getD n (0, 0) ∈ rowsU m ρ m := by
        rw [hcl, List.getD_eq_getElem?_getD, List.getElem?_eq_getElem hn]
        exact List.getElem_mem hn
      have := rows_mem m _ hm1
      exact ⟨this.1, this.2⟩
    have htp2 : ∀ (n : Nat) b, ts[n]? = some b → H2 b = some (.tup [.int (gl cl 0 n : Nat), .int (gl cl 1 n : Nat)]) := fun n b h => by
      obtain ⟨x, e1, e2⟩ := htp n b h
      have e3 : cl.getD n (0, 0) = x := by rw [List.getD_eq_getElem?_getD, e1]; rfl
      rw [e2]
      unfold gl
      rw [if_pos rfl, if_neg (by decide), e3]
    have hN : cl.length ≤ 1000 := by
      rw [← hcl, rows_len]
      have : sm m (fun i => sm m (ρ i)) ≤ m * sl := sm_le fun a ha => hrow a ha
      omega
    have hdeg : ∀ s v, s ≤ 1 → deg cl.length (gl cl) s v ≤ sl := fun s v hs => by
      have hs' : s = 0 ∨ s = 1 := by omega
      rcases hs' with e | e
      · rw [e, (deg_gl cl v).1, ← hcl, rows_deg0]
        split
        · exact hrow v (by assumption)
        · exact Nat.zero_le _
      · rw [e, (deg_gl cl v).2, ← hcl, rows_deg1]
        split
        · exact hcol v (by assumption)
        · exact Nat.zero_le _
    have hcnt : ∀ i j, i < m → j < m → ((List.range cl.length).filter fun n => gl cl 0 n == i && gl cl 1 n == j).length = ρ i j := fun i j hi hj => by
      have e : ((List.range cl.length).filter fun n => gl cl 0 n == i && gl cl 1 n == j).length = cl.countP (fun x => x == (i, j)) := by
        rw [← filt_cnt (0, 0) cl (fun x => x == (i, j))]
        congr 1
      rw [e, ← hcl, rows_cnt, if_pos ⟨hi, hj⟩]
    -- coloured = Calls(calls, len(rows), len(rows))
    refine ⟨fun σ3 H3 => ∃ p lc lo, σ3 = σ0 fa (some (.ref ca)) (some (.ref p)) none ∧ Fr T [] H2 H3 ∧ CallsAt H3 C p lc lo ts cl.length m m (gl cl) (fun _ => none) ∧ H2 lo = none, ?_, ?_⟩
    · refine ⟨_, rfl, _, rfl, fa, _, rfl, .inl (SqL.of hfa2), _, rfl, fa, _, rfl, .inl (SqL.of hfa2), fun x dx hx hdx hne => ?_⟩
      rw [hbl]
      have fr3 : Fr T [] H2 (upd (upd H2 dx (.own x)) x (.ins C dx [])) := (Fr.new hdx).andNew (by rw [upd_ne hne.symm]; exact hx)
      refine ⟨x, dx, ca, ts, cl.length, m, m, gl cl, rfl, upd_same, fr3.tb (fr2.tb hT1), fr3.lst hca, htl, hN, fun n b h => fr3.tup _ _ (htp2 n b h), hg, fun lc lo H4 fr4 CA4 n1 n2 => ⟨rfl, x, lc, lo, rfl, ?_, CA4, fr3.dom _ n2⟩⟩
      exact fr3.then fr4 fun a ha n => by
        rw [List.mem_singleton.mp ha] at n
        exact absurd hx n
    rintro σ3 H3 ⟨p, lc, lo, rfl, fr3, CA3, nlo⟩
    -- the calls are coloured
    refine ⟨fun σ4 H4 => ∃ y col, σ4 = [some (.ref ra), some (.int sl), some (.ref fa), none, none, some (.ref ca), some (.ref p), y, none, none, none, none, none] ∧ Fr T [] H2 H4 ∧ CallsAt H4 C p lc lo ts cl.length m m (gl cl) col ∧ Proper cl.length (gl cl) col ∧ ∀ n, n < cl.length → ∃ c, c < sl ∧ col n = some c, ?_, ?_⟩
    · have hca3 := fr3.lst hca
      have hlen : (ts.map V.ref).length = cl.length := by rw [List.length_map]; exact htl
      refine ⟨_, rfl, ca, _, rfl, .inl (SqL.of hca3), _, rfl, (by omega), (by rw [hlen]; omega), ?_⟩
      rw [hlen, show (((cl.length : Nat) : Int)).toNat = cl.length by omega]
      refine for_sq (sq_rng (lo := 0) (n := cl.length)) (fun i σ H' => ∃ y col, σ = [some (.ref ra), some (.int sl), some (.ref fa), none, none, some (.ref ca), some (.ref p), y, none, none, none, none, none] ∧ Fr T [] H2 H' ∧ CallsAt H' C p lc lo ts cl.length m m (gl cl) col ∧ Proper cl.length (gl cl) col ∧ (∀ n, n < i → ∃ c, col n = some c) ∧ (∀ n, i ≤ n → col n = none) ∧ ∀ n c, col n = some c → c < sl)
        ⟨none, _, rfl, fr3, CA3, (fun s v c n m' _ h _ => by have := h.2.2; cases this), (fun n hn => by omega), (fun _ _ => rfl), (fun n c h => by cases h)⟩ (fun _ _ _ _ _ => trivial) ?_ ?_
      · rintro i x σ H4 H4' hi ⟨y, col, rfl, fr4, CA4, hp4, hlt4, hge4, hsl4⟩ ⟨hx, rfl⟩
        have ex : x = .int (i : Nat) := by rw [hx]; congr 1; omega
        subst ex
        obtain ⟨dx4, h14⟩ := CA4.ob
        refine ⟨_, rfl, p, dx4, _, rfl, h14, rfl, _, rfl, _, rfl, ?_⟩
        refine ⟨p, lc, lo, ts, cl.length, m, m, gl cl, col, i, sl, rfl, CA4, hN, hsl, hp4, hi, hge4 i (Nat.le_refl _), fun s hs => hdeg s _ hs, hsl4, fun v col' H5 fr5 CA5 hp5 hn5 hi5 hs5 => ?_⟩
        refine ⟨_, col', rfl, fr4.then fr5 (fun a ha n => ?_), CA5, hp5, fun n hn => ?_, fun n hn => ?_, hs5⟩
        · rw [List.mem_singleton.mp ha] at n
          exact absurd nlo n
        · rcases Nat.lt_succ_iff_lt_or_eq.mp hn with z | z
          · obtain ⟨c, hc⟩ := hlt4 n z
            cases q : col' n with
            | some c => exact ⟨c, rfl⟩
            | none =>
              have := (hn5 n (by omega)).mp q
              rw [hc] at this
              cases this
          · rw [z]; exact hi5
        · exact (hn5 n (by omega)).mpr (hge4 n (by omega))
      · rintro σ H4 ⟨y, col, rfl, fr4, CA4, hp4, hlt4, _, hsl4⟩
        exact ⟨y, col, rfl, fr4, CA4, hp4, fun n hn => let ⟨c, hc⟩ := hlt4 n hn; ⟨c, hsl4 n c hc, hc⟩⟩
    rintro σ4 H4 ⟨y, col, rfl, fr4, CA4, hp4, hcol4⟩
    have hfa4 := fr4.lst hfa2
    -- found = [[None] * len(rows) ..]
    let RL : Hp → List Addr → (Nat → Nat → Option Nat) → Prop := fun H' cs pl => cs.Nodup ∧ ∀ (t : Nat) b, cs[t]? = some b → H' b = some (.lst (colV m (pl t))) ∧ H4 b = none
    refine ⟨fun σ5 H5 => ∃ D cs, σ5 = [some (.ref ra), some (.int sl), some (.ref fa), none, none, some (.ref ca), some (.ref p), y, none, some (.ref D), none, none, none] ∧ Fr T [] H4 H5 ∧ H5 D = some (.lst (cs.map V.ref)) ∧ cs.length = sl ∧ D ∉ cs ∧ H4 D = none ∧ RL H5 cs (fun _ _ => none), ?_, ?_⟩
    · refine ⟨_, rfl, _, rfl, (by omega), (by omega), fun D hD => ?_⟩
      rw [show (((sl : Nat) : Int)).toNat = sl by omega]
      refine lc_sq (sq_rng (lo := 0) (n := sl)) (fun i H' => ∃ cs : List Addr, H' D = some (.lst (cs.map V.ref)) ∧ Fr T [] H4 H' ∧ cs.length = i ∧ D ∉ cs ∧ RL H' cs (fun _ _ => none)) ⟨[], upd_same, Fr.new hD, rfl, (by simp), List.nodup_nil, fun t b h => by cases h⟩ (fun _ _ _ _ => trivial) ?_ ?_
      · rintro i x H5 H5' hi ⟨cs, hDs, fr5, hl5, nDc, hnd, hRL⟩ ⟨rfl, rfl⟩
        refine ⟨rfl, (by show 1 ≤ sizeLine; decide), fun l hl => ?_⟩
        have fr5a : Fr T [] H4 (upd H5' l (.lst [.non])) := fr5.andNew hl
        refine ⟨_, rfl, fa, _, rfl, .inl (SqL.of (fr5a.lst hfa4)), l, _, _, rfl, rfl, upd_same, (by omega), (by rw [hbl]; omega), (by rw [hbl]; exact Nat.le_of_lt (small1000 (by simp; omega))), fun q hq => ?_⟩
        have nlD : D ≠ l := ne_of_none hDs hl
        have nqD : D ≠ q := ne_of_none (by rw [upd_ne nlD]; exact hDs) hq
        have nql : l ≠ q := ne_of_none upd_same hq
        have hq5 : H5' q = none := by rw [upd_ne nql.symm] at hq; exact hq
        rw [hbl, repFlat m .non (fun _ => oV none) (fun _ => rfl)]
        refine ⟨_, by rw [upd_ne nqD, upd_ne nlD]; exact hDs, by rw [List.length_map, hl5]; exact small1000 (by omega), cs ++ [q], by rw [upd_same, List.map_append]; rfl, ?_, by simp [hl5], (by simp [nDc, nqD]), ?_, fun t b ht => ?_⟩
        · exact Fr.own (fr5a.andNew hq) hD (by rw [upd_ne nqD, upd_ne nlD]; exact hDs) (.lst _)
        · rw [List.nodup_append]
          refine ⟨hnd, List.nodup_cons.mpr ⟨by simp, List.nodup_nil⟩, fun a ha b hb e => ?_⟩
          rw [List.mem_singleton.mp hb] at e
          obtain ⟨k, hk⟩ := List.mem_iff_getElem?.mp ha
          rw [e] at hk
          have := (hRL k q hk).1
          rw [hq5] at this
          cases this
        · rcases Nat.lt_or_ge t cs.length with ht' | ht'
          · rw [List.getElem?_append_left ht'] at ht
            obtain ⟨e1, e2⟩ := hRL t b ht
            have n1 : b ≠ D := fun z => nDc (by rw [← z]; exact List.mem_of_getElem? ht)
            rw [upd_ne n1, upd_ne (ne_of_none (by rw [upd_ne (ne_of_none e1 hl)]; exact e1) hq), upd_ne (ne_of_none e1 hl)]
            exact ⟨e1, e2⟩
          · have e0 : t = cs.length := by
              have := (List.getElem?_eq_some_iff.mp ht).1
              simp at this
              omega
            rw [e0, List.getElem?_append_right (Nat.le_refl _), Nat.sub_self] at ht
            have eb : q = b := Option.some.inj ht
            subst eb
            rw [upd_ne nqD.symm, upd_same]
            exact ⟨rfl, fr5.dom _ hq5⟩
      · rintro H5 ⟨cs, hDs, fr5, hl5, nDc, hRL⟩
        exact ⟨D, cs, rfl, fr5, hDs, hl5, nDc, hD, hRL⟩
    rintro σ5 H5 ⟨D, cs, rfl, fr5, hDs, hl5, nDc, nD4, hRL5⟩
    have hca5 := fr5.lst (fr4.lst hca)
    have htp5 : ∀ (n : Nat) b, ts[n]? = some b → H5 b = some (.tup [.int (gl cl 0 n : Nat), .int (gl cl 1 n : Nat)]) := fun n b h => fr5.tup _ _ (fr4.tup _ _ (htp2 n b h))
    have hlen : (ts.map V.ref).length = cl.length := by rw [List.length_map]; exact htl
    have CA5 := CA4.fr fr5
    obtain ⟨dx5, h15⟩ := CA5.ob
    -- found[slot][one] = gate
    refine ⟨fun σ6 H6 => σ6[9]? = some (some (.ref D)) ∧ σ6.length = 13 ∧ Fr T [] H4 H6 ∧ H6 D = some (.lst (cs.map V.ref)) ∧ RL H6 cs (planAt (gl cl) col cl.length), ?_, ?_⟩
    · refine ⟨_, rfl, _, rfl, p, C, dx5, _, _, rfl, h15, KC.cl, KC.na _ (by simp), rfl, ca, lo, _, _, rfl, SqL.of hca5, SqL.of CA5.co, ?_⟩
      refine for_sq (sq_zip (a := ca) (b := lo) (xs := ts.map V.ref) (ys := colV cl.length col) (by rw [hlen, colV_len])) (fun i σ H' => ∃ a b c, σ = [some (.ref ra), some (.int sl), some (.ref fa), a, b, some (.ref ca), some (.ref p), y, c, some (.ref D), none, none, none] ∧ Fr T [] H4 H' ∧ H' D = some (.lst (cs.map V.ref)) ∧ RL H' cs (planAt (gl cl) col i)) ⟨none, none, none, rfl, fr5, hDs, hRL5⟩
        (fun i σ H' _ ⟨_, _, _, _, fr, _⟩ => ⟨SqL.of (fr.lst (fr4.lst hca)), SqL.of (CA4.fr fr).co⟩) ?_ ?_
      · rintro i x σ H6 H6' hi ⟨a, b, c0, rfl, fr6, hD6, hnd, hRL⟩ ⟨t, y1, y2, rfl, ht, rfl, hy1, hy2⟩
        obtain ⟨bn, hbn, rfl⟩ := getRef hy1
        have hiN : i < cl.length := by rw [← hlen]; exact hi
        obtain ⟨c, hcs, hci⟩ := hcol4 i hiN
        have ey2 : y2 = .int (c : Nat) := by
          rw [colV_at hiN, hci] at hy2
          exact (Option.some.inj hy2).symm
        subst ey2
        have frt : Fr T [] H4 (upd H6 t (.tup [.ref bn, .int (c : Nat)])) := fr6.andNew ht
        have hbt := frt.tup _ _ (fr4.tup _ _ (htp2 i bn hbn))
        have nDt : D ≠ t := ne_of_none hD6 ht
        obtain ⟨bc, hbc⟩ : ∃ bc, cs[c]? = some bc := ⟨_, List.getElem?_eq_getElem (by rw [hl5]; exact hcs)⟩
        have hrow6 := hRL c bc hbc
        have nbt : bc ≠ t := ne_of_none hrow6.1 ht
        have nDb : D ≠ bc := fun z => nDc (by rw [z]; exact List.mem_of_getElem? hbc)
        have hgi := hg i hiN
        refine ⟨t, _, rfl, SqT.of upd_same, rfl, _, _, rfl, ⟨bn, _, rfl, SqT.of hbt, rfl, _, _, rfl, _, _, rfl, rfl, _, _, rfl, rfl, ?_⟩⟩
        refine ⟨_, rfl, _, rfl, _, rfl, D, _, _, _, rfl, rfl, SqL.of (by rw [upd_ne nDt]; exact hD6), at_of (j := c) rfl (by rw [List.getElem?_map, hbc]; rfl), _, rfl, bc, _, _, gl cl 0 i, rfl, rfl, (by rw [upd_ne nbt]; exact hrow6.1), ?_, ?_⟩
        · unfold ixN
          rw [if_pos (by omega), if_pos (by rw [colV_len]; omega)]
          simp
        · rw [show V.int ((gl cl 1 i : Nat) : Int) = oV (some (gl cl 1 i)) from rfl, colV_set hgi.1]
          refine ⟨_, _, _, rfl, Fr.own frt hrow6.2 (by rw [upd_ne nbt]; exact hrow6.1) (.lst _), by rw [upd_ne nDb, upd_ne nDt]; exact hD6, hnd, fun t' b' hb' => ?_⟩
          by_cases e : t' = c
          · subst e
            rw [hbc] at hb'
            have eb : bc = b' := Option.some.inj hb'
            subst eb
            refine ⟨?_, hrow6.2⟩
            rw [upd_same]
            refine congrArg (fun l => some (HO.lst l)) (colV_congr fun n hn => ?_)
            show (if n = gl cl 0 i then some (gl cl 1 i) else planAt (gl cl) col i t' n) = (if col i = some t' ∧ gl cl 0 i = n then some (gl cl 1 i) else planAt (gl cl) col i t' n)
            by_cases en : n = gl cl 0 i
            · rw [if_pos en, if_pos ⟨hci, en.symm⟩]
            · rw [if_neg en, if_neg (fun z => en z.2.symm)]
          · obtain ⟨e1, e2⟩ := hRL t' b' hb'
            have nbb : b' ≠ bc := fun z => by
              rw [z] at hb'
              exact e (nd_ix hnd hb' hbc)
            refine ⟨?_, e2⟩
            rw [upd_ne nbb, upd_ne (ne_of_none e1 ht), e1]
            refine congrArg (fun l => some (HO.lst l)) (colV_congr fun n hn => ?_)
            show planAt (gl cl) col i t' n = (if col i = some t' ∧ gl cl 0 i = n then some (gl cl 1 i) else planAt (gl cl) col i t' n)
            rw [if_neg fun z => e (Option.some.inj (hci.symm.trans z.1)).symm]
      · rintro σ H6 ⟨a, b, c0, rfl, fr6, hD6, hRL⟩
        rw [hlen] at hRL
        exact ⟨rfl, rfl, fr6, hD6, hRL⟩
    rintro σ6 H6 ⟨h9, hσl, fr6, hD6, hnd6, hRL6⟩
    have hok := plan_ok hp4 hcol4 hg hcnt
    -- the rows as tuples
    have h9' : (wipe σ6 [10])[9]? = some (some (.ref D)) := by rw [wipe_out (by decide)]; exact h9
    refine ⟨_, h9, D, rfl, ⟨_, SqL.of hD6⟩, fun D2 hD2 => ?_⟩
    have nDD : D ≠ D2 := ne_of_none hD6 hD2
    refine lc_sq (sq_list (xs := cs.map V.ref)) (fun i H' => ∃ ds : List Addr, H' D2 = some (.lst (ds.map V.ref)) ∧ Fr T [] H6 H' ∧ ds.length = i ∧ ∀ (t : Nat) b, ds[t]? = some b → H' b = some (.tup (colV m (planAt (gl cl) col cl.length t)))) ⟨[], upd_same, Fr.new hD2, rfl, fun t b h => by cases h⟩ (fun i H' _ ⟨_, _, fr, _⟩ => SqL.of (fr.lst hD6)) ?_ ?_
    · rintro i x H7 H7' hi ⟨ds, hDs7, fr7, hl7, hds⟩ ⟨hx, rfl⟩
      obtain ⟨b, hb', rfl⟩ := getRef hx
      have hiS : i < sl := by rw [← hl5, ← List.length_map (f := V.ref)]; exact hi
      have hlen10 : 10 < (wipe σ6 [10]).length := by rw [wipe_length, hσl]; decide
      refine ⟨?_, .ref b, ?_, b, _, rfl, .inl ⟨SqL.of (fr7.lst (hRL6 i b hb').1), fun q hq => ?_⟩⟩
      · show (wipe σ6 [10] |>.set 10 (some (V.ref b))).set 10 none = _
        rw [List.set_set]
        show (σ6.set 10 none).set 10 none = σ6.set 10 none
        rw [List.set_set]
      · exact List.getElem?_set_self hlen10
      · have nq : D2 ≠ q := ne_of_none hDs7 hq
        refine ⟨_, by rw [upd_ne nq]; exact hDs7, by rw [List.length_map, hl7]; exact small1000 (by omega), ds ++ [q], by rw [upd_same, List.map_append]; rfl, Fr.own (fr7.andNew hq) hD2 (by rw [upd_ne nq]; exact hDs7) (.lst _), by simp [hl7], fun t b' ht => ?_⟩
        have key : ∀ c r, H7' c = some (.tup r) → upd (upd H7' q (.tup (colV m (planAt (gl cl) col cl.length i)))) D2 (.lst (ds.map V.ref ++ [.ref q])) c = some (.tup r) := fun c r h => by
          rw [upd_ne (fun z => by rw [z, hDs7] at h; cases h), upd_ne (ne_of_none h hq)]
          exact h
        rcases Nat.lt_or_ge t ds.length with ht' | ht'
        · rw [List.getElem?_append_left ht'] at ht
          exact key _ _ (hds t b' ht)
        · have e0 : t = ds.length := by
            have := (List.getElem?_eq_some_iff.mp ht).1
            simp at this
            omega
          rw [e0, List.getElem?_append_right (Nat.le_refl _), Nat.sub_self] at ht
          have eb : q = b' := Option.some.inj ht
          subst eb
          rw [e0, hl7, upd_ne nq.symm, upd_same]
    · rintro H7 ⟨ds, hDs7, fr7, hl7, hds⟩
      refine ⟨D2, _, rfl, .inl ⟨SqL.of hDs7, fun l hl => ?_⟩⟩
      refine k l _ _ (((fr1.trans fr2).trans fr4).trans ((fr6.trans fr7).andNew hl)) ⟨ds, upd_same, ?_, fun t b ht => ?_⟩ hok
      · rw [hl7, List.length_map, hl5]
      · rw [upd_ne (ne_of_none (hds t b ht) hl)]
        exact hds t b ht
end
end KX
set_option Elab.async false
set_option linter.all false
set_option maxRecDepth 100000
set_option maxHeartbeats 4000000
/-! KX 9: served, least_served. -/
namespace KX
open PySem PySem.Spec PyProof.Rows L2 GX
/-- is slot s of the plan one's for the gate -/
def hit (pl : Nat → Nat → Option Nat) (sl one gate s : Nat) : Nat := if pl (s % sl) one = some gate then 1 else 0
/-- served slots from start on -/
def srv (pl : Nat → Nat → Option Nat) (sl one gate start k : Nat) : Nat := sm k fun i => hit pl sl one gate (start + i)
theorem srv_le (pl : Nat → Nat → Option Nat) (sl one gate start k : Nat) : srv pl sl one gate start k ≤ k := by
  have := sm_le (n := k) (B := 1) (f := fun i => hit pl sl one gate (start + i)) fun i _ => by unfold hit; split <;> omega
  unfold srv
  omega
def spServed (T : Tb) : Sp := fun vs H Q _ => ∃ (pa : Addr) (m sl : Nat) (pl : Nat → Nat → Option Nat) (one gate start k : Nat), vs = [.ref pa, .int one, .int gate, .int start, .int k] ∧ TbOk T H ∧ PlanAt H pa m sl pl ∧ one < m ∧ 0 < sl ∧ sl ≤ 1000 ∧ start ≤ 100000 ∧ k ≤ 100000 ∧
  ∀ H', Fr T [] H H' → Q (.int (srv pl sl one gate start k : Nat)) H'
abbrev sServed : Stmt := top 22
abbrev nServed : List Str := ["plan", "one", "gate", "start", "slots", "slot"]
theorem scServed : FnScope nServed ["plan", "one", "gate", "start", "slots"] (defScope sServed) := ⟨rfl, rfl, rfl, by decide +kernel, rfl, by decide +kernel, by decide +kernel⟩
section
variable {P : Program} {w : World} {K : PySem.W.Frag} {mg : Str → Option Value} {base : Heap} {T : Tb}
theorem ok_served {f c : Addr} {fd : FuncData} (F : FunC K "served" "served" sServed f fd c) (CO : CodeOf base mg c T.served) (B : Bl mg) : FnOk P w K mg base CX0 2 f fd ["plan", "one", "gate", "start", "slots"] (spServed T) := by
  have nd := scServed.nd
  refine F.ok scServed (fun vs H Q E h => ?_) (fun A outer s0 H vs Q E hr h => ?_)
  · obtain ⟨pa, m, sl, pl, one, gate, start, k, rfl, _⟩ := h
    rfl
  · obtain ⟨pa, m, sl, pl, one, gate, start, k, rfl, hT, hP, hone, hsl0, hsl, hst, hk, q⟩ := h
    refine ⟨_, pss_one (ps_ret (pe_sumG (av := T.streams) (d := 0) (k := 0) (own := [("slot", 5)]) (g := gName 5) (tt := tTest (tOp rEq (tOp (rIxT K) (tOp (rIxT K) (tVar 0) (tOp (rI (fun _ j => 0 < j) fun i j => .int (i % j)) (tVar 5) (tCB (rLen K) (tCons (tVar 0) tNil)))) (tVar 1)) (tVar 2))) (te := fun _ => tC (.int 1))
      hr CO.bm rfl B.sum nd (pi_range2 rfl B.range (pa_cons (pv 3) (pa_cons (pe_op op_add (pv 3) (pv 4)) pa_nil))) (blkOk_by (N := nServed) (sc := defScope sServed) (by decide +kernel)) rfl rfl (fun _ _ _ _ _ _ _ => pg_name (i := 5) nd rfl (Or.inl rfl))
      (fun _ _ _ _ _ _ _ _ => pts_one (pt_cmpR op_eq (pe_ix ix_tup (pe_ix ix_tup (pv 0) (pe_op op_mod (pv 5) (pe_callB call_lenS (by rfl) B.len boot_len (pa_cons (pv 0) pa_nil))) (fun _ _ => rfl)) (pv 1) (fun _ _ => rfl)) (pv 2) rfl)) (fun _ _ _ _ _ _ _ _ => pe_int))), ?_⟩
    obtain ⟨bs, hpa, hbl, hrow⟩ := hP.ex
    refine ⟨_, rfl, _, rfl, _, rfl, _, _, rfl, rfl, _, _, rfl, ⟨by omega, by omega, by omega, by omega⟩, c, T.served, rfl, .inl CO.hd, hT.served, fun cv H1 g1 => ?_⟩
    have fr1 : Fr T [] H H1 := Fr.grown g1 fun t => t.n4
    have e1 : ((start : Int) + k - start).toNat = k := by omega
    rw [e1]
    refine sum_sq (sq_rng (lo := (start : Int)) (n := k)) (fun i => ((srv pl sl one gate start i : Nat) : Int)) rfl (fun _ H' => Fr T [] H H') fr1 (fun _ _ _ _ => trivial) ?_ ?_
    · rintro i x H2 H2' hi fr2 ⟨rfl, rfl⟩ N hN
      have hlen : (bs.map V.ref).length = sl := by rw [List.length_map]; exact hbl
      have hmod : (start + i) % sl < sl := Nat.mod_lt _ hsl0
      obtain ⟨b, hb⟩ : ∃ b, bs[(start + i) % sl]? = some b := ⟨_, List.getElem?_eq_getElem (by rw [hbl]; exact hmod)⟩
      have hx : ((start : Int) + (i : Nat)) % ((bs.map V.ref).length : Nat) = (((start + i) % sl : Nat) : Int) := by
        rw [hlen, show (start : Int) + (i : Nat) = ((start + i : Nat) : Int) by omega]
        rfl
      have srvS : srv pl sl one gate start (i + 1) = srv pl sl one gate start i + hit pl sl one gate (start + i) := rfl
      have sb := srv_le pl sl one gate start i
      have hN' := hN H2' fr2
      refine ⟨rfl, _, rfl, _, rfl, _, rfl, pa, _, rfl, .inr (SqT.of (fr2.tup _ _ hpa)), _, _, rfl, rfl, (by rw [hlen]; omega), pa, _, _, .ref b, rfl, rfl, SqT.of (fr2.tup _ _ hpa), at_of (j := (start + i) % sl) hx (by rw [List.getElem?_map, hb]; rfl), _, rfl, b, _, _, _, rfl, rfl, SqT.of (fr2.tup _ _ (hrow _ b hb)), at_of (j := one) rfl (colV_at hone), _, rfl, eq_oV.1, _, rfl, ?_⟩
      rw [eq_oV.2]
      by_cases e : pl ((start + i) % sl) one = some gate
      · rw [decide_eq_true e]
        have eh : hit pl sl one gate (start + i) = 1 := by unfold hit; rw [if_pos e]
        exact sumStep (Q := fun _ _ => True) (v := 1) rfl (by rw [srvS, eh]; omega) ⟨by omega, by omega⟩ ⟨by omega, by omega⟩ hN'
      · rw [decide_eq_false e]
        have eh : hit pl sl one gate (start + i) = 0 := by unfold hit; rw [if_neg e]
        rw [srvS, eh] at hN'
        exact hN'
    · intro H2 fr2
      exact q H2 fr2
end
/-- the least of n values -/
def minS : Nat → (Nat → Nat) → Nat
  | 0, _ => 0
  | 1, f => f 0
  | n + 2, f => Nat.min (minS (n + 1) f) (f (n + 1))
theorem minS_spec (f : Nat → Nat) : ∀ n, (∀ i, i < n + 1 → minS (n + 1) f ≤ f i) ∧ ∃ i, i < n + 1 ∧ minS (n + 1) f = f i := by
  intro n
  induction n with
  | zero =>
    refine ⟨fun i hi => ?_, 0, by omega, rfl⟩
    have e0 : i = 0 := by omega
    rw [e0]
    exact Nat.le_refl _
  | succ n ih =>
    have e : minS (n + 2) f = Nat.min (minS (n + 1) f) (f (n + 1)) := rfl
    obtain ⟨h1, i, hi, h2⟩ := ih
    refine ⟨fun j hj => ?_, ?_⟩
    · rw [e]
      rcases Nat.lt_succ_iff_lt_or_eq.mp hj with z | z
      · exact Nat.le_trans (Nat.min_le_left _ _) (h1 j z)
      · rw [z]; exact Nat.min_le_right _ _
    · rw [e]
      rcases Nat.le_total (minS (n + 1) f) (f (n + 1)) with z | z
      · exact ⟨i, by omega, (Nat.min_eq_left z).trans h2⟩
      · exact ⟨n + 1, by omega, Nat.min_eq_right z⟩
/-- the fewest served slots among k in a row -/
def lst (pl : Nat → Nat → Option Nat) (sl one gate k : Nat) : Nat := minS sl fun st => srv pl sl one gate st k
def spLeast (T : Tb) : Sp := fun vs H Q _ => ∃ (pa : Addr) (m sl : Nat) (pl : Nat → Nat → Option Nat) (one gate k : Nat), vs = [.ref pa, .int one, .int gate, .int k] ∧ TbOk T H ∧ PlanAt H pa m sl pl ∧ one < m ∧ 0 < sl ∧ sl ≤ 1000 ∧ k ≤ 100000 ∧
  ∀ H', Fr T [] H H' → Q (.int (lst pl sl one gate k : Nat)) H'
abbrev sLeast : Stmt := top 23
abbrev nLeast : List Str := ["plan", "one", "gate", "slots", "start"]
theorem scLeast : FnScope nLeast ["plan", "one", "gate", "slots"] (defScope sLeast) := ⟨rfl, rfl, rfl, by decide +kernel, rfl, by decide +kernel, by decide +kernel⟩
section
variable {P : Program} {w : World} {K : PySem.W.Frag} {mg : Str → Option Value} {base : Heap} {T : Tb}
theorem ok_least {f fS : Addr} {fd fdS : FuncData} (F : Fun K "least_served" "least_served" sLeast f fd) (B : Bl mg) (GS : FnOk P w K mg base CX0 2 fS fdS ["plan", "one", "gate", "start", "slots"] (spServed T)) (mS : mg "served" = some (.ref fS)) (kS : PySem.W.keepIn K (.ref fS) = true) (bS : Binds K fdS ["plan", "one", "gate", "start", "slots"] []) :
    FnOk P w K mg base CX0 3 f fd ["plan", "one", "gate", "slots"] (spLeast T) := by
  have nd := scLeast.nd
  refine F.ok scLeast (fun vs H Q E h => ?_) (fun cdv A outer s0 H vs Q E hr h => ?_)
  · obtain ⟨pa, m, sl, pl, one, gate, k, rfl, _⟩ := h
    rfl
  · obtain ⟨pa, m, sl, pl, one, gate, k, rfl, hT, hP, hone, hsl0, hsl, hk, q⟩ := h
    refine ⟨_, pss_one (ps_ret (pe_callBK (cr_minD rfl hr.units) rfl B.min boot_min (pa_cons (pe_lc (own := [("start", 4)]) (g := gName 4) (tt := tYes) (te := tCall (spServed T) [] E0 (tCons (tVar 0) (tCons (tVar 1) (tCons (tVar 2) (tCons (tVar 4) (tCons (tVar 3) tNil)))))) rfl nd (pi_range1 rfl B.range (pa_cons (pe_callB call_lenS (by rfl) B.len boot_len (pa_cons (pv 0) pa_nil)) pa_nil))
      (blkOk_by (N := nLeast) (sc := defScope sLeast) (by decide +kernel)) (fun _ _ _ _ _ => pg_name (i := 4) nd rfl (Or.inl rfl)) (fun _ _ _ _ _ => pts_nil) (fun _ _ _ _ _ => pe_call GS hr rfl mS kS bS .nil pass0 (pa_cons (pv 0) (pa_cons (pv 1) (pa_cons (pv 2) (pa_cons (pv 4) (pa_cons (pv 3) pa_nil))))))) pa_nil) (pk_cons pe_int pk_nil))), ?_⟩
    obtain ⟨bs, hpa, hbl, hrow⟩ := hP.ex
    have hlen : (bs.map V.ref).length = sl := by rw [List.length_map]; exact hbl
    refine ⟨_, rfl, pa, _, rfl, .inr (SqT.of hpa), _, rfl, (by omega), (by rw [hlen]; omega), fun D hD => ?_⟩
    rw [hlen, show (((sl : Nat) : Int)).toNat = sl by omega]
    refine lc_sq (sq_rng (lo := 0) (n := sl)) (fun i H' => Fr T [] H H' ∧ H' D = some (.lst ((rowI i fun st => srv pl sl one gate st k).map V.int))) ⟨Fr.new hD, upd_same⟩ (fun _ _ _ _ => trivial) ?_ ?_
    · rintro i x H1 H1' hi ⟨fr1, hD1⟩ ⟨hx, rfl⟩
      have ex : x = .int (i : Nat) := by rw [hx]; congr 1; omega
      subst ex
      refine ⟨rfl, _, rfl, _, rfl, _, rfl, _, rfl, _, rfl, ?_⟩
      refine ⟨pa, m, sl, pl, one, gate, i, k, rfl, fr1.tb hT, hP.fr fr1, hone, hsl0, hsl, (by omega), hk, fun H2 fr2 => ?_⟩
      refine ⟨_, fr2.lst hD1, by rw [List.length_map]; simp [rowI]; exact small1000 (by omega), (fr1.trans fr2).own hD (fr2.lst hD1) (.lst _), ?_⟩
      rw [upd_same]
      have e : rowI (i + 1) (fun st => srv pl sl one gate st k) = rowI i (fun st => srv pl sl one gate st k) ++ [((srv pl sl one gate i k : Nat) : Int)] := by simp [rowI, List.range_succ]
      rw [e, List.map_append]
      rfl
    · rintro H1 ⟨fr1, hD1⟩
      refine ⟨D, rowI sl fun st => srv pl sl one gate st k, .int 0, rfl, rfl, SqL.of hD1, (by simp [rowI]; exact hsl0), fun v hv hall => ?_⟩
      obtain ⟨n, rfl⟩ : ∃ n, sl = n + 1 := ⟨sl - 1, by omega⟩
      have sp := minS_spec (fun st => srv pl (n + 1) one gate st k) n
      have ev : v = ((lst pl (n + 1) one gate k : Nat) : Int) := by
        obtain ⟨i, hi, hmin⟩ := sp.2
        have h1 : v ≤ ((srv pl (n + 1) one gate i k : Nat) : Int) := hall _ (by
          unfold rowI
          exact List.mem_map.mpr ⟨i, List.mem_range.mpr hi, rfl⟩)
        obtain ⟨j, hj, hvj⟩ : ∃ j, j < n + 1 ∧ v = ((srv pl (n + 1) one gate j k : Nat) : Int) := by
          unfold rowI at hv
          obtain ⟨j, hj, e⟩ := List.mem_map.mp hv
          exact ⟨j, List.mem_range.mp hj, e.symm⟩
        have h2 := sp.1 j hj
        unfold lst
        have h3 : minS (n + 1) (fun st => srv pl (n + 1) one gate st k) = srv pl (n + 1) one gate i k := hmin
        have h4 : minS (n + 1) (fun st => srv pl (n + 1) one gate st k) ≤ srv pl (n + 1) one gate j k := h2
        omega
      rw [ev]
      exact q H1 fr1
end
end KX
set_option Elab.async false
set_option linter.all false
set_option maxRecDepth 100000
set_option maxHeartbeats 4000000
/-! KX 10: buckets, streams, curves. -/
namespace KX
open PySem PySem.Spec PyProof.Rows L2 GX
theorem inLine {n : Nat} (h : n ≤ 100000) : n < sizeLine := Nat.lt_of_lt_of_le (Nat.lt_succ_of_le h) (by decide)
theorem yRg0 {i : Nat} {x : V} {H H' : Hp} (y : yRg 0 i x H H') : x = .int (i : Nat) ∧ H' = H := ⟨by rw [y.1]; congr 1; omega, y.2⟩
/-! ### Bucket -/
abbrev aBucket : List Str := ["burst", "rate", "marks"]
def fsBk (burst rate : Nat) (marks : Int) : List (Str × V) := [(("burst" : Str), .int burst), (("rate" : Str), .int rate), (("marks" : Str), .int marks)]
def spBI (T : Tb) (C : Addr) : Sp := fun vs H Q _ => ∃ (p dx : Addr) (burst rate : Nat), vs = [.ref p, .int burst, .int rate] ∧ H p = some (.ins C dx []) ∧
  ∀ H', Fr T [p] H H' → H' p = some (.ins C dx (fsBk burst rate burst)) → Q .non H'
abbrev sBI : Stmt := inClass (top 10) 0
theorem scBI : FnScope ["self", "burst", "rate"] ["self", "burst", "rate"] (defScope sBI) := ⟨rfl, rfl, rfl, by decide +kernel, rfl, by decide +kernel, by decide +kernel⟩
/-- what is left of marks, and whether the count is let in -/
def mid (burst rate : Nat) (marks : Int) : Int := (if marks < burst then marks else burst) + rate
def takes (burst rate : Nat) (marks : Int) (count : Nat) : Bool := decide ((count : Int) ≤ mid burst rate marks)
def marksAfter (burst rate : Nat) (marks : Int) (count : Nat) : Int :=
  let k := if (count : Int) ≤ mid burst rate marks then mid burst rate marks - count else mid burst rate marks
  if k < burst then k else burst
def spTake (T : Tb) (C : Addr) : Sp := fun vs H Q _ => ∃ (p dx : Addr) (burst rate : Nat) (marks : Int) (count : Nat), vs = [.ref p, .int count] ∧ H p = some (.ins C dx (fsBk burst rate marks)) ∧
  ∀ H', Fr T [p] H H' → H' p = some (.ins C dx (fsBk burst rate (marksAfter burst rate marks count))) → Q (.bl (takes burst rate marks count)) H'
abbrev sTake : Stmt := inClass (top 10) 1
theorem scTake : FnScope ["self", "count"] ["self", "count"] (defScope sTake) := ⟨rfl, rfl, rfl, by decide +kernel, rfl, by decide +kernel, by decide +kernel⟩
def rMin2 : List V → Hp → VK → Prop := fun xs H Q => ∃ i j, xs = [.int i, .int j] ∧ Q (.int (if j < i then j else i)) H
def rMax2 : List V → Hp → VK → Prop := fun xs H Q => ∃ i j, xs = [.int i, .int j] ∧ Q (.int (if j > i then j else i)) H
section
variable {P : Program} {w : World} {K : PySem.W.Frag} {mg : Str → Option Value} {base : Heap} {T : Tb}
theorem ok_bi {f C : Addr} {fd : FuncData} (F : Fun K "__init__" "Bucket.__init__" sBI f fd) (KB : Kl K C aBucket) : FnOk P w K mg base CX0 1 f fd ["self", "burst", "rate"] (spBI T C) := by
  have nd := scBI.nd
  refine F.ok scBI (fun vs H Q E h => ?_) (fun cdv A outer s0 H vs Q E hr h => ?_)
  · obtain ⟨p, dx, burst, rate, rfl, _⟩ := h
    rfl
  · obtain ⟨p, dx, burst, rate, rfl, hp, k⟩ := h
    refine ⟨_, pss_cons (ps_if (pt_or (pt_cmpR op_lt (pv 1) pe_int rfl) (pt_cmpR op_lt (pv 2) pe_int rfl)) pss_never pss_nil)
      (pss_cons (ps_fld (pv 0) (pv 1) rfl) (pss_cons (ps_fld (pv 0) (pv 2) rfl) (pss_one (ps_fld (pv 0) (pv 1) rfl)))), ?_⟩
    refine ⟨_, rfl, _, _, rfl, rfl, false, congrArg V.bl (decide_eq_false (by omega)), _, rfl, _, _, rfl, rfl, false, congrArg V.bl (decide_eq_false (by omega)), ?_⟩
    refine ⟨_, rfl, _, rfl, p, C, dx, [], rfl, hp, KB.cl, KB.na _ (by simp), (by show 0 < 1000; decide), ?_⟩
    refine ⟨_, rfl, _, rfl, p, C, dx, _, rfl, upd_same, KB.cl, KB.na _ (by simp), (by show 1 < 1000; decide), ?_⟩
    rw [putF_to (show putG "rate" (.int rate) (putF "burst" (V.int burst) []) = [(("burst" : Str), .int burst), (("rate" : Str), .int rate)] from rfl), upd_upd]
    refine ⟨_, rfl, _, rfl, p, C, dx, _, rfl, upd_same, KB.cl, KB.na _ (by simp), (by show 2 < 1000; decide), ?_⟩
    rw [putF_to (show putG "marks" (.int burst) [(("burst" : Str), V.int burst), (("rate" : Str), .int rate)] = fsBk burst rate burst from rfl), upd_upd]
    exact k _ (Fr.set (List.mem_singleton.mpr rfl) hp (.ins _ _ _)) upd_same
theorem ok_take {f C : Addr} {fd : FuncData} (F : Fun K "take" "Bucket.take" sTake f fd) (B : Bl mg) (KB : Kl K C aBucket) : FnOk P w K mg base CX0 1 f fd ["self", "count"] (spTake T C) := by
  have nd := scTake.nd
  refine F.ok scTake (fun vs H Q E h => ?_) (fun cdv A outer s0 H vs Q E hr h => ?_)
  · obtain ⟨p, dx, burst, rate, marks, count, rfl, _⟩ := h
    rfl
  · obtain ⟨p, dx, burst, rate, marks, count, rfl, hp, k⟩ := h
    have cm : ∀ {X : Cx}, X.calm = true → CallR X (.builtin "min") rMin2 := fun hc => call_min2 hc
    refine ⟨_, pss_cons (ps_fld (pv 0) (pe_op op_add (pe_callB (cm rfl) (by rfl) B.min boot_min (pa_cons (pe_fld (pv 0) rfl) (pa_cons (pe_fld (pv 0) rfl) pa_nil))) (pe_fld (pv 0) rfl)) rfl)
      (pss_cons (ps_if (pt_cmpR op_gt (pv 1) (pe_fld (pv 0) rfl) rfl) (pss_cons (ps_fld (pv 0) (pe_callB (cm rfl) (by rfl) B.min boot_min (pa_cons (pe_fld (pv 0) rfl) (pa_cons (pe_fld (pv 0) rfl) pa_nil))) rfl) (pss_one (ps_ret pe_bl))) pss_nil)
      (pss_cons (ps_fld (pv 0) (pe_callB (cm rfl) (by rfl) B.min boot_min (pa_cons (pe_fld (pv 0) rfl) (pa_cons (pe_op op_sub (pe_fld (pv 0) rfl) (pv 1)) pa_nil))) rfl) (pss_one (ps_ret pe_bl)))), ?_⟩
    refine ⟨_, rfl, p, C, dx, _, _, rfl, hp, KB.cl, KB.na _ (by simp), rfl, _, rfl, p, C, dx, _, _, rfl, hp, KB.cl, KB.na _ (by simp), rfl, _, _, rfl, _, rfl, p, C, dx, _, _, rfl, hp, KB.cl, KB.na _ (by simp), rfl, _, _, rfl, rfl, _, rfl, p, C, dx, _, rfl, hp, KB.cl, KB.na _ (by simp), (by show 3 < 1000; decide), ?_⟩
    have e1 : ((if marks < (burst : Int) then marks else (burst : Int)) + rate) = mid burst rate marks := rfl
    rw [putF_to (show putG "marks" (.int ((if marks < (burst : Int) then marks else (burst : Int)) + rate)) (fsBk burst rate marks) = fsBk burst rate (mid burst rate marks) from rfl)]
    have hp1 : upd H p (.ins C dx (fsBk burst rate (mid burst rate marks))) p = some (.ins C dx (fsBk burst rate (mid burst rate marks))) := upd_same
    refine ⟨_, rfl, _, rfl, p, C, dx, _, _, rfl, hp1, KB.cl, KB.na _ (by simp), rfl, _, _, rfl, rfl, _, rfl, ?_⟩
    by_cases e : (count : Int) ≤ mid burst rate marks
    · rw [decide_eq_false (show ¬ mid burst rate marks < (count : Int) by omega)]
      refine ⟨_, rfl, p, C, dx, _, _, rfl, hp1, KB.cl, KB.na _ (by simp), rfl, _, rfl, p, C, dx, _, _, rfl, hp1, KB.cl, KB.na _ (by simp), rfl, _, rfl, _, _, rfl, rfl, _, _, rfl, _, rfl, p, C, dx, _, rfl, hp1, KB.cl, KB.na _ (by simp), (by show 3 < 1000; decide), ?_⟩
      rw [putF_to (show putG "marks" (.int (if mid burst rate marks - count < (burst : Int) then mid burst rate marks - count else (burst : Int))) (fsBk burst rate (mid burst rate marks)) = fsBk burst rate (if mid burst rate marks - count < (burst : Int) then mid burst rate marks - count else (burst : Int)) from rfl), upd_upd]
      have k2 := k (upd H p (.ins C dx (fsBk burst rate (marksAfter burst rate marks count)))) (Fr.set (List.mem_singleton.mpr rfl) hp (.ins _ _ _)) upd_same
      unfold marksAfter takes at k2
      rw [if_pos e, decide_eq_true e] at k2
      exact k2
    · rw [decide_eq_true (show mid burst rate marks < (count : Int) by omega)]
      refine ⟨_, rfl, p, C, dx, _, _, rfl, hp1, KB.cl, KB.na _ (by simp), rfl, _, rfl, p, C, dx, _, _, rfl, hp1, KB.cl, KB.na _ (by simp), rfl, _, _, rfl, _, rfl, p, C, dx, _, rfl, hp1, KB.cl, KB.na _ (by simp), (by show 3 < 1000; decide), ?_⟩
      rw [putF_to (show putG "marks" (.int (if mid burst rate marks < (burst : Int) then mid burst rate marks else (burst : Int))) (fsBk burst rate (mid burst rate marks)) = fsBk burst rate (if mid burst rate marks < (burst : Int) then mid burst rate marks else (burst : Int)) from rfl), upd_upd]
      have k2 := k (upd H p (.ins C dx (fsBk burst rate (marksAfter burst rate marks count)))) (Fr.set (List.mem_singleton.mpr rfl) hp (.ins _ _ _)) upd_same
      unfold marksAfter takes at k2
      rw [if_neg e, decide_eq_false e] at k2
      exact k2
end
/-! ### Stream -/
structure St4 where
  one : Nat
  gate : Nat
  burst : Nat
  rate : Nat
abbrev aStream : List Str := ["one", "gate", "burst", "rate"]
def fsSt (z : St4) : List (Str × V) := [(("one" : Str), .int z.one), (("gate" : Str), .int z.gate), (("burst" : Str), .int z.burst), (("rate" : Str), .int z.rate)]
def spSI (T : Tb) (C : Addr) : Sp := fun vs H Q _ => ∃ (p dx : Addr) (z : St4), vs = [.ref p, .int z.one, .int z.gate, .int z.burst, .int z.rate] ∧ H p = some (.ins C dx []) ∧
  ∀ H', Fr T [p] H H' → H' p = some (.ins C dx (fsSt z)) → Q .non H'
abbrev sSI : Stmt := inClass (top 25) 0
abbrev nSI : List Str := ["self", "one", "gate", "burst", "rate"]
theorem scSI : FnScope nSI ["self", "one", "gate", "burst", "rate"] (defScope sSI) := ⟨rfl, rfl, rfl, by decide +kernel, rfl, by decide +kernel, by decide +kernel⟩
section
variable {P : Program} {w : World} {K : PySem.W.Frag} {mg : Str → Option Value} {base : Heap} {T : Tb}
theorem ok_si {f C : Addr} {fd : FuncData} (F : Fun K "__init__" "Stream.__init__" sSI f fd) (KS : Kl K C aStream) : FnOk P w K mg base CX0 1 f fd ["self", "one", "gate", "burst", "rate"] (spSI T C) := by
  have nd := scSI.nd
  refine F.ok scSI (fun vs H Q E h => ?_) (fun cdv A outer s0 H vs Q E hr h => ?_)
  · obtain ⟨p, dx, z, rfl, _⟩ := h
    rfl
  · obtain ⟨p, dx, z, rfl, hp, k⟩ := h
    refine ⟨_, pss_cons (ps_fld (pv 0) (pv 1) rfl) (pss_cons (ps_fld (pv 0) (pv 2) rfl) (pss_cons (ps_fld (pv 0) (pv 3) rfl) (pss_one (ps_fld (pv 0) (pv 4) rfl)))), ?_⟩
    refine ⟨_, rfl, _, rfl, p, C, dx, [], rfl, hp, KS.cl, KS.na _ (by simp), (by show 0 < 1000; decide), ?_⟩
    refine ⟨_, rfl, _, rfl, p, C, dx, _, rfl, upd_same, KS.cl, KS.na _ (by simp), (by show 1 < 1000; decide), ?_⟩
    rw [putF_to (show putG "gate" (.int z.gate) (putF "one" (V.int z.one) []) = [(("one" : Str), .int z.one), (("gate" : Str), .int z.gate)] from rfl), upd_upd]
    refine ⟨_, rfl, _, rfl, p, C, dx, _, rfl, upd_same, KS.cl, KS.na _ (by simp), (by show 2 < 1000; decide), ?_⟩
    rw [putF_to (show putG "burst" (.int z.burst) [(("one" : Str), V.int z.one), (("gate" : Str), .int z.gate)] = [(("one" : Str), .int z.one), (("gate" : Str), .int z.gate), (("burst" : Str), .int z.burst)] from rfl), upd_upd]
    refine ⟨_, rfl, _, rfl, p, C, dx, _, rfl, upd_same, KS.cl, KS.na _ (by simp), (by show 3 < 1000; decide), ?_⟩
    rw [putF_to (show putG "rate" (.int z.rate) [(("one" : Str), V.int z.one), (("gate" : Str), .int z.gate), (("burst" : Str), .int z.burst)] = fsSt z from rfl), upd_upd]
    exact k _ (Fr.set (List.mem_singleton.mpr rfl) hp (.ins _ _ _)) upd_same
end
end KX
set_option Elab.async false
set_option linter.all false
set_option maxRecDepth 100000
set_option maxHeartbeats 4000000
/-! KX 11: curves. -/
namespace KX
open PySem PySem.Spec PyProof.Rows L2 GX RZ
def cv (b r k : Nat) : Nat := if k = 0 then 0 else b + r * k
def spBC (T : Tb) : Sp := fun vs H Q _ => ∃ (b r n : Nat), vs = [.int b, .int r, .int n] ∧ n ≤ 90000 ∧ r ≤ 100000 ∧
  ∀ a H', Fr T [] H H' → H' a = some (.tup (rowV (n + 1) (cv b r))) → Q (.ref a) H'
abbrev sBC : Stmt := top 14
abbrev nBC : List Str := ["burst", "rate", "slots", "slot"]
theorem scBC : FnScope nBC ["burst", "rate", "slots"] (defScope sBC) := ⟨rfl, rfl, rfl, by decide +kernel, rfl, by decide +kernel, by decide +kernel⟩
theorem rowV_succ (n : Nat) (f : Nat → Nat) : rowV (n + 1) f = rowV n f ++ [.int (f n : Nat)] := by simp [rowV, rowI, List.range_succ]
theorem rowV_shift (n : Nat) (f : Nat → Nat) : rowV (n + 1) f = .int (f 0 : Nat) :: rowV n (fun i => f (i + 1)) := by
  induction n with
  | zero => rfl
  | succ n ih =>
    rw [rowV_succ, ih, rowV_succ]
    rfl
def spMQ (T : Tb) : Sp := fun vs H Q _ => ∃ (a b : Addr) (n : Nat) (c s : Nat → Nat), vs = [.ref a, .ref b] ∧ H a = some (.tup (rowV n c)) ∧ H b = some (.tup (rowV n s)) ∧ 0 < n ∧ n ≤ 90000 ∧
  ∀ (v : Int) H', Fr T [] H H' → (∃ i, i < n ∧ v = (c i : Int) - s i) → (∀ i, i < n → (c i : Int) - s i ≤ v) → Q (.int v) H'
abbrev sMQ : Stmt := top 15
abbrev nMQ : List Str := ["comes", "serves", "come", "serve"]
theorem scMQ : FnScope nMQ ["comes", "serves"] (defScope sMQ) := ⟨rfl, rfl, rfl, by decide +kernel, rfl, by decide +kernel, by decide +kernel⟩
def spMW (T : Tb) : Sp := fun vs H Q _ => ∃ (a b : Addr) (n k : Nat) (c s : Nat → Nat), vs = [.ref a, .ref b] ∧ H a = some (.tup (rowV n c)) ∧ H b = some (.tup (rowV k s)) ∧ n ≤ 90000 ∧ k ≤ 90000 ∧ (∀ i, i < n → ∃ p, p < k ∧ c i ≤ s p) ∧
  ∀ (v : Int) H', Fr T [] H H' → 0 ≤ v → v ≤ k → (∀ i, i < n → ∀ p, p < k → c i ≤ s p → (∀ q, q < p → s q < c i) → (p : Int) - i ≤ v) → Q (.int v) H'
abbrev sMW : Stmt := top 16
abbrev nMW : List Str := ["comes", "serves", "best", "slot", "come", "later", "place"]
theorem scMW : FnScope nMW ["comes", "serves"] (defScope sMW) := ⟨rfl, rfl, rfl, by decide +kernel, rfl, by decide +kernel, by decide +kernel⟩
section
variable {P : Program} {w : World} {K : PySem.W.Frag} {mg : Str → Option Value} {base : Heap} {T : Tb}
theorem ok_bc {f : Addr} {fd : FuncData} (F : Fun K "bucket_curve" "bucket_curve" sBC f fd) (B : Bl mg) : FnOk P w K mg base CX0 1 f fd ["burst", "rate", "slots"] (spBC T) := by
  have nd := scBC.nd
  refine F.ok scBC (fun vs H Q E h => ?_) (fun cdv A outer s0 H vs Q E hr h => ?_)
  · obtain ⟨b, r, n, rfl, _⟩ := h
    rfl
  · obtain ⟨b, r, n, rfl, hn, hrr, k⟩ := h
    refine ⟨_, pss_one (ps_ret (pe_callTy call_tupOf (by rfl) B.tuple boot_tuple (pa_cons (pe_op op_cat (pe_lst (pa_cons pe_int pa_nil)) (pe_lc (own := [("slot", 3)]) (g := gName 3) (tt := tYes) (te := tOp rAddI (tVar 0) (tOp (rI CMul fun i j => .int (i * j)) (tVar 1) (tVar 3))) rfl nd (pi_range2 rfl B.range (pa_cons pe_int (pa_cons (pe_op op_add (pv 2) pe_int) pa_nil)))
      (blkOk_by (N := nBC) (sc := defScope sBC) (by decide +kernel)) (fun _ _ _ _ _ => pg_name (i := 3) nd rfl (Or.inl rfl)) (fun _ _ _ _ _ => pts_nil) (fun _ _ _ _ _ => pe_op op_add (pv 0) (pe_op op_mul (pv 1) (pv 3))))) pa_nil))), ?_⟩
    refine ⟨(by show 1 ≤ sizeLine; decide), fun l hl => ?_⟩
    have fr1 : Fr T [] H (upd H l (.lst [.int 0])) := Fr.new hl
    refine ⟨_, rfl, _, _, rfl, rfl, _, _, rfl, ⟨by omega, by omega, by omega, by omega⟩, fun D hD => ?_⟩
    rw [show (((n : Nat) : Int) + 1 - 1).toNat = n by omega]
    refine lc_sq (sq_rng (lo := 1) (n := n)) (fun i H' => Fr T [] (upd H l (.lst [.int 0])) H' ∧ H' D = some (.lst (rowV i fun i => cv b r (i + 1)))) ⟨Fr.new hD, upd_same⟩ (fun _ _ _ _ => trivial) ?_ ?_
    · rintro i x H1 H1' hi ⟨fr2, hD2⟩ ⟨rfl, rfl⟩
      refine ⟨rfl, _, rfl, _, rfl, _, rfl, _, _, rfl, rfl, .inl ⟨by omega, by omega⟩, _, _, rfl, rfl, ?_⟩
      refine ⟨_, hD2, by rw [rowV_len]; exact inLine (by omega), fr2.own hD hD2 (.lst _), ?_⟩
      rw [upd_same, rowV_succ]
      have e : (b : Int) + r * (1 + (i : Nat)) = ((cv b r (i + 1) : Nat) : Int) := by
        unfold cv
        rw [if_neg (by omega)]
        push_cast
        rw [Int.add_comm 1]
      exact congrArg (fun z => some (HO.lst ((rowV i fun i => cv b r (i + 1)) ++ [V.int z]))) e
    · rintro H1 ⟨fr2, hD2⟩
      have hl1 := fr2.lst (a := l) upd_same
      refine ⟨l, D, _, _, rfl, rfl, hl1, hD2, by rw [rowV_len]; exact Nat.le_of_lt (inLine (by show 1 + n ≤ 100000; omega)), fun q hq => ?_⟩
      refine ⟨q, _, rfl, .inl ⟨SqL.of upd_same, fun t ht => ?_⟩⟩
      refine k t _ (((fr1.trans fr2).andNew hq).andNew ht) ?_
      rw [upd_same, rowV_shift]
      rfl
theorem ok_mq {f : Addr} {fd : FuncData} (F : Fun K "most_queue" "most_queue" sMQ f fd) (B : Bl mg) : FnOk P w K mg base CX0 1 f fd ["comes", "serves"] (spMQ T) := by
  have nd := scMQ.nd
  refine F.ok scMQ (fun vs H Q E h => ?_) (fun cdv A outer s0 H vs Q E hr h => ?_)
  · obtain ⟨a, b, n, c, s, rfl, _⟩ := h
    rfl
  · obtain ⟨a, b, n, c, s, rfl, ha, hb, hn0, hn, k⟩ := h
    refine ⟨_, pss_one (ps_ret (pe_callB (cr_max rfl) (by rfl) B.max boot_max (pa_cons (pe_lc (own := [("come", 2), ("serve", 3)]) (g := gTup K 2 (gCons (gName 2) (gCons (gName 3) gNil))) (tt := tYes) (te := tOp rSubI (tVar 2) (tVar 3)) rfl nd (pi_zipA rfl B.zip (pa_cons (pv 0) (pa_cons (pv 1) pa_nil)))
      (blkOk_by (N := nMQ) (sc := defScope sMQ) (by decide +kernel)) (fun _ _ _ _ _ => pg_tup rfl (pgs_cons (pg_name (i := 2) nd rfl (Or.inl rfl)) (pgs_cons (pg_name (i := 3) nd rfl (Or.inl rfl)) pgs_nil))) (fun _ _ _ _ _ => pts_nil) (fun _ _ _ _ _ => pe_op op_sub (pv 2) (pv 3))) pa_nil))), ?_⟩
    refine ⟨_, rfl, _, rfl, a, b, _, _, rfl, .inr ⟨SqT.of ha, SqT.of hb, fun D hD => ?_⟩⟩
    refine lc_sq (sq_zipT (a := a) (b := b) (xs := rowV n c) (ys := rowV n s) (by rw [rowV_len, rowV_len])) (fun i H' => Fr T [] H H' ∧ H' D = some (.lst (((List.range i).map fun i => (c i : Int) - s i).map V.int))) ⟨Fr.new hD, upd_same⟩ (fun i H' _ p => ⟨SqT.of (p.1.tup _ _ ha), SqT.of (p.1.tup _ _ hb)⟩) ?_ ?_
    · rintro i x H1 H1' hi ⟨fr1, hD1⟩ ⟨t, y1, y2, rfl, ht, rfl, h1, h2⟩
      rw [rowV_len] at hi
      obtain ⟨rfl, _⟩ := rowV_of h1
      obtain ⟨rfl, _⟩ := rowV_of h2
      have nDt := ne_of_none hD1 ht
      refine ⟨t, _, rfl, SqT.of upd_same, rfl, _, _, rfl, _, _, rfl, rfl, rfl, _, rfl, _, rfl, _, _, rfl, rfl, ?_⟩
      refine ⟨_, by rw [upd_ne nDt]; exact hD1, by simp; exact inLine (by omega), Fr.own (fr1.andNew ht) hD (by rw [upd_ne nDt]; exact hD1) (.lst _), ?_⟩
      rw [upd_same, List.range_succ, List.map_append, List.map_append]
      rfl
    · rintro H1 ⟨fr1, hD1⟩
      rw [rowV_len] at hD1
      refine ⟨D, _, rfl, SqL.of hD1, by simp; exact hn0, fun v hv hall => ?_⟩
      obtain ⟨i, hi, e⟩ := List.mem_map.mp hv
      exact k v H1 fr1 ⟨i, List.mem_range.mp hi, e.symm⟩ fun j hj => hall _ (List.mem_map.mpr ⟨j, List.mem_range.mpr hj, rfl⟩)
theorem ok_mw {f : Addr} {fd : FuncData} (F : Fun K "most_wait" "most_wait" sMW f fd) (B : Bl mg) : FnOk P w K mg base CX0 1 f fd ["comes", "serves"] (spMW T) := by
  have nd := scMW.nd
  refine F.ok scMW (fun vs H Q E h => ?_) (fun cdv A outer s0 H vs Q E hr h => ?_)
  · obtain ⟨a, b, n, k, c, s, rfl, _⟩ := h
    rfl
  · obtain ⟨a, b, n, k, c, s, rfl, ha, hb, hn, hk, hex, q⟩ := h
    have cm : ∀ {X : Cx}, X.calm = true → CallR X (.builtin "max") rMax2 := fun hc => call_max2 hc
    refine ⟨_, pss_cons (ps_set (i := 2) nd rfl (Or.inl rfl) pe_int)
      (pss_cons (ps_for PassesOwn.never rfl (pi_enumT rfl B.enumerate (pa_cons (pv 0) pa_nil)) (pg_tup rfl (pgs_cons (pg_name (i := 3) nd rfl (Or.inl rfl)) (pgs_cons (pg_name (i := 4) nd rfl (Or.inr rfl)) pgs_nil)))
        (pss_cons (ps_setLc (i := 5) (own := [("place", 6)]) (g := gName 6) (tt := tTest (tOp rGeI (tOp (rIxT K) (tVar 1) (tVar 6)) (tVar 4))) (te := tVar 6) (by rfl) nd rfl rfl (sw_true rfl rfl rfl (by decide +kernel)) (pi_range1 rfl B.range (pa_cons (pe_callB call_lenS (by rfl) B.len boot_len (pa_cons (pv 1) pa_nil)) pa_nil))
          (blkOk_by (N := nMW) (sc := defScope sMW) (by decide +kernel)) (fun _ _ _ _ _ => pg_name (i := 6) nd rfl (Or.inl rfl)) (fun _ _ _ _ _ => pts_one (pt_cmpR op_ge (pe_ix ix_tup (pv 1) (pv 6) (fun _ _ => rfl)) (pv 4) rfl)) (fun _ _ _ _ _ => pv 6))
        (pss_cons (ps_if (pt_cmpR (op_eqD hr.units) (pv 5) (pe_lst pa_nil) rfl) pss_never pss_nil)
        (pss_one (ps_set (i := 2) nd rfl (Or.inl rfl) (pe_callB (cm rfl) (by rfl) B.max boot_max (pa_cons (pv 2) (pa_cons (pe_op op_sub (pe_ix ix_list (pv 5) pe_int (fun _ _ => rfl)) (pv 3)) pa_nil))))))))
      (pss_one (ps_ret (pv 2)))), ?_⟩
    let Pv : Nat → L2.St → Hp → Prop := fun i σ H' => ∃ (v : Int) (x y z : Option V), σ = [some (.ref a), some (.ref b), some (.int v), x, y, z, none] ∧ Fr T [] H H' ∧ 0 ≤ v ∧ v ≤ k ∧ ∀ j, j < i → ∀ p, p < k → c j ≤ s p → (∀ q, q < p → s q < c j) → (p : Int) - j ≤ v
    refine ⟨_, rfl, a, _, rfl, SqT.of ha, ?_⟩
    refine for_sq (sq_enumT (a := a) (xs := rowV n c)) Pv ⟨0, none, none, none, rfl, Fr.refl _ _ _, Int.le_refl _, by omega, fun j hj => by omega⟩ (fun i σ H' _ ⟨_, _, _, _, _, fr, _⟩ => SqT.of (fr.tup _ _ ha)) ?_ ?_
    · rintro i x σ H1 H1' hi ⟨v, x1, y1, z1, rfl, fr1, h0, hvk, hall⟩ ⟨t, y, rfl, ht, rfl, hy⟩
      rw [rowV_len] at hi
      obtain ⟨rfl, _⟩ := rowV_of hy
      have fr1' : Fr T [] H (upd H1 t (.tup [.int (i : Nat), .int (c i : Nat)])) := fr1.andNew ht
      refine ⟨t, _, rfl, SqT.of upd_same, rfl, _, _, rfl, _, _, rfl, rfl, ?_⟩
      refine ⟨_, rfl, b, _, rfl, .inr (SqT.of (fr1'.tup _ _ hb)), _, rfl, (by omega), (by rw [rowV_len]; omega), fun D hD => ?_⟩
      rw [rowV_len, show (((k : Nat) : Int)).toNat = k by omega]
      refine lc_sq (sq_rng (lo := 0) (n := k)) (fun p H' => ∃ L : List Nat, Fr T [] H H' ∧ H' D = some (.lst (natV L)) ∧ L.length ≤ p ∧ (∀ (h : Nat) (r : List Nat), L = h :: r → h < p ∧ c i ≤ s h ∧ ∀ q, q < h → s q < c i) ∧ (L = [] → ∀ q, q < p → s q < c i)) ⟨[], fr1'.andNew hD, upd_same, Nat.zero_le _, (fun h r e => by cases e), fun _ q hq => by omega⟩ (fun _ _ _ _ => trivial) ?_ ?_
      · rintro p x H2 H2' hp ⟨L, fr2, hD2, hl2, hL1, hL2⟩ hx
        obtain ⟨rfl, rfl⟩ := yRg0 hx
        refine ⟨rfl, _, rfl, _, rfl, b, _, _, _, rfl, rfl, SqT.of (fr2.tup _ _ hb), at_of (j := p) rfl (rowV_at hp), _, rfl, _, _, rfl, rfl, _, rfl, ?_⟩
        by_cases e : c i ≤ s p
        · rw [decide_eq_true (show ((c i : Nat) : Int) ≤ ((s p : Nat) : Int) by omega)]
          refine ⟨_, rfl, _, hD2, by rw [natV, List.length_map]; exact inLine (by omega), L ++ [p], fr2.own ((fr1'.dom _ hD)) hD2 (.lst _), by rw [upd_same, natV, natV, List.map_append]; rfl, by simp; omega, fun h r el => ?_, fun el => by simp at el⟩
          cases L with
          | nil =>
            have eh : p = h := by
              have := congrArg List.head? el
              exact Option.some.inj this
            subst eh
            exact ⟨by omega, e, hL2 rfl⟩
          | cons h0 r0 =>
            have eh : h0 = h := by
              have := congrArg List.head? el
              exact Option.some.inj this
            subst eh
            have := hL1 h0 r0 rfl
            exact ⟨by omega, this.2⟩
        · rw [decide_eq_false (show ¬ ((c i : Nat) : Int) ≤ ((s p : Nat) : Int) by omega)]
          exact ⟨L, fr2, hD2, by omega, fun h r el => by
            have := hL1 h r el
            exact ⟨by omega, this.2⟩, fun el q hq => by
            rcases Nat.lt_succ_iff_lt_or_eq.mp hq with z | z
            · exact hL2 el q z
            · rw [z]; omega⟩
      · rintro H2 ⟨L, fr2, hD2, hl2, hL1, hL2⟩
        obtain ⟨p0, hp0, hc0⟩ := hex i hi
        cases L with
        | nil => exact absurd (hL2 rfl p0 hp0) (by omega)
        | cons h r =>
          obtain ⟨hh1, hh2, hh3⟩ := hL1 h r rfl
          refine ⟨_, rfl, (by show 0 ≤ sizeLine; decide), fun q2 hq2 => ?_⟩
          have nD : D ≠ q2 := ne_of_none hD2 hq2
          have hD3 : upd H2 q2 (.lst []) D = some (.lst (natV (h :: r))) := by rw [upd_ne nD]; exact hD2
          refine ⟨_, _, .lst (SqL.of hD3) (dpNats (h :: r)), .lst (SqL.of upd_same) .nil, shapedN _, rfl, false, by rw [eqv_nil]; rfl, ?_⟩
          refine ⟨_, rfl, _, rfl, D, _, _, _, rfl, rfl, SqL.of hD3, at_of (j := 0) rfl rfl, _, rfl, _, _, rfl, rfl, _, _, rfl, ?_⟩
          refine ⟨_, _, _, _, rfl, fr2.andNew hq2, ?_, ?_, fun j hj p hp hcp hmin => ?_⟩
          · split <;> omega
          · split <;> omega
          · rcases Nat.lt_succ_iff_lt_or_eq.mp hj with z | z
            · have := hall j z p hp hcp hmin
              split <;> omega
            · subst z
              have eh : p = h := by
                rcases Nat.lt_trichotomy p h with q1 | q1 | q1
                · have := hh3 p q1
                  omega
                · exact q1
                · have := hmin h q1
                  omega
              rw [eh]
              split <;> omega
    · rintro σ H1 ⟨v, x1, y1, z1, rfl, fr1, h0, hvk, hall⟩
      rw [rowV_len] at hall
      exact ⟨_, rfl, q v H1 fr1 h0 hvk hall⟩
end
end KX
set_option Elab.async false
set_option linter.all false
set_option maxRecDepth 100000
set_option maxHeartbeats 4000000
/-! KX 12: the crossbar: made; put. -/
namespace KX
open PySem PySem.Spec PyProof.Rows L2 GX
def ext {α : Type} (f : Nat → α) (n : Nat) (a : α) : Nat → α := fun k => if k = n then a else f k
theorem ext_at {α : Type} {f : Nat → α} {n k : Nat} {a : α} (h : k = n) : ext f n a k = a := if_pos h
theorem ext_ne {α : Type} {f : Nat → α} {n k : Nat} {a : α} (h : k ≠ n) : ext f n a k = f k := if_neg h
abbrev Cell : Type := Nat × Nat × Nat
abbrev aBar : List Str := ["many", "queues", "slot", "came", "went"]
def fsBar (m : Nat) (la : Addr) (slot came went : Nat) : List (Str × V) := [(("many" : Str), .int m), (("queues" : Str), .ref la), (("slot" : Str), .int slot), (("came" : Str), .int came), (("went" : Str), .int went)]
def CellAt (H : Hp) (c : Addr) (x : Cell) : Prop := H c = some (.tup [.int (x.1 : Nat), .int (x.2.1 : Nat), .int (x.2.2 : Nat)])
structure QAt (H : Hp) (a : Addr) (L : List Cell) : Prop where
  ex : ∃ es : List Addr, H a = some (.lst (es.map V.ref)) ∧ es.length = L.length ∧ ∀ (n : Nat) e, es[n]? = some e → ∃ c x, L[n]? = some x ∧ H e = some (.tup [.ref c, .int (x.2.1 : Nat)]) ∧ CellAt H c x
def refsV (m : Nat) (f : Nat → Addr) : List V := (List.range m).map fun i => V.ref (f i)
theorem refsV_at {m : Nat} {f : Nat → Addr} {i : Nat} (h : i < m) : (refsV m f)[i]? = some (.ref (f i)) := by simp [refsV, h]
theorem refsV_len (m : Nat) (f : Nat → Addr) : (refsV m f).length = m := by simp [refsV]
structure BarAt (H : Hp) (C p la : Addr) (ra : Nat → Addr) (qa : Nat → Nat → Addr) (m slot came went : Nat) (q : Nat → Nat → List Cell) : Prop where
  ob : ∃ dx, H p = some (.ins C dx (fsBar m la slot came went))
  rows : H la = some (.lst (refsV m ra))
  row : ∀ i, i < m → H (ra i) = some (.lst (refsV m (qa i)))
  que : ∀ i j, i < m → j < m → QAt H (qa i j) (q i j)
  inj : ∀ i j i' j', i < m → j < m → i' < m → j' < m → qa i j = qa i' j' → i = i' ∧ j = j'
  nr : ∀ i j i', i < m → j < m → i' < m → qa i j ≠ ra i'
  nl : ∀ i j, i < m → j < m → qa i j ≠ la
/-- what of a crossbar may be written -/
def InBar (p : Addr) (qa : Nat → Nat → Addr) (m : Nat) (a : Addr) : Prop := a = p ∨ ∃ i j, i < m ∧ j < m ∧ a = qa i j
section
variable {T : Tb} {H H' : Hp} {C p la a : Addr} {ra : Nat → Addr} {qa : Nat → Nat → Addr} {m slot came went : Nat} {q : Nat → Nat → List Cell} {L : List Cell} {M : List Addr}
theorem QAt.fr (h : QAt H a L) (f : Fr T M H H') (n : a ∉ M) : QAt H' a L := by
  obtain ⟨es, h1, h2, h3⟩ := h.ex
  refine ⟨es, f.lstN h1 n, h2, fun k e he => ?_⟩
  obtain ⟨c, x, e1, e2, e3⟩ := h3 k e he
  exact ⟨c, x, e1, f.tup _ _ e2, f.tup _ _ e3⟩
theorem BarAt.fr (h : BarAt H C p la ra qa m slot came went q) (f : Fr T M H H') (n1 : p ∉ M) (n2 : la ∉ M) (n3 : ∀ i, i < m → ra i ∉ M) (n4 : ∀ i j, i < m → j < m → qa i j ∉ M) : BarAt H' C p la ra qa m slot came went q := by
  obtain ⟨⟨dx, h1⟩, h2, h3, h4, h5, h6, h7⟩ := h
  exact ⟨⟨dx, f.insN h1 n1⟩, f.lstN h2 n2, fun i hi => f.lstN (h3 i hi) (n3 i hi), fun i j hi hj => (h4 i j hi hj).fr f (n4 i j hi hj), h5, h6, h7⟩
theorem BarAt.fr0 (h : BarAt H C p la ra qa m slot came went q) (f : Fr T [] H H') : BarAt H' C p la ra qa m slot came went q := h.fr f (by simp) (by simp) (fun _ _ => by simp) fun _ _ _ _ => by simp
theorem QAt.some (h : QAt H a L) : ∃ xs, H a = some (.lst xs) := by
  obtain ⟨es, h1, _⟩ := h.ex
  exact ⟨_, h1⟩
end
def spXI (T : Tb) (C : Addr) : Sp := fun vs H Q _ => ∃ (p dx : Addr) (m : Nat), vs = [.ref p, .int m] ∧ H p = some (.ins C dx []) ∧ m ≤ 100 ∧
  ∀ la ra qa H', Fr T [p] H H' → BarAt H' C p la ra qa m 0 0 0 (fun _ _ => []) → (∀ i j, i < m → j < m → H (qa i j) = none) → H la = none → (∀ i, i < m → H (ra i) = none) → Q .non H'
abbrev sXI : Stmt := inClass (top 12) 0
abbrev nXI : List Str := ["self", "many", "one", "gate"]
theorem scXI : FnScope nXI ["self", "many"] (defScope sXI) := ⟨rfl, rfl, rfl, by decide +kernel, rfl, by decide +kernel, by decide +kernel⟩
section
variable {P : Program} {w : World} {K : PySem.W.Frag} {mg : Str → Option Value} {base : Heap} {T : Tb}
theorem refsV_succ (m : Nat) (f : Nat → Addr) (a : Addr) : refsV m f ++ [.ref a] = refsV (m + 1) (ext f m a) := by
  unfold refsV
  rw [List.range_succ, List.map_append, List.map_singleton, ext_at rfl]
  congr 1
  exact List.map_congr_left fun k hk => by
    have := List.mem_range.mp hk
    rw [ext_ne (by omega)]
theorem ok_xi {f C : Addr} {fd : FuncData} (F : Fun K "__init__" "Crossbar.__init__" sXI f fd) (B : Bl mg) (KX : Kl K C aBar) : FnOk P w K mg base CX0 1 f fd ["self", "many"] (spXI T C) := by
  have nd := scXI.nd
  refine F.ok scXI (fun vs H Q E h => ?_) (fun cdv A outer s0 H vs Q E hr h => ?_)
  · obtain ⟨p, dx, m, rfl, _⟩ := h
    rfl
  · obtain ⟨p, dx, m, rfl, hp, hm, k⟩ := h
    refine ⟨_, pss_cons (ps_fld (pv 0) (pv 1) rfl)
      (C8.pss_cut (ps_fld (pv 0) (pe_lc (own := [("one", 2)]) (g := gName 2) (tt := tYes) (te := tLc (iRng1 (tCons (tVar 1) tNil)) (gName 3) tYes (tLst tNil) [3]) rfl nd (pi_range1 rfl B.range (pa_cons (pv 1) pa_nil)) (blkOk_by (N := nXI) (sc := defScope sXI) (by decide +kernel)) (fun _ _ _ _ _ => pg_name (i := 2) nd rfl (Or.inl rfl)) (fun _ _ _ _ _ => pts_nil)
        (fun _ _ _ _ _ => pe_lc (own := [("gate", 3)]) (g := gName 3) (tt := tYes) (te := tLst tNil) rfl nd (pi_range1 rfl B.range (pa_cons (pv 1) pa_nil)) (blkOk_by (by kernel_rfl)) (fun _ _ _ _ _ => pg_name (i := 3) nd rfl (Or.inl rfl)) (fun _ _ _ _ _ => pts_nil) (fun _ _ _ _ _ => pe_lst pa_nil))) rfl)
      (pss_cons (ps_fld (pv 0) pe_int rfl) (pss_cons (ps_fld (pv 0) pe_int rfl) (pss_one (ps_fld (pv 0) pe_int rfl))))), ?_⟩
    refine ⟨_, rfl, _, rfl, p, C, dx, [], rfl, hp, KX.cl, KX.na _ (by simp), (by show 0 < 1000; decide), ?_⟩
    have e1 : putF "many" (V.int m) [] = [(("many" : Str), V.int m)] := putF_to rfl
    rw [e1]
    generalize hH1 : upd H p (.ins C dx [(("many" : Str), V.int m)]) = H1
    have fr1 : Fr T [p] H H1 := by rw [← hH1]; exact Fr.set (List.mem_singleton.mpr rfl) hp (.ins _ _ _)
    have hp1 : H1 p = some (.ins C dx [(("many" : Str), V.int m)]) := by rw [← hH1]; exact upd_same
    let σ0 : L2.St := [some (.ref p), some (.int m), none, none]
    refine ⟨fun σ2 H2 => ∃ (la : Addr) (ra : Nat → Addr) (qa : Nat → Nat → Addr) (H2' : Hp), σ2 = σ0 ∧ H2 = upd H2' p (.ins C dx [(("many" : Str), V.int m), (("queues" : Str), .ref la)]) ∧ Fr T [] H1 H2' ∧ H2' la = some (.lst (refsV m ra)) ∧ (∀ i, i < m → H2' (ra i) = some (.lst (refsV m (qa i))) ∧ H1 (ra i) = none) ∧ H1 la = none ∧ (∀ i j, i < m → j < m → H2' (qa i j) = some (.lst []) ∧ H1 (qa i j) = none ∧ qa i j ≠ la ∧ ∀ i', i' < m → qa i j ≠ ra i') ∧ ∀ i j i' j', i < m → j < m → i' < m → j' < m → qa i j = qa i' j' → i = i' ∧ j = j', ?_, ?_⟩
    · refine ⟨_, rfl, _, rfl, (by omega), (by omega), fun D hD => ?_⟩
      rw [show (((m : Nat) : Int)).toNat = m by omega]
      refine lc_sq (sq_rng (lo := 0) (n := m)) (fun i H' => ∃ (ra : Nat → Addr) (qa : Nat → Nat → Addr), Fr T [] H1 H' ∧ H' D = some (.lst (refsV i ra)) ∧ (∀ k, k < i → H' (ra k) = some (.lst (refsV m (qa k))) ∧ H1 (ra k) = none) ∧ (∀ k j, k < i → j < m → H' (qa k j) = some (.lst []) ∧ H1 (qa k j) = none ∧ qa k j ≠ D ∧ ∀ k', k' < i → qa k j ≠ ra k') ∧ (∀ k j k' j', k < i → j < m → k' < i → j' < m → qa k j = qa k' j' → k = k' ∧ j = j') ∧ ∀ k, k < i → ra k ≠ D)
        ⟨fun _ => 0, fun _ _ => 0, Fr.new hD, upd_same, (fun k hk => by omega), (fun k j hk => by omega), (fun k j k' j' hk => by omega), fun k hk => by omega⟩ (fun _ _ _ _ => trivial) ?_ ?_
      · rintro i x H2 H2' hi ⟨ra, qa, fr2, hD2, hrow, hq, hinj, hrD⟩ ⟨rfl, rfl⟩
        refine ⟨rfl, _, rfl, _, rfl, (by omega), (by omega), fun D1 hD1 => ?_⟩
        rw [show (((m : Nat) : Int)).toNat = m by omega]
        refine lc_sq (sq_rng (lo := 0) (n := m)) (fun j H' => ∃ qs : Nat → Addr, Fr T [] H2' H' ∧ H' D1 = some (.lst (refsV j qs)) ∧ (∀ k, k < j → H' (qs k) = some (.lst []) ∧ H2' (qs k) = none ∧ qs k ≠ D1) ∧ ∀ k k', k < j → k' < j → qs k = qs k' → k = k') ⟨fun _ => 0, Fr.new hD1, upd_same, (fun k hk => by omega), fun k k' hk => by omega⟩ (fun _ _ _ _ => trivial) ?_ ?_
        · rintro j x H3 H3' hj ⟨qs, fr3, hD3, hqs, hqi⟩ ⟨rfl, rfl⟩
          refine ⟨rfl, (by show 0 ≤ sizeLine; decide), fun r hr' => ?_⟩
          have nD1 : D1 ≠ r := ne_of_none hD3 hr'
          refine ⟨_, by rw [upd_ne nD1]; exact hD3, by rw [refsV_len]; exact inLine (by omega), ext qs j r, Fr.own (fr3.andNew hr') hD1 (by rw [upd_ne nD1]; exact hD3) (.lst _), by rw [upd_same, refsV_succ], fun k hk => ?_, fun k k' hk hk' e => ?_⟩
          · rcases Nat.lt_succ_iff_lt_or_eq.mp hk with z | z
            · rw [ext_ne (by omega)]
              obtain ⟨e1, e2, e3⟩ := hqs k z
              exact ⟨by rw [upd_ne e3, upd_ne (ne_of_none e1 hr')]; exact e1, e2, e3⟩
            · rw [ext_at z]
              exact ⟨by rw [upd_ne nD1.symm, upd_same], fr3.dom _ hr', nD1.symm⟩
          · rcases Nat.lt_succ_iff_lt_or_eq.mp hk with z | z <;> rcases Nat.lt_succ_iff_lt_or_eq.mp hk' with z' | z'
            · rw [ext_ne (by omega), ext_ne (by omega)] at e
              exact hqi k k' z z' e
            · rw [ext_ne (by omega), ext_at z'] at e
              exact absurd e (ne_of_none (hqs k z).1 hr')
            · rw [ext_at z, ext_ne (by omega)] at e
              exact absurd e.symm (ne_of_none (hqs k' z').1 hr')
            · omega
        · rintro H3 ⟨qs, fr3, hD3, hqs, hqi⟩
          have nDD : D ≠ D1 := ne_of_none hD2 hD1
          refine ⟨_, fr3.lst hD2, by rw [refsV_len]; exact inLine (by omega), ext ra i D1, ext qa i qs, (fr2.trans fr3).own hD (fr3.lst hD2) (.lst _), by rw [upd_same, refsV_succ], fun k hk => ?_, fun k j hk hj => ?_, fun k j k' j' hk hj hk' hj' e => ?_, fun k hk => ?_⟩
          · rcases Nat.lt_succ_iff_lt_or_eq.mp hk with z | z
            · rw [ext_ne (by omega), ext_ne (by omega)]
              exact ⟨by rw [upd_ne (hrD k z)]; exact fr3.lst (hrow k z).1, (hrow k z).2⟩
            · rw [ext_at z, ext_at z]
              exact ⟨by rw [upd_ne nDD.symm]; exact hD3, fr2.dom _ hD1⟩
          · rcases Nat.lt_succ_iff_lt_or_eq.mp hk with z | z
            · rw [ext_ne (by omega)]
              obtain ⟨e1, e2, e3, e4⟩ := hq k j z hj
              refine ⟨by rw [upd_ne e3]; exact fr3.lst e1, e2, e3, fun k' hk' => ?_⟩
              rcases Nat.lt_succ_iff_lt_or_eq.mp hk' with y | y
              · rw [ext_ne (by omega)]; exact e4 k' y
              · rw [ext_at y]; exact ne_of_none e1 hD1
            · rw [ext_at z]
              obtain ⟨e1, e2, e3⟩ := hqs j hj
              have nqD : qs j ≠ D := (ne_of_none hD2 e2).symm
              refine ⟨by rw [upd_ne nqD]; exact e1, fr2.dom _ e2, nqD, fun k' hk' => ?_⟩
              rcases Nat.lt_succ_iff_lt_or_eq.mp hk' with y | y
              · rw [ext_ne (by omega)]; exact (ne_of_none (hrow k' y).1 e2).symm
              · rw [ext_at y]; exact e3
          · rcases Nat.lt_succ_iff_lt_or_eq.mp hk with z | z <;> rcases Nat.lt_succ_iff_lt_or_eq.mp hk' with z' | z'
            · rw [ext_ne (by omega), ext_ne (by omega)] at e
              exact hinj k j k' j' z hj z' hj' e
            · rw [ext_ne (by omega), ext_at z'] at e
              exact absurd e (ne_of_none (hq k j z hj).1 (hqs j' hj').2.1)
            · rw [ext_at z, ext_ne (by omega)] at e
              exact absurd e.symm (ne_of_none (hq k' j' z' hj').1 (hqs j hj).2.1)
            · rw [ext_at z, ext_at z'] at e
              exact ⟨by omega, hqi j j' hj hj' e⟩
          · rcases Nat.lt_succ_iff_lt_or_eq.mp hk with z | z
            · rw [ext_ne (by omega)]; exact hrD k z
            · rw [ext_at z]; exact nDD.symm
      · rintro H2 ⟨ra, qa, fr2, hD2, hrow, hq, hinj, hrD⟩
        refine ⟨_, rfl, p, C, dx, _, rfl, fr2.ins hp1, KX.cl, KX.na _ (by simp), (by show 1 < 1000; decide), ?_⟩
        rw [putF_to (show putG "queues" (.ref D) [(("many" : Str), V.int m)] = [(("many" : Str), V.int m), (("queues" : Str), .ref D)] from rfl)]
        exact ⟨D, ra, qa, H2, rfl, rfl, fr2, hD2, hrow, hD, hq, hinj⟩
    rintro σ2 H2 ⟨la, ra, qa, H2', rfl, rfl, fr2, hla, hrow, nla, hq, hinj⟩
    refine ⟨_, rfl, p, C, dx, _, rfl, upd_same, KX.cl, KX.na _ (by simp), (by show 2 < 1000; decide), ?_⟩
    rw [putF_to (show putG "slot" (.int 0) [(("many" : Str), V.int m), (("queues" : Str), V.ref la)] = [(("many" : Str), V.int m), (("queues" : Str), V.ref la), (("slot" : Str), .int 0)] from rfl), upd_upd]
    refine ⟨_, rfl, p, C, dx, _, rfl, upd_same, KX.cl, KX.na _ (by simp), (by show 3 < 1000; decide), ?_⟩
    rw [putF_to (show putG "came" (.int 0) [(("many" : Str), V.int m), (("queues" : Str), V.ref la), (("slot" : Str), .int 0)] = [(("many" : Str), V.int m), (("queues" : Str), V.ref la), (("slot" : Str), .int 0), (("came" : Str), .int 0)] from rfl), upd_upd]
    refine ⟨_, rfl, p, C, dx, _, rfl, upd_same, KX.cl, KX.na _ (by simp), (by show 4 < 1000; decide), ?_⟩
    rw [putF_to (show putG "went" (.int 0) [(("many" : Str), V.int m), (("queues" : Str), V.ref la), (("slot" : Str), .int 0), (("came" : Str), .int 0)] = fsBar m la 0 0 0 from rfl), upd_upd]
    have hp2 := fr2.ins hp1
    have np : ∀ b xs, H2' b = some (.lst xs) → b ≠ p := fun b xs e => ne_of e hp2 (by intro z; cases z)
    refine k la ra qa _ ((fr1.trans fr2.up).andSet (List.mem_singleton.mpr rfl) hp2 (.ins _ _ _)) ⟨⟨dx, upd_same⟩, by rw [upd_ne (np _ _ hla)]; exact hla, fun i hi => by rw [upd_ne (np _ _ (hrow i hi).1)]; exact (hrow i hi).1, fun i j hi hj => ⟨[], by rw [upd_ne (np _ _ (hq i j hi hj).1)]; exact (hq i j hi hj).1, rfl, fun n e he => by cases he⟩, hinj, fun i j i' hi hj hi' => (hq i j hi hj).2.2.2 i' hi', fun i j hi hj => (hq i j hi hj).2.2.1⟩
      (fun i j hi hj => fr1.dom _ (hq i j hi hj).2.1) (fr1.dom _ nla) fun i hi => fr1.dom _ (hrow i hi).2
end
end KX
set_option Elab.async false
set_option linter.all false
set_option maxRecDepth 100000
set_option maxHeartbeats 4000000
/-! KX 13: Crossbar.put, serve. -/
namespace KX
open PySem PySem.Spec PyProof.Rows L2 GX
def upd2 (q : Nat → Nat → List Cell) (i j : Nat) (L : List Cell) : Nat → Nat → List Cell := fun a b => if a = i ∧ b = j then L else q a b
theorem upd2_at {q : Nat → Nat → List Cell} {i j : Nat} {L : List Cell} : upd2 q i j L i j = L := if_pos ⟨rfl, rfl⟩
theorem upd2_ne {q : Nat → Nat → List Cell} {i j a b : Nat} {L : List Cell} (h : ¬ (a = i ∧ b = j)) : upd2 q i j L a b = q a b := if_neg h
def spPut (T : Tb) (C : Addr) : Sp := fun vs H Q _ => ∃ (p la : Addr) (ra : Nat → Addr) (qa : Nat → Nat → Addr) (m slot came went : Nat) (q : Nat → Nat → List Cell) (one gate : Nat) (c : Addr) (x : Cell), vs = [.ref p, .int one, .int gate, .ref c] ∧ BarAt H C p la ra qa m slot came went q ∧ one < m ∧ gate < m ∧ CellAt H c x ∧ x.2.1 = slot ∧ (q one gate).length ≤ 90000 ∧
  ∀ H', Fr T [p, qa one gate] H H' → BarAt H' C p la ra qa m slot (came + 1) went (upd2 q one gate (q one gate ++ [x])) → Q .non H'
abbrev sPut : Stmt := inClass (top 12) 1
abbrev nPut : List Str := ["self", "one", "gate", "cell"]
theorem scPut : FnScope nPut ["self", "one", "gate", "cell"] (defScope sPut) := ⟨rfl, rfl, rfl, by decide +kernel, rfl, by decide +kernel, by decide +kernel⟩
theorem chainOk {K : PySem.W.Frag} {a b c : TE} {x y z : Int} {σ : L2.St} {H : Hp} {Q : Bool → Hp → Prop} (ha : ∀ Q : VK, Q (.int x) H → a σ H Q) (hb : ∀ Q : VK, Q (.int y) H → b σ H Q) (hc : ∀ Q : VK, Q (.int z) H → c σ H Q) (h1 : x ≤ y) (h2 : y < z) (h : Q true H) : tTest (tChain rLeI rLtI a b c) σ H Q := by
  refine ha _ (hb _ ⟨_, _, rfl, rfl, true, congrArg V.bl (decide_eq_true h1), ?_⟩)
  refine hc _ ⟨_, _, rfl, rfl, true, congrArg V.bl (decide_eq_true h2), h⟩
section
variable {P : Program} {w : World} {K : PySem.W.Frag} {mg : Str → Option Value} {base : Heap} {T : Tb}
theorem ok_put {f C : Addr} {fd : FuncData} (F : Fun K "put" "Crossbar.put" sPut f fd) (KX : Kl K C aBar) : FnOk P w K mg base CX0 1 f fd ["self", "one", "gate", "cell"] (spPut T C) := by
  have nd := scPut.nd
  refine F.ok scPut (fun vs H Q E h => ?_) (fun cdv A outer s0 H vs Q E hr h => ?_)
  · obtain ⟨p, la, ra, qa, m, slot, came, went, q, one, gate, c, x, rfl, _⟩ := h
    rfl
  · obtain ⟨p, la, ra, qa, m, slot, came, went, q, one, gate, c, x, rfl, BA, h1, h2, hc, hx, hlen, k⟩ := h
    refine ⟨_, pss_cons (ps_if (pt_or (pt_not (pt_chain op_le op_lt pe_int (pv 1) (pe_fld (pv 0) rfl))) (pt_not (pt_chain op_le op_lt pe_int (pv 2) (pe_fld (pv 0) rfl)))) pss_never pss_nil)
      (pss_cons (ps_expr (pe_bm PySem.F.plainAttrs_list PySem.F.slot_list_append PySem.F.type_list_append mt_append (pe_ix ix_list (pe_ix ix_list (pe_fld (pv 0) rfl) (pv 1) (fun _ _ => rfl)) (pv 2) (fun _ _ => rfl)) (pa_cons (pe_tup (pa_cons (pv 3) (pa_cons (pe_fld (pv 0) rfl) pa_nil))) pa_nil)))
      (pss_one (ps_fldaug (pv 0) pe_int in_add))), ?_⟩
    obtain ⟨dx, hp⟩ := BA.ob
    have many : ∀ Q : VK, Q (.int m) H → tFld K (tVar 0) "many" [some (.ref p), some (.int one), some (.int gate), some (.ref c)] H Q := fun Q h => ⟨_, rfl, p, C, dx, _, _, rfl, hp, KX.cl, KX.na _ (by simp), rfl, h⟩
    refine chainOk (K := K) (fun Q h => h) (fun Q h => ⟨_, rfl, h⟩) many (by omega) (by omega) ?_
    refine chainOk (K := K) (fun Q h => h) (fun Q h => ⟨_, rfl, h⟩) many (by omega) (by omega) ?_
    -- the queue
    obtain ⟨es, hq, hel, he⟩ := (BA.que one gate h1 h2).ex
    refine ⟨_, rfl, p, C, dx, _, _, rfl, hp, KX.cl, KX.na _ (by simp), rfl, _, rfl, la, _, _, _, rfl, rfl, SqL.of BA.rows, at_of (j := one) rfl (refsV_at h1), _, rfl, ra one, _, _, _, rfl, rfl, SqL.of (BA.row one h1), at_of (j := gate) rfl (refsV_at h2), .inl ⟨rfl, _, SqL.of hq⟩, ?_⟩
    refine ⟨_, rfl, _, rfl, p, C, dx, _, _, rfl, hp, KX.cl, KX.na _ (by simp), rfl, (by show 2 ≤ sizeLine; decide), fun t ht => ?_⟩
    have nqt : qa one gate ≠ t := ne_of_none hq ht
    refine ⟨qa one gate, es.map V.ref, _, rfl, rfl, by rw [upd_ne nqt]; exact hq, by rw [List.length_map, hel]; exact inLine (by omega), ?_⟩
    have nqp : p ≠ qa one gate := ne_of hp hq (by intro z; cases z)
    have npt : p ≠ t := ne_of_none hp ht
    refine ⟨_, rfl, p, C, dx, _, _, rfl, (by rw [upd_ne nqp, upd_ne npt]; exact hp), KX.cl, KX.na _ (by simp), rfl, _, _, rfl, rfl, dx, _, (by rw [upd_ne nqp, upd_ne npt]; exact hp), (by show 5 < 1000; decide), ?_⟩
    rw [putF_to (show putG "came" (.int ((came : Int) + 1)) (fsBar m la slot came went) = fsBar m la slot (came + 1) went from by rw [show ((came : Int) + 1) = ((came + 1 : Nat) : Int) by omega]; rfl)]
    generalize hH' : upd (upd (upd H t (.tup [.ref c, .int slot])) (qa one gate) (.lst (es.map V.ref ++ [.ref t]))) p (.ins C dx (fsBar m la slot (came + 1) went)) = H'
    have fr : Fr T [p, qa one gate] H H' := by
      rw [← hH']
      exact Fr.andSet (Fr.andSet (Fr.new ht) (by simp) (by rw [upd_ne nqt]; exact hq) (.lst _)) (by simp) (by rw [upd_ne nqp, upd_ne npt]; exact hp) (.ins _ _ _)
    have hp' : H' p = some (.ins C dx (fsBar m la slot (came + 1) went)) := by rw [← hH', upd_same]
    have hq' : H' (qa one gate) = some (.lst (es.map V.ref ++ [.ref t])) := by rw [← hH', upd_ne nqp.symm, upd_same]
    have ht' : H' t = some (.tup [.ref c, .int slot]) := by rw [← hH', upd_ne npt.symm, upd_ne nqt.symm, upd_same]
    have nla : la ∉ [p, qa one gate] := by
      have n1 : la ≠ p := ne_of BA.rows hp (by intro z; cases z)
      have n2 := (BA.nl one gate h1 h2).symm
      simp [n1, n2]
    refine k H' fr ⟨⟨dx, hp'⟩, fr.lstN BA.rows nla, fun i hi => fr.lstN (BA.row i hi) ?_, fun i j hi hj => ?_, BA.inj, BA.nr, BA.nl⟩
    · have n1 : ra i ≠ p := ne_of (BA.row i hi) hp (by intro z; cases z)
      have n2 := (BA.nr one gate i h1 h2 hi).symm
      simp [n1, n2]
    · by_cases e : i = one ∧ j = gate
      · obtain ⟨rfl, rfl⟩ := e
        rw [upd2_at]
        refine ⟨es ++ [t], by rw [hq', List.map_append]; rfl, by simp [hel], fun n e hn => ?_⟩
        rcases Nat.lt_or_ge n es.length with hlt | hge
        · rw [List.getElem?_append_left hlt] at hn
          obtain ⟨c', x', e1, e2, e3⟩ := he n e hn
          exact ⟨c', x', by rw [List.getElem?_append_left (by rw [← hel]; exact hlt)]; exact e1, fr.tup _ _ e2, fr.tup _ _ e3⟩
        · have e0 : n = es.length := by
            have := (List.getElem?_eq_some_iff.mp hn).1
            simp at this
            omega
          subst e0
          rw [List.getElem?_append_right (Nat.le_refl _), Nat.sub_self] at hn
          have eb : t = e := Option.some.inj hn
          subst eb
          exact ⟨c, x, by rw [hel, List.getElem?_append_right (Nat.le_refl _), Nat.sub_self]; rfl, by rw [hx]; exact ht', fr.tup _ _ hc⟩
      · rw [upd2_ne e]
        refine (BA.que i j hi hj).fr fr ?_
        obtain ⟨xs, hxs⟩ := (BA.que i j hi hj).some
        have n1 : qa i j ≠ p := ne_of hxs hp (by intro z; cases z)
        have n2 : qa i j ≠ qa one gate := fun z => e (BA.inj i j one gate hi hj h1 h2 z)
        simp [n1, n2]
end
/-! ### serve -/
structure Sn where
  one : Nat
  gate : Nat
  x : Cell
  w : Int
def sentU (mt : Nat → Option Nat) (q : Nat → Nat → List Cell) (slot : Nat) : Nat → List Sn
  | 0 => []
  | i + 1 => sentU mt q slot i ++ (match mt i with
    | none => []
    | some j => match q i j with
      | [] => []
      | x :: _ => [⟨i, j, x, (slot : Int) - x.2.1⟩])
def qAfter (mt : Nat → Option Nat) (q : Nat → Nat → List Cell) (k : Nat) : Nat → Nat → List Cell := fun i j => if i < k ∧ mt i = some j then (q i j).tail else q i j
theorem sentU_len (mt : Nat → Option Nat) (q : Nat → Nat → List Cell) (slot : Nat) : ∀ k, (sentU mt q slot k).length ≤ k := by
  intro k
  induction k with
  | zero => exact Nat.le_refl _
  | succ k ih =>
    show (sentU mt q slot k ++ _).length ≤ k + 1
    rw [List.length_append]
    have : (match mt k with
      | none => []
      | some j => match q k j with
        | [] => []
        | x :: _ => [(⟨k, j, x, (slot : Int) - x.2.1⟩ : Sn)]).length ≤ 1 := by
      split
      · simp
      · split <;> simp
    omega
structure SentAt (H : Hp) (ts : List Addr) (L : List Sn) : Prop where
  len : ts.length = L.length
  at_ : ∀ (n : Nat) b, ts[n]? = some b → ∃ z c, L[n]? = some z ∧ H b = some (.tup [.int z.one, .int z.gate, .ref c, .int z.w]) ∧ CellAt H c z.x
theorem SentAt.fr {T : Tb} {M : List Addr} {H H' : Hp} {ts : List Addr} {L : List Sn} (h : SentAt H ts L) (f : Fr T M H H') : SentAt H' ts L := ⟨h.len, fun n b e => by
  obtain ⟨z, c, e1, e2, e3⟩ := h.at_ n b e
  exact ⟨z, c, e1, f.tup _ _ e2, f.tup _ _ e3⟩⟩
def barL (p : Addr) (qa : Nat → Nat → Addr) (m : Nat) : List Addr := p :: (List.range m).flatMap fun i => (List.range m).map (qa i)
theorem barL_mem {p : Addr} {qa : Nat → Nat → Addr} {m : Nat} {a : Addr} : a ∈ barL p qa m ↔ a = p ∨ ∃ i j, i < m ∧ j < m ∧ a = qa i j := by
  unfold barL
  simp only [List.mem_cons, List.mem_flatMap, List.mem_range, List.mem_map]
  constructor
  · rintro (h | ⟨i, hi, j, hj, e⟩)
    · exact .inl h
    · exact .inr ⟨i, j, hi, hj, e.symm⟩
  · rintro (h | ⟨i, j, hi, hj, e⟩)
    · exact .inl h
    · exact .inr ⟨i, hi, j, hj, e.symm⟩
def spServe (T : Tb) (C : Addr) : Sp := fun vs H Q _ => ∃ (p la : Addr) (ra : Nat → Addr) (qa : Nat → Nat → Addr) (m slot came went : Nat) (q : Nat → Nat → List Cell) (ma : Addr) (mt : Nat → Option Nat), vs = [.ref p, .ref ma] ∧ BarAt H C p la ra qa m slot came went q ∧ m ≤ 100 ∧ H ma = some (.tup (colV m mt)) ∧ (∀ i j, mt i = some j → j < m) ∧
  ∀ t ts H', Fr T (barL p qa m) H H' → BarAt H' C p la ra qa m (slot + 1) came (went + (sentU mt q slot m).length) (qAfter mt q m) → H' t = some (.tup (ts.map V.ref)) → SentAt H' ts (sentU mt q slot m) → Q (.ref t) H'
abbrev sServe : Stmt := inClass (top 12) 5
abbrev nServe : List Str := ["self", "match", "found", "one", "gate", "cell", "slot"]
theorem scServe : FnScope nServe ["self", "match"] (defScope sServe) := ⟨rfl, rfl, rfl, by decide +kernel, rfl, by decide +kernel, by decide +kernel⟩
def cellD (x : Cell) : PyData := .tuple [.tuple [.int x.1, .int x.2.1, .int x.2.2], .int x.2.1]
theorem depthAll_le {α : Type} (f : α → PyData) (h : ∀ a, PyData.depth (f a) ≤ 60) : ∀ L : List α, PyData.depthAll (L.map f) ≤ 60
  | [] => by simp [PyData.depthAll]
  | a :: r => by
    have h1 := h a
    have h2 := depthAll_le f h r
    simp only [List.map_cons, PyData.depthAll]
    omega
theorem canLayAll {α : Type} (f : α → PyData) (h : ∀ a, PyData.canLay0 (f a) = true) : ∀ L : List α, PyData.canLayAll0 (L.map f) = true
  | [] => rfl
  | a :: r => by
    simp only [List.map_cons, PyData.canLayAll0, h a, canLayAll f h r, Bool.and_self]
theorem shapedL {α : Type} (f : α → PyData) (h : ∀ a, PyData.canLay0 (f a) = true ∧ PyData.depth (f a) ≤ 60) (L : List α) : SeqAt.shaped (.list (L.map f)) = true := by
  have h1 := depthAll_le f (fun a => (h a).2) L
  have h2 := canLayAll f (fun a => (h a).1) L
  have e1 : PyData.canLay0 (.list (L.map f)) = true := by simp only [PyData.canLay0, h2]
  have e2 : PyData.depth (.list (L.map f)) ≤ 64 := by simp only [PyData.depth]; omega
  unfold SeqAt.shaped
  rw [e1, decide_eq_true e2]
  rfl
theorem dpQ {K : PySem.W.Frag} {H : Hp} : ∀ (es : List Addr) (L : List Cell), es.length = L.length → (∀ (n : Nat) e, es[n]? = some e → ∃ c x, L[n]? = some x ∧ H e = some (.tup [.ref c, .int (x.2.1 : Nat)]) ∧ CellAt H c x) → DpAll K H (es.map V.ref) (L.map cellD)
  | [], [], _, _ => .nil
  | [], _ :: _, h, _ => by cases h
  | _ :: _, [], h, _ => by cases h
  | e :: es, x :: L, h, hat => by
    obtain ⟨c, x', e1, e2, e3⟩ := hat 0 e rfl
    cases e1
    refine .cons (.tup (SqT.of e2) (.cons (.tup (SqT.of e3) (.cons (.int _) (.cons (.int _) (.cons (.int _) .nil)))) (.cons (.int _) .nil))) (dpQ es L (by simpa using h) fun n e' he' => hat (n + 1) e' he')
section
variable {P : Program} {w : World} {K : PySem.W.Frag} {mg : Str → Option Value} {base : Heap} {T : Tb}
theorem ok_serve {f C : Addr} {fd : FuncData} (F : Fun K "serve" "Crossbar.serve" sServe f fd) (B : Bl mg) (KX : Kl K C aBar) : FnOk P w K mg base CX0 1 f fd ["self", "match"] (spServe T C) := by
  have nd := scServe.nd
  refine F.ok scServe (fun vs H Q E h => ?_) (fun cdv A outer s0 H vs Q E hr h => ?_)
  · obtain ⟨p, la, ra, qa, m, slot, came, went, q, ma, mt, rfl, _⟩ := h
    rfl
  · obtain ⟨p, la, ra, qa, m, slot, came, went, q, ma, mt, rfl, BA, hm, hma, hmt, k⟩ := h
    refine ⟨_, C8.pss_cut (ps_set (i := 2) nd rfl (Or.inl rfl) (pe_lst pa_nil))
      (C8.pss_cut (ps_for PassesOwn.never rfl (pi_enumT rfl B.enumerate (pa_cons (pv 1) pa_nil)) (pg_tup rfl (pgs_cons (pg_name (i := 3) nd rfl (Or.inl rfl)) (pgs_cons (pg_name (i := 4) nd rfl (Or.inl rfl)) pgs_nil)))
        (pss_one (ps_if (pt_and (pt_cmpR op_notN1 (pv 4) pe_non rfl) (pt_cmpR (op_neD hr.units) (pe_ix ix_list (pe_ix ix_list (pe_fld (pv 0) rfl) (pv 3) (fun _ _ => rfl)) (pv 4) (fun _ _ => rfl)) (pe_lst pa_nil) rfl))
          (pss_cons (ps_asg (pe_bm PySem.F.plainAttrs_list PySem.F.slot_list_pop PySem.F.type_list_pop mt_popAt (pe_ix ix_list (pe_ix ix_list (pe_fld (pv 0) rfl) (pv 3) (fun _ _ => rfl)) (pv 4) (fun _ _ => rfl)) (pa_cons pe_int pa_nil)) (pg_tup rfl (pgs_cons (pg_name (i := 5) nd rfl (Or.inl rfl)) (pgs_cons (pg_name (i := 6) nd rfl (Or.inl rfl)) pgs_nil))))
          (pss_one (ps_expr (pe_bm PySem.F.plainAttrs_list PySem.F.slot_list_append PySem.F.type_list_append mt_append (pv 2) (pa_cons (pe_tup (pa_cons (pv 3) (pa_cons (pv 4) (pa_cons (pv 5) (pa_cons (pe_op op_sub (pe_fld (pv 0) rfl) (pv 6)) pa_nil))))) pa_nil))))) pss_nil)))
      (pss_cons (ps_fldaug (pv 0) (pe_callB call_lenS (by rfl) B.len boot_len (pa_cons (pv 2) pa_nil)) in_add)
      (pss_cons (ps_fldaug (pv 0) pe_int in_add)
      (pss_one (ps_ret (pe_callTy call_tupOf (by rfl) B.tuple boot_tuple (pa_cons (pv 2) pa_nil))))))), ?_⟩
    refine ⟨fun σ1 H1 => ∃ D, σ1 = [some (.ref p), some (.ref ma), some (.ref D), none, none, none, none] ∧ H D = none ∧ H1 = upd H D (.lst []), ⟨(by show 0 ≤ sizeLine; decide), fun D hD => ⟨D, rfl, hD, rfl⟩⟩, ?_⟩
    rintro σ1 H1 ⟨D, rfl, hD, rfl⟩
    refine ⟨fun σ H' => ∃ a b c d ts, σ = [some (.ref p), some (.ref ma), some (.ref D), a, b, c, d] ∧ Fr T (barL p qa m) H H' ∧ BarAt H' C p la ra qa m slot came went (qAfter mt q m) ∧ H' D = some (.lst (ts.map V.ref)) ∧ SentAt H' ts (sentU mt q slot m), ?loop, ?rest⟩
    case rest =>
      rintro σ H1 ⟨a, b, c0, d, ts, rfl, fr1, BA1, hD1, S1⟩
      obtain ⟨dx, hp⟩ := BA1.ob
      have hpM : p ∈ barL p qa m := List.mem_cons_self
      refine ⟨_, rfl, p, C, dx, _, _, rfl, hp, KX.cl, KX.na _ (by simp), rfl, _, rfl, D, _, rfl, .inl (SqL.of hD1), _, _, rfl, rfl, dx, _, hp, (by show 5 < 1000; decide), ?_⟩
      have hl1 : (ts.map V.ref).length = (sentU mt q slot m).length := by rw [List.length_map]; exact S1.len
      rw [putF_to (show putG "went" (.int ((went : Int) + ((ts.map V.ref).length : Nat))) (fsBar m la slot came went) = fsBar m la slot came (went + (sentU mt q slot m).length) from by rw [hl1, show ((went : Int) + ((sentU mt q slot m).length : Nat)) = ((went + (sentU mt q slot m).length : Nat) : Int) by omega]; rfl)]
      refine ⟨_, rfl, p, C, dx, _, _, rfl, upd_same, KX.cl, KX.na _ (by simp), rfl, _, _, rfl, rfl, dx, _, upd_same, (by show 5 < 1000; decide), ?_⟩
      rw [putF_to (show putG "slot" (.int ((slot : Int) + 1)) (fsBar m la slot came (went + (sentU mt q slot m).length)) = fsBar m la (slot + 1) came (went + (sentU mt q slot m).length) from by rw [show ((slot : Int) + 1) = ((slot + 1 : Nat) : Int) by omega]; rfl), upd_upd]
      have np : ∀ b xs, H1 b = some (.lst xs) → b ≠ p := fun b xs e => ne_of e hp (by intro z; cases z)
      have frp : Fr T [p] H1 (upd H1 p (.ins C dx (fsBar m la (slot + 1) came (went + (sentU mt q slot m).length)))) := Fr.set (List.mem_singleton.mpr rfl) hp (.ins _ _ _)
      have hD2 : upd H1 p (.ins C dx (fsBar m la (slot + 1) came (went + (sentU mt q slot m).length))) D = some (.lst (ts.map V.ref)) := by rw [upd_ne (np _ _ hD1)]; exact hD1
      refine ⟨_, rfl, D, _, rfl, .inl ⟨SqL.of hD2, fun l hl => ?_⟩⟩
      have frl := Fr.new (T := T) (M := []) (o := HO.tup (ts.map V.ref)) hl
      have nM : ∀ b xs, H1 b = some (.lst xs) → b ∉ [p] := fun b xs e z => np b xs e (List.mem_singleton.mp z)
      have BA2 : BarAt (upd H1 p (.ins C dx (fsBar m la (slot + 1) came (went + (sentU mt q slot m).length)))) C p la ra qa m (slot + 1) came (went + (sentU mt q slot m).length) (qAfter mt q m) :=
        ⟨⟨dx, upd_same⟩, frp.lstN BA1.rows (nM _ _ BA1.rows), fun i hi => frp.lstN (BA1.row i hi) (nM _ _ (BA1.row i hi)), fun i j hi hj => (BA1.que i j hi hj).fr frp (let ⟨xs, hxs⟩ := (BA1.que i j hi hj).some; nM _ _ hxs), BA.inj, BA.nr, BA.nl⟩
      exact k l ts _ (((fr1.andSet hpM hp (.ins _ _ _))).trans frl.up) (BA2.fr0 frl) upd_same ((S1.fr frp).fr frl)
    refine ⟨_, rfl, ma, _, rfl, SqT.of (by rw [upd_ne (ne_of_none hma hD)]; exact hma), ?_⟩
    have fr0 : Fr T (barL p qa m) H (upd H D (.lst [])) := Fr.new hD
    have BA0 := BA.fr0 (Fr.new (T := T) (o := HO.lst []) hD)
    refine for_sq (sq_enumT (a := ma) (xs := colV m mt)) (fun i σ H' => ∃ a b c d ts, σ = [some (.ref p), some (.ref ma), some (.ref D), a, b, c, d] ∧ Fr T (barL p qa m) H H' ∧ BarAt H' C p la ra qa m slot came went (qAfter mt q i) ∧ H' D = some (.lst (ts.map V.ref)) ∧ SentAt H' ts (sentU mt q slot i))
      ⟨none, none, none, none, [], rfl, fr0, ?_, upd_same, rfl, fun n b h => by cases h⟩ (fun i σ H' _ ⟨_, _, _, _, _, _, fr, _⟩ => SqT.of (fr.tup _ _ hma)) ?_ ?_
    · have e : qAfter mt q 0 = q := by
        funext i j
        unfold qAfter
        rw [if_neg (by omega)]
      rw [e]
      exact BA0
    · rintro i x σ H1 H1' hi ⟨a, b, c0, d, ts, rfl, fr1, BA1, hD1, S1⟩ ⟨t, y, rfl, ht, rfl, hy⟩
      rw [colV_len] at hi
      have ey : y = oV (mt i) := by
        rw [colV_at hi] at hy
        exact (Option.some.inj hy).symm
      subst ey
      have frt : Fr T [] H1 (upd H1 t (.tup [.int (i : Nat), oV (mt i)])) := Fr.new ht
      have BA2 := BA1.fr0 frt
      have S2 := S1.fr frt
      have hD2 := frt.lst hD1
      have fr2 : Fr T (barL p qa m) H (upd H1 t (.tup [.int (i : Nat), oV (mt i)])) := fr1.trans frt.up
      have htup : (upd H1 t (.tup [.int (i : Nat), oV (mt i)])) t = some (.tup [.int (i : Nat), oV (mt i)]) := upd_same
      generalize upd H1 t (.tup [.int (i : Nat), oV (mt i)]) = H2 at BA2 S2 hD2 fr2 htup
      refine ⟨t, _, rfl, SqT.of htup, rfl, _, _, rfl, _, _, rfl, rfl, ?_⟩
      have qA : ∀ a b, a ≠ i → qAfter mt q (i + 1) a b = qAfter mt q i a b := fun a b ha => by
        unfold qAfter
        by_cases e : a < i ∧ mt a = some b
        · rw [if_pos e, if_pos ⟨by omega, e.2⟩]
        · rw [if_neg e, if_neg fun z => e ⟨by omega, z.2⟩]
      have qI : ∀ b, qAfter mt q i i b = q i b := fun b => by
        unfold qAfter
        rw [if_neg (by omega)]
      have sU : sentU mt q slot (i + 1) = sentU mt q slot i ++ (match mt i with
        | none => []
        | some j => match q i j with
          | [] => []
          | x :: _ => [⟨i, j, x, (slot : Int) - x.2.1⟩]) := rfl
      refine ⟨_, rfl, rfl, _, rfl, ?_⟩
      cases hmi : mt i with
      | none =>
        refine ⟨_, _, _, _, ts, rfl, fr2, ?_, hD2, ?_⟩
        · have e : qAfter mt q (i + 1) = qAfter mt q i := by
            funext a b
            by_cases ha : a = i
            · subst ha
              unfold qAfter
              rw [if_neg (by rw [hmi]; intro z; cases z.2), if_neg (by omega)]
            · exact qA a b ha
          rw [e]
          exact BA2
        · rw [sU, hmi, List.append_nil]
          exact S2
      | some j =>
        have hj := hmt i j hmi
        obtain ⟨dx, hp⟩ := BA2.ob
        have QA := BA2.que i j hi hj
        rw [qI] at QA
        obtain ⟨es, hq, hel, he⟩ := QA.ex
        refine ⟨_, rfl, p, C, dx, _, _, rfl, hp, KX.cl, KX.na _ (by simp), rfl, _, rfl, la, _, _, _, rfl, rfl, SqL.of BA2.rows, at_of (j := i) rfl (refsV_at hi), _, rfl, ra i, _, _, _, rfl, rfl, SqL.of (BA2.row i hi), at_of (j := j) rfl (refsV_at hj), ?_⟩
        refine ⟨(by show 0 ≤ sizeLine; decide), fun z hz => ?_⟩
        have frz : Fr T [] H2 (upd H2 z (.lst [])) := Fr.new hz
        have hqz := frz.lst hq
        refine ⟨_, _, .lst (SqL.of hqz) (dpQ es (q i j) hel fun n e hn => ?_), .lst (SqL.of upd_same) .nil, shapedL cellD (fun a => ⟨by simp [cellD, PyData.canLay0, PyData.canLayAll0], by simp [cellD, PyData.depth, PyData.depthAll]⟩) _, rfl, ?_⟩
        · obtain ⟨c, x, e1, e2, e3⟩ := he n e hn
          exact ⟨c, x, e1, frz.tup _ _ e2, frz.tup _ _ e3⟩
        refine ⟨_, rfl, ?_⟩
        rw [eqv_nil]
        have BA3 := BA2.fr0 frz
        have S3 := S2.fr frz
        have hD3 := frz.lst hD2
        have fr3 : Fr T (barL p qa m) H (upd H2 z (.lst [])) := fr2.trans frz.up
        have he3 : ∀ (n : Nat) e, es[n]? = some e → ∃ c x, (q i j)[n]? = some x ∧ upd H2 z (.lst []) e = some (.tup [.ref c, .int (x.2.1 : Nat)]) ∧ CellAt (upd H2 z (.lst [])) c x := fun n e hn => by
          obtain ⟨c, x, e1, e2, e3⟩ := he n e hn
          exact ⟨c, x, e1, frz.tup _ _ e2, frz.tup _ _ e3⟩
        generalize upd H2 z (.lst []) = H3 at BA3 S3 hD3 fr3 hqz he3
        cases hqq : q i j with
        | nil =>
          refine ⟨_, _, _, _, ts, rfl, fr3, ?_, hD3, ?_⟩
          · have e : qAfter mt q (i + 1) = qAfter mt q i := by
              funext a b
              by_cases ha : a = i
              · subst ha
                unfold qAfter
                rw [if_neg (c := a < a ∧ _) (by omega)]
                by_cases eb : mt a = some b
                · have : j = b := by
                    rw [hmi] at eb
                    exact Option.some.inj eb
                  rw [if_pos ⟨by omega, eb⟩, ← this, hqq]
                  rfl
                · rw [if_neg fun z => eb z.2]
              · exact qA a b ha
            rw [e]
            exact BA3
          · rw [sU, hmi]
            show SentAt _ _ (_ ++ (match q i j with | [] => [] | x :: _ => [(⟨i, j, x, (slot : Int) - x.2.1⟩ : Sn)]))
            rw [hqq, List.append_nil]
            exact S3
        | cons x L =>
          rw [hqq] at hel he3
          obtain ⟨e0, es', rfl⟩ : ∃ e0 es', es = e0 :: es' := by
            cases es with
            | nil => cases hel
            | cons a b => exact ⟨a, b, rfl⟩
          obtain ⟨c, x', ex1, ex2, ex3⟩ := he3 0 e0 rfl
          cases ex1
          obtain ⟨dx3, hp3⟩ := BA3.ob
          have hqM : qa i j ∈ barL p qa m := barL_mem.mpr (.inr ⟨i, j, hi, hj, rfl⟩)
          refine ⟨_, rfl, p, C, dx3, _, _, rfl, hp3, KX.cl, KX.na _ (by simp), rfl, _, rfl, la, _, _, _, rfl, rfl, SqL.of BA3.rows, at_of (j := i) rfl (refsV_at hi), _, rfl, ra i, _, _, _, rfl, rfl, SqL.of (BA3.row i hi), at_of (j := j) rfl (refsV_at hj), .inl ⟨rfl, _, SqL.of hqz⟩, ?_⟩
          refine ⟨qa i j, _, 0, 0, .ref e0, rfl, rfl, hqz, by decide, by decide, (by simp [seqIndex?]), rfl, ?_⟩
          show gTup _ _ _ _ _ (upd H3 (qa i j) (.lst (es'.map V.ref))) _
          have nqp : qa i j ≠ p := ne_of hqz hp3 (by intro z; cases z)
          have nqD : D ≠ qa i j := fun z => by
            obtain ⟨xs, hxs⟩ := (BA.que i j hi hj).some
            rw [z, hxs] at hD
            cases hD
          have fr4 : Fr T (barL p qa m) H3 (upd H3 (qa i j) (.lst (es'.map V.ref))) := Fr.set hqM hqz (.lst _)
          have hD4 : upd H3 (qa i j) (.lst (es'.map V.ref)) D = some (.lst (ts.map V.ref)) := by rw [upd_ne nqD]; exact hD3
          have hp4 : upd H3 (qa i j) (.lst (es'.map V.ref)) p = some (.ins C dx3 (fsBar m la slot came went)) := by rw [upd_ne nqp.symm]; exact hp3
          have BA4 : BarAt (upd H3 (qa i j) (.lst (es'.map V.ref))) C p la ra qa m slot came went (qAfter mt q (i + 1)) := by
            refine ⟨⟨dx3, hp4⟩, by rw [upd_ne (BA.nl i j hi hj).symm]; exact BA3.rows, fun a ha => by rw [upd_ne (BA.nr i j a hi hj ha).symm]; exact BA3.row a ha, fun a b ha hb => ?_, BA.inj, BA.nr, BA.nl⟩
            by_cases e : a = i ∧ b = j
            · obtain ⟨rfl, rfl⟩ := e
              have eT : qAfter mt q (a + 1) a b = L := by
                unfold qAfter
                rw [if_pos ⟨by omega, hmi⟩, hqq]
                rfl
              rw [eT]
              refine ⟨es', upd_same, by simpa using hel, fun n e hn => ?_⟩
              obtain ⟨c', x', e1, e2, e3⟩ := he3 (n + 1) e hn
              exact ⟨c', x', e1, fr4.tup _ _ e2, fr4.tup _ _ e3⟩
            · have eO : qAfter mt q (i + 1) a b = qAfter mt q i a b := by
                by_cases ha' : a = i
                · subst ha'
                  unfold qAfter
                  have hb' : ¬ mt a = some b := fun z => e ⟨rfl, by rw [hmi] at z; exact (Option.some.inj z).symm⟩
                  rw [if_neg fun z => hb' z.2, if_neg fun z => hb' z.2]
                · exact qA a b ha'
              rw [eO]
              have qq := BA3.que a b ha hb
              have nab : qa a b ≠ qa i j := fun z => e (BA.inj a b i j ha hb hi hj z)
              obtain ⟨fs, g1, g2, g3⟩ := qq.ex
              exact ⟨fs, by rw [upd_ne nab]; exact g1, g2, fun n e he => by
                obtain ⟨c', x', e1, e2, e3⟩ := g3 n e he
                exact ⟨c', x', e1, fr4.tup _ _ e2, fr4.tup _ _ e3⟩⟩
          have S4 := S3.fr fr4
          have htup4 := fr4.tup _ _ ex2
          have hc4 : CellAt (upd H3 (qa i j) (.lst (es'.map V.ref))) c x := fr4.tup _ _ ex3
          have fr5 := fr3.trans fr4
          generalize upd H3 (qa i j) (.lst (es'.map V.ref)) = H4 at BA4 S4 hD4 hp4 fr5 htup4 hc4
          refine ⟨e0, _, rfl, SqT.of htup4, rfl, _, _, rfl, _, _, rfl, rfl, ?_⟩
          refine ⟨_, rfl, .inl ⟨rfl, _, SqL.of hD4⟩, _, rfl, _, rfl, _, rfl, _, rfl, p, C, dx3, _, _, rfl, hp4, KX.cl, KX.na _ (by simp), rfl, _, rfl, _, _, rfl, rfl, (by show 4 ≤ sizeLine; decide), fun t2 ht2 => ?_⟩
          have hSl := sentU_len mt q slot i
          generalize hH5 : upd H4 t2 _ = H5
          have htt : H5 t2 = some (.tup [.int (i : Nat), .int (j : Nat), .ref c, .int ((slot : Int) - (x.2.1 : Nat))]) := by rw [← hH5]; exact upd_same
          have frt2 : Fr T [] H4 H5 := by rw [← hH5]; exact Fr.new ht2
          have BA5 := BA4.fr0 frt2
          have S5 := S4.fr frt2
          have hD5 := frt2.lst hD4
          have hc5 : CellAt H5 c x := frt2.tup _ _ hc4
          have fr6 : Fr T (barL p qa m) H H5 := fr5.trans frt2.up
          refine ⟨D, ts.map V.ref, _, rfl, rfl, hD5, by rw [List.length_map, S4.len]; exact inLine (by omega), ?_⟩
          have frD : Fr T [D] H5 (upd H5 D (.lst (ts.map V.ref ++ [.ref t2]))) := Fr.set (List.mem_singleton.mpr rfl) hD5 (.lst _)
          have nD : ∀ b u, H b = some u → b ∉ [D] := fun b u e z => by
            rw [List.mem_singleton.mp z, hD] at e
            cases e
          obtain ⟨dx0, hp0⟩ := BA.ob
          refine ⟨_, _, _, _, ts ++ [t2], rfl, fr6.own hD hD5 (.lst _), BA5.fr frD (nD _ _ hp0) (nD _ _ BA.rows) (fun a ha => nD _ _ (BA.row a ha)) (fun a b ha hb => (let ⟨xs, hxs⟩ := (BA.que a b ha hb).some; nD _ _ hxs)), by rw [upd_same, List.map_append]; rfl, ?_, fun n b hb => ?_⟩
          · rw [sU, hmi]
            show (ts ++ [t2]).length = (_ ++ (match q i j with | [] => [] | x :: _ => [(⟨i, j, x, (slot : Int) - x.2.1⟩ : Sn)])).length
            rw [hqq]
            simp [S5.len]
          · rw [sU, hmi]
            show ∃ z c, (_ ++ (match q i j with | [] => [] | x :: _ => [(⟨i, j, x, (slot : Int) - x.2.1⟩ : Sn)]))[n]? = some z ∧ _
            rw [hqq]
            rcases Nat.lt_or_ge n ts.length with hlt | hge
            · rw [List.getElem?_append_left hlt] at hb
              obtain ⟨z', c', e1, e2, e3⟩ := S5.at_ n b hb
              exact ⟨z', c', by rw [List.getElem?_append_left (by rw [← S5.len]; exact hlt)]; exact e1, frD.tup _ _ e2, frD.tup _ _ e3⟩
            · have en : n = ts.length := by
                have := (List.getElem?_eq_some_iff.mp hb).1
                simp at this
                omega
              subst en
              rw [List.getElem?_append_right (Nat.le_refl _), Nat.sub_self] at hb
              have eb : t2 = b := Option.some.inj hb
              subst eb
              exact ⟨⟨i, j, x, (slot : Int) - x.2.1⟩, c, by rw [S5.len, List.getElem?_append_right (Nat.le_refl _), Nat.sub_self]; rfl, frD.tup _ _ htt, frD.tup _ _ hc5⟩
    · rintro σ H1 ⟨a, b, c0, d, ts, rfl, fr1, BA1, hD1, S1⟩
      rw [colV_len] at BA1 S1
      exact ⟨a, b, c0, d, ts, rfl, fr1, BA1, hD1, S1⟩
end
end KX
set_option Elab.async false
set_option linter.all false
set_option maxRecDepth 100000
set_option maxHeartbeats 4000000
/-! KX 14: Crossbar.how_many. -/
namespace KX
open PySem PySem.Spec PyProof.Rows L2 GX
def spHM (T : Tb) (C : Addr) : Sp := fun vs H Q _ => ∃ (p la : Addr) (ra : Nat → Addr) (qa : Nat → Nat → Addr) (m slot came went : Nat) (q : Nat → Nat → List Cell), vs = [.ref p] ∧ TbOk T H ∧ BarAt H C p la ra qa m slot came went q ∧ m ≤ 100 ∧ (∀ i j, i < m → j < m → q i j = []) ∧ ∀ H', Fr T [] H H' → Q (.int 0) H'
abbrev sHM : Stmt := inClass (top 12) 4
abbrev nHM : List Str := ["self", "row", "queue"]
theorem scHM : FnScope nHM ["self"] (defScope sHM) := ⟨rfl, rfl, rfl, by decide +kernel, rfl, by decide +kernel, by decide +kernel⟩
section
variable {P : Program} {w : World} {K : PySem.W.Frag} {mg : Str → Option Value} {base : Heap} {T : Tb}
theorem ok_hm {f c C : Addr} {fd : FuncData} (F : FunC K "how_many" "Crossbar.how_many" sHM f fd c) (CO : CodeOf base mg c T.how) (B : Bl mg) (KX : Kl K C aBar) : FnOk P w K mg base CX0 2 f fd ["self"] (spHM T C) := by
  have nd := scHM.nd
  refine F.ok scHM (fun vs H Q E h => ?_) (fun A outer s0 H vs Q E hr h => ?_)
  · obtain ⟨p, la, ra, qa, m, slot, came, went, q, rfl, _⟩ := h
    rfl
  · obtain ⟨p, la, ra, qa, m, slot, came, went, q, rfl, hT, BA, hm, hq0, k⟩ := h
    refine ⟨_, pss_one (ps_ret (pe_sumP (av := T.streams) (d := 0) (k := 0) (own := [("row", 1), ("queue", 2)]) (TP := fun cv J σ0 Q W => tTurn2 conSum J (gName 1) tYes (iList K (tVar 1)) (gName 2) tYes ((fun _ => tCB (rLen K) (tCons (tVar 2) tNil)) cv) σ0 [1, 2] [2] Q W)
      hr CO.bm rfl B.sum nd (pi_list (pe_fld (pv 0) rfl)) (blkOk_by (N := nHM) (sc := defScope sHM) (by decide +kernel)) rfl rfl
      (segOk2 (te := fun _ => tCB (rLen K) (tCons (tVar 2) tNil)) (vs := [1, 2]) (vs1 := [2]) rfl (by decide) (fun _ _ => rfl) (fun _ _ _ _ _ _ _ => pg_name (i := 1) nd rfl (Or.inl rfl)) (fun _ _ _ _ _ _ _ _ => pts_nil) (fun _ _ _ _ _ _ _ _ => pi_list (pv 1)) (fun _ _ _ _ _ _ _ => pg_name (i := 2) nd rfl (Or.inl rfl)) (fun _ _ _ _ _ _ _ _ => pts_nil)
        (fun _ _ _ _ _ _ _ _ => pe_callB call_lenS (by rfl) B.len boot_len (pa_cons (pv 2) pa_nil))))), ?_⟩
    obtain ⟨dx, hp⟩ := BA.ob
    refine ⟨_, rfl, p, C, dx, _, _, rfl, hp, KX.cl, KX.na _ (by simp), rfl, la, rfl, ⟨_, SqL.of BA.rows⟩, c, T.how, rfl, .inl CO.hd, hT.how, fun cv H1 g1 => ?_⟩
    have fr1 : Fr T [] H H1 := Fr.grown g1 fun t => t.n1
    refine sum2_sq (sq_list (a := la) (xs := refsV m ra)) m (fun _ _ => 0) rfl (fun _ H' => Fr T [] H H') (fun _ _ H' => Fr T [] H H') (fun _ _ => rfl) fr1 (fun i H' _ p => SqL.of (p.lst BA.rows)) (fun i H' _ p => p) ?_ (fun ⟨v, e, a, e2, e3, h⟩ mo => ⟨v, e, a, e2, e3, mo _ _ h⟩) (fun h mo => mo _ _ h) (fun h mo => mo _ _ h) fun H' p => k H' p
    rintro i x H2 H2' hi fr2 ⟨hx, rfl⟩
    rw [refsV_len] at hi
    have ex : x = .ref (ra i) := by
      rw [refsV_at hi] at hx
      exact (Option.some.inj hx).symm
    subst ex
    refine ⟨rfl, rfl, _, rfl, ra i, rfl, ⟨_, SqL.of (fr2.lst (BA.row i hi))⟩, fr2, fun H' => SqL K H' (ra i) (refsV m (qa i)), yAt (refsV m (qa i)), (by have h := sq_list (K := K) (a := ra i) (xs := refsV m (qa i)); rw [refsV_len] at h; exact h), (fun j H' _ p => SqL.of (p.lst (BA.row i hi))), ?_⟩
    rintro j x1 H3 H3' hj fr3 ⟨hx1, rfl⟩ N hN
    have ex1 : x1 = .ref (qa i j) := by
      rw [refsV_at hj] at hx1
      exact (Option.some.inj hx1).symm
    subst ex1
    obtain ⟨es, h1, h2, _⟩ := (BA.que i j hi hj).ex
    rw [hq0 i j hi hj] at h2
    have e0 : es = [] := List.eq_nil_of_length_eq_zero h2
    subst e0
    refine ⟨rfl, _, rfl, qa i j, _, rfl, .inl (SqL.of (fr3.lst h1)), ?_⟩
    exact sumStep (Q := fun _ _ => True) (v := 0) rfl (by omega) ⟨by omega, by omega⟩ ⟨by omega, by omega⟩ (hN _ fr3)
end
end KX
set_option Elab.async false
set_option linter.all false
set_option maxRecDepth 100000
set_option maxHeartbeats 4000000
/-! KX 15: the switch: what it holds; its curves and bounds. -/
namespace KX
open PySem PySem.Spec PyProof.Rows L2 GX
/-- what of a switch stays -/
structure SwS where
  m : Nat
  sl : Nat
  ls : Addr
  lb : Addr
  pa : Addr
  ba : Addr
  la : Addr
  as : List Addr
  bs : List Addr
  sts : List St4
  pl : Nat → Nat → Option Nat
  ra : Nat → Addr
  qa : Nat → Nat → Addr
/-- the classes -/
structure Cs where
  W : Addr
  S : Addr
  B : Addr
  X : Addr
  L : Addr
abbrev aSw : List Str := ["many", "slots", "streams", "buckets", "plan", "bar", "refused"]
def fsSw (z : SwS) (refused : Nat) : List (Str × V) := [(("many" : Str), .int z.m), (("slots" : Str), .int z.sl), (("streams" : Str), .ref z.ls), (("buckets" : Str), .ref z.lb), (("plan" : Str), .ref z.pa), (("bar" : Str), .ref z.ba), (("refused" : Str), .int refused)]
structure SwOk (z : SwS) : Prop where
  m0 : 0 < z.m
  m : z.m ≤ 20
  s0 : 0 < z.sl
  s : z.sl ≤ 40
  st : ∀ (k : Nat) y, z.sts[k]? = some y → y.one < z.m ∧ y.gate < z.m ∧ 1 ≤ y.burst ∧ y.burst ≤ 100 ∧ 1 ≤ y.rate ∧ y.rate ≤ z.sl
  len : z.sts.length ≤ 40
structure SwAt (H : Hp) (c : Cs) (p : Addr) (z : SwS) (marks : Nat → Int) (refused slot came went : Nat) (q : Nat → Nat → List Cell) : Prop where
  ok : SwOk z
  ob : ∃ dx, H p = some (.ins c.W dx (fsSw z refused))
  sl : H z.ls = some (.lst (z.as.map V.ref))
  slen : z.as.length = z.sts.length
  st : ∀ (k : Nat) a y, z.as[k]? = some a → z.sts[k]? = some y → ∃ dx, H a = some (.ins c.S dx (fsSt y))
  bl : H z.lb = some (.lst (z.bs.map V.ref))
  blen : z.bs.length = z.sts.length
  bk : ∀ (k : Nat) b y, z.bs[k]? = some b → z.sts[k]? = some y → ∃ dx, H b = some (.ins c.B dx (fsBk (y.burst * z.sl) y.rate (marks k)))
  bnd : z.bs.Nodup
  plan : PlanAt H z.pa z.m z.sl z.pl
  bar : BarAt H c.X z.ba z.la z.ra z.qa z.m slot came went q
  nq : ∀ i j, i < z.m → j < z.m → z.qa i j ≠ z.ls ∧ z.qa i j ≠ z.lb
/-- what of a switch may be written -/
def swL (p : Addr) (z : SwS) : List Addr := p :: (z.bs ++ barL z.ba z.qa z.m)
theorem ne_fs {H : Hp} {a b : Addr} {C C' d d' : Addr} {fs fs' : List (Str × V)} (h : H a = some (.ins C d fs)) (h' : H b = some (.ins C' d' fs')) (n : fs.length ≠ fs'.length) : a ≠ b := fun e => by
  rw [e, h'] at h
  injection h with h1
  injection h1 with _ _ h2
  exact n (by rw [h2])
section
variable {T : Tb} {H H' : Hp} {c : Cs} {p : Addr} {z : SwS} {marks : Nat → Int} {refused slot came went : Nat} {q : Nat → Nat → List Cell}
theorem SwAt.fr0 (h : SwAt H c p z marks refused slot came went q) (f : Fr T [] H H') : SwAt H' c p z marks refused slot came went q where
  ok := h.ok
  ob := let ⟨dx, h1⟩ := h.ob; ⟨dx, f.ins h1⟩
  sl := f.lst h.sl
  slen := h.slen
  st := fun k a y e1 e2 => let ⟨dx, h1⟩ := h.st k a y e1 e2; ⟨dx, f.ins h1⟩
  bl := f.lst h.bl
  blen := h.blen
  bk := fun k a y e1 e2 => let ⟨dx, h1⟩ := h.bk k a y e1 e2; ⟨dx, f.ins h1⟩
  bnd := h.bnd
  plan := h.plan.fr f
  bar := h.bar.fr0 f
  nq := h.nq
theorem SwAt.strm (h : SwAt H c p z marks refused slot came went q) {k : Nat} {y : St4} (e : z.sts[k]? = some y) : ∃ a dx, z.as[k]? = some a ∧ H a = some (.ins c.S dx (fsSt y)) := by
  have hk : k < z.as.length := by rw [h.slen]; exact (List.getElem?_eq_some_iff.mp e).1
  obtain ⟨dx, h1⟩ := h.st k _ y (List.getElem?_eq_getElem hk) e
  exact ⟨_, dx, List.getElem?_eq_getElem hk, h1⟩
end
/-- how many have come at most, in k slots -/
def come (z : SwS) (y : St4) (k : Nat) : Nat := cv (y.burst * z.sl) y.rate k / z.sl
def least (z : SwS) (y : St4) (k : Nat) : Nat := lst z.pl z.sl y.one y.gate k
def farN (z : SwS) (y : St4) : Nat := z.sl * (y.burst / y.rate + 5)
theorem farN_le {z : SwS} {y : St4} {k : Nat} (h : SwOk z) (e : z.sts[k]? = some y) : 1 ≤ farN z y ∧ farN z y ≤ 5000 := by
  obtain ⟨_, _, h1, h2, h3, h4⟩ := h.st k y e
  have h2 : y.burst ≤ 100 := h2
  unfold farN
  have a1 : y.burst / y.rate ≤ y.burst := Nat.div_le_self _ _
  have a2 : z.sl * (y.burst / y.rate + 5) ≤ 40 * 105 := Nat.mul_le_mul h.s (Nat.add_le_add_right (Nat.le_trans a1 h2) 5)
  have a3 : 1 * 1 ≤ z.sl * (y.burst / y.rate + 5) := Nat.mul_le_mul h.s0 (Nat.le_trans (by decide : 1 ≤ 5) (Nat.le_add_left 5 _))
  omega
def spComes (T : Tb) (c : Cs) : Sp := fun vs H Q _ => ∃ (p : Addr) (z : SwS) (marks : Nat → Int) (refused slot came went : Nat) (q : Nat → Nat → List Cell) (k n : Nat) (y : St4), vs = [.ref p, .int k, .int n] ∧ SwAt H c p z marks refused slot came went q ∧ z.sts[k]? = some y ∧ n ≤ 80000 ∧
  ∀ a H', Fr T [] H H' → H' a = some (.tup (rowV (n + 1) (come z y))) → Q (.ref a) H'
abbrev sComes : Stmt := inClass (top 26) 5
abbrev nComes : List Str := ["self", "number", "slots", "stream", "curve", "count"]
theorem scComes : FnScope nComes ["self", "number", "slots"] (defScope sComes) := ⟨rfl, rfl, rfl, by decide +kernel, rfl, by decide +kernel, by decide +kernel⟩
def spServes (T : Tb) (c : Cs) : Sp := fun vs H Q _ => ∃ (p : Addr) (z : SwS) (marks : Nat → Int) (refused slot came went : Nat) (q : Nat → Nat → List Cell) (k n : Nat) (y : St4), vs = [.ref p, .int k, .int n] ∧ TbOk T H ∧ SwAt H c p z marks refused slot came went q ∧ z.sts[k]? = some y ∧ n ≤ 80000 ∧
  ∀ a H', Fr T [] H H' → H' a = some (.tup (rowV (n + 1) (least z y))) → Q (.ref a) H'
abbrev sServes : Stmt := inClass (top 26) 6
abbrev nServes : List Str := ["self", "number", "slots", "stream", "count"]
theorem scServes : FnScope nServes ["self", "number", "slots"] (defScope sServes) := ⟨rfl, rfl, rfl, by decide +kernel, rfl, by decide +kernel, by decide +kernel⟩
def spFar (c : Cs) : Sp := fun vs H Q _ => ∃ (p : Addr) (z : SwS) (marks : Nat → Int) (refused slot came went : Nat) (q : Nat → Nat → List Cell) (k : Nat) (y : St4), vs = [.ref p, .int k] ∧ SwAt H c p z marks refused slot came went q ∧ z.sts[k]? = some y ∧ Q (.int (farN z y : Nat)) H
abbrev sFar : Stmt := inClass (top 26) 7
abbrev nFar : List Str := ["self", "number", "stream"]
theorem scFar : FnScope nFar ["self", "number"] (defScope sFar) := ⟨rfl, rfl, rfl, by decide +kernel, rfl, by decide +kernel, by decide +kernel⟩
section
variable {P : Program} {w : World} {K : PySem.W.Frag} {mg : Str → Option Value} {base : Heap} {T : Tb} {c : Cs}
theorem ok_comes {f fB : Addr} {fd fdB : FuncData} (F : Fun K "comes" "Switch.comes" sComes f fd) (B : Bl mg) (KW : Kl K c.W aSw) (KS : Kl K c.S aStream) (GB : FnOk P w K mg base CX0 1 fB fdB ["burst", "rate", "slots"] (spBC T)) (mB : mg "bucket_curve" = some (.ref fB)) (kB : PySem.W.keepIn K (.ref fB) = true) (bB : Binds K fdB ["burst", "rate", "slots"] []) :
    FnOk P w K mg base CX0 2 f fd ["self", "number", "slots"] (spComes T c) := by
  have nd := scComes.nd
  refine F.ok scComes (fun vs H Q E h => ?_) (fun cdv A outer s0 H vs Q E hr h => ?_)
  · obtain ⟨p, z, marks, refused, slot, came, went, q, k, n, y, rfl, _⟩ := h
    rfl
  · obtain ⟨p, z, marks, refused, slot, came, went, q, k, n, y, rfl, SA, hy, hn, hQ⟩ := h
    refine ⟨_, pss_cons (ps_set (i := 3) nd rfl (Or.inl rfl) (pe_ix ix_list (pe_fld (pv 0) rfl) (pv 1) (fun _ _ => rfl)))
      (pss_cons (ps_set (i := 4) nd rfl (Or.inl rfl) (pe_call GB hr rfl mB kB bB .nil pass0 (pa_cons (pe_op op_mul (pe_fld (pv 3) rfl) (pe_fld (pv 0) rfl)) (pa_cons (pe_fld (pv 3) rfl) (pa_cons (pv 2) pa_nil)))))
      (pss_one (ps_ret (pe_callTy call_tupOf (by rfl) B.tuple boot_tuple (pa_cons (pe_lc (own := [("count", 5)]) (g := gName 5) (tt := tYes) (te := tOp (rI CDiv fun i j => .int (i / j)) (tVar 5) (tFld K (tVar 0) "slots")) rfl nd (pi_tup (pv 4)) (blkOk_by (N := nComes) (sc := defScope sComes) (by decide +kernel)) (fun _ _ _ _ _ => pg_name (i := 5) nd rfl (Or.inl rfl)) (fun _ _ _ _ _ => pts_nil) (fun _ _ _ _ _ => pe_op op_fdiv (pv 5) (pe_fld (pv 0) rfl))) pa_nil))))), ?_⟩
    obtain ⟨dx, hp⟩ := SA.ob
    obtain ⟨a, da, ha, hs⟩ := SA.strm hy
    obtain ⟨_, _, h1, h2, h3, h4⟩ := SA.ok.st k y hy
    have hsl := SA.ok.s
    have hs0 := SA.ok.s0
    refine ⟨_, rfl, p, c.W, dx, _, _, rfl, hp, KW.cl, KW.na _ (by simp), rfl, _, rfl, z.ls, _, _, _, rfl, rfl, SqL.of SA.sl, at_of (j := k) rfl (by rw [List.getElem?_map, ha]; rfl), ?_⟩
    refine ⟨_, rfl, a, c.S, da, _, _, rfl, hs, KS.cl, KS.na _ (by simp), rfl, _, rfl, p, c.W, dx, _, _, rfl, hp, KW.cl, KW.na _ (by simp), rfl, _, _, rfl, rfl, .inl ⟨by omega, by omega⟩, _, rfl, a, c.S, da, _, _, rfl, hs, KS.cl, KS.na _ (by simp), rfl, _, rfl, ?_⟩
    refine ⟨y.burst * z.sl, y.rate, n, by rw [Int.natCast_mul]; rfl, by omega, by omega, fun t H1 fr1 ht => ?_⟩
    have SA1 := SA.fr0 fr1
    obtain ⟨dx1, hp1⟩ := SA1.ob
    refine ⟨_, rfl, t, rfl, ⟨_, SqT.of ht⟩, fun D hD => ?_⟩
    refine lc_sq (sq_tup (a := t) (xs := rowV (n + 1) (cv (y.burst * z.sl) y.rate))) (fun i H' => Fr T [] H1 H' ∧ H' D = some (.lst (rowV i (come z y)))) ⟨Fr.new hD, upd_same⟩ (fun i H' _ p => SqT.of (p.1.tup _ _ ht)) ?_ ?_
    · rintro i x H2 H2' hi ⟨fr2, hD2⟩ ⟨hx, rfl⟩
      rw [rowV_len] at hi
      obtain ⟨rfl, _⟩ := rowV_of hx
      obtain ⟨dx2, hp2⟩ := (SA1.fr0 fr2).ob
      refine ⟨rfl, _, rfl, _, rfl, p, c.W, dx2, _, _, rfl, hp2, KW.cl, KW.na _ (by simp), rfl, _, _, rfl, rfl, ⟨by omega, by omega⟩, ?_⟩
      refine ⟨_, hD2, by rw [rowV_len]; exact inLine (by omega), fr2.own hD hD2 (.lst _), ?_⟩
      rw [upd_same, rowV_succ]
      rfl
    · rintro H2 ⟨fr2, hD2⟩
      rw [rowV_len] at hD2
      refine ⟨D, _, rfl, .inl ⟨SqL.of hD2, fun l hl => ?_⟩⟩
      exact hQ l _ ((fr1.trans fr2).andNew hl) upd_same
theorem ok_serves {f fL : Addr} {fd fdL : FuncData} (F : Fun K "serves" "Switch.serves" sServes f fd) (B : Bl mg) (KW : Kl K c.W aSw) (KS : Kl K c.S aStream) (GL : FnOk P w K mg base CX0 3 fL fdL ["plan", "one", "gate", "slots"] (spLeast T)) (mL : mg "least_served" = some (.ref fL)) (kL : PySem.W.keepIn K (.ref fL) = true) (bL : Binds K fdL ["plan", "one", "gate", "slots"] []) :
    FnOk P w K mg base CX0 4 f fd ["self", "number", "slots"] (spServes T c) := by
  have nd := scServes.nd
  refine F.ok scServes (fun vs H Q E h => ?_) (fun cdv A outer s0 H vs Q E hr h => ?_)
  · obtain ⟨p, z, marks, refused, slot, came, went, q, k, n, y, rfl, _⟩ := h
    rfl
  · obtain ⟨p, z, marks, refused, slot, came, went, q, k, n, y, rfl, hT, SA, hy, hn, hQ⟩ := h
    refine ⟨_, pss_cons (ps_set (i := 3) nd rfl (Or.inr rfl) (pe_ix ix_list (pe_fld (pv 0) rfl) (pv 1) (fun _ _ => rfl)))
      (pss_one (ps_ret (pe_callTy call_tupOf (by rfl) B.tuple boot_tuple (pa_cons (pe_lc (own := [("count", 4)]) (g := gName 4) (tt := tYes) (te := tCall (spLeast T) [] E0 (tCons (tFld K (tVar 0) "plan") (tCons (tFld K (tVar 3) "one") (tCons (tFld K (tVar 3) "gate") (tCons (tVar 4) tNil))))) rfl nd (pi_range1 rfl B.range (pa_cons (pe_op op_add (pv 2) pe_int) pa_nil)) (blkOk_by (N := nServes) (sc := defScope sServes) (by decide +kernel)) (fun _ _ _ _ _ => pg_name (i := 4) nd rfl (Or.inl rfl)) (fun _ _ _ _ _ => pts_nil)
        (fun _ _ _ _ _ => pe_call GL hr rfl mL kL bL .nil pass0 (pa_cons (pe_fld (pv 0) rfl) (pa_cons (pe_fld (pv 3) rfl) (pa_cons (pe_fld (pv 3) rfl) (pa_cons (pv 4) pa_nil)))))) pa_nil)))), ?_⟩
    obtain ⟨dx, hp⟩ := SA.ob
    obtain ⟨a, da, ha, hs⟩ := SA.strm hy
    obtain ⟨g1, g2, h1, h2, h3, h4⟩ := SA.ok.st k y hy
    have hsl := SA.ok.s
    have hs0 := SA.ok.s0
    refine ⟨_, rfl, p, c.W, dx, _, _, rfl, hp, KW.cl, KW.na _ (by simp), rfl, _, rfl, z.ls, _, _, _, rfl, rfl, SqL.of SA.sl, at_of (j := k) rfl (by rw [List.getElem?_map, ha]; rfl), ?_⟩
    refine ⟨_, rfl, _, _, rfl, rfl, _, rfl, (by omega), (by omega), fun D hD => ?_⟩
    rw [show (((n : Nat) : Int) + 1).toNat = n + 1 by omega]
    refine lc_sq (sq_rng (lo := 0) (n := n + 1)) (fun i H' => Fr T [] H H' ∧ H' D = some (.lst (rowV i (least z y)))) ⟨Fr.new hD, upd_same⟩ (fun _ _ _ _ => trivial) ?_ ?_
    · rintro i x H2 H2' hi ⟨fr2, hD2⟩ hx
      obtain ⟨rfl, rfl⟩ := yRg0 hx
      have SA2 := SA.fr0 fr2
      obtain ⟨dx2, hp2⟩ := SA2.ob
      have hs2 := fr2.ins hs
      refine ⟨rfl, _, rfl, p, c.W, dx2, _, _, rfl, hp2, KW.cl, KW.na _ (by simp), rfl, _, rfl, a, c.S, da, _, _, rfl, hs2, KS.cl, KS.na _ (by simp), rfl, _, rfl, a, c.S, da, _, _, rfl, hs2, KS.cl, KS.na _ (by simp), rfl, _, rfl, ?_⟩
      refine ⟨z.pa, z.m, z.sl, z.pl, y.one, y.gate, i, rfl, fr2.tb hT, SA2.plan, g1, hs0, by omega, by omega, fun H3 fr3 => ?_⟩
      refine ⟨_, fr3.lst hD2, by rw [rowV_len]; exact inLine (by omega), (fr2.trans fr3).own hD (fr3.lst hD2) (.lst _), ?_⟩
      rw [upd_same, rowV_succ]
      rfl
    · rintro H2 ⟨fr2, hD2⟩
      refine ⟨D, _, rfl, .inl ⟨SqL.of hD2, fun l hl => ?_⟩⟩
      exact hQ l _ (fr2.andNew hl) upd_same
theorem ok_far {f : Addr} {fd : FuncData} (F : Fun K "far" "Switch.far" sFar f fd) (KW : Kl K c.W aSw) (KS : Kl K c.S aStream) : FnOk P w K mg base CX0 1 f fd ["self", "number"] (spFar c) := by
  have nd := scFar.nd
  refine F.ok scFar (fun vs H Q E h => ?_) (fun cdv A outer s0 H vs Q E hr h => ?_)
  · obtain ⟨p, z, marks, refused, slot, came, went, q, k, y, rfl, _⟩ := h
    rfl
  · obtain ⟨p, z, marks, refused, slot, came, went, q, k, y, rfl, SA, hy, hQ⟩ := h
    refine ⟨_, pss_cons (ps_set (i := 2) nd rfl (Or.inl rfl) (pe_ix ix_list (pe_fld (pv 0) rfl) (pv 1) (fun _ _ => rfl)))
      (pss_one (ps_ret (pe_op op_mul (pe_fld (pv 0) rfl) (pe_op op_add (pe_op op_fdiv (pe_fld (pv 2) rfl) (pe_fld (pv 2) rfl)) pe_int)))), ?_⟩
    obtain ⟨dx, hp⟩ := SA.ob
    obtain ⟨a, da, ha, hs⟩ := SA.strm hy
    obtain ⟨g1, g2, h1, h2, h3, h4⟩ := SA.ok.st k y hy
    have hsl := SA.ok.s
    have hs0 := SA.ok.s0
    refine ⟨_, rfl, p, c.W, dx, _, _, rfl, hp, KW.cl, KW.na _ (by simp), rfl, _, rfl, z.ls, _, _, _, rfl, rfl, SqL.of SA.sl, at_of (j := k) rfl (by rw [List.getElem?_map, ha]; rfl), ?_⟩
    refine ⟨_, rfl, p, c.W, dx, _, _, rfl, hp, KW.cl, KW.na _ (by simp), rfl, _, rfl, a, c.S, da, _, _, rfl, hs, KS.cl, KS.na _ (by simp), rfl, _, rfl, a, c.S, da, _, _, rfl, hs, KS.cl, KS.na _ (by simp), rfl, _, _, rfl, rfl, ⟨by omega, by omega⟩, _, _, rfl, rfl, _, _, rfl, rfl, .inl ⟨by omega, by omega⟩, ?_⟩
    have e : (z.sl : Int) * ((y.burst : Int) / (y.rate : Nat) + 5) = ((farN z y : Nat) : Int) := by
      unfold farN
      push_cast
      rfl
    have hQ' : Q (.int ((z.sl : Int) * ((y.burst : Int) / (y.rate : Nat) + 5))) H := by rw [e]; exact hQ
    exact hQ'
end
end KX
set_option Elab.async false
set_option linter.all false
set_option maxRecDepth 100000
set_option maxHeartbeats 4000000
/-! KX 16: queue_bound, wait_bound. -/
namespace KX
open PySem PySem.Spec PyProof.Rows L2 GX
theorem cut1 (n : Nat) (f : Nat → Nat) : cutV (rowV (n + 1) f) (some 1) none = rowV n (fun i => f (i + 1)) ∧ ¬ (HT.sIx (rowV (n + 1) f).length 0 (some 1) = 0 ∧ HT.sIx (rowV (n + 1) f).length (rowV (n + 1) f).length none = (rowV (n + 1) f).length) := by
  have e1 : HT.sIx (rowV (n + 1) f).length 0 (some 1) = 1 := by rw [rowV_len]; simp [HT.sIx]
  have e2 : HT.sIx (rowV (n + 1) f).length (rowV (n + 1) f).length none = n + 1 := by rw [rowV_len]; simp [HT.sIx]
  refine ⟨?_, fun h => by rw [e1] at h; omega⟩
  unfold cutV
  rw [e1, e2, rowV_shift, List.drop_succ_cons, List.drop_zero]
  exact List.take_of_length_le (by rw [rowV_len]; omega)
def spQB (T : Tb) (c : Cs) : Sp := fun vs H Q _ => ∃ (p : Addr) (z : SwS) (marks : Nat → Int) (refused slot came went : Nat) (q : Nat → Nat → List Cell) (k : Nat) (y : St4), vs = [.ref p, .int k] ∧ TbOk T H ∧ SwAt H c p z marks refused slot came went q ∧ z.sts[k]? = some y ∧
  ∀ (v : Int) H', Fr T [] H H' → (∀ i, i < farN z y → (come z y (i + 1) : Int) - least z y i ≤ v) → Q (.int v) H'
abbrev sQB : Stmt := inClass (top 26) 8
abbrev nQB : List Str := ["self", "number", "slots"]
theorem scQB : FnScope nQB ["self", "number"] (defScope sQB) := ⟨rfl, rfl, rfl, by decide +kernel, rfl, by decide +kernel, by decide +kernel⟩
def spWB (T : Tb) (c : Cs) : Sp := fun vs H Q _ => ∃ (p : Addr) (z : SwS) (marks : Nat → Int) (refused slot came went : Nat) (q : Nat → Nat → List Cell) (k : Nat) (y : St4), vs = [.ref p, .int k] ∧ TbOk T H ∧ SwAt H c p z marks refused slot came went q ∧ z.sts[k]? = some y ∧ (∀ i, i < 2 * z.sl → ∃ a, a < farN z y + 1 ∧ come z y (i + 1) ≤ least z y a) ∧
  ∀ (v : Int) H', Fr T [] H H' → -1 ≤ v → v ≤ farN z y → (∀ i, i < 2 * z.sl → ∀ a, a < farN z y + 1 → come z y (i + 1) ≤ least z y a → (∀ b, b < a → least z y b < come z y (i + 1)) → (a : Int) - i ≤ v + 1) → Q (.int v) H'
abbrev sWB : Stmt := inClass (top 26) 9
abbrev nWB : List Str := ["self", "number", "slots", "comes", "serves"]
theorem scWB : FnScope nWB ["self", "number"] (defScope sWB) := ⟨rfl, rfl, rfl, by decide +kernel, rfl, by decide +kernel, by decide +kernel⟩
section
variable {P : Program} {w : World} {K : PySem.W.Frag} {mg : Str → Option Value} {base : Heap} {T : Tb} {c : Cs}
theorem ok_qb {f fF fC fS fQ : Addr} {fd fdF fdC fdS fdQ : FuncData} (F : Fun K "queue_bound" "Switch.queue_bound" sQB f fd) (KW : Kl K c.W aSw)
    (GF : FnOk P w K mg base CX0 1 fF fdF ["self", "number"] (spFar c)) (bF : Binds K fdF ["self", "number"] []) (mF : Meth K c.W "far" fF)
    (GC : FnOk P w K mg base CX0 2 fC fdC ["self", "number", "slots"] (spComes T c)) (bC : Binds K fdC ["self", "number", "slots"] []) (mC : Meth K c.W "comes" fC)
    (GS : FnOk P w K mg base CX0 4 fS fdS ["self", "number", "slots"] (spServes T c)) (bS : Binds K fdS ["self", "number", "slots"] []) (mS : Meth K c.W "serves" fS)
    (GQ : FnOk P w K mg base CX0 1 fQ fdQ ["comes", "serves"] (spMQ T)) (mQ : mg "most_queue" = some (.ref fQ)) (kQ : PySem.W.keepIn K (.ref fQ) = true) (bQ : Binds K fdQ ["comes", "serves"] []) :
    FnOk P w K mg base CX0 5 f fd ["self", "number"] (spQB T c) := by
  have nd := scQB.nd
  refine F.ok scQB (fun vs H Q E h => ?_) (fun cdv A outer s0 H vs Q E hr h => ?_)
  · obtain ⟨p, z, marks, refused, slot, came, went, q, k, y, rfl, _⟩ := h
    rfl
  · obtain ⟨p, z, marks, refused, slot, came, went, q, k, y, rfl, hT, SA, hy, hQ⟩ := h
    refine ⟨_, pss_cons (ps_set (i := 2) nd rfl (Or.inl rfl) (pe_meth (pv 0) KW.cl mF GF (hr.mono (by decide)) bF .nil pass0 (pa_cons (pv 1) pa_nil)))
      (pss_one (ps_ret (pe_call GQ (hr.mono (by decide)) rfl mQ kQ bQ .nil pass0 (pa_cons (pe_slice sl_tupA (pe_meth (pv 0) KW.cl mC GC (hr.mono (by decide)) bC .nil pass0 (pa_cons (pv 1) (pa_cons (pv 2) pa_nil))) (po_some pe_int) po_none) (pa_cons (pe_meth (pv 0) KW.cl mS GS hr bS .nil pass0 (pa_cons (pv 1) (pa_cons (pe_op op_sub (pv 2) pe_int) pa_nil))) pa_nil))))), ?_⟩
    obtain ⟨dx, hp⟩ := SA.ob
    have hf := farN_le SA.ok hy
    refine ⟨_, rfl, p, dx, _, rfl, hp, rfl, _, rfl, ?_⟩
    refine ⟨p, z, marks, refused, slot, came, went, q, k, y, rfl, SA, hy, ?_⟩
    refine ⟨_, rfl, p, dx, _, rfl, hp, rfl, _, rfl, _, rfl, ?_⟩
    refine ⟨p, z, marks, refused, slot, came, went, q, k, farN z y, y, rfl, SA, hy, by omega, fun t H1 fr1 ht => ?_⟩
    obtain ⟨n, hn⟩ : ∃ n, farN z y = n + 1 := ⟨farN z y - 1, by omega⟩
    rw [hn] at ht
    obtain ⟨hcut, hnw⟩ := cut1 (n + 1) (come z y)
    refine ⟨_, rfl, t, _, rfl, SqT.of ht, fun h => absurd h hnw, fun _ t2 ht2 => ?_⟩
    rw [hcut]
    have fr2 : Fr T [] H (upd H1 t2 (.tup (rowV (n + 1) fun i => come z y (i + 1)))) := fr1.andNew ht2
    have SA2 := SA.fr0 fr2
    obtain ⟨dx2, hp2⟩ := SA2.ob
    refine ⟨_, rfl, p, dx2, _, rfl, hp2, rfl, _, rfl, _, rfl, _, _, rfl, rfl, ?_⟩
    have e1 : ((farN z y : Nat) : Int) - 1 = (n : Nat) := by omega
    refine ⟨p, z, marks, refused, slot, came, went, q, k, n, y, congrArg (fun i => [V.ref p, V.int k, V.int i]) e1, fr2.tb hT, SA2, hy, by omega, fun t3 H3 fr3 ht3 => ?_⟩
    refine ⟨t2, t3, n + 1, fun i => come z y (i + 1), least z y, rfl, fr3.tup _ _ upd_same, ht3, by omega, by omega, fun v H4 fr4 _ hall => ?_⟩
    exact hQ v H4 ((fr2.trans fr3).trans fr4) fun i hi => hall i (by omega)
theorem ok_wb {f fF fC fS fQ : Addr} {fd fdF fdC fdS fdQ : FuncData} (F : Fun K "wait_bound" "Switch.wait_bound" sWB f fd) (KW : Kl K c.W aSw)
    (GF : FnOk P w K mg base CX0 1 fF fdF ["self", "number"] (spFar c)) (bF : Binds K fdF ["self", "number"] []) (mF : Meth K c.W "far" fF)
    (GC : FnOk P w K mg base CX0 2 fC fdC ["self", "number", "slots"] (spComes T c)) (bC : Binds K fdC ["self", "number", "slots"] []) (mC : Meth K c.W "comes" fC)
    (GS : FnOk P w K mg base CX0 4 fS fdS ["self", "number", "slots"] (spServes T c)) (bS : Binds K fdS ["self", "number", "slots"] []) (mS : Meth K c.W "serves" fS)
    (GQ : FnOk P w K mg base CX0 1 fQ fdQ ["comes", "serves"] (spMW T)) (mQ : mg "most_wait" = some (.ref fQ)) (kQ : PySem.W.keepIn K (.ref fQ) = true) (bQ : Binds K fdQ ["comes", "serves"] []) :
    FnOk P w K mg base CX0 5 f fd ["self", "number"] (spWB T c) := by
  have nd := scWB.nd
  refine F.ok scWB (fun vs H Q E h => ?_) (fun cdv A outer s0 H vs Q E hr h => ?_)
  · obtain ⟨p, z, marks, refused, slot, came, went, q, k, y, rfl, _⟩ := h
    rfl
  · obtain ⟨p, z, marks, refused, slot, came, went, q, k, y, rfl, hT, SA, hy, hex, hQ⟩ := h
    refine ⟨_, pss_cons (ps_set (i := 2) nd rfl (Or.inl rfl) (pe_meth (pv 0) KW.cl mF GF (hr.mono (by decide)) bF .nil pass0 (pa_cons (pv 1) pa_nil)))
      (pss_cons (ps_par (i := 3) (j := 4) rfl nd rfl rfl (by decide) rfl rfl (pa_cons (pe_meth (pv 0) KW.cl mC GC (hr.mono (by decide)) bC .nil pass0 (pa_cons (pv 1) (pa_cons (pe_op op_mul pe_int (pe_fld (pv 0) rfl)) pa_nil))) (pa_cons (pe_meth (pv 0) KW.cl mS GS hr bS .nil pass0 (pa_cons (pv 1) (pa_cons (pv 2) pa_nil))) pa_nil)) rfl)
      (pss_one (ps_ret (pe_op op_sub (pe_call GQ (hr.mono (by decide)) rfl mQ kQ bQ .nil pass0 (pa_cons (pe_slice sl_tupA (pv 3) (po_some pe_int) po_none) (pa_cons (pv 4) pa_nil))) pe_int)))), ?_⟩
    obtain ⟨dx, hp⟩ := SA.ob
    have hf := farN_le SA.ok hy
    have hs := SA.ok.s
    have hs0 := SA.ok.s0
    refine ⟨_, rfl, p, dx, _, rfl, hp, rfl, _, rfl, ?_⟩
    refine ⟨p, z, marks, refused, slot, came, went, q, k, y, rfl, SA, hy, ?_⟩
    refine ⟨_, rfl, p, dx, _, rfl, hp, rfl, _, rfl, _, rfl, p, c.W, dx, _, _, rfl, hp, KW.cl, KW.na _ (by simp), rfl, _, _, rfl, rfl, .inl ⟨by omega, by omega⟩, ?_⟩
    have e1 : (2 : Int) * (z.sl : Nat) = ((2 * z.sl : Nat) : Int) := by push_cast; rfl
    refine ⟨p, z, marks, refused, slot, came, went, q, k, 2 * z.sl, y, congrArg (fun i => [V.ref p, V.int k, V.int i]) e1, SA, hy, by omega, fun t H1 fr1 ht => ?_⟩
    have SA1 := SA.fr0 fr1
    obtain ⟨dx1, hp1⟩ := SA1.ob
    refine ⟨_, rfl, p, dx1, _, rfl, hp1, rfl, _, rfl, _, rfl, ?_⟩
    refine ⟨p, z, marks, refused, slot, came, went, q, k, farN z y, y, rfl, fr1.tb hT, SA1, hy, by omega, fun t2 H2 fr2 ht2 => ?_⟩
    refine ⟨_, _, rfl, ?_⟩
    have ht' := fr2.tup _ _ ht
    obtain ⟨hcut, hnw⟩ := cut1 (2 * z.sl) (come z y)
    refine ⟨_, rfl, _, rfl, t, _, rfl, SqT.of ht', fun h => absurd h hnw, fun _ t3 ht3 => ?_⟩
    rw [hcut]
    refine ⟨_, rfl, ?_⟩
    have fr3 : Fr T [] H (upd H2 t3 (.tup (rowV (2 * z.sl) fun i => come z y (i + 1)))) := (fr1.trans fr2).andNew ht3
    refine ⟨t3, t2, 2 * z.sl, farN z y + 1, fun i => come z y (i + 1), least z y, rfl, upd_same, (Fr.new (T := T) (M := []) ht3).tup _ _ ht2, by omega, by omega, hex, fun v H4 fr4 h0 hk hall => ?_⟩
    refine ⟨_, _, rfl, rfl, ?_⟩
    exact hQ (v - 1) H4 (fr3.trans fr4) (by omega) (by omega) fun i hi a ha h1 h2 => by
      have := hall i hi a ha h1 h2
      omega
end
end KX
set_option Elab.async false
set_option linter.all false
set_option maxRecDepth 100000
set_option maxHeartbeats 4000000
/-! KX 17: all_rates. -/
namespace KX
open PySem PySem.Spec PyProof.Rows L2 GX
def rGetN (K : PySem.W.Frag) : V → V → Hp → VK → Prop := fun o i H Q => ∃ (p : Addr) (xs : List V) (j : Nat) (v : V), o = .ref p ∧ i = .int (j : Nat) ∧ SqL K H p xs ∧ xs[j]? = some v ∧ Q v H
theorem pget_list {X : Cx} : PGet X (rGetN X.K) := by
  intro pins s σ H o i ov iv Q I ro ri h
  obtain ⟨p, xs, j, v, rfl, rfl, hq, he, q⟩ := h
  cases ro
  obtain ⟨t, rfl⟩ := ri
  obtain ⟨its, r, pl, hz⟩ := I.list hq
  obtain ⟨u, hu, ru⟩ := r.get he
  have hlt : j < xs.length := (List.getElem?_eq_some_iff.mp he).1
  have hl := r.length
  have hn := line63
  exact wpAny_getItem_list pl.isList (by omega) (by omega) (by simpa using hu) ⟨v, H, I, ru, q⟩
def rho (L : List St4) (i j : Nat) : Nat := (L.map fun y => if y.one = i ∧ y.gate = j then y.rate else 0).sum
theorem rho_app (L : List St4) (y : St4) (i j : Nat) : rho (L ++ [y]) i j = rho L i j + (if y.one = i ∧ y.gate = j then y.rate else 0) := by simp [rho]
theorem rho_le {L : List St4} {B i j : Nat} (h : ∀ y ∈ L, y.rate ≤ B) : rho L i j ≤ L.length * B := by
  induction L with
  | nil => simp [rho]
  | cons y r ih =>
    have h1 := ih fun z hz => h z (List.mem_cons_of_mem _ hz)
    have h2 := h y List.mem_cons_self
    have e : rho (y :: r) i j = (if y.one = i ∧ y.gate = j then y.rate else 0) + rho r i j := by simp [rho]
    rw [e, List.length_cons, Nat.succ_mul]
    split <;> omega
def spAR (T : Tb) (c : Cs) : Sp := fun vs H Q _ => ∃ (p dx : Addr) (z : SwS) (refused : Nat), vs = [.ref p] ∧ H p = some (.ins c.W dx (fsSw z refused)) ∧ H z.ls = some (.lst (z.as.map V.ref)) ∧ z.as.length = z.sts.length ∧
  (∀ (k : Nat) a y, z.as[k]? = some a → z.sts[k]? = some y → ∃ dx, H a = some (.ins c.S dx (fsSt y))) ∧ SwOk z ∧
  ∀ a H', Fr T [] H H' → MatT H' a z.m (rho z.sts) → Q (.ref a) H'
abbrev sAR : Stmt := inClass (top 26) 1
abbrev nAR : List Str := ["self", "rows", "stream", "one", "row"]
theorem scAR : FnScope nAR ["self"] (defScope sAR) := ⟨rfl, rfl, rfl, by decide +kernel, rfl, by decide +kernel, by decide +kernel⟩
theorem rowV_set {m j v : Nat} {f : Nat → Nat} (hj : j < m) : (rowV m f).set j (.int (v : Nat)) = rowV m (fun k => if k = j then v else f k) := by
  apply List.ext_getElem?
  intro i
  by_cases hi : i < m
  · rw [rowV_at hi]
    by_cases e : i = j
    · subst e
      rw [List.getElem?_set_self (by rw [rowV_len]; exact hj)]
      simp
    · rw [List.getElem?_set_ne (Ne.symm e), rowV_at hi, if_neg e]
  · rw [List.getElem?_eq_none (by rw [List.length_set, rowV_len]; omega), List.getElem?_eq_none (by rw [rowV_len]; omega)]
theorem rowV_congr {m : Nat} {f g : Nat → Nat} (h : ∀ n, n < m → f n = g n) : rowV m f = rowV m g := by
  unfold rowV rowI
  refine congrArg (List.map V.int) (List.map_congr_left fun n hn => ?_)
  rw [h n (List.mem_range.mp hn)]
section
variable {P : Program} {w : World} {K : PySem.W.Frag} {mg : Str → Option Value} {base : Heap} {T : Tb} {c : Cs}
theorem ok_ar {f : Addr} {fd : FuncData} (F : Fun K "all_rates" "Switch.all_rates" sAR f fd) (B : Bl mg) (KW : Kl K c.W aSw) (KS : Kl K c.S aStream) : FnOk P w K mg base CX0 1 f fd ["self"] (spAR T c) := by
  have nd := scAR.nd
  refine F.ok scAR (fun vs H Q E h => ?_) (fun cdv A outer s0 H vs Q E hr h => ?_)
  · obtain ⟨p, dx, z, refused, rfl, _⟩ := h
    rfl
  · obtain ⟨p, dx, z, refused, rfl, hp, hls, hsl, hst, SO, hQ⟩ := h
    refine ⟨_, C8.pss_cut (ps_setLc (i := 1) (own := [("one", 3)]) (g := gName 3) (tt := tYes) (te := tOp rRep (tLst (tCons (tC (.int 0)) tNil)) (tFld K (tVar 0) "many")) (by rfl) nd rfl rfl (sw_true rfl rfl rfl (by decide +kernel)) (pi_range1 rfl B.range (pa_cons (pe_fld (pv 0) rfl) pa_nil))
          (blkOk_by (N := nAR) (sc := defScope sAR) (by decide +kernel)) (fun _ _ _ _ _ => pg_name (i := 3) nd rfl (Or.inl rfl)) (fun _ _ _ _ _ => pts_nil) (fun _ _ _ _ _ => pe_op op_rep (pe_lst (pa_cons pe_int pa_nil)) (pe_fld (pv 0) rfl)))
      (C8.pss_cut (ps_for PassesOwn.never rfl (pi_list (pe_fld (pv 0) rfl)) (pg_name (i := 2) nd rfl (Or.inl rfl)) (pss_one (ps_augS (pe_ix ix_list (pv 1) (pe_fld (pv 2) rfl) (fun _ _ => rfl)) (pe_fld (pv 2) rfl) pget_list (pe_fld (pv 2) rfl) ip_add set_list)))
      (pss_one (ps_ret (pe_lc (own := [("row", 4)]) (g := gName 4) (tt := tYes) (te := tCB (rTupOf K) (tCons (tVar 4) tNil)) rfl nd (pi_list (pv 1)) (blkOk_by (N := nAR) (sc := defScope sAR) (by decide +kernel)) (fun _ _ _ _ _ => pg_name (i := 4) nd rfl (Or.inl rfl)) (fun _ _ _ _ _ => pts_nil)
        (fun _ _ _ _ _ => pe_callTy call_tupOf (by rfl) B.tuple boot_tuple (pa_cons (pv 4) pa_nil)))))), ?_⟩
    have hm := SO.m
    let RL : Hp → List Addr → (Nat → Nat → Nat) → Prop := fun H' cs ρ => cs.Nodup ∧ ∀ (t : Nat) b, cs[t]? = some b → H' b = some (.lst (rowV z.m (ρ t))) ∧ H b = none
    refine ⟨fun σ5 H5 => ∃ D cs, σ5 = [some (.ref p), some (.ref D), none, none, none] ∧ Fr T [] H H5 ∧ H5 D = some (.lst (cs.map V.ref)) ∧ cs.length = z.m ∧ D ∉ cs ∧ H D = none ∧ RL H5 cs (rho []), ?_, ?_⟩
    · refine ⟨_, rfl, p, c.W, dx, _, _, rfl, hp, KW.cl, KW.na _ (by simp), rfl, _, rfl, (by omega), (by omega), fun D hD => ?_⟩
      rw [show (((z.m : Nat) : Int)).toNat = z.m by omega]
      refine lc_sq (sq_rng (lo := 0) (n := z.m)) (fun i H' => ∃ cs : List Addr, H' D = some (.lst (cs.map V.ref)) ∧ Fr T [] H H' ∧ cs.length = i ∧ D ∉ cs ∧ RL H' cs (rho [])) ⟨[], upd_same, Fr.new hD, rfl, (by simp), List.nodup_nil, fun t b h => by cases h⟩ (fun _ _ _ _ => trivial) ?_ ?_
      · rintro i x H5 H5' hi ⟨cs, hDs, fr5, hl5, nDc, hnd, hRL⟩ ⟨rfl, rfl⟩
        refine ⟨rfl, (by show 1 ≤ sizeLine; decide), fun l hl => ?_⟩
        have fr5a : Fr T [] H (upd H5' l (.lst [.int 0])) := fr5.andNew hl
        refine ⟨_, rfl, p, c.W, dx, _, _, rfl, fr5a.ins hp, KW.cl, KW.na _ (by simp), rfl, l, _, _, rfl, rfl, upd_same, (by omega), (by omega), (Nat.le_of_lt (small1000 (by simp; omega))), fun q hq => ?_⟩
        have nlD : D ≠ l := ne_of_none hDs hl
        have nqD : D ≠ q := ne_of_none (by rw [upd_ne nlD]; exact hDs) hq
        have nql : l ≠ q := ne_of_none upd_same hq
        have hq5 : H5' q = none := by rw [upd_ne nql.symm] at hq; exact hq
        have eR : (List.replicate (((z.m : Nat) : Int)).toNat [V.int 0]).flatten = rowV z.m (rho [] i) := by
          rw [repFlat z.m (.int 0) (fun _ => .int ((0 : Nat) : Int)) (fun _ => rfl)]
          unfold rowV rowI
          rw [List.map_map]
          rfl
        rw [eR]
        refine ⟨_, by rw [upd_ne nqD, upd_ne nlD]; exact hDs, by rw [List.length_map, hl5]; exact small1000 (by omega), cs ++ [q], by rw [upd_same, List.map_append]; rfl, ?_, by simp [hl5], (by simp [nDc, nqD]), ?_, fun t b ht => ?_⟩
        · exact Fr.own (fr5a.andNew hq) hD (by rw [upd_ne nqD, upd_ne nlD]; exact hDs) (.lst _)
        · rw [List.nodup_append]
          refine ⟨hnd, List.nodup_cons.mpr ⟨by simp, List.nodup_nil⟩, fun a ha b hb e => ?_⟩
          rw [List.mem_singleton.mp hb] at e
          obtain ⟨k, hk⟩ := List.mem_iff_getElem?.mp ha
          rw [e] at hk
          have := (hRL k q hk).1
          rw [hq5] at this
          cases this
        · rcases Nat.lt_or_ge t cs.length with ht' | ht'
          · rw [List.getElem?_append_left ht'] at ht
            obtain ⟨e1, e2⟩ := hRL t b ht
            have n1 : b ≠ D := fun z => nDc (by rw [← z]; exact List.mem_of_getElem? ht)
            rw [upd_ne n1, upd_ne (ne_of_none (by rw [upd_ne (ne_of_none e1 hl)]; exact e1) hq), upd_ne (ne_of_none e1 hl)]
            exact ⟨e1, e2⟩
          · have e0 : t = cs.length := by
              have := (List.getElem?_eq_some_iff.mp ht).1
              simp at this
              omega
            rw [e0, List.getElem?_append_right (Nat.le_refl _), Nat.sub_self] at ht
            have eb : q = b := Option.some.inj ht
            subst eb
            rw [upd_ne nqD.symm, upd_same]
            exact ⟨rfl, fr5.dom _ hq5⟩
      · rintro H5 ⟨cs, hDs, fr5, hl5, nDc, hRL⟩
        exact ⟨D, cs, rfl, fr5, hDs, hl5, nDc, hD, hRL⟩
    rintro σ5 H5 ⟨D, cs, rfl, fr5, hDs, hl5, nDc, nD4, hRL5⟩
    have hlen : (z.as.map V.ref).length = z.sts.length := by rw [List.length_map]; exact hsl
    refine ⟨fun σ6 H6 => ∃ y, σ6 = [some (.ref p), some (.ref D), y, none, none] ∧ Fr T [] H H6 ∧ H6 D = some (.lst (cs.map V.ref)) ∧ RL H6 cs (rho z.sts), ?_, ?_⟩
    · refine ⟨_, rfl, p, c.W, dx, _, _, rfl, fr5.ins hp, KW.cl, KW.na _ (by simp), rfl, z.ls, rfl, ⟨_, SqL.of (fr5.lst hls)⟩, ?_⟩
      refine for_sq (sq_list (a := z.ls) (xs := z.as.map V.ref)) (fun i σ H' => ∃ y, σ = [some (.ref p), some (.ref D), y, none, none] ∧ Fr T [] H H' ∧ H' D = some (.lst (cs.map V.ref)) ∧ RL H' cs (rho (z.sts.take i))) ⟨none, rfl, fr5, hDs, by rw [List.take_zero]; exact hRL5⟩
        (fun i σ H' _ ⟨_, _, fr, _⟩ => SqL.of (fr.lst hls)) ?_ ?_
      · rintro i x σ H6 H6' hi ⟨y0, rfl, fr6, hD6, hnd, hRL⟩ ⟨hx, rfl⟩
        obtain ⟨a, ha, rfl⟩ := getRef hx
        rw [hlen] at hi
        have hy : z.sts[i]? = some z.sts[i] := List.getElem?_eq_getElem hi
        generalize z.sts[i] = y at hy
        obtain ⟨da, hsa⟩ := hst i a y ha hy
        obtain ⟨g1, g2, h1, h2, h3, h4⟩ := SO.st i y hy
        have hsa6 := fr6.ins hsa
        obtain ⟨bc, hbc⟩ : ∃ bc, cs[y.one]? = some bc := ⟨_, List.getElem?_eq_getElem (by rw [hl5]; exact g1)⟩
        have hrow6 := hRL y.one bc hbc
        have nDb : D ≠ bc := fun e => nDc (by rw [e]; exact List.mem_of_getElem? hbc)
        refine ⟨_, rfl, _, rfl, a, c.S, da, _, _, rfl, hsa6, KS.cl, KS.na _ (by simp), rfl, D, _, _, _, rfl, rfl, SqL.of hD6, at_of (j := y.one) rfl (by rw [List.getElem?_map, hbc]; rfl), ?_⟩
        refine ⟨_, rfl, a, c.S, da, _, _, rfl, hsa6, KS.cl, KS.na _ (by simp), rfl, bc, _, y.gate, _, rfl, rfl, SqL.of hrow6.1, rowV_at g2, ?_⟩
        refine ⟨_, rfl, a, c.S, da, _, _, rfl, hsa6, KS.cl, KS.na _ (by simp), rfl, _, _, rfl, rfl, bc, _, _, y.gate, rfl, rfl, hrow6.1, ?_, ?_⟩
        · unfold ixN
          rw [if_pos (by omega), if_pos (by rw [rowV_len]; omega)]
          simp
        · have ev : ((rho (z.sts.take i) y.one y.gate : Nat) : Int) + (y.rate : Nat) = ((rho (z.sts.take (i + 1)) y.one y.gate : Nat) : Int) := by
            rw [List.take_succ, hy]
            show _ = ((rho (z.sts.take i ++ [y]) y.one y.gate : Nat) : Int)
            rw [rho_app, if_pos ⟨rfl, rfl⟩]
            omega
          have eL : (rowV z.m (rho (z.sts.take i) y.one)).set y.gate (.int (((rho (z.sts.take i) y.one y.gate : Nat) : Int) + (y.rate : Nat))) = rowV z.m (rho (z.sts.take (i + 1)) y.one) := by
            rw [ev, rowV_set g2]
            refine rowV_congr fun n hn => ?_
            by_cases e : n = y.gate
            · rw [if_pos e, e]
            · rw [if_neg e, List.take_succ, hy]
              show _ = rho (z.sts.take i ++ [y]) y.one n
              rw [rho_app, if_neg fun q => e q.2.symm]
              rfl
          refine ⟨_, rfl, Fr.own fr6 hrow6.2 hrow6.1 (.lst _), by rw [upd_ne nDb]; exact hD6, hnd, fun t' b' hb' => ?_⟩
          by_cases e : t' = y.one
          · subst e
            rw [hbc] at hb'
            have eb : bc = b' := Option.some.inj hb'
            subst eb
            rw [upd_same]
            exact ⟨congrArg (fun l => some (HO.lst l)) eL, hrow6.2⟩
          · obtain ⟨e1, e2⟩ := hRL t' b' hb'
            have nbb : b' ≠ bc := fun q => by
              rw [q] at hb'
              exact e (nd_ix hnd hb' hbc)
            rw [upd_ne nbb, e1]
            refine ⟨congrArg (fun l => some (HO.lst l)) (rowV_congr fun n hn => ?_), e2⟩
            rw [List.take_succ, hy]
            show _ = rho (z.sts.take i ++ [y]) t' n
            rw [rho_app, if_neg fun q => e q.1.symm]
            rfl
      · rintro σ H6 ⟨y, rfl, fr6, hD6, hRL⟩
        rw [hlen, List.take_of_length_le (Nat.le_refl _)] at hRL
        exact ⟨y, rfl, fr6, hD6, hRL⟩
    rintro σ6 H6 ⟨y, rfl, fr6, hD6, hnd6, hRL6⟩
    refine ⟨_, rfl, D, rfl, ⟨_, SqL.of hD6⟩, fun D2 hD2 => ?_⟩
    refine lc_sq (sq_list (a := D) (xs := cs.map V.ref)) (fun i H' => ∃ ds : List Addr, H' D2 = some (.lst (ds.map V.ref)) ∧ Fr T [] H6 H' ∧ ds.length = i ∧ ∀ (t : Nat) b, ds[t]? = some b → H' b = some (.tup (rowV z.m (rho z.sts t)))) ⟨[], upd_same, Fr.new hD2, rfl, fun t b h => by cases h⟩ (fun i H' _ ⟨_, _, fr, _⟩ => SqL.of (fr.lst hD6)) ?_ ?_
    · rintro i x H7 H7' hi ⟨ds, hDs7, fr7, hl7, hds⟩ ⟨hx, rfl⟩
      obtain ⟨b, hb', rfl⟩ := getRef hx
      have hiS : i < z.m := by rw [← hl5, ← List.length_map (f := V.ref)]; exact hi
      refine ⟨rfl, .ref b, rfl, b, _, rfl, .inl ⟨SqL.of (fr7.lst (hRL6 i b hb').1), fun q hq => ?_⟩⟩
      have nq : D2 ≠ q := ne_of_none hDs7 hq
      refine ⟨_, by rw [upd_ne nq]; exact hDs7, by rw [List.length_map, hl7]; exact small1000 (by omega), ds ++ [q], by rw [upd_same, List.map_append]; rfl, Fr.own (fr7.andNew hq) hD2 (by rw [upd_ne nq]; exact hDs7) (.lst _), by simp [hl7], fun t b' ht => ?_⟩
      have key : ∀ c r, H7' c = some (.tup r) → upd (upd H7' q (.tup (rowV z.m (rho z.sts i)))) D2 (.lst (ds.map V.ref ++ [.ref q])) c = some (.tup r) := fun c r h => by
        rw [upd_ne (fun e => by rw [e, hDs7] at h; cases h), upd_ne (ne_of_none h hq)]
        exact h
      rcases Nat.lt_or_ge t ds.length with ht' | ht'
      · rw [List.getElem?_append_left ht'] at ht
        exact key _ _ (hds t b' ht)
      · have e0 : t = ds.length := by
          have := (List.getElem?_eq_some_iff.mp ht).1
          simp at this
          omega
        rw [e0, List.getElem?_append_right (Nat.le_refl _), Nat.sub_self] at ht
        have eb : q = b' := Option.some.inj ht
        subst eb
        rw [e0, hl7, upd_ne nq.symm, upd_same]
    · rintro H7 ⟨ds, hDs7, fr7, hl7, hds⟩
      refine hQ D2 H7 (fr6.trans fr7) ⟨ds, hDs7, ?_, hds⟩
      rw [hl7, List.length_map, hl5]
end
end KX
set_option Elab.async false
set_option linter.all false
set_option maxRecDepth 100000
set_option maxHeartbeats 4000000
/-! KX 18: offer, turn. -/
namespace KX
open PySem PySem.Spec PyProof.Rows L2 GX
section
variable {T : Tb} {H H' : Hp} {c : Cs} {p : Addr} {z : SwS} {marks : Nat → Int} {refused slot came went : Nat} {q : Nat → Nat → List Cell}
theorem SwAt.np (h : SwAt H c p z marks refused slot came went q) {b : Addr} {u : HO} (e : H b = some u) (n : ∀ C d fs, u = .ins C d fs → fs.length ≠ 7) : b ≠ p := fun q => by
  obtain ⟨dx, hp⟩ := h.ob
  rw [q, hp] at e
  exact n _ _ _ (Option.some.inj e).symm rfl
/-- the bar alone changes -/
theorem SwAt.withBar (h : SwAt H c p z marks refused slot came went q) {M : List Addr} (f : Fr T M H H') (hM : ∀ a ∈ M, a = z.ba ∨ ∃ i j, i < z.m ∧ j < z.m ∧ a = z.qa i j) {slot' came' went' : Nat} {q' : Nat → Nat → List Cell} (b : BarAt H' c.X z.ba z.la z.ra z.qa z.m slot' came' went' q') :
    SwAt H' c p z marks refused slot' came' went' q' := by
  obtain ⟨db, hb⟩ := h.bar.ob
  have nIns : ∀ {a : Addr} {C d : Addr} {fs : List (Str × V)}, H a = some (.ins C d fs) → fs.length ≠ 5 → a ∉ M := fun {a C d fs} e n hm => by
    rcases hM a hm with rfl | ⟨i, j, hi, hj, rfl⟩
    · rw [hb] at e
      injection e with e1
      injection e1 with _ _ e2
      exact n (by rw [← e2]; rfl)
    · obtain ⟨xs, hxs⟩ := (h.bar.que i j hi hj).some
      rw [hxs] at e
      cases e
  have nLs : z.ls ∉ M ∧ z.lb ∉ M := ⟨fun hm => by
    rcases hM _ hm with e | ⟨i, j, hi, hj, e⟩
    · have := h.sl
      rw [e, hb] at this
      cases this
    · exact (h.nq i j hi hj).1 e.symm, fun hm => by
    rcases hM _ hm with e | ⟨i, j, hi, hj, e⟩
    · have := h.bl
      rw [e, hb] at this
      cases this
    · exact (h.nq i j hi hj).2 e.symm⟩
  obtain ⟨dx, hp⟩ := h.ob
  exact ⟨h.ok, ⟨dx, f.insN hp (nIns hp (show 7 ≠ 5 by decide))⟩, f.lstN h.sl nLs.1, h.slen, fun k a y e1 e2 => (let ⟨d, h1⟩ := h.st k a y e1 e2; ⟨d, f.insN h1 (nIns h1 (show 4 ≠ 5 by decide))⟩), f.lstN h.bl nLs.2, h.blen, fun k a y e1 e2 => (let ⟨d, h1⟩ := h.bk k a y e1 e2; ⟨d, f.insN h1 (nIns h1 (show 3 ≠ 5 by decide))⟩), h.bnd, h.plan.fr f, b, h.nq⟩
/-- one bucket alone changes -/
theorem SwAt.withBucket (h : SwAt H c p z marks refused slot came went q) {k : Nat} {b dx : Addr} {y : St4} (hb : z.bs[k]? = some b) (hy : z.sts[k]? = some y) (f : Fr T [b] H H') {v : Int} (hb' : H' b = some (.ins c.B dx (fsBk (y.burst * z.sl) y.rate v))) :
    SwAt H' c p z (ext marks k v) refused slot came went q := by
  obtain ⟨d0, hb0⟩ := h.bk k b y hb hy
  have n : ∀ {a : Addr} {u : HO}, H a = some u → (∀ C d fs, u = .ins C d fs → fs.length ≠ 3) → a ∉ [b] := fun {a u} e n hm => by
    rw [List.mem_singleton.mp hm, hb0] at e
    exact n _ _ _ (Option.some.inj e).symm rfl
  have nl : ∀ {a : Addr} {xs : List V}, H a = some (.lst xs) → a ∉ [b] := fun {a xs} e => n e fun C d fs q => by cases q
  have ni : ∀ {a C d : Addr} {fs : List (Str × V)}, H a = some (.ins C d fs) → fs.length ≠ 3 → a ∉ [b] := fun {a C d fs} e h => n e fun C' d' fs' q => by
    injection q with _ _ q2
    rw [← q2]
    exact h
  obtain ⟨dx1, hp⟩ := h.ob
  obtain ⟨d2, hba⟩ := h.bar.ob
  refine ⟨h.ok, ⟨dx1, f.insN hp (ni hp (show 7 ≠ 3 by decide))⟩, f.lstN h.sl (nl h.sl), h.slen, fun k a y e1 e2 => (let ⟨d, h1⟩ := h.st k a y e1 e2; ⟨d, f.insN h1 (ni h1 (show 4 ≠ 3 by decide))⟩), f.lstN h.bl (nl h.bl), h.blen, fun j a y' e1 e2 => ?_, h.bnd, h.plan.fr f,
    h.bar.fr f (ni hba (show 5 ≠ 3 by decide)) (nl h.bar.rows) (fun i hi => nl (h.bar.row i hi)) (fun i j hi hj => (let ⟨xs, hxs⟩ := (h.bar.que i j hi hj).some; nl hxs)), h.nq⟩
  by_cases e : j = k
  · subst e
    rw [hb] at e1
    rw [hy] at e2
    cases e1
    cases e2
    exact ⟨dx, by rw [ext_at rfl]; exact hb'⟩
  · rw [ext_ne e]
    obtain ⟨d, h1⟩ := h.bk j a y' e1 e2
    refine ⟨d, f.insN h1 fun hm => ?_⟩
    have := List.mem_singleton.mp hm
    subst this
    exact e (nd_ix h.bnd e1 hb)
/-- the count of the refused alone changes -/
theorem SwAt.withRefused (h : SwAt H c p z marks refused slot came went q) {dx : Addr} {r : Nat} (f : Fr T [p] H H') (hp' : H' p = some (.ins c.W dx (fsSw z r))) : SwAt H' c p z marks r slot came went q := by
  obtain ⟨dx1, hp⟩ := h.ob
  have n : ∀ {a : Addr} {u : HO}, H a = some u → (∀ C d fs, u = .ins C d fs → fs.length ≠ 7) → a ∉ [p] := fun {a u} e n hm => h.np e n (List.mem_singleton.mp hm)
  have nl : ∀ {a : Addr} {xs : List V}, H a = some (.lst xs) → a ∉ [p] := fun {a xs} e => n e fun C d fs q => by cases q
  have ni : ∀ {a C d : Addr} {fs : List (Str × V)}, H a = some (.ins C d fs) → fs.length ≠ 7 → a ∉ [p] := fun {a C d fs} e h => n e fun C' d' fs' q => by
    injection q with _ _ q2
    rw [← q2]
    exact h
  obtain ⟨d2, hba⟩ := h.bar.ob
  exact ⟨h.ok, ⟨dx, hp'⟩, f.lstN h.sl (nl h.sl), h.slen, fun k a y e1 e2 => (let ⟨d, h1⟩ := h.st k a y e1 e2; ⟨d, f.insN h1 (ni h1 (show 4 ≠ 7 by decide))⟩), f.lstN h.bl (nl h.bl), h.blen, fun k a y e1 e2 => (let ⟨d, h1⟩ := h.bk k a y e1 e2; ⟨d, f.insN h1 (ni h1 (show 3 ≠ 7 by decide))⟩), h.bnd, h.plan.fr f,
    h.bar.fr f (ni hba (show 5 ≠ 7 by decide)) (nl h.bar.rows) (fun i hi => nl (h.bar.row i hi)) (fun i j hi hj => (let ⟨xs, hxs⟩ := (h.bar.que i j hi hj).some; nl hxs)), h.nq⟩
end
/-! ### the cells of a slot -/
def yOf (z : SwS) (k : Nat) : St4 := z.sts.getD k ⟨0, 0, 0, 0⟩
def cnt (counts : List Nat) (k : Nat) : Nat := counts.getD k 0
def tkn (z : SwS) (marks : Nat → Int) (counts : List Nat) (k : Nat) : Bool := takes ((yOf z k).burst * z.sl) (yOf z k).rate (marks k) (cnt counts k * z.sl)
def marksU (z : SwS) (marks : Nat → Int) (counts : List Nat) : Nat → Nat → Int
  | 0 => marks
  | k + 1 => ext (marksU z marks counts k) k (marksAfter ((yOf z k).burst * z.sl) (yOf z k).rate (marks k) (cnt counts k * z.sl))
def cells (k slot n : Nat) : List Cell := (List.range n).map fun c => (k, slot, c)
def offQ (z : SwS) (marks : Nat → Int) (counts : List Nat) (slot : Nat) (q : Nat → Nat → List Cell) : Nat → Nat → Nat → List Cell
  | 0 => q
  | k + 1 => if tkn z marks counts k = true then upd2 (offQ z marks counts slot q k) (yOf z k).one (yOf z k).gate (offQ z marks counts slot q k (yOf z k).one (yOf z k).gate ++ cells k slot (cnt counts k)) else offQ z marks counts slot q k
def refU (z : SwS) (marks : Nat → Int) (counts : List Nat) (r : Nat) : Nat → Nat
  | 0 => r
  | k + 1 => refU z marks counts r k + (if tkn z marks counts k = true then 0 else cnt counts k)
theorem marksU_ge (z : SwS) (marks : Nat → Int) (counts : List Nat) : ∀ k j, k ≤ j → marksU z marks counts k j = marks j := by
  intro k
  induction k with
  | zero => intro j _; rfl
  | succ k ih =>
    intro j hj
    show ext _ k _ j = _
    rw [ext_ne (by omega)]
    exact ih j (by omega)
theorem offQ_len {z : SwS} {marks : Nat → Int} {counts : List Nat} {slot : Nat} {q : Nat → Nat → List Cell} {B : Nat} (hc : ∀ k, cnt counts k ≤ 1000) (hq : ∀ i j, i < z.m → j < z.m → (q i j).length ≤ B) : ∀ k i j, i < z.m → j < z.m → (offQ z marks counts slot q k i j).length ≤ B + k * 1000 := by
  intro k
  induction k with
  | zero =>
    intro i j hi hj
    have := hq i j hi hj
    show (q i j).length ≤ B + 0 * 1000
    omega
  | succ k ih =>
    intro i j hi hj
    have h1 := ih i j hi hj
    have h2 := hc k
    rw [Nat.succ_mul]
    show (offQ z marks counts slot q (k + 1) i j).length ≤ _
    unfold offQ
    split
    · by_cases e : i = (yOf z k).one ∧ j = (yOf z k).gate
      · obtain ⟨rfl, rfl⟩ := e
        rw [upd2_at, List.length_append]
        simp only [cells, List.length_map, List.length_range]
        omega
      · rw [upd2_ne e]
        omega
    · omega
def spOffer (T : Tb) (c : Cs) : Sp := fun vs H Q _ => ∃ (p : Addr) (z : SwS) (marks : Nat → Int) (refused slot came went : Nat) (q : Nat → Nat → List Cell) (ca : Addr) (counts : List Nat), vs = [.ref p, .ref ca] ∧ SwAt H c p z marks refused slot came went q ∧ H ca = some (.lst (natV counts)) ∧ ca ∉ swL p z ∧ counts.length = z.sts.length ∧ (∀ k, cnt counts k ≤ 1000) ∧ (∀ i j, i < z.m → j < z.m → (q i j).length ≤ 40000) ∧
  ∀ v came' H', Fr T (swL p z) H H' → SwAt H' c p z (marksU z marks counts z.sts.length) (refU z marks counts refused z.sts.length) slot came' went (offQ z marks counts slot q z.sts.length) → Q v H'
abbrev sOffer : Stmt := inClass (top 26) 3
abbrev nOffer : List Str := ["self", "counts", "found", "number", "count", "stream", "cell"]
theorem scOffer : FnScope nOffer ["self", "counts"] (defScope sOffer) := ⟨rfl, rfl, rfl, by decide +kernel, rfl, by decide +kernel, by decide +kernel⟩
section
variable {P : Program} {w : World} {K : PySem.W.Frag} {mg : Str → Option Value} {base : Heap} {T : Tb} {c : Cs}
theorem ok_offer {f fT fP : Addr} {fd fdT fdP : FuncData} (F : Fun K "offer" "Switch.offer" sOffer f fd) (B : Bl mg) (KW : Kl K c.W aSw) (KS : Kl K c.S aStream) (KB : Kl K c.B aBucket) (KX : Kl K c.X aBar)
    (GT : FnOk P w K mg base CX0 1 fT fdT ["self", "count"] (spTake T c.B)) (bT : Binds K fdT ["self", "count"] []) (mT : Meth K c.B "take" fT)
    (GP : FnOk P w K mg base CX0 1 fP fdP ["self", "one", "gate", "cell"] (spPut T c.X)) (bP : Binds K fdP ["self", "one", "gate", "cell"] []) (mP : Meth K c.X "put" fP) :
    FnOk P w K mg base CX0 2 f fd ["self", "counts"] (spOffer T c) := by
  have nd := scOffer.nd
  refine F.ok scOffer (fun vs H Q E h => ?_) (fun cdv A outer s0 H vs Q E hr h => ?_)
  · obtain ⟨p, z, marks, refused, slot, came, went, q, ca, counts, rfl, _⟩ := h
    rfl
  · obtain ⟨p, z, marks, refused, slot, came, went, q, ca, counts, rfl, SA, hca, nca, hlen, hcb, hqb, hQ⟩ := h
    refine ⟨_, C8.pss_cut (ps_set (i := 2) nd rfl (Or.inl rfl) (pe_lst pa_nil))
      (C8.pss_cut (ps_for PassesOwn.never rfl (pi_enum rfl B.enumerate (pa_cons (pv 1) pa_nil)) (pg_tup rfl (pgs_cons (pg_name (i := 3) nd rfl (Or.inl rfl)) (pgs_cons (pg_name (i := 4) nd rfl (Or.inl rfl)) pgs_nil)))
        (pss_cons (ps_set (i := 5) nd rfl (Or.inl rfl) (pe_ix ix_list (pe_fld (pv 0) rfl) (pv 3) (fun _ _ => rfl)))
        (pss_one (ps_if (pt_val (pe_meth (pe_ix ix_list (pe_fld (pv 0) rfl) (pv 3) (fun _ _ => rfl)) KB.cl mT GT hr bT .nil pass0 (pa_cons (pe_op op_mul (pv 4) (pe_fld (pv 0) rfl)) pa_nil)))
          (pss_one (ps_for PassesOwn.never rfl (pi_range1 rfl B.range (pa_cons (pv 4) pa_nil)) (pg_name (i := 6) nd rfl (Or.inl rfl)) (pss_one (ps_expr (pe_meth (pe_fld (pv 0) rfl) KX.cl mP GP hr bP .nil pass0 (pa_cons (pe_fld (pv 5) rfl) (pa_cons (pe_fld (pv 5) rfl) (pa_cons (pe_tup (pa_cons (pv 3) (pa_cons (pe_fld (pe_fld (pv 0) rfl) rfl) (pa_cons (pv 6) pa_nil)))) pa_nil))))))))
          (pss_cons (ps_expr (pe_bm PySem.F.plainAttrs_list PySem.F.slot_list_append PySem.F.type_list_append mt_append (pv 2) (pa_cons (pv 3) pa_nil))) (pss_one (ps_fldaug (pv 0) (pv 4) in_add)))))))
      (pss_one (ps_ret (pe_callTy call_tupOf (by rfl) B.tuple boot_tuple (pa_cons (pv 2) pa_nil))))), ?_⟩
    refine ⟨fun σ1 H1 => ∃ D, σ1 = [some (.ref p), some (.ref ca), some (.ref D), none, none, none, none] ∧ H D = none ∧ H1 = upd H D (.lst []), ⟨(by show 0 ≤ sizeLine; decide), fun D hD => ⟨D, rfl, hD, rfl⟩⟩, ?_⟩
    rintro σ1 H1 ⟨D, rfl, hD, rfl⟩
    have hlenV : (natV counts).length = z.sts.length := by rw [natV, List.length_map]; exact hlen
    have hst40 := SA.ok.len
    let St : Nat → Hp → Prop := fun k H' => ∃ (came' : Nat) (fs : List Nat), Fr T (swL p z) H H' ∧ SwAt H' c p z (marksU z marks counts k) (refU z marks counts refused k) slot came' went (offQ z marks counts slot q k) ∧ H' D = some (.lst (natV fs)) ∧ fs.length ≤ k
    refine ⟨fun σ H' => σ[2]? = some (some (.ref D)) ∧ St z.sts.length H', ?_, ?_⟩
    · refine ⟨_, rfl, ca, _, rfl, SqL.of (by rw [upd_ne (ne_of_none hca hD)]; exact hca), ?_⟩
      refine for_sq (sq_enum (a := ca) (xs := natV counts)) (fun i σ H' => ∃ a b d e, σ = [some (.ref p), some (.ref ca), some (.ref D), a, b, d, e] ∧ St i H') ⟨none, none, none, none, rfl, came, [], Fr.new hD, SA.fr0 (Fr.new (T := T) hD), upd_same, Nat.le_refl _⟩ (fun i σ H' _ ⟨_, _, _, _, _, _, _, fr, _⟩ => SqL.of (fr.lstN hca nca)) ?_ ?_
      · rintro k x σ H1 H1' hk ⟨a, b, d, e, rfl, came1, fs, fr1, SA1, hD1, hfs⟩ ⟨t, y0, rfl, ht, rfl, hy0⟩
        rw [hlenV] at hk
        have ey0 : y0 = .int (cnt counts k : Nat) := by
          have hk2 : k < counts.length := by omega
          unfold natV at hy0
          rw [List.getElem?_map, List.getElem?_eq_getElem hk2] at hy0
          have := Option.some.inj hy0
          rw [← this]
          unfold cnt
          rw [List.getD_eq_getElem?_getD, List.getElem?_eq_getElem hk2]
          rfl
        subst ey0
        have hy : z.sts[k]? = some (yOf z k) := by
          unfold yOf
          rw [List.getD_eq_getElem?_getD, List.getElem?_eq_getElem hk]
          rfl
        have frt : Fr T [] H1 (upd H1 t (.tup [.int (k : Nat), .int (cnt counts k : Nat)])) := Fr.new ht
        have SA2 := SA1.fr0 frt
        have fr2 := fr1.trans (frt.up (M := swL p z))
        have hD2 := frt.lst hD1
        have htup : (upd H1 t (.tup [.int (k : Nat), .int (cnt counts k : Nat)])) t = some (.tup [.int (k : Nat), .int (cnt counts k : Nat)]) := upd_same
        generalize upd H1 t (.tup [.int (k : Nat), .int (cnt counts k : Nat)]) = H2 at SA2 fr2 hD2 htup
        obtain ⟨dx, hp⟩ := SA2.ob
        obtain ⟨sa, da, hsa, hs⟩ := SA2.strm hy
        obtain ⟨g1, g2, h1, h2, h3, h4⟩ := SA2.ok.st k _ hy
        have hkb : k < z.bs.length := by rw [SA2.blen]; exact hk
        have hbk : z.bs[k]? = some z.bs[k] := List.getElem?_eq_getElem hkb
        generalize z.bs[k] = bk at hbk
        obtain ⟨db, hbk2⟩ := SA2.bk k bk _ hbk hy
        have hcnt := hcb k
        have hsl := SA.ok.s
        refine ⟨t, _, rfl, SqT.of htup, rfl, _, _, rfl, _, _, rfl, rfl, ?_⟩
        refine ⟨_, rfl, p, c.W, dx, _, _, rfl, hp, KW.cl, KW.na _ (by simp), rfl, _, rfl, z.ls, _, _, _, rfl, rfl, SqL.of SA2.sl, at_of (j := k) rfl (by rw [List.getElem?_map, hsa]; rfl), ?_⟩
        refine ⟨_, rfl, p, c.W, dx, _, _, rfl, hp, KW.cl, KW.na _ (by simp), rfl, _, rfl, z.lb, _, _, _, rfl, rfl, SqL.of SA2.bl, at_of (j := k) rfl (by rw [List.getElem?_map, hbk]; rfl), bk, db, _, rfl, hbk2, rfl, _, rfl, _, rfl, p, c.W, dx, _, _, rfl, hp, KW.cl, KW.na _ (by simp), rfl, _, _, rfl, rfl, .inl ⟨by omega, by omega⟩, ?_⟩
        rw [marksU_ge z marks counts k k (Nat.le_refl _)] at hbk2
        refine ⟨bk, db, (yOf z k).burst * z.sl, (yOf z k).rate, marks k, cnt counts k * z.sl, by rw [Int.natCast_mul]; rfl, hbk2, fun H3 fr3 hb3 => ?_⟩
        have hbM : bk ∈ swL p z := List.mem_cons_of_mem _ (List.mem_append_left _ (List.mem_of_getElem? hbk))
        have SA3 := SA2.withBucket hbk hy fr3 hb3
        have fr3' : Fr T (swL p z) H H3 := fr2.trans (fr3.mono fun a ha => by rw [List.mem_singleton.mp ha]; exact hbM)
        have hD3 : H3 D = some (.lst (natV fs)) := fr3.lstN hD2 fun hm => by
          have e1 := List.mem_singleton.mp hm
          rw [e1, hbk2] at hD2
          cases hD2
        have eM : marksU z marks counts (k + 1) = ext (marksU z marks counts k) k (marksAfter ((yOf z k).burst * z.sl) (yOf z k).rate (marks k) (cnt counts k * z.sl)) := rfl
        rw [← eM] at SA3
        refine ⟨_, rfl, ?_⟩
        have eT : takes ((yOf z k).burst * z.sl) (yOf z k).rate (marks k) (cnt counts k * z.sl) = tkn z marks counts k := rfl
        rw [eT]
        have eQ : offQ z marks counts slot q (k + 1) = if tkn z marks counts k = true then upd2 (offQ z marks counts slot q k) (yOf z k).one (yOf z k).gate (offQ z marks counts slot q k (yOf z k).one (yOf z k).gate ++ cells k slot (cnt counts k)) else offQ z marks counts slot q k := rfl
        have eR : refU z marks counts refused (k + 1) = refU z marks counts refused k + (if tkn z marks counts k = true then 0 else cnt counts k) := rfl
        cases hb : tkn z marks counts k with
        | true =>
          rw [hb, if_pos rfl] at eQ eR
          refine ⟨_, rfl, _, rfl, (by omega), (by omega), ?_⟩
          rw [show (((cnt counts k : Nat) : Int)).toNat = cnt counts k by omega]
          refine for_sq (sq_rng (lo := 0) (n := cnt counts k)) (fun j σ H' => ∃ e, σ = [some (.ref p), some (.ref ca), some (.ref D), some (.int (k : Nat)), some (.int (cnt counts k : Nat)), some (.ref sa), e] ∧ ∃ came', Fr T (swL p z) H H' ∧ SwAt H' c p z (marksU z marks counts (k + 1)) (refU z marks counts refused k) slot came' went (upd2 (offQ z marks counts slot q k) (yOf z k).one (yOf z k).gate (offQ z marks counts slot q k (yOf z k).one (yOf z k).gate ++ cells k slot j)) ∧ H' D = some (.lst (natV fs)))
            ⟨_, rfl, came1, fr3', ?_, hD3⟩ (fun _ _ _ _ _ => trivial) ?_ ?_
          · have e0 : upd2 (offQ z marks counts slot q k) (yOf z k).one (yOf z k).gate (offQ z marks counts slot q k (yOf z k).one (yOf z k).gate ++ cells k slot 0) = offQ z marks counts slot q k := by
              funext i j
              by_cases e : i = (yOf z k).one ∧ j = (yOf z k).gate
              · obtain ⟨rfl, rfl⟩ := e
                rw [upd2_at]
                exact List.append_nil _
              · rw [upd2_ne e]
            rw [e0]
            exact SA3
          · rintro j x σ H4 H4' hj ⟨e, rfl, came4, fr4, SA4, hD4⟩ hx
            obtain ⟨rfl, rfl⟩ := yRg0 hx
            obtain ⟨dx4, hp4⟩ := SA4.ob
            obtain ⟨dba, hba⟩ := SA4.bar.ob
            obtain ⟨sa', da4, hsa4, hs4⟩ := SA4.strm hy
            rw [hsa] at hsa4
            cases hsa4
            refine ⟨_, rfl, p, c.W, dx4, _, _, rfl, hp4, KW.cl, KW.na _ (by simp), rfl, z.ba, dba, _, rfl, hba, rfl, _, rfl, sa, c.S, da4, _, _, rfl, hs4, KS.cl, KS.na _ (by simp), rfl, _, rfl, sa, c.S, da4, _, _, rfl, hs4, KS.cl, KS.na _ (by simp), rfl, ?_⟩
            refine ⟨_, rfl, _, rfl, p, c.W, dx4, _, _, rfl, hp4, KW.cl, KW.na _ (by simp), rfl, z.ba, c.X, dba, _, _, rfl, hba, KX.cl, KX.na _ (by simp), rfl, _, rfl, (by show 3 ≤ sizeLine; decide), fun u hu => ?_⟩
            have fru : Fr T [] H4' (upd H4' u (.tup [.int (k : Nat), .int (slot : Nat), .int (j : Nat)])) := Fr.new hu
            have SA5 := SA4.fr0 fru
            have hD5 := fru.lst hD4
            have hu5 : CellAt (upd H4' u (.tup [.int (k : Nat), .int (slot : Nat), .int (j : Nat)])) u (k, slot, j) := upd_same
            have hql := offQ_len (z := z) (marks := marks) (slot := slot) hcb hqb k (yOf z k).one (yOf z k).gate g1 g2
            have hk40 : k * 1000 ≤ 40 * 1000 := Nat.mul_le_mul_right _ (by omega)
            refine ⟨z.ba, z.la, z.ra, z.qa, z.m, slot, came4, went, _, (yOf z k).one, (yOf z k).gate, u, (k, slot, j), rfl, SA5.bar, g1, g2, hu5, rfl, ?_, fun H6 fr6 BA6 => ?_⟩
            · rw [upd2_at, List.length_append]
              simp only [cells, List.length_map, List.length_range]
              omega
            · have fr6' : Fr T (swL p z) H H6 := (fr4.trans (fru.up (M := swL p z))).trans (fr6.mono fun a ha => by
                have hbar : a ∈ barL z.ba z.qa z.m := barL_mem.mpr (by
                  rcases List.mem_cons.mp ha with e1 | e1
                  · exact .inl e1
                  · exact .inr ⟨_, _, g1, g2, List.mem_singleton.mp e1⟩)
                exact List.mem_cons_of_mem _ (List.mem_append_right _ hbar))
              have SA6 := SA5.withBar fr6 (fun a ha => by
                rcases List.mem_cons.mp ha with e1 | e1
                · exact .inl e1
                · exact .inr ⟨_, _, g1, g2, List.mem_singleton.mp e1⟩) BA6
              refine ⟨_, rfl, came4 + 1, fr6', ?_, fr6.lstN hD5 fun hm => ?_⟩
              · have e1 : upd2 (upd2 (offQ z marks counts slot q k) (yOf z k).one (yOf z k).gate (offQ z marks counts slot q k (yOf z k).one (yOf z k).gate ++ cells k slot j)) (yOf z k).one (yOf z k).gate (upd2 (offQ z marks counts slot q k) (yOf z k).one (yOf z k).gate (offQ z marks counts slot q k (yOf z k).one (yOf z k).gate ++ cells k slot j) (yOf z k).one (yOf z k).gate ++ [(k, slot, j)]) = upd2 (offQ z marks counts slot q k) (yOf z k).one (yOf z k).gate (offQ z marks counts slot q k (yOf z k).one (yOf z k).gate ++ cells k slot (j + 1)) := by
                  funext a b
                  by_cases e : a = (yOf z k).one ∧ b = (yOf z k).gate
                  · obtain ⟨rfl, rfl⟩ := e
                    rw [upd2_at, upd2_at, upd2_at, List.append_assoc]
                    unfold cells
                    rw [List.range_succ, List.map_append]
                    rfl
                  · rw [upd2_ne e, upd2_ne e, upd2_ne e]
                rw [e1] at SA6
                exact SA6
              · rcases List.mem_cons.mp hm with e1 | e1
                · obtain ⟨db5, hba5⟩ := SA5.bar.ob
                  rw [e1, hba5] at hD5
                  cases hD5
                · have e2 := List.mem_singleton.mp e1
                  obtain ⟨xs, hxs⟩ := (SA.bar.que _ _ g1 g2).some
                  rw [e2, hxs] at hD
                  cases hD
          · rintro σ H4 ⟨e, rfl, came4, fr4, SA4, hD4⟩
            refine ⟨_, _, _, _, rfl, came4, fs, fr4, ?_, hD4, by omega⟩
            rw [eQ, eR]
            exact SA4
        | false =>
          rw [hb, if_neg Bool.false_ne_true] at eQ eR
          obtain ⟨dx3, hp3⟩ := SA3.ob
          refine ⟨_, rfl, .inl ⟨rfl, _, SqL.of hD3⟩, _, rfl, D, _, _, rfl, rfl, hD3, by rw [natV, List.length_map]; exact inLine (by omega), ?_⟩
          have nDp : p ≠ D := fun e1 => by rw [← e1, hp3] at hD3; cases hD3
          have frD : Fr T [D] H3 (upd H3 D (.lst (natV fs ++ [.int (k : Nat)]))) := Fr.set (List.mem_singleton.mpr rfl) hD3 (.lst _)
          refine ⟨_, rfl, p, c.W, dx3, _, _, rfl, (by rw [upd_ne nDp]; exact hp3), KW.cl, KW.na _ (by simp), rfl, _, rfl, _, _, rfl, rfl, dx3, _, (by rw [upd_ne nDp]; exact hp3), (by show 7 < 1000; decide), ?_⟩
          rw [putF_to (show putG "refused" (.int ((refU z marks counts refused k : Nat) + (cnt counts k : Nat))) (fsSw z (refU z marks counts refused k)) = fsSw z (refU z marks counts refused (k + 1)) from by rw [eR, show (((refU z marks counts refused k : Nat) : Int) + (cnt counts k : Nat)) = ((refU z marks counts refused k + cnt counts k : Nat) : Int) by omega]; rfl)]
          have frA : Fr T [D] H3 (upd H3 D (.lst (natV fs ++ [.int (k : Nat)]))) := frD
          have nD : ∀ {a : Addr} {u : HO}, H a = some u → a ∉ [D] := fun {a u} e hm => by
            rw [List.mem_singleton.mp hm, hD] at e
            cases e
          -- the list of the refused is none of the switch's own
          have SAD : SwAt (upd H3 D (.lst (natV fs ++ [.int (k : Nat)]))) c p z (marksU z marks counts (k + 1)) (refU z marks counts refused k) slot came1 went (offQ z marks counts slot q k) := by
            have g : ∀ {a : Addr} {u : HO}, H3 a = some u → H a ≠ none → a ∉ [D] := fun {a u} _ n hm => n (by rw [List.mem_singleton.mp hm]; exact hD)
            obtain ⟨d0, hp0⟩ := SA.ob
            obtain ⟨d1, hb1⟩ := SA.bar.ob
            have hb3 := SA3.bar
            exact ⟨SA3.ok, ⟨dx3, frA.insN hp3 (nD hp0)⟩, frA.lstN SA3.sl (nD SA.sl), SA3.slen, fun k a y e1 e2 => (let ⟨d, h1⟩ := SA3.st k a y e1 e2; let ⟨d', h1'⟩ := SA.st k a y e1 e2; ⟨d, frA.insN h1 (nD h1')⟩), frA.lstN SA3.bl (nD SA.bl), SA3.blen, fun k a y e1 e2 => (let ⟨d, h1⟩ := SA3.bk k a y e1 e2; let ⟨d', h1'⟩ := SA.bk k a y e1 e2; ⟨d, frA.insN h1 (nD h1')⟩), SA3.bnd, SA3.plan.fr frA,
              hb3.fr frA (nD hb1) (nD SA.bar.rows) (fun i hi => nD (SA.bar.row i hi)) (fun i j hi hj => (let ⟨xs, hxs⟩ := (SA.bar.que i j hi hj).some; nD hxs)), SA3.nq⟩
          have frp : Fr T [p] (upd H3 D (.lst (natV fs ++ [.int (k : Nat)]))) (upd (upd H3 D (.lst (natV fs ++ [.int (k : Nat)]))) p (.ins c.W dx3 (fsSw z (refU z marks counts refused (k + 1))))) := Fr.set (List.mem_singleton.mpr rfl) (by rw [upd_ne nDp]; exact hp3) (.ins _ _ _)
          refine ⟨_, _, _, _, rfl, came1, fs ++ [k], (fr3'.own hD hD3 (.lst _)).trans (frp.mono fun a ha => by rw [List.mem_singleton.mp ha]; exact List.mem_cons_self), ?_, by rw [upd_ne nDp.symm, upd_same, natV, natV, List.map_append]; rfl, by simp; omega⟩
          rw [eQ]
          exact SAD.withRefused frp upd_same
      · rintro σ H1 ⟨a, b, d, e, rfl, hSt⟩
        rw [hlenV] at hSt
        exact ⟨rfl, hSt⟩
    rintro σ H1 ⟨h2, came1, fs, fr1, SA1, hD1, _⟩
    refine ⟨_, h2, D, _, rfl, .inl ⟨SqL.of hD1, fun l hl => ?_⟩⟩
    have frl := Fr.new (T := T) (M := []) (o := HO.tup (natV fs)) hl
    exact hQ _ came1 _ (fr1.trans frl.up) (SA1.fr0 frl)
end
end KX
set_option Elab.async false
set_option linter.all false
set_option maxRecDepth 100000
set_option maxHeartbeats 4000000
/-! KX 19: turn. -/
namespace KX
open PySem PySem.Spec PyProof.Rows L2 GX
def spTurn (T : Tb) (c : Cs) : Sp := fun vs H Q _ => ∃ (p : Addr) (z : SwS) (marks : Nat → Int) (refused slot came went : Nat) (q : Nat → Nat → List Cell) (ca : Addr) (counts : List Nat), vs = [.ref p, .ref ca] ∧ SwAt H c p z marks refused slot came went q ∧ H ca = some (.lst (natV counts)) ∧ ca ∉ swL p z ∧ counts.length = z.sts.length ∧ (∀ k, cnt counts k ≤ 1000) ∧ (∀ i j, i < z.m → j < z.m → (q i j).length ≤ 40000) ∧ (∀ t i j, z.pl t i = some j → j < z.m) ∧
  ∀ t ts came' went' H', Fr T (swL p z) H H' → SwAt H' c p z (marksU z marks counts z.sts.length) (refU z marks counts refused z.sts.length) (slot + 1) came' went' (qAfter (z.pl (slot % z.sl)) (offQ z marks counts slot q z.sts.length) z.m) →
    H' t = some (.tup (ts.map V.ref)) → SentAt H' ts (sentU (z.pl (slot % z.sl)) (offQ z marks counts slot q z.sts.length) slot z.m) → Q (.ref t) H'
abbrev sTurn : Stmt := inClass (top 26) 4
theorem scTurn : FnScope ["self", "counts"] ["self", "counts"] (defScope sTurn) := ⟨rfl, rfl, rfl, by decide +kernel, rfl, by decide +kernel, by decide +kernel⟩
section
variable {P : Program} {w : World} {K : PySem.W.Frag} {mg : Str → Option Value} {base : Heap} {T : Tb} {c : Cs}
theorem ok_turn {f fO fS : Addr} {fd fdO fdS : FuncData} (F : Fun K "turn" "Switch.turn" sTurn f fd) (KW : Kl K c.W aSw) (KX : Kl K c.X aBar)
    (GO : FnOk P w K mg base CX0 2 fO fdO ["self", "counts"] (spOffer T c)) (bO : Binds K fdO ["self", "counts"] []) (mO : Meth K c.W "offer" fO)
    (GS : FnOk P w K mg base CX0 1 fS fdS ["self", "match"] (spServe T c.X)) (bS : Binds K fdS ["self", "match"] []) (mS : Meth K c.X "serve" fS) :
    FnOk P w K mg base CX0 3 f fd ["self", "counts"] (spTurn T c) := by
  have nd := scTurn.nd
  refine F.ok scTurn (fun vs H Q E h => ?_) (fun cdv A outer s0 H vs Q E hr h => ?_)
  · obtain ⟨p, z, marks, refused, slot, came, went, q, ca, counts, rfl, _⟩ := h
    rfl
  · obtain ⟨p, z, marks, refused, slot, came, went, q, ca, counts, rfl, SA, hca, nca, hlen, hcb, hqb, hpl, hQ⟩ := h
    refine ⟨_, pss_cons (ps_expr (pe_meth (pv 0) KW.cl mO GO hr bO .nil pass0 (pa_cons (pv 1) pa_nil)))
      (pss_one (ps_ret (pe_meth (pe_fld (pv 0) rfl) KX.cl mS GS (hr.mono (by decide)) bS .nil pass0 (pa_cons (pe_ix ix_tup (pe_fld (pv 0) rfl) (pe_op op_mod (pe_fld (pe_fld (pv 0) rfl) rfl) (pe_fld (pv 0) rfl)) (fun _ _ => rfl)) pa_nil)))), ?_⟩
    obtain ⟨dx, hp⟩ := SA.ob
    refine ⟨_, rfl, p, dx, _, rfl, hp, rfl, _, rfl, ?_⟩
    refine ⟨p, z, marks, refused, slot, came, went, q, ca, counts, rfl, SA, hca, nca, hlen, hcb, hqb, fun v came1 H1 fr1 SA1 => ?_⟩
    obtain ⟨dx1, hp1⟩ := SA1.ob
    obtain ⟨db, hb⟩ := SA1.bar.ob
    obtain ⟨bs, hpa, hbl, hrow⟩ := SA1.plan.ex
    have hs0 := SA.ok.s0
    have hm20 := SA.ok.m
    have hmod : slot % z.sl < z.sl := Nat.mod_lt _ hs0
    obtain ⟨b, hb2⟩ : ∃ b, bs[slot % z.sl]? = some b := ⟨_, List.getElem?_eq_getElem (by rw [hbl]; exact hmod)⟩
    refine ⟨_, rfl, p, c.W, dx1, _, _, rfl, hp1, KW.cl, KW.na _ (by simp), rfl, z.ba, db, _, rfl, hb, rfl, _, rfl, p, c.W, dx1, _, _, rfl, hp1, KW.cl, KW.na _ (by simp), rfl, _, rfl, p, c.W, dx1, _, _, rfl, hp1, KW.cl, KW.na _ (by simp), rfl, z.ba, c.X, db, _, _, rfl, hb, KX.cl, KX.na _ (by simp), rfl, _, rfl, p, c.W, dx1, _, _, rfl, hp1, KW.cl, KW.na _ (by simp), rfl, _, _, rfl, rfl, (by omega), z.pa, _, _, .ref b, rfl, rfl, SqT.of hpa, at_of (j := slot % z.sl) rfl (by rw [List.getElem?_map, hb2]; rfl), ?_⟩
    refine ⟨z.ba, z.la, z.ra, z.qa, z.m, slot, came1, went, _, b, z.pl (slot % z.sl), rfl, SA1.bar, by omega, hrow _ b hb2, fun i j h => hpl _ i j h, fun t ts H2 fr2 BA2 ht S2 => ?_⟩
    have SA2 := SA1.withBar fr2 (fun a ha => barL_mem.mp ha) BA2
    exact hQ t ts came1 _ H2 (fr1.trans (fr2.mono fun a ha => List.mem_cons_of_mem _ (List.mem_append_right _ ha))) SA2 ht S2
end
end KX
set_option Elab.async false
set_option linter.all false
set_option maxRecDepth 100000
set_option maxHeartbeats 4000000
/-! KX 20: the switch made. -/
namespace KX
open PySem PySem.Spec PyProof.Rows L2 GX
def rRepTA (K : PySem.W.Frag) : R2 := fun x y H Q => ∃ (l : Addr) (k : Nat) (xs : List V), x = .ref l ∧ y = .int k ∧ SqT K H l xs ∧ xs ≠ [] ∧ 1 ≤ k ∧ k ≤ 1000 ∧ xs.length ≤ 1000 ∧ (k = 1 → Q (.ref l) H) ∧ (2 ≤ k → ∀ p, H p = none → Q (.ref p) (upd H p (.tup (List.replicate (k : Int).toNat xs).flatten)))
theorem op_repTA {X : Cx} : OpR X (binaryOp .Mult) (rRepTA X.K) := by
  intro pins s σ H x y v u Q I rx ry h
  obtain ⟨l, k, xs, rfl, rfl, hT, hne, h1, h2, h3, q1, q2⟩ := h
  by_cases e : k = 1
  · subst e
    exact op_repOne pins s σ H _ _ v u Q I rx ry ⟨l, xs, rfl, rfl, hT, q1 rfl⟩
  · exact op_repT pins s σ H _ _ v u Q I rx ry ⟨l, (k : Int), xs, rfl, rfl, hT, hne, by omega, by omega, h3, q2 (by omega)⟩
theorem repTA_of {K : PySem.W.Frag} {T : Tb} {t : Addr} {m : Nat} {H3 : Hp} {Q : VK} (ht : H3 t = none) (h0 : 0 < m) (hm : m ≤ 1000) (h : ∀ b H5, Fr T [] H3 H5 → H5 b = some (.tup (rowV m fun _ => 0)) → Q (.ref b) H5) :
    rRepTA K (.ref t) (.int (m : Nat)) (upd H3 t (.tup [.int 0])) Q := by
  have e : ∀ n : Nat, (List.replicate ((n : Nat) : Int).toNat [V.int 0]).flatten = rowV n fun _ => 0 := fun n => by
    rw [repFlat n (.int 0) (fun _ => .int ((0 : Nat) : Int)) (fun _ => rfl)]
    unfold rowV rowI
    rw [List.map_map]
    rfl
  refine ⟨t, m, [.int 0], rfl, rfl, SqT.of upd_same, by simp, by omega, hm, by simp, fun e1 => ?_, fun e2 u hu => ?_⟩
  · subst e1
    exact h t _ (Fr.new ht) upd_same
  · refine h u _ ((Fr.new ht).andNew hu) ?_
    rw [upd_same, e]
def spWI (T : Tb) (c : Cs) : Sp := fun vs H Q _ => ∃ (p dx : Addr) (m sl : Nat), vs = [.ref p, .int m, .int sl] ∧ H p = some (.ins c.W dx []) ∧ TbOk T H ∧ 0 < m ∧ m ≤ 20 ∧ 0 < sl ∧ sl ≤ 40 ∧
  ∀ z H', Fr T [p] H H' → SwAt H' c p z (fun _ => 0) 0 0 0 0 (fun _ _ => []) → z.m = m → z.sl = sl → z.sts = [] → z.ls ≠ z.lb → PlanOk m sl (rho []) z.pl → (∀ a ∈ swL p z, a = p ∨ H a = none) → H z.ls = none → H z.lb = none → Q .non H'
abbrev sWI : Stmt := inClass (top 26) 0
theorem scWI : FnScope ["self", "many", "slots"] ["self", "many", "slots"] (defScope sWI) := ⟨rfl, rfl, rfl, by decide +kernel, rfl, by decide +kernel, by decide +kernel⟩
section
variable {P : Program} {w : World} {K : PySem.W.Frag} {mg : Str → Option Value} {base : Heap} {T : Tb} {c : Cs}
theorem ok_wi {f fF fX : Addr} {fd fdF fdX : FuncData} (F : Fun K "__init__" "Switch.__init__" sWI f fd) (B : Bl mg) (KW : Kl K c.W aSw) (KX : Kl K c.X aBar)
    (GF : FnOk P w K mg base CX0 4 fF fdF ["rates", "slots"] (spFrame T)) (mF : mg "frame" = some (.ref fF)) (kF : PySem.W.keepIn K (.ref fF) = true) (bF : Binds K fdF ["rates", "slots"] [])
    (MX : Mk K c.X fX) (GX : FnOk P w K mg base CX0 1 fX fdX ["self", "many"] (spXI T c.X)) (mX : mg "Crossbar" = some (.ref c.X)) (bX : Binds K fdX ["self", "many"] []) :
    FnOk P w K mg base CX0 5 f fd ["self", "many", "slots"] (spWI T c) := by
  have nd := scWI.nd
  refine F.ok scWI (fun vs H Q E h => ?_) (fun cdv A outer s0 H vs Q E hr h => ?_)
  · obtain ⟨p, dx, m, sl, rfl, _⟩ := h
    rfl
  · obtain ⟨p, dx, m, sl, rfl, hp, hT, hm0, hm, hs0, hs, k⟩ := h
    refine ⟨_, pss_cons (ps_if (pt_cmpR op_lt (pv 2) pe_int rfl) pss_never pss_nil)
      (pss_cons (ps_fld (pv 0) (pv 1) rfl) (pss_cons (ps_fld (pv 0) (pv 2) rfl) (pss_cons (ps_fld (pv 0) (pe_lst pa_nil) rfl) (pss_cons (ps_fld (pv 0) (pe_lst pa_nil) rfl)
      (pss_cons (ps_fld (pv 0) (pe_call GF hr rfl mF kF bF .nil pass0 (pa_cons (pe_op op_rep (pe_lst (pa_cons (pe_op op_repTA (pe_tup (pa_cons pe_int pa_nil)) (pv 1)) pa_nil)) (pv 1)) (pa_cons (pv 2) pa_nil))) rfl)
      (pss_cons (ps_fld (pv 0) (pe_make MX GX (hr.mono (by decide)) rfl mX bX .nil pass0 (pa_cons (pv 1) pa_nil)) rfl)
      (pss_one (ps_fld (pv 0) pe_int rfl)))))))), ?_⟩
    refine ⟨_, rfl, _, _, rfl, rfl, false, congrArg V.bl (decide_eq_false (by omega)), ?_⟩
    refine ⟨_, rfl, _, rfl, p, c.W, dx, [], rfl, hp, KW.cl, KW.na _ (by simp), (by show 0 < 1000; decide), ?_⟩
    refine ⟨_, rfl, _, rfl, p, c.W, dx, _, rfl, upd_same, KW.cl, KW.na _ (by simp), (by show 1 < 1000; decide), ?_⟩
    rw [putF_to (show putG "slots" (.int sl) (putF "many" (V.int m) []) = [(("many" : Str), .int m), (("slots" : Str), .int sl)] from rfl), upd_upd]
    generalize hH1 : upd H p (.ins c.W dx [(("many" : Str), V.int m), (("slots" : Str), .int sl)]) = H1
    have fr1 : Fr T [p] H H1 := by rw [← hH1]; exact Fr.set (List.mem_singleton.mpr rfl) hp (.ins _ _ _)
    have hp1 : H1 p = some (.ins c.W dx [(("many" : Str), V.int m), (("slots" : Str), .int sl)]) := by rw [← hH1]; exact upd_same
    -- streams, buckets
    refine ⟨(by show 0 ≤ sizeLine; decide), fun ls hls => ?_⟩
    have n1 : p ≠ ls := ne_of_none hp1 hls
    refine ⟨_, rfl, p, c.W, dx, _, rfl, (by rw [upd_ne n1]; exact hp1), KW.cl, KW.na _ (by simp), (by show 2 < 1000; decide), ?_⟩
    rw [putF_to (show putG "streams" (.ref ls) [(("many" : Str), V.int m), (("slots" : Str), V.int sl)] = [(("many" : Str), .int m), (("slots" : Str), .int sl), (("streams" : Str), .ref ls)] from rfl)]
    generalize hH2 : upd (upd H1 ls (.lst [])) p (.ins c.W dx [(("many" : Str), V.int m), (("slots" : Str), .int sl), (("streams" : Str), .ref ls)]) = H2
    have fr2 : Fr T [p] H1 H2 := by rw [← hH2]; exact Fr.andSet (Fr.new hls) (List.mem_singleton.mpr rfl) (by rw [upd_ne n1]; exact hp1) (.ins _ _ _)
    have hp2 : H2 p = some (.ins c.W dx [(("many" : Str), V.int m), (("slots" : Str), .int sl), (("streams" : Str), .ref ls)]) := by rw [← hH2]; exact upd_same
    have hls2 : H2 ls = some (.lst []) := by rw [← hH2, upd_ne n1.symm, upd_same]
    refine ⟨(by show 0 ≤ sizeLine; decide), fun lb hlb => ?_⟩
    have n2 : p ≠ lb := ne_of_none hp2 hlb
    have n3 : ls ≠ lb := ne_of_none hls2 hlb
    refine ⟨_, rfl, p, c.W, dx, _, rfl, (by rw [upd_ne n2]; exact hp2), KW.cl, KW.na _ (by simp), (by show 3 < 1000; decide), ?_⟩
    rw [putF_to (show putG "buckets" (.ref lb) [(("many" : Str), V.int m), (("slots" : Str), V.int sl), (("streams" : Str), V.ref ls)] = [(("many" : Str), .int m), (("slots" : Str), .int sl), (("streams" : Str), .ref ls), (("buckets" : Str), .ref lb)] from rfl)]
    generalize hH3 : upd (upd H2 lb (.lst [])) p (.ins c.W dx [(("many" : Str), V.int m), (("slots" : Str), .int sl), (("streams" : Str), V.ref ls), (("buckets" : Str), .ref lb)]) = H3
    have fr3 : Fr T [p] H2 H3 := by rw [← hH3]; exact Fr.andSet (Fr.new hlb) (List.mem_singleton.mpr rfl) (by rw [upd_ne n2]; exact hp2) (.ins _ _ _)
    have hp3 : H3 p = some (.ins c.W dx [(("many" : Str), V.int m), (("slots" : Str), .int sl), (("streams" : Str), V.ref ls), (("buckets" : Str), .ref lb)]) := by rw [← hH3]; exact upd_same
    have hls3 : H3 ls = some (.lst []) := fr3.lstN hls2 (by simp [n1.symm])
    have hlb3 : H3 lb = some (.lst []) := by rw [← hH3, upd_ne n2.symm, upd_same]
    -- plan
    have zero : ∀ (b : Addr) (H5 : Hp) (hb : H5 b = some (.tup (rowV m fun _ => 0))) (fr : Fr T [] H3 H5) (Q' : VK), (∀ a H6, Fr T [] H3 H6 → MatL H6 a m (rho []) → Q' (.ref a) H6) → ∀ l, H5 l = none → rRep (.ref l) (.int (m : Nat)) (upd H5 l (.lst [.ref b])) Q' := by
      intro b H5 hb fr Q' hQ l hl
      refine ⟨l, _, _, rfl, rfl, upd_same, by omega, by omega, Nat.le_of_lt (small1000 (by simp; omega)), fun a ha => ?_⟩
      have frl : Fr T [] H3 (upd (upd H5 l (.lst [.ref b])) a (.lst (List.replicate ((m : Nat) : Int).toNat [V.ref b]).flatten)) := (fr.andNew hl).andNew ha
      refine hQ a _ frl ⟨List.replicate m b, ?_, by simp, fun i b' hb' => ?_⟩
      · rw [upd_same, repFlat m (.ref b) (fun _ => .ref b) (fun _ => rfl)]
        congr 2
        apply List.ext_getElem?
        intro i
        by_cases hi : i < m
        · simp [hi]
        · simp [hi]
      · have e : b = b' := by
          rw [List.getElem?_replicate] at hb'
          split at hb'
          · exact Option.some.inj hb'
          · cases hb'
        subst e
        exact .inl (((Fr.new (T := T) (M := []) hl).trans (Fr.new ha)).tup _ _ hb)
    have goFrame : ∀ (a : Addr) (H6 : Hp), Fr T [] H3 H6 → MatL H6 a m (rho []) → ∀ Q' : VK, (∀ pa pl H7, Fr T [] H3 H7 → PlanAt H7 pa m sl pl → PlanOk m sl (rho []) pl → Q' (.ref pa) H7) → ∀ E', spFrame T [.ref a, .int sl] H6 Q' E' := by
      intro a H6 fr6 ml Q' hQ' E'
      have r0 : ∀ i j, rho [] i j = 0 := fun _ _ => rfl
      have s0 : ∀ (n : Nat) (f : Nat → Nat), (∀ i, f i = 0) → sm n f = 0 := fun n f hf => by
        induction n with
        | zero => rfl
        | succ n ih => show sm n f + f n = 0; rw [ih, hf]
      refine ⟨a, m, rho [], sl, rfl, ((fr1.trans fr2).trans fr3).trans fr6.up |>.tb hT, ml, by omega, by omega, ?_, fun i j _ _ => by rw [r0]; omega, fun i _ => by rw [s0 m _ (fun j => r0 i j)]; omega, fun j _ => by rw [s0 m _ (fun i => r0 i j)]; omega, fun pa pl H7 fr7 pp po => hQ' pa pl H7 (fr6.trans fr7) pp po⟩
      have : m * sl ≤ 20 * 40 := Nat.mul_le_mul hm hs
      omega
    refine ⟨(by show 1 ≤ sizeLine; decide), fun t ht => ⟨_, rfl, ?_⟩⟩
    refine repTA_of (T := T) ht hm0 (by omega) fun b H5 fr5 hb5 => ?_
    refine ⟨(by show 1 ≤ sizeLine; decide), fun l hl => ⟨_, rfl, ?_⟩⟩
    refine zero b H5 hb5 fr5 _ (fun a H6 fr6 ml => ?_) l hl
    refine ⟨_, rfl, ?_⟩
    dsimp only [tNil, List.append_nil]
    refine goFrame a H6 fr6 ml _ (fun pa pl H7 fr7 pp po => ?_) _
    refine ⟨_, rfl, p, c.W, dx, _, rfl, fr7.ins hp3, KW.cl, KW.na _ (by simp), (by show 4 < 1000; decide), ?_⟩
    rw [putF_to (show putG "plan" (.ref pa) [(("many" : Str), V.int m), (("slots" : Str), V.int sl), (("streams" : Str), V.ref ls), (("buckets" : Str), V.ref lb)] = [(("many" : Str), .int m), (("slots" : Str), .int sl), (("streams" : Str), .ref ls), (("buckets" : Str), .ref lb), (("plan" : Str), .ref pa)] from rfl)]
    have fr8 : Fr T [p] H7 (upd H7 p (.ins c.W dx [(("many" : Str), V.int m), (("slots" : Str), .int sl), (("streams" : Str), .ref ls), (("buckets" : Str), .ref lb), (("plan" : Str), .ref pa)])) := Fr.set (List.mem_singleton.mpr rfl) (fr7.ins hp3) (.ins _ _ _)
    have hp8 : upd H7 p (.ins c.W dx [(("many" : Str), V.int m), (("slots" : Str), .int sl), (("streams" : Str), .ref ls), (("buckets" : Str), .ref lb), (("plan" : Str), .ref pa)]) p = some (.ins c.W dx [(("many" : Str), V.int m), (("slots" : Str), .int sl), (("streams" : Str), .ref ls), (("buckets" : Str), .ref lb), (("plan" : Str), .ref pa)]) := upd_same
    generalize upd H7 p (.ins c.W dx [(("many" : Str), V.int m), (("slots" : Str), .int sl), (("streams" : Str), .ref ls), (("buckets" : Str), .ref lb), (("plan" : Str), .ref pa)]) = H8 at fr8 hp8
    have hls8 : H8 ls = some (.lst []) := fr8.lstN (fr7.lst hls3) (by simp [n1.symm])
    have hlb8 : H8 lb = some (.lst []) := fr8.lstN (fr7.lst hlb3) (by simp [n2.symm])
    -- the bar
    refine ⟨_, rfl, fun x d hx hd hne => ?_⟩
    have frx : Fr T [] H8 (upd (upd H8 d (.own x)) x (.ins c.X d [])) := (Fr.new hd).andNew (by rw [upd_ne hne.symm]; exact hx)
    refine ⟨x, d, m, rfl, upd_same, by omega, fun la ra qa H9 fr9 BA nq nla nra => ⟨rfl, ?_⟩⟩
    have npx : p ≠ x := ne_of_none hp8 hx
    have fr89 : Fr T [] H8 H9 := frx.then fr9 fun a ha n => by
      rw [List.mem_singleton.mp ha] at n
      exact absurd hx n
    have hp9 := fr89.ins hp8
    refine ⟨_, rfl, p, c.W, dx, _, rfl, hp9, KW.cl, KW.na _ (by simp), (by show 5 < 1000; decide), ?_⟩
    rw [putF_to (show putG "bar" (.ref x) [(("many" : Str), V.int m), (("slots" : Str), V.int sl), (("streams" : Str), V.ref ls), (("buckets" : Str), V.ref lb), (("plan" : Str), V.ref pa)] = [(("many" : Str), .int m), (("slots" : Str), .int sl), (("streams" : Str), .ref ls), (("buckets" : Str), .ref lb), (("plan" : Str), .ref pa), (("bar" : Str), .ref x)] from rfl)]
    refine ⟨_, rfl, p, c.W, dx, _, rfl, upd_same, KW.cl, KW.na _ (by simp), (by show 6 < 1000; decide), ?_⟩
    let z : SwS := ⟨m, sl, ls, lb, pa, x, la, [], [], [], pl, ra, qa⟩
    rw [putF_to (show putG "refused" (.int 0) [(("many" : Str), V.int m), (("slots" : Str), V.int sl), (("streams" : Str), V.ref ls), (("buckets" : Str), V.ref lb), (("plan" : Str), V.ref pa), (("bar" : Str), V.ref x)] = fsSw z 0 from rfl), upd_upd]
    have frp : Fr T [p] H9 (upd H9 p (.ins c.W dx (fsSw z 0))) := Fr.set (List.mem_singleton.mpr rfl) hp9 (.ins _ _ _)
    have nl : ∀ {a : Addr} {xs : List V}, H9 a = some (.lst xs) → a ∉ [p] := fun {a xs} e hm => by
      rw [List.mem_singleton.mp hm, hp9] at e
      cases e
    obtain ⟨d2, hx9⟩ := BA.ob
    have hN3 : ∀ {a : Addr}, H8 a = none → H a = none := fun {a} e => fr1.dom _ (fr2.dom _ (fr3.dom _ (fr7.dom _ (fr8.dom _ e))))
    refine k z _ ((((fr1.trans fr2).trans fr3).trans (fr7.up.trans fr8)).trans (fr89.up.trans frp)) ?_ rfl rfl rfl n3 po (fun a ha => ?_) (fr1.dom _ hls) (fr1.dom _ (fr2.dom _ hlb))
    · refine ⟨⟨hm0, hm, hs0, hs, fun k y e => (by cases e), by show 0 ≤ 40; omega⟩, ⟨dx, upd_same⟩, frp.lstN (fr89.lst hls8) (nl (fr89.lst hls8)), rfl, fun k a y e _ => (by cases e), frp.lstN (fr89.lst hlb8) (nl (fr89.lst hlb8)), rfl, fun k a y e _ => (by cases e), List.nodup_nil, ((pp.fr fr8).fr fr89).fr frp, ?_, fun i j hi hj => ?_⟩
      · exact BA.fr frp (by simp [npx.symm]) (nl BA.rows) (fun i hi => nl (BA.row i hi)) (fun i j hi hj => (let ⟨xs, hxs⟩ := (BA.que i j hi hj).some; nl hxs))
      · have hq := frx.dom _ (nq i j hi hj)
        refine ⟨fun e => ?_, fun e => ?_⟩
        · have e' : qa i j = ls := e
          rw [e', hls8] at hq
          cases hq
        · have e' : qa i j = lb := e
          rw [e', hlb8] at hq
          cases hq
    · rcases List.mem_cons.mp ha with e | e
      · exact .inl e
      · rcases List.mem_append.mp e with e | e
        · cases e
        · rcases barL_mem.mp e with e | ⟨i, j, hi, hj, e⟩
          · rw [e]; exact .inr (hN3 hx)
          · rw [e]; exact .inr (hN3 (frx.dom _ (nq i j hi hj)))
end
end KX
set_option Elab.async false
set_option linter.all false
set_option maxRecDepth 100000
set_option maxHeartbeats 4000000
/-! KX 21: a stream is let in. -/
namespace KX
open PySem PySem.Spec PyProof.Rows L2 GX
def rListOf (K : PySem.W.Frag) : List V → Hp → VK → Prop := fun xs H Q => ∃ p ys, xs = [.ref p] ∧ (SqL K H p ys ∨ SqT K H p ys) ∧ ∀ l, H l = none → Q (.ref l) (upd H l (.lst ys))
theorem call_listOf {X : Cx} : CallR X (.type "list") (rListOf X.K) := call_list_of
theorem pt_or3 {X : Cx} {a b c : Expr} {t u v : TT} {pos : Pos} (ha : PT X a t) (hb : PT X b u) (hc : PT X c v) : PT X (.BoolOp .Or [a, b, c] pos) (tOr t (tOr u v)) := (pw_or ha (pw_or hb (pw_or1 hc))).pt
def dupS (z : SwS) (y : St4) : Prop := ∃ (k : Nat) (x : St4), z.sts[k]? = some x ∧ x.one = y.one ∧ x.gate = y.gate
def roomS (z : SwS) (y : St4) : Prop := (∀ i, i < z.m → sm z.m (rho (z.sts ++ [y]) i) ≤ z.sl) ∧ ∀ j, j < z.m → sm z.m (fun i => rho (z.sts ++ [y]) i j) ≤ z.sl
def spAd (T : Tb) (c : Cs) (BR : Addr) : Sp := fun vs H Q E => ∃ (p : Addr) (z : SwS) (marks : Nat → Int) (refused came went : Nat) (q : Nat → Nat → List Cell) (y : St4), vs = [.ref p, .int y.one, .int y.gate, .int y.burst, .int y.rate] ∧ TbOk T H ∧ SwAt H c p z marks refused 0 came went q ∧
  y.one < z.m ∧ y.gate < z.m ∧ 1 ≤ y.burst ∧ y.burst ≤ 100 ∧ 1 ≤ y.rate ∧ y.rate ≤ 100 ∧ z.sts.length < 40 ∧ z.ls ≠ z.lb ∧
  (¬ dupS z y → roomS z y → ∀ z' H', Fr T [p, z.ls, z.lb] H H' → SwAt H' c p z' (ext marks z.sts.length (y.burst * z.sl : Nat)) refused 0 came went q → z'.m = z.m → z'.sl = z.sl → z'.ls = z.ls → z'.lb = z.lb → z'.sts = z.sts ++ [y] → PlanOk z.m z.sl (rho (z.sts ++ [y])) z'.pl →
    (∀ a ∈ swL p z', a ∈ swL p z ∨ H a = none) → Q (.int z.sts.length) H') ∧
  ((dupS z y ∨ ¬ roomS z y) → ∀ H', Fr T [] H H' → E (.ref BR) none H')
abbrev sAd : Stmt := inClass (top 26) 2
abbrev nAd : List Str := ["self", "one", "gate", "burst", "rate", "rows", "each", "row"]
theorem scAd : FnScope nAd ["self", "one", "gate", "burst", "rate"] (defScope sAd) := ⟨rfl, rfl, rfl, by decide +kernel, rfl, by decide +kernel, by decide +kernel⟩
section
variable {P : Program} {w : World} {K : PySem.W.Frag} {mg : Str → Option Value} {base : Heap} {T : Tb} {c : Cs}
theorem ok_ad {f cd BR fA fC fF fS fB : Addr} {fd fdA fdC fdF fdS fdB : FuncData} (F : FunC K "admit" "Switch.admit" sAd f fd cd) (CO : CodeOf base mg cd T.admit) (B : Bl mg) (XB : ExcC K mg "BadRate" BR) (KW : Kl K c.W aSw) (KX : Kl K c.X aBar) (KS : Kl K c.S aStream)
    (MA : Meth K c.W "all_rates" fA) (GA : FnOk P w K mg base CX0 1 fA fdA ["self"] (spAR T c)) (bA : Binds K fdA ["self"] [])
    (GC : FnOk P w K mg base (L2.CX P w) 3 fC fdC ["rates", "slots"] (spCheck T BR)) (mC : mg "check_rates" = some (.ref fC)) (kC : PySem.W.keepIn K (.ref fC) = true) (bC : Binds K fdC ["rates", "slots"] [])
    (GF : FnOk P w K mg base CX0 4 fF fdF ["rates", "slots"] (spFrame T)) (mF : mg "frame" = some (.ref fF)) (kF : PySem.W.keepIn K (.ref fF) = true) (bF : Binds K fdF ["rates", "slots"] [])
    (MS : Mk K c.S fS) (GS : FnOk P w K mg base CX0 1 fS fdS ["self", "one", "gate", "burst", "rate"] (spSI T c.S)) (mS : mg "Stream" = some (.ref c.S)) (bS : Binds K fdS ["self", "one", "gate", "burst", "rate"] [])
    (MB : Mk K c.B fB) (GB : FnOk P w K mg base CX0 1 fB fdB ["self", "burst", "rate"] (spBI T c.B)) (mB : mg "Bucket" = some (.ref c.B)) (bB : Binds K fdB ["self", "burst", "rate"] []) :
    FnOk P w K mg base (L2.CX P w) 5 f fd ["self", "one", "gate", "burst", "rate"] (spAd T c BR) := by
  have nd := scAd.nd
  refine F.okX scAd (fun vs H Q E h => ?_) (fun A outer s0 H vs Q E hr h => ?_)
  · obtain ⟨p, z, marks, refused, came, went, q, y, rfl, _⟩ := h
    rfl
  · obtain ⟨p, z, marks, refused, came, went, q, y, rfl, hT, SA, h1, h2, hb1, hb2, hr1, hr2, hlen, nlb, k, no⟩ := h
    have raise : ∀ {m : Str} {j : Nat} {p p2 pos rpos : Pos}, PS (cxOf (L2.CX P w) P w K mg base nAd "Switch.admit" (defScope sAd) f (.ref cd) A outer s0 H E) (.Raise (some (.Call (.Name "BadRate" p) [.Constant (.str m) j p2] [] pos)) none rpos) _ :=
      ps_raise rfl (takes_of rfl rfl rfl rfl) (pmk_own PySem.F.excBase_ValueError XB.ex XB.mg XB.kp (raises_own XB.sub XB.ty) rfl)
    refine ⟨_, pss_cons (ps_if (pt_or (pt_not (pt_chain op_le op_lt pe_int (pv 1) (pe_fld (pv 0) rfl))) (pt_not (pt_chain op_le op_lt pe_int (pv 2) (pe_fld (pv 0) rfl)))) pss_never pss_nil)
      (C8.pss_cut (ps_if (pt_val (pe_anyG (av := T.streams) (d := 0) (k := 0) (own := [("each", 6)]) (g := gName 6) (tt := tYes) (te := fun _ => tOp (rEqD K) (tTup (tCons (tFld K (tVar 6) "one") (tCons (tFld K (tVar 6) "gate") tNil))) (tTup (tCons (tVar 1) (tCons (tVar 2) tNil))))
          (hr.mono (by decide)) CO.bm rfl B.any nd (pi_list (pe_fld (pv 0) rfl)) (blkOk_by (N := nAd) (sc := defScope sAd) (by decide +kernel)) rfl rfl (fun _ _ _ _ _ _ _ => pg_name (i := 6) nd rfl (Or.inl rfl)) (fun _ _ _ _ _ _ _ _ => pts_nil)
          (fun _ _ _ _ _ _ _ hr1 => pe_cmpR (op_eqD hr1.units) (pe_tup (pa_cons (pe_fld (pv 6) rfl) (pa_cons (pe_fld (pv 6) rfl) pa_nil))) (pe_tup (pa_cons (pv 1) (pa_cons (pv 2) pa_nil))) rfl))) (pss_one raise) pss_nil)
      (pss_cons (ps_if (pt_or3 (pt_cmpR op_gt (pe_fld (pe_fld (pv 0) rfl) rfl) pe_int rfl) (pt_cmpR op_lt (pv 3) pe_int rfl) (pt_cmpR op_lt (pv 4) pe_int rfl)) pss_never pss_nil)
      (C8.pss_cut (ps_setLc (i := 5) (own := [("row", 7)]) (g := gName 7) (tt := tYes) (te := tCB (rListOf K) (tCons (tVar 7) tNil)) (by rfl) nd rfl rfl (sw_true rfl rfl rfl (by decide +kernel)) (pi_list (pe_meth0 (pv 0) KW.cl MA GA (hr.mono (by decide)) bA .nil pass0 rfl)) (blkOk_by (N := nAd) (sc := defScope sAd) (by decide +kernel)) (fun _ _ _ _ _ => pg_name (i := 7) nd rfl (Or.inl rfl)) (fun _ _ _ _ _ => pts_nil)
        (fun _ _ _ _ _ => pe_callTy call_listOf (by rfl) B.list boot_list (pa_cons (pv 7) pa_nil)))
      (C8.pss_cut (ps_augS (pe_ix ix_list (pv 5) (pv 1) (fun _ _ => rfl)) (pv 2) pget_list (pv 4) ip_add set_list)
      (C8.pss_cut (ps_expr (pe_call GC (hr.mono (by decide)) rfl mC kC bC .nil (passes_call (takes_of rfl rfl rfl rfl) fun _ _ _ _ h => h) (pa_cons (pv 5) (pa_cons (pe_fld (pv 0) rfl) pa_nil))))
      (C8.pss_cut (ps_expr (pe_bm PySem.F.plainAttrs_list PySem.F.slot_list_append PySem.F.type_list_append mt_append (pe_fld (pv 0) rfl) (pa_cons (pe_make MS GS (hr.mono (by decide)) rfl mS bS .nil pass0 (pa_cons (pv 1) (pa_cons (pv 2) (pa_cons (pv 3) (pa_cons (pv 4) pa_nil))))) pa_nil)))
      (C8.pss_cut (ps_expr (pe_bm PySem.F.plainAttrs_list PySem.F.slot_list_append PySem.F.type_list_append mt_append (pe_fld (pv 0) rfl) (pa_cons (pe_make MB GB (hr.mono (by decide)) rfl mB bB .nil pass0 (pa_cons (pe_op op_mul (pv 3) (pe_fld (pv 0) rfl)) (pa_cons (pv 4) pa_nil))) pa_nil)))
      (C8.pss_cut (ps_fld (pv 0) (pe_call GF hr rfl mF kF bF .nil pass0 (pa_cons (pe_meth0 (pv 0) KW.cl MA GA (hr.mono (by decide)) bA .nil pass0 rfl) (pa_cons (pe_fld (pv 0) rfl) pa_nil))) rfl)
      (pss_one (ps_ret (pe_op op_sub (pe_callB call_lenS (by rfl) B.len boot_len (pa_cons (pe_fld (pv 0) rfl) pa_nil)) pe_int))))))))))), ?_⟩
    obtain ⟨dx, hp⟩ := SA.ob
    have many : ∀ Q : VK, Q (.int z.m) H → tFld K (tVar 0) "many" [some (.ref p), some (.int y.one), some (.int y.gate), some (.int y.burst), some (.int y.rate), none, none, none] H Q := fun Q h => ⟨_, rfl, p, c.W, dx, _, _, rfl, hp, KW.cl, KW.na _ (by simp), rfl, h⟩
    refine chainOk (K := K) (fun Q h => h) (fun Q h => ⟨_, rfl, h⟩) many (by omega) (by omega) ?_
    refine chainOk (K := K) (fun Q h => h) (fun Q h => ⟨_, rfl, h⟩) many (by omega) (by omega) ?_
    have hlS : (z.as.map V.ref).length = z.sts.length := by rw [List.length_map]; exact SA.slen
    -- has one
    refine ⟨fun σ1 H1 => σ1 = [some (.ref p), some (.int y.one), some (.int y.gate), some (.int y.burst), some (.int y.rate), none, none, none] ∧ Fr T [] H H1 ∧ ¬ dupS z y, ?_, ?_⟩
    · refine ⟨_, rfl, p, c.W, dx, _, _, rfl, hp, KW.cl, KW.na _ (by simp), rfl, z.ls, rfl, ⟨_, SqL.of SA.sl⟩, cd, T.admit, rfl, .inl CO.hd, hT.admit, fun cv H2 g2 => ?_⟩
      have fr2 : Fr T [] H H2 := Fr.grown g2 fun t => t.n5
      refine any_sq (sq_list (a := z.ls) (xs := z.as.map V.ref)) (fun i => match z.sts[i]? with | some x => decide (x.one = y.one ∧ x.gate = y.gate) | none => false) (fun _ H' => Fr T [] H H') fr2 (fun i H' _ p => SqL.of (p.lst SA.sl)) ?_ (fun i H' hi e fr => ?_) fun H' hall fr => ?_
      · rintro i x H3 H3' hi fr3 ⟨hx, rfl⟩ N1 hNT hNF
        obtain ⟨a, ha, rfl⟩ := getRef hx
        have hi' : i < z.sts.length := by rw [← hlS]; exact hi
        have hy := List.getElem?_eq_getElem hi'
        generalize z.sts[i] = x at hy
        obtain ⟨da, hst⟩ := SA.st i a x ha hy
        rw [hy] at hNT hNF
        refine ⟨rfl, _, rfl, a, c.S, da, _, _, rfl, fr3.ins hst, KS.cl, KS.na _ (by simp), rfl, _, rfl, a, c.S, da, _, _, rfl, fr3.ins hst, KS.cl, KS.na _ (by simp), rfl, (by show 2 ≤ sizeLine; decide), fun t ht => ?_⟩
        refine ⟨_, rfl, _, rfl, (by show 2 ≤ sizeLine; decide), fun u hu => ?_⟩
        have fr4 : Fr T [] H (upd (upd H3' t (.tup [.int (x.one : Nat), .int (x.gate : Nat)])) u (.tup [.int (y.one : Nat), .int (y.gate : Nat)])) := (fr3.andNew ht).andNew hu
        have ntu : t ≠ u := ne_of_none upd_same hu
        refine ⟨.tuple [.int x.one, .int x.gate], .tuple [.int y.one, .int y.gate], .tup (SqT.of (by rw [upd_ne ntu, upd_same])) (.cons (.int _) (.cons (.int _) .nil)), .tup (SqT.of upd_same) (.cons (.int _) (.cons (.int _) .nil)), rfl, rfl, ?_⟩
        refine ⟨decide (x.one = y.one ∧ x.gate = y.gate), congrArg V.bl ?_, fun e => hNT e _ fr4, fun e => hNF e _ fr4⟩
        show (((x.one : Int) == (y.one : Int)) && (((x.gate : Int) == (y.gate : Int)) && true)) = _
        rw [Bool.eq_iff_iff, Bool.and_eq_true, Bool.and_true, beq_iff_eq, beq_iff_eq, decide_eq_true_eq]
        omega
      · refine ⟨true, rfl, ?_⟩
        have hi' : i < z.sts.length := by rw [← hlS]; exact hi
        have hy := List.getElem?_eq_getElem hi'
        simp only [hy] at e
        exact no (.inl ⟨i, _, hy, of_decide_eq_true e⟩) _ fr
      · refine ⟨false, rfl, rfl, fr, fun ⟨i, x, hx, h⟩ => ?_⟩
        have := hall i (by rw [hlS]; exact (List.getElem?_eq_some_iff.mp hx).1)
        simp only [hx] at this
        exact of_decide_eq_false this h
    rintro σ1 H1 ⟨rfl, fr1, nodup⟩
    have SA1 := SA.fr0 fr1
    obtain ⟨dX, hX1⟩ := SA1.bar.ob
    have hp1 := fr1.ins hp
    refine ⟨_, rfl, p, c.W, dx, _, _, rfl, hp1, KW.cl, KW.na _ (by simp), rfl, z.ba, c.X, dX, _, _, rfl, hX1, KX.cl, KX.na _ (by simp), rfl, _, _, rfl, rfl, false, congrArg V.bl (decide_eq_false (by omega)), ?_⟩
    refine ⟨_, rfl, _, _, rfl, rfl, false, congrArg V.bl (decide_eq_false (by omega)), ?_⟩
    refine ⟨_, rfl, _, _, rfl, rfl, false, congrArg V.bl (decide_eq_false (by omega)), ?_⟩
    have hm := SA.ok.m
    have hs := SA.ok.s
    have hst40 : ∀ x ∈ z.sts, x.rate ≤ 100 := fun x hx => by
      obtain ⟨n, hn⟩ := List.mem_iff_getElem?.mp hx
      obtain ⟨_, _, _, _, _, h6⟩ := SA.ok.st n x hn
      omega
    -- rows
    let RL : Hp → List Addr → (Nat → Nat → Nat) → Prop := fun H' cs ρ => cs.Nodup ∧ ∀ (t : Nat) b, cs[t]? = some b → H' b = some (.lst (rowV z.m (ρ t))) ∧ H1 b = none
    refine ⟨fun σ5 H5 => ∃ D cs, σ5 = [some (.ref p), some (.int y.one), some (.int y.gate), some (.int y.burst), some (.int y.rate), some (.ref D), none, none] ∧ Fr T [] H1 H5 ∧ H5 D = some (.lst (cs.map V.ref)) ∧ cs.length = z.m ∧ D ∉ cs ∧ H1 D = none ∧ RL H5 cs (rho z.sts), ?_, ?_⟩
    · refine ⟨_, rfl, p, dx, _, rfl, hp1, rfl, p, dx, z, refused, rfl, hp1, SA1.sl, SA1.slen, SA1.st, SA1.ok, fun a H2 fr2 mat => ?_⟩
      obtain ⟨bs, ha2, RT⟩ := mat
      refine ⟨a, rfl, ⟨_, SqL.of ha2⟩, fun D hD => ?_⟩
      have hbl : (bs.map V.ref).length = z.m := by rw [List.length_map]; exact RT.len
      refine lc_sq (sq_list (a := a) (xs := bs.map V.ref)) (fun i H' => ∃ cs : List Addr, H' D = some (.lst (cs.map V.ref)) ∧ Fr T [] H2 H' ∧ cs.length = i ∧ D ∉ cs ∧ cs.Nodup ∧ ∀ (t : Nat) b, cs[t]? = some b → H' b = some (.lst (rowV z.m (rho z.sts t))) ∧ H2 b = none) ⟨[], upd_same, Fr.new hD, rfl, (by simp), List.nodup_nil, fun t b h => by cases h⟩ (fun i H' _ ⟨_, _, fr, _⟩ => SqL.of (fr.lst ha2)) ?_ ?_
      · rintro i x H5 H5' hi ⟨cs, hDs, fr5, hl5, nDc, hnd, hRL⟩ ⟨hx, rfl⟩
        obtain ⟨b, hb', rfl⟩ := getRef hx
        have hrow := fr5.tup _ _ (RT.row i b hb')
        refine ⟨rfl, _, rfl, b, _, rfl, .inr (SqT.of hrow), fun r hr => ?_⟩
        have nD : D ≠ r := ne_of_none hDs hr
        refine ⟨_, by rw [upd_ne nD]; exact hDs, by rw [List.length_map, hl5]; exact small1000 (by omega), cs ++ [r], by rw [upd_same, List.map_append]; rfl, ?_, by simp [hl5], (by simp [nDc, nD]), ?_, fun t b ht => ?_⟩
        · exact Fr.own (fr5.andNew hr) hD (by rw [upd_ne nD]; exact hDs) (.lst _)
        · rw [List.nodup_append]
          refine ⟨hnd, List.nodup_cons.mpr ⟨by simp, List.nodup_nil⟩, fun a ha b hb e => ?_⟩
          rw [List.mem_singleton.mp hb] at e
          obtain ⟨k, hk⟩ := List.mem_iff_getElem?.mp ha
          rw [e] at hk
          have := (hRL k r hk).1
          rw [hr] at this
          cases this
        · rcases Nat.lt_or_ge t cs.length with ht' | ht'
          · rw [List.getElem?_append_left ht'] at ht
            obtain ⟨e1, e2⟩ := hRL t b ht
            have n1 : b ≠ D := fun z => nDc (by rw [← z]; exact List.mem_of_getElem? ht)
            rw [upd_ne n1, upd_ne (ne_of_none e1 hr)]
            exact ⟨e1, e2⟩
          · have e0 : t = cs.length := by
              have := (List.getElem?_eq_some_iff.mp ht).1
              simp at this
              omega
            rw [e0, List.getElem?_append_right (Nat.le_refl _), Nat.sub_self] at ht
            have eb : r = b := Option.some.inj ht
            subst eb
            rw [upd_ne nD.symm, upd_same, e0, hl5]
            exact ⟨rfl, fr5.dom _ hr⟩
      · rintro H5 ⟨cs, hDs, fr5, hl5, nDc, hnd, hRL⟩
        exact ⟨D, cs, rfl, fr2.trans fr5, hDs, hl5.trans hbl, nDc, fr2.dom _ hD, hnd, fun t b h => ⟨(hRL t b h).1, fr2.dom _ (hRL t b h).2⟩⟩
    rintro σ5 H5 ⟨D, cs, rfl, fr5, hD5, hl5, nDc, nD1, hnd5, hRL5⟩
    -- rows[one][gate] += rate
    refine ⟨fun σ6 H6 => σ6 = [some (.ref p), some (.int y.one), some (.int y.gate), some (.int y.burst), some (.int y.rate), some (.ref D), none, none] ∧ Fr T [] H1 H6 ∧ H6 D = some (.lst (cs.map V.ref)) ∧ RL H6 cs (rho (z.sts ++ [y])), ?_, ?_⟩
    · obtain ⟨bc, hbc⟩ : ∃ bc, cs[y.one]? = some bc := ⟨_, List.getElem?_eq_getElem (by rw [hl5]; exact h1)⟩
      have hrow := hRL5 y.one bc hbc
      have nDb : D ≠ bc := fun e => nDc (by rw [e]; exact List.mem_of_getElem? hbc)
      refine ⟨_, rfl, _, rfl, D, _, _, _, rfl, rfl, SqL.of hD5, at_of (j := y.one) rfl (by rw [List.getElem?_map, hbc]; rfl), ?_⟩
      refine ⟨_, rfl, bc, _, y.gate, _, rfl, rfl, SqL.of hrow.1, rowV_at h2, ?_⟩
      refine ⟨_, rfl, _, _, rfl, rfl, bc, _, _, y.gate, rfl, rfl, hrow.1, ?_, ?_⟩
      · unfold ixN
        rw [if_pos (by omega), if_pos (by rw [rowV_len]; omega)]
        simp
      · have ev : ((rho z.sts y.one y.gate : Nat) : Int) + (y.rate : Nat) = ((rho (z.sts ++ [y]) y.one y.gate : Nat) : Int) := by
          rw [rho_app, if_pos ⟨rfl, rfl⟩]
          omega
        have eL : (rowV z.m (rho z.sts y.one)).set y.gate (.int (((rho z.sts y.one y.gate : Nat) : Int) + (y.rate : Nat))) = rowV z.m (rho (z.sts ++ [y]) y.one) := by
          rw [ev, rowV_set h2]
          refine rowV_congr fun n hn => ?_
          by_cases e : n = y.gate
          · rw [if_pos e, e]
          · rw [if_neg e, rho_app, if_neg fun q => e q.2.symm]
            rfl
        refine ⟨rfl, Fr.own fr5 hrow.2 hrow.1 (.lst _), by rw [upd_ne nDb]; exact hD5, hnd5, fun t' b' hb' => ?_⟩
        by_cases e : t' = y.one
        · subst e
          rw [hbc] at hb'
          have eb : bc = b' := Option.some.inj hb'
          subst eb
          rw [upd_same]
          exact ⟨congrArg (fun l => some (HO.lst l)) eL, hrow.2⟩
        · obtain ⟨e1, e2⟩ := hRL5 t' b' hb'
          have nbb : b' ≠ bc := fun q => by
            rw [q] at hb'
            exact e (nd_ix hnd5 hb' hbc)
          rw [upd_ne nbb, e1]
          refine ⟨congrArg (fun l => some (HO.lst l)) (rowV_congr fun n hn => ?_), e2⟩
          rw [rho_app, if_neg fun q => e q.1.symm]
          rfl
    rintro σ6 H6 ⟨rfl, fr6, hD6, hnd6, hRL6⟩
    -- check_rates
    refine ⟨fun σ7 H7 => σ7 = [some (.ref p), some (.int y.one), some (.int y.gate), some (.int y.burst), some (.int y.rate), some (.ref D), none, none] ∧ Fr T [] H1 H7 ∧ roomS z y, ?_, ?_⟩
    · refine ⟨_, rfl, _, rfl, p, c.W, dx, _, _, rfl, fr6.ins hp1, KW.cl, KW.na _ (by simp), rfl, D, z.m, rho (z.sts ++ [y]), z.sl, rfl, (fr1.trans fr6).tb hT, ⟨cs, hD6, hl5, fun i b e => .inr (hRL6 i b e).1⟩, by omega, by omega, fun i j _ _ => ?_, fun fa H7 fr7 _ _ r1 r2 => ⟨rfl, fr6.trans fr7, r1, r2⟩, fun H7 fr7 bad => no (.inr fun room => ?_) H7 ((fr1.trans fr6).trans fr7)⟩
      · have := rho_le (L := z.sts ++ [y]) (B := 100) (i := i) (j := j) (fun x hx => (List.mem_append.mp hx).elim (hst40 x) fun e => by rw [List.mem_singleton.mp e]; exact hr2)
        rw [List.length_append, List.length_singleton] at this
        omega
      · rcases bad with ⟨i, hi, e⟩ | ⟨j, hj, e⟩
        · exact absurd (room.1 i hi) (by omega)
        · exact absurd (room.2 j hj) (by omega)
    rintro σ7 H7 ⟨rfl, fr7, room⟩
    have SA7 := SA1.fr0 fr7
    have hp7 := fr7.ins hp1
    have le_sm : ∀ (n : Nat) (f : Nat → Nat) j, j < n → f j ≤ sm n f := by
      intro n f
      induction n with
      | zero => intro j hj; omega
      | succ n ih =>
        intro j hj
        show _ ≤ sm n f + f n
        rcases Nat.lt_succ_iff_lt_or_eq.mp hj with e | e
        · have := ih j e
          omega
        · rw [e]; omega
    have hrs : y.rate ≤ z.sl := by
      have e1 := room.1 y.one h1
      have e2 := le_sm z.m (rho (z.sts ++ [y]) y.one) y.gate h2
      rw [rho_app, if_pos ⟨rfl, rfl⟩] at e2
      omega
    let σ0 : L2.St := [some (.ref p), some (.int y.one), some (.int y.gate), some (.int y.burst), some (.int y.rate), some (.ref D), none, none]
    -- the stream
    refine ⟨fun σ8 H8 => ∃ x d, σ8 = σ0 ∧ Fr T [z.ls] H7 H8 ∧ H8 z.ls = some (.lst ((z.as ++ [x]).map V.ref)) ∧ H8 x = some (.ins c.S d (fsSt y)) ∧ H7 x = none, ?_, ?_⟩
    · refine ⟨_, rfl, p, c.W, dx, _, _, rfl, hp7, KW.cl, KW.na _ (by simp), rfl, .inl ⟨rfl, _, SqL.of SA7.sl⟩, _, rfl, _, rfl, _, rfl, _, rfl, fun x d hx hd hne => ?_⟩
      refine ⟨x, d, y, rfl, upd_same, fun H' fr hx' => ⟨rfl, ?_⟩⟩
      have frx : Fr T [] H7 H' := ((Fr.new hd).andNew (by rw [upd_ne hne.symm]; exact hx)).then fr fun a ha n => by
        rw [List.mem_singleton.mp ha] at n
        exact absurd hx n
      have hls' := frx.lst SA7.sl
      refine ⟨z.ls, z.as.map V.ref, _, rfl, rfl, hls', by rw [hlS]; exact small1000 (by omega), x, d, rfl, frx.up.andSet (List.mem_singleton.mpr rfl) hls' (.lst _), by rw [upd_same, List.map_append]; rfl, ?_, hx⟩
      rw [upd_ne fun e => by rw [e, hls'] at hx'; cases hx']
      exact hx'
    rintro σ8 H8 ⟨x, d, rfl, fr8, hls8, hx8, hx7⟩
    have nil : ∀ {a C d : Addr} {fs : List (Str × V)}, H7 a = some (.ins C d fs) → a ∉ [z.ls] := fun {a C d fs} e hm => by
      rw [List.mem_singleton.mp hm, SA7.sl] at e
      cases e
    have hp8 := fr8.insN hp7 (nil hp7)
    have nsb : z.lb ∉ [z.ls] := fun hm => nlb (List.mem_singleton.mp hm).symm
    have nbs : z.ls ∉ [z.lb] := fun hm => nlb (List.mem_singleton.mp hm)
    have hlb8 := fr8.lstN SA7.bl nsb
    have hlB : (z.bs.map V.ref).length = z.sts.length := by rw [List.length_map]; exact SA.blen
    -- the bucket
    refine ⟨fun σ9 H9 => ∃ b e, σ9 = σ0 ∧ Fr T [z.lb] H8 H9 ∧ H9 z.lb = some (.lst ((z.bs ++ [b]).map V.ref)) ∧ H9 b = some (.ins c.B e (fsBk (y.burst * z.sl) y.rate (y.burst * z.sl : Nat))) ∧ H8 b = none, ?_, ?_⟩
    · refine ⟨_, rfl, p, c.W, dx, _, _, rfl, hp8, KW.cl, KW.na _ (by simp), rfl, .inl ⟨rfl, _, SqL.of hlb8⟩, _, rfl, _, rfl, p, c.W, dx, _, _, rfl, hp8, KW.cl, KW.na _ (by simp), rfl, _, _, rfl, rfl, .inl ⟨by omega, by omega⟩, _, rfl, fun x d hx hd hne => ?_⟩
      refine ⟨x, d, y.burst * z.sl, y.rate, by rw [Int.natCast_mul]; rfl, upd_same, fun H' fr hx' => ⟨rfl, ?_⟩⟩
      have frx : Fr T [] H8 H' := ((Fr.new hd).andNew (by rw [upd_ne hne.symm]; exact hx)).then fr fun a ha n => by
        rw [List.mem_singleton.mp ha] at n
        exact absurd hx n
      have hls' := frx.lst hlb8
      refine ⟨z.lb, z.bs.map V.ref, _, rfl, rfl, hls', by rw [hlB]; exact small1000 (by omega), x, d, rfl, frx.up.andSet (List.mem_singleton.mpr rfl) hls' (.lst _), by rw [upd_same, List.map_append]; rfl, ?_, hx⟩
      rw [upd_ne fun e => by rw [e, hls'] at hx'; cases hx']
      exact hx'
    rintro σ9 H9 ⟨b, e, rfl, fr9, hlb9, hb9, hb8⟩
    have nil8 : ∀ {a C d : Addr} {fs : List (Str × V)}, H8 a = some (.ins C d fs) → a ∉ [z.lb] := fun {a C d fs} e hm => by
      rw [List.mem_singleton.mp hm, hlb8] at e
      cases e
    have hp9 := fr9.insN hp8 (nil8 hp8)
    have hls9 := fr9.lstN hls8 nbs
    have ins9 : ∀ {a C d : Addr} {fs : List (Str × V)}, H7 a = some (.ins C d fs) → H9 a = some (.ins C d fs) := fun {a C d fs} e => by
      have e8 := fr8.insN e (nil e)
      exact fr9.insN e8 (nil8 e8)
    let z1 : SwS := ⟨z.m, z.sl, z.ls, z.lb, z.pa, z.ba, z.la, z.as ++ [x], z.bs ++ [b], z.sts ++ [y], z.pl, z.ra, z.qa⟩
    have at1 : ∀ {α β : Type} {L : List α} {M : List β} {u : α} {v : β} {k : Nat} {a : α} {c : β}, L.length = M.length → (L ++ [u])[k]? = some a → (M ++ [v])[k]? = some c → (L[k]? = some a ∧ M[k]? = some c ∧ k < M.length) ∨ (k = M.length ∧ a = u ∧ c = v) := by
      intro α β L M u v k a c hl h1 h2
      rcases Nat.lt_or_ge k M.length with hk | hk
      · rw [List.getElem?_append_left (by omega)] at h1
        rw [List.getElem?_append_left hk] at h2
        exact .inl ⟨h1, h2, hk⟩
      · have hk' : k = M.length := by
          have := (List.getElem?_eq_some_iff.mp h2).1
          rw [List.length_append, List.length_singleton] at this
          omega
        subst hk'
        rw [List.getElem?_append_right (by omega), hl, Nat.sub_self] at h1
        rw [List.getElem?_append_right (Nat.le_refl _), Nat.sub_self] at h2
        exact .inr ⟨rfl, (Option.some.inj h1).symm, (Option.some.inj h2).symm⟩
    have ok1 : SwOk z1 := by
      refine ⟨SA.ok.m0, hm, SA.ok.s0, hs, fun k y' hy' => ?_, ?_⟩
      · rcases at1 (L := z.sts) (M := z.sts) (u := y) (v := y) rfl hy' hy' with ⟨e1, _, _⟩ | ⟨_, e1, _⟩
        · exact SA.ok.st k y' e1
        · rw [e1]; exact ⟨h1, h2, hb1, hb2, hr1, hrs⟩
      · show (z.sts ++ [y]).length ≤ 40
        rw [List.length_append, List.length_singleton]
        omega
    have st9 : ∀ (k : Nat) a y', (z.as ++ [x])[k]? = some a → (z.sts ++ [y])[k]? = some y' → ∃ dx, H9 a = some (.ins c.S dx (fsSt y')) := fun k a y' e1 e2 => by
      rcases at1 SA.slen e1 e2 with ⟨e3, e4, _⟩ | ⟨_, rfl, rfl⟩
      · obtain ⟨d', hd'⟩ := SA7.st k a y' e3 e4
        exact ⟨d', ins9 hd'⟩
      · exact ⟨d, fr9.insN hx8 (nil8 hx8)⟩
    have bk9 : ∀ (k : Nat) a y', (z.bs ++ [b])[k]? = some a → (z.sts ++ [y])[k]? = some y' → ∃ dx, H9 a = some (.ins c.B dx (fsBk (y'.burst * z.sl) y'.rate (ext marks z.sts.length (y.burst * z.sl : Nat) k))) := fun k a y' e1 e2 => by
      rcases at1 SA.blen e1 e2 with ⟨e3, e4, hk⟩ | ⟨rfl, rfl, rfl⟩
      · obtain ⟨d', hd'⟩ := SA7.bk k a y' e3 e4
        rw [ext_ne (by omega)]
        exact ⟨d', ins9 hd'⟩
      · rw [ext_at rfl]
        exact ⟨e, hb9⟩
    have len1 : (z.as ++ [x]).length = (z.sts ++ [y]).length := by rw [List.length_append, List.length_append, SA.slen]; rfl
    have len2 : (z.bs ++ [b]).length = (z.sts ++ [y]).length := by rw [List.length_append, List.length_append, SA.blen]; rfl
    -- the plan
    refine ⟨fun σA HA => ∃ pa pl, σA = σ0 ∧ Fr T [p] H9 HA ∧ HA p = some (.ins c.W dx (fsSw ⟨z.m, z.sl, z.ls, z.lb, pa, z.ba, z.la, z.as ++ [x], z.bs ++ [b], z.sts ++ [y], pl, z.ra, z.qa⟩ refused)) ∧ PlanAt HA pa z.m z.sl pl ∧ PlanOk z.m z.sl (rho (z.sts ++ [y])) pl, ?_, ?_⟩
    · refine ⟨_, rfl, p, dx, _, rfl, hp9, rfl, p, dx, z1, refused, rfl, hp9, hls9, len1, st9, ok1, fun a H10 fr10 mat => ?_⟩
      refine ⟨_, rfl, p, c.W, dx, _, _, rfl, fr10.ins hp9, KW.cl, KW.na _ (by simp), rfl, ?_⟩
      refine ⟨a, z.m, rho (z.sts ++ [y]), z.sl, rfl, (((((fr1.trans fr7).tb hT |> fr8.tb) |> fr9.tb)) |> fr10.tb), mat.matL, by omega, by omega, ?_, fun i j _ _ => ?_, room.1, room.2, fun pa pl H11 fr11 pp po => ?_⟩
      · have : z.m * z.sl ≤ 20 * 40 := Nat.mul_le_mul hm hs
        omega
      · have := rho_le (L := z.sts ++ [y]) (B := 100) (i := i) (j := j) (fun x hx => (List.mem_append.mp hx).elim (hst40 x) fun e => by rw [List.mem_singleton.mp e]; exact hr2)
        rw [List.length_append, List.length_singleton] at this
        omega
      · refine ⟨_, rfl, p, c.W, dx, _, rfl, (fr10.trans fr11).ins hp9, KW.cl, KW.na _ (by simp), (by show 7 < 1000; decide), ?_⟩
        rw [putF_to (show putG "plan" (.ref pa) (fsSw z refused) = fsSw ⟨z.m, z.sl, z.ls, z.lb, pa, z.ba, z.la, z.as ++ [x], z.bs ++ [b], z.sts ++ [y], pl, z.ra, z.qa⟩ refused from rfl)]
        exact ⟨pa, pl, rfl, (fr10.trans fr11).up.andSet (List.mem_singleton.mpr rfl) ((fr10.trans fr11).ins hp9) (.ins _ _ _), upd_same, pp.fr (Fr.set (T := T) (M := [p]) (List.mem_singleton.mpr rfl) ((fr10.trans fr11).ins hp9) (.ins _ _ _)), po⟩
    rintro σA HA ⟨pa, pl, rfl, frA, hpA, ppA, po⟩
    have neL : ∀ {C : Addr} {l l2 r : Addr} {xs : List Addr} {ys zs : List V} {n : Nat} {g : Nat → List (Str × V)}, H7 l = some (.lst (xs.map V.ref)) → xs.length = z.sts.length → (∀ (k : Nat) a y, xs[k]? = some a → z.sts[k]? = some y → ∃ dx fs, H7 a = some (.ins C dx fs)) → H7 l2 = some (.lst ys) → ys[0]? = some (.ref r) → H7 r = some (.lst zs) → l2 ≠ l := by
      intro C l l2 r xs ys zs n g e1 e2 e3 e4 e5 e6 e7
      rw [e7, e1] at e4
      have e8 : xs.map V.ref = ys := by injection e4 with q; injection q
      rw [← e8, List.getElem?_map] at e5
      cases e9 : xs[0]? with
      | none => rw [e9] at e5; cases e5
      | some a =>
        rw [e9] at e5
        have e10 : a = r := by injection e5 with q; injection q
        have h0 : 0 < z.sts.length := by rw [← e2]; exact (List.getElem?_eq_some_iff.mp e9).1
        obtain ⟨dx, fs, h⟩ := e3 0 a _ e9 (List.getElem?_eq_getElem h0)
        rw [e10, e6] at h
        cases h
    have m0 := SA.ok.m0
    have sI : ∀ (k : Nat) a y, z.as[k]? = some a → z.sts[k]? = some y → ∃ dx fs, H7 a = some (.ins c.S dx fs) := fun k a y e1 e2 => let ⟨d, h⟩ := SA7.st k a y e1 e2; ⟨d, _, h⟩
    have bI : ∀ (k : Nat) a y, z.bs[k]? = some a → z.sts[k]? = some y → ∃ dx fs, H7 a = some (.ins c.B dx fs) := fun k a y e1 e2 => let ⟨d, h⟩ := SA7.bk k a y e1 e2; ⟨d, _, h⟩
    have BA := SA7.bar
    have rowLs : ∀ i, i < z.m → z.ra i ≠ z.ls ∧ z.ra i ≠ z.lb := fun i hi => by
      obtain ⟨xs, hxs⟩ := (BA.que i 0 hi m0).some
      exact ⟨neL (n := 0) (g := fun _ => []) SA7.sl SA.slen sI (BA.row i hi) (refsV_at m0) hxs, neL (n := 0) (g := fun _ => []) SA7.bl SA.blen bI (BA.row i hi) (refsV_at m0) hxs⟩
    have laLs : z.la ≠ z.ls ∧ z.la ≠ z.lb := ⟨neL (n := 0) (g := fun _ => []) SA7.sl SA.slen sI BA.rows (refsV_at m0) (BA.row 0 m0), neL (n := 0) (g := fun _ => []) SA7.bl SA.blen bI BA.rows (refsV_at m0) (BA.row 0 m0)⟩
    have np : ∀ {a : Addr} {xs : List V}, H7 a = some (.lst xs) → a ≠ p := fun {a xs} e q => by
      rw [q, hp7] at e
      cases e
    have frX : Fr T [p, z.ls, z.lb] H7 HA := ((fr8.mono (by simp)).trans (fr9.mono (by simp))).trans (frA.mono (by simp))
    have frH : Fr T [p, z.ls, z.lb] H HA := (fr1.trans fr7).up.trans frX
    have insA : ∀ {a C d : Addr} {fs : List (Str × V)}, H9 a = some (.ins C d fs) → fs.length ≠ 7 → HA a = some (.ins C d fs) := fun {a C d fs} e n => frA.insN e fun hm => by
      rw [List.mem_singleton.mp hm, hp9] at e
      injection e with q
      injection q with _ _ q2
      exact n (by rw [← q2]; rfl)
    have npl : ∀ {a : Addr} {xs : List V}, H9 a = some (.lst xs) → a ∉ [p] := fun {a xs} e hm => by
      rw [List.mem_singleton.mp hm, hp9] at e
      cases e
    have hlsA := frA.lstN hls9 (npl hls9)
    have hlbA := frA.lstN hlb9 (npl hlb9)
    refine ⟨_, rfl, p, c.W, dx, _, _, rfl, hpA, KW.cl, KW.na _ (by simp), rfl, z.ls, _, rfl, .inl (SqL.of hlsA), _, _, rfl, rfl, ?_⟩
    have eR : (V.int ((((z.as ++ [x]).map V.ref).length : Nat) : Int) = V.int ((z.sts.length : Nat) + 1 : Int)) := by
      rw [List.length_map, List.length_append, SA.slen]
      rfl
    have fin := k nodup room ⟨z.m, z.sl, z.ls, z.lb, pa, z.ba, z.la, z.as ++ [x], z.bs ++ [b], z.sts ++ [y], pl, z.ra, z.qa⟩ HA frH
      ⟨⟨ok1.m0, ok1.m, ok1.s0, ok1.s, ok1.st, ok1.len⟩, ⟨dx, hpA⟩, hlsA, len1, fun k a y' e1 e2 => (let ⟨d', h⟩ := st9 k a y' e1 e2; ⟨d', insA h (show 4 ≠ 7 by decide)⟩), hlbA, len2, fun k a y' e1 e2 => (let ⟨d', h⟩ := bk9 k a y' e1 e2; ⟨d', insA h (show 3 ≠ 7 by decide)⟩), ?_, ppA,
        BA.fr frX ?_ ?_ ?_ ?_, fun i j hi hj => SA.nq i j hi hj⟩ rfl rfl rfl rfl rfl po ?_
    · have e0 : ((((z.as ++ [x]).map V.ref).length : Nat) : Int) - 1 = (z.sts.length : Nat) := by
        rw [List.length_map, List.length_append, SA.slen, List.length_singleton]
        omega
      show Q (.int (((((z.as ++ [x]).map V.ref).length : Nat) : Int) - 1)) HA
      rw [e0]
      exact fin
    · have hb7 : H7 b = none := fr8.dom _ hb8
      show (z.bs ++ [b]).Nodup
      rw [List.nodup_append]
      refine ⟨SA.bnd, List.nodup_cons.mpr ⟨by simp, List.nodup_nil⟩, fun a ha b' hb' e => ?_⟩
      rw [List.mem_singleton.mp hb'] at e
      obtain ⟨n, hn⟩ := List.mem_iff_getElem?.mp ha
      have hn' : n < z.sts.length := by rw [← SA.blen]; exact (List.getElem?_eq_some_iff.mp hn).1
      obtain ⟨d', fs', h⟩ := bI n a _ hn (List.getElem?_eq_getElem hn')
      rw [e, hb7] at h
      cases h
    · obtain ⟨d', h⟩ := BA.ob
      intro hm
      rcases List.mem_cons.mp hm with q | hm
      · have q' : z.ba = p := q
        rw [q', hp7] at h
        injection h with h
        injection h with _ _ h
        exact absurd (congrArg List.length h) (show ¬ (7 = 5) by decide)
      rcases List.mem_cons.mp hm with q | hm
      · have q' : z.ba = z.ls := q
        rw [q', SA7.sl] at h
        cases h
      · have q' : z.ba = z.lb := List.mem_singleton.mp hm
        rw [q', SA7.bl] at h
        cases h
    · have e1 := np BA.rows
      have e2 := laLs
      show z.la ∉ _
      simp [e1, e2.1, e2.2]
    · intro i hi
      have e1 := np (BA.row i hi)
      have e2 := rowLs i hi
      show z.ra i ∉ _
      simp [e1, e2.1, e2.2]
    · intro i j hi hj
      obtain ⟨xs, hxs⟩ := (BA.que i j hi hj).some
      have e1 := np hxs
      have e2 := SA.nq i j hi hj
      show z.qa i j ∉ _
      simp [e1, e2.1, e2.2]
    · intro a ha
      have ha' : a ∈ p :: ((z.bs ++ [b]) ++ barL z.ba z.qa z.m) := ha
      have hb0 : H b = none := fr1.dom _ (fr7.dom _ (fr8.dom _ hb8))
      rcases List.mem_cons.mp ha' with e | e
      · exact .inl (by rw [e]; exact List.mem_cons_self)
      · rcases List.mem_append.mp e with e | e
        · rcases List.mem_append.mp e with e | e
          · exact .inl (List.mem_cons_of_mem _ (List.mem_append_left _ e))
          · exact .inr (by rw [List.mem_singleton.mp e]; exact hb0)
        · exact .inl (List.mem_cons_of_mem _ (List.mem_append_right _ e))
end
end KX
set_option Elab.async false
set_option linter.all false
set_option maxRecDepth 100000
set_option maxHeartbeats 4000000
/-! KX 22: the dice. -/
namespace KX
open PySem PySem.Spec PyProof.Rows L2 GX
def Dice (H : Hp) (l : Addr) : Prop := ∃ a b c : Int, H l = some (.lst [.int a, .int b, .int c])
def spDice : Sp := fun vs H Q _ => ∃ i : Int, vs = [.int i] ∧ ∀ (l : Addr) (a b c : Int), H l = none → Q (.ref l) (upd H l (.lst [.int a, .int b, .int c]))
abbrev sDice : Stmt := top 28
theorem scDice : FnScope ["cell"] ["cell"] (defScope sDice) := ⟨rfl, rfl, rfl, by decide +kernel, rfl, by decide +kernel, by decide +kernel⟩
def spRoll (T : Tb) : Sp := fun vs H Q _ => ∃ (l : Addr) (a b c : Int) (many : Nat), vs = [.ref l, .int (many : Nat)] ∧ H l = some (.lst [.int a, .int b, .int c]) ∧ 0 < many ∧ many < 1000000 ∧
  ∀ (r : Nat) H', r < many → Fr T [l] H H' → Dice H' l → Q (.int (r : Nat)) H'
abbrev sRoll : Stmt := top 29
theorem scRoll : FnScope ["dice", "many", "found"] ["dice", "many"] (defScope sRoll) := ⟨rfl, rfl, rfl, by decide +kernel, rfl, by decide +kernel, by decide +kernel⟩
def rInt1 : List V → Hp → VK → Prop := fun xs H Q => (∃ i, xs = [.int i] ∧ Q (.int i) H) ∨ ∃ k, xs = [.bl k] ∧ Q (.int (if k then 1 else 0)) H
theorem call_intA {X : Cx} : CallR X (.type "int") rInt1 := call_int1
section
variable {P : Program} {w : World} {K : PySem.W.Frag} {mg : Str → Option Value} {base : Heap} {T : Tb}
theorem ok_dice {f : Addr} {fd : FuncData} (F : Fun K "_law_dice" "_law_dice" sDice f fd) (B : Bl mg) : FnOk P w K mg base CX0 1 f fd ["cell"] spDice := by
  have nd := scDice.nd
  refine F.ok scDice (fun vs H Q E h => ?_) (fun cdv A outer s0 H vs Q E hr h => ?_)
  · obtain ⟨i, rfl, _⟩ := h
    rfl
  · obtain ⟨i, rfl, k⟩ := h
    refine ⟨_, pss_cons (ps_if (pt_chain op_lt op_lt (pe_op op_sub pe_int pe_int) (pv 0) pe_int) (pss_one (ps_ret (pe_lst (pa_cons (pe_callB call_abs (by rfl) B.abs boot_abs (pa_cons (pv 0) pa_nil)) (pa_cons pe_int (pa_cons pe_int pa_nil)))))) pss_nil)
      (pss_one (ps_ret (pe_lst (pa_cons (pv 0) (pa_cons (pe_op op_add pe_int (pe_op op_mod (pe_callTy call_intA (by rfl) B.int boot_int (pa_cons (pv 0) pa_nil)) pe_int)) (pa_cons (pe_callTy call_intA (by rfl) B.int boot_int (pa_cons (pe_cmpR op_ge (pv 0) (pe_op op_pow pe_int pe_int) rfl) pa_nil)) pa_nil)))))), ?_⟩
    have big : rInt1 = rInt1 := rfl
    have rest : ∀ (Q' : VK), (∀ (l : Addr) (a b c : Int), H l = none → Q' (.ref l) (upd H l (.lst [.int a, .int b, .int c]))) → (tLst (tCons (tVar 0) (tCons (tOp (rI0 fun i j => .int (i + j)) (tC (.int 1)) (tOp (rI (fun _ j => 0 < j) fun i j => .int (i % j)) (tCB rInt1 (tCons (tVar 0) tNil)) (tC (.int 1009))))
        (tCons (tCB rInt1 (tCons (tOp (rI0 fun i j => .bl (decide (j ≤ i))) (tVar 0) (tOp (rI CPow fun i j => .int (i ^ j.toNat)) (tC (.int 10)) (tC (.int 18)))) tNil)) tNil)))) [some (.int i)] H Q' := by
      intro Q' hQ'
      refine ⟨_, rfl, _, rfl, .inl ⟨i, rfl, ?_⟩⟩
      refine ⟨_, _, rfl, rfl, (by show (0 : Int) < 1009; decide), _, _, rfl, rfl, _, rfl, _, _, rfl, rfl, ⟨by decide, by decide, by decide⟩, _, _, rfl, rfl, .inr ⟨_, rfl, (by show 3 ≤ sizeLine; decide), fun l hl => hQ' l _ _ _ hl⟩⟩
    refine ⟨_, _, rfl, rfl, _, rfl, _, _, rfl, rfl, ?_⟩
    by_cases e1 : (0 - 10 : Int) < i
    · refine ⟨true, congrArg V.bl (decide_eq_true e1), ?_⟩
      by_cases e2 : i < 10
      · exact ⟨_, _, rfl, rfl, true, congrArg V.bl (decide_eq_true e2), _, rfl, _, rfl, (by show 3 ≤ sizeLine; decide), fun l hl => k l _ _ _ hl⟩
      · exact ⟨_, _, rfl, rfl, false, congrArg V.bl (decide_eq_false e2), rest _ k⟩
    · exact ⟨false, congrArg V.bl (decide_eq_false e1), false, rfl, rest _ k⟩
theorem ok_roll {f : Addr} {fd : FuncData} (F : Fun K "_law_roll" "_law_roll" sRoll f fd) (B : Bl mg) : FnOk P w K mg base CX0 1 f fd ["dice", "many"] (spRoll T) := by
  have nd := scRoll.nd
  refine F.ok scRoll (fun vs H Q E h => ?_) (fun cdv A outer s0 H vs Q E hr h => ?_)
  · obtain ⟨l, a, b, c, many, rfl, _⟩ := h
    rfl
  · obtain ⟨l, a, b, c, many, rfl, hl, h0, hb, k⟩ := h
    refine ⟨_, pss_cons (ps_if (pt_or (pt_cmpR op_eq (pe_ix ix_list (pv 0) pe_int (fun _ _ => rfl)) pe_int rfl) (pt_and (pt_cmpR op_eq (pe_ix ix_list (pv 0) pe_int (fun _ _ => rfl)) pe_int rfl) (pt_cmpR op_gt (pe_ix ix_list (pv 0) pe_int (fun _ _ => rfl)) pe_int rfl)))
        (pss_cons (ps_set (i := 2) nd rfl (Or.inl rfl) (pe_op op_mod (pe_callTy call_intA (by rfl) B.int boot_int (pa_cons (pe_ix ix_list (pv 0) pe_int (fun _ _ => rfl)) pa_nil)) (pv 1)))
        (pss_cons (ps_asg (pe_op op_fdiv (pe_ix ix_list (pv 0) pe_int (fun _ _ => rfl)) (pv 1)) (pg_sub (pv 0) pe_int set_list))
        (pss_one (ps_ret (pv 2))))) pss_nil)
      (pss_cons (ps_asg pe_int (pg_sub (pv 0) pe_int set_list))
      (pss_cons (ps_asg (pe_op op_mod (pe_callTy call_intA (by rfl) B.int boot_int (pa_cons (pe_op op_add (pe_op op_add (pe_op op_mul (pe_ix ix_list (pv 0) pe_int (fun _ _ => rfl)) pe_int) (pe_op op_mul (pe_ix ix_list (pv 0) pe_int (fun _ _ => rfl)) pe_int)) pe_int) pa_nil)) pe_int) (pg_sub (pv 0) pe_int set_list))
      (pss_cons (ps_asg (pe_op op_add (pe_ix ix_list (pv 0) pe_int (fun _ _ => rfl)) pe_int) (pg_sub (pv 0) pe_int set_list))
      (pss_one (ps_ret (pe_op op_mod (pe_callTy call_intA (by rfl) B.int boot_int (pa_cons (pe_op op_add (pe_op op_fdiv (pe_ix ix_list (pv 0) pe_int (fun _ _ => rfl)) pe_int) (pe_ix ix_list (pv 0) pe_int (fun _ _ => rfl))) pa_nil)) (pv 1))))))), ?_⟩
    have md : ∀ x : Int, ∃ r : Nat, x % (many : Int) = (r : Nat) ∧ r < many := fun x => by
      have h1 := Int.emod_nonneg x (b := (many : Int)) (by omega)
      have h2 := Int.emod_lt_of_pos x (b := (many : Int)) (by omega)
      exact ⟨(x % (many : Int)).toNat, by omega, by omega⟩
    have mp : (0 : Int) < (many : Int) := by omega
    have mb : (many : Int) < 1073741824 := by omega
    have frl : ∀ {H' : Hp} {o : HO} {xs : List V}, Fr T [l] H H' → H' l = some (.lst xs) → Fr T [l] H (upd H' l o) := fun fr h => fr.andSet (List.mem_singleton.mpr rfl) h (.lst _)
    refine ⟨_, rfl, l, _, _, _, rfl, rfl, SqL.of hl, at_of (j := 2) rfl rfl, rfl, ?_⟩
    by_cases e1 : c = 2
    · refine ⟨true, congrArg V.bl (by rw [dec_int]; simp [e1]), ?_⟩
      refine ⟨_, rfl, l, _, _, _, rfl, rfl, SqL.of hl, at_of (j := 0) rfl rfl, .inl ⟨_, rfl, _, rfl, _, _, rfl, rfl, mp, ?_⟩⟩
      refine ⟨_, rfl, l, _, _, _, rfl, rfl, SqL.of hl, at_of (j := 0) rfl rfl, _, rfl, _, _, rfl, rfl, ⟨mp, mb⟩, _, rfl, l, _, _, 0, rfl, rfl, hl, rfl, ?_⟩
      obtain ⟨r, er, hr'⟩ := md a
      refine ⟨_, rfl, ?_⟩
      show Q (.int (a % (many : Int))) _
      rw [er]
      exact k r _ hr' (frl (Fr.refl _ _ _) hl) ⟨_, _, _, upd_same⟩
    · refine ⟨false, congrArg V.bl (by rw [dec_int]; simp [e1]), _, rfl, l, _, _, _, rfl, rfl, SqL.of hl, at_of (j := 2) rfl rfl, rfl, ?_⟩
      by_cases e2 : c = 1
      · refine ⟨true, congrArg V.bl (by rw [dec_int]; simp [e2]), _, rfl, l, _, _, _, rfl, rfl, SqL.of hl, at_of (j := 0) rfl rfl, _, _, rfl, rfl, ?_⟩
        by_cases e3 : 0 < a
        · refine ⟨true, congrArg V.bl (decide_eq_true e3), ?_⟩
          refine ⟨_, rfl, l, _, _, _, rfl, rfl, SqL.of hl, at_of (j := 0) rfl rfl, .inl ⟨_, rfl, _, rfl, _, _, rfl, rfl, mp, ?_⟩⟩
          refine ⟨_, rfl, l, _, _, _, rfl, rfl, SqL.of hl, at_of (j := 0) rfl rfl, _, rfl, _, _, rfl, rfl, ⟨mp, mb⟩, _, rfl, l, _, _, 0, rfl, rfl, hl, rfl, ?_⟩
          obtain ⟨r, er, hr'⟩ := md a
          refine ⟨_, rfl, ?_⟩
          show Q (.int (a % (many : Int))) _
          rw [er]
          exact k r _ hr' (frl (Fr.refl _ _ _) hl) ⟨_, _, _, upd_same⟩
        · refine ⟨false, congrArg V.bl (decide_eq_false e3), ?_⟩
          refine ⟨_, rfl, l, _, _, 2, rfl, rfl, hl, rfl, ?_⟩
          have f1 : Fr T [l] H (upd H l (.lst [.int a, .int b, .int 0])) := frl (Fr.refl _ _ _) hl
          have g1 : upd H l (.lst [.int a, .int b, .int 0]) l = some (.lst [.int a, .int b, .int 0]) := upd_same
          show tSeq _ _ _ _ (upd H l (.lst [.int a, .int b, .int 0]))
          generalize upd H l (.lst [.int a, .int b, .int 0]) = H1 at f1 g1 ⊢
          refine ⟨_, rfl, l, _, _, _, rfl, rfl, SqL.of g1, at_of (j := 0) rfl rfl, _, _, rfl, rfl, .inr ⟨by decide, by decide⟩, _, rfl, l, _, _, _, rfl, rfl, SqL.of g1, at_of (j := 1) rfl rfl, _, _, rfl, rfl, .inr ⟨by decide, by decide⟩, _, _, rfl, rfl, _, _, rfl, rfl, .inl ⟨_, rfl, _, _, rfl, rfl, (by show (0 : Int) < 2147483647; decide), _, rfl, l, _, _, 0, rfl, rfl, g1, rfl, ?_⟩⟩
          show tSeq _ _ _ _ (upd H1 l (.lst [.int ((a * 48271 + b * 69621 + 11) % 2147483647), .int b, .int 0]))
          generalize (a * 48271 + b * 69621 + 11) % 2147483647 = v
          have f2 : Fr T [l] H (upd H1 l (.lst [.int v, .int b, .int 0])) := frl f1 g1
          have g2 : upd H1 l (.lst [.int v, .int b, .int 0]) l = some (.lst [.int v, .int b, .int 0]) := upd_same
          generalize upd H1 l (.lst [.int v, .int b, .int 0]) = H2 at f2 g2 ⊢
          refine ⟨_, rfl, l, _, _, _, rfl, rfl, SqL.of g2, at_of (j := 1) rfl rfl, _, _, rfl, rfl, _, rfl, l, _, _, 1, rfl, rfl, g2, rfl, ?_⟩
          have f3 : Fr T [l] H (upd H2 l (.lst [.int v, .int (b + 1), .int 0])) := frl f2 g2
          have g3 : upd H2 l (.lst [.int v, .int (b + 1), .int 0]) l = some (.lst [.int v, .int (b + 1), .int 0]) := upd_same
          refine ⟨_, rfl, l, _, _, _, rfl, rfl, SqL.of g3, at_of (j := 0) rfl rfl, _, _, rfl, rfl, ⟨by decide, by decide⟩, _, rfl, l, _, _, _, rfl, rfl, SqL.of g3, at_of (j := 0) rfl rfl, _, _, rfl, rfl, .inl ⟨_, rfl, _, rfl, _, _, rfl, rfl, mp, ?_⟩⟩
          obtain ⟨r, er, hr'⟩ := md (v / 7 + v)
          show Q (.int ((v / 7 + v) % (many : Int))) _
          rw [er]
          exact k r _ hr' f3 ⟨_, _, _, g3⟩
      · refine ⟨false, congrArg V.bl (by rw [dec_int]; simp [e2]), ?_⟩
        refine ⟨_, rfl, l, _, _, 2, rfl, rfl, hl, rfl, ?_⟩
        have f1 : Fr T [l] H (upd H l (.lst [.int a, .int b, .int 0])) := frl (Fr.refl _ _ _) hl
        have g1 : upd H l (.lst [.int a, .int b, .int 0]) l = some (.lst [.int a, .int b, .int 0]) := upd_same
        show tSeq _ _ _ _ (upd H l (.lst [.int a, .int b, .int 0]))
        generalize upd H l (.lst [.int a, .int b, .int 0]) = H1 at f1 g1 ⊢
        refine ⟨_, rfl, l, _, _, _, rfl, rfl, SqL.of g1, at_of (j := 0) rfl rfl, _, _, rfl, rfl, .inr ⟨by decide, by decide⟩, _, rfl, l, _, _, _, rfl, rfl, SqL.of g1, at_of (j := 1) rfl rfl, _, _, rfl, rfl, .inr ⟨by decide, by decide⟩, _, _, rfl, rfl, _, _, rfl, rfl, .inl ⟨_, rfl, _, _, rfl, rfl, (by show (0 : Int) < 2147483647; decide), _, rfl, l, _, _, 0, rfl, rfl, g1, rfl, ?_⟩⟩
        show tSeq _ _ _ _ (upd H1 l (.lst [.int ((a * 48271 + b * 69621 + 11) % 2147483647), .int b, .int 0]))
        generalize (a * 48271 + b * 69621 + 11) % 2147483647 = v
        have f2 : Fr T [l] H (upd H1 l (.lst [.int v, .int b, .int 0])) := frl f1 g1
        have g2 : upd H1 l (.lst [.int v, .int b, .int 0]) l = some (.lst [.int v, .int b, .int 0]) := upd_same
        generalize upd H1 l (.lst [.int v, .int b, .int 0]) = H2 at f2 g2 ⊢
        refine ⟨_, rfl, l, _, _, _, rfl, rfl, SqL.of g2, at_of (j := 1) rfl rfl, _, _, rfl, rfl, _, rfl, l, _, _, 1, rfl, rfl, g2, rfl, ?_⟩
        have f3 : Fr T [l] H (upd H2 l (.lst [.int v, .int (b + 1), .int 0])) := frl f2 g2
        have g3 : upd H2 l (.lst [.int v, .int (b + 1), .int 0]) l = some (.lst [.int v, .int (b + 1), .int 0]) := upd_same
        refine ⟨_, rfl, l, _, _, _, rfl, rfl, SqL.of g3, at_of (j := 0) rfl rfl, _, _, rfl, rfl, ⟨by decide, by decide⟩, _, rfl, l, _, _, _, rfl, rfl, SqL.of g3, at_of (j := 0) rfl rfl, _, _, rfl, rfl, .inl ⟨_, rfl, _, rfl, _, _, rfl, rfl, mp, ?_⟩⟩
        obtain ⟨r, er, hr'⟩ := md (v / 7 + v)
        show Q (.int ((v / 7 + v) % (many : Int))) _
        rw [er]
        exact k r _ hr' f3 ⟨_, _, _, g3⟩
end
end KX
set_option Elab.async false
set_option linter.all false
set_option maxRecDepth 100000
set_option maxHeartbeats 4000000
/-! KX 23: the rounds. -/
namespace KX
open PySem PySem.Spec PyProof.Rows L2 GX
def spRounds (T : Tb) (K : PySem.W.Frag) : Sp := fun vs H Q _ => ∃ (s : Addr) (ns : List Int), vs = [.ref s, .int 1] ∧ SqL K H s (ns.map V.int) ∧ ns.length ≤ 1000 ∧
  ∀ (l d : Addr) H', Fr T [] H H' → H' l = some (.lst [.ref d]) → Dice H' d → H d = none → Q (.ref l) H'
abbrev sRounds : Stmt := top 30
abbrev nRounds : List Str := ["script", "most", "cells", "cell"]
theorem scRounds : FnScope nRounds ["script", "most"] (defScope sRounds) := ⟨rfl, rfl, rfl, by decide +kernel, rfl, by decide +kernel, by decide +kernel⟩
section
variable {P : Program} {w : World} {K : PySem.W.Frag} {mg : Str → Option Value} {base : Heap} {T : Tb}
theorem ok_rounds {f fD : Addr} {fd fdD : FuncData} (F : Fun K "_law_rounds" "_law_rounds" sRounds f fd) (B : Bl mg) (GD : FnOk P w K mg base CX0 1 fD fdD ["cell"] spDice) (mD : mg "_law_dice" = some (.ref fD)) (kD : PySem.W.keepIn K (.ref fD) = true) (bD : Binds K fdD ["cell"] []) :
    FnOk P w K mg base CX0 2 f fd ["script", "most"] (spRounds T K) := by
  have nd := scRounds.nd
  refine F.ok scRounds (fun vs H Q E h => ?_) (fun cdv A outer s0 H vs Q E hr h => ?_)
  · obtain ⟨s, ns, rfl, _⟩ := h
    rfl
  · obtain ⟨s, ns, rfl, hs, hn, k⟩ := h
    refine ⟨_, pss_cons (ps_set (i := 2) nd rfl (Or.inl rfl) (pe_slice sl_list (pv 0) po_none (po_some (pv 1))))
      (C8.pss_cut (ps_if (pt_cmpR (op_eqD hr.units) (pv 2) (pe_lst pa_nil) rfl) (pss_one (ps_set (i := 2) nd rfl (Or.inl rfl) (pe_lst (pa_cons pe_int pa_nil)))) pss_nil)
      (pss_one (ps_ret (pe_lc (own := [("cell", 3)]) (g := gName 3) (tt := tYes) (te := tCall spDice [] E0 (tCons (tVar 3) tNil)) rfl nd (pi_list (pv 2)) (blkOk_by (N := nRounds) (sc := defScope sRounds) (by decide +kernel)) (fun _ _ _ _ _ => pg_name (i := 3) nd rfl (Or.inl rfl)) (fun _ _ _ _ _ => pts_nil)
        (fun _ _ _ _ _ => pe_call GD hr rfl mD kD bD .nil pass0 (pa_cons (pv 3) pa_nil)))))), ?_⟩
    refine ⟨_, rfl, _, rfl, _, rfl, s, _, rfl, hs, fun d hd => ?_⟩
    refine ⟨fun σ1 H1 => ∃ d i, σ1 = [some (.ref s), some (.int 1), some (.ref d), none] ∧ Fr T [] H H1 ∧ H1 d = some (.lst [.int i]), ?_, ?_⟩
    · cases ns with
      | nil =>
        refine ⟨_, rfl, (by show 0 ≤ sizeLine; decide), fun e he => ?_⟩
        have nde : d ≠ e := ne_of_none upd_same he
        refine ⟨.list [], .list [], .lst (SqL.of (by rw [upd_ne nde, upd_same]; rfl)) .nil, .lst (SqL.of upd_same) .nil, rfl, rfl, true, rfl, ?_⟩
        refine ⟨(by show 1 ≤ sizeLine; decide), fun l hl => ⟨l, 0, rfl, ((Fr.new hd).andNew he).andNew hl, upd_same⟩⟩
      | cons i r =>
        have ec : cutV (((i :: r).map V.int)) none (some 1) = [V.int i] := by
          have e1 : HT.sIx (((i :: r).map V.int)).length (((i :: r).map V.int)).length (some 1) = 1 := by
            show (if (1 : Int) < 0 then ((1 : Int) + ((((i :: r).map V.int)).length : Nat)).toNat else min 1 (((i :: r).map V.int)).length) = 1
            rw [if_neg (by omega), List.length_map, List.length_cons]
            omega
          unfold cutV
          rw [e1]
          rfl
        rw [ec]
        refine ⟨_, rfl, (by show 0 ≤ sizeLine; decide), fun e he => ?_⟩
        have nde : d ≠ e := ne_of_none upd_same he
        refine ⟨.list [.int i], .list [], .lst (SqL.of (by rw [upd_ne nde, upd_same])) (.cons (.int i) .nil), .lst (SqL.of upd_same) .nil, rfl, rfl, false, rfl, d, i, rfl, (Fr.new hd).andNew he, by rw [upd_ne nde, upd_same]⟩
    rintro σ1 H1 ⟨d, i, rfl, fr1, hd1⟩
    refine ⟨_, rfl, d, rfl, ⟨_, SqL.of hd1⟩, fun D hD => ?_⟩
    refine lc_sq (sq_list (a := d) (xs := [V.int i])) (fun n H' => Fr T [] H1 H' ∧ ((n = 0 ∧ H' D = some (.lst [])) ∨ (n = 1 ∧ ∃ e, H' D = some (.lst [.ref e]) ∧ Dice H' e ∧ H1 e = none))) ⟨Fr.new hD, .inl ⟨rfl, upd_same⟩⟩ (fun n H' _ p => SqL.of (p.1.lst hd1)) ?_ ?_
    · rintro n x H2 H2' hn2 ⟨fr2, hc⟩ ⟨hx, rfl⟩
      rcases hc with ⟨rfl, hD2⟩ | ⟨rfl, _⟩
      · have ex : x = V.int i := (Option.some.inj hx).symm
        subst ex
        refine ⟨rfl, _, rfl, i, rfl, fun l a b c hl => ?_⟩
        have nDl : D ≠ l := ne_of_none hD2 hl
        refine ⟨_, by rw [upd_ne nDl]; exact hD2, by show 0 < sizeLine; decide, Fr.own (fr2.andNew hl) hD (by rw [upd_ne nDl]; exact hD2) (.lst _), .inr ⟨rfl, l, upd_same, ⟨a, b, c, by rw [upd_ne nDl.symm, upd_same]⟩, fr2.dom _ hl⟩⟩
      · exact absurd hn2 (by show ¬ (1 < 1); omega)
    · rintro H2 ⟨fr2, hc⟩
      rcases hc with ⟨e, _⟩ | ⟨_, e, h1, h2, h3⟩
      · exact absurd e (by show ¬ (1 = 0); omega)
      · exact k D e H2 (fr1.trans fr2) h1 h2 (fr1.dom _ h3)
end
end KX
set_option Elab.async false
set_option linter.all false
set_option maxRecDepth 100000
set_option maxHeartbeats 4000000
/-! KX 24: each once. -/
namespace KX
open PySem PySem.Spec PyProof.Rows L2 GX
def rDictP (K : PySem.W.Frag) : List V → Hp → VK → Prop := fun xs H Q => ∃ (a : Addr) (ps : List Addr) (kvs : List (Key × V)), xs = [.ref a] ∧ SqL K H a (ps.map V.ref) ∧ Paired (fun p kv => SqT K H p [kV kv.1, kv.2]) ps kvs ∧ ∀ p, H p = none → Q (.ref p) (upd H p (.dK (mergeK [] kvs)))
theorem call_dictA {X : Cx} (h : X.calm = true) : CallR X (.type "dict") (rDictP X.K) := call_dictP h
def rLenD : List V → Hp → VK → Prop := fun xs H Q => ∃ a kvs, xs = [V.ref a] ∧ H a = some (.dK kvs) ∧ Q (.int kvs.length) H
theorem call_lenA {X : Cx} : CallR X (.builtin "len") rLenD := call_lenD
theorem merge_nd : ∀ (more acc : List (Key × V)), (∀ kv ∈ more, valV acc kv.1 = none) → (more.map (·.1)).Nodup → mergeK acc more = acc ++ more
  | [], acc, _, _ => by simp [mergeK]
  | kv :: r, acc, h, nd => by
    have h0 := h kv List.mem_cons_self
    have e1 : mergeK acc (kv :: r) = mergeK (putK acc kv.1 kv.2) r := rfl
    rw [e1, putK_new kv.2 h0]
    rw [List.map_cons, List.nodup_cons] at nd
    rw [merge_nd r _ (fun x hx => ?_) nd.2, List.append_assoc]
    · rfl
    · have n1 : kv.1 ≠ x.1 := fun e => nd.1 (by rw [e]; exact List.mem_map.mpr ⟨x, hx, rfl⟩)
      have h1 := h x (List.mem_cons_of_mem _ hx)
      have a1 := valV_any (kvs := acc) (k := x.1)
      have a2 := valV_any (kvs := acc ++ [(kv.1, kv.2)]) (k := x.1)
      rw [h1] at a1
      rw [List.any_append, a1] at a2
      have a3 : ([(kv.1, kv.2)].any fun z => decide (z.1 = x.1)) = false := by simp [n1]
      rw [a3] at a2
      cases e : valV (acc ++ [(kv.1, kv.2)]) x.1 with
      | none => rfl
      | some v => rw [e] at a2; cases a2
theorem paired_of {α β : Type} {R : α → β → Prop} : ∀ (xs : List α) (ys : List β), xs.length = ys.length → (∀ (n : Nat) x y, xs[n]? = some x → ys[n]? = some y → R x y) → Paired R xs ys
  | [], [], _, _ => .nil
  | x :: xs, y :: ys, hl, h => .cons (h 0 x y rfl rfl) (paired_of xs ys (by simpa using hl) fun n a b e1 e2 => h (n + 1) a b (by simpa using e1) (by simpa using e2))
  | [], _ :: _, hl, _ => by cases hl
  | _ :: _, [], hl, _ => by cases hl
def spOnce (T : Tb) : Sp := fun vs H Q _ => ∃ (ra : Addr) (L : List Nat), vs = [.ref ra] ∧ H ra = some (.lst (natV L)) ∧ L.length ≤ 1000 ∧ L.Nodup ∧ ∀ H', Fr T [] H H' → Q (.bl true) H'
abbrev sOnce : Stmt := top 34
abbrev nOnce : List Str := ["row", "one"]
theorem scOnce : FnScope nOnce ["row"] (defScope sOnce) := ⟨rfl, rfl, rfl, by decide +kernel, rfl, by decide +kernel, by decide +kernel⟩
section
variable {P : Program} {w : World} {K : PySem.W.Frag} {mg : Str → Option Value} {base : Heap} {T : Tb}
theorem ok_once {f : Addr} {fd : FuncData} (F : Fun K "_law_once" "_law_once" sOnce f fd) (B : Bl mg) : FnOk P w K mg base CX0 1 f fd ["row"] (spOnce T) := by
  have nd := scOnce.nd
  refine F.ok scOnce (fun vs H Q E h => ?_) (fun cdv A outer s0 H vs Q E hr h => ?_)
  · obtain ⟨ra, L, rfl, _⟩ := h
    rfl
  · obtain ⟨ra, L, rfl, hra, hL, hnd, k⟩ := h
    have cd : ∀ {X : Cx}, X.calm = true → CallR X (.type "dict") (rDictP X.K) := fun h => call_dictA h
    refine ⟨_, pss_one (ps_ret (pe_cmpR op_eq (pe_callB call_lenA (by rfl) B.len boot_len (pa_cons (pe_callTy (cd rfl) (by rfl) B.dict boot_dict (pa_cons (pe_lc (own := [("one", 1)]) (g := gName 1) (tt := tYes) (te := tTup (tCons (tVar 1) (tCons (tC (.int 1)) tNil))) rfl nd (pi_list (pv 0)) (blkOk_by (N := nOnce) (sc := defScope sOnce) (by decide +kernel)) (fun _ _ _ _ _ => pg_name (i := 1) nd rfl (Or.inl rfl)) (fun _ _ _ _ _ => pts_nil)
        (fun _ _ _ _ _ => pe_tup (pa_cons (pv 1) (pa_cons pe_int pa_nil)))) pa_nil)) pa_nil)) (pe_callB call_lenS (by rfl) B.len boot_len (pa_cons (pv 0) pa_nil)) rfl)), ?_⟩
    refine ⟨_, rfl, ra, rfl, ⟨_, SqL.of hra⟩, fun D hD => ?_⟩
    refine lc_sq (sq_list (a := ra) (xs := natV L)) (fun n H' => ∃ ps : List Addr, Fr T [] H H' ∧ H' D = some (.lst (ps.map V.ref)) ∧ ps.length = n ∧ ∀ (t : Nat) b, ps[t]? = some b → ∃ x, L[t]? = some x ∧ H' b = some (.tup [.int (x : Nat), .int 1])) ⟨[], Fr.new hD, upd_same, rfl, fun t b h => by cases h⟩ (fun n H' _ p => (let ⟨_, fr, _⟩ := p; SqL.of (fr.lst hra))) ?_ ?_
    · rintro n x H2 H2' hn ⟨ps, fr2, hD2, hl, hps⟩ ⟨hx, rfl⟩
      have hnL : n < L.length := by rw [natV, List.length_map] at hn; exact hn
      have ex : x = V.int (L[n] : Nat) := by
        rw [natV, List.getElem?_map, List.getElem?_eq_getElem hnL] at hx
        exact (Option.some.inj hx).symm
      subst ex
      refine ⟨rfl, _, rfl, (by show 2 ≤ sizeLine; decide), fun t ht => ?_⟩
      have nD : D ≠ t := ne_of_none hD2 ht
      refine ⟨_, by rw [upd_ne nD]; exact hD2, by rw [List.length_map, hl]; exact small1000 (by omega), ps ++ [t], Fr.own (fr2.andNew ht) hD (by rw [upd_ne nD]; exact hD2) (.lst _), by rw [upd_same, List.map_append]; rfl, by simp [hl], fun u b hb => ?_⟩
      rcases Nat.lt_or_ge u ps.length with hu | hu
      · rw [List.getElem?_append_left hu] at hb
        obtain ⟨x, e1, e2⟩ := hps u b hb
        exact ⟨x, e1, by rw [upd_ne (fun e => by rw [e, hD2] at e2; cases e2), upd_ne (ne_of_none e2 ht)]; exact e2⟩
      · have e0 : u = ps.length := by
          have := (List.getElem?_eq_some_iff.mp hb).1
          simp at this
          omega
        rw [e0, List.getElem?_append_right (Nat.le_refl _), Nat.sub_self] at hb
        have eb : t = b := Option.some.inj hb
        subst eb
        exact ⟨L[n], by rw [e0, hl]; exact List.getElem?_eq_getElem hnL, by rw [upd_ne nD.symm, upd_same]⟩
    · rintro H2 ⟨ps, fr2, hD2, hl, hps⟩
      have hl' : ps.length = L.length := by rw [hl, natV, List.length_map]
      refine ⟨D, ps, L.map fun (x : Nat) => ((Sum.inl (x : Int) : Key), V.int 1), rfl, SqL.of hD2, ?_, fun d hd => ?_⟩
      · refine paired_of _ _ (by rw [List.length_map]; exact hl') fun n b kv e1 e2 => ?_
        obtain ⟨x, e3, e4⟩ := hps n b e1
        rw [List.getElem?_map, e3] at e2
        have e5 : ((Sum.inl (x : Int) : Key), V.int 1) = kv := Option.some.inj e2
        rw [← e5]
        exact SqT.of e4
      · refine ⟨d, _, rfl, upd_same, _, rfl, ra, _, rfl, .inl (SqL.of ((fr2.andNew hd).lst hra)), rfl, ?_⟩
        have em : mergeK [] (L.map fun (x : Nat) => ((Sum.inl (x : Int) : Key), V.int 1)) = L.map fun (x : Nat) => ((Sum.inl (x : Int) : Key), V.int 1) := by
          rw [merge_nd _ _ (fun kv _ => rfl) ?_]
          · rfl
          · rw [List.map_map]
            unfold List.Nodup
            rw [List.pairwise_map]
            exact hnd.imp fun {a b} n e => n (by
              have e' : (Sum.inl (a : Int) : Key) = Sum.inl (b : Int) := e
              injection e' with e'
              omega)
        show Q (.bl (decide (V.int (mergeK [] (L.map fun (x : Nat) => ((Sum.inl (x : Int) : Key), V.int 1))).length = V.int (natV L).length))) _
        have el : decide (V.int ((mergeK [] (L.map fun (x : Nat) => ((Sum.inl (x : Int) : Key), V.int 1))).length : Nat) = V.int ((natV L).length : Nat)) = true := by
          rw [em, natV, List.length_map, List.length_map]
          exact decide_eq_true rfl
        rw [el]
        exact k _ (fr2.andNew hd)
end
end KX
set_option Elab.async false
set_option linter.all false
set_option maxRecDepth 100000
set_option maxHeartbeats 4000000
/-! KX 25: what comes in a slot. -/
namespace KX
open PySem PySem.Spec PyProof.Rows L2 GX
def intV (n : Nat) (lv : Nat → Int) : List V := (List.range n).map fun k => V.int (lv k)
theorem intV_len (n : Nat) (lv : Nat → Int) : (intV n lv).length = n := by simp [intV]
theorem intV_at {n k : Nat} {lv : Nat → Int} (h : k < n) : (intV n lv)[k]? = some (.int (lv k)) := by simp [intV, h]
def StrsAt (H : Hp) (sa : Addr) (L : List St4) : Prop := ∃ bs : List Addr, H sa = some (.lst (bs.map V.ref)) ∧ bs.length = L.length ∧ ∀ (k : Nat) b y, bs[k]? = some b → L[k]? = some y → H b = some (.tup [.int y.one, .int y.gate, .int y.burst, .int y.rate])
def lvl (y : St4) (sl : Nat) (lv : Int) (n : Nat) : Int := (if lv < 0 then 0 else lv) + (n * sl : Nat) - y.rate
def keeps (y : St4) (sl : Nat) (lv : Int) (n : Nat) : Bool := decide (lvl y sl lv n ≤ (y.burst * sl : Nat))
def lvAfter (y : St4) (sl : Nat) (lv : Int) (n : Nat) : Int := if keeps y sl lv n = true then lvl y sl lv n else (if lv < 0 then 0 else lv) - y.rate
def yAt (L : List St4) (k : Nat) : St4 := L.getD k ⟨0, 0, 0, 0⟩
def spCame (T : Tb) : Sp := fun vs H Q _ => ∃ (d sa la : Addr) (L : List St4) (sl : Nat) (lv : Nat → Int) (busy : Bool), vs = [.ref d, .ref sa, .int sl, .ref la, .bl busy] ∧ Dice H d ∧ StrsAt H sa L ∧ H la = some (.lst (intV L.length lv)) ∧ d ≠ la ∧ sa ≠ la ∧ sa ≠ d ∧ sl ≤ 40 ∧ L.length ≤ 40 ∧
  (∀ (k : Nat) y, L[k]? = some y → y.burst ≤ 100 ∧ y.rate ≤ 100) ∧
  ∀ (t ca ka : Addr) (counts : List Nat) H', Fr T [d, la] H H' → H' t = some (.tup [.ref ca, .ref ka]) → counts.length = L.length → (∀ k, cnt counts k ≤ 101) → (busy = false → ∀ k, cnt counts k = 0) → H ca = none → H ka = none → ca ≠ ka → H' ca = some (.lst (natV counts)) →
    H' ka = some (.lst (rowV L.length fun k => if keeps (yAt L k) sl (lv k) (cnt counts k) = true then cnt counts k else 0)) → H' la = some (.lst (intV L.length fun k => lvAfter (yAt L k) sl (lv k) (cnt counts k))) → Dice H' d → Q (.ref t) H'
abbrev sCame : Stmt := top 33
abbrev nCame : List Str := ["dice", "streams", "slots", "levels", "busy", "counts", "kept", "number", "one", "gate", "burst", "rate", "count", "level"]
theorem scCame : FnScope nCame ["dice", "streams", "slots", "levels", "busy"] (defScope sCame) := ⟨rfl, rfl, rfl, by decide +kernel, rfl, by decide +kernel, by decide +kernel⟩
section
variable {P : Program} {w : World} {K : PySem.W.Frag} {mg : Str → Option Value} {base : Heap} {T : Tb}
theorem ok_came {f fR : Addr} {fd fdR : FuncData} (F : Fun K "_law_came" "_law_came" sCame f fd) (B : Bl mg) (GR : FnOk P w K mg base CX0 1 fR fdR ["dice", "many"] (spRoll T)) (mR : mg "_law_roll" = some (.ref fR)) (kR : PySem.W.keepIn K (.ref fR) = true) (bR : Binds K fdR ["dice", "many"] []) :
    FnOk P w K mg base CX0 2 f fd ["dice", "streams", "slots", "levels", "busy"] (spCame T) := by
  have nd := scCame.nd
  refine F.ok scCame (fun vs H Q E h => ?_) (fun cdv A outer s0 H vs Q E hr h => ?_)
  · obtain ⟨d, sa, la, L, sl, lv, busy, rfl, _⟩ := h
    rfl
  · obtain ⟨d, sa, la, L, sl, lv, busy, rfl, hd, hs, hla, ndl, nsl, nsd, hsl, hL, hy, k⟩ := h
    have cm : ∀ {X : Cx}, X.calm = true → CallR X (.builtin "max") rMax2 := fun hc => call_max2 hc
    have app : ∀ {X : Cx}, MtM X "list.append" rAppend := fun {X} => mt_append
    refine ⟨_, pss_cons (ps_par (i := 5) (j := 6) rfl nd rfl rfl (by decide) rfl rfl (pa_cons (pe_lst pa_nil) (pa_cons (pe_lst pa_nil) pa_nil)) rfl)
      (C8.pss_cut (ps_for PassesOwn.never rfl (pi_enum rfl B.enumerate (pa_cons (pv 1) pa_nil)) (pg_tup rfl (pgs_cons (pg_name (i := 7) nd rfl (Or.inl rfl)) (pgs_cons (pg_tup rfl (pgs_cons (pg_name (i := 8) nd rfl (Or.inl rfl)) (pgs_cons (pg_name (i := 9) nd rfl (Or.inl rfl)) (pgs_cons (pg_name (i := 10) nd rfl (Or.inl rfl)) (pgs_cons (pg_name (i := 11) nd rfl (Or.inl rfl)) pgs_nil))))) pgs_nil)))
        (C8.pss_cut (ps_set (i := 12) nd rfl (Or.inl rfl) (pe_ifExp (pt_and (pt_val (pv 4)) (pt_cmpR op_eq (pe_call GR hr rfl mR kR bR .nil pass0 (pa_cons (pv 0) (pa_cons pe_int pa_nil))) pe_int rfl))
            (pe_ix ix_list (pe_lst (pa_cons pe_int (pa_cons pe_int (pa_cons pe_int (pa_cons pe_int (pa_cons (pv 10) (pa_cons (pe_op op_add (pv 10) pe_int) (pa_cons (pv 11) pa_nil)))))))) (pe_call GR hr rfl mR kR bR .nil pass0 (pa_cons (pv 0) (pa_cons pe_int pa_nil))) (fun _ _ => rfl)) pe_int))
        (C8.pss_cut (ps_set (i := 13) nd rfl (Or.inl rfl) (pe_op op_sub (pe_op op_add (pe_callB (cm rfl) (by rfl) B.max boot_max (pa_cons pe_int (pa_cons (pe_ix ix_list (pv 3) (pv 7) (fun _ _ => rfl)) pa_nil))) (pe_op op_mul (pv 12) (pv 2))) (pv 11)))
        (pss_cons (ps_expr (pe_bm PySem.F.plainAttrs_list PySem.F.slot_list_append PySem.F.type_list_append mt_append (pv 5) (pa_cons (pv 12) pa_nil)))
        (pss_cons (ps_expr (pe_bm PySem.F.plainAttrs_list PySem.F.slot_list_append PySem.F.type_list_append mt_append (pv 6) (pa_cons (pe_ifExp (pt_cmpR op_le (pv 13) (pe_op op_mul (pv 10) (pv 2)) rfl) (pv 12) pe_int) pa_nil)))
        (pss_one (ps_asg (pe_ifExp (pt_cmpR op_le (pv 13) (pe_op op_mul (pv 10) (pv 2)) rfl) (pv 13) (pe_op op_sub (pe_callB (cm rfl) (by rfl) B.max boot_max (pa_cons pe_int (pa_cons (pe_ix ix_list (pv 3) (pv 7) (fun _ _ => rfl)) pa_nil))) (pv 11))) (pg_sub (pv 3) (pv 7) set_list))))))))
      (pss_one (ps_ret (pe_tup (pa_cons (pv 5) (pa_cons (pv 6) pa_nil)))))), ?_⟩
    obtain ⟨bs, hsa, hbl, hbt⟩ := hs
    have hbL : (bs.map V.ref).length = L.length := by rw [List.length_map]; exact hbl
    have pick : ∀ (bu ra r : Nat), bu ≤ 100 → ra ≤ 100 → r < 7 → ∃ n : Nat, [V.int 0, V.int 0, V.int 1, V.int 2, V.int (bu : Nat), V.int ((bu : Nat) + 1 : Int), V.int (ra : Nat)][r]? = some (.int (n : Nat)) ∧ n ≤ 101 := by
      intro bu ra r h1 h2 h3
      match r, h3 with
      | 0, _ => exact ⟨0, rfl, by omega⟩
      | 1, _ => exact ⟨0, rfl, by omega⟩
      | 2, _ => exact ⟨1, rfl, by omega⟩
      | 3, _ => exact ⟨2, rfl, by omega⟩
      | 4, _ => exact ⟨bu, rfl, by omega⟩
      | 5, _ => exact ⟨bu + 1, rfl, by omega⟩
      | 6, _ => exact ⟨ra, rfl, by omega⟩
      | n + 7, h => omega
    refine ⟨(by show 0 ≤ sizeLine; decide), fun ca hca => ⟨(by show 0 ≤ sizeLine; decide), fun ka hka => ?_⟩⟩
    have nck : ca ≠ ka := ne_of_none upd_same hka
    have fr0 : Fr T [] H (upd (upd H ca (.lst [])) ka (.lst [])) := (Fr.new hca).andNew hka
    have hka0 : H ka = none := (Fr.new (T := T) (M := []) hca).dom _ hka
    let St : Nat → Hp → Prop := fun i H' => ∃ counts : List Nat, counts.length = i ∧ (∀ k, cnt counts k ≤ 101) ∧ (busy = false → ∀ k, cnt counts k = 0) ∧ Fr T [d, la] H H' ∧ Dice H' d ∧ H' ca = some (.lst (natV counts)) ∧
      H' ka = some (.lst (rowV i fun k => if keeps (yAt L k) sl (lv k) (cnt counts k) = true then cnt counts k else 0)) ∧ H' la = some (.lst (intV L.length fun k => if k < i then lvAfter (yAt L k) sl (lv k) (cnt counts k) else lv k))
    refine ⟨_, _, rfl, ?_⟩
    refine ⟨fun σ H' => σ[5]? = some (some (.ref ca)) ∧ σ[6]? = some (some (.ref ka)) ∧ σ.length = 14 ∧ St L.length H', ?_, ?_⟩
    · refine ⟨_, rfl, sa, _, rfl, SqL.of (fr0.lst hsa), ?_⟩
      refine for_sq (sq_enum (a := sa) (xs := bs.map V.ref)) (fun i σ H' => ∃ x1 x2 x3 x4 x5 x6 x7, σ = [some (.ref d), some (.ref sa), some (.int sl), some (.ref la), some (.bl busy), some (.ref ca), some (.ref ka), x1, x2, x3, x4, x5, x6, x7] ∧ St i H') ?_ ?_ ?_ ?_
      · refine ⟨none, none, none, none, none, none, none, rfl, [], rfl, fun k => ?_, fun _ k => ?_, fr0.up, ?_, ?_, ?_, ?_⟩
        · show cnt [] k ≤ 101
          simp [cnt]
        · simp [cnt]
        · obtain ⟨a, b, c, h⟩ := hd
          exact ⟨a, b, c, fr0.lst h⟩
        · rw [upd_ne nck, upd_same]
          rfl
        · rw [upd_same]
          rfl
        · rw [fr0.lst hla]
          simp
      · rintro i σ H' _ ⟨x1, x2, x3, x4, x5, x6, x7, rfl, counts, _, _, _, fr, _⟩
        exact SqL.of (fr.lstN hsa (by simp [nsl, nsd]))
      · rintro i x σ H1 H1' hi ⟨x1, x2, x3, x4, x5, x6, x7, rfl, counts, hcl, hc1, hc2, fr1, hd1, hca1, hka1, hla1⟩ ⟨t, y0, rfl, ht, rfl, hy0⟩
        obtain ⟨b, hb, rfl⟩ := getRef hy0
        have hiL : i < L.length := by rw [← hbL]; exact hi
        have hy1 : L[i]? = some (yAt L i) := by
          unfold yAt
          rw [List.getD_eq_getElem?_getD, List.getElem?_eq_getElem hiL]
          rfl
        obtain ⟨yb, yr⟩ := hy i _ hy1
        generalize hye : yAt L i = y at hy1 yb yr
        have frt : Fr T [] H1 (upd H1 t (.tup [.int (i : Nat), .ref b])) := Fr.new ht
        have htup : (upd H1 t (.tup [.int (i : Nat), .ref b])) t = some (.tup [.int (i : Nat), .ref b]) := upd_same
        have fr2 := fr1.trans (frt.up (M := [d, la]))
        have hd2 : Dice (upd H1 t (.tup [.int (i : Nat), .ref b])) d := (let ⟨a, b', c, h⟩ := hd1; ⟨a, b', c, frt.lst h⟩)
        have hca2 := frt.lst hca1
        have hka2 := frt.lst hka1
        have hla2 := frt.lst hla1
        generalize upd H1 t (.tup [.int (i : Nat), .ref b]) = H2 at htup fr2 hd2 hca2 hka2 hla2
        have hb2 := fr2.tup _ _ (hbt i b y hb hy1)
        refine ⟨t, _, rfl, SqT.of htup, rfl, _, _, rfl, _, _, rfl, b, _, rfl, SqT.of hb2, rfl, _, _, rfl, _, _, rfl, _, _, rfl, _, _, rfl, rfl, rfl, ?_⟩
        refine ⟨fun σ H' => ∃ n : Nat, σ = [some (.ref d), some (.ref sa), some (.int sl), some (.ref la), some (.bl busy), some (.ref ca), some (.ref ka), some (.int (i : Nat)), some (.int (y.one : Nat)), some (.int (y.gate : Nat)), some (.int (y.burst : Nat)), some (.int (y.rate : Nat)), some (.int (n : Nat)), x7] ∧ n ≤ 101 ∧ (busy = false → n = 0) ∧ Fr T [d] H2 H' ∧ Dice H' d, ?_, ?_⟩
        · refine ⟨_, rfl, busy, rfl, ?_⟩
          cases busy with
          | false => exact ⟨0, rfl, by omega, fun _ => rfl, Fr.refl _ _ _, hd2⟩
          | true =>
            obtain ⟨a, b', c, hd3⟩ := hd2
            refine ⟨_, rfl, d, a, b', c, 2, rfl, hd3, by omega, by omega, fun r H3 hr fr3 hd4 => ⟨rfl, _, rfl, ?_⟩⟩
            cases decide (V.int (r : Nat) = V.int 0) with
            | false => exact ⟨0, rfl, by omega, fun _ => rfl, fr3, hd4⟩
            | true =>
              refine ⟨_, rfl, _, rfl, _, _, rfl, rfl, _, rfl, (by show 7 ≤ sizeLine; decide), fun l hl => ?_⟩
              obtain ⟨a2, b2, c2, hd5⟩ := hd4
              have frl : Fr T [] H3 (upd H3 l (.lst [.int 0, .int 0, .int 1, .int 2, .int (y.burst : Nat), .int ((y.burst : Nat) + 1 : Int), .int (y.rate : Nat)])) := Fr.new hl
              have hl4 : (upd H3 l (.lst [.int 0, .int 0, .int 1, .int 2, .int (y.burst : Nat), .int ((y.burst : Nat) + 1 : Int), .int (y.rate : Nat)])) l = some (.lst [.int 0, .int 0, .int 1, .int 2, .int (y.burst : Nat), .int ((y.burst : Nat) + 1 : Int), .int (y.rate : Nat)]) := upd_same
              have ndl' : l ≠ d := (ne_of_none hd5 hl).symm
              refine ⟨_, rfl, d, a2, b2, c2, 7, rfl, frl.lst hd5, by omega, by omega, fun r2 H4 hr2 fr4 hd6 => ?_⟩
              obtain ⟨n, hn, hn2⟩ := pick y.burst y.rate r2 yb yr hr2
              exact ⟨l, _, _, _, rfl, rfl, SqL.of (fr4.lstN hl4 (by simp [ndl'])), at_of (j := r2) rfl hn, n, rfl, hn2, (fun e => by cases e), fr3.trans (frl.up.trans fr4), hd6⟩
        · rintro σ H3 ⟨n, rfl, hn, hbz, fr3, hd3⟩
          have hla3 := fr3.lstN hla2 (by simp [ndl.symm])
          have eC : (if i < i then lvAfter (yAt L i) sl (lv i) (cnt counts i) else lv i) = lv i := if_neg (Nat.lt_irrefl i)
          have hm : (if (lv i) > 0 then lv i else 0) + (n : Int) * (sl : Nat) - (y.rate : Nat) = lvl y sl (lv i) n := by
            unfold lvl
            rw [Int.natCast_mul]
            split <;> split <;> omega
          refine ⟨fun σ H' => σ = [some (.ref d), some (.ref sa), some (.int sl), some (.ref la), some (.bl busy), some (.ref ca), some (.ref ka), some (.int (i : Nat)), some (.int (y.one : Nat)), some (.int (y.gate : Nat)), some (.int (y.burst : Nat)), some (.int (y.rate : Nat)), some (.int (n : Nat)), some (.int (lvl y sl (lv i) n))] ∧ H' = H3, ?_, ?_⟩
          · refine ⟨_, rfl, _, rfl, la, _, _, _, rfl, rfl, SqL.of hla3, at_of (j := i) rfl (intV_at hiL), _, _, rfl, _, rfl, _, rfl, _, _, rfl, rfl, .inl ⟨by omega, by omega⟩, _, _, rfl, rfl, _, rfl, _, _, rfl, rfl, ?_⟩
            have hm2 : (if ((if i < i then lvAfter (yAt L i) sl (lv i) (cnt counts i) else lv i) : Int) > 0 then (if i < i then lvAfter (yAt L i) sl (lv i) (cnt counts i) else lv i) else 0) + (n : Int) * (sl : Nat) - (y.rate : Nat) = lvl y sl (lv i) n := by
              rw [eC]
              exact hm
            exact ⟨congrArg (fun v : Int => [some (V.ref d), some (V.ref sa), some (V.int sl), some (V.ref la), some (V.bl busy), some (V.ref ca), some (V.ref ka), some (V.int (i : Nat)), some (V.int (y.one : Nat)), some (V.int (y.gate : Nat)), some (V.int (y.burst : Nat)), some (V.int (y.rate : Nat)), some (V.int (n : Nat)), some (V.int v)]) hm2, rfl⟩
          · rintro σ H4 ⟨rfl, rfl⟩
            have ncd : ca ∉ [d, la] := fun hm => by
              rcases List.mem_cons.mp hm with e | e
              · obtain ⟨_, _, _, h⟩ := hd
                rw [← e, hca] at h
                cases h
              · rw [← List.mem_singleton.mp e, hca] at hla
                cases hla
            have nkd : ka ∉ [d, la] := fun hm => by
              rcases List.mem_cons.mp hm with e | e
              · obtain ⟨_, _, _, h⟩ := hd
                rw [← e, hka0] at h
                cases h
              · rw [← List.mem_singleton.mp e, hka0] at hla
                cases hla
            have hca3 := fr3.lstN hca2 (by simp at ncd; simp [ncd.1])
            have hka3 := fr3.lstN hka2 (by simp at nkd; simp [nkd.1])
            have fr4 := fr2.trans (fr3.mono (M' := [d, la]) (by simp))
            have nlc : la ≠ ca := fun e => ncd (by simp [e])
            have nlk : la ≠ ka := fun e => nkd (by simp [e])
            have ndc : d ≠ ca := fun e => ncd (by simp [e])
            have ndk : d ≠ ka := fun e => nkd (by simp [e])
            refine ⟨_, rfl, .inl ⟨rfl, _, SqL.of hca3⟩, _, rfl, ca, natV counts, _, rfl, rfl, hca3, by rw [natV, List.length_map]; exact small1000 (by omega), ?_⟩
            refine ⟨_, rfl, .inl ⟨rfl, _, SqL.of (by rw [upd_ne nck.symm]; exact hka3)⟩, ?_⟩
            have cnt_app : ∀ k, cnt (counts ++ [n]) k = if k < i then cnt counts k else if k = i then n else 0 := by
              intro k
              unfold cnt
              rw [List.getD_eq_getElem?_getD, List.getD_eq_getElem?_getD]
              by_cases e1 : k < i
              · rw [if_pos e1, List.getElem?_append_left (by omega)]
              · rw [if_neg e1, List.getElem?_append_right (by omega)]
                by_cases e2 : k = i
                · rw [if_pos e2, e2, hcl, Nat.sub_self]
                  rfl
                · rw [if_neg e2]
                  rw [List.getElem?_eq_none (by rw [List.length_singleton]; omega)]
                  rfl
            have fin : ∀ (kv : Nat) (nv : Int), kv = (if keeps y sl (lv i) n = true then n else 0) → nv = lvAfter y sl (lv i) n →
                St (i + 1) (upd (upd (upd H4 ca (.lst (natV counts ++ [.int (n : Nat)]))) ka (.lst ((rowV i fun k => if keeps (yAt L k) sl (lv k) (cnt counts k) = true then cnt counts k else 0) ++ [.int (kv : Nat)]))) la (.lst ((intV L.length fun k => if k < i then lvAfter (yAt L k) sl (lv k) (cnt counts k) else lv k).set i (.int nv)))) := by
              intro kv nv ekv env
              have cl : ∀ k, k < i → cnt (counts ++ [n]) k = cnt counts k := fun k hk => by rw [cnt_app, if_pos hk]
              have ci : cnt (counts ++ [n]) i = n := by rw [cnt_app, if_neg (Nat.lt_irrefl i), if_pos rfl]
              refine ⟨counts ++ [n], by simp [hcl], fun k => ?_, fun e k => ?_, ?_, ?_, ?_, ?_, ?_⟩
              · rw [cnt_app]
                have := hc1 k
                split
                · exact this
                · split <;> omega
              · rw [cnt_app]
                have h1 := hc2 e k
                have h2 := hbz e
                split
                · exact h1
                · split <;> omega
              · exact ((fr4.own hca hca3 (.lst _)).own hka0 (by rw [upd_ne nck.symm]; exact hka3) (.lst _)).andSet (by simp) (by rw [upd_ne nlk, upd_ne nlc]; exact hla3) (.lst _)
              · obtain ⟨a, b', c, h⟩ := hd3
                exact ⟨a, b', c, by rw [upd_ne ndl, upd_ne ndk, upd_ne ndc]; exact h⟩
              · rw [upd_ne nlc.symm, upd_ne nck, upd_same, natV, natV, List.map_append]
                rfl
              · rw [upd_ne nlk.symm, upd_same, rowV_succ, ci, hye, ekv]
                rw [rowV_congr (m := i) (f := fun k => if keeps (yAt L k) sl (lv k) (cnt (counts ++ [n]) k) = true then cnt (counts ++ [n]) k else 0) (g := fun k => if keeps (yAt L k) sl (lv k) (cnt counts k) = true then cnt counts k else 0) fun k hk => by rw [cl k hk]]
              · rw [upd_same]
                refine congrArg (fun l => some (HO.lst l)) (List.ext_getElem? fun k => ?_)
                by_cases hkL : k < L.length
                · rw [intV_at hkL]
                  by_cases e : k = i
                  · subst e
                    rw [List.getElem?_set_self (by rw [intV_len]; exact hkL), if_pos (Nat.lt_succ_self k), ci, hye, env]
                  · rw [List.getElem?_set_ne (Ne.symm e), intV_at hkL]
                    by_cases e2 : k < i
                    · rw [if_pos e2, if_pos (Nat.lt_succ_of_lt e2), cl k e2]
                    · rw [if_neg e2, if_neg (by omega)]
                · rw [List.getElem?_eq_none (by rw [List.length_set, intV_len]; omega), List.getElem?_eq_none (by rw [intV_len]; omega)]
            cases hk : keeps y sl (lv i) n with
            | true =>
              have kb : decide (lvl y sl (lv i) n ≤ (y.burst : Int) * (sl : Int)) = true := by rw [← hk, ← Int.natCast_mul]; rfl
              refine ⟨_, rfl, _, rfl, _, rfl, _, _, rfl, rfl, .inl ⟨by omega, by omega⟩, _, _, rfl, rfl, true, congrArg V.bl kb, ?_⟩
              refine ⟨_, rfl, ka, _, _, rfl, rfl, by rw [upd_ne nck.symm]; exact hka3, by rw [rowV_len]; exact small1000 (by omega), ?_⟩
              refine ⟨_, rfl, _, rfl, _, rfl, _, _, rfl, rfl, .inl ⟨by omega, by omega⟩, _, _, rfl, rfl, true, congrArg V.bl kb, ?_⟩
              refine ⟨_, rfl, _, rfl, _, rfl, la, _, _, i, rfl, rfl, by rw [upd_ne nlk, upd_ne nlc]; exact hla3, ?_, _, _, _, _, _, _, _, rfl, fin n _ (by rw [if_pos hk]) (by unfold lvAfter; rw [if_pos hk])⟩
              unfold ixN
              rw [if_pos (by omega), if_pos (by rw [intV_len]; omega)]
              simp
            | false =>
              have kb : decide (lvl y sl (lv i) n ≤ (y.burst : Int) * (sl : Int)) = false := by rw [← hk, ← Int.natCast_mul]; rfl
              refine ⟨_, rfl, _, rfl, _, rfl, _, _, rfl, rfl, .inl ⟨by omega, by omega⟩, _, _, rfl, rfl, false, congrArg V.bl kb, ?_⟩
              refine ⟨ka, _, _, rfl, rfl, by rw [upd_ne nck.symm]; exact hka3, by rw [rowV_len]; exact small1000 (by omega), ?_⟩
              refine ⟨_, rfl, _, rfl, _, rfl, _, _, rfl, rfl, .inl ⟨by omega, by omega⟩, _, _, rfl, rfl, false, congrArg V.bl kb, ?_⟩
              have hlaX : (upd (upd H4 ca (.lst (natV counts ++ [.int (n : Nat)]))) ka (.lst ((rowV i fun k => if keeps (yAt L k) sl (lv k) (cnt counts k) = true then cnt counts k else 0) ++ [.int ((0 : Nat) : Int)]))) la = some (.lst (intV L.length fun k => if k < i then lvAfter (yAt L k) sl (lv k) (cnt counts k) else lv k)) := by rw [upd_ne nlk, upd_ne nlc]; exact hla3
              refine ⟨_, rfl, _, rfl, la, _, _, _, rfl, rfl, SqL.of hlaX, at_of (j := i) rfl (intV_at hiL), _, _, rfl, _, rfl, _, _, rfl, rfl, _, rfl, _, rfl, la, _, _, i, rfl, rfl, hlaX, ?_, _, _, _, _, _, _, _, rfl, fin 0 _ (by rw [if_neg (by rw [hk]; decide)]) ?_⟩
              · unfold ixN
                rw [if_pos (by omega), if_pos (by rw [intV_len]; omega)]
                simp
              · rw [eC]
                unfold lvAfter
                rw [hk, if_neg (by decide : ¬ (false = true))]
                split <;> split <;> omega
      · rintro σ H' ⟨x1, x2, x3, x4, x5, x6, x7, rfl, st⟩
        rw [hbL] at st
        exact ⟨rfl, rfl, rfl, st⟩
    rintro σ H' ⟨h5, h6, h14, counts, hcl, hc1, hc2, fr1, hd1, hca1, hka1, hla1⟩
    refine ⟨_, h5, _, h6, (by show 2 ≤ sizeLine; decide), fun t ht => ?_⟩
    have frt : Fr T [] H' (upd H' t (.tup [.ref ca, .ref ka])) := Fr.new ht
    have eL : (intV L.length fun k => if k < L.length then lvAfter (yAt L k) sl (lv k) (cnt counts k) else lv k) = intV L.length fun k => lvAfter (yAt L k) sl (lv k) (cnt counts k) := by
      unfold intV
      refine List.map_congr_left fun n hn => ?_
      exact congrArg V.int (if_pos (List.mem_range.mp hn))
    rw [eL] at hla1
    obtain ⟨a, b, c, hd2⟩ := hd1
    exact k t ca ka counts _ (fr1.trans frt.up) upd_same hcl hc1 hc2 hca hka0 nck (frt.lst hca1) (frt.lst hka1) (frt.lst hla1) ⟨a, b, c, frt.lst hd2⟩
end
end KX
set_option Elab.async false
set_option linter.all false
set_option maxRecDepth 100000
set_option maxHeartbeats 4000000
/-! KX M1: the plain law: sums over slots, the bucket, the frames, the bounds. -/
namespace KX
open PySem PySem.Spec PyProof.Rows L2 GX
def pos0 (v : Int) : Int := if v < 0 then 0 else v
theorem pos0_ge (v : Int) : 0 ≤ pos0 v ∧ v ≤ pos0 v := by unfold pos0; split <;> omega
/-! ### sums -/
theorem sm_congr {n : Nat} {f g : Nat → Nat} (h : ∀ i, i < n → f i = g i) : sm n f = sm n g := by
  induction n with
  | zero => rfl
  | succ n ih =>
    show sm n f + f n = sm n g + g n
    rw [ih fun i hi => h i (by omega), h n (by omega)]
theorem sm_add (f : Nat → Nat) (n : Nat) : ∀ k, sm (n + k) f = sm n f + sm k fun i => f (n + i)
  | 0 => rfl
  | k + 1 => by
    show sm (n + k) f + f (n + k) = sm n f + (sm k (fun i => f (n + i)) + f (n + k))
    rw [sm_add f n k]
    omega
theorem sm_le_add (f : Nat → Nat) (n k : Nat) : sm n f ≤ sm (n + k) f := by rw [sm_add]; omega
theorem sm_shift (f : Nat → Nat) : ∀ n, sm n (fun i => f (i + 1)) + f 0 = sm n f + f n
  | 0 => by show 0 + f 0 = 0 + f 0; rfl
  | n + 1 => by
    show (sm n (fun i => f (i + 1)) + f (n + 1)) + f 0 = (sm n f + f n) + f (n + 1)
    have := sm_shift f n
    omega
def win (f : Nat → Nat) (s t : Nat) : Nat := sm (t - s) fun i => f (s + i)
theorem win_self (f : Nat → Nat) (s : Nat) : win f s s = 0 := by unfold win; rw [Nat.sub_self]; rfl
theorem win_succ (f : Nat → Nat) {s t : Nat} (h : s ≤ t) : win f s (t + 1) = win f s t + f t := by
  unfold win
  rw [show t + 1 - s = (t - s) + 1 by omega]
  show sm (t - s) _ + f (s + (t - s)) = _
  rw [show s + (t - s) = t by omega]
theorem win_mono (f : Nat → Nat) {s t t' : Nat} (h : t ≤ t') : win f s t ≤ win f s t' := sm_mono (by omega)
theorem win_congr {f g : Nat → Nat} {s t : Nat} (h : ∀ i, s ≤ i → i < t → f i = g i) : win f s t = win g s t := sm_congr fun i hi => h _ (by omega) (by omega)
/-! ### the bucket -/
theorem takes_keeps {y : St4} {sl n : Nat} {lv mk : Int} (e : mk = ((y.burst * sl : Nat) : Int) - pos0 lv) : takes (y.burst * sl) y.rate mk (n * sl) = keeps y sl lv n := by
  have := pos0_ge lv
  have hm : mid (y.burst * sl) y.rate mk = mk + y.rate := by unfold mid; split <;> omega
  unfold takes keeps
  rw [hm, e]
  have : lvl y sl lv n = pos0 lv + (n * sl : Nat) - y.rate := rfl
  rw [this]
  exact decide_eq_decide.mpr ⟨fun h => by omega, fun h => by omega⟩
theorem marks_lv {y : St4} {sl n : Nat} {lv mk : Int} (e : mk = ((y.burst * sl : Nat) : Int) - pos0 lv) : marksAfter (y.burst * sl) y.rate mk (n * sl) = ((y.burst * sl : Nat) : Int) - pos0 (lvAfter y sl lv n) := by
  have h0 := pos0_ge lv
  have hm : mid (y.burst * sl) y.rate mk = mk + y.rate := by unfold mid; split <;> omega
  have hl : lvl y sl lv n = pos0 lv + (n * sl : Nat) - y.rate := rfl
  have ht := takes_keeps (n := n) e
  have hA : marksAfter (y.burst * sl) y.rate mk (n * sl) = (if (if ((n * sl : Nat) : Int) ≤ mid (y.burst * sl) y.rate mk then mid (y.burst * sl) y.rate mk - ((n * sl : Nat) : Int) else mid (y.burst * sl) y.rate mk) < ((y.burst * sl : Nat) : Int) then (if ((n * sl : Nat) : Int) ≤ mid (y.burst * sl) y.rate mk then mid (y.burst * sl) y.rate mk - ((n * sl : Nat) : Int) else mid (y.burst * sl) y.rate mk) else ((y.burst * sl : Nat) : Int)) := rfl
  rw [hA]
  unfold lvAfter
  unfold takes at ht
  rw [← ht]
  by_cases c : ((n * sl : Nat) : Int) ≤ mid (y.burst * sl) y.rate mk
  · rw [decide_eq_true c, if_pos rfl, if_pos c]
    rw [hl, hm, e]
    unfold pos0
    split <;> split <;> omega
  · rw [decide_eq_false c, if_neg (by decide : ¬ (false = true)), if_neg c]
    rw [hm, e]
    have : (if lv < 0 then 0 else lv) = pos0 lv := rfl
    rw [this]
    generalize pos0 lv = u at h0
    unfold pos0
    split <;> split <;> omega
structure Bkt (y : St4) (sl : Nat) (a : Nat → Nat) (t : Nat) (lv : Int) : Prop where
  hi : pos0 lv ≤ ((y.burst * sl : Nat) : Int)
  win : ∀ s, s ≤ t → ((win a s t * sl : Nat) : Int) ≤ pos0 lv + ((y.rate * (t - s) : Nat) : Int)
  all : ∀ s u, s ≤ u → u ≤ t → KX.win a s u * sl ≤ y.burst * sl + y.rate * (u - s)
theorem Bkt.next {y : St4} {sl : Nat} {a : Nat → Nat} {t n : Nat} {lv : Int} (b : Bkt y sl a t lv) (ha : a t = if keeps y sl lv n = true then n else 0) : Bkt y sl a (t + 1) (lvAfter y sl lv n) := by
  have h0 := pos0_ge lv
  have hl : lvl y sl lv n = pos0 lv + (n * sl : Nat) - y.rate := rfl
  have hh := b.hi
  have h1 := pos0_ge (lvAfter y sl lv n)
  have hi1 : pos0 (lvAfter y sl lv n) ≤ ((y.burst * sl : Nat) : Int) := by
    cases hk : keeps y sl lv n with
    | true =>
      have h2 : lvl y sl lv n ≤ ((y.burst * sl : Nat) : Int) := of_decide_eq_true hk
      unfold lvAfter
      rw [hk, if_pos rfl]
      unfold pos0
      split <;> omega
    | false =>
      unfold lvAfter
      rw [hk, if_neg (by decide)]
      have : (if lv < 0 then 0 else lv) = pos0 lv := rfl
      rw [this]
      generalize pos0 lv = u at h0 hh
      unfold pos0
      split <;> omega
  have wi1 : ∀ s, s ≤ t + 1 → ((KX.win a s (t + 1) * sl : Nat) : Int) ≤ pos0 (lvAfter y sl lv n) + ((y.rate * (t + 1 - s) : Nat) : Int) := by
    intro s hs
    rcases Nat.lt_or_ge t s with h | h
    · have e : s = t + 1 := by omega
      subst e
      rw [win_self, Nat.zero_mul]
      have h3 : (0 : Int) ≤ ((y.rate * (t + 1 - (t + 1)) : Nat) : Int) := Int.natCast_nonneg _
      omega
    · have h2 := b.win s h
      rw [win_succ a h]
      have e1 : y.rate * (t + 1 - s) = y.rate * (t - s) + y.rate := by
        rw [show t + 1 - s = (t - s) + 1 by omega, Nat.mul_add, Nat.mul_one]
      rw [e1, Nat.add_mul]
      cases hk : keeps y sl lv n with
      | true =>
        rw [hk, if_pos rfl] at ha
        have e2 : lvAfter y sl lv n = pos0 lv + (n * sl : Nat) - y.rate := by
          unfold lvAfter
          rw [hk, if_pos rfl]
          rfl
        rw [ha]
        rw [e2] at h1 ⊢
        omega
      | false =>
        rw [hk, if_neg (by decide)] at ha
        have e2 : lvAfter y sl lv n = pos0 lv - y.rate := by
          unfold lvAfter
          rw [hk, if_neg (by decide)]
          rfl
        rw [ha, Nat.zero_mul]
        rw [e2] at h1 ⊢
        omega
  refine ⟨hi1, wi1, fun s u hs hu => ?_⟩
  rcases Nat.lt_or_ge t u with h | h
  · have e : u = t + 1 := by omega
    subst e
    have := wi1 s hs
    omega
  · exact b.all s u hs h
theorem Bkt.zero {y : St4} {sl : Nat} {a : Nat → Nat} : Bkt y sl a 0 0 := by
  refine ⟨?_, fun s hs => ?_, fun s u hs hu => ?_⟩
  · show (0 : Int) ≤ _
    exact Int.natCast_nonneg _
  · have : s = 0 := by omega
    subst this
    rw [win_self, Nat.zero_mul]
    show (0 : Int) ≤ 0 + _
    have := Int.natCast_nonneg (y.rate * (0 - 0))
    omega
  · have e1 : u = 0 := by omega
    have e2 : s = 0 := by omega
    subst e1 e2
    rw [win_self, Nat.zero_mul]
    exact Nat.zero_le _
/-- of what comes in a window -/
theorem Bkt.come {z : SwS} {y : St4} {a : Nat → Nat} {t s u : Nat} {lv : Int} (b : Bkt y z.sl a t lv) (h0 : 0 < z.sl) (h : s < u) (hu : u ≤ t) : KX.win a s u ≤ come z y (u - s) := by
  have h1 := b.all s u (by omega) hu
  unfold KX.come cv
  rw [if_neg (by omega), Nat.le_div_iff_mul_le h0]
  exact h1
theorem come_add {z : SwS} {y : St4} (h0 : 0 < z.sl) (i : Nat) : come z y (i + 1 + z.sl) = come z y (i + 1) + y.rate := by
  unfold KX.come cv
  rw [if_neg (by omega), if_neg (by omega), Nat.mul_add, ← Nat.add_assoc, Nat.add_mul_div_right _ _ h0]
/-! ### frames -/
section
variable {pl : Nat → Nat → Option Nat} {sl one gate : Nat}
theorem hit_add (s : Nat) : hit pl sl one gate (s + sl) = hit pl sl one gate s := by unfold hit; rw [Nat.add_mod_right]
theorem hit_mod (s i : Nat) : hit pl sl one gate (s % sl + i) = hit pl sl one gate (s + i) := by unfold hit; rw [Nat.mod_add_mod]
theorem frame_sum : ∀ st, sm sl (fun i => hit pl sl one gate (st + i)) = sm sl (hit pl sl one gate)
  | 0 => sm_congr fun i _ => by rw [Nat.zero_add]
  | st + 1 => by
    have h1 := sm_shift (fun i => hit pl sl one gate (st + i)) sl
    have h2 := frame_sum st
    have h3 := hit_add (pl := pl) (sl := sl) (one := one) (gate := gate) st
    have e : sm sl (fun i => hit pl sl one gate (st + 1 + i)) = sm sl (fun i => hit pl sl one gate (st + (i + 1))) := sm_congr fun i _ => by rw [show st + 1 + i = st + (i + 1) by omega]
    rw [e]
    have h1' : sm sl (fun i => hit pl sl one gate (st + (i + 1))) + hit pl sl one gate (st + 0) = sm sl (fun i => hit pl sl one gate (st + i)) + hit pl sl one gate (st + sl) := h1
    rw [h3, Nat.add_zero] at h1'
    omega
theorem sm_filter (p : Nat → Bool) : ∀ n, sm n (fun i => if p i = true then 1 else 0) = ((List.range n).filter p).length
  | 0 => rfl
  | n + 1 => by
    show sm n _ + _ = _
    rw [sm_filter p n, List.range_succ, List.filter_append, List.length_append]
    congr 1
    cases h : p n with
    | true => simp [h]
    | false => simp [h]
theorem frame_rate {m : Nat} {ρ : Nat → Nat → Nat} (h : PlanOk m sl ρ pl) (h1 : one < m) (h2 : gate < m) (st : Nat) : sm sl (fun i => hit pl sl one gate (st + i)) = ρ one gate := by
  rw [frame_sum, ← h.cnt one gate h1 h2, ← sm_filter]
  refine sm_congr fun i hi => ?_
  unfold hit
  rw [Nat.mod_eq_of_lt hi]
  by_cases e : pl i one = some gate
  · rw [if_pos e, if_pos (beq_iff_eq.mpr e)]
  · rw [if_neg e, if_neg (fun q => e (beq_iff_eq.mp q))]
theorem srv_mod (st k : Nat) : srv pl sl one gate (st % sl) k = srv pl sl one gate st k := sm_congr fun i _ => hit_mod st i
theorem srv_mono (st : Nat) {k k' : Nat} (h : k ≤ k') : srv pl sl one gate st k ≤ srv pl sl one gate st k' := sm_mono h
theorem srv_add {R : Nat} (hR : ∀ st, sm sl (fun i => hit pl sl one gate (st + i)) = R) (st k : Nat) : srv pl sl one gate st (k + sl) = srv pl sl one gate st k + R := by
  unfold srv
  rw [sm_add, ← hR (st + k)]
  congr 1
  exact sm_congr fun i _ => by rw [Nat.add_assoc]
theorem lst_le (h0 : 0 < sl) (st k : Nat) : lst pl sl one gate k ≤ srv pl sl one gate st k := by
  rw [← srv_mod]
  unfold lst
  obtain ⟨d, rfl⟩ : ∃ d, sl = d + 1 := ⟨sl - 1, by omega⟩
  exact (minS_spec _ d).1 _ (Nat.mod_lt _ h0)
theorem lst_at (h0 : 0 < sl) (k : Nat) : ∃ st, lst pl sl one gate k = srv pl sl one gate st k := by
  unfold lst
  obtain ⟨d, rfl⟩ : ∃ d, sl = d + 1 := ⟨sl - 1, by omega⟩
  obtain ⟨i, _, h⟩ := (minS_spec (fun st => srv pl (d + 1) one gate st k) d).2
  exact ⟨i, h⟩
theorem lst_mono (h0 : 0 < sl) {k k' : Nat} (h : k ≤ k') : lst pl sl one gate k ≤ lst pl sl one gate k' := by
  obtain ⟨st, e⟩ := lst_at (pl := pl) (one := one) (gate := gate) h0 k'
  rw [e]
  exact Nat.le_trans (lst_le h0 st k) (srv_mono st h)
theorem lst_add (h0 : 0 < sl) {R : Nat} (hR : ∀ st, sm sl (fun i => hit pl sl one gate (st + i)) = R) (k : Nat) : lst pl sl one gate (k + sl) = lst pl sl one gate k + R := by
  apply Nat.le_antisymm
  · obtain ⟨st, e⟩ := lst_at (pl := pl) (one := one) (gate := gate) h0 k
    rw [e, ← srv_add hR]
    exact lst_le h0 st _
  · obtain ⟨st, e⟩ := lst_at (pl := pl) (one := one) (gate := gate) h0 (k + sl)
    rw [e, srv_add hR]
    exact Nat.add_le_add_right (lst_le h0 st k) R
theorem lst_zero (h0 : 0 < sl) : lst pl sl one gate 0 = 0 := by
  obtain ⟨st, e⟩ := lst_at (pl := pl) (one := one) (gate := gate) h0 0
  rw [e]
  rfl
theorem lst_mul (h0 : 0 < sl) {R : Nat} (hR : ∀ st, sm sl (fun i => hit pl sl one gate (st + i)) = R) : ∀ q, lst pl sl one gate (sl * q) = R * q
  | 0 => by rw [Nat.mul_zero, Nat.mul_zero, lst_zero h0]
  | q + 1 => by rw [Nat.mul_add, Nat.mul_one, lst_add h0 hR, lst_mul h0 hR q, Nat.mul_add, Nat.mul_one]
end
/-! ### the bounds -/
structure Rated (z : SwS) (y : St4) : Prop where
  s0 : 0 < z.sl
  r0 : 1 ≤ y.rate
  rt : ∀ st, sm z.sl (fun i => hit z.pl z.sl y.one y.gate (st + i)) = y.rate
theorem Rated.farN {z : SwS} {y : St4} (_ : Rated z y) : z.sl ≤ farN z y := Nat.le_mul_of_pos_right _ (Nat.lt_of_lt_of_le (by decide : 0 < 5) (Nat.le_add_left 5 _))
theorem Rated.q {z : SwS} {y : St4} (h : Rated z y) {v : Int} (hv : ∀ i, i < KX.farN z y → (come z y (i + 1) : Int) - least z y i ≤ v) : ∀ i, (come z y (i + 1) : Int) - least z y i ≤ v := by
  intro i
  induction i using Nat.strongRecOn with
  | _ i ih =>
    by_cases c : i < KX.farN z y
    · exact hv i c
    · have hf := h.farN
      have hs := h.s0
      obtain ⟨d, rfl⟩ : ∃ d, i = d + z.sl := ⟨i - z.sl, by omega⟩
      have h1 := ih d (by omega)
      have h2 := come_add (y := y) h.s0 d
      have h3 : least z y (d + z.sl) = least z y d + y.rate := lst_add h.s0 h.rt d
      rw [show d + z.sl + 1 = d + 1 + z.sl by omega, h2, h3]
      omega
theorem Rated.far {z : SwS} {y : St4} (h : Rated z y) : ∀ i, i < 2 * z.sl → ∃ a, a < KX.farN z y + 1 ∧ come z y (i + 1) ≤ least z y a := by
  intro i hi
  have hs := h.s0
  refine ⟨KX.farN z y, by omega, ?_⟩
  have e : least z y (KX.farN z y) = y.rate * (y.burst / y.rate + 5) := lst_mul h.s0 h.rt _
  rw [e]
  unfold KX.come cv
  rw [if_neg (by omega)]
  have h1 : y.rate * (i + 1) ≤ y.rate * (2 * z.sl) := Nat.mul_le_mul_left _ (by omega)
  have h2 : (y.burst * z.sl + y.rate * (i + 1)) / z.sl ≤ (y.burst * z.sl + y.rate * (2 * z.sl)) / z.sl := Nat.div_le_div_right (by omega)
  have h3 : (y.burst * z.sl + y.rate * (2 * z.sl)) / z.sl = y.burst + y.rate * 2 := by
    rw [← Nat.mul_assoc, ← Nat.add_mul, Nat.mul_div_cancel _ h.s0]
  have h4 := Nat.div_add_mod y.burst y.rate
  have h5 := Nat.mod_lt y.burst (show 0 < y.rate from h.r0)
  rw [h3] at h2
  rw [Nat.mul_add y.rate (y.burst / y.rate) 5]
  generalize (y.burst * z.sl + y.rate * (i + 1)) / z.sl = u at h2 ⊢
  generalize y.rate * (y.burst / y.rate) = w at h4 ⊢
  generalize y.burst % y.rate = r at h4 h5
  omega
theorem first_of {p : Nat → Prop} [DecidablePred p] : ∀ n, p n → ∃ a, a ≤ n ∧ p a ∧ ∀ b, b < a → ¬ p b := by
  intro n
  induction n using Nat.strongRecOn with
  | _ n ih =>
    intro h
    by_cases c : ∃ b, b < n ∧ p b
    · obtain ⟨b, hb, hp⟩ := c
      obtain ⟨a, h1, h2, h3⟩ := ih b hb hp
      exact ⟨a, by omega, h2, h3⟩
    · exact ⟨n, Nat.le_refl _, h, fun b hb hp => c ⟨b, hb, hp⟩⟩
theorem Rated.w {z : SwS} {y : St4} (h : Rated z y) {v : Int} (h1 : -1 ≤ v) (hv : ∀ i, i < 2 * z.sl → ∀ a, a < KX.farN z y + 1 → come z y (i + 1) ≤ least z y a → (∀ b, b < a → least z y b < come z y (i + 1)) → (a : Int) - i ≤ v + 1) :
    ∀ i d, least z y d < come z y (i + 1) → (d : Int) - i ≤ v := by
  intro i
  induction i using Nat.strongRecOn with
  | _ i ih =>
    intro d hd
    by_cases c : i < 2 * z.sl
    · obtain ⟨a0, g1, g2⟩ := h.far i c
      obtain ⟨a, e1, e2, e3⟩ := first_of (p := fun a => come z y (i + 1) ≤ least z y a) a0 g2
      have h2 := hv i c a (by omega) e2 fun b hb => Nat.lt_of_not_le (e3 b hb)
      have h3 : d < a := Nat.lt_of_not_le fun q => by
        have h4 : least z y a ≤ least z y d := lst_mono h.s0 q
        omega
      omega
    · have hs := h.s0
      obtain ⟨i', rfl⟩ : ∃ i', i = i' + z.sl := ⟨i - z.sl, by omega⟩
      by_cases c2 : d < z.sl
      · omega
      · obtain ⟨d', rfl⟩ : ∃ d', d = d' + z.sl := ⟨d - z.sl, by omega⟩
        have h2 := come_add (y := y) h.s0 i'
        have h3 : least z y (d' + z.sl) = least z y d' + y.rate := lst_add h.s0 h.rt d'
        rw [show i' + z.sl + 1 = i' + 1 + z.sl by omega, h2, h3] at hd
        have h4 := ih i' (by omega) d' (by omega)
        omega
/-! ### the queue of a pair -/
/-- each cell of the queue came in s .. t - 1, and as many are ahead of it as came since s and are not served -/
def Busy (h a : Nat → Nat) (s t : Nat) (W : List Cell) : Prop := ∀ j x, W[j]? = some x → s ≤ x.2.1 ∧ x.2.1 < t ∧ j + 1 + win h s t ≤ win a s (x.2.1 + 1)
/-- the same, the cells of slot t among them, before slot t is served -/
def Busy1 (h a : Nat → Nat) (s t : Nat) (W : List Cell) : Prop := ∀ j x, W[j]? = some x → s ≤ x.2.1 ∧ x.2.1 ≤ t ∧ j + 1 + win h s t ≤ win a s (x.2.1 + 1)
theorem cells_at {k t n j : Nat} {x : Cell} (h : (cells k t n)[j]? = some x) : x = (k, t, j) ∧ j < n := by
  unfold cells at h
  rw [List.getElem?_map] at h
  have hj : j < n := by
    rcases Nat.lt_or_ge j n with q | q
    · exact q
    · rw [List.getElem?_eq_none (by rw [List.length_range]; exact q)] at h
      cases h
  rw [List.getElem?_range hj] at h
  exact ⟨(Option.some.inj h).symm, hj⟩
theorem busy_came {h a : Nat → Nat} {t k n : Nat} {W : List Cell} (ha : a t = n) (b : ∃ s, s ≤ t ∧ Busy h a s t W) : ∃ s, s ≤ t ∧ Busy1 h a s t (W ++ cells k t n) := by
  obtain ⟨s, hs, b⟩ := b
  cases hW : W with
  | nil =>
    refine ⟨t, Nat.le_refl _, fun j x hx => ?_⟩
    obtain ⟨rfl, hj⟩ := cells_at hx
    refine ⟨Nat.le_refl _, Nat.le_refl _, ?_⟩
    show j + 1 + win h t t ≤ win a t (t + 1)
    rw [win_succ a (Nat.le_refl _), win_self, win_self, ha]
    omega
  | cons w W' =>
    rw [← hW]
    have hl : W.length = W'.length + 1 := by rw [hW]; rfl
    refine ⟨s, hs, fun j x hx => ?_⟩
    rcases Nat.lt_or_ge j W.length with q | q
    · rw [List.getElem?_append_left q] at hx
      obtain ⟨h1, h2, h3⟩ := b j x hx
      exact ⟨h1, by omega, h3⟩
    · rw [List.getElem?_append_right q] at hx
      obtain ⟨rfl, hj⟩ := cells_at hx
      obtain ⟨l, el⟩ : ∃ l, W[W.length - 1]? = some l := ⟨_, List.getElem?_eq_getElem (by omega)⟩
      obtain ⟨h1, h2, h3⟩ := b _ l el
      have h4 : win a s (l.2.1 + 1) ≤ win a s t := win_mono a (by omega)
      refine ⟨hs, Nat.le_refl _, ?_⟩
      show j + 1 + win h s t ≤ win a s (t + 1)
      rw [win_succ a hs, ha]
      omega
theorem busy_served {h a : Nat → Nat} {t : Nat} {W : List Cell} (h01 : h t = 0 ∨ h t = 1) (b : ∃ s, s ≤ t ∧ Busy1 h a s t W) : ∃ s, s ≤ t + 1 ∧ Busy h a s (t + 1) (if h t = 1 then W.tail else W) := by
  obtain ⟨s, hs, b⟩ := b
  refine ⟨s, by omega, fun j x hx => ?_⟩
  rw [win_succ h hs]
  rcases h01 with e | e
  · rw [e, if_neg (by decide)] at hx
    obtain ⟨h1, h2, h3⟩ := b j x hx
    exact ⟨h1, by omega, by omega⟩
  · rw [e, if_pos rfl] at hx
    rw [List.getElem?_tail] at hx
    obtain ⟨h1, h2, h3⟩ := b _ x hx
    exact ⟨h1, by omega, by omega⟩
section
variable {z : SwS} {y : St4} {a : Nat → Nat} {t : Nat} {lv : Int} {W : List Cell} {v : Int}
theorem srv_win (s t : Nat) : srv z.pl z.sl y.one y.gate s (t - s) = win (hit z.pl z.sl y.one y.gate) s t := rfl
theorem queue_le (h : Rated z y) (b : Bkt y z.sl a (t + 1) lv) (hb : ∃ s, s ≤ t ∧ Busy1 (hit z.pl z.sl y.one y.gate) a s t W) (hv : ∀ i, i < KX.farN z y → (come z y (i + 1) : Int) - least z y i ≤ v) : (W.length : Int) ≤ v := by
  obtain ⟨s, hs, hb⟩ := hb
  have hq := h.q hv
  rcases Nat.eq_zero_or_pos W.length with e | e
  · have h1 := hq 0
    have h2 : least z y 0 = 0 := lst_zero h.s0
    rw [h2] at h1
    omega
  · obtain ⟨l, el⟩ : ∃ l, W[W.length - 1]? = some l := ⟨_, List.getElem?_eq_getElem (by omega)⟩
    obtain ⟨h1, h2, h3⟩ := hb _ l el
    have h4 : win a s (l.2.1 + 1) ≤ win a s (t + 1) := win_mono a (by omega)
    have h5 := b.come h.s0 (show s < t + 1 by omega) (Nat.le_refl _)
    have h6 : least z y (t - s) ≤ win (hit z.pl z.sl y.one y.gate) s t := lst_le h.s0 s (t - s)
    have h7 := hq (t - s)
    rw [show t + 1 - s = t - s + 1 by omega] at h5
    omega
theorem wait_le (h : Rated z y) (b : Bkt y z.sl a t lv) {s j u : Nat} {x : Cell} (hx : s ≤ x.2.1 ∧ x.2.1 < t ∧ j + 1 + win (hit z.pl z.sl y.one y.gate) s u ≤ win a s (x.2.1 + 1)) (hu : s ≤ u) (h1 : -1 ≤ v)
    (hv : ∀ i, i < 2 * z.sl → ∀ a, a < KX.farN z y + 1 → come z y (i + 1) ≤ least z y a → (∀ b, b < a → least z y b < come z y (i + 1)) → (a : Int) - i ≤ v + 1) : (u : Int) - x.2.1 ≤ v := by
  obtain ⟨h2, h3, h4⟩ := hx
  have h5 := b.come h.s0 (show s < x.2.1 + 1 by omega) (by omega)
  have h6 : least z y (u - s) ≤ win (hit z.pl z.sl y.one y.gate) s u := lst_le h.s0 s (u - s)
  have h7 := h.w h1 hv (x.2.1 - s) (u - s)
  rw [show x.2.1 + 1 - s = x.2.1 - s + 1 by omega] at h5
  have h8 := h7 (by omega)
  omega
end
end KX
set_option Elab.async false
set_option linter.all false
set_option maxRecDepth 100000
set_option maxHeartbeats 4000000
/-! KX M2: the plain law: what holds ahead of a slot, and what a slot makes of it. -/
namespace KX
open PySem PySem.Spec PyProof.Rows L2 GX
/-- no pair of gates has two streams -/
def Dis (L : List St4) : Prop := ∀ (k k' : Nat) y y', L[k]? = some y → L[k']? = some y' → y.one = y'.one → y.gate = y'.gate → k = k'
theorem rho_none {L : List St4} {i j : Nat} (h : ∀ (k : Nat) y, L[k]? = some y → ¬ (y.one = i ∧ y.gate = j)) : rho L i j = 0 := by
  induction L with
  | nil => rfl
  | cons x r ih =>
    have e : rho (x :: r) i j = (if x.one = i ∧ x.gate = j then x.rate else 0) + rho r i j := by simp [rho]
    rw [e, if_neg (h 0 x rfl), ih fun k y hk => h (k + 1) y hk]
theorem rho_dis {L : List St4} (d : Dis L) {k : Nat} {y : St4} (hk : L[k]? = some y) : rho L y.one y.gate = y.rate := by
  induction L generalizing k with
  | nil => cases hk
  | cons x r ih =>
    have e : rho (x :: r) y.one y.gate = (if x.one = y.one ∧ x.gate = y.gate then x.rate else 0) + rho r y.one y.gate := by simp [rho]
    rw [e]
    cases k with
    | zero =>
      have ex : x = y := Option.some.inj hk
      subst ex
      rw [if_pos ⟨rfl, rfl⟩, rho_none fun k' y' hk' hh => ?_]
      · omega
      · have := d 0 (k' + 1) x y' rfl hk' hh.1.symm hh.2.symm
        omega
    | succ k =>
      rw [if_neg fun hh => ?_, Nat.zero_add]
      · exact ih (fun a b u v h1 h2 h3 h4 => by
          have := d (a + 1) (b + 1) u v h1 h2 h3 h4
          omega) hk
      · have := d 0 (k + 1) x y rfl hk hh.1 hh.2
        omega
/-- ahead of slot t -/
structure LawInv (z : SwS) (long t : Nat) (lv marks : Nat → Int) (q : Nat → Nat → List Cell) (W : Nat → List Cell) : Prop where
  mks : ∀ (k : Nat) y, z.sts[k]? = some y → marks k = ((y.burst * z.sl : Nat) : Int) - pos0 (lv k)
  st : ∀ (k : Nat) y, z.sts[k]? = some y → ∃ a, Bkt y z.sl a t (lv k) ∧ ∃ s, s ≤ t ∧ Busy (hit z.pl z.sl y.one y.gate) a s t (W k)
  who : ∀ (k : Nat) y x, z.sts[k]? = some y → x ∈ W k → x.1 = k ∧ x.2.1 < long
  qW : ∀ (k : Nat) y, z.sts[k]? = some y → q y.one y.gate = W k
  q0 : ∀ i j, (∀ (k : Nat) y, z.sts[k]? = some y → ¬ (y.one = i ∧ y.gate = j)) → q i j = []
/-- in slot t, when its cells have come -/
structure LawMid (z : SwS) (long t : Nat) (lv marks : Nat → Int) (q : Nat → Nat → List Cell) (W : Nat → List Cell) : Prop where
  mks : ∀ (k : Nat) y, z.sts[k]? = some y → marks k = ((y.burst * z.sl : Nat) : Int) - pos0 (lv k)
  st : ∀ (k : Nat) y, z.sts[k]? = some y → ∃ a, Bkt y z.sl a (t + 1) (lv k) ∧ ∃ s, s ≤ t ∧ Busy1 (hit z.pl z.sl y.one y.gate) a s t (W k)
  who : ∀ (k : Nat) y x, z.sts[k]? = some y → x ∈ W k → x.1 = k ∧ x.2.1 < long
  qW : ∀ (k : Nat) y, z.sts[k]? = some y → q y.one y.gate = W k
  q0 : ∀ i j, (∀ (k : Nat) y, z.sts[k]? = some y → ¬ (y.one = i ∧ y.gate = j)) → q i j = []
theorem Bkt.ext {y : St4} {sl t n : Nat} {a : Nat → Nat} {lv : Int} (b : Bkt y sl a t lv) : Bkt y sl (KX.ext a t n) t lv := by
  have e : ∀ s u, u ≤ t → KX.win (KX.ext a t n) s u = KX.win a s u := fun s u hu => win_congr fun i _ hi => ext_ne (by omega)
  exact ⟨b.hi, fun s hs => by rw [e s t (Nat.le_refl _)]; exact b.win s hs, fun s u hs hu => by rw [e s u hu]; exact b.all s u hs hu⟩
theorem Busy.ext {h a : Nat → Nat} {s t n : Nat} {W : List Cell} (b : Busy h a s t W) : Busy h (KX.ext a t n) s t W := fun j x hx => by
  obtain ⟨h1, h2, h3⟩ := b j x hx
  refine ⟨h1, h2, ?_⟩
  rw [win_congr (g := a) fun i _ hi => ext_ne (by omega)]
  exact h3
section
variable {z : SwS} {long t : Nat} {lv marks : Nat → Int} {q : Nat → Nat → List Cell} {W : Nat → List Cell}
theorem LawInv.zero {lv marks : Nat → Int} (hl : ∀ k, lv k = 0) (hm : ∀ (k : Nat) y, z.sts[k]? = some y → marks k = ((y.burst * z.sl : Nat) : Int)) (hW : ∀ k, W k = []) : LawInv z long 0 lv marks (fun _ _ => []) W where
  mks := fun k y hk => by rw [hm k y hk, hl]; show _ = _ - (0 : Int); omega
  st := fun k y _ => ⟨fun _ => 0, by rw [hl]; exact Bkt.zero, 0, Nat.le_refl _, fun j x hx => by rw [hW] at hx; cases hx⟩
  who := fun k y x _ hx => by rw [hW] at hx; cases hx
  qW := fun k y _ => (hW k).symm
  q0 := fun _ _ _ => rfl
theorem LawInv.congr {W' : Nat → List Cell} {lv' : Nat → Int} (h : LawInv z long t lv marks q W) (e : ∀ k, k < z.sts.length → W' k = W k) (e2 : ∀ k, k < z.sts.length → lv' k = lv k) : LawInv z long t lv' marks q W' := by
  have lt : ∀ {k : Nat} {y : St4}, z.sts[k]? = some y → k < z.sts.length := fun h => (List.getElem?_eq_some_iff.mp h).1
  exact ⟨fun k y hk => by rw [e2 k (lt hk)]; exact h.mks k y hk, fun k y hk => by rw [e k (lt hk), e2 k (lt hk)]; exact h.st k y hk, fun k y x hk hx => h.who k y x hk (by rw [← e k (lt hk)]; exact hx), fun k y hk => by rw [e k (lt hk)]; exact h.qW k y hk, h.q0⟩
/-- how many are kept -/
def kpt (z : SwS) (lv : Nat → Int) (counts : List Nat) (k : Nat) : Nat := if keeps (yOf z k) z.sl (lv k) (cnt counts k) = true then cnt counts k else 0
theorem yOf_at {k : Nat} {y : St4} (h : z.sts[k]? = some y) : yOf z k = y := by
  unfold yOf
  rw [List.getD_eq_getElem?_getD, h]
  rfl
theorem marksU_at (z : SwS) (marks : Nat → Int) (counts : List Nat) : ∀ n k, k < n → marksU z marks counts n k = marksAfter ((yOf z k).burst * z.sl) (yOf z k).rate (marks k) (cnt counts k * z.sl)
  | 0, k, h => by omega
  | n + 1, k, h => by
    show KX.ext (marksU z marks counts n) n _ k = _
    by_cases e : k = n
    · rw [ext_at e, e]
    · rw [ext_ne e]
      exact marksU_at z marks counts n k (by omega)
theorem offQ_succ {counts : List Nat} (n : Nat) : offQ z marks counts t q (n + 1) = if tkn z marks counts n = true then upd2 (offQ z marks counts t q n) (yOf z n).one (yOf z n).gate (offQ z marks counts t q n (yOf z n).one (yOf z n).gate ++ cells n t (cnt counts n)) else offQ z marks counts t q n := rfl
theorem offQ_spec (d : Dis z.sts) {counts : List Nat} (hm : ∀ (k : Nat) y, z.sts[k]? = some y → marks k = ((y.burst * z.sl : Nat) : Int) - pos0 (lv k)) : ∀ n, n ≤ z.sts.length →
    (∀ (k : Nat) y, z.sts[k]? = some y → offQ z marks counts t q n y.one y.gate = if k < n then q y.one y.gate ++ cells k t (kpt z lv counts k) else q y.one y.gate) ∧
    ∀ i j, (∀ (k : Nat) y, z.sts[k]? = some y → ¬ (y.one = i ∧ y.gate = j)) → offQ z marks counts t q n i j = q i j := by
  intro n
  induction n with
  | zero => exact fun _ => ⟨fun k y hk => by rw [if_neg (by omega)]; rfl, fun i j _ => rfl⟩
  | succ n ih =>
    intro hn
    obtain ⟨h1, h2⟩ := ih (by omega)
    have hyn : z.sts[n]? = some z.sts[n] := List.getElem?_eq_getElem (by omega)
    generalize z.sts[n] = yn at hyn
    have ey := yOf_at hyn
    have et : tkn z marks counts n = keeps yn z.sl (lv n) (cnt counts n) := by
      unfold tkn
      rw [ey]
      exact takes_keeps (hm n yn hyn)
    have ek : kpt z lv counts n = if keeps yn z.sl (lv n) (cnt counts n) = true then cnt counts n else 0 := by unfold kpt; rw [ey]
    constructor
    · intro k y hk
      rw [offQ_succ]
      by_cases e : k = n
      · subst e
        have e2 : y = yn := Option.some.inj (hk.symm.trans hyn)
        subst e2
        rw [if_pos (Nat.lt_succ_self k), ek, et, ey]
        have h3 := h1 k y hk
        rw [if_neg (Nat.lt_irrefl k)] at h3
        cases hkk : keeps y z.sl (lv k) (cnt counts k) with
        | true =>
          rw [if_pos rfl, if_pos rfl, upd2_at, h3]
        | false =>
          rw [if_neg (by decide), if_neg (by decide), h3]
          show q y.one y.gate = q y.one y.gate ++ []
          rw [List.append_nil]
      · have ne : ¬ (y.one = (yOf z n).one ∧ y.gate = (yOf z n).gate) := fun hh => by
          rw [ey] at hh
          exact e (d k n y yn hk hyn hh.1 hh.2)
        have e1 : (if tkn z marks counts n = true then upd2 (offQ z marks counts t q n) (yOf z n).one (yOf z n).gate (offQ z marks counts t q n (yOf z n).one (yOf z n).gate ++ cells n t (cnt counts n)) else offQ z marks counts t q n) y.one y.gate = offQ z marks counts t q n y.one y.gate := by
          split
          · exact upd2_ne ne
          · rfl
        rw [e1, h1 k y hk]
        by_cases c : k < n
        · rw [if_pos c, if_pos (by omega)]
        · rw [if_neg c, if_neg (by omega)]
    · intro i j hno
      rw [offQ_succ]
      split
      · rw [upd2_ne fun hh => hno n yn hyn (by rw [ey] at hh; exact ⟨hh.1.symm, hh.2.symm⟩)]
        exact h2 i j hno
      · exact h2 i j hno
theorem LawInv.came (I : LawInv z long t lv marks q W) (d : Dis z.sts) {counts : List Nat} (hb : ¬ t < long → ∀ k, cnt counts k = 0) :
    LawMid z long t (fun k => lvAfter (yOf z k) z.sl (lv k) (cnt counts k)) (marksU z marks counts z.sts.length) (offQ z marks counts t q z.sts.length) (fun k => W k ++ cells k t (kpt z lv counts k)) := by
  obtain ⟨o1, o2⟩ := offQ_spec (t := t) (q := q) d (counts := counts) I.mks z.sts.length (Nat.le_refl _)
  have lt : ∀ {k : Nat} {y : St4}, z.sts[k]? = some y → k < z.sts.length := fun h => (List.getElem?_eq_some_iff.mp h).1
  refine ⟨fun k y hk => ?_, fun k y hk => ?_, fun k y x hk hx => ?_, fun k y hk => ?_, fun i j hno => ?_⟩
  · rw [marksU_at z marks counts _ k (lt hk), yOf_at hk]
    exact marks_lv (I.mks k y hk)
  · obtain ⟨a, b, s, hs, bu⟩ := I.st k y hk
    have e : kpt z lv counts k = if keeps y z.sl (lv k) (cnt counts k) = true then cnt counts k else 0 := by unfold kpt; rw [yOf_at hk]
    refine ⟨KX.ext a t (kpt z lv counts k), ?_, busy_came (ext_at rfl) ⟨s, hs, bu.ext⟩⟩
    show Bkt y z.sl _ (t + 1) (lvAfter (yOf z k) z.sl (lv k) (cnt counts k))
    rw [yOf_at hk]
    exact b.ext.next (by rw [ext_at rfl, e])
  · rcases List.mem_append.mp hx with h | h
    · exact I.who k y x hk h
    · obtain ⟨j, hj⟩ := List.mem_iff_getElem?.mp h
      obtain ⟨rfl, hl⟩ := cells_at hj
      refine ⟨rfl, ?_⟩
      by_cases c : t < long
      · exact c
      · have h0 := hb c k
        unfold kpt at hl
        rw [h0] at hl
        split at hl <;> omega
  · rw [o1 k y hk, if_pos (lt hk), I.qW k y hk]
  · rw [o2 i j hno]
    exact I.q0 i j hno
/-- what is left when slot t's pairing is served -/
def wLeft (z : SwS) (t : Nat) (W : Nat → List Cell) (k : Nat) : List Cell := if z.pl (t % z.sl) (yOf z k).one = some (yOf z k).gate then (W k).tail else W k
theorem LawMid.served (I : LawMid z long t lv marks q W) {ρ : Nat → Nat → Nat} (hp : PlanOk z.m z.sl ρ z.pl) : LawInv z long (t + 1) lv marks (qAfter (z.pl (t % z.sl)) q z.m) (wLeft z t W) := by
  refine ⟨I.mks, fun k y hk => ?_, fun k y x hk hx => ?_, fun k y hk => ?_, fun i j hno => ?_⟩
  · obtain ⟨a, b, h⟩ := I.st k y hk
    have h01 : hit z.pl z.sl y.one y.gate t = 0 ∨ hit z.pl z.sl y.one y.gate t = 1 := by
      unfold hit
      split
      · exact .inr rfl
      · exact .inl rfl
    obtain ⟨s, hs, bu⟩ := busy_served h01 h
    refine ⟨a, b, s, hs, ?_⟩
    have e : wLeft z t W k = if hit z.pl z.sl y.one y.gate t = 1 then (W k).tail else W k := by
      unfold wLeft hit
      rw [yOf_at hk]
      by_cases c : z.pl (t % z.sl) y.one = some y.gate
      · rw [if_pos c, if_pos c, if_pos rfl]
      · rw [if_neg c, if_neg c, if_neg (by decide)]
    rw [e]
    exact bu
  · refine I.who k y x hk ?_
    unfold wLeft at hx
    split at hx
    · exact List.mem_of_mem_tail hx
    · exact hx
  · unfold qAfter wLeft
    rw [yOf_at hk, I.qW k y hk]
    by_cases c : z.pl (t % z.sl) y.one = some y.gate
    · rw [if_pos c, if_pos ⟨(hp.lt _ _ _ c).1, c⟩]
    · rw [if_neg c, if_neg fun h => c h.2]
  · unfold qAfter
    rw [I.q0 i j hno]
    split <;> rfl
/-! ### what goes out -/
theorem sentU_mem {mt : Nat → Option Nat} {q : Nat → Nat → List Cell} {slot : Nat} {s : Sn} : ∀ {k}, s ∈ sentU mt q slot k → s.one < k ∧ mt s.one = some s.gate ∧ (∃ r, q s.one s.gate = s.x :: r) ∧ s.w = (slot : Int) - s.x.2.1
  | 0, h => by cases h
  | k + 1, h => by
    rcases List.mem_append.mp h with h | h
    · obtain ⟨h1, h2⟩ := sentU_mem h
      exact ⟨by omega, h2⟩
    · cases e : mt k with
      | none => rw [e] at h; cases h
      | some j =>
        rw [e] at h
        dsimp only at h
        cases e2 : q k j with
        | nil => rw [e2] at h; cases h
        | cons x r =>
          rw [e2] at h
          have := List.mem_singleton.mp h
          subst this
          exact ⟨Nat.lt_succ_self k, e, ⟨r, e2⟩, rfl⟩
theorem sentU_has {mt : Nat → Option Nat} {q : Nat → Nat → List Cell} {slot i j : Nat} {x : Cell} {r : List Cell} (h1 : mt i = some j) (h2 : q i j = x :: r) : ∀ {k}, i < k → (⟨i, j, x, (slot : Int) - x.2.1⟩ : Sn) ∈ sentU mt q slot k
  | 0, h => by omega
  | k + 1, h => by
    by_cases e : i = k
    · subst e
      refine List.mem_append_right _ ?_
      rw [h1]
      dsimp only
      rw [h2]
      exact List.mem_singleton.mpr rfl
    · exact List.mem_append_left _ (sentU_has h1 h2 (by omega))
theorem sentU_ones {mt : Nat → Option Nat} {q : Nat → Nat → List Cell} {slot : Nat} : ∀ k, (sentU mt q slot k).Pairwise (fun a b => a.one ≠ b.one)
  | 0 => List.Pairwise.nil
  | k + 1 => by
    refine List.pairwise_append.mpr ⟨sentU_ones k, ?_, fun a ha b hb e => ?_⟩
    · cases e : mt k with
      | none => exact List.Pairwise.nil
      | some j =>
        dsimp only
        cases e2 : q k j with
        | nil => exact List.Pairwise.nil
        | cons x r => exact List.pairwise_singleton _ _
    · have h1 := (sentU_mem ha).1
      have h2 : b.one = k := by
        cases e : mt k with
        | none => rw [e] at hb; cases hb
        | some j =>
          rw [e] at hb
          dsimp only at hb
          cases e2 : q k j with
          | nil => rw [e2] at hb; cases hb
          | cons x r =>
            rw [e2] at hb
            rw [List.mem_singleton.mp hb]
      omega
/-- what _law_sent asks -/
structure SendOk (sts : List St4) (W : Nat → List Cell) (slot : Nat) (wt : Nat → Int) (L : List Sn) : Prop where
  it : ∀ s ∈ L, ∃ y, sts[s.x.1]? = some y ∧ y.one = s.one ∧ y.gate = s.gate ∧ (∃ r, W s.x.1 = s.x :: r) ∧ s.w = (slot : Int) - s.x.2.1 ∧ s.w ≤ wt s.x.1
  one : L.Pairwise fun a b => a.one ≠ b.one
  gate : L.Pairwise fun a b => a.gate ≠ b.gate
theorem LawMid.sends (I : LawMid z long t lv marks q W) {ρ : Nat → Nat → Nat} (hp : PlanOk z.m z.sl ρ z.pl) {wt : Nat → Int} (hR : ∀ (k : Nat) y, z.sts[k]? = some y → Rated z y) (hw : ∀ (k : Nat) y, z.sts[k]? = some y → -1 ≤ wt k ∧ ∀ i, i < 2 * z.sl → ∀ a, a < farN z y + 1 → come z y (i + 1) ≤ least z y a → (∀ b, b < a → least z y b < come z y (i + 1)) → (a : Int) - i ≤ wt k + 1) :
    SendOk z.sts W t wt (sentU (z.pl (t % z.sl)) q t z.m) where
  it := fun s hs => by
    obtain ⟨h1, h2, ⟨r, h3⟩, h4⟩ := sentU_mem hs
    have : ∃ (k : Nat) (y : St4), z.sts[k]? = some y ∧ y.one = s.one ∧ y.gate = s.gate := Classical.byContradiction fun hn => by
      have := I.q0 s.one s.gate fun k y hk hh => hn ⟨k, y, hk, hh⟩
      rw [h3] at this
      cases this
    obtain ⟨k, y, hk, e1, e2⟩ := this
    have hW : W k = s.x :: r := by rw [← I.qW k y hk, e1, e2, h3]
    have hx : s.x.1 = k := (I.who k y s.x hk (by rw [hW]; exact List.mem_cons_self)).1
    obtain ⟨a, b, u, hu, bu⟩ := I.st k y hk
    have b0 := bu 0 s.x (by rw [hW]; rfl)
    have hwl := wait_le (hR k y hk) b (s := u) (j := 0) (u := t) (x := s.x) ⟨b0.1, by omega, b0.2.2⟩ hu (hw k y hk).1 (hw k y hk).2
    rw [hx]
    exact ⟨y, hk, e1, e2, ⟨r, hW⟩, h4, by omega⟩
  one := sentU_ones _
  gate := (sentU_ones _).imp_of_mem fun {a b} ha hb hne e => by
    have h1 := (sentU_mem ha).2.1
    have h2 := (sentU_mem hb).2.1
    rw [e] at h1
    exact hne (hp.inj _ _ _ _ h1 h2)
theorem SendOk.ids {sts : List St4} {slot : Nat} {wt : Nat → Int} {L : List Sn} (h : SendOk sts W slot wt L) : L.Pairwise fun a b => a.x.1 ≠ b.x.1 := h.one.imp_of_mem fun {a b} ha hb hne e => by
  obtain ⟨y, h1, h2, _⟩ := h.it a ha
  obtain ⟨y', h1', h2', _⟩ := h.it b hb
  rw [e] at h1
  have : y = y' := Option.some.inj (h1.symm.trans h1')
  exact hne (by rw [← h2, ← h2', this])
/-- what _law_sent leaves -/
def wSent (L : List Sn) (W : Nat → List Cell) (k : Nat) : List Cell := if L.any (fun s => s.x.1 == k) = true then (W k).tail else W k
theorem LawMid.left (I : LawMid z long t lv marks q W) {ρ : Nat → Nat → Nat} (hp : PlanOk z.m z.sl ρ z.pl) : ∀ k, k < z.sts.length → wSent (sentU (z.pl (t % z.sl)) q t z.m) W k = wLeft z t W k := by
  intro k hk
  have hy : z.sts[k]? = some z.sts[k] := List.getElem?_eq_getElem hk
  generalize z.sts[k] = y at hy
  have hq := I.qW k y hy
  unfold wSent wLeft
  rw [yOf_at hy]
  by_cases c : z.pl (t % z.sl) y.one = some y.gate
  · rw [if_pos c]
    cases hW : W k with
    | nil => split <;> rfl
    | cons x r =>
      have h1 := sentU_has (slot := t) c (hq.trans hW) (hp.lt _ _ _ c).1
      have hx := (I.who k y x hy (by rw [hW]; exact List.mem_cons_self)).1
      have ha : ((sentU (z.pl (t % z.sl)) q t z.m).any fun s => s.x.1 == k) = true := List.any_eq_true.mpr ⟨_, h1, by simp [hx]⟩
      rw [if_pos ha]
  · rw [if_neg c, if_neg fun hh => ?_]
    obtain ⟨s, hs, e⟩ := List.any_eq_true.mp hh
    have e := beq_iff_eq.mp e
    obtain ⟨h1, h2, ⟨r, h3⟩, h4⟩ := sentU_mem hs
    have : ∃ (k : Nat) (y : St4), z.sts[k]? = some y ∧ y.one = s.one ∧ y.gate = s.gate := Classical.byContradiction fun hn => by
      have := I.q0 s.one s.gate fun k y hk hh => hn ⟨k, y, hk, hh⟩
      rw [h3] at this
      cases this
    obtain ⟨k', y', hk', e1, e2⟩ := this
    have hx := (I.who k' y' s.x hk' (by rw [← I.qW k' y' hk', e1, e2, h3]; exact List.mem_cons_self)).1
    have ek : k' = k := by rw [← hx, e]
    subst ek
    have : y' = y := Option.some.inj (hk'.symm.trans hy)
    subst this
    exact c (by rw [e1, e2]; exact h2)
/-- no queue is longer than told -/
theorem LawMid.queue (I : LawMid z long t lv marks q W) {k : Nat} {y : St4} (hy : z.sts[k]? = some y) (hR : Rated z y) {v : Int} (hv : ∀ i, i < farN z y → (come z y (i + 1) : Int) - least z y i ≤ v) : ((W k).length : Int) ≤ v := by
  obtain ⟨a, b, h⟩ := I.st k y hy
  exact queue_le hR b h hv
/-- when no cell can be left, none is -/
theorem LawInv.bare (I : LawInv z long t lv marks q W) {k : Nat} {y : St4} (hy : z.sts[k]? = some y) (hR : Rated z y) {v : Int} (h1 : -1 ≤ v) (hv : ∀ i, i < 2 * z.sl → ∀ a, a < farN z y + 1 → come z y (i + 1) ≤ least z y a → (∀ b, b < a → least z y b < come z y (i + 1)) → (a : Int) - i ≤ v + 1)
    (ht : (long : Int) + v < t) : W k = [] := by
  cases hW : W k with
  | nil => rfl
  | cons x r =>
    obtain ⟨a, b, s, hs, bu⟩ := I.st k y hy
    have h2 := (I.who k y x hy (by rw [hW]; exact List.mem_cons_self)).2
    have h3 := wait_le hR b (u := t) (bu 0 x (by rw [hW]; rfl)) hs h1 hv
    omega
theorem LawInv.bareQ (I : LawInv z long t lv marks q W) (h : ∀ k, k < z.sts.length → W k = []) (i j : Nat) : q i j = [] := by
  by_cases c : ∃ (k : Nat) (y : St4), z.sts[k]? = some y ∧ y.one = i ∧ y.gate = j
  · obtain ⟨k, y, hk, e1, e2⟩ := c
    rw [← e1, ← e2, I.qW k y hk]
    exact h k (List.getElem?_eq_some_iff.mp hk).1
  · exact I.q0 i j fun k y hk hh => c ⟨k, y, hk, hh⟩
theorem rated_of (ok : SwOk z) (d : Dis z.sts) (hp : PlanOk z.m z.sl (rho z.sts) z.pl) {k : Nat} {y : St4} (hy : z.sts[k]? = some y) : Rated z y := by
  obtain ⟨h1, h2, _, _, h5, _⟩ := ok.st k y hy
  exact ⟨ok.s0, h5, fun st => by rw [frame_rate hp h1 h2, rho_dis d hy]⟩
theorem refU_eq {counts : List Nat} (hm : ∀ (k : Nat) y, z.sts[k]? = some y → marks k = ((y.burst * z.sl : Nat) : Int) - pos0 (lv k)) (r : Nat) : ∀ n, n ≤ z.sts.length → refU z marks counts r n + sm n (kpt z lv counts) = r + sm n (cnt counts) := by
  intro n
  induction n with
  | zero => intro _; rfl
  | succ n ih =>
    intro hn
    have := ih (by omega)
    have hyn : z.sts[n]? = some z.sts[n] := List.getElem?_eq_getElem (by omega)
    generalize z.sts[n] = yn at hyn
    have ey := yOf_at hyn
    have et : tkn z marks counts n = keeps yn z.sl (lv n) (cnt counts n) := by
      unfold tkn
      rw [ey]
      exact takes_keeps (hm n yn hyn)
    show refU z marks counts r n + (if tkn z marks counts n = true then 0 else cnt counts n) + (sm n (kpt z lv counts) + kpt z lv counts n) = r + (sm n (cnt counts) + cnt counts n)
    rw [et]
    unfold kpt
    rw [ey]
    unfold kpt at this
    cases keeps yn z.sl (lv n) (cnt counts n) with
    | true => rw [if_pos rfl, if_pos rfl]; omega
    | false => rw [if_neg (by decide), if_neg (by decide)]; omega
end
end KX
set_option Elab.async false
set_option linter.all false
set_option maxRecDepth 100000
set_option maxHeartbeats 4000000
/-! KX 26: what is not the switch's; the rows' and columns' sums. -/
namespace KX
open PySem PySem.Spec PyProof.Rows L2 GX
/-- an address of the switch's objects -/
def swAll (p : Addr) (z : SwS) (a : Addr) : Prop := a = p ∨ a = z.ls ∨ a = z.lb ∨ a ∈ z.as ∨ a ∈ z.bs ∨ a = z.ba ∨ a = z.la ∨ (∃ i, i < z.m ∧ a = z.ra i) ∨ ∃ i j, i < z.m ∧ j < z.m ∧ a = z.qa i j
section
variable {T : Tb} {H H' : Hp} {c : Cs} {p : Addr} {z : SwS} {marks : Nat → Int} {refused slot came went : Nat} {q : Nat → Nat → List Cell}
theorem SwAt.what (h : SwAt H c p z marks refused slot came went q) {a : Addr} (ha : swAll p z a) : (∃ C dx fs, H a = some (.ins C dx fs)) ∨ ∃ es : List Addr, H a = some (.lst (es.map V.ref)) := by
  rcases ha with e | e | e | e | e | e | e | ⟨i, hi, e⟩ | ⟨i, j, hi, hj, e⟩
  · obtain ⟨dx, hp⟩ := h.ob
    rw [e]; exact .inl ⟨_, _, _, hp⟩
  · rw [e]; exact .inr ⟨_, h.sl⟩
  · rw [e]; exact .inr ⟨_, h.bl⟩
  · obtain ⟨k, hk⟩ := List.mem_iff_getElem?.mp e
    have hk' : k < z.sts.length := by rw [← h.slen]; exact (List.getElem?_eq_some_iff.mp hk).1
    obtain ⟨dx, h1⟩ := h.st k a _ hk (List.getElem?_eq_getElem hk')
    exact .inl ⟨_, _, _, h1⟩
  · obtain ⟨k, hk⟩ := List.mem_iff_getElem?.mp e
    have hk' : k < z.sts.length := by rw [← h.blen]; exact (List.getElem?_eq_some_iff.mp hk).1
    obtain ⟨dx, h1⟩ := h.bk k a _ hk (List.getElem?_eq_getElem hk')
    exact .inl ⟨_, _, _, h1⟩
  · obtain ⟨dx, hp⟩ := h.bar.ob
    rw [e]; exact .inl ⟨_, _, _, hp⟩
  · rw [e]
    exact .inr ⟨(List.range z.m).map z.ra, by rw [h.bar.rows, List.map_map]; rfl⟩
  · rw [e]
    exact .inr ⟨(List.range z.m).map (z.qa i), by rw [h.bar.row i hi, List.map_map]; rfl⟩
  · obtain ⟨es, h1, _⟩ := (h.bar.que i j hi hj).ex
    rw [e]; exact .inr ⟨_, h1⟩
theorem SwAt.notNone (h : SwAt H c p z marks refused slot came went q) {a : Addr} (ha : H a = none) : ¬ swAll p z a := fun hh => by
  rcases h.what hh with ⟨_, _, _, e⟩ | ⟨_, e⟩ <;> rw [ha] at e <;> cases e
theorem SwAt.notInt (h : SwAt H c p z marks refused slot came went q) {a : Addr} {i : Int} {r : List V} (ha : H a = some (.lst (.int i :: r))) : ¬ swAll p z a := fun hh => by
  rcases h.what hh with ⟨_, _, _, e⟩ | ⟨es, e⟩
  · rw [ha] at e; cases e
  · rw [ha] at e
    cases es with
    | nil => cases e
    | cons x r => injection e with e; injection e with e; cases e
theorem SwAt.notTup (h : SwAt H c p z marks refused slot came went q) {a : Addr} {xs : List V} (ha : H a = some (.tup xs)) : ¬ swAll p z a := fun hh => by
  rcases h.what hh with ⟨_, _, _, e⟩ | ⟨es, e⟩ <;> rw [ha] at e <;> cases e
theorem swL_all {a : Addr} (h : a ∈ swL p z) : swAll p z a := by
  rcases List.mem_cons.mp h with e | e
  · exact .inl e
  · rcases List.mem_append.mp e with e | e
    · exact .inr (.inr (.inr (.inr (.inl e))))
    · rcases barL_mem.mp e with e | ⟨i, j, hi, hj, e⟩
      · exact .inr (.inr (.inr (.inr (.inr (.inl e)))))
      · exact .inr (.inr (.inr (.inr (.inr (.inr (.inr (.inr ⟨i, j, hi, hj, e⟩)))))))
theorem SwAt.frM (h : SwAt H c p z marks refused slot came went q) {M : List Addr} (f : Fr T M H H') (n : ∀ a ∈ M, ¬ swAll p z a) : SwAt H' c p z marks refused slot came went q where
  ok := h.ok
  ob := let ⟨dx, h1⟩ := h.ob; ⟨dx, f.insN h1 fun hm => n _ hm (.inl rfl)⟩
  sl := f.lstN h.sl fun hm => n _ hm (.inr (.inl rfl))
  slen := h.slen
  st := fun k a y e1 e2 => let ⟨dx, h1⟩ := h.st k a y e1 e2; ⟨dx, f.insN h1 fun hm => n _ hm (.inr (.inr (.inr (.inl (List.mem_of_getElem? e1)))))⟩
  bl := f.lstN h.bl fun hm => n _ hm (.inr (.inr (.inl rfl)))
  blen := h.blen
  bk := fun k a y e1 e2 => let ⟨dx, h1⟩ := h.bk k a y e1 e2; ⟨dx, f.insN h1 fun hm => n _ hm (.inr (.inr (.inr (.inr (.inl (List.mem_of_getElem? e1))))))⟩
  bnd := h.bnd
  plan := by
    obtain ⟨bs, h1, h2, h3⟩ := h.plan.ex
    exact ⟨bs, f.tup _ _ h1, h2, fun t b e => f.tup _ _ (h3 t b e)⟩
  bar := h.bar.fr f (fun hm => n _ hm (.inr (.inr (.inr (.inr (.inr (.inl rfl))))))) (fun hm => n _ hm (.inr (.inr (.inr (.inr (.inr (.inr (.inl rfl)))))))) (fun i hi hm => n _ hm (.inr (.inr (.inr (.inr (.inr (.inr (.inr (.inl ⟨i, hi, rfl⟩))))))))) fun i j hi hj hm => n _ hm (.inr (.inr (.inr (.inr (.inr (.inr (.inr (.inr ⟨i, j, hi, hj, rfl⟩))))))))
  nq := h.nq
end
theorem Dice.fr {T : Tb} {M : List Addr} {H H' : Hp} {d : Addr} (h : Dice H d) (f : Fr T M H H') (n : d ∉ M) : Dice H' d := let ⟨a, b, c, e⟩ := h; ⟨a, b, c, f.lstN e n⟩
theorem Dice.not {H : Hp} {d : Addr} {c : Cs} {p : Addr} {z : SwS} {marks : Nat → Int} {refused slot came went : Nat} {q : Nat → Nat → List Cell} (h : Dice H d) (S : SwAt H c p z marks refused slot came went q) : ¬ swAll p z d := let ⟨a, b, c, e⟩ := h; S.notInt e
/-! ### rows' and columns' sums -/
def rsum (L : List St4) (i : Nat) : Nat := (L.map fun y => if y.one = i then y.rate else 0).sum
def csum (L : List St4) (j : Nat) : Nat := (L.map fun y => if y.gate = j then y.rate else 0).sum
theorem sm_plus (f g : Nat → Nat) : ∀ n, sm n (fun i => f i + g i) = sm n f + sm n g
  | 0 => rfl
  | n + 1 => by
    show sm n (fun i => f i + g i) + (f n + g n) = (sm n f + f n) + (sm n g + g n)
    rw [sm_plus f g n]
    omega
theorem sm_zero : ∀ n, sm n (fun _ => 0) = 0
  | 0 => rfl
  | n + 1 => by
    show sm n (fun _ => 0) + 0 = 0
    rw [sm_zero n]
theorem sm_at (a r : Nat) : ∀ n, sm n (fun j => if a = j then r else 0) = if a < n then r else 0
  | 0 => by rw [if_neg (by omega)]; rfl
  | n + 1 => by
    show sm n (fun j => if a = j then r else 0) + (if a = n then r else 0) = _
    rw [sm_at a r n]
    by_cases e : a = n
    · rw [if_neg (by omega), if_pos e, if_pos (by omega)]; omega
    · rw [if_neg e]
      by_cases e2 : a < n
      · rw [if_pos e2, if_pos (by omega), Nat.add_zero]
      · rw [if_neg e2, if_neg (by omega)]
theorem rho_cons (y : St4) (L : List St4) (i j : Nat) : rho (y :: L) i j = (if y.one = i ∧ y.gate = j then y.rate else 0) + rho L i j := by simp [rho]
theorem sm_row {m : Nat} (i : Nat) : ∀ L : List St4, (∀ y ∈ L, y.gate < m) → sm m (rho L i) = rsum L i
  | [], _ => sm_zero m
  | y :: L, h => by
    have e : sm m (rho (y :: L) i) = sm m (fun j => (if y.one = i ∧ y.gate = j then y.rate else 0) + rho L i j) := sm_congr fun j _ => rho_cons y L i j
    rw [e, sm_plus]
    have e2 : sm m (fun j => rho L i j) = rsum L i := sm_row i L fun x hx => h x (List.mem_cons_of_mem _ hx)
    rw [e2]
    have e3 : rsum (y :: L) i = (if y.one = i then y.rate else 0) + rsum L i := by simp [rsum]
    rw [e3]
    congr 1
    by_cases c : y.one = i
    · rw [if_pos c]
      have e4 : sm m (fun j => if y.one = i ∧ y.gate = j then y.rate else 0) = sm m (fun j => if y.gate = j then y.rate else 0) := sm_congr fun j _ => by simp [c]
      rw [e4, sm_at, if_pos (h y List.mem_cons_self)]
    · rw [if_neg c]
      have e4 : sm m (fun j => if y.one = i ∧ y.gate = j then y.rate else 0) = sm m (fun _ => 0) := sm_congr fun j _ => by simp [c]
      rw [e4, sm_zero]
theorem sm_col {m : Nat} (j : Nat) : ∀ L : List St4, (∀ y ∈ L, y.one < m) → sm m (fun i => rho L i j) = csum L j
  | [], _ => sm_zero m
  | y :: L, h => by
    have e : sm m (fun i => rho (y :: L) i j) = sm m (fun i => (if y.one = i ∧ y.gate = j then y.rate else 0) + rho L i j) := sm_congr fun i _ => rho_cons y L i j
    rw [e, sm_plus]
    have e2 : sm m (fun i => rho L i j) = csum L j := sm_col j L fun x hx => h x (List.mem_cons_of_mem _ hx)
    rw [e2]
    have e3 : csum (y :: L) j = (if y.gate = j then y.rate else 0) + csum L j := by simp [csum]
    rw [e3]
    congr 1
    by_cases c : y.gate = j
    · rw [if_pos c]
      have e4 : sm m (fun i => if y.one = i ∧ y.gate = j then y.rate else 0) = sm m (fun i => if y.one = i then y.rate else 0) := sm_congr fun i _ => by simp [c]
      rw [e4, sm_at, if_pos (h y List.mem_cons_self)]
    · rw [if_neg c]
      have e4 : sm m (fun i => if y.one = i ∧ y.gate = j then y.rate else 0) = sm m (fun _ => 0) := sm_congr fun i _ => by simp [c]
      rw [e4, sm_zero]
theorem rsum_app (L : List St4) (y : St4) (i : Nat) : rsum (L ++ [y]) i = rsum L i + if y.one = i then y.rate else 0 := by simp [rsum]
theorem csum_app (L : List St4) (y : St4) (j : Nat) : csum (L ++ [y]) j = csum L j + if y.gate = j then y.rate else 0 := by simp [csum]
/-- no gate has more than a frame's slots -/
def RoomL (L : List St4) (sl : Nat) : Prop := (∀ i, rsum L i ≤ sl) ∧ ∀ j, csum L j ≤ sl
theorem SwOk.mem {z : SwS} (h : SwOk z) : ∀ y ∈ z.sts, y.one < z.m ∧ y.gate < z.m := fun y hy => by
  obtain ⟨k, hk⟩ := List.mem_iff_getElem?.mp hy
  obtain ⟨h1, h2, _⟩ := h.st k y hk
  exact ⟨h1, h2⟩
theorem room_iff {z : SwS} {y : St4} (h : SwOk z) (h1 : y.one < z.m) (h2 : y.gate < z.m) (R : RoomL z.sts z.sl) : roomS z y ↔ rsum z.sts y.one + y.rate ≤ z.sl ∧ csum z.sts y.gate + y.rate ≤ z.sl := by
  have mem : ∀ x ∈ z.sts ++ [y], x.one < z.m ∧ x.gate < z.m := fun x hx => (List.mem_append.mp hx).elim (h.mem x) fun e => by rw [List.mem_singleton.mp e]; exact ⟨h1, h2⟩
  have er : ∀ i, sm z.m (rho (z.sts ++ [y]) i) = rsum z.sts i + if y.one = i then y.rate else 0 := fun i => by rw [sm_row i _ fun x hx => (mem x hx).2, rsum_app]
  have ec : ∀ j, sm z.m (fun i => rho (z.sts ++ [y]) i j) = csum z.sts j + if y.gate = j then y.rate else 0 := fun j => by rw [sm_col j _ fun x hx => (mem x hx).1, csum_app]
  constructor
  · rintro ⟨g1, g2⟩
    have a1 := g1 y.one h1
    have a2 := g2 y.gate h2
    rw [er, if_pos rfl] at a1
    rw [ec, if_pos rfl] at a2
    exact ⟨a1, a2⟩
  · rintro ⟨g1, g2⟩
    refine ⟨fun i hi => ?_, fun j hj => ?_⟩
    · rw [er]
      have := R.1 i
      by_cases e : y.one = i
      · rw [if_pos e, ← e]; exact g1
      · rw [if_neg e]; omega
    · rw [ec]
      have := R.2 j
      by_cases e : y.gate = j
      · rw [if_pos e, ← e]; exact g2
      · rw [if_neg e]; omega
theorem RoomL.app {L : List St4} {sl : Nat} {y : St4} (R : RoomL L sl) (h1 : rsum L y.one + y.rate ≤ sl) (h2 : csum L y.gate + y.rate ≤ sl) : RoomL (L ++ [y]) sl := by
  refine ⟨fun i => ?_, fun j => ?_⟩
  · rw [rsum_app]
    have := R.1 i
    by_cases e : y.one = i
    · rw [if_pos e, ← e]; exact h1
    · rw [if_neg e]; omega
  · rw [csum_app]
    have := R.2 j
    by_cases e : y.gate = j
    · rw [if_pos e, ← e]; exact h2
    · rw [if_neg e]; omega
theorem Dis.app {L : List St4} {y : St4} (d : Dis L) (h : ¬ ∃ (k : Nat) (x : St4), L[k]? = some x ∧ x.one = y.one ∧ x.gate = y.gate) : Dis (L ++ [y]) := by
  have at_ : ∀ {k : Nat} {u : St4}, (L ++ [y])[k]? = some u → L[k]? = some u ∨ (k = L.length ∧ u = y) := fun {k u} e => by
    rcases Nat.lt_or_ge k L.length with hk | hk
    · rw [List.getElem?_append_left hk] at e
      exact .inl e
    · rw [List.getElem?_append_right hk] at e
      have : k - L.length = 0 := by
        have := (List.getElem?_eq_some_iff.mp e).1
        rw [List.length_singleton] at this
        omega
      rw [this] at e
      exact .inr ⟨by omega, (Option.some.inj e).symm⟩
  intro k k' u u' h1 h2 e1 e2
  rcases at_ h1 with a | ⟨a, b⟩ <;> rcases at_ h2 with a' | ⟨a', b'⟩
  · exact d k k' u u' a a' e1 e2
  · exact absurd ⟨k, u, a, by rw [e1, b'], by rw [e2, b']⟩ h
  · exact absurd ⟨k', u', a', by rw [← e1, b], by rw [← e2, b]⟩ h
  · omega
theorem filt_sum (L : List St4) (p : St4 → Bool) : ((L.filter p).map fun y => ((y.rate : Nat) : Int)).sum = (((L.map fun y => if p y = true then y.rate else 0).sum : Nat) : Int) := by
  induction L with
  | nil => rfl
  | cons y L ih =>
    cases h : p y with
    | true => simp [List.filter_cons, h, ih]
    | false => simp [List.filter_cons, h, ih]
end KX
set_option Elab.async false
set_option linter.all false
set_option maxRecDepth 100000
set_option maxHeartbeats 4000000
/-! KX 27: the streams asked for. -/
namespace KX
open PySem PySem.Spec PyProof.Rows L2 GX
structure StrSt (T : Tb) (c : Cs) (d p sa : Addr) (z : SwS) (H : Hp) (i : Nat) (z' : SwS) (marks : Nat → Int) (H' : Hp) : Prop where
  len : z'.sts.length ≤ i
  fr : Fr T [d, p, z.ls, z.lb] H H'
  dice : Dice H' d
  sw : SwAt H' c p z' marks 0 0 0 0 (fun _ _ => [])
  hm : z'.m = z.m
  hs : z'.sl = z.sl
  hls : z'.ls = z.ls
  hlb : z'.lb = z.lb
  plan : PlanOk z'.m z'.sl (rho z'.sts) z'.pl
  mk_ : ∀ (k : Nat) y, z'.sts[k]? = some y → marks k = (y.burst * z'.sl : Nat)
  dis : Dis z'.sts
  room : RoomL z'.sts z'.sl
  stm : StrsAt H' sa z'.sts
  nsa : sa ∉ swL p z'
  nd : sa ∉ [d, p, z.ls, z.lb]
section
variable {T : Tb} {c : Cs} {d p sa : Addr} {z z' : SwS} {H H1 H2 : Hp} {i : Nat} {marks : Nat → Int}
theorem StrSt.roll (h : StrSt T c d p sa z H i z' marks H1) (f : Fr T [d] H1 H2) (hd : Dice H2 d) : StrSt T c d p sa z H i z' marks H2 := by
  have nsd : sa ∉ [d] := fun hm => h.nd (by rw [List.mem_singleton.mp hm]; exact List.mem_cons_self)
  obtain ⟨bs, h1, h2, h3⟩ := h.stm
  exact ⟨h.len, h.fr.trans (f.mono (by simp)), hd, h.sw.frM f (fun a ha => by rw [List.mem_singleton.mp ha]; exact h.dice.not h.sw), h.hm, h.hs, h.hls, h.hlb, h.plan, h.mk_, h.dis, h.room, ⟨bs, f.lstN h1 nsd, h2, fun k b y e1 e2 => f.tup _ _ (h3 k b y e1 e2)⟩, h.nsa, h.nd⟩
theorem StrSt.fr0 (h : StrSt T c d p sa z H i z' marks H1) (f : Fr T [] H1 H2) : StrSt T c d p sa z H i z' marks H2 := h.roll f.up (h.dice.fr f (by simp))
end
def spStreams (T : Tb) (c : Cs) : Sp := fun vs H Q _ => ∃ (d p : Addr) (z : SwS), vs = [.ref d, .ref p, .int z.m, .int z.sl] ∧ TbOk T H ∧ Dice H d ∧ SwAt H c p z (fun _ => 0) 0 0 0 0 (fun _ _ => []) ∧ z.sts = [] ∧ z.ls ≠ z.lb ∧ PlanOk z.m z.sl (rho []) z.pl ∧ z.m ≤ 12 ∧ z.sl ≤ 30 ∧
  ∀ (sa : Addr) i z' marks H', StrSt T c d p sa z H i z' marks H' → i ≤ 20 → Q (.ref sa) H'
abbrev sStreams : Stmt := top 32
abbrev sTold : Stmt := top 31
abbrev nStreams : List Str := ["dice", "switch", "many", "slots", "streams", "turn", "one", "gate", "rate", "burst", "row", "column", "room", "due", "stream"]
theorem scStreams : FnScope nStreams ["dice", "switch", "many", "slots"] (defScope sStreams) := ⟨rfl, rfl, rfl, by decide +kernel, rfl, by decide +kernel, by decide +kernel⟩
abbrev nTold : List Str := ["what"]
theorem scTold : FnScope nTold ["what"] (defScope sTold) := ⟨rfl, rfl, rfl, by decide +kernel, rfl, by decide +kernel, by decide +kernel⟩
/-- the six classes that _law_told takes -/
structure ToldX (K : PySem.W.Frag) (mg : Str → Option Value) (BR : Addr) (g n s b o : Addr) : Prop where
  mG : mg "BadGate" = some (.ref g)
  mN : mg "BadNet" = some (.ref n)
  mR : mg "BadRate" = some (.ref BR)
  mS : mg "BadSize" = some (.ref s)
  mB : mg "Blocked" = some (.ref b)
  mO : mg "NoSuch" = some (.ref o)
  ex : PySem.W.exmAny K (.ref BR) [.ref g, .ref n, .ref BR, .ref s, .ref b, .ref o] = some true
/-! ### sums over the streams -/
theorem lc_strs {T : Tb} {K : PySem.W.Frag} {σ : L2.St} {sa : Addr} {L : List St4} {H : Hp} {i0 v0 : Nat} {j0 : Int} {j1 : Nat} {sel : St4 → Nat} {Q : VK} (hσ : σ.length = 15) (h14 : σ[14]? = some none) (hi : i0 < 14) (hv : σ[i0]? = some (some (.int (v0 : Nat)))) (hs4 : σ[4]? = some (some (.ref sa))) (hS : StrsAt H sa L) (hj : j0 = (j1 : Nat))
    (hsel : ∀ y : St4, [V.int y.one, V.int y.gate, V.int y.burst, V.int y.rate][j1]? = some (.int (sel y : Nat))) (hL : L.length ≤ 40) (k : ∀ H', Fr T [] H H' → Q (.int (((L.map fun y => if sel y = v0 then y.rate else 0).sum : Nat) : Int)) H') :
    tCB (rSum K) (tCons (tLc (iList K (tVar 4)) (gName 14) (tTest (tOp rEq (tOp (rIxT K) (tVar 14) (tC (.int j0))) (tVar i0))) (tOp (rIxT K) (tVar 14) (tC (.int 3))) [14]) tNil) σ H Q := by
  obtain ⟨bs, hsa, hbl, hbt⟩ := hS
  have hbL : (bs.map V.ref).length = L.length := by rw [List.length_map]; exact hbl
  refine ⟨_, hs4, sa, rfl, ⟨_, SqL.of hsa⟩, fun D hD => ?_⟩
  refine lc_sq (sq_list (a := sa) (xs := bs.map V.ref)) (fun i H' => Fr T [] H H' ∧ H' D = some (.lst ((((L.take i).filter fun y => decide (sel y = v0)).map fun y => ((y.rate : Nat) : Int)).map V.int))) ⟨Fr.new hD, upd_same⟩ (fun i H' _ p => SqL.of (p.1.lst hsa)) ?_ ?_
  · rintro i x H2 H2' hi2 ⟨fr2, hD2⟩ ⟨hx, rfl⟩
    obtain ⟨b, hb, rfl⟩ := getRef hx
    have hiL : i < L.length := by rw [← hbL]; exact hi2
    have hy : L[i]? = some L[i] := List.getElem?_eq_getElem hiL
    generalize L[i] = y at hy
    have hb2 := fr2.tup _ _ (hbt i b y hb hy)
    have ew : wipe σ [14] = σ.set 14 none := rfl
    have e14 : ((wipe σ [14]).set 14 (some (V.ref b)))[14]? = some (some (V.ref b)) := by rw [ew, List.getElem?_set_self (by rw [List.length_set]; omega)]
    have ei0 : ((wipe σ [14]).set 14 (some (V.ref b)))[i0]? = some (some (V.int (v0 : Nat))) := by rw [ew, List.getElem?_set_ne (by omega), List.getElem?_set_ne (by omega)]; exact hv
    refine ⟨by rw [ew]; show ((σ.set 14 none).set 14 (some (V.ref b))).set 14 none = _; rw [List.set_set, List.set_set], ?_⟩
    have et : L.take (i + 1) = L.take i ++ [y] := by rw [List.take_succ, hy]; rfl
    have ed : decide (V.int (sel y : Nat) = V.int (v0 : Nat)) = decide (sel y = v0) := by
      rw [dec_int, Bool.eq_iff_iff, beq_iff_eq, decide_eq_true_eq]
      omega
    by_cases c : sel y = v0
    · refine ⟨_, e14, b, _, _, _, rfl, rfl, SqT.of hb2, at_of (j := j1) hj (hsel y), _, ei0, rfl, true, congrArg V.bl (by rw [ed]; exact decide_eq_true c), ?_⟩
      refine ⟨_, e14, b, _, _, _, rfl, rfl, SqT.of hb2, at_of (j := 3) rfl rfl, _, hD2, ?_, fr2.own hD hD2 (.lst _), ?_⟩
      · rw [List.length_map, List.length_map]
        have := List.length_filter_le (fun y => decide (sel y = v0)) (L.take i)
        have h2 : (L.take i).length ≤ i := by rw [List.length_take]; omega
        exact inLine (by omega)
      · rw [upd_same, et, List.filter_append, List.map_append, List.map_append]
        have : [y].filter (fun y => decide (sel y = v0)) = [y] := by simp [c]
        rw [this]
        rfl
    · refine ⟨_, e14, b, _, _, _, rfl, rfl, SqT.of hb2, at_of (j := j1) hj (hsel y), _, ei0, rfl, false, congrArg V.bl (by rw [ed]; exact decide_eq_false c), fr2, ?_⟩
      rw [hD2, et, List.filter_append]
      have : [y].filter (fun y => decide (sel y = v0)) = [] := by simp [c]
      rw [this, List.append_nil]
  · rintro H2 ⟨fr2, hD2⟩
    rw [hbL, List.take_length] at hD2
    refine ⟨D, _, rfl, SqL.of hD2, ?_⟩
    have e := filt_sum L fun y => decide (sel y = v0)
    rw [e]
    have e2 : (L.map fun y => if decide (sel y = v0) = true then y.rate else 0) = L.map fun y => if sel y = v0 then y.rate else 0 := List.map_congr_left fun y _ => by simp
    rw [e2]
    exact k H2 fr2
section
variable {P : Program} {w : World} {K : PySem.W.Frag} {mg : Str → Option Value} {base : Heap} {T : Tb} {c : Cs}
theorem ok_streams {f cd fR fT fA BR eg en es eb eo : Addr} {fd fdR fdT fdA : FuncData} (F : FunC K "_law_streams" "_law_streams" sStreams f fd cd) (TB : LamX.TabB base mg cd T.streams) (B : Bl mg) (KW : Kl K c.W aSw)
    (GR : FnOk P w K mg base CX0 1 fR fdR ["dice", "many"] (spRoll T)) (mR : mg "_law_roll" = some (.ref fR)) (kR : PySem.W.keepIn K (.ref fR) = true) (bR : Binds K fdR ["dice", "many"] [])
    (FT : Fun K "_law_told" "_law_told" sTold fT fdT) (mT : mg "_law_told" = some (.ref fT)) (bT : Binds K fdT ["what"] [])
    (GA : FnOk P w K mg base (L2.CX P w) 5 fA fdA ["self", "one", "gate", "burst", "rate"] (spAd T c BR)) (bA : Binds K fdA ["self", "one", "gate", "burst", "rate"] []) (mA : Meth K c.W "admit" fA) (XT : ToldX K mg BR eg en es eb eo) :
    FnOk P w K mg base CX0 8 f fd ["dice", "switch", "many", "slots"] (spStreams T c) := by
  have nd := scStreams.nd
  refine F.ok scStreams (fun vs H Q E h => ?_) (fun A outer s0 H vs Q E hr h => ?_)
  · obtain ⟨d, p, z, rfl, _⟩ := h
    rfl
  · obtain ⟨d, p, z, rfl, hT, hd, SA, hs0, nlb, po, hm, hsl, k⟩ := h
    obtain ⟨⟨ocT, odT, kVT, docT, pmT, anT, cdT, ctT, oslT, eT, lkT, cdInT⟩, kT⟩ := FT
    subst eT
    have hr1 := hr.mono (show 1 ≤ 7 by decide)
    refine ⟨_, pss_cons (ps_set (i := 4) nd rfl (Or.inl rfl) (pe_lst pa_nil))
      (C8.pss_cut (ps_for PassesOwn.never rfl (pi_range1 rfl B.range (pa_cons (pe_ix ix_list (pe_lst (pa_cons (pe_call GR hr1 rfl mR kR bR .nil pass0 (pa_cons (pv 0) (pa_cons pe_int pa_nil))) (pa_cons (pe_call GR hr1 rfl mR kR bR .nil pass0 (pa_cons (pv 0) (pa_cons pe_int pa_nil))) pa_nil))) (pe_call GR hr1 rfl mR kR bR .nil pass0 (pa_cons (pv 0) (pa_cons pe_int pa_nil))) (fun _ _ => rfl)) pa_nil)) (pg_name (i := 5) nd rfl (Or.inl rfl))
        (C8.pss_cut (ps_asg (pe_tup (pa_cons (pe_call GR hr1 rfl mR kR bR .nil pass0 (pa_cons (pv 0) (pa_cons (pv 2) pa_nil))) (pa_cons (pe_call GR hr1 rfl mR kR bR .nil pass0 (pa_cons (pv 0) (pa_cons (pv 2) pa_nil))) pa_nil))) (pg_tup rfl (pgs_cons (pg_name (i := 6) nd rfl (Or.inr rfl)) (pgs_cons (pg_name (i := 7) nd rfl (Or.inr rfl)) pgs_nil))))
        (C8.pss_cut (ps_set (i := 8) nd rfl (Or.inr rfl) (pe_op op_add pe_int (pe_call GR hr1 rfl mR kR bR .nil pass0 (pa_cons (pv 0) (pa_cons (pe_op op_add pe_int (pe_op op_fdiv (pv 3) (pe_ix ix_list (pe_lst (pa_cons pe_int (pa_cons pe_int (pa_cons pe_int pa_nil)))) (pe_call GR hr1 rfl mR kR bR .nil pass0 (pa_cons (pv 0) (pa_cons pe_int pa_nil))) (fun _ _ => rfl)))) pa_nil)))))
        (C8.pss_cut (ps_set (i := 9) nd rfl (Or.inr rfl) (pe_op op_add pe_int (pe_call GR hr1 rfl mR kR bR .nil pass0 (pa_cons (pv 0) (pa_cons (pe_ix ix_list (pe_lst (pa_cons pe_int (pa_cons (pe_ix ix_list (pe_lst (pa_cons pe_int (pa_cons (pe_op op_add pe_int (pv 8)) pa_nil))) (pe_callTy call_intA (by rfl) B.int boot_int (pa_cons (pe_cmpR op_gt (pv 3) pe_int rfl) pa_nil)) (fun _ _ => rfl)) pa_nil))) (pe_call GR hr1 rfl mR kR bR .nil pass0 (pa_cons (pv 0) (pa_cons pe_int pa_nil))) (fun _ _ => rfl)) pa_nil)))))
        (C8.pss_cut (ps_set (i := 10) nd rfl (Or.inl rfl) (pe_callB (cr_sum rfl) (by rfl) B.sum boot_sum (pa_cons (pe_lc (own := [("stream", 14)]) (g := gName 14) (tt := tTest (tOp rEq (tOp (rIxT K) (tVar 14) (tC (.int 0))) (tVar 6))) (te := tOp (rIxT K) (tVar 14) (tC (.int 3))) rfl nd (pi_list (pv 4)) (blkOk_by (N := nStreams) (sc := defScope sStreams) (by decide +kernel)) (fun _ _ _ _ _ => pg_name (i := 14) nd rfl (Or.inl rfl)) (fun _ _ _ _ _ => pts_one (pt_cmpR op_eq (pe_ix ix_tup (pv 14) pe_int (fun _ _ => rfl)) (pv 6) rfl)) (fun _ _ _ _ _ => pe_ix ix_tup (pv 14) pe_int (fun _ _ => rfl))) pa_nil)))
        (C8.pss_cut (ps_set (i := 11) nd rfl (Or.inl rfl) (pe_callB (cr_sum rfl) (by rfl) B.sum boot_sum (pa_cons (pe_lc (own := [("stream", 14)]) (g := gName 14) (tt := tTest (tOp rEq (tOp (rIxT K) (tVar 14) (tC (.int 1))) (tVar 7))) (te := tOp (rIxT K) (tVar 14) (tC (.int 3))) rfl nd (pi_list (pv 4)) (blkOk_by (N := nStreams) (sc := defScope sStreams) (by decide +kernel)) (fun _ _ _ _ _ => pg_name (i := 14) nd rfl (Or.inl rfl)) (fun _ _ _ _ _ => pts_one (pt_cmpR op_eq (pe_ix ix_tup (pv 14) pe_int (fun _ _ => rfl)) (pv 7) rfl)) (fun _ _ _ _ _ => pe_ix ix_tup (pv 14) pe_int (fun _ _ => rfl))) pa_nil)))
        (C8.pss_cut (ps_set (i := 12) nd rfl (Or.inl rfl) (pe_and (pe_cmpR op_le (pe_op op_add (pv 10) (pv 8)) (pv 3) rfl) (pe_one (pe_cmpR op_le (pe_op op_add (pv 11) (pv 8)) (pv 3) rfl))))
        (C8.pss_cut (ps_set (i := 13) nd rfl (Or.inl rfl) (pe_and (pv 12) (pe_one (pe_cmpR (op_eqD hr.units) (pe_lc (own := [("stream", 14)]) (g := gName 14) (tt := tTest (tOp (rEqD K) (tSl (rSlT K) (tVar 14) tNoPart (tPart (tC (.int 2)))) (tTup (tCons (tVar 6) (tCons (tVar 7) tNil))))) (te := tC (.int 1)) rfl nd (pi_list (pv 4)) (blkOk_by (N := nStreams) (sc := defScope sStreams) (by decide +kernel)) (fun _ _ _ _ _ => pg_name (i := 14) nd rfl (Or.inl rfl)) (fun _ _ _ _ _ => pts_one (pt_cmpR (op_eqD hr.units) (pe_slice sl_tup (pv 14) po_none (po_some pe_int)) (pe_tup (pa_cons (pv 6) (pa_cons (pv 7) pa_nil))) rfl)) (fun _ _ _ _ _ => pe_int)) (pe_lst pa_nil) rfl))))
        (C8.pss_cut (ps_if (pt_cmpR op_ne (pe_cmpR op_eq (pe_lamcall3 (T := [(T.streams, lamQ)]) (Ng := nTold) (c := cd) (P := T.streams) (k := 5) (t := fun E => tMeth c.W "admit" (spAd T c BR) [] E (tVar 1) (tCons (tVar 6) (tCons (tVar 7) (tCons (tVar 9) (tCons (tVar 8) tNil))))) rfl mT kT lkT cdInT bT scTold rfl (.inl rfl)
            (told_givesN (l := [("BadGate", _, .ref eg), ("BadNet", _, .ref en), ("BadRate", _, .ref BR), ("BadSize", _, .ref es), ("Blocked", _, .ref eb), ("NoSuch", _, .ref eo)]) (List.forall_mem_cons.mpr ⟨⟨rfl, by rfl, XT.mG⟩, List.forall_mem_cons.mpr ⟨⟨rfl, by rfl, XT.mN⟩, List.forall_mem_cons.mpr ⟨⟨rfl, by rfl, XT.mR⟩, List.forall_mem_cons.mpr ⟨⟨rfl, by rfl, XT.mS⟩, List.forall_mem_cons.mpr ⟨⟨rfl, by rfl, XT.mB⟩, List.forall_mem_cons.mpr ⟨⟨rfl, by rfl, XT.mO⟩, fun _ h => by cases h⟩⟩⟩⟩⟩⟩) (by show 6 ≤ sizeLine; decide) (fun _ => rfl))
            TB rfl (List.mem_singleton.mpr rfl) (fun q hq _ => by rw [List.mem_singleton.mp hq]; rfl) hr (LamX.lamS_by (sc := defScope sStreams) (by decide +kernel)) rfl (fun _ _ _ _ _ => rfl)
            (fun A outer s H E f c' hr => pe_meth (pv 1) KW.cl mA GA hr bA .nil (passes_call (takes_of rfl rfl rfl rfl) fun _ _ _ _ h => h) (pa_cons (pv 6) (pa_cons (pv 7) (pa_cons (pv 9) (pa_cons (pv 8) pa_nil)))))) (pe_callB call_lenS (by rfl) B.len boot_len (pa_cons (pv 4) pa_nil)) rfl) (pv 13) rfl) (pss_one (ps_ret pe_non)) pss_nil)
        (pss_one (ps_if (pt_val (pv 13)) (pss_one (ps_expr (pe_bm PySem.F.plainAttrs_list PySem.F.slot_list_append PySem.F.type_list_append mt_append (pv 4) (pa_cons (pe_tup (pa_cons (pv 6) (pa_cons (pv 7) (pa_cons (pv 9) (pa_cons (pv 8) pa_nil))))) pa_nil)))) pss_nil)))))))))))
      (pss_one (ps_ret (pv 4)))), ?_⟩
    refine ⟨(by show 0 ≤ sizeLine; decide), fun sa hsa => ?_⟩
    have fr0 : Fr T [] H (upd H sa (.lst [])) := Fr.new hsa
    have hd0 := hd.fr fr0 (by simp)
    have SA0 := SA.fr0 fr0
    have nd0 : sa ∉ [d, p, z.ls, z.lb] := fun hm => by
      obtain ⟨dx, hp⟩ := SA.ob
      obtain ⟨a1, b1, c1, hd1⟩ := hd
      rcases List.mem_cons.mp hm with e | hm
      · rw [← e, hsa] at hd1; cases hd1
      rcases List.mem_cons.mp hm with e | hm
      · rw [← e, hsa] at hp; cases hp
      rcases List.mem_cons.mp hm with e | hm
      · have := SA.sl
        rw [← e, hsa] at this; cases this
      · have := SA.bl
        rw [← List.mem_singleton.mp hm, hsa] at this; cases this
    have st0 : StrSt T c d p sa z H 0 z (fun _ => 0) (upd H sa (.lst [])) := by
      refine ⟨by rw [hs0]; exact Nat.le_refl _, fr0.up, hd0, SA0, rfl, rfl, rfl, rfl, by rw [hs0]; exact po, fun k y hk => (by rw [hs0] at hk; cases hk), fun k k' y y' hk => (by rw [hs0] at hk; cases hk), ?_, ⟨[], upd_same, (by rw [hs0]; rfl), fun k b y hk => (by cases hk)⟩, fun hm => SA.notNone hsa (swL_all hm), nd0⟩
      rw [hs0]
      exact ⟨fun _ => Nat.zero_le _, fun _ => Nat.zero_le _⟩
    refine ⟨fun σ H' => ∃ i z' marks, σ[4]? = some (some (.ref sa)) ∧ StrSt T c d p sa z H i z' marks H' ∧ i ≤ 20, ?_, ?_⟩
    · have pick0 : ∀ r1 r2 r3 : Nat, r1 < 4 → r2 < 21 → r3 < 2 → ∃ n : Nat, [V.int (r1 : Nat), V.int (r2 : Nat)][r3]? = some (.int (n : Nat)) ∧ n ≤ 20 := by
        intro r1 r2 r3 h1 h2 h3
        match r3, h3 with
        | 0, _ => exact ⟨r1, rfl, by omega⟩
        | 1, _ => exact ⟨r2, rfl, by omega⟩
        | n + 2, h => omega
      have pick1 : ∀ r : Nat, r < 3 → ∃ n : Nat, [V.int 1, V.int 2, V.int 4][r]? = some (.int (n : Nat)) ∧ 0 < n ∧ n ≤ 4 := by
        intro r h
        match r, h with
        | 0, _ => exact ⟨1, rfl, by omega⟩
        | 1, _ => exact ⟨2, rfl, by omega⟩
        | 2, _ => exact ⟨4, rfl, by omega⟩
        | n + 3, h => omega
      have pick2 : ∀ (kb : Bool) (rate : Nat), rate ≤ 31 → ∃ j v : Nat, (if kb = true then (1 : Int) else 0) = (j : Nat) ∧ [V.int 12, V.int ((1 : Int) + (rate : Nat))][j]? = some (.int (v : Nat)) ∧ 0 < v ∧ v ≤ 32 := by
        intro kb rate h
        cases kb with
        | false => exact ⟨0, 12, rfl, rfl, by omega⟩
        | true => exact ⟨1, 1 + rate, rfl, by rw [show ((1 : Int) + (rate : Nat)) = ((1 + rate : Nat) : Int) by omega]; rfl, by omega⟩
      have pick3 : ∀ r v : Nat, r < 2 → 0 < v → v ≤ 32 → ∃ n : Nat, [V.int 3, V.int (v : Nat)][r]? = some (.int (n : Nat)) ∧ 0 < n ∧ n ≤ 32 := by
        intro r v h h1 h2
        match r, h with
        | 0, _ => exact ⟨3, rfl, by omega⟩
        | 1, _ => exact ⟨v, rfl, by omega⟩
        | n + 2, h => omega
      have m0 := SA.ok.m0
      obtain ⟨a1, b1, c1, hd1⟩ := hd0
      refine ⟨_, rfl, d, a1, b1, c1, 4, rfl, hd1, by omega, by omega, fun r1 H2 hr1 fr2 hd2 => ?_⟩
      have st2 := st0.roll fr2 hd2
      obtain ⟨a2, b2, c2, hd2⟩ := hd2
      refine ⟨_, rfl, d, a2, b2, c2, 21, rfl, hd2, by omega, by omega, fun r2 H3 hr2 fr3 hd3 => ?_⟩
      have st3 := st2.roll fr3 hd3
      obtain ⟨a3, b3, c3, hd3⟩ := hd3
      refine ⟨(by show 2 ≤ sizeLine; decide), fun l hl => ?_⟩
      have st4 := st3.fr0 (Fr.new hl (o := .lst [.int (r1 : Nat), .int (r2 : Nat)]))
      have hl4 : upd H3 l (.lst [.int (r1 : Nat), .int (r2 : Nat)]) l = some (.lst [.int (r1 : Nat), .int (r2 : Nat)]) := upd_same
      have ndl : l ≠ d := (ne_of_none hd3 hl).symm
      obtain ⟨a4, b4, c4, hd4⟩ := st4.dice
      refine ⟨_, rfl, d, a4, b4, c4, 2, rfl, hd4, by omega, by omega, fun r3 H5 hr3 fr5 hd5 => ?_⟩
      have st5 := st4.roll fr5 hd5
      obtain ⟨n, hn, hn20⟩ := pick0 r1 r2 r3 hr1 hr2 hr3
      refine ⟨l, _, _, _, rfl, rfl, SqL.of (fr5.lstN hl4 (by simp [ndl])), at_of (j := r3) rfl hn, _, rfl, (by omega), (by omega), ?_⟩
      refine for_sq (sq_rng (lo := 0) (n := n)) (fun i σ H' => ∃ z' marks x5 x6 x7 x8 x9 x10 x11 x12 x13, σ = [some (.ref d), some (.ref p), some (.int z.m), some (.int z.sl), some (.ref sa), x5, x6, x7, x8, x9, x10, x11, x12, x13, none] ∧ StrSt T c d p sa z H i z' marks H') ⟨z, _, none, none, none, none, none, none, none, none, none, rfl, st5⟩ (fun _ _ _ _ _ => trivial) ?_ ?_
      · rintro i x σ H6 H6' hi ⟨z', marks, x5, x6, x7, x8, x9, x10, x11, x12, x13, rfl, st⟩ hx
        obtain ⟨rfl, rfl⟩ := hx
        -- one, gate
        refine ⟨fun σ H' => ∃ (one gate : Nat) (x5 : Option V), σ = [some (.ref d), some (.ref p), some (.int z.m), some (.int z.sl), some (.ref sa), x5, some (.int (one : Nat)), some (.int (gate : Nat)), x8, x9, x10, x11, x12, x13, none] ∧ one < z.m ∧ gate < z.m ∧ StrSt T c d p sa z H i z' marks H', ?_, ?_⟩
        · obtain ⟨a1, b1, c1, hd1⟩ := st.dice
          refine ⟨_, rfl, _, rfl, d, a1, b1, c1, z.m, rfl, hd1, by omega, by omega, fun one H7 h1 fr7 hd7 => ?_⟩
          have st7 := st.roll fr7 hd7
          obtain ⟨a2, b2, c2, hd7⟩ := hd7
          refine ⟨_, rfl, _, rfl, d, a2, b2, c2, z.m, rfl, hd7, by omega, by omega, fun gate H8 h2 fr8 hd8 => ?_⟩
          have st8 := st7.roll fr8 hd8
          refine ⟨(by show 2 ≤ sizeLine; decide), fun t ht => ?_⟩
          exact ⟨t, _, rfl, SqT.of upd_same, rfl, _, _, rfl, _, _, rfl, rfl, one, gate, _, rfl, h1, h2, st8.fr0 (Fr.new ht)⟩
        rintro σ H7 ⟨one, gate, x5', rfl, h1, h2, st7⟩
        clear st
        -- rate
        refine ⟨fun σ H' => ∃ rate : Nat, σ = [some (.ref d), some (.ref p), some (.int z.m), some (.int z.sl), some (.ref sa), x5', some (.int (one : Nat)), some (.int (gate : Nat)), some (.int (rate : Nat)), x9, x10, x11, x12, x13, none] ∧ 1 ≤ rate ∧ rate ≤ 31 ∧ StrSt T c d p sa z H i z' marks H', ?_, ?_⟩
        · refine ⟨_, rfl, _, rfl, (by show 3 ≤ sizeLine; decide), fun l hl => ?_⟩
          have st8 := st7.fr0 (Fr.new hl (o := .lst [.int 1, .int 2, .int 4]))
          have hl8 : upd H7 l (.lst [.int 1, .int 2, .int 4]) l = some (.lst [.int 1, .int 2, .int 4]) := upd_same
          obtain ⟨a1, b1, c1, hd8⟩ := st7.dice
          have ndl : l ≠ d := (ne_of_none hd8 hl).symm
          obtain ⟨a1, b1, c1, hd8⟩ := st8.dice
          refine ⟨_, rfl, d, a1, b1, c1, 3, rfl, hd8, by omega, by omega, fun r H9 hr fr9 hd9 => ?_⟩
          have st9 := st8.roll fr9 hd9
          obtain ⟨kk, hk, hk0, hk4⟩ := pick1 r hr
          obtain ⟨a2, b2, c2, hd9⟩ := hd9
          obtain ⟨dv, edv, hdv⟩ : ∃ dv, dv = z.sl / kk ∧ dv ≤ z.sl := ⟨_, rfl, Nat.div_le_self _ _⟩
          refine ⟨l, _, _, _, rfl, rfl, SqL.of (fr9.lstN hl8 (by simp [ndl])), at_of (j := r) rfl hk, _, _, rfl, rfl, ⟨by omega, by omega⟩, _, _, rfl, rfl, d, a2, b2, c2, 1 + dv, (by rw [edv]; push_cast; rfl), hd9, by omega, by omega, fun r2 H10 hr2 fr10 hd10 => ?_⟩
          refine ⟨_, _, rfl, rfl, 1 + r2, ?_, by omega, by omega, st9.roll fr10 hd10⟩
          rw [show (((1 + r2 : Nat) : Nat) : Int) = (1 : Int) + (r2 : Nat) by omega]
          rfl
        rintro σ H8 ⟨rate, rfl, hr1', hr2, st8⟩
        clear st7
        -- burst
        refine ⟨fun σ H' => ∃ burst : Nat, σ = [some (.ref d), some (.ref p), some (.int z.m), some (.int z.sl), some (.ref sa), x5', some (.int (one : Nat)), some (.int (gate : Nat)), some (.int (rate : Nat)), some (.int (burst : Nat)), x10, x11, x12, x13, none] ∧ 1 ≤ burst ∧ burst ≤ 32 ∧ StrSt T c d p sa z H i z' marks H', ?_, ?_⟩
        · refine ⟨_, rfl, _, rfl, _, _, rfl, rfl, (by show 2 ≤ sizeLine; decide), fun l hl => ?_⟩
          have st9 := st8.fr0 (Fr.new hl (o := .lst [.int 12, .int ((1 : Int) + (rate : Nat))]))
          have hl9 : upd H8 l (.lst [.int 12, .int ((1 : Int) + (rate : Nat))]) l = some (.lst [.int 12, .int ((1 : Int) + (rate : Nat))]) := upd_same
          refine ⟨_, rfl, _, _, rfl, rfl, .inr ⟨_, rfl, ?_⟩⟩
          obtain ⟨j, v, ej, ev, v0, v1⟩ := pick2 (decide ((9 : Int) < (z.sl : Nat))) rate hr2
          refine ⟨l, _, _, _, rfl, rfl, SqL.of hl9, at_of (j := j) ej ev, (by show 2 ≤ sizeLine; decide), fun l2 hl2 => ?_⟩
          have st10 := st9.fr0 (Fr.new hl2 (o := .lst [.int 3, .int (v : Nat)]))
          have hl10 : upd (upd H8 l (.lst [.int 12, .int ((1 : Int) + (rate : Nat))])) l2 (.lst [.int 3, .int (v : Nat)]) l2 = some (.lst [.int 3, .int (v : Nat)]) := upd_same
          obtain ⟨a1, b1, c1, hd9⟩ := st9.dice
          have ndl : l2 ≠ d := (ne_of_none hd9 hl2).symm
          obtain ⟨a1, b1, c1, hd9⟩ := st10.dice
          refine ⟨_, rfl, d, a1, b1, c1, 2, rfl, hd9, by omega, by omega, fun r H9 hr fr9 hd9 => ?_⟩
          have st11 := st10.roll fr9 hd9
          obtain ⟨kk, hk, hk0, hk4⟩ := pick3 r v hr v0 v1
          obtain ⟨a2, b2, c2, hd9⟩ := hd9
          refine ⟨l2, _, _, _, rfl, rfl, SqL.of (fr9.lstN hl10 (by simp [ndl])), at_of (j := r) rfl hk, d, a2, b2, c2, kk, rfl, hd9, by omega, by omega, fun r2 H10 hr2 fr10 hd10 => ?_⟩
          refine ⟨_, _, rfl, rfl, 1 + r2, ?_, by omega, by omega, st11.roll fr10 hd10⟩
          rw [show (((1 + r2 : Nat) : Nat) : Int) = (1 : Int) + (r2 : Nat) by omega]
          rfl
        rintro σ H9 ⟨burst, rfl, hb1, hb2, st9⟩
        clear st8
        have hlen : z'.sts.length ≤ 40 := by have := st9.len; omega
        -- row
        refine ⟨fun σ H' => σ = [some (.ref d), some (.ref p), some (.int z.m), some (.int z.sl), some (.ref sa), x5', some (.int (one : Nat)), some (.int (gate : Nat)), some (.int (rate : Nat)), some (.int (burst : Nat)), some (.int (rsum z'.sts one : Nat)), x11, x12, x13, none] ∧ StrSt T c d p sa z H i z' marks H', ?_, ?_⟩
        · exact lc_strs (T := T) (v0 := one) (j1 := 0) (sel := St4.one) rfl rfl (by decide) rfl rfl st9.stm rfl (fun _ => rfl) hlen fun H' fr => ⟨rfl, st9.fr0 fr⟩
        rintro σ H10 ⟨rfl, st10⟩
        clear st9
        -- column
        refine ⟨fun σ H' => σ = [some (.ref d), some (.ref p), some (.int z.m), some (.int z.sl), some (.ref sa), x5', some (.int (one : Nat)), some (.int (gate : Nat)), some (.int (rate : Nat)), some (.int (burst : Nat)), some (.int (rsum z'.sts one : Nat)), some (.int (csum z'.sts gate : Nat)), x12, x13, none] ∧ StrSt T c d p sa z H i z' marks H', ?_, ?_⟩
        · exact lc_strs (T := T) (v0 := gate) (j1 := 1) (sel := St4.gate) rfl rfl (by decide) rfl rfl st10.stm rfl (fun _ => rfl) hlen fun H' fr => ⟨rfl, st10.fr0 fr⟩
        rintro σ H11 ⟨rfl, st11⟩
        clear st10
        have hz1 : one < z'.m := by rw [st11.hm]; exact h1
        have hz2 : gate < z'.m := by rw [st11.hm]; exact h2
        let y : St4 := ⟨one, gate, burst, rate⟩
        have room := room_iff (y := y) st11.sw.ok hz1 hz2 st11.room
        rw [st11.hs] at room
        -- room
        refine ⟨fun σ H' => ∃ rm : Bool, (rm = true ↔ roomS z' y) ∧ σ = [some (.ref d), some (.ref p), some (.int z.m), some (.int z.sl), some (.ref sa), x5', some (.int (one : Nat)), some (.int (gate : Nat)), some (.int (rate : Nat)), some (.int (burst : Nat)), some (.int (rsum z'.sts one : Nat)), some (.int (csum z'.sts gate : Nat)), some (.bl rm), x13, none] ∧ StrSt T c d p sa z H i z' marks H', ?_, ?_⟩
        · refine ⟨_, rfl, _, rfl, _, _, rfl, rfl, _, rfl, _, _, rfl, rfl, ?_⟩
          by_cases e1 : ((rsum z'.sts one : Nat) : Int) + (rate : Nat) ≤ (z.sl : Nat)
          · refine ⟨true, congrArg V.bl (decide_eq_true e1), _, rfl, _, rfl, _, _, rfl, rfl, _, rfl, _, _, rfl, rfl, _, ?_, rfl, st11⟩
            rw [decide_eq_true_eq, room]
            show _ ↔ rsum z'.sts one + rate ≤ z.sl ∧ csum z'.sts gate + rate ≤ z.sl
            omega
          · refine ⟨false, congrArg V.bl (decide_eq_false e1), false, ?_, rfl, st11⟩
            rw [room]
            show _ ↔ rsum z'.sts one + rate ≤ z.sl ∧ csum z'.sts gate + rate ≤ z.sl
            constructor
            · intro h; cases h
            · intro h; omega
        rintro σ H12 ⟨rm, hrm, rfl, st12⟩
        clear st11
        -- due
        refine ⟨fun σ H' => ∃ due : Bool, (due = true ↔ roomS z' y ∧ ¬ dupS z' y) ∧ σ = [some (.ref d), some (.ref p), some (.int z.m), some (.int z.sl), some (.ref sa), x5', some (.int (one : Nat)), some (.int (gate : Nat)), some (.int (rate : Nat)), some (.int (burst : Nat)), some (.int (rsum z'.sts one : Nat)), some (.int (csum z'.sts gate : Nat)), some (.bl rm), some (.bl due), none] ∧ StrSt T c d p sa z H i z' marks H', ?_, ?_⟩
        · refine ⟨_, rfl, rm, rfl, ?_⟩
          cases rm with
          | false => exact ⟨false, ⟨fun h => (by cases h), fun h => hrm.mpr h.1⟩, rfl, st12⟩
          | true =>
            have hroom : roomS z' y := hrm.mp rfl
            obtain ⟨bs, hsa12, hbl, hbt⟩ := st12.stm
            have hbL : (bs.map V.ref).length = z'.sts.length := by rw [List.length_map]; exact hbl
            let pq : St4 → Bool := fun x => decide (x.one = one ∧ x.gate = gate)
            refine ⟨_, rfl, sa, rfl, ⟨_, SqL.of hsa12⟩, fun D hD => ?_⟩
            refine lc_sq (sq_list (a := sa) (xs := bs.map V.ref)) (fun i H' => Fr T [] H12 H' ∧ H' D = some (.lst ((List.replicate ((z'.sts.take i).countP pq) (1 : Int)).map V.int))) ⟨Fr.new hD, upd_same⟩ (fun i H' _ p => SqL.of (p.1.lst hsa12)) ?_ ?_
            · rintro i x H2 H2' hi2 ⟨fr2, hD2⟩ ⟨hx, rfl⟩
              obtain ⟨b, hb, rfl⟩ := getRef hx
              have hiL : i < z'.sts.length := by rw [← hbL]; exact hi2
              have hy : z'.sts[i]? = some z'.sts[i] := List.getElem?_eq_getElem hiL
              generalize z'.sts[i] = x at hy
              have hb2 := fr2.tup _ _ (hbt i b x hb hy)
              have et : z'.sts.take (i + 1) = z'.sts.take i ++ [x] := by rw [List.take_succ, hy]; rfl
              refine ⟨rfl, _, rfl, _, rfl, b, _, rfl, SqT.of hb2, (by show ¬ (HT.sIx 4 0 none = 0 ∧ HT.sIx 4 4 (some 2) = 4); decide), fun t ht => ?_⟩
              refine ⟨_, rfl, _, rfl, (by show 2 ≤ sizeLine; decide), fun u hu => ?_⟩
              have ntu : t ≠ u := ne_of_none upd_same hu
              have fr4 := (fr2.andNew ht).andNew hu (o := .tup [.int (one : Nat), .int (gate : Nat)])
              have hD4 := ((Fr.new (T := T) (M := []) ht).andNew hu (o := .tup [.int (one : Nat), .int (gate : Nat)])).lst hD2
              refine ⟨.tuple [.int x.one, .int x.gate], .tuple [.int one, .int gate], .tup (SqT.of (by rw [upd_ne ntu, upd_same]; rfl)) (.cons (.int _) (.cons (.int _) .nil)), .tup (SqT.of upd_same) (.cons (.int _) (.cons (.int _) .nil)), rfl, rfl, ?_⟩
              have ed : PyData.eqv (.tuple [.int x.one, .int x.gate]) (.tuple [.int one, .int gate]) = pq x := by
                show (((x.one : Int) == (one : Int)) && (((x.gate : Int) == (gate : Int)) && true)) = decide (x.one = one ∧ x.gate = gate)
                rw [Bool.eq_iff_iff, Bool.and_eq_true, Bool.and_true, beq_iff_eq, beq_iff_eq, decide_eq_true_eq]
                omega
              cases hpq : pq x with
              | true =>
                refine ⟨true, congrArg V.bl (ed.trans hpq), _, hD4, ?_, fr4.own hD hD4 (.lst _), ?_⟩
                · rw [List.length_map, List.length_replicate]
                  have h1 := List.countP_le_length (p := pq) (l := z'.sts.take i)
                  have h2 : (z'.sts.take i).length ≤ i := by rw [List.length_take]; omega
                  exact inLine (by omega)
                · rw [upd_same, et, List.countP_append]
                  have : [x].countP pq = 1 := by simp [hpq]
                  rw [this, List.replicate_succ', List.map_append]
                  rfl
              | false =>
                refine ⟨false, congrArg V.bl (ed.trans hpq), fr4, ?_⟩
                rw [hD4, et, List.countP_append]
                have : [x].countP pq = 0 := by simp [hpq]
                rw [this, Nat.add_zero]
            · rintro H2 ⟨fr2, hD2⟩
              rw [hbL, List.take_length] at hD2
              refine ⟨(by show 0 ≤ sizeLine; decide), fun e he => ?_⟩
              have nDe : D ≠ e := ne_of_none hD2 he
              have hdup : dupS z' y ↔ 0 < z'.sts.countP pq := by
                rw [List.countP_pos_iff]
                constructor
                · rintro ⟨k, x, hx, e1, e2⟩
                  exact ⟨x, List.mem_of_getElem? hx, decide_eq_true ⟨e1, e2⟩⟩
                · rintro ⟨x, hx, e⟩
                  obtain ⟨k, hk⟩ := List.mem_iff_getElem?.mp hx
                  have e := of_decide_eq_true e
                  exact ⟨k, x, hk, e.1, e.2⟩
              refine ⟨.list ((List.replicate (z'.sts.countP pq) (1 : Int)).map PyData.int), .list [], .lst (SqL.of (by rw [upd_ne nDe]; exact hD2)) (dpInts _), .lst (SqL.of upd_same) .nil, shapedL PyData.int (fun _ => ⟨rfl, (by show PyData.depth (PyData.int _) ≤ 60; unfold PyData.depth; decide)⟩) _, rfl, _, ?_, rfl, st12.fr0 (fr2.andNew he)⟩
              cases hc : z'.sts.countP pq with
              | zero => exact ⟨fun _ => ⟨hroom, fun h => by rw [hdup, hc] at h; omega⟩, fun _ => rfl⟩
              | succ n => exact ⟨fun h => (by cases h), fun h => absurd (hdup.mpr (by omega)) h.2⟩
        rintro σ H13 ⟨due, hdue, rfl, st13⟩
        clear st12
        -- told
        have nda : ∀ {a : Addr}, a ∈ [p, z'.ls, z'.lb] → swAll p z' a := fun {a} ha => by
          rcases List.mem_cons.mp ha with e | ha
          · exact .inl e
          rcases List.mem_cons.mp ha with e | ha
          · exact .inr (.inl e)
          · exact .inr (.inr (.inl (List.mem_singleton.mp ha)))
        refine ⟨fun σ H' => σ = [some (.ref d), some (.ref p), some (.int z.m), some (.int z.sl), some (.ref sa), x5', some (.int (one : Nat)), some (.int (gate : Nat)), some (.int (rate : Nat)), some (.int (burst : Nat)), some (.int (rsum z'.sts one : Nat)), some (.int (csum z'.sts gate : Nat)), some (.bl rm), some (.bl due), none] ∧
          ((due = false ∧ StrSt T c d p sa z H i z' marks H') ∨ (due = true ∧ ∃ z2, Fr T [d, p, z.ls, z.lb] H H' ∧ SwAt H' c p z2 (KX.ext marks z'.sts.length (y.burst * z'.sl : Nat)) 0 0 0 0 (fun _ _ => []) ∧ z2.m = z'.m ∧ z2.sl = z'.sl ∧ z2.ls = z'.ls ∧ z2.lb = z'.lb ∧ z2.sts = z'.sts ++ [y] ∧ PlanOk z'.m z'.sl (rho (z'.sts ++ [y])) z2.pl ∧ StrsAt H' sa z'.sts ∧ Dice H' d ∧ sa ∉ swL p z2)), ?_, ?_⟩
        · have hT13 := st13.fr.tb hT
          refine ⟨fun q hq => by rw [List.mem_singleton.mp hq]; exact hT13.lam, fun H14 let14 tab14 => ?_⟩
          have fr14 : Fr T [] H13 H14 := Fr.made let14 (tab14 _ (List.mem_singleton.mpr rfl))
          have st14 := st13.fr0 fr14
          obtain ⟨dx, hp14⟩ := st14.sw.ob
          obtain ⟨bs, hsa14, hbl, hbt⟩ := st14.stm
          have hbL : (bs.map V.ref).length = z'.sts.length := by rw [List.length_map]; exact hbl
          have hl20 := st14.len
          refine ⟨_, rfl, p, dx, _, rfl, hp14, rfl, _, rfl, _, rfl, _, rfl, _, rfl, p, z', marks, 0, 0, 0, _, y, rfl, fr14.tb hT13, st14.sw, hz1, hz2, hb1, (by show burst ≤ 100; omega), hr1', (by show rate ≤ 100; omega), by omega, by rw [st14.hls, st14.hlb]; exact nlb, fun ndup room2 z2 H15 fr15 SA15 e1 e2 e3 e4 e5 po2 hin => ?_, fun bad H15 fr15 => ⟨XT.ex, ?_⟩⟩
          · have edue : due = true := hdue.mpr ⟨room2, ndup⟩
            have hnot : sa ∉ [p, z'.ls, z'.lb] := fun hm => st14.nd (by rw [st14.hls, st14.hlb] at hm; exact List.mem_cons_of_mem _ hm)
            have hdn : d ∉ [p, z'.ls, z'.lb] := fun hm => st14.dice.not st14.sw (nda hm)
            have hsa15 := fr15.lstN hsa14 hnot
            refine ⟨_, rfl, sa, _, rfl, .inl (SqL.of hsa15), rfl, _, rfl, rfl, false, congrArg V.bl ?_, rfl, .inr ⟨edue, z2, ?_, SA15, e1, e2, e3, e4, e5, po2, ⟨bs, hsa15, hbl, fun k b y e1 e2 => fr15.tup _ _ (hbt k b y e1 e2)⟩, st14.dice.fr fr15 hdn, fun hm => ?_⟩⟩
            · rw [hbL, edue]
              simp
            · exact st14.fr.trans (fr15.mono fun a ha => by rw [st14.hls, st14.hlb] at ha; exact List.mem_cons_of_mem _ ha)
            · rcases hin sa hm with e | e
              · exact st14.nsa e
              · rw [hsa14] at e; cases e
          · have edue : due = false := by
              cases hd' : due with
              | false => rfl
              | true =>
                have h := hdue.mp hd'
                rcases bad with e | e
                · exact absurd e h.2
                · exact absurd h.1 e
            have st15 := st14.fr0 fr15
            obtain ⟨bs', hsa15, _, _⟩ := st15.stm
            refine ⟨_, rfl, sa, _, rfl, .inl (SqL.of hsa15), rfl, _, rfl, rfl, false, congrArg V.bl ?_, rfl, .inl ⟨edue, st15⟩⟩
            rw [edue]
            rfl
        rintro σ H16 ⟨rfl, h16⟩
        rcases h16 with ⟨edue, st16⟩ | ⟨edue, z2, fr16, SA16, e1, e2, e3, e4, e5, po2, ⟨bs, hsa16, hbl, hbt⟩, hd16, nsa16⟩
        · refine ⟨_, rfl, due, rfl, ?_⟩
          rw [edue]
          exact ⟨z', marks, _, _, _, _, _, _, _, _, _, rfl, ⟨Nat.le_succ_of_le st16.len, st16.fr, st16.dice, st16.sw, st16.hm, st16.hs, st16.hls, st16.hlb, st16.plan, st16.mk_, st16.dis, st16.room, st16.stm, st16.nsa, st16.nd⟩⟩
        · refine ⟨_, rfl, due, rfl, ?_⟩
          rw [edue]
          have hbL : (bs.map V.ref).length = z'.sts.length := by rw [List.length_map]; exact hbl
          have h := hdue.mp edue
          have hroom := (room_iff (y := y) st13.sw.ok hz1 hz2 st13.room).mp h.1
          refine ⟨_, rfl, .inl ⟨rfl, _, SqL.of hsa16⟩, _, rfl, _, rfl, _, rfl, _, rfl, (by show 4 ≤ sizeLine; decide), fun t ht => ?_⟩
          have frt := Fr.new (T := T) (M := []) ht (o := .tup [.int (one : Nat), .int (gate : Nat), .int (burst : Nat), .int (rate : Nat)])
          have htt : upd H16 t (.tup [.int (one : Nat), .int (gate : Nat), .int (burst : Nat), .int (rate : Nat)]) t = some (.tup [.int (one : Nat), .int (gate : Nat), .int (burst : Nat), .int (rate : Nat)]) := upd_same
          have hsa17 := frt.lst hsa16
          have nst : sa ≠ t := ne_of_none hsa16 ht
          have hl20 := st13.len
          have frs : Fr T [sa] (upd H16 t (.tup [.int (one : Nat), .int (gate : Nat), .int (burst : Nat), .int (rate : Nat)])) (upd (upd H16 t (.tup [.int (one : Nat), .int (gate : Nat), .int (burst : Nat), .int (rate : Nat)])) sa (.lst (bs.map V.ref ++ [.ref t]))) := Fr.set (List.mem_singleton.mpr rfl) hsa17 (.lst _)
          refine ⟨sa, _, _, rfl, rfl, hsa17, by rw [hbL]; exact inLine (by omega), ?_⟩
          have nIns : ∀ {a C dx : Addr} {fs : List (Str × V)}, H16 a = some (.ins C dx fs) → sa ≠ a := fun {a C dx fs} e q => by
            rw [← q, hsa16] at e
            cases e
          have nRow : ∀ {a r : Addr} {xs ys : List V}, H16 a = some (.lst xs) → xs[0]? = some (.ref r) → H16 r = some (.lst ys) → sa ≠ a := fun {a r xs ys} h1 h2 h3 q => by
            rw [← q, hsa16] at h1
            have h4 : bs.map V.ref = xs := by injection h1 with h1; injection h1
            rw [← h4] at h2
            obtain ⟨b, hb, er⟩ := getRef h2
            have er : r = b := by injection er
            have h0 : 0 < z'.sts.length := by rw [← hbl]; exact (List.getElem?_eq_some_iff.mp hb).1
            have := hbt 0 b _ hb (List.getElem?_eq_getElem h0)
            rw [← er, h3] at this
            cases this
          have m02 := SA16.ok.m0
          have nS : ¬ swAll p z2 sa := fun hh => by
            rcases hh with e | e | e | e | e | e | e | ⟨a, ha, e⟩ | ⟨a, b, ha, hb, e⟩
            · exact st13.nd (by rw [e]; simp)
            · exact st13.nd (by rw [e, e3, st13.hls]; simp)
            · exact st13.nd (by rw [e, e4, st13.hlb]; simp)
            · obtain ⟨n, hn⟩ := List.mem_iff_getElem?.mp e
              have hn' : n < z2.sts.length := by rw [← SA16.slen]; exact (List.getElem?_eq_some_iff.mp hn).1
              obtain ⟨dx, h⟩ := SA16.st n sa _ hn (List.getElem?_eq_getElem hn')
              exact nIns h rfl
            · obtain ⟨n, hn⟩ := List.mem_iff_getElem?.mp e
              have hn' : n < z2.sts.length := by rw [← SA16.blen]; exact (List.getElem?_eq_some_iff.mp hn).1
              obtain ⟨dx, h⟩ := SA16.bk n sa _ hn (List.getElem?_eq_getElem hn')
              exact nIns h rfl
            · obtain ⟨dx, h⟩ := SA16.bar.ob
              exact nIns h e
            · exact nRow SA16.bar.rows (refsV_at m02) (SA16.bar.row 0 m02) e
            · obtain ⟨xs, hxs⟩ := (SA16.bar.que a 0 ha m02).some
              exact nRow (SA16.bar.row a ha) (refsV_at m02) hxs e
            · exact nsa16 (List.mem_cons_of_mem _ (List.mem_append_right _ (barL_mem.mpr (.inr ⟨a, b, ha, hb, e⟩))))
          refine ⟨z2, _, _, _, _, _, _, _, _, _, _, rfl, ⟨?_, (fr16.trans frt.up).own hsa hsa17 (.lst _), (hd16.fr frt (by simp)).fr frs ?_, (SA16.fr0 frt).frM frs fun a ha => (by rw [List.mem_singleton.mp ha]; exact nS), e1.trans st13.hm, e2.trans st13.hs, e3.trans st13.hls, e4.trans st13.hlb, ?_, ?_, ?_, ?_, ⟨bs ++ [t], by rw [upd_same, List.map_append]; rfl, ?_, ?_⟩, nsa16, st13.nd⟩⟩
          · rw [e5, List.length_append, List.length_singleton]
            omega
          · intro hm
            exact st13.nd (by rw [List.mem_singleton.mp hm] at *; exact List.mem_cons_self)
          · rw [e5, e1, e2]; exact po2
          · intro k y' hk
            rw [e5] at hk
            rw [e2]
            rcases Nat.lt_or_ge k z'.sts.length with hk' | hk'
            · rw [List.getElem?_append_left hk'] at hk
              rw [ext_ne (by omega)]
              exact st13.mk_ k y' hk
            · have h0 : k = z'.sts.length := by
                have := (List.getElem?_eq_some_iff.mp hk).1
                rw [List.length_append, List.length_singleton] at this
                omega
              subst h0
              rw [List.getElem?_append_right (Nat.le_refl _), Nat.sub_self] at hk
              have ey : y = y' := Option.some.inj hk
              rw [ext_at rfl, ← ey]
          · rw [e5]; exact st13.dis.app h.2
          · rw [e5, e2]; exact st13.room.app hroom.1 hroom.2
          · rw [e5, List.length_append, List.length_append, hbl]; rfl
          · intro k b y' hb hk
            rw [e5] at hk
            rcases Nat.lt_or_ge k z'.sts.length with hk' | hk'
            · rw [List.getElem?_append_left hk'] at hk
              rw [List.getElem?_append_left (by omega)] at hb
              exact frs.tup _ _ (frt.tup _ _ (hbt k b y' hb hk))
            · have h0 : k = z'.sts.length := by
                have := (List.getElem?_eq_some_iff.mp hk).1
                rw [List.length_append, List.length_singleton] at this
                omega
              subst h0
              rw [List.getElem?_append_right (Nat.le_refl _), Nat.sub_self] at hk
              rw [List.getElem?_append_right (by omega), ← hbl, Nat.sub_self] at hb
              have ey : y = y' := Option.some.inj hk
              have eb : t = b := Option.some.inj hb
              rw [← ey, ← eb]
              exact frs.tup _ _ htt
      · rintro σ H' ⟨z', marks, x5, x6, x7, x8, x9, x10, x11, x12, x13, rfl, st⟩
        exact ⟨_, z', marks, rfl, st, hn20⟩
    · rintro σ H' ⟨i, z', marks, h4, st, hi⟩
      exact ⟨_, h4, k sa i z' marks H' st hi⟩
end
end KX
set_option Elab.async false
set_option linter.all false
set_option maxRecDepth 100000
set_option maxHeartbeats 4000000
/-! KX 28: what goes out is what was wanted. -/
namespace KX
open PySem PySem.Spec PyProof.Rows L2 GX
/-- a row of cells -/
def RowC (H : Hp) (e : Addr) (L : List Cell) : Prop := ∃ cs : List Addr, H e = some (.lst (cs.map V.ref)) ∧ cs.length = L.length ∧ ∀ (j : Nat) c x, cs[j]? = some c → L[j]? = some x → CellAt H c x
structure WantAt (H : Hp) (wa : Addr) (es : List Addr) (n : Nat) (W : Nat → List Cell) : Prop where
  top_ : H wa = some (.lst (es.map V.ref))
  len : es.length = n
  row : ∀ (k : Nat) e, es[k]? = some e → RowC H e (W k)
section
variable {T : Tb} {M : List Addr} {H H' : Hp} {e wa : Addr} {es : List Addr} {n : Nat} {L : List Cell} {W : Nat → List Cell}
theorem RowC.fr (h : RowC H e L) (f : Fr T M H H') (ne : e ∉ M) : RowC H' e L := let ⟨cs, h1, h2, h3⟩ := h; ⟨cs, f.lstN h1 ne, h2, fun j c x e1 e2 => f.tup _ _ (h3 j c x e1 e2)⟩
theorem WantAt.fr (h : WantAt H wa es n W) (f : Fr T M H H') (n1 : wa ∉ M) (n2 : ∀ e ∈ es, e ∉ M) : WantAt H' wa es n W := ⟨f.lstN h.top_ n1, h.len, fun k e hk => (h.row k e hk).fr f (n2 e (List.mem_of_getElem? hk))⟩
theorem RowC.some (h : RowC H e L) : ∃ xs, H e = some (.lst xs) := let ⟨cs, h1, _⟩ := h; ⟨_, h1⟩
/-- no row is the whole -/
theorem WantAt.nrow (h : WantAt H wa es n W) : ∀ e ∈ es, e ≠ wa := fun e he q => by
  obtain ⟨k, hk⟩ := List.mem_iff_getElem?.mp he
  obtain ⟨cs, h1, h2, h3⟩ := h.row k e hk
  have ht := h.top_
  rw [q, ht] at h1
  have h4 : es.map V.ref = cs.map V.ref := by injection h1 with h1; injection h1
  have h5 : (cs.map V.ref)[k]? = some (.ref e) := by rw [← h4, List.getElem?_map, hk]; rfl
  obtain ⟨c, hc, ec⟩ := getRef h5
  have ec : e = c := by injection ec
  have hk' : k < (W k).length := by rw [← h2]; exact (List.getElem?_eq_some_iff.mp hc).1
  have h6 := h3 k c _ hc (List.getElem?_eq_getElem hk')
  rw [← ec, q] at h6
  unfold CellAt at h6
  rw [ht] at h6
  cases h6
end
def cellD3 (x : Cell) : PyData := .tuple [.int x.1, .int x.2.1, .int x.2.2]
theorem cellD3_ok (x : Cell) : PyData.canLay0 (cellD3 x) = true ∧ PyData.depth (cellD3 x) ≤ 60 := ⟨rfl, by show PyData.depth (.tuple [.int _, .int _, .int _]) ≤ 60; simp [PyData.depth, PyData.depthAll]⟩
theorem dpCell {K : PySem.W.Frag} {H : Hp} {c : Addr} {x : Cell} (h : CellAt H c x) : Dp K H (.ref c) (cellD3 x) := .tup (SqT.of h) (.cons (.int _) (.cons (.int _) (.cons (.int _) .nil)))
theorem dpCells {K : PySem.W.Frag} {H : Hp} : ∀ (cs : List Addr) (L : List Cell), cs.length = L.length → (∀ (j : Nat) c x, cs[j]? = some c → L[j]? = some x → CellAt H c x) → DpAll K H (cs.map V.ref) (L.map cellD3)
  | [], [], _, _ => .nil
  | c :: cs, x :: L, h, hc => .cons (dpCell (hc 0 c x rfl rfl)) (dpCells cs L (by simpa using h) fun j c x e1 e2 => hc (j + 1) c x e1 e2)
  | [], _ :: _, h, _ => by simp at h
  | _ :: _, [], h, _ => by simp at h
theorem cutTail (xs : List V) : cutV xs (some 1) none = xs.tail := by
  cases xs with
  | nil => rfl
  | cons x r =>
    have e1 : HT.sIx (x :: r).length 0 (some 1) = 1 := by
      show (if (1 : Int) < 0 then ((1 : Int) + ((x :: r).length : Nat)).toNat else min 1 (x :: r).length) = 1
      rw [if_neg (by omega), List.length_cons]
      omega
    have e2 : HT.sIx (x :: r).length (x :: r).length none = (x :: r).length := rfl
    unfold cutV
    rw [e1, e2]
    show List.take ((r.length + 1) - 1) r = r
    rw [Nat.add_sub_cancel, List.take_length]
theorem wSent_take {L : List Sn} {W : Nat → List Cell} {n : Nat} {s : Sn} (hn : L[n]? = some s) (hd : L.Pairwise fun a b => a.x.1 ≠ b.x.1) : wSent (L.take n) W s.x.1 = W s.x.1 ∧ ∀ k, wSent (L.take (n + 1)) W k = if k = s.x.1 then (W k).tail else wSent (L.take n) W k := by
  have et : L.take (n + 1) = L.take n ++ [s] := by rw [List.take_succ, hn]; rfl
  have hno : (L.take n).any (fun a => a.x.1 == s.x.1) = false := by
    rw [List.any_eq_false]
    intro a ha e
    have e := beq_iff_eq.mp e
    have hL : L = L.take n ++ L.drop n := (List.take_append_drop n L).symm
    rw [hL] at hd
    have hs : s ∈ L.drop n := by
      rw [List.mem_iff_getElem?]
      exact ⟨0, by rw [List.getElem?_drop]; exact hn⟩
    exact (List.pairwise_append.mp hd).2.2 a ha s hs e
  constructor
  · unfold wSent
    rw [hno, if_neg (by decide)]
  · intro k
    by_cases e : k = s.x.1
    · rw [if_pos e]
      unfold wSent
      rw [et, List.any_append, if_pos]
      rw [Bool.or_eq_true]
      exact .inr (by simp [e])
    · rw [if_neg e]
      unfold wSent
      rw [et, List.any_append]
      have : [s].any (fun a => a.x.1 == k) = false := by simp [Ne.symm e]
      rw [this, Bool.or_false]
def spSent (T : Tb) : Sp := fun vs H Q _ => ∃ (t sa wa va : Addr) (slot : Nat) (ts : List Addr) (L : List Sn) (sts : List St4) (W : Nat → List Cell) (wt : Nat → Int) (es : List Addr), vs = [.ref t, .ref sa, .ref wa, .int slot, .ref va] ∧ H t = some (.tup (ts.map V.ref)) ∧ SentAt H ts L ∧ StrsAt H sa sts ∧
  WantAt H wa es sts.length W ∧ H va = some (.lst (intV sts.length wt)) ∧ SendOk sts W slot wt L ∧ L.length ≤ 100 ∧ wa ≠ sa ∧ wa ≠ va ∧ ∀ es' H', Fr T [wa] H H' → WantAt H' wa es' sts.length (wSent L W) → (∀ e ∈ es', e ∈ es ∨ H e = none) → Q (.bl true) H'
abbrev sSent : Stmt := top 35
abbrev nSent : List Str := ["sent", "streams", "wanted", "slot", "waits", "one", "gate", "cell", "waited", "number"]
theorem scSent : FnScope nSent ["sent", "streams", "wanted", "slot", "waits"] (defScope sSent) := ⟨rfl, rfl, rfl, by decide +kernel, rfl, by decide +kernel, by decide +kernel⟩
section
variable {P : Program} {w : World} {K : PySem.W.Frag} {mg : Str → Option Value} {base : Heap} {T : Tb}
theorem ok_sent {f fO : Addr} {fd fdO : FuncData} (F : Fun K "_law_sent" "_law_sent" sSent f fd) (B : Bl mg) (GO : FnOk P w K mg base CX0 1 fO fdO ["row"] (spOnce T)) (mO : mg "_law_once" = some (.ref fO)) (kO : PySem.W.keepIn K (.ref fO) = true) (bO : Binds K fdO ["row"] []) :
    FnOk P w K mg base CX0 2 f fd ["sent", "streams", "wanted", "slot", "waits"] (spSent T) := by
  have nd := scSent.nd
  refine F.ok scSent (fun vs H Q E h => ?_) (fun cdv A outer s0 H vs Q E hr h => ?_)
  · obtain ⟨t, sa, wa, va, slot, ts, L, sts, W, wt, es, rfl, _⟩ := h
    rfl
  · obtain ⟨t, sa, wa, va, slot, ts, L, sts, W, wt, es, rfl, ht, hS, hsa, hW, hva, ok, hL, n1, n2, k⟩ := h
    refine ⟨_, C8.pss_cut (ps_if (pt_or (pt_not (pt_val (pe_call GO hr rfl mO kO bO .nil pass0 (pa_cons (pe_lc (own := [("one", 5), ("gate", 6), ("cell", 7), ("waited", 8)]) (g := gTup K 4 (gCons (gName 5) (gCons (gName 6) (gCons (gName 7) (gCons (gName 8) gNil))))) (tt := tYes) (te := tVar 5) rfl nd (pi_tup (pv 0)) (blkOk_by (N := nSent) (sc := defScope sSent) (by decide +kernel))
            (fun _ _ _ _ _ => pg_tup rfl (pgs_cons (pg_name (i := 5) nd rfl (Or.inl rfl)) (pgs_cons (pg_name (i := 6) nd rfl (Or.inl rfl)) (pgs_cons (pg_name (i := 7) nd rfl (Or.inl rfl)) (pgs_cons (pg_name (i := 8) nd rfl (Or.inl rfl)) pgs_nil))))) (fun _ _ _ _ _ => pts_nil) (fun _ _ _ _ _ => pv 5)) pa_nil))))
          (pt_not (pt_val (pe_call GO hr rfl mO kO bO .nil pass0 (pa_cons (pe_lc (own := [("one", 5), ("gate", 6), ("cell", 7), ("waited", 8)]) (g := gTup K 4 (gCons (gName 5) (gCons (gName 6) (gCons (gName 7) (gCons (gName 8) gNil))))) (tt := tYes) (te := tVar 6) rfl nd (pi_tup (pv 0)) (blkOk_by (N := nSent) (sc := defScope sSent) (by decide +kernel))
            (fun _ _ _ _ _ => pg_tup rfl (pgs_cons (pg_name (i := 5) nd rfl (Or.inl rfl)) (pgs_cons (pg_name (i := 6) nd rfl (Or.inl rfl)) (pgs_cons (pg_name (i := 7) nd rfl (Or.inl rfl)) (pgs_cons (pg_name (i := 8) nd rfl (Or.inl rfl)) pgs_nil))))) (fun _ _ _ _ _ => pts_nil) (fun _ _ _ _ _ => pv 6)) pa_nil))))) (pss_one (ps_ret pe_bl)) pss_nil)
      (C8.pss_cut (ps_for PassesOwn.never rfl (pi_tup (pv 0)) (pg_tup rfl (pgs_cons (pg_name (i := 5) nd rfl (Or.inl rfl)) (pgs_cons (pg_name (i := 6) nd rfl (Or.inl rfl)) (pgs_cons (pg_name (i := 7) nd rfl (Or.inl rfl)) (pgs_cons (pg_name (i := 8) nd rfl (Or.inl rfl)) pgs_nil)))))
        (pss_cons (ps_set (i := 9) nd rfl (Or.inl rfl) (pe_ix ix_tup (pv 7) pe_int (fun _ _ => rfl)))
        (C8.pss_cut (ps_if (pt_or3 (pt_cmpR (op_eqD hr.units) (pe_ix ix_list (pv 2) (pv 9) (fun _ _ => rfl)) (pe_lst pa_nil) rfl) (pt_cmpR (op_neD hr.units) (pe_ix ix_list (pe_ix ix_list (pv 2) (pv 9) (fun _ _ => rfl)) pe_int (fun _ _ => rfl)) (pv 7) rfl) (pt_cmpR (op_neD hr.units) (pe_tup (pa_cons (pv 5) (pa_cons (pv 6) pa_nil))) (pe_slice sl_tup (pe_ix ix_list (pv 1) (pv 9) (fun _ _ => rfl)) po_none (po_some pe_int)) rfl)) (pss_one (ps_ret pe_bl)) pss_nil)
        (C8.pss_cut (ps_if (pt_or (pt_cmpR op_ne (pv 8) (pe_op op_sub (pv 3) (pe_ix ix_tup (pv 7) pe_int (fun _ _ => rfl))) rfl) (pt_cmpR op_gt (pv 8) (pe_ix ix_list (pv 4) (pv 9) (fun _ _ => rfl)) rfl)) (pss_one (ps_ret pe_bl)) pss_nil)
        (pss_one (ps_asg (pe_slice sl_list (pe_ix ix_list (pv 2) (pv 9) (fun _ _ => rfl)) (po_some pe_int) po_none) (pg_sub (pv 2) (pv 9) set_list)))))))
      (pss_one (ps_ret pe_bl))), ?_⟩
    have htl : (ts.map V.ref).length = L.length := by rw [List.length_map]; exact hS.len
    refine ⟨fun σ H' => σ = [some (.ref t), some (.ref sa), some (.ref wa), some (.int slot), some (.ref va), none, none, none, none, none] ∧ Fr T [] H H', ?_, ?_⟩
    · refine ⟨_, rfl, t, rfl, ⟨_, SqT.of ht⟩, fun D hD => ?_⟩
      refine lc_sq (sq_tup (a := t) (xs := ts.map V.ref)) (fun i H' => Fr T [] H H' ∧ H' D = some (.lst (natV ((L.take i).map Sn.one)))) ⟨Fr.new hD, upd_same⟩ (fun i H' _ p => SqT.of (p.1.tup _ _ ht)) ?_ ?_
      · rintro i x H2 H2' hi ⟨fr2, hD2⟩ ⟨hx, rfl⟩
        obtain ⟨b, hb, rfl⟩ := getRef hx
        obtain ⟨s, c, hs, hb2, hc⟩ := hS.at_ i b hb
        have et : L.take (i + 1) = L.take i ++ [s] := by rw [List.take_succ, hs]; rfl
        refine ⟨b, _, rfl, SqT.of (fr2.tup _ _ hb2), rfl, _, _, rfl, _, _, rfl, _, _, rfl, _, _, rfl, rfl, rfl, _, rfl, _, hD2, ?_, fr2.own hD hD2 (.lst _), ?_⟩
        · rw [natV, List.length_map, List.length_map, List.length_take]
          exact inLine (by omega)
        · rw [upd_same, et, List.map_append, natV, natV, List.map_append]
          rfl
      · rintro H2 ⟨fr2, hD2⟩
        rw [htl, List.take_length] at hD2
        refine ⟨D, L.map Sn.one, rfl, hD2, by rw [List.length_map]; omega, List.pairwise_map.mpr ok.one, fun H3 fr3 => ⟨true, rfl, ?_⟩⟩
        have ht3 := (fr2.trans fr3).tup _ _ ht
        refine ⟨_, rfl, t, rfl, ⟨_, SqT.of ht3⟩, fun D2 hD2' => ?_⟩
        refine lc_sq (sq_tup (a := t) (xs := ts.map V.ref)) (fun i H' => Fr T [] H3 H' ∧ H' D2 = some (.lst (natV ((L.take i).map Sn.gate)))) ⟨Fr.new hD2', upd_same⟩ (fun i H' _ p => SqT.of (p.1.tup _ _ ht3)) ?_ ?_
        · rintro i x H4 H4' hi ⟨fr4, hD4⟩ ⟨hx, rfl⟩
          obtain ⟨b, hb, rfl⟩ := getRef hx
          obtain ⟨s, c, hs, hb2, hc⟩ := hS.at_ i b hb
          have et : L.take (i + 1) = L.take i ++ [s] := by rw [List.take_succ, hs]; rfl
          refine ⟨b, _, rfl, SqT.of (((fr2.trans fr3).trans fr4).tup _ _ hb2), rfl, _, _, rfl, _, _, rfl, _, _, rfl, _, _, rfl, rfl, rfl, _, rfl, _, hD4, ?_, fr4.own hD2' hD4 (.lst _), ?_⟩
          · rw [natV, List.length_map, List.length_map, List.length_take]
            exact inLine (by omega)
          · rw [upd_same, et, List.map_append, natV, natV, List.map_append]
            rfl
        · rintro H4 ⟨fr4, hD4⟩
          rw [htl, List.take_length] at hD4
          exact ⟨D2, L.map Sn.gate, rfl, hD4, by rw [List.length_map]; omega, List.pairwise_map.mpr ok.gate, fun H5 fr5 => ⟨true, rfl, rfl, ((fr2.trans fr3).trans fr4).trans fr5⟩⟩
    rintro σ H1 ⟨rfl, fr1⟩
    have hW1 := hW.fr fr1 (by simp) (fun _ _ => by simp)
    refine ⟨fun σ H' => ∃ es', Fr T [wa] H H' ∧ WantAt H' wa es' sts.length (wSent L W) ∧ ∀ e ∈ es', e ∈ es ∨ H e = none, ?_, ?_⟩
    · have ht1 := fr1.tup _ _ ht
      refine ⟨_, rfl, t, rfl, ⟨_, SqT.of ht1⟩, ?_⟩
      refine for_sq (sq_tup (a := t) (xs := ts.map V.ref)) (fun i σ H' => ∃ x5 x6 x7 x8 x9 es', σ = [some (.ref t), some (.ref sa), some (.ref wa), some (.int slot), some (.ref va), x5, x6, x7, x8, x9] ∧ Fr T [wa] H H' ∧ WantAt H' wa es' sts.length (wSent (L.take i) W) ∧ ∀ e ∈ es', e ∈ es ∨ H e = none) ⟨_, _, _, _, _, es, rfl, fr1.up, hW1, fun e he => .inl he⟩ ?_ ?_ ?_
      · rintro i σ H' _ ⟨x5, x6, x7, x8, x9, es', rfl, fr, _⟩
        exact SqT.of (fr.tup _ _ ht)
      · rintro i x σ H2 H2' hi ⟨x5, x6, x7, x8, x9, es', rfl, fr2, W2, hes⟩ ⟨hx, rfl⟩
        obtain ⟨b, hb, rfl⟩ := getRef hx
        obtain ⟨s, c, hs, hb2, hc⟩ := hS.at_ i b hb
        have hc2 : CellAt H2' c s.x := fr2.tup _ _ hc
        obtain ⟨y, hy, ey1, ey2, ⟨r, hWr⟩, ew, ewt⟩ := ok.it s (List.mem_of_getElem? hs)
        obtain ⟨wt1, wt2⟩ := wSent_take (W := W) hs ok.ids
        generalize hk : s.x.1 = kk at hy hWr ewt wt1 wt2
        have hkn : kk < sts.length := (List.getElem?_eq_some_iff.mp hy).1
        obtain ⟨bs, hsa0, hbl, hbt⟩ := hsa
        have hsa2 := fr2.lstN hsa0 (by simp [n1.symm])
        have hva2 := fr2.lstN hva (by simp [n2.symm])
        obtain ⟨e, he⟩ : ∃ e, es'[kk]? = some e := ⟨_, List.getElem?_eq_getElem (by rw [W2.len]; exact hkn)⟩
        obtain ⟨cs, hcs, hcl, hcc⟩ := W2.row kk e he
        rw [wt1, hWr] at hcl hcc
        obtain ⟨c0, cs', rfl⟩ : ∃ c0 cs', cs = c0 :: cs' := by
          cases cs with
          | nil => simp at hcl
          | cons a b => exact ⟨a, b, rfl⟩
        have hc0 : CellAt H2' c0 s.x := hcc 0 c0 s.x rfl rfl
        refine ⟨b, _, rfl, SqT.of (fr2.tup _ _ hb2), rfl, _, _, rfl, _, _, rfl, _, _, rfl, _, _, rfl, rfl, ?_⟩
        refine ⟨_, rfl, c, _, _, _, rfl, rfl, SqT.of hc2, at_of (j := 0) rfl rfl, ?_⟩
        have eqc : PyData.eqv (cellD3 s.x) (cellD3 s.x) = true := by
          show (((s.x.1 : Int) == (s.x.1 : Int)) && (((s.x.2.1 : Int) == (s.x.2.1 : Int)) && (((s.x.2.2 : Int) == (s.x.2.2 : Int)) && true))) = true
          simp
        let σ1 : L2.St := [some (.ref t), some (.ref sa), some (.ref wa), some (.int slot), some (.ref va), some (.int s.one), some (.int s.gate), some (.ref c), some (.int s.w), some (.int (s.x.1 : Nat))]
        -- the cell is the next
        refine ⟨fun σ H' => σ = σ1 ∧ Fr T [] H2' H', ?_, ?_⟩
        · refine ⟨_, rfl, _, rfl, wa, _, _, _, rfl, rfl, SqL.of W2.top_, at_of (j := kk) (by rw [hk]) (by rw [List.getElem?_map, he]; rfl), (by show 0 ≤ sizeLine; decide), fun u hu => ?_⟩
          have frU := Fr.new (T := T) (M := []) hu (o := .lst [])
          have huU : upd H2' u (.lst []) u = some (.lst []) := upd_same
          generalize upd H2' u (.lst []) = H3 at frU huU
          have hcs3 := frU.lst hcs
          refine ⟨.list (((s.x :: r)).map cellD3), .list [], .lst (SqL.of hcs3) (dpCells _ _ hcl fun j c x e1 e2 => frU.tup _ _ (hcc j c x e1 e2)), .lst (SqL.of huU) .nil, shapedL cellD3 cellD3_ok _, rfl, false, rfl, ?_⟩
          refine ⟨_, rfl, _, rfl, wa, _, _, _, rfl, rfl, SqL.of (frU.lst W2.top_), at_of (j := kk) (by rw [hk]) (by rw [List.getElem?_map, he]; rfl), e, _, _, _, rfl, rfl, SqL.of hcs3, at_of (j := 0) rfl rfl, _, rfl, cellD3 s.x, cellD3 s.x, dpCell (frU.tup _ _ hc0), dpCell (frU.tup _ _ hc2), rfl, rfl, false, congrArg V.bl (by rw [eqc]; rfl), ?_⟩
          refine ⟨_, rfl, _, rfl, (by show 2 ≤ sizeLine; decide), fun v hv => ?_⟩
          have frV := frU.andNew hv (o := .tup [.int (s.one : Nat), .int (s.gate : Nat)])
          have hvV : upd H3 v (.tup [.int (s.one : Nat), .int (s.gate : Nat)]) v = some (.tup [.int (s.one : Nat), .int (s.gate : Nat)]) := upd_same
          obtain ⟨bst, hbst⟩ : ∃ bst, bs[kk]? = some bst := ⟨_, List.getElem?_eq_getElem (by rw [hbl]; exact hkn)⟩
          have hb3 := frV.tup _ _ (fr2.tup _ _ (hbt kk bst y hbst hy))
          refine ⟨_, rfl, _, rfl, sa, _, _, _, rfl, rfl, SqL.of (frV.lst hsa2), at_of (j := kk) (by rw [hk]) (by rw [List.getElem?_map, hbst]; rfl), _, rfl, bst, _, rfl, SqT.of hb3, (by show ¬ (HT.sIx 4 0 none = 0 ∧ HT.sIx 4 4 (some 2) = 4); decide), fun q hq => ?_⟩
          have nvq : v ≠ q := ne_of_none hvV hq
          refine ⟨.tuple [.int s.one, .int s.gate], .tuple [.int y.one, .int y.gate], .tup (SqT.of (by rw [upd_ne nvq]; exact hvV)) (.cons (.int _) (.cons (.int _) .nil)), .tup (SqT.of (by rw [upd_same]; rfl)) (.cons (.int _) (.cons (.int _) .nil)), rfl, rfl, false, congrArg V.bl ?_, rfl, frV.andNew hq⟩
          have : PyData.eqv (.tuple [.int s.one, .int s.gate]) (.tuple [.int y.one, .int y.gate]) = true := by
            show (((s.one : Int) == (y.one : Int)) && (((s.gate : Int) == (y.gate : Int)) && true)) = true
            rw [ey1, ey2]
            simp
          rw [this]
          rfl
        rintro σ H3 ⟨rfl, fr3⟩
        -- in time
        refine ⟨fun σ H' => σ = σ1 ∧ H' = H3, ?_, ?_⟩
        · refine ⟨_, rfl, _, rfl, _, rfl, c, _, _, _, rfl, rfl, SqT.of (fr3.tup _ _ hc2), at_of (j := 1) rfl rfl, _, _, rfl, rfl, rfl, false, congrArg V.bl ?_, ?_⟩
          · rw [ew, decide_eq_true rfl]
            rfl
          · refine ⟨_, rfl, _, rfl, _, rfl, va, _, _, _, rfl, rfl, SqL.of (fr3.lst hva2), at_of (j := kk) (by rw [hk]) (intV_at hkn), _, _, rfl, rfl, false, congrArg V.bl (decide_eq_false (by omega)), rfl, rfl⟩
        rintro σ H4 ⟨rfl, rfl⟩
        -- it is taken off
        have hcs4 := fr3.lst hcs
        refine ⟨_, rfl, _, rfl, wa, _, _, _, rfl, rfl, SqL.of (fr3.lst W2.top_), at_of (j := kk) (by rw [hk]) (by rw [List.getElem?_map, he]; rfl), _, rfl, e, _, rfl, SqL.of hcs4, fun q hq => ?_⟩
        have hwa4 := fr3.lst W2.top_
        have nwq : wa ≠ q := ne_of_none hwa4 hq
        refine ⟨_, rfl, _, rfl, wa, _, _, kk, rfl, rfl, by rw [upd_ne nwq]; exact hwa4, ?_, ?_⟩
        · unfold ixN
          rw [hk, if_pos (by omega), if_pos (by rw [List.length_map, W2.len]; omega)]
          simp
        have frq := fr3.andNew hq (o := .lst (cutV ((c0 :: cs').map V.ref) (some 1) none))
        have hwq := frq.lst W2.top_
        have hqq : upd H4 q (.lst (cutV ((c0 :: cs').map V.ref) (some 1) none)) q = some (.lst (cs'.map V.ref)) := by rw [upd_same, cutTail]; rfl
        have hq0 : H q = none := fr2.dom _ (fr3.dom _ hq)
        have frw : Fr T [wa] H2' (upd (upd H4 q (.lst (cutV ((c0 :: cs').map V.ref) (some 1) none))) wa (.lst ((es'.map V.ref).set kk (.ref q)))) := frq.up.andSet (List.mem_singleton.mpr rfl) hwq (.lst _)
        have nrow := W2.nrow
        refine ⟨_, _, _, _, _, es'.set kk q, rfl, fr2.trans frw, ⟨?_, by rw [List.length_set]; exact W2.len, fun j e' hj => ?_⟩, fun e' he' => ?_⟩
        · rw [upd_same, List.map_set]
        · rw [wt2]
          by_cases ej : j = kk
          · subst ej
            rw [List.getElem?_set_self (by rw [W2.len]; exact hkn)] at hj
            have eq : q = e' := Option.some.inj hj
            subst eq
            rw [if_pos rfl, hWr]
            refine ⟨cs', by rw [upd_ne nwq.symm]; exact hqq, by simpa using hcl, fun j c x e1 e2 => frw.tup _ _ (hcc (j + 1) c x e1 e2)⟩
          · rw [List.getElem?_set_ne (Ne.symm ej)] at hj
            rw [if_neg ej]
            exact (W2.row j e' hj).fr frw fun hm => nrow e' (List.mem_of_getElem? hj) (List.mem_singleton.mp hm)
        · rcases List.mem_or_eq_of_mem_set he' with h | h
          · exact hes e' h
          · rw [h]; exact .inr hq0
      · rintro σ H' ⟨x5, x6, x7, x8, x9, es', rfl, fr, W2, hes⟩
        rw [htl, List.take_length] at W2
        exact ⟨es', fr, W2, hes⟩
    rintro σ H' ⟨es', fr, hW', hes⟩
    exact k es' H' fr hW' hes
end
end KX
set_option Elab.async false
set_option linter.all false
set_option maxRecDepth 100000
set_option maxHeartbeats 4000000
/-! KX 29: what stays through the law's slots. -/
namespace KX
open PySem PySem.Spec PyProof.Rows L2 GX
structure LawC (T : Tb) (l d sa va qu : Addr) (sts : List St4) (wt qv : Nat → Int) (H : Hp) : Prop where
  tb : TbOk T H
  ll : H l = some (.lst [.ref d])
  stm : StrsAt H sa sts
  wts : H va = some (.lst (intV sts.length wt))
  qus : H qu = some (.lst (intV sts.length qv))
theorem StrsAt.frM {T : Tb} {M : List Addr} {H H' : Hp} {sa : Addr} {L : List St4} (h : StrsAt H sa L) (f : Fr T M H H') (n : sa ∉ M) : StrsAt H' sa L := let ⟨bs, h1, h2, h3⟩ := h; ⟨bs, f.lstN h1 n, h2, fun k b y e1 e2 => f.tup _ _ (h3 k b y e1 e2)⟩
theorem LawC.fr {T : Tb} {l d sa va qu : Addr} {sts : List St4} {wt qv : Nat → Int} {M : List Addr} {H H' : Hp} (h : LawC T l d sa va qu sts wt qv H) (f : Fr T M H H') (n1 : l ∉ M) (n2 : sa ∉ M) (n3 : va ∉ M) (n4 : qu ∉ M) : LawC T l d sa va qu sts wt qv H' :=
  ⟨f.tb h.tb, f.lstN h.ll n1, h.stm.frM f n2, f.lstN h.wts n3, f.lstN h.qus n4⟩
/-- the law's own objects are apart from those that are written -/
structure Apart (p d l sa va qu wa la : Addr) (z : SwS) : Prop where
  l1 : l ∉ swL p z
  l2 : sa ∉ swL p z
  l3 : va ∉ swL p z
  l4 : qu ∉ swL p z
  l5 : ¬ swAll p z wa
  l6 : ¬ swAll p z la
  d1 : l ≠ d
  d2 : sa ≠ d
  d3 : va ≠ d
  d4 : qu ≠ d
  d5 : wa ≠ d
  d6 : la ≠ d
  a1 : l ≠ la
  a2 : sa ≠ la
  a3 : va ≠ la
  a4 : qu ≠ la
  a5 : wa ≠ la
  w1 : l ≠ wa
  w2 : sa ≠ wa
  w3 : va ≠ wa
  w4 : qu ≠ wa
/-- the rows of what is wanted are apart from those, too -/
def ApartR (p d la : Addr) (z : SwS) (es : List Addr) : Prop := ∀ e ∈ es, ¬ swAll p z e ∧ e ≠ d ∧ e ≠ la
section
variable {T : Tb} {p d l sa va qu wa la : Addr} {z : SwS} {sts : List St4} {wt qv : Nat → Int} {H H' : Hp}
theorem LawC.frW (h : LawC T l d sa va qu sts wt qv H) (A : Apart p d l sa va qu wa la z) (f : Fr T [wa] H H') : LawC T l d sa va qu sts wt qv H' := h.fr f (by simp [A.w1]) (by simp [A.w2]) (by simp [A.w3]) (by simp [A.w4])
theorem LawC.frD (h : LawC T l d sa va qu sts wt qv H) (A : Apart p d l sa va qu wa la z) (f : Fr T [d, la] H H') : LawC T l d sa va qu sts wt qv H' := h.fr f (by simp [A.d1, A.a1]) (by simp [A.d2, A.a2]) (by simp [A.d3, A.a3]) (by simp [A.d4, A.a4])
theorem LawC.frS (h : LawC T l d sa va qu sts wt qv H) (A : Apart p d l sa va qu wa la z) (f : Fr T (swL p z) H H') : LawC T l d sa va qu sts wt qv H' := h.fr f A.l1 A.l2 A.l3 A.l4
theorem LawC.fr0 (h : LawC T l d sa va qu sts wt qv H) (f : Fr T [] H H') : LawC T l d sa va qu sts wt qv H' := h.fr f (by simp) (by simp) (by simp) (by simp)
variable {es : List Addr} {n : Nat} {W : Nat → List Cell} {c : Cs} {marks : Nat → Int} {refused slot came went : Nat} {q : Nat → Nat → List Cell}
theorem WantAt.frD (h : WantAt H wa es n W) (A : Apart p d l sa va qu wa la z) (R : ApartR p d la z es) (f : Fr T [d, la] H H') : WantAt H' wa es n W := h.fr f (by simp [A.d5, A.a5]) fun e he => by simp [(R e he).2.1, (R e he).2.2]
theorem WantAt.frS (h : WantAt H wa es n W) (A : Apart p d l sa va qu wa la z) (R : ApartR p d la z es) (f : Fr T (swL p z) H H') : WantAt H' wa es n W := h.fr f (fun hm => A.l5 (swL_all hm)) fun e he hm => (R e he).1 (swL_all hm)
theorem WantAt.fr0 (h : WantAt H wa es n W) (f : Fr T [] H H') : WantAt H' wa es n W := h.fr f (by simp) fun e he => by simp
theorem SwAt.frD (h : SwAt H c p z marks refused slot came went q) (A : Apart p d l sa va qu wa la z) (hd : Dice H d) (f : Fr T [d, la] H H') : SwAt H' c p z marks refused slot came went q := h.frM f fun a ha => by
  rcases List.mem_cons.mp ha with e | e
  · rw [e]; exact hd.not h
  · rw [List.mem_singleton.mp e]; exact A.l6
theorem SwAt.frW (h : SwAt H c p z marks refused slot came went q) (A : Apart p d l sa va qu wa la z) (f : Fr T [wa] H H') : SwAt H' c p z marks refused slot came went q := h.frM f fun a ha => by rw [List.mem_singleton.mp ha]; exact A.l5
theorem SwAt.notDl (h : SwAt H c p z marks refused slot came went q) (hd : Dice H d) (hl : H l = some (.lst [.ref d])) : ¬ swAll p z l := fun hh => by
  obtain ⟨x, y, w, hd⟩ := hd
  have m0 := h.ok.m0
  have key : ∀ {a : Addr} {xs : List V}, H a = some (.lst xs) → l = a → (∀ r : Addr, xs[0]? = some (.ref r) → (∃ ys : List Addr, H r = some (.lst (ys.map V.ref))) ∨ (∃ ys, H r = some (.tup ys)) ∨ ∃ C dx fs, H r = some (.ins C dx fs)) → False := by
    intro a xs h1 e h2
    rw [← e, hl] at h1
    have h3 : [V.ref d] = xs := by injection h1 with h1; injection h1
    rcases h2 d (by rw [← h3]; rfl) with ⟨ys, h4⟩ | ⟨ys, h4⟩ | ⟨_, _, _, h4⟩
    · rw [hd] at h4
      have h5 : [V.int x, V.int y, V.int w] = ys.map V.ref := by injection h4 with h4; injection h4
      cases ys with
      | nil => cases h5
      | cons u r => injection h5 with h5; cases h5
    · rw [hd] at h4; cases h4
    · rw [hd] at h4; cases h4
  have nins : ∀ {a C dx : Addr} {fs : List (Str × V)}, H a = some (.ins C dx fs) → l ≠ a := fun {a C dx fs} e q => by
    rw [← q, hl] at e; cases e
  have refs : ∀ (m : Nat) (f : Nat → Addr), refsV m f = ((List.range m).map f).map V.ref := fun m f => by rw [List.map_map]; rfl
  rcases hh with e | e | e | e | e | e | e | ⟨i, hi, e⟩ | ⟨i, j, hi, hj, e⟩
  · obtain ⟨dx, hp⟩ := h.ob
    exact nins hp e
  · refine key h.sl e fun r hr => .inr (.inr ?_)
    obtain ⟨b, hb, er⟩ := getRef hr
    have er : r = b := by injection er
    have h0 : 0 < z.sts.length := by rw [← h.slen]; exact (List.getElem?_eq_some_iff.mp hb).1
    obtain ⟨dx, h1⟩ := h.st 0 b _ hb (List.getElem?_eq_getElem h0)
    rw [er]; exact ⟨_, _, _, h1⟩
  · refine key h.bl e fun r hr => .inr (.inr ?_)
    obtain ⟨b, hb, er⟩ := getRef hr
    have er : r = b := by injection er
    have h0 : 0 < z.sts.length := by rw [← h.blen]; exact (List.getElem?_eq_some_iff.mp hb).1
    obtain ⟨dx, h1⟩ := h.bk 0 b _ hb (List.getElem?_eq_getElem h0)
    rw [er]; exact ⟨_, _, _, h1⟩
  · obtain ⟨n, hn⟩ := List.mem_iff_getElem?.mp e
    have hn' : n < z.sts.length := by rw [← h.slen]; exact (List.getElem?_eq_some_iff.mp hn).1
    obtain ⟨dx, h1⟩ := h.st n l _ hn (List.getElem?_eq_getElem hn')
    exact nins h1 rfl
  · obtain ⟨n, hn⟩ := List.mem_iff_getElem?.mp e
    have hn' : n < z.sts.length := by rw [← h.blen]; exact (List.getElem?_eq_some_iff.mp hn).1
    obtain ⟨dx, h1⟩ := h.bk n l _ hn (List.getElem?_eq_getElem hn')
    exact nins h1 rfl
  · obtain ⟨dx, h1⟩ := h.bar.ob
    exact nins h1 e
  · refine key h.bar.rows e fun r hr => .inl ?_
    rw [refsV_at m0] at hr
    have er : z.ra 0 = r := by injection hr with hr; injection hr
    rw [← er, h.bar.row 0 m0, refs]
    exact ⟨_, rfl⟩
  · refine key (h.bar.row i hi) e fun r hr => .inl ?_
    rw [refsV_at m0] at hr
    have er : z.qa i 0 = r := by injection hr with hr; injection hr
    obtain ⟨es, h1, _⟩ := (h.bar.que i 0 hi m0).ex
    rw [← er, h1]
    exact ⟨_, rfl⟩
  · obtain ⟨es, h1, h2, h3⟩ := (h.bar.que i j hi hj).ex
    refine key h1 e fun r hr => .inr (.inl ?_)
    obtain ⟨b, hb, er⟩ := getRef hr
    have er : r = b := by injection er
    obtain ⟨cc, x, _, h4, _⟩ := h3 0 b hb
    rw [er]; exact ⟨_, h4⟩
end
theorem ApartR.new {c : Cs} {p d la : Addr} {z : SwS} {es es' : List Addr} {H : Hp} {marks : Nat → Int} {refused slot came went : Nat} {q : Nat → Nat → List Cell} (R : ApartR p d la z es) (h : SwAt H c p z marks refused slot came went q) (hd : Dice H d) {xs : List V} (hl : H la = some (.lst xs))
    (n : ∀ e ∈ es', e ∈ es ∨ H e = none) : ApartR p d la z es' := fun e he => by
  rcases n e he with e1 | e1
  · exact R e e1
  · refine ⟨h.notNone e1, fun q => ?_, fun q => ?_⟩
    · obtain ⟨_, _, _, hd⟩ := hd
      rw [q, hd] at e1; cases e1
    · rw [q, hl] at e1; cases e1
theorem intV_succ (n : Nat) (f : Nat → Int) (v : Int) : intV n f ++ [.int v] = intV (n + 1) (ext f n v) := by
  unfold intV
  rw [List.range_succ, List.map_append]
  congr 1
  · refine List.map_congr_left fun k hk => ?_
    rw [ext_ne (by have := List.mem_range.mp hk; omega)]
  · show [V.int v] = [V.int (ext f n v n)]
    rw [ext_at rfl]
theorem intV_congr {n : Nat} {f g : Nat → Int} (h : ∀ k, k < n → f k = g k) : intV n f = intV n g := by
  unfold intV
  exact List.map_congr_left fun k hk => by rw [h k (List.mem_range.mp hk)]
def intI (n : Nat) (f : Nat → Int) : List Int := (List.range n).map f
theorem intV_I (n : Nat) (f : Nat → Int) : intV n f = (intI n f).map V.int := by unfold intV intI; rw [List.map_map]; rfl
theorem natV_row (ns : List Nat) : natV ns = rowV ns.length (cnt ns) := by
  apply List.ext_getElem?
  intro i
  rcases Nat.lt_or_ge i ns.length with h | h
  · rw [rowV_at h]
    unfold natV cnt
    rw [List.getElem?_map, List.getElem?_eq_getElem h, List.getD_eq_getElem?_getD, List.getElem?_eq_getElem h]
    rfl
  · rw [List.getElem?_eq_none (by rw [natV, List.length_map]; exact h), List.getElem?_eq_none (by rw [rowV_len]; exact h)]
/-- the bounds told -/
def WaitOk (z : SwS) (k : Nat) (v : Int) : Prop := ∀ y, z.sts[k]? = some y → -1 ≤ v ∧ v ≤ farN z y ∧ ∀ i, i < 2 * z.sl → ∀ a, a < farN z y + 1 → come z y (i + 1) ≤ least z y a → (∀ b, b < a → least z y b < come z y (i + 1)) → (a : Int) - i ≤ v + 1
def QuOk (z : SwS) (k : Nat) (v : Int) : Prop := ∀ y, z.sts[k]? = some y → ∀ i, i < farN z y → (come z y (i + 1) : Int) - least z y i ≤ v
end KX
set_option Elab.async false
set_option linter.all false
set_option maxRecDepth 100000
set_option maxHeartbeats 8000000
/-! KX 30: the law. -/
namespace KX
open PySem PySem.Spec PyProof.Rows L2 GX
def spLaw (T : Tb) (K : PySem.W.Frag) : Sp := fun vs H Q _ => ∃ (s : Addr) (ns : List Int), vs = [.ref s] ∧ TbOk T H ∧ SqL K H s (ns.map V.int) ∧ ns.length ≤ 1000 ∧ ∀ H', Q (.bl true) H'
abbrev sLaw : Stmt := top 36
abbrev nLaw : List Str := ["script", "dice", "many", "slots", "switch", "streams", "waits", "queues", "wanted", "levels", "refused", "long", "slot", "counts", "kept", "number", "count", "k", "one", "cell", "row"]
theorem scLaw : FnScope nLaw ["script"] (defScope sLaw) := ⟨rfl, rfl, rfl, by decide +kernel, rfl, by decide +kernel, by decide +kernel⟩
section
variable {P : Program} {w : World} {K : PySem.W.Frag} {mg : Str → Option Value} {base : Heap} {T : Tb} {c : Cs}
theorem ok_law {f fRd fR fW fSt fWB fQB fCm fSn fTu fHM : Addr} {fd fdRd fdR fdW fdSt fdWB fdQB fdCm fdSn fdTu fdHM : FuncData} (F : Fun K "law" "law" sLaw f fd) (B : Bl mg) (KW : Kl K c.W aSw) (KX : Kl K c.X aBar)
    (GRd : FnOk P w K mg base CX0 2 fRd fdRd ["script", "most"] (spRounds T K)) (mRd : mg "_law_rounds" = some (.ref fRd)) (kRd : PySem.W.keepIn K (.ref fRd) = true) (bRd : Binds K fdRd ["script", "most"] [])
    (GR : FnOk P w K mg base CX0 1 fR fdR ["dice", "many"] (spRoll T)) (mR : mg "_law_roll" = some (.ref fR)) (kR : PySem.W.keepIn K (.ref fR) = true) (bR : Binds K fdR ["dice", "many"] [])
    (MW : Mk K c.W fW) (GW : FnOk P w K mg base CX0 5 fW fdW ["self", "many", "slots"] (spWI T c)) (mW : mg "Switch" = some (.ref c.W)) (bW : Binds K fdW ["self", "many", "slots"] [])
    (GSt : FnOk P w K mg base CX0 8 fSt fdSt ["dice", "switch", "many", "slots"] (spStreams T c)) (mSt : mg "_law_streams" = some (.ref fSt)) (kSt : PySem.W.keepIn K (.ref fSt) = true) (bSt : Binds K fdSt ["dice", "switch", "many", "slots"] [])
    (GWB : FnOk P w K mg base CX0 5 fWB fdWB ["self", "number"] (spWB T c)) (bWB : Binds K fdWB ["self", "number"] []) (mWB : Meth K c.W "wait_bound" fWB)
    (GQB : FnOk P w K mg base CX0 5 fQB fdQB ["self", "number"] (spQB T c)) (bQB : Binds K fdQB ["self", "number"] []) (mQB : Meth K c.W "queue_bound" fQB)
    (GCm : FnOk P w K mg base CX0 2 fCm fdCm ["dice", "streams", "slots", "levels", "busy"] (spCame T)) (mCm : mg "_law_came" = some (.ref fCm)) (kCm : PySem.W.keepIn K (.ref fCm) = true) (bCm : Binds K fdCm ["dice", "streams", "slots", "levels", "busy"] [])
    (GSn : FnOk P w K mg base CX0 2 fSn fdSn ["sent", "streams", "wanted", "slot", "waits"] (spSent T)) (mSn : mg "_law_sent" = some (.ref fSn)) (kSn : PySem.W.keepIn K (.ref fSn) = true) (bSn : Binds K fdSn ["sent", "streams", "wanted", "slot", "waits"] [])
    (GTu : FnOk P w K mg base CX0 3 fTu fdTu ["self", "counts"] (spTurn T c)) (bTu : Binds K fdTu ["self", "counts"] []) (mTu : Meth K c.W "turn" fTu)
    (GHM : FnOk P w K mg base CX0 2 fHM fdHM ["self"] (spHM T c.X)) (bHM : Binds K fdHM ["self"] []) (mHM : Meth K c.X "how_many" fHM) :
    FnOk P w K mg base CX0 9 f fd ["script"] (spLaw T K) := by
  have nd := scLaw.nd
  refine F.ok scLaw (fun vs H Q E h => ?_) (fun cdv A outer s0 H vs Q E hr h => ?_)
  · obtain ⟨s, ns, rfl, _⟩ := h
    rfl
  · obtain ⟨s, ns, rfl, hT, hs, hn, k⟩ := h
    have hr1 := hr.mono (show 1 ≤ 8 by decide)
    have hr2 := hr.mono (show 2 ≤ 8 by decide)
    have hr3 := hr.mono (show 3 ≤ 8 by decide)
    have hr5 := hr.mono (show 5 ≤ 8 by decide)
    have hr6 := hr.mono (show 6 ≤ 8 by decide)
    refine ⟨_, C8.pss_cut (ps_for PassesOwn.never rfl (pi_list (pe_call GRd hr2 rfl mRd kRd bRd .nil pass0 (pa_cons (pv 0) (pa_cons pe_int pa_nil)))) (pg_name (i := 1) nd rfl (Or.inl rfl))
        -- many, slots
        (C8.pss_cut (ps_asg (pe_ix ix_list (pe_lst (pa_cons (pe_tup (pa_cons pe_int (pa_cons pe_int pa_nil))) (pa_cons (pe_tup (pa_cons pe_int (pa_cons pe_int pa_nil))) (pa_cons (pe_tup (pa_cons pe_int (pa_cons pe_int pa_nil))) (pa_cons (pe_tup (pa_cons pe_int (pa_cons pe_int pa_nil))) pa_nil))))) (pe_call GR hr1 rfl mR kR bR .nil pass0 (pa_cons (pv 1) (pa_cons pe_int pa_nil))) (fun _ _ => rfl)) (pg_tup rfl (pgs_cons (pg_name (i := 2) nd rfl (Or.inl rfl)) (pgs_cons (pg_name (i := 3) nd rfl (Or.inl rfl)) pgs_nil))))
        (C8.pss_cut (ps_par (i := 2) (j := 3) rfl nd rfl rfl (by decide) rfl rfl (pa_cons (pe_op op_add pe_int (pe_call GR hr1 rfl mR kR bR .nil pass0 (pa_cons (pv 1) (pa_cons (pv 2) pa_nil)))) (pa_cons (pe_op op_add pe_int (pe_call GR hr1 rfl mR kR bR .nil pass0 (pa_cons (pv 1) (pa_cons (pv 3) pa_nil)))) pa_nil)) rfl)
        -- switch, streams
        (C8.pss_cut (ps_set (i := 4) nd rfl (Or.inr rfl) (pe_make MW GW hr6 rfl mW bW .nil pass0 (pa_cons (pv 2) (pa_cons (pv 3) pa_nil))))
        (C8.pss_cut (ps_set (i := 5) nd rfl (Or.inl rfl) (pe_call GSt hr rfl mSt kSt bSt .nil pass0 (pa_cons (pv 1) (pa_cons (pv 4) (pa_cons (pv 2) (pa_cons (pv 3) pa_nil))))))
        (pss_cons (ps_if (pt_cmpR op_isN (pv 5) pe_non rfl) (pss_one (ps_ret pe_bl)) pss_nil)
        -- waits, queues
        (C8.pss_cut (ps_asg (pe_tup (pa_cons (pe_lc (own := [("k", 17)]) (g := gName 17) (tt := tYes) (te := tMeth c.W "wait_bound" (spWB T c) [] E0 (tVar 4) (tCons (tVar 17) tNil)) rfl nd (pi_range1 rfl B.range (pa_cons (pe_callB call_lenS (by rfl) B.len boot_len (pa_cons (pv 5) pa_nil)) pa_nil)) (blkOk_by (N := nLaw) (sc := defScope sLaw) (by decide +kernel)) (fun _ _ _ _ _ => pg_name (i := 17) nd rfl (Or.inl rfl)) (fun _ _ _ _ _ => pts_nil) (fun _ _ _ _ _ => pe_meth (pv 4) KW.cl mWB GWB hr5 bWB .nil pass0 (pa_cons (pv 17) pa_nil)))
            (pa_cons (pe_lc (own := [("k", 17)]) (g := gName 17) (tt := tYes) (te := tMeth c.W "queue_bound" (spQB T c) [] E0 (tVar 4) (tCons (tVar 17) tNil)) rfl nd (pi_range1 rfl B.range (pa_cons (pe_callB call_lenS (by rfl) B.len boot_len (pa_cons (pv 5) pa_nil)) pa_nil)) (blkOk_by (N := nLaw) (sc := defScope sLaw) (by decide +kernel)) (fun _ _ _ _ _ => pg_name (i := 17) nd rfl (Or.inl rfl)) (fun _ _ _ _ _ => pts_nil) (fun _ _ _ _ _ => pe_meth (pv 4) KW.cl mQB GQB hr5 bQB .nil pass0 (pa_cons (pv 17) pa_nil))) pa_nil)))
            (pg_tup rfl (pgs_cons (pg_name (i := 6) nd rfl (Or.inl rfl)) (pgs_cons (pg_name (i := 7) nd rfl (Or.inr rfl)) pgs_nil))))
        -- wanted, levels, refused
        (C8.pss_cut (ps_par3 (i := 8) (j := 9) (l := 10) rfl nd rfl rfl rfl (by decide) (by decide) (by decide) rfl rfl rfl (pa_cons (pe_lc (own := [("one", 18)]) (g := gName 18) (tt := tYes) (te := tLst tNil) rfl nd (pi_list (pv 5)) (blkOk_by (N := nLaw) (sc := defScope sLaw) (by decide +kernel)) (fun _ _ _ _ _ => pg_name (i := 18) nd rfl (Or.inl rfl)) (fun _ _ _ _ _ => pts_nil) (fun _ _ _ _ _ => pe_lst pa_nil))
            (pa_cons (pe_lc (own := [("one", 18)]) (g := gName 18) (tt := tYes) (te := tC (.int 0)) rfl nd (pi_list (pv 5)) (blkOk_by (N := nLaw) (sc := defScope sLaw) (by decide +kernel)) (fun _ _ _ _ _ => pg_name (i := 18) nd rfl (Or.inl rfl)) (fun _ _ _ _ _ => pts_nil) (fun _ _ _ _ _ => pe_int)) (pa_cons pe_int pa_nil))) rfl)
        -- long
        (C8.pss_cut (ps_set (i := 11) nd rfl (Or.inl rfl) (pe_call GR hr1 rfl mR kR bR .nil pass0 (pa_cons (pv 1) (pa_cons (pe_ix ix_list (pe_lst (pa_cons pe_int (pa_cons pe_int pa_nil))) (pe_call GR hr1 rfl mR kR bR .nil pass0 (pa_cons (pv 1) (pa_cons pe_int pa_nil))) (fun _ _ => rfl)) pa_nil))))
        (C8.pss_cut (ps_for PassesOwn.never rfl (pi_range1 rfl B.range (pa_cons (pe_op op_add (pe_op op_add (pv 11) pe_int) (pe_callB (cr_max rfl) (by rfl) B.max boot_max (pa_cons (pe_op op_cat (pv 6) (pe_lst (pa_cons pe_int pa_nil))) pa_nil))) pa_nil)) (pg_name (i := 12) nd rfl (Or.inr rfl))
          -- a slot
          (C8.pss_cut (ps_asg (pe_call GCm hr2 rfl mCm kCm bCm .nil pass0 (pa_cons (pv 1) (pa_cons (pv 5) (pa_cons (pv 3) (pa_cons (pv 9) (pa_cons (pe_cmpR op_lt (pv 12) (pv 11) rfl) pa_nil)))))) (pg_tup rfl (pgs_cons (pg_name (i := 13) nd rfl (Or.inl rfl)) (pgs_cons (pg_name (i := 14) nd rfl (Or.inl rfl)) pgs_nil))))
          (C8.pss_cut (ps_set (i := 10) nd rfl (Or.inl rfl) (pe_op op_sub (pe_op op_add (pv 10) (pe_callB (cr_sum rfl) (by rfl) B.sum boot_sum (pa_cons (pv 13) pa_nil))) (pe_callB (cr_sum rfl) (by rfl) B.sum boot_sum (pa_cons (pv 14) pa_nil))))
          (C8.pss_cut (ps_for PassesOwn.never rfl (pi_enum rfl B.enumerate (pa_cons (pv 14) pa_nil)) (pg_tup rfl (pgs_cons (pg_name (i := 15) nd rfl (Or.inr rfl)) (pgs_cons (pg_name (i := 16) nd rfl (Or.inl rfl)) pgs_nil)))
            (pss_one (ps_asg (pe_op op_cat (pe_ix ix_list (pv 8) (pv 15) (fun _ _ => rfl)) (pe_lc (own := [("cell", 19)]) (g := gName 19) (tt := tYes) (te := tTup (tCons (tVar 15) (tCons (tVar 12) (tCons (tVar 19) tNil)))) rfl nd (pi_range1 rfl B.range (pa_cons (pv 16) pa_nil)) (blkOk_by (N := nLaw) (sc := defScope sLaw) (by decide +kernel)) (fun _ _ _ _ _ => pg_name (i := 19) nd rfl (Or.inl rfl)) (fun _ _ _ _ _ => pts_nil) (fun _ _ _ _ _ => pe_tup (pa_cons (pv 15) (pa_cons (pv 12) (pa_cons (pv 19) pa_nil)))))) (pg_sub (pv 8) (pv 15) set_list))))
          (C8.pss_cut (ps_if (pt_cmpR (op_neD hr.units) (pe_lc (own := [("number", 15), ("row", 20)]) (g := gTup K 2 (gCons (gName 15) (gCons (gName 20) gNil))) (tt := tTest (tOp rGtI (tCB (rLen K) (tCons (tVar 20) tNil)) (tOp (rIxL K) (tVar 7) (tVar 15)))) (te := tC (.int 1)) rfl nd (pi_enum rfl B.enumerate (pa_cons (pv 8) pa_nil)) (blkOk_by (N := nLaw) (sc := defScope sLaw) (by decide +kernel)) (fun _ _ _ _ _ => pg_tup rfl (pgs_cons (pg_name (i := 15) nd rfl (Or.inl rfl)) (pgs_cons (pg_name (i := 20) nd rfl (Or.inl rfl)) pgs_nil))) (fun _ _ _ _ _ => pts_one (pt_cmpR op_gt (pe_callB call_lenS (by rfl) B.len boot_len (pa_cons (pv 20) pa_nil)) (pe_ix ix_list (pv 7) (pv 15) (fun _ _ => rfl)) rfl)) (fun _ _ _ _ _ => pe_int)) (pe_lst pa_nil) rfl) (pss_one (ps_ret pe_bl)) pss_nil)
          (pss_one (ps_if (pt_not (pt_val (pe_call GSn hr2 rfl mSn kSn bSn .nil pass0 (pa_cons (pe_meth (pv 4) KW.cl mTu GTu hr3 bTu .nil pass0 (pa_cons (pv 13) pa_nil)) (pa_cons (pv 5) (pa_cons (pv 8) (pa_cons (pv 12) (pa_cons (pv 6) pa_nil)))))))) (pss_one (ps_ret pe_bl)) pss_nil)))))))
        (pss_one (ps_if (pt_or3 (pt_cmpR (op_neD hr.units) (pe_lc (own := [("row", 20)]) (g := gName 20) (tt := tTest (tOp (rNeD K) (tVar 20) (tLst tNil))) (te := tVar 20) rfl nd (pi_list (pv 8)) (blkOk_by (N := nLaw) (sc := defScope sLaw) (by decide +kernel)) (fun _ _ _ _ _ => pg_name (i := 20) nd rfl (Or.inl rfl)) (fun _ _ _ _ _ => pts_one (pt_cmpR (op_neD hr.units) (pv 20) (pe_lst pa_nil) rfl)) (fun _ _ _ _ _ => pv 20)) (pe_lst pa_nil) rfl) (pt_cmpR op_ne (pe_fld (pv 4) rfl) (pv 10) rfl) (pt_cmpR op_ne (pe_meth0 (pe_fld (pv 4) rfl) KX.cl mHM GHM hr2 bHM .nil pass0 rfl) pe_int rfl)) (pss_one (ps_ret pe_bl)) pss_nil))))))))))))
      (pss_one (ps_ret pe_bl)), ?_⟩
    refine ⟨fun _ _ => True, ?_, fun _ H' _ => k H'⟩
    refine ⟨_, rfl, s, ns, rfl, hs, hn, fun l d H1 fr1 hl1 hd1 _ => ⟨l, rfl, ⟨_, SqL.of hl1⟩, ?_⟩⟩
    refine for_sq (sq_list (a := l) (xs := [.ref d])) (fun i σ H' => H' l = some (.lst [.ref d]) ∧ (i = 0 → σ = [some (.ref s), none, none, none, none, none, none, none, none, none, none, none, none, none, none, none, none, none, none, none, none] ∧ TbOk T H' ∧ Dice H' d)) ⟨hl1, fun _ => ⟨rfl, fr1.tb hT, hd1⟩⟩ (fun i σ H' _ p => SqL.of p.1) ?_ (fun _ _ _ => trivial)
    rintro i x σ H2 H2' hi ⟨hl2, h0⟩ ⟨hx, rfl⟩
    have ei : i = 0 := Nat.lt_one_iff.mp hi
    subst ei
    obtain ⟨rfl, tb2, hd2⟩ := h0 rfl
    have ex : V.ref d = x := Option.some.inj hx
    subst ex
    -- many, slots
    refine ⟨fun σ H' => ∃ mm ss : Nat, σ = [some (.ref s), some (.ref d), some (.int (mm : Nat)), some (.int (ss : Nat)), none, none, none, none, none, none, none, none, none, none, none, none, none, none, none, none, none] ∧ 0 < mm ∧ mm ≤ 12 ∧ 0 < ss ∧ ss ≤ 30 ∧ H' l = some (.lst [.ref d]) ∧ TbOk T H' ∧ Dice H' d, ?_, ?_⟩
    · refine ⟨(by show 2 ≤ sizeLine; decide), fun t1 g1 => ⟨(by show 2 ≤ sizeLine; decide), fun t2 g2 => ⟨(by show 2 ≤ sizeLine; decide), fun t3 g3 => ⟨(by show 2 ≤ sizeLine; decide), fun t4 g4 => ⟨(by show 4 ≤ sizeLine; decide), fun l2 g5 => ?_⟩⟩⟩⟩⟩
      have f1 := Fr.new (T := T) (M := []) g1 (o := .tup [.int 3, .int 4])
      have e1 : upd H2' t1 (.tup [.int 3, .int 4]) t1 = some (.tup [.int 3, .int 4]) := upd_same
      generalize upd H2' t1 (.tup [.int 3, .int 4]) = Ha at f1 e1 g2 g3 g4 g5 ⊢
      have f2 := Fr.new (T := T) (M := []) g2 (o := .tup [.int 12, .int 8])
      have e2 : upd Ha t2 (.tup [.int 12, .int 8]) t2 = some (.tup [.int 12, .int 8]) := upd_same
      generalize upd Ha t2 (.tup [.int 12, .int 8]) = Hb at f2 e2 g3 g4 g5 ⊢
      have f3 := Fr.new (T := T) (M := []) g3 (o := .tup [.int 3, .int 30])
      have e3 : upd Hb t3 (.tup [.int 3, .int 30]) t3 = some (.tup [.int 3, .int 30]) := upd_same
      generalize upd Hb t3 (.tup [.int 3, .int 30]) = Hc at f3 e3 g4 g5 ⊢
      have f4 := Fr.new (T := T) (M := []) g4 (o := .tup [.int 6, .int 16])
      have e4 : upd Hc t4 (.tup [.int 6, .int 16]) t4 = some (.tup [.int 6, .int 16]) := upd_same
      generalize upd Hc t4 (.tup [.int 6, .int 16]) = Hd at f4 e4 g5 ⊢
      have f5 := Fr.new (T := T) (M := []) g5 (o := .lst [.ref t1, .ref t2, .ref t3, .ref t4])
      have e5 : upd Hd l2 (.lst [.ref t1, .ref t2, .ref t3, .ref t4]) l2 = some (.lst [.ref t1, .ref t2, .ref t3, .ref t4]) := upd_same
      have fA := (((f1.trans f2).trans f3).trans f4).trans f5
      have hdd := hd2.fr fA (by simp)
      have ndl : l2 ≠ d := fun q => by
        obtain ⟨_, _, _, hdd⟩ := hdd
        rw [← q, e5] at hdd
        cases hdd
      obtain ⟨a1, b1, c1, hdd⟩ := hdd
      refine ⟨_, rfl, d, a1, b1, c1, 4, rfl, hdd, by omega, by omega, fun r H3 hr3 fr3 hd3 => ?_⟩
      have pick : ∃ (tr : Addr) (mm ss : Nat), [V.ref t1, V.ref t2, V.ref t3, V.ref t4][r]? = some (.ref tr) ∧ H3 tr = some (.tup [.int (mm : Nat), .int (ss : Nat)]) ∧ 0 < mm ∧ mm ≤ 12 ∧ 0 < ss ∧ ss ≤ 30 := by
        match r, hr3 with
        | 0, _ => exact ⟨t1, 3, 4, rfl, fr3.tup _ _ (f5.tup _ _ (f4.tup _ _ (f3.tup _ _ (f2.tup _ _ e1)))), by omega, by omega, by omega, by omega⟩
        | 1, _ => exact ⟨t2, 12, 8, rfl, fr3.tup _ _ (f5.tup _ _ (f4.tup _ _ (f3.tup _ _ e2))), by omega, by omega, by omega, by omega⟩
        | 2, _ => exact ⟨t3, 3, 30, rfl, fr3.tup _ _ (f5.tup _ _ (f4.tup _ _ e3)), by omega, by omega, by omega, by omega⟩
        | 3, _ => exact ⟨t4, 6, 16, rfl, fr3.tup _ _ (f5.tup _ _ e4), by omega, by omega, by omega, by omega⟩
        | n + 4, h => omega
      obtain ⟨tr, mm, ss, p1, p2, p3, p4, p5, p6⟩ := pick
      have nld : l ≠ d := fun q => by
        rw [← q, fA.lst hl2] at hdd
        cases hdd
      refine ⟨l2, _, _, _, rfl, rfl, SqL.of (fr3.lstN e5 (by simp [ndl])), at_of (j := r) rfl p1, tr, _, rfl, SqT.of p2, rfl, _, _, rfl, _, _, rfl, rfl, mm, ss, rfl, p3, p4, p5, p6, fr3.lstN (fA.lst hl2) (by simp [nld]), fr3.tb (fA.tb tb2), hd3⟩
    clear hl2 h0 tb2 hd2 hl1 hd1 fr1
    rintro σ H3 ⟨mm, ss, rfl, hm0, hm12, hs0, hs30, hl3, tb3, hd3⟩
    have nld : l ≠ d := fun q => by
      obtain ⟨_, _, _, hd3⟩ := hd3
      rw [← q, hl3] at hd3
      cases hd3
    -- many, slots drawn
    refine ⟨fun σ H' => ∃ m sl : Nat, σ = [some (.ref s), some (.ref d), some (.int (m : Nat)), some (.int (sl : Nat)), none, none, none, none, none, none, none, none, none, none, none, none, none, none, none, none, none] ∧ 0 < m ∧ m ≤ 12 ∧ 0 < sl ∧ sl ≤ 30 ∧ H' l = some (.lst [.ref d]) ∧ TbOk T H' ∧ Dice H' d, ?_, ?_⟩
    · obtain ⟨a1, b1, c1, hdd⟩ := hd3
      refine ⟨_, rfl, _, rfl, d, a1, b1, c1, mm, rfl, hdd, by omega, by omega, fun r1 H4 hr4 fr4 hd4 => ⟨_, _, rfl, rfl, ?_⟩⟩
      obtain ⟨a2, b2, c2, hdd⟩ := hd4
      refine ⟨_, rfl, _, rfl, d, a2, b2, c2, ss, rfl, hdd, by omega, by omega, fun r2 H5 hr5' fr5 hd5 => ⟨_, _, rfl, rfl, _, _, rfl, 1 + r1, 1 + r2, ?_, by omega, by omega, by omega, by omega, fr5.lstN (fr4.lstN hl3 (by simp [nld])) (by simp [nld]), fr5.tb (fr4.tb tb3), hd5⟩⟩
      rw [show ((1 + r1 : Nat) : Int) = (1 : Int) + (r1 : Nat) by omega, show ((1 + r2 : Nat) : Int) = (1 : Int) + (r2 : Nat) by omega]
      rfl
    clear hl3 tb3 hd3
    rintro σ H4 ⟨m, sl, rfl, hm0', hm12', hs0', hs30', hl4, tb4, hd4⟩
    -- switch
    refine ⟨fun σ H' => ∃ p z, σ = [some (.ref s), some (.ref d), some (.int (z.m : Nat)), some (.int (z.sl : Nat)), some (.ref p), none, none, none, none, none, none, none, none, none, none, none, none, none, none, none, none] ∧ SwAt H' c p z (fun _ => 0) 0 0 0 0 (fun _ _ => []) ∧ z.sts = [] ∧ z.ls ≠ z.lb ∧ PlanOk z.m z.sl (rho []) z.pl ∧ z.m ≤ 12 ∧ z.sl ≤ 30 ∧ H' l = some (.lst [.ref d]) ∧ TbOk T H' ∧ Dice H' d, ?_, ?_⟩
    · refine ⟨_, rfl, _, rfl, fun p dx hp hdx hne => ?_⟩
      have frx : Fr T [] H4 (upd (upd H4 dx (.own p)) p (.ins c.W dx [])) := (Fr.new hdx).andNew (by rw [upd_ne hne.symm]; exact hp)
      refine ⟨p, dx, m, sl, rfl, upd_same, frx.tb tb4, by omega, by omega, by omega, by omega, fun z H5 fr5 SA em es ests nlb po _ _ _ => ⟨rfl, ?_⟩⟩
      have fr : Fr T [] H4 H5 := frx.then fr5 fun a ha n => by
        rw [List.mem_singleton.mp ha] at n
        exact absurd hp n
      refine ⟨p, z, by rw [em, es]; rfl, SA, ests, nlb, by rw [em, es]; exact po, by omega, by omega, fr.lst hl4, fr.tb tb4, hd4.fr fr (by simp)⟩
    clear hl4 tb4 hd4
    rintro σ H5 ⟨p, z0, rfl, SA0, ests0, nlb0, po0, hm12z, hs30z, hl5, tb5, hd5⟩
    -- streams
    refine ⟨fun σ H' => ∃ sa z marks, σ = [some (.ref s), some (.ref d), some (.int (z.m : Nat)), some (.int (z.sl : Nat)), some (.ref p), some (.ref sa), none, none, none, none, none, none, none, none, none, none, none, none, none, none, none] ∧ SwAt H' c p z marks 0 0 0 0 (fun _ _ => []) ∧ PlanOk z.m z.sl (rho z.sts) z.pl ∧ (∀ (k : Nat) y, z.sts[k]? = some y → marks k = (y.burst * z.sl : Nat)) ∧ Dis z.sts ∧ StrsAt H' sa z.sts ∧ sa ∉ swL p z ∧ sa ≠ d ∧ z.sts.length ≤ 20 ∧ H' l = some (.lst [.ref d]) ∧ TbOk T H' ∧ Dice H' d, ?_, ?_⟩
    · have nl := SA0.notDl hd5 hl5
      refine ⟨_, rfl, _, rfl, _, rfl, _, rfl, d, p, z0, rfl, tb5, hd5, SA0, ests0, nlb0, po0, hm12z, hs30z, fun sa i z marks H6 st hi => ?_⟩
      have nlM : l ∉ [d, p, z0.ls, z0.lb] := fun hm => by
        rcases List.mem_cons.mp hm with e | hm
        · exact nld e
        rcases List.mem_cons.mp hm with e | hm
        · exact nl (.inl e)
        rcases List.mem_cons.mp hm with e | hm
        · exact nl (.inr (.inl e))
        · exact nl (.inr (.inr (.inl (List.mem_singleton.mp hm))))
      exact ⟨sa, z, marks, by rw [st.hm, st.hs]; rfl, st.sw, st.plan, st.mk_, st.dis, st.stm, st.nsa, fun q => st.nd (by rw [q]; exact List.mem_cons_self), Nat.le_trans st.len hi, st.fr.lstN hl5 nlM, st.fr.tb tb5, st.dice⟩
    clear hl5 tb5 hd5 SA0 ests0 nlb0 po0 hm12z hs30z
    clear z0
    rintro σ H6 ⟨sa, z, marks, rfl, SA6, po, hmk, dis, stm6, nsaS, nsad, hL20, hl6, tb6, hd6⟩
    have okz := SA6.ok
    have rated : ∀ (k : Nat) y, z.sts[k]? = some y → Rated z y := fun k y hy => rated_of okz dis po hy
    refine ⟨_, rfl, rfl, false, congrArg V.bl (decide_eq_false (by intro h; cases h)), ?_⟩
    -- waits, queues
    refine ⟨fun σ H' => ∃ va qu wt qv, σ = [some (.ref s), some (.ref d), some (.int (z.m : Nat)), some (.int (z.sl : Nat)), some (.ref p), some (.ref sa), some (.ref va), some (.ref qu), none, none, none, none, none, none, none, none, none, none, none, none, none] ∧ LawC T l d sa va qu z.sts wt qv H' ∧ (∀ k, k < z.sts.length → WaitOk z k (wt k)) ∧ (∀ k, k < z.sts.length → QuOk z k (qv k)) ∧ va ∉ swL p z ∧ qu ∉ swL p z ∧ va ≠ d ∧ qu ≠ d ∧ SwAt H' c p z marks 0 0 0 0 (fun _ _ => []) ∧ Dice H' d, ?_, ?_⟩
    · obtain ⟨bs, hsa6, hbl, hbt⟩ := stm6
      have hbL : (bs.map V.ref).length = z.sts.length := by rw [List.length_map]; exact hbl
      have et : ((((bs.map V.ref).length : Nat) : Int)).toNat = z.sts.length := by rw [hbL]; rfl
      refine ⟨_, rfl, sa, _, rfl, .inl (SqL.of hsa6), _, rfl, (by rw [hbL]; omega), (by rw [hbL]; omega), fun D hD => ?_⟩
      rw [et]
      refine lc_sq (sq_rng (lo := 0) (n := z.sts.length)) (fun i H' => Fr T [] H6 H' ∧ ∃ wt, H' D = some (.lst (intV i wt)) ∧ ∀ k, k < i → WaitOk z k (wt k)) ⟨Fr.new hD, fun _ => 0, upd_same, fun k hk => by omega⟩ (fun _ _ _ _ => trivial) ?_ ?_
      · rintro i x H7 H7' hi ⟨fr7, wt, hD7, hw⟩ hx
        obtain ⟨rfl, rfl⟩ := yRg0 hx
        have hy := List.getElem?_eq_getElem hi
        generalize z.sts[i] = y at hy
        have SA7 := SA6.fr0 fr7
        obtain ⟨dx, hp⟩ := SA7.ob
        refine ⟨rfl, _, rfl, p, dx, _, rfl, hp, rfl, _, rfl, p, z, marks, 0, 0, 0, 0, _, i, y, rfl, fr7.tb tb6, SA7, hy, (rated i y hy).far, fun v H8 fr8 h1 h2 h3 => ?_⟩
        refine ⟨_, fr8.lst hD7, by rw [intV_len]; exact inLine (by omega), (fr7.trans fr8).own hD (fr8.lst hD7) (.lst _), ext wt i v, by rw [upd_same, intV_succ], fun k hk => ?_⟩
        by_cases e : k = i
        · rw [ext_at e, e]
          intro y' hy'
          have : y = y' := Option.some.inj (hy.symm.trans hy')
          rw [← this]
          exact ⟨h1, h2, h3⟩
        · rw [ext_ne e]
          exact hw k (by omega)
      · rintro H7 ⟨fr7, wt, hD7, hw⟩
        have SA7 := SA6.fr0 fr7
        have hsa7 := fr7.lst hsa6
        refine ⟨_, rfl, sa, _, rfl, .inl (SqL.of hsa7), _, rfl, (by rw [hbL]; omega), (by rw [hbL]; omega), fun D2 hD2 => ?_⟩
        rw [et]
        refine lc_sq (sq_rng (lo := 0) (n := z.sts.length)) (fun i H' => Fr T [] H7 H' ∧ ∃ qv, H' D2 = some (.lst (intV i qv)) ∧ ∀ k, k < i → QuOk z k (qv k)) ⟨Fr.new hD2, fun _ => 0, upd_same, fun k hk => by omega⟩ (fun _ _ _ _ => trivial) ?_ ?_
        · rintro i x H8 H8' hi ⟨fr8, qv, hD8, hq⟩ hx
          obtain ⟨rfl, rfl⟩ := yRg0 hx
          have hy := List.getElem?_eq_getElem hi
          generalize z.sts[i] = y at hy
          have SA8 := SA7.fr0 fr8
          obtain ⟨dx, hp⟩ := SA8.ob
          refine ⟨rfl, _, rfl, p, dx, _, rfl, hp, rfl, _, rfl, p, z, marks, 0, 0, 0, 0, _, i, y, rfl, fr8.tb (fr7.tb tb6), SA8, hy, fun v H9 fr9 h1 => ?_⟩
          refine ⟨_, fr9.lst hD8, by rw [intV_len]; exact inLine (by omega), (fr8.trans fr9).own hD2 (fr9.lst hD8) (.lst _), ext qv i v, by rw [upd_same, intV_succ], fun k hk => ?_⟩
          by_cases e : k = i
          · rw [ext_at e, e]
            intro y' hy'
            have : y = y' := Option.some.inj (hy.symm.trans hy')
            rw [← this]
            exact h1
          · rw [ext_ne e]
            exact hq k (by omega)
        · rintro H8 ⟨fr8, qv, hD8, hq⟩
          refine ⟨(by show 2 ≤ sizeLine; decide), fun t ht => ?_⟩
          have frt := Fr.new (T := T) (M := []) ht (o := .tup [.ref D, .ref D2])
          have frA := (fr7.trans fr8).trans frt
          have hda := hd6.fr frA (by simp)
          refine ⟨t, _, rfl, SqT.of upd_same, rfl, _, _, rfl, _, _, rfl, rfl, D, D2, wt, qv, rfl, ⟨frA.tb tb6, frA.lst hl6, ⟨bs, frA.lst hsa6, hbl, fun k b y e1 e2 => frA.tup _ _ (hbt k b y e1 e2)⟩, (fr8.trans frt).lst hD7, frt.lst hD8⟩, hw, hq, fun hm => SA6.notNone hD (swL_all hm), fun hm => SA7.notNone hD2 (swL_all hm), fun q => ?_, fun q => ?_, SA6.fr0 frA, hda⟩
          · obtain ⟨_, _, _, h⟩ := hd6
            rw [← q, hD] at h
            cases h
          · obtain ⟨_, _, _, h⟩ := hd6.fr fr7 (by simp)
            rw [← q, hD2] at h
            cases h
    clear stm6 hl6 tb6 hd6
    rintro σ H7 ⟨va, qu, wt, qv, rfl, LC7, hwo, hqo, nvaS, nquS, nvad, nqud, SA7, hd7⟩
    clear SA6
    -- wanted, levels, refused
    refine ⟨fun σ H' => ∃ wa la es, σ = [some (.ref s), some (.ref d), some (.int (z.m : Nat)), some (.int (z.sl : Nat)), some (.ref p), some (.ref sa), some (.ref va), some (.ref qu), some (.ref wa), some (.ref la), some (.int (0 : Int)), none, none, none, none, none, none, none, none, none, none] ∧ Apart p d l sa va qu wa la z ∧ LawC T l d sa va qu z.sts wt qv H' ∧ Dice H' d ∧ SwAt H' c p z marks 0 0 0 0 (fun _ _ => []) ∧ ApartR p d la z es ∧ WantAt H' wa es z.sts.length (fun _ => []) ∧ H' la = some (.lst (intV z.sts.length fun _ => 0)), ?_, ?_⟩
    · obtain ⟨bs, hsa7, hbl, hbt⟩ := LC7.stm
      have hbL : (bs.map V.ref).length = z.sts.length := by rw [List.length_map]; exact hbl
      refine ⟨_, rfl, sa, rfl, ⟨_, SqL.of hsa7⟩, fun wa hwa => ?_⟩
      refine lc_sq (sq_list (a := sa) (xs := bs.map V.ref)) (fun i H' => Fr T [] H7 H' ∧ ∃ es : List Addr, H' wa = some (.lst (es.map V.ref)) ∧ es.length = i ∧ ∀ e ∈ es, H' e = some (.lst []) ∧ H7 e = none) ⟨Fr.new hwa, [], upd_same, rfl, fun e he => (by cases he)⟩ (fun i H' _ p => SqL.of (p.1.lst hsa7)) ?_ ?_
      · rintro i x H8 H8' hi ⟨fr8, es, hwa8, hel, hes⟩ ⟨hx, rfl⟩
        rw [hbL] at hi
        refine ⟨rfl, (by show 0 ≤ sizeLine; decide), fun e he => ?_⟩
        have nwe : wa ≠ e := ne_of_none hwa8 he
        have hwa9 : upd H8' e (.lst []) wa = some (.lst (es.map V.ref)) := by rw [upd_ne nwe]; exact hwa8
        refine ⟨_, hwa9, by rw [List.length_map, hel]; exact inLine (by omega), (fr8.andNew he).own hwa hwa9 (.lst _), es ++ [e], by rw [upd_same, List.map_append]; rfl, by rw [List.length_append, hel]; rfl, fun e' he' => ?_⟩
        rcases List.mem_append.mp he' with h | h
        · obtain ⟨h1, h2⟩ := hes e' h
          have n1 : e' ≠ e := ne_of_none h1 he
          have n2 : e' ≠ wa := fun q => by
            rw [q, hwa8] at h1
            injection h1 with h1
            injection h1 with h1
            cases es with
            | nil => cases h
            | cons u r => cases h1
          rw [upd_ne n2, upd_ne n1]
          exact ⟨h1, h2⟩
        · rw [List.mem_singleton.mp h, upd_ne nwe.symm, upd_same]
          exact ⟨rfl, fr8.dom _ he⟩
      · rintro H8 ⟨fr8, es, hwa8, hel, hes⟩
        rw [hbL] at hel
        have hsa8 := fr8.lst hsa7
        refine ⟨_, rfl, sa, rfl, ⟨_, SqL.of hsa8⟩, fun la hla => ?_⟩
        refine lc_sq (sq_list (a := sa) (xs := bs.map V.ref)) (fun i H' => Fr T [] H8 H' ∧ H' la = some (.lst (intV i fun _ => 0))) ⟨Fr.new hla, upd_same⟩ (fun i H' _ p => SqL.of (p.1.lst hsa8)) ?_ ?_
        · rintro i x H9 H9' hi ⟨fr9, hla9⟩ ⟨hx, rfl⟩
          rw [hbL] at hi
          refine ⟨rfl, _, hla9, by rw [intV_len]; exact inLine (by omega), fr9.own hla hla9 (.lst _), ?_⟩
          rw [upd_same, intV_succ]
          exact congrArg (fun l => some (HO.lst l)) (intV_congr fun k _ => by unfold ext; split <;> rfl)
        · rintro H9 ⟨fr9, hla9⟩
          rw [hbL] at hla9
          have frA := fr8.trans fr9
          have LC8 := LC7.fr0 fr8
          have SA8 := SA7.fr0 fr8
          have hd8 := hd7.fr fr8 (by simp)
          have nn : ∀ {a : Addr} {H' : Hp} {x : Addr} {u : HO}, H' a = some u → H' x = none → a ≠ x := fun {a H' x u} h1 h2 q => by rw [q, h2] at h1; cases h1
          obtain ⟨sbs, hsa0, _, _⟩ := LC7.stm
          obtain ⟨sbs8, hsa08, _, _⟩ := LC8.stm
          have A : Apart p d l sa va qu wa la z := by
            refine ⟨fun hm => SA7.notDl hd7 LC7.ll (swL_all hm), nsaS, nvaS, nquS, SA7.notNone hwa, SA8.notNone hla, nld, nsad, nvad, nqud, fun q => ?_, fun q => ?_, nn LC8.ll hla, nn hsa08 hla, nn LC8.wts hla, nn LC8.qus hla, nn hwa8 hla, nn LC7.ll hwa, nn hsa0 hwa, nn LC7.wts hwa, nn LC7.qus hwa⟩
            · obtain ⟨_, _, _, h⟩ := hd7
              rw [← q, hwa] at h
              cases h
            · obtain ⟨_, _, _, h⟩ := hd8
              rw [← q, hla] at h
              cases h
          refine ⟨_, _, _, rfl, wa, la, es, rfl, A, LC7.fr0 frA, hd7.fr frA (by simp), SA7.fr0 frA, fun e he => ?_, ⟨fr9.lst hwa8, hel, fun k e he => ⟨[], fr9.lst (hes e (List.mem_of_getElem? he)).1, rfl, fun j c x h => (by cases h)⟩⟩, hla9⟩
          obtain ⟨h1, h2⟩ := hes e he
          refine ⟨SA7.notNone h2, fun q => ?_, nn h1 hla⟩
          obtain ⟨_, _, _, h⟩ := hd7
          rw [← q, h2] at h
          cases h
    clear LC7 SA7 hd7
    rintro σ H8 ⟨wa, la, es0, rfl, A, LC8, hd8, SA8, AR8, WA8, hla8⟩
    -- long
    refine ⟨fun σ H' => ∃ long : Nat, σ = [some (.ref s), some (.ref d), some (.int (z.m : Nat)), some (.int (z.sl : Nat)), some (.ref p), some (.ref sa), some (.ref va), some (.ref qu), some (.ref wa), some (.ref la), some (.int (0 : Int)), some (.int (long : Nat)), none, none, none, none, none, none, none, none, none] ∧ long ≤ 60 ∧ LawC T l d sa va qu z.sts wt qv H' ∧ Dice H' d ∧ SwAt H' c p z marks 0 0 0 0 (fun _ _ => []) ∧ WantAt H' wa es0 z.sts.length (fun _ => []) ∧ H' la = some (.lst (intV z.sts.length fun _ => 0)), ?_, ?_⟩
    · refine ⟨_, rfl, (by show 2 ≤ sizeLine; decide), fun l2 g5 => ?_⟩
      have f5 := Fr.new (T := T) (M := []) g5 (o := .lst [.int 13, .int 60])
      have e5 : upd H8 l2 (.lst [.int 13, .int 60]) l2 = some (.lst [.int 13, .int 60]) := upd_same
      generalize upd H8 l2 (.lst [.int 13, .int 60]) = H9 at f5 e5 ⊢
      have hd9 := hd8.fr f5 (by simp)
      obtain ⟨a1, b1, c1, hdd⟩ := hd9
      have ndl : l2 ≠ d := fun q => by rw [← q, e5] at hdd; cases hdd
      refine ⟨_, rfl, d, a1, b1, c1, 2, rfl, hdd, by omega, by omega, fun r H10 hr10 fr10 hd10 => ?_⟩
      have pick : ∃ v : Nat, [V.int 13, V.int 60][r]? = some (.int (v : Nat)) ∧ 0 < v ∧ v ≤ 60 := by
        match r, hr10 with
        | 0, _ => exact ⟨13, rfl, by omega, by omega⟩
        | 1, _ => exact ⟨60, rfl, by omega, by omega⟩
        | n + 2, h => omega
      obtain ⟨v, p1, p2, p3⟩ := pick
      obtain ⟨a2, b2, c2, hdd2⟩ := hd10
      refine ⟨l2, _, _, _, rfl, rfl, SqL.of (fr10.lstN e5 (by simp [ndl])), at_of (j := r) rfl p1, d, a2, b2, c2, v, rfl, hdd2, by omega, by omega, fun long H11 hr11 fr11 hd11 => ?_⟩
      have frA : Fr T [d] H8 H11 := (f5.up.trans fr10).trans fr11
      have frB : Fr T [d, la] H8 H11 := frA.mono (by simp)
      exact ⟨long, rfl, by omega, LC8.frD A frB, hd11, SA8.frD A hd8 frB, WA8.frD A AR8 frB, frA.lstN hla8 (by simp [A.d6])⟩
    clear LC8 SA8 hd8 WA8 hla8
    rintro σ H9 ⟨long, rfl, hlong, LC9, hd9, SA9, WA9, hla9⟩
    -- how many slots
    have hd9' := hd9
    have mx : ∃ mN : Nat, mN ≤ 5000 ∧ ∀ k, k < z.sts.length → wt k ≤ mN := by
      refine ⟨5000, Nat.le_refl _, fun k hk => ?_⟩
      have hy := List.getElem?_eq_getElem hk
      generalize z.sts[k] = y at hy
      have h1 := (hwo k hk y hy).2.1
      have h2 := (farN_le okz hy).2
      omega
    clear mx
    have initI : LawInv z long 0 (fun _ => 0) marks (fun _ _ => []) (fun _ => []) := LawInv.zero (fun _ => rfl) hmk (fun _ => rfl)
    refine ⟨fun σ H' => ∃ N mN : Nat, N = long + 1 + mN ∧ (∀ k, k < z.sts.length → wt k ≤ mN) ∧ ∃ x12 x13 x14 x15 x16 es lv marks refused came went q W, σ = [some (.ref s), some (.ref d), some (.int (z.m : Nat)), some (.int (z.sl : Nat)), some (.ref p), some (.ref sa), some (.ref va), some (.ref qu), some (.ref wa), some (.ref la), some (.int (refused : Nat)), some (.int (long : Nat)), x12, x13, x14, x15, x16, none, none, none, none] ∧ LawC T l d sa va qu z.sts wt qv H' ∧ Dice H' d ∧ SwAt H' c p z marks refused N came went q ∧ ApartR p d la z es ∧ WantAt H' wa es z.sts.length W ∧ H' la = some (.lst (intV z.sts.length lv)) ∧ LawInv z long (N) lv marks q W ∧ ∀ k, k < z.sts.length → (W k).length ≤ 101 * min (N) long, ?_, ?_⟩
    · have hva9 := LC9.wts
      refine ⟨_, rfl, _, _, rfl, rfl, _, rfl, (by show 1 ≤ sizeLine; decide), fun l3 g3 => ?_⟩
      have f3 := Fr.new (T := T) (M := []) g3 (o := .lst [.int 0])
      have e3 : upd H9 l3 (.lst [.int 0]) l3 = some (.lst [.int 0]) := upd_same
      generalize upd H9 l3 (.lst [.int 0]) = H10 at f3 e3 ⊢
      refine ⟨va, l3, _, _, rfl, rfl, f3.lst hva9, e3, by rw [intV_len]; show z.sts.length + 1 ≤ sizeLine; exact Nat.le_of_lt (inLine (by omega)), fun l4 g4 => ?_⟩
      have f4 := Fr.new (T := T) (M := []) g4 (o := .lst (intV z.sts.length wt ++ [.int 0]))
      have e4 : upd H10 l4 (.lst (intV z.sts.length wt ++ [.int 0])) l4 = some (.lst ((intI z.sts.length wt ++ [0]).map V.int)) := by rw [upd_same, List.map_append, ← intV_I]; rfl
      generalize upd H10 l4 (.lst (intV z.sts.length wt ++ [.int 0])) = H11 at f4 e4 ⊢
      have frA := f3.trans f4
      refine ⟨l4, _, rfl, SqL.of e4, by rw [List.length_append]; show 0 < _ + 1; omega, fun mx hmx hle => ?_⟩
      have hmx0 : 0 ≤ mx := hle 0 (List.mem_append_right _ (List.mem_singleton.mpr rfl))
      have hwle : ∀ k, k < z.sts.length → wt k ≤ mx := fun k hk => hle _ (List.mem_append_left _ (List.mem_map.mpr ⟨k, List.mem_range.mpr hk, rfl⟩))
      have hmx5 : mx ≤ 5000 := by
        rcases List.mem_append.mp hmx with h | h
        · obtain ⟨k, hk, ek⟩ := List.mem_map.mp h
          have hk := List.mem_range.mp hk
          have hy := List.getElem?_eq_getElem hk
          generalize z.sts[k] = y at hy
          have h1 := (hwo k hk y hy).2.1
          have h2 := (farN_le okz hy).2
          omega
        · rw [List.mem_singleton.mp h]
          decide
      obtain ⟨mN, emN⟩ : ∃ mN : Nat, mx = mN := ⟨mx.toNat, by omega⟩
      subst emN
      refine ⟨_, _, rfl, rfl, _, rfl, (by omega), (by omega), ?_⟩
      rw [show ((((long : Nat) : Int) + 1) + (mN : Nat)).toNat = long + 1 + mN by omega]
      refine for_sq (sq_rng (lo := 0) (n := long + 1 + mN)) (fun t σ H' => ∃ x12 x13 x14 x15 x16 es lv marks refused came went q W, σ = [some (.ref s), some (.ref d), some (.int (z.m : Nat)), some (.int (z.sl : Nat)), some (.ref p), some (.ref sa), some (.ref va), some (.ref qu), some (.ref wa), some (.ref la), some (.int (refused : Nat)), some (.int (long : Nat)), x12, x13, x14, x15, x16, none, none, none, none] ∧ LawC T l d sa va qu z.sts wt qv H' ∧ Dice H' d ∧ SwAt H' c p z marks refused t came went q ∧ ApartR p d la z es ∧ WantAt H' wa es z.sts.length W ∧ H' la = some (.lst (intV z.sts.length lv)) ∧ LawInv z long (t) lv marks q W ∧ ∀ k, k < z.sts.length → (W k).length ≤ 101 * min (t) long) ⟨none, none, none, none, none, es0, fun _ => 0, marks, 0, 0, 0, _, fun _ => [], rfl, LC9.fr0 frA, hd9.fr frA (by simp), SA9.fr0 frA, AR8, WA9.fr0 frA, frA.lst hla9, initI, fun k _ => Nat.zero_le _⟩ (fun _ _ _ _ _ => trivial) ?_ (fun σ H' h => ⟨_, mN, rfl, hwle, h⟩)
      clear initI LC9 hd9 hd9' SA9 WA9 hla9 f3 e3 f4 e4 hva9 frA hmx hle
      rintro t x σ H12 H12' ht ⟨x12, x13, x14, x15, x16, es, lv, mks, refused, came, went, q, W, rfl, LC, hd, SA, AR, WA, hla, inv, hlen⟩ hx
      obtain ⟨rfl, rfl⟩ := yRg0 hx
      -- what comes
      refine ⟨fun σ H' => ∃ ca ka counts, σ = [some (.ref s), some (.ref d), some (.int (z.m : Nat)), some (.int (z.sl : Nat)), some (.ref p), some (.ref sa), some (.ref va), some (.ref qu), some (.ref wa), some (.ref la), some (.int (refused : Nat)), some (.int (long : Nat)), some (.int (t : Nat)), some (.ref ca), some (.ref ka), x15, x16, none, none, none, none] ∧ counts.length = z.sts.length ∧ (∀ k, cnt counts k ≤ 101) ∧ (¬ t < long → ∀ k, cnt counts k = 0) ∧ ca ∉ swL p z ∧ ca ≠ wa ∧ ka ≠ wa ∧ H' ca = some (.lst (natV counts)) ∧ H' ka = some (.lst (rowV z.sts.length (kpt z lv counts))) ∧
          LawC T l d sa va qu z.sts wt qv H' ∧ Dice H' d ∧ SwAt H' c p z mks refused t came went q ∧ ApartR p d la z es ∧ WantAt H' wa es z.sts.length W ∧ H' la = some (.lst (intV z.sts.length (fun k => lvAfter (yOf z k) z.sl (lv k) (cnt counts k)))), ?_, ?_⟩
      · have hwaS := WA.top_
        obtain ⟨bs, hsaS, _, _⟩ := LC.stm
        refine ⟨_, rfl, _, rfl, _, rfl, _, rfl, _, rfl, _, rfl, _, _, rfl, rfl, d, sa, la, z.sts, z.sl, lv, decide ((t : Int) < (long : Int)), rfl, hd, LC.stm, hla, A.d6.symm, A.a2, A.d2, okz.s, by omega, fun k y hy => ?_, fun tt ca ka counts H13 fr13 htt h1 h2 h3 h4 h5 h6 h7 h8 h9 h10 => ?_⟩
        · obtain ⟨_, _, _, g1, _, g2⟩ := okz.st k y hy
          have := okz.s
          exact ⟨g1, by omega⟩
        · refine ⟨tt, _, rfl, SqT.of htt, rfl, _, _, rfl, _, _, rfl, rfl, ca, ka, counts, rfl, h1, h2, fun hn => h3 (decide_eq_false (by omega)), fun hm => SA.notNone h4 (swL_all hm), fun e => ?_, fun e => ?_, h7, h8, LC.frD A fr13, h10, SA.frD A hd fr13, AR, WA.frD A AR fr13, h9⟩
          · rw [e, hwaS] at h4; cases h4
          · rw [e, hwaS] at h5; cases h5
      clear LC hd SA WA hla
      rintro σ H13 ⟨ca, ka, counts, rfl, hcl, hc101, hcb, nca, ncw, nkw, hca, hka, LC, hd, SA, _, WA, hla⟩
      have mid := inv.came dis (counts := counts) hcb
      have href := refU_eq inv.mks refused z.sts.length (Nat.le_refl _) (counts := counts)
      -- refused
      refine ⟨fun σ H' => σ = [some (.ref s), some (.ref d), some (.int (z.m : Nat)), some (.int (z.sl : Nat)), some (.ref p), some (.ref sa), some (.ref va), some (.ref qu), some (.ref wa), some (.ref la), some (.int (refU z mks counts refused z.sts.length : Nat)), some (.int (long : Nat)), some (.int (t : Nat)), some (.ref ca), some (.ref ka), x15, x16, none, none, none, none] ∧ H' = H13, ?_, ?_⟩
      · have hca' : H13 ca = some (.lst ((rowI z.sts.length (cnt counts)).map V.int)) := by rw [hca, natV_row, hcl]; rfl
        refine ⟨_, rfl, _, rfl, ca, _, rfl, SqL.of hca', _, _, rfl, rfl, _, rfl, ka, _, rfl, SqL.of hka, _, _, rfl, rfl, ?_, rfl⟩
        have e : ((refused : Nat) : Int) + (rowI z.sts.length (cnt counts)).sum - (rowI z.sts.length (kpt z lv counts)).sum = ((refU z mks counts refused z.sts.length : Nat) : Int) := by
          rw [rowI_sum, rowI_sum]
          omega
        rw [← e]
        rfl
      rintro σ H14 ⟨rfl, rfl⟩
      let W1 : Nat → List Cell := fun k => W k ++ cells k t (kpt z lv counts k)
      -- wanted
      refine ⟨fun σ H' => ∃ x15 x16 es', σ = [some (.ref s), some (.ref d), some (.int (z.m : Nat)), some (.int (z.sl : Nat)), some (.ref p), some (.ref sa), some (.ref va), some (.ref qu), some (.ref wa), some (.ref la), some (.int (refU z mks counts refused z.sts.length : Nat)), some (.int (long : Nat)), some (.int (t : Nat)), some (.ref ca), some (.ref ka), x15, x16, none, none, none, none] ∧ Fr T [wa] H14 H' ∧ WantAt H' wa es' z.sts.length W1 ∧ ApartR p d la z es', ?_, ?_⟩
      · refine ⟨_, rfl, ka, _, rfl, SqL.of hka, ?_⟩
        refine for_sq (sq_enum (a := ka) (xs := rowV z.sts.length (kpt z lv counts))) (fun i σ H' => ∃ x15 x16 es', σ = [some (.ref s), some (.ref d), some (.int (z.m : Nat)), some (.int (z.sl : Nat)), some (.ref p), some (.ref sa), some (.ref va), some (.ref qu), some (.ref wa), some (.ref la), some (.int (refU z mks counts refused z.sts.length : Nat)), some (.int (long : Nat)), some (.int (t : Nat)), some (.ref ca), some (.ref ka), x15, x16, none, none, none, none] ∧ Fr T [wa] H14 H' ∧ WantAt H' wa es' z.sts.length (fun j => if j < i then W1 j else W j) ∧ ∀ e ∈ es', e ∈ es ∨ H14 e = none) ⟨_, _, es, rfl, Fr.refl _ _ _, ⟨WA.top_, WA.len, fun j e he => (by rw [if_neg (by omega)]; exact WA.row j e he)⟩, fun e he => .inl he⟩ ?_ ?_ ?_
        · rintro i σ H' _ ⟨x15, x16, es', rfl, fr, _⟩
          exact SqL.of (fr.lstN hka (by simp [nkw]))
        · rintro i x σ H15 H15' hi ⟨x15, x16, es', rfl, fr15, WA15, hes⟩ ⟨t2, y0, rfl, ht2, rfl, hy0⟩
          rw [rowV_len] at hi
          obtain ⟨rfl, _⟩ := rowV_of hy0
          have f2 := Fr.new (T := T) (M := []) ht2 (o := .tup [.int (i : Nat), .int (kpt z lv counts i : Nat)])
          have e2 : upd H15 t2 (.tup [.int (i : Nat), .int (kpt z lv counts i : Nat)]) t2 = some (.tup [.int (i : Nat), .int (kpt z lv counts i : Nat)]) := upd_same
          generalize upd H15 t2 (.tup [.int (i : Nat), .int (kpt z lv counts i : Nat)]) = H16 at f2 e2 ⊢
          have WA16 := WA15.fr0 f2
          have hkp : kpt z lv counts i ≤ 101 := by
            have := hc101 i
            unfold kpt
            split <;> omega
          obtain ⟨e, he⟩ : ∃ e, es'[i]? = some e := ⟨_, List.getElem?_eq_getElem (by rw [WA15.len]; exact hi)⟩
          obtain ⟨cs, hcs, hcsl, hcsc⟩ := WA16.row i e he
          rw [if_neg (by omega)] at hcsl hcsc
          have hWl := hlen i hi
          have hmin : 101 * min t long ≤ 6060 := by
            have : min t long ≤ 60 := by omega
            omega
          refine ⟨t2, _, rfl, SqT.of e2, rfl, _, _, rfl, _, _, rfl, rfl, ?_⟩
          refine ⟨_, rfl, _, rfl, wa, _, _, _, rfl, rfl, SqL.of WA16.top_, at_of (j := i) rfl (by rw [List.getElem?_map, he]; rfl), _, rfl, _, rfl, (by omega), (by omega), fun D hD => ?_⟩
          refine lc_sq (sq_rng (lo := 0) (n := kpt z lv counts i)) (fun j H' => Fr T [] H16 H' ∧ ∃ ds : List Addr, H' D = some (.lst (ds.map V.ref)) ∧ ds.length = j ∧ ∀ (a : Nat) b, ds[a]? = some b → CellAt H' b (i, t, a)) ⟨Fr.new hD, [], upd_same, rfl, fun a b h => (by cases h)⟩ (fun _ _ _ _ => trivial) ?_ ?_
          · rintro j x H17 H17' hj ⟨fr17, ds, hD17, hdl, hds⟩ hx
            obtain ⟨rfl, rfl⟩ := yRg0 hx
            refine ⟨rfl, _, rfl, _, rfl, _, rfl, (by show 3 ≤ sizeLine; decide), fun b hb => ?_⟩
            have nDb : D ≠ b := ne_of_none hD17 hb
            have hD18 : upd H17' b (.tup [.int (i : Nat), .int (t : Nat), .int (j : Nat)]) D = some (.lst (ds.map V.ref)) := by rw [upd_ne nDb]; exact hD17
            refine ⟨_, hD18, by rw [List.length_map, hdl]; exact inLine (by omega), (fr17.andNew hb).own hD hD18 (.lst _), ds ++ [b], by rw [upd_same, List.map_append]; rfl, by rw [List.length_append, hdl]; rfl, fun a b' hb' => ?_⟩
            rcases Nat.lt_or_ge a ds.length with h | h
            · rw [List.getElem?_append_left h] at hb'
              have h1 := hds a b' hb'
              unfold CellAt at h1 ⊢
              have n1 : b' ≠ b := ne_of_none h1 hb
              have n2 : b' ≠ D := fun e => by rw [e, hD17] at h1; cases h1
              rw [upd_ne n2, upd_ne n1]
              exact h1
            · have h0 : a = ds.length := by
                have := (List.getElem?_eq_some_iff.mp hb').1
                rw [List.length_append, List.length_singleton] at this
                omega
              subst h0
              rw [List.getElem?_append_right (Nat.le_refl _), Nat.sub_self] at hb'
              have eb : b = b' := Option.some.inj hb'
              subst eb
              unfold CellAt
              rw [upd_ne nDb.symm, upd_same, hdl]
          · rintro H17 ⟨fr17, ds, hD17, hdl, hds⟩
            have hcs17 := fr17.lst hcs
            refine ⟨e, D, _, _, rfl, rfl, hcs17, hD17, by rw [List.length_map, List.length_map, hcsl, hdl]; exact Nat.le_of_lt (inLine (by omega)), fun g hg => ?_⟩
            have hwa17 := fr17.lst WA16.top_
            have nwg : wa ≠ g := ne_of_none hwa17 hg
            refine ⟨_, rfl, _, rfl, wa, _, _, i, rfl, rfl, by rw [upd_ne nwg]; exact hwa17, ?_, ?_⟩
            · unfold ixN
              rw [if_pos (by omega), if_pos (by rw [List.length_map, WA16.len]; omega)]
              simp
            have frg := fr17.andNew hg (o := .lst (cs.map V.ref ++ ds.map V.ref))
            have hgg : upd H17 g (.lst (cs.map V.ref ++ ds.map V.ref)) g = some (.lst ((cs ++ ds).map V.ref)) := by rw [upd_same, List.map_append]
            have hwag := frg.lst WA16.top_
            have hg0 : H14 g = none := fr15.dom _ (f2.dom _ (fr17.dom _ hg))
            have frw : Fr T [wa] H16 (upd (upd H17 g (.lst (cs.map V.ref ++ ds.map V.ref))) wa (.lst ((es'.map V.ref).set i (.ref g)))) := frg.up.andSet (List.mem_singleton.mpr rfl) hwag (.lst _)
            have frv : Fr T [wa] H17 (upd (upd H17 g (.lst (cs.map V.ref ++ ds.map V.ref))) wa (.lst ((es'.map V.ref).set i (.ref g)))) := (Fr.new hg).andSet (List.mem_singleton.mpr rfl) hwag (.lst _)
            have nrow := WA16.nrow
            refine ⟨_, _, es'.set i g, rfl, fr15.trans (f2.up.trans frw), ⟨by rw [upd_same, List.map_set], by rw [List.length_set]; exact WA16.len, fun j e' hj => ?_⟩, fun e' he' => ?_⟩
            · by_cases ej : j = i
              · subst ej
                rw [List.getElem?_set_self (by rw [WA16.len]; exact hi)] at hj
                have eq : g = e' := Option.some.inj hj
                subst eq
                rw [if_pos (Nat.lt_succ_self j)]
                refine ⟨cs ++ ds, by rw [upd_ne nwg.symm]; exact hgg, ?_, fun a b x e1 e2 => ?_⟩
                · show _ = (W j ++ cells j t (kpt z lv counts j)).length
                  rw [List.length_append, List.length_append, hcsl, hdl]
                  unfold cells
                  rw [List.length_map, List.length_range]
                · have e2 : (W j ++ cells j t (kpt z lv counts j))[a]? = some x := e2
                  rcases Nat.lt_or_ge a cs.length with h | h
                  · rw [List.getElem?_append_left h] at e1
                    rw [List.getElem?_append_left (by omega)] at e2
                    exact frw.tup _ _ (hcsc a b x e1 e2)
                  · rw [List.getElem?_append_right h] at e1
                    rw [List.getElem?_append_right (by omega), ← hcsl] at e2
                    obtain ⟨rfl, _⟩ := cells_at e2
                    exact frv.tup _ _ (hds _ _ e1)
              · rw [List.getElem?_set_ne (Ne.symm ej)] at hj
                have h1 := (WA16.row j e' hj).fr frw fun hm => nrow e' (List.mem_of_getElem? hj) (List.mem_singleton.mp hm)
                by_cases c1 : j < i
                · rw [if_pos c1] at h1
                  rw [if_pos (by omega)]
                  exact h1
                · rw [if_neg c1] at h1
                  rw [if_neg (by omega)]
                  exact h1
            · rcases List.mem_or_eq_of_mem_set he' with h | h
              · exact hes e' h
              · rw [h]; exact .inr hg0
        · rintro σ H' ⟨x15, x16, es', rfl, fr, WA', hes⟩
          rw [rowV_len] at WA'
          exact ⟨x15, x16, es', rfl, fr, ⟨WA'.top_, WA'.len, fun j e he => (by
            have h1 := WA'.row j e he
            rw [if_pos (by rw [← WA'.len]; exact (List.getElem?_eq_some_iff.mp he).1)] at h1
            exact h1)⟩, AR.new SA hd hla hes⟩
      rintro σ H15 ⟨y15, y16, es1, rfl, fr15, WA15, AR15⟩
      have LC15 := LC.frW A fr15
      have hd15 := hd.fr fr15 (by simp [A.d5.symm])
      have SA15 := SA.frW A fr15
      have hla15 := fr15.lstN hla (by simp [A.a5.symm])
      have hca15 := fr15.lstN hca (by simp [ncw])
      clear LC SA hla WA hca hka
      -- no queue is too long
      refine ⟨fun σ H' => σ = [some (.ref s), some (.ref d), some (.int (z.m : Nat)), some (.int (z.sl : Nat)), some (.ref p), some (.ref sa), some (.ref va), some (.ref qu), some (.ref wa), some (.ref la), some (.int (refU z mks counts refused z.sts.length : Nat)), some (.int (long : Nat)), some (.int (t : Nat)), some (.ref ca), some (.ref ka), y15, y16, none, none, none, none] ∧ Fr T [] H15 H', ?_, ?_⟩
      · have hesl : (es1.map V.ref).length = z.sts.length := by rw [List.length_map]; exact WA15.len
        refine ⟨_, rfl, wa, _, rfl, SqL.of WA15.top_, fun D hD => ?_⟩
        refine lc_sq (sq_enum (a := wa) (xs := es1.map V.ref)) (fun i H' => Fr T [] H15 H' ∧ H' D = some (.lst [])) ⟨Fr.new hD, upd_same⟩ (fun i H' _ p => SqL.of (p.1.lst WA15.top_)) ?_ ?_
        · rintro i x H16 H16' hi ⟨fr16, hD16⟩ ⟨t2, y0, rfl, ht2, rfl, hy0⟩
          rw [hesl] at hi
          obtain ⟨e, he, rfl⟩ := getRef hy0
          have frt := fr16.andNew ht2 (o := .tup [.int (i : Nat), .ref e])
          have nDt : D ≠ t2 := ne_of_none hD16 ht2
          obtain ⟨cs, hcs, hcsl, _⟩ := (WA15.row i e he).fr frt (by simp)
          have hqu := frt.lst LC15.qus
          have hy := List.getElem?_eq_getElem hi
          generalize z.sts[i] = y at hy
          have hql := mid.queue hy (rated i y hy) (hqo i hi y hy)
          have hcl2 : (cs.map V.ref).length = (W1 i).length := by rw [List.length_map]; exact hcsl
          refine ⟨t2, _, rfl, SqT.of upd_same, rfl, _, _, rfl, _, _, rfl, rfl, rfl, ?_⟩
          refine ⟨_, rfl, e, _, rfl, .inl (SqL.of hcs), _, rfl, _, rfl, qu, _, _, _, rfl, rfl, SqL.of hqu, at_of (j := i) rfl (intV_at hi), _, _, rfl, rfl, false, congrArg V.bl (decide_eq_false ?_), frt, by rw [upd_ne nDt]; exact hD16⟩
          rw [hcl2]
          have hql' : ((W1 i).length : Int) ≤ qv i := hql
          omega
        · rintro H16 ⟨fr16, hD16⟩
          refine ⟨(by show 0 ≤ sizeLine; decide), fun u hu => ?_⟩
          have nDu : D ≠ u := ne_of_none hD16 hu
          exact ⟨.list [], .list [], .lst (SqL.of (by rw [upd_ne nDu]; exact hD16)) .nil, .lst (SqL.of upd_same) .nil, rfl, rfl, false, rfl, rfl, fr16.andNew hu⟩
      rintro σ H16 ⟨rfl, fr16⟩
      have LC16 := LC15.fr0 fr16
      have hd16 := hd15.fr fr16 (by simp)
      have SA16 := SA15.fr0 fr16
      have WA16 := WA15.fr0 fr16
      have hla16 := fr16.lst hla15
      have hca16 := fr16.lst hca15
      obtain ⟨dx, hp16⟩ := SA16.ob
      have hmin : ∀ u, 101 * min u long ≤ 6060 := fun u => by
        have : min u long ≤ 60 := by omega
        omega
      have hm20 := okz.m
      -- what goes out
      refine ⟨_, rfl, p, dx, _, rfl, hp16, rfl, _, rfl, p, z, mks, refused, t, came, went, q, ca, counts, rfl, SA16, hca16, nca, hcl, fun k => Nat.le_trans (hc101 k) (by decide), fun i j hi hj => ?_, fun t i j h => (po.lt t i j h).2, fun tt ts came' went' H17 fr17 SA17 htt hS => ?_⟩
      · by_cases cc : ∃ (k : Nat) (y : St4), z.sts[k]? = some y ∧ y.one = i ∧ y.gate = j
        · obtain ⟨k, y, hk, e1, e2⟩ := cc
          rw [← e1, ← e2, inv.qW k y hk]
          have h1 := hlen k (List.getElem?_eq_some_iff.mp hk).1
          have h2 := hmin t
          omega
        · rw [inv.q0 i j fun k y hk hh => cc ⟨k, y, hk, hh⟩]
          exact Nat.zero_le _
      have sok := mid.sends po rated (wt := wt) fun k y hk => ⟨(hwo k (List.getElem?_eq_some_iff.mp hk).1 y hk).1, (hwo k (List.getElem?_eq_some_iff.mp hk).1 y hk).2.2⟩
      have hL := sentU_len (z.pl (t % z.sl)) (offQ z mks counts t q z.sts.length) t z.m
      have LC17 := LC16.frS A fr17
      have WA17 := WA16.frS A AR15 fr17
      refine ⟨_, rfl, _, rfl, _, rfl, _, rfl, tt, sa, wa, va, t, ts, _, z.sts, W1, wt, es1, rfl, htt, hS, LC17.stm, WA17, LC17.wts, sok, by omega, A.w2.symm, A.w3.symm, fun es2 H18 fr18 WA18 hes2 => ⟨true, rfl, ?_⟩⟩
      have hd17 := hd16.fr fr17 fun hm => hd16.not SA16 (swL_all hm)
      have hla17 := fr17.lstN hla16 fun hm => A.l6 (swL_all hm)
      have AR18 := AR15.new SA17 hd17 hla17 hes2
      have inv2 := (mid.served po).congr (W' := wSent (sentU (z.pl (t % z.sl)) (offQ z mks counts t q z.sts.length) t z.m) W1) (lv' := fun k => lvAfter (yOf z k) z.sl (lv k) (cnt counts k)) (fun k hk => mid.left po k hk) (fun _ _ => rfl)
      refine ⟨_, _, _, _, _, es2, _, _, _, came', went', _, _, rfl, LC17.frW A fr18, hd17.fr fr18 (by simp [A.d5.symm]), SA17.frW A fr18, AR18, WA18, fr18.lstN hla17 (by simp [A.a5.symm]), inv2, fun k hk => ?_⟩
      have h1 := hlen k hk
      have h2 : (W1 k).length = (W k).length + kpt z lv counts k := by
        show (W k ++ cells k t (kpt z lv counts k)).length = _
        rw [List.length_append]
        unfold cells
        rw [List.length_map, List.length_range]
      have h3 : kpt z lv counts k ≤ if t < long then 101 else 0 := by
        have a1 := hc101 k
        unfold kpt
        by_cases c1 : t < long
        · rw [if_pos c1]
          split <;> omega
        · rw [if_neg c1]
          have a2 := hcb c1 k
          split <;> omega
      have h4 : (wSent (sentU (z.pl (t % z.sl)) (offQ z mks counts t q z.sts.length) t z.m) W1 k).length ≤ (W1 k).length := by
        unfold wSent
        split
        · rw [List.length_tail]; omega
        · exact Nat.le_refl _
      have h5 : 101 * min t long + (if t < long then 101 else 0) = 101 * min (t + 1) long := by
        by_cases c1 : t < long
        · rw [if_pos c1, Nat.min_eq_left (by omega), Nat.min_eq_left (by omega)]
          omega
        · rw [if_neg c1, Nat.min_eq_right (by omega), Nat.min_eq_right (by omega)]
          omega
      omega
    clear LC9 hd9 hd9' SA9 WA9 hla9 initI
    rintro σ H10 ⟨N, mN, eN, hwle, x12, x13, x14, x15, x16, es, lv, mks, refused, came, went, q, W, rfl, LC, hd, SA, AR, WA, hla, inv, _⟩
    have bare : ∀ k, k < z.sts.length → W k = [] := fun k hk => by
      have hy := List.getElem?_eq_getElem hk
      generalize z.sts[k] = y at hy
      have h1 := hwo k hk y hy
      have h2 := hwle k hk
      exact inv.bare hy (rated k y hy) h1.1 h1.2.2 (by omega)
    have hesl : (es.map V.ref).length = z.sts.length := by rw [List.length_map]; exact WA.len
    have rowN : ∀ (k : Nat) e, es[k]? = some e → H10 e = some (.lst []) := fun k e he => by
      have hk : k < z.sts.length := by rw [← WA.len]; exact (List.getElem?_eq_some_iff.mp he).1
      obtain ⟨cs, h1, h2, _⟩ := WA.row k e he
      rw [bare k hk] at h2
      cases cs with
      | nil => exact h1
      | cons a b => cases h2
    refine ⟨_, rfl, wa, rfl, ⟨_, SqL.of WA.top_⟩, fun D hD => ?_⟩
    refine lc_sq (sq_list (a := wa) (xs := es.map V.ref)) (fun i H' => Fr T [] H10 H' ∧ H' D = some (.lst [])) ⟨Fr.new hD, upd_same⟩ (fun i H' _ p => SqL.of (p.1.lst WA.top_)) ?_ ?_
    · rintro i x H11 H11' hi ⟨fr11, hD11⟩ ⟨hx, rfl⟩
      obtain ⟨e, he, rfl⟩ := getRef hx
      have he11 := fr11.lst (rowN i e he)
      refine ⟨rfl, _, rfl, (by show 0 ≤ sizeLine; decide), fun u hu => ?_⟩
      have neu : e ≠ u := ne_of_none he11 hu
      have nDu : D ≠ u := ne_of_none hD11 hu
      exact ⟨.list [], .list [], .lst (SqL.of (by rw [upd_ne neu]; exact he11)) .nil, .lst (SqL.of upd_same) .nil, rfl, rfl, false, rfl, fr11.andNew hu, by rw [upd_ne nDu]; exact hD11⟩
    · rintro H11 ⟨fr11, hD11⟩
      refine ⟨(by show 0 ≤ sizeLine; decide), fun u hu => ?_⟩
      have nDu : D ≠ u := ne_of_none hD11 hu
      have fr12 := fr11.andNew hu (o := .lst [])
      have SA12 := SA.fr0 fr12
      obtain ⟨dx, hp12⟩ := SA12.ob
      obtain ⟨db, hb12⟩ := SA12.bar.ob
      have hm20 := okz.m
      refine ⟨.list [], .list [], .lst (SqL.of (by rw [upd_ne nDu]; exact hD11)) .nil, .lst (SqL.of upd_same) .nil, rfl, rfl, false, rfl, ?_⟩
      refine ⟨_, rfl, p, c.W, dx, _, _, rfl, hp12, KW.cl, KW.na _ (by simp), rfl, _, rfl, rfl, false, congrArg V.bl (by rw [decide_eq_true rfl]; rfl), ?_⟩
      refine ⟨_, rfl, p, c.W, dx, _, _, rfl, hp12, KW.cl, KW.na _ (by simp), rfl, z.ba, db, _, rfl, hb12, rfl, z.ba, z.la, z.ra, z.qa, z.m, N, came, went, q, rfl, fr12.tb LC.tb, SA12.bar, by omega, fun i j _ _ => inv.bareQ bare i j, fun H13 fr13 => ⟨rfl, false, congrArg V.bl (by rw [decide_eq_true rfl]; rfl), ?_⟩⟩
      exact ⟨fr13.lst (fr12.lst LC.ll), fun h => by cases h⟩
end
end KX
set_option Elab.async false
set_option linter.all false
set_option maxRecDepth 100000
set_option maxHeartbeats 0
/-! KX 31: the head: what is told of the top, its run. -/
namespace KX
open PySem PySem.Spec PyProof.Rows L2 GX
def dd (p : Str × Option Str) (name qual : Str) (st : Stmt) : He.DefD := ⟨p, name, qual, defArgs st, defBody st, defScope st, [], []⟩
abbrev d_check : He.DefD := dd ("check_rates", none) "check_rates" "check_rates" sCheck
abbrev d_at : He.DefD := dd ("Calls", some "at") "at" "Calls.at" sAt
abbrev d_ff : He.DefD := dd ("Calls", some "first_free") "first_free" "Calls.first_free" sFF
abbrev d_ex : He.DefD := dd ("Calls", some "exchange") "exchange" "Calls.exchange" sEx
abbrev d_col : He.DefD := dd ("Calls", some "colour") "colour" "Calls.colour" sCol
abbrev d_ci : He.DefD := dd ("Calls", some "__init__") "__init__" "Calls.__init__" sCI
abbrev d_frame : He.DefD := dd ("frame", none) "frame" "frame" sFrame
abbrev d_served : He.DefD := dd ("served", none) "served" "served" sServed
abbrev d_least : He.DefD := dd ("least_served", none) "least_served" "least_served" sLeast
abbrev d_bi : He.DefD := dd ("Bucket", some "__init__") "__init__" "Bucket.__init__" sBI
abbrev d_take : He.DefD := dd ("Bucket", some "take") "take" "Bucket.take" sTake
abbrev d_si : He.DefD := dd ("Stream", some "__init__") "__init__" "Stream.__init__" sSI
abbrev d_bc : He.DefD := dd ("bucket_curve", none) "bucket_curve" "bucket_curve" sBC
abbrev d_mq : He.DefD := dd ("most_queue", none) "most_queue" "most_queue" sMQ
abbrev d_mw : He.DefD := dd ("most_wait", none) "most_wait" "most_wait" sMW
abbrev d_xi : He.DefD := dd ("Crossbar", some "__init__") "__init__" "Crossbar.__init__" sXI
abbrev d_put : He.DefD := dd ("Crossbar", some "put") "put" "Crossbar.put" sPut
abbrev d_serve : He.DefD := dd ("Crossbar", some "serve") "serve" "Crossbar.serve" sServe
abbrev d_hm : He.DefD := dd ("Crossbar", some "how_many") "how_many" "Crossbar.how_many" sHM
abbrev d_comes : He.DefD := dd ("Switch", some "comes") "comes" "Switch.comes" sComes
abbrev d_serves : He.DefD := dd ("Switch", some "serves") "serves" "Switch.serves" sServes
abbrev d_far : He.DefD := dd ("Switch", some "far") "far" "Switch.far" sFar
abbrev d_qb : He.DefD := dd ("Switch", some "queue_bound") "queue_bound" "Switch.queue_bound" sQB
abbrev d_wb : He.DefD := dd ("Switch", some "wait_bound") "wait_bound" "Switch.wait_bound" sWB
abbrev d_ar : He.DefD := dd ("Switch", some "all_rates") "all_rates" "Switch.all_rates" sAR
abbrev d_offer : He.DefD := dd ("Switch", some "offer") "offer" "Switch.offer" sOffer
abbrev d_turn : He.DefD := dd ("Switch", some "turn") "turn" "Switch.turn" sTurn
abbrev d_wi : He.DefD := dd ("Switch", some "__init__") "__init__" "Switch.__init__" sWI
abbrev d_ad : He.DefD := dd ("Switch", some "admit") "admit" "Switch.admit" sAd
abbrev d_dice : He.DefD := dd ("_law_dice", none) "_law_dice" "_law_dice" sDice
abbrev d_roll : He.DefD := dd ("_law_roll", none) "_law_roll" "_law_roll" sRoll
abbrev d_rounds : He.DefD := dd ("_law_rounds", none) "_law_rounds" "_law_rounds" sRounds
abbrev d_told : He.DefD := dd ("_law_told", none) "_law_told" "_law_told" sTold
abbrev d_streams : He.DefD := dd ("_law_streams", none) "_law_streams" "_law_streams" sStreams
abbrev d_came : He.DefD := dd ("_law_came", none) "_law_came" "_law_came" sCame
abbrev d_once : He.DefD := dd ("_law_once", none) "_law_once" "_law_once" sOnce
abbrev d_sent : He.DefD := dd ("_law_sent", none) "_law_sent" "_law_sent" sSent
abbrev d_law : He.DefD := dd ("law", none) "law" "law" sLaw
def fnL : List He.DefD := [d_check, d_at, d_ff, d_ex, d_col, d_ci, d_frame, d_served, d_least, d_bi, d_take, d_si, d_bc, d_mq, d_mw, d_xi, d_put, d_serve, d_hm, d_comes, d_serves, d_far, d_qb, d_wb, d_ar, d_offer, d_turn, d_wi, d_ad, d_dice, d_roll, d_rounds, d_told, d_streams, d_came, d_once, d_sent, d_law]
def faL : List He.Fa := [.glo "check_rates", .glo "frame", .glo "served", .glo "least_served", .glo "bucket_curve", .glo "most_queue", .glo "most_wait", .glo "Bucket", .glo "Crossbar", .glo "Calls", .glo "Stream", .glo "Switch", .glo "BadGate", .glo "BadNet", .glo "BadRate", .glo "BadSize", .glo "Blocked", .glo "NoSuch", .glo "_law_dice", .glo "_law_roll", .glo "_law_rounds", .glo "_law_told", .glo "_law_streams", .glo "_law_came", .glo "_law_once", .glo "_law_sent", .glo "law", .free "any", .free "sum", .free "len", .free "range", .free "tuple", .free "list", .free "enumerate", .free "zip", .free "min", .free "max", .free "abs", .free "int", .free "dict", .cls "Calls", .noat "Calls" "calls", .noat "Calls" "left", .noat "Calls" "right", .noat "Calls" "colours", .mkr "Calls", .cls "Bucket", .noat "Bucket" "burst", .noat "Bucket" "rate", .noat "Bucket" "marks", .mkr "Bucket", .cls "Stream", .noat "Stream" "one", .noat "Stream" "gate", .noat "Stream" "burst", .noat "Stream" "rate", .mkr "Stream", .cls "Crossbar", .noat "Crossbar" "many", .noat "Crossbar" "queues", .noat "Crossbar" "slot", .noat "Crossbar" "came", .noat "Crossbar" "went", .mkr "Crossbar", .cls "Switch", .noat "Switch" "many", .noat "Switch" "slots", .noat "Switch" "streams", .noat "Switch" "buckets", .noat "Switch" "plan", .noat "Switch" "bar", .noat "Switch" "refused", .mkr "Switch", .meth "Calls" "at", .meth "Calls" "first_free", .meth "Calls" "exchange", .meth "Calls" "colour", .meth "Bucket" "take", .meth "Crossbar" "put", .meth "Crossbar" "serve", .meth "Crossbar" "how_many", .meth "Switch" "all_rates", .meth "Switch" "admit", .meth "Switch" "offer", .meth "Switch" "turn", .meth "Switch" "comes", .meth "Switch" "serves", .meth "Switch" "far", .meth "Switch" "queue_bound", .meth "Switch" "wait_bound", .exc "BadRate"]
def tfL : List He.Defn := [("Crossbar", some "how_many"), ("Calls", some "__init__"), ("check_rates", none), ("served", none), ("Switch", some "admit"), ("_law_streams", none)]
def tP (K : PySem.W.Frag) (p : Str × Option Str) : Addr := (He.cT K p).2
def toldB (K : PySem.W.Frag) : Bool := decide (PySem.W.exmAny K (.ref (He.ga K "BadRate")) [.ref (He.ga K "BadGate"), .ref (He.ga K "BadNet"), .ref (He.ga K "BadRate"), .ref (He.ga K "BadSize"), .ref (He.ga K "Blocked"), .ref (He.ga K "NoSuch")] = some true)
def apartB (K : PySem.W.Frag) : Bool := ([("Crossbar", some "how_many"), ("Calls", some "__init__"), ("check_rates", none), ("served", none), ("Switch", some "admit")] : List He.Defn).all fun p => !decide (tP K p = tP K ("_law_streams", none))
def exB (K : PySem.W.Frag) : Bool := toldB K && apartB K
abbrev R : PySem.W.OpenRow := PySem.W.OpenLaw.row PySem.Challenge.rw_crossloom_k63_whole_switch_at_any_size
abbrev qv : Program := PySem.W.view R.prog [36]
abbrev hk : PySem.W.Hook := He.hookX 4 faL fnL [] tfL exB
def ob (s : PySem.W.SharedT) : He.AlX := He.obsX 4 faL fnL [] tfL exB (HandSHeadRun.getT s)
theorem ob_eq (s : PySem.W.SharedT) : ob s = hk.obs s.abs := He.obsX_eq (HandSHeadRun.getT_eq s)
def names : List PySem.Str := ["_wall", "FabricFault", "BadGate", "BadNet", "BadRate", "BadSize", "Blocked", "NoSuch", "Bucket", "Crossbar", "bucket_curve", "most_queue", "most_wait", "Calls", "check_rates", "frame", "served", "least_served", "Stream", "Switch", "_law_dice", "_law_roll", "_law_rounds", "_law_told", "_law_streams", "_law_came", "_law_once", "_law_sent"]
theorem run (w : World) : HandSHeadRun.RunEq R qv hk ob 6000 names w := by
  intro os
  kernel_rfl
end KX
set_option Elab.async false
set_option linter.all false
set_option maxRecDepth 100000
set_option maxHeartbeats 8000000
/-! KX 32: the facts by names, the law. -/
namespace KX
open PySem PySem.Spec PyProof.Rows L2 GX
theorem fun_of {K : PySem.W.Frag} {x qual : Str} {st : Stmt} {f : Addr} {fd : FuncData} (F : FunD K x qual (defArgs st) (defBody st) (defScope st) [] [] f fd) : Fun K x qual st f fd := by
  obtain ⟨oc, od, dV, kV, doc, pm, an, cdv, ct, osl, h1, h2, h3, hD, _⟩ := F.ex
  rcases hD with ⟨_, e⟩ | ⟨e, _⟩
  · subst e
    exact ⟨⟨oc, od, kV, doc, pm, an, cdv, ct, osl, h1, h2, h3⟩, F.kp⟩
  · exact absurd rfl e
theorem funC_of {K : PySem.W.Frag} {x qual : Str} {st : Stmt} {p : Str × Option Str} {fd : FuncData} (F : FunD K x qual (defArgs st) (defBody st) (defScope st) [] [] (He.fAd K p) fd) : FunC K x qual st (He.fAd K p) fd (He.codeOf K p) := by
  obtain ⟨oc, od, dV, kV, doc, pm, an, cdv, ct, osl, h1, h2, h3, hD, _⟩ := F.ex
  obtain ⟨c, ec⟩ := He.codeIn_ref h3
  subst ec
  rcases hD with ⟨_, e⟩ | ⟨e, _⟩
  · subst e
    have e2 : He.codeOf K p = c := He.codeOf_eq h2 (by rw [h1])
    rw [e2]
    exact ⟨⟨oc, od, kV, doc, pm, an, ct, osl, h1, h2, h3⟩, F.kp⟩
  · exact absurd rfl e
def tbOf (K : PySem.W.Frag) : Tb := ⟨tP K ("Crossbar", some "how_many"), tP K ("Calls", some "__init__"), tP K ("check_rates", none), tP K ("served", none), tP K ("Switch", some "admit"), tP K ("_law_streams", none)⟩
theorem codeOfOk {base : Heap} {mg : Str → Option Value} {c P : Addr} (h : LamX.TabB base mg c P) : CodeOf base mg c P := by
  obtain ⟨h1, ⟨bm, ob, b1, b2, b3, b4, b5, b6, b7, b8⟩, h3⟩ := h
  exact ⟨h1, bm, ob, b1, b2, b5, b6, b7, b8⟩
theorem facts {P : Program} {w : World} {K : PySem.W.Frag} {h : Heap} {mg : Str → Option Value} (X : K.In h) (G : h.Ns mainGlobals mg) (s : He.SaysX faL fnL [] tfL exB w h K) :
    ∃ fd : FuncData, (∀ (s : Shared) (v : Value), BindsTo s fd ⟨[v], []⟩ [("script", v)]) ∧ ∀ base : Heap, (∀ p ∈ tfL, LamX.TabB base mg (He.cT K p).1 (He.cT K p).2) → FnOk P w K mg base CX0 9 (He.ga K "law") fd ["script"] (spLaw (tbOf K) K) := by
  have c := s.t.d
  obtain ⟨told, apart⟩ := He.ba s.more
  obtain ⟨fd_check, D_check⟩ := c.def_ 0 (d := d_check) rfl
  obtain ⟨fd_at, D_at⟩ := c.def_ 1 (d := d_at) rfl
  obtain ⟨fd_ff, D_ff⟩ := c.def_ 2 (d := d_ff) rfl
  obtain ⟨fd_ex, D_ex⟩ := c.def_ 3 (d := d_ex) rfl
  obtain ⟨fd_col, D_col⟩ := c.def_ 4 (d := d_col) rfl
  obtain ⟨fd_ci, D_ci⟩ := c.def_ 5 (d := d_ci) rfl
  obtain ⟨fd_frame, D_frame⟩ := c.def_ 6 (d := d_frame) rfl
  obtain ⟨fd_served, D_served⟩ := c.def_ 7 (d := d_served) rfl
  obtain ⟨fd_least, D_least⟩ := c.def_ 8 (d := d_least) rfl
  obtain ⟨fd_bi, D_bi⟩ := c.def_ 9 (d := d_bi) rfl
  obtain ⟨fd_take, D_take⟩ := c.def_ 10 (d := d_take) rfl
  obtain ⟨fd_si, D_si⟩ := c.def_ 11 (d := d_si) rfl
  obtain ⟨fd_bc, D_bc⟩ := c.def_ 12 (d := d_bc) rfl
  obtain ⟨fd_mq, D_mq⟩ := c.def_ 13 (d := d_mq) rfl
  obtain ⟨fd_mw, D_mw⟩ := c.def_ 14 (d := d_mw) rfl
  obtain ⟨fd_xi, D_xi⟩ := c.def_ 15 (d := d_xi) rfl
  obtain ⟨fd_put, D_put⟩ := c.def_ 16 (d := d_put) rfl
  obtain ⟨fd_serve, D_serve⟩ := c.def_ 17 (d := d_serve) rfl
  obtain ⟨fd_hm, D_hm⟩ := c.def_ 18 (d := d_hm) rfl
  obtain ⟨fd_comes, D_comes⟩ := c.def_ 19 (d := d_comes) rfl
  obtain ⟨fd_serves, D_serves⟩ := c.def_ 20 (d := d_serves) rfl
  obtain ⟨fd_far, D_far⟩ := c.def_ 21 (d := d_far) rfl
  obtain ⟨fd_qb, D_qb⟩ := c.def_ 22 (d := d_qb) rfl
  obtain ⟨fd_wb, D_wb⟩ := c.def_ 23 (d := d_wb) rfl
  obtain ⟨fd_ar, D_ar⟩ := c.def_ 24 (d := d_ar) rfl
  obtain ⟨fd_offer, D_offer⟩ := c.def_ 25 (d := d_offer) rfl
  obtain ⟨fd_turn, D_turn⟩ := c.def_ 26 (d := d_turn) rfl
  obtain ⟨fd_wi, D_wi⟩ := c.def_ 27 (d := d_wi) rfl
  obtain ⟨fd_ad, D_ad⟩ := c.def_ 28 (d := d_ad) rfl
  obtain ⟨fd_dice, D_dice⟩ := c.def_ 29 (d := d_dice) rfl
  obtain ⟨fd_roll, D_roll⟩ := c.def_ 30 (d := d_roll) rfl
  obtain ⟨fd_rounds, D_rounds⟩ := c.def_ 31 (d := d_rounds) rfl
  obtain ⟨fd_told, D_told⟩ := c.def_ 32 (d := d_told) rfl
  obtain ⟨fd_streams, D_streams⟩ := c.def_ 33 (d := d_streams) rfl
  obtain ⟨fd_came, D_came⟩ := c.def_ 34 (d := d_came) rfl
  obtain ⟨fd_once, D_once⟩ := c.def_ 35 (d := d_once) rfl
  obtain ⟨fd_sent, D_sent⟩ := c.def_ 36 (d := d_sent) rfl
  obtain ⟨fd_law, D_law⟩ := c.def_ 37 (d := d_law) rfl
  have F_check : FunC K "check_rates" "check_rates" sCheck (He.fAd K ("check_rates", none)) fd_check (He.codeOf K ("check_rates", none)) := funC_of D_check
  have b_check : Binds K fd_check ["rates", "slots"] [] := FunD.bindsN D_check fun _ _ _ _ _ _ us hl => match us, hl with | [_, _], _ => rfl
  have F_at : Fun K "at" "Calls.at" sAt (He.fAd K ("Calls", some "at")) fd_at := fun_of D_at
  have b_at : Binds K fd_at ["self", "side", "gate", "colour"] [] := FunD.bindsN D_at fun _ _ _ _ _ _ us hl => match us, hl with | [_, _, _, _], _ => rfl
  have F_ff : Fun K "first_free" "Calls.first_free" sFF (He.fAd K ("Calls", some "first_free")) fd_ff := fun_of D_ff
  have b_ff : Binds K fd_ff ["self", "side", "gate", "many"] [] := FunD.bindsN D_ff fun _ _ _ _ _ _ us hl => match us, hl with | [_, _, _, _], _ => rfl
  have F_ex : Fun K "exchange" "Calls.exchange" sEx (He.fAd K ("Calls", some "exchange")) fd_ex := fun_of D_ex
  have b_ex : Binds K fd_ex ["self", "start", "here", "other"] [] := FunD.bindsN D_ex fun _ _ _ _ _ _ us hl => match us, hl with | [_, _, _, _], _ => rfl
  have F_col : Fun K "colour" "Calls.colour" sCol (He.fAd K ("Calls", some "colour")) fd_col := fun_of D_col
  have b_col : Binds K fd_col ["self", "number", "many"] [] := FunD.bindsN D_col fun _ _ _ _ _ _ us hl => match us, hl with | [_, _, _], _ => rfl
  have F_ci : FunC K "__init__" "Calls.__init__" sCI (He.fAd K ("Calls", some "__init__")) fd_ci (He.codeOf K ("Calls", some "__init__")) := funC_of D_ci
  have b_ci : Binds K fd_ci ["self", "calls", "left", "right"] [] := FunD.bindsN D_ci fun _ _ _ _ _ _ us hl => match us, hl with | [_, _, _, _], _ => rfl
  have F_frame : Fun K "frame" "frame" sFrame (He.fAd K ("frame", none)) fd_frame := fun_of D_frame
  have b_frame : Binds K fd_frame ["rates", "slots"] [] := FunD.bindsN D_frame fun _ _ _ _ _ _ us hl => match us, hl with | [_, _], _ => rfl
  have F_served : FunC K "served" "served" sServed (He.fAd K ("served", none)) fd_served (He.codeOf K ("served", none)) := funC_of D_served
  have b_served : Binds K fd_served ["plan", "one", "gate", "start", "slots"] [] := FunD.bindsN D_served fun _ _ _ _ _ _ us hl => match us, hl with | [_, _, _, _, _], _ => rfl
  have F_least : Fun K "least_served" "least_served" sLeast (He.fAd K ("least_served", none)) fd_least := fun_of D_least
  have b_least : Binds K fd_least ["plan", "one", "gate", "slots"] [] := FunD.bindsN D_least fun _ _ _ _ _ _ us hl => match us, hl with | [_, _, _, _], _ => rfl
  have F_bi : Fun K "__init__" "Bucket.__init__" sBI (He.fAd K ("Bucket", some "__init__")) fd_bi := fun_of D_bi
  have b_bi : Binds K fd_bi ["self", "burst", "rate"] [] := FunD.bindsN D_bi fun _ _ _ _ _ _ us hl => match us, hl with | [_, _, _], _ => rfl
  have F_take : Fun K "take" "Bucket.take" sTake (He.fAd K ("Bucket", some "take")) fd_take := fun_of D_take
  have b_take : Binds K fd_take ["self", "count"] [] := FunD.bindsN D_take fun _ _ _ _ _ _ us hl => match us, hl with | [_, _], _ => rfl
  have F_si : Fun K "__init__" "Stream.__init__" sSI (He.fAd K ("Stream", some "__init__")) fd_si := fun_of D_si
  have b_si : Binds K fd_si ["self", "one", "gate", "burst", "rate"] [] := FunD.bindsN D_si fun _ _ _ _ _ _ us hl => match us, hl with | [_, _, _, _, _], _ => rfl
  have F_bc : Fun K "bucket_curve" "bucket_curve" sBC (He.fAd K ("bucket_curve", none)) fd_bc := fun_of D_bc
  have b_bc : Binds K fd_bc ["burst", "rate", "slots"] [] := FunD.bindsN D_bc fun _ _ _ _ _ _ us hl => match us, hl with | [_, _, _], _ => rfl
  have F_mq : Fun K "most_queue" "most_queue" sMQ (He.fAd K ("most_queue", none)) fd_mq := fun_of D_mq
  have b_mq : Binds K fd_mq ["comes", "serves"] [] := FunD.bindsN D_mq fun _ _ _ _ _ _ us hl => match us, hl with | [_, _], _ => rfl
  have F_mw : Fun K "most_wait" "most_wait" sMW (He.fAd K ("most_wait", none)) fd_mw := fun_of D_mw
  have b_mw : Binds K fd_mw ["comes", "serves"] [] := FunD.bindsN D_mw fun _ _ _ _ _ _ us hl => match us, hl with | [_, _], _ => rfl
  have F_xi : Fun K "__init__" "Crossbar.__init__" sXI (He.fAd K ("Crossbar", some "__init__")) fd_xi := fun_of D_xi
  have b_xi : Binds K fd_xi ["self", "many"] [] := FunD.bindsN D_xi fun _ _ _ _ _ _ us hl => match us, hl with | [_, _], _ => rfl
  have F_put : Fun K "put" "Crossbar.put" sPut (He.fAd K ("Crossbar", some "put")) fd_put := fun_of D_put
  have b_put : Binds K fd_put ["self", "one", "gate", "cell"] [] := FunD.bindsN D_put fun _ _ _ _ _ _ us hl => match us, hl with | [_, _, _, _], _ => rfl
  have F_serve : Fun K "serve" "Crossbar.serve" sServe (He.fAd K ("Crossbar", some "serve")) fd_serve := fun_of D_serve
  have b_serve : Binds K fd_serve ["self", "match"] [] := FunD.bindsN D_serve fun _ _ _ _ _ _ us hl => match us, hl with | [_, _], _ => rfl
  have F_hm : FunC K "how_many" "Crossbar.how_many" sHM (He.fAd K ("Crossbar", some "how_many")) fd_hm (He.codeOf K ("Crossbar", some "how_many")) := funC_of D_hm
  have b_hm : Binds K fd_hm ["self"] [] := FunD.bindsN D_hm fun _ _ _ _ _ _ us hl => match us, hl with | [_], _ => rfl
  have F_comes : Fun K "comes" "Switch.comes" sComes (He.fAd K ("Switch", some "comes")) fd_comes := fun_of D_comes
  have b_comes : Binds K fd_comes ["self", "number", "slots"] [] := FunD.bindsN D_comes fun _ _ _ _ _ _ us hl => match us, hl with | [_, _, _], _ => rfl
  have F_serves : Fun K "serves" "Switch.serves" sServes (He.fAd K ("Switch", some "serves")) fd_serves := fun_of D_serves
  have b_serves : Binds K fd_serves ["self", "number", "slots"] [] := FunD.bindsN D_serves fun _ _ _ _ _ _ us hl => match us, hl with | [_, _, _], _ => rfl
  have F_far : Fun K "far" "Switch.far" sFar (He.fAd K ("Switch", some "far")) fd_far := fun_of D_far
  have b_far : Binds K fd_far ["self", "number"] [] := FunD.bindsN D_far fun _ _ _ _ _ _ us hl => match us, hl with | [_, _], _ => rfl
  have F_qb : Fun K "queue_bound" "Switch.queue_bound" sQB (He.fAd K ("Switch", some "queue_bound")) fd_qb := fun_of D_qb
  have b_qb : Binds K fd_qb ["self", "number"] [] := FunD.bindsN D_qb fun _ _ _ _ _ _ us hl => match us, hl with | [_, _], _ => rfl
  have F_wb : Fun K "wait_bound" "Switch.wait_bound" sWB (He.fAd K ("Switch", some "wait_bound")) fd_wb := fun_of D_wb
  have b_wb : Binds K fd_wb ["self", "number"] [] := FunD.bindsN D_wb fun _ _ _ _ _ _ us hl => match us, hl with | [_, _], _ => rfl
  have F_ar : Fun K "all_rates" "Switch.all_rates" sAR (He.fAd K ("Switch", some "all_rates")) fd_ar := fun_of D_ar
  have b_ar : Binds K fd_ar ["self"] [] := FunD.bindsN D_ar fun _ _ _ _ _ _ us hl => match us, hl with | [_], _ => rfl
  have F_offer : Fun K "offer" "Switch.offer" sOffer (He.fAd K ("Switch", some "offer")) fd_offer := fun_of D_offer
  have b_offer : Binds K fd_offer ["self", "counts"] [] := FunD.bindsN D_offer fun _ _ _ _ _ _ us hl => match us, hl with | [_, _], _ => rfl
  have F_turn : Fun K "turn" "Switch.turn" sTurn (He.fAd K ("Switch", some "turn")) fd_turn := fun_of D_turn
  have b_turn : Binds K fd_turn ["self", "counts"] [] := FunD.bindsN D_turn fun _ _ _ _ _ _ us hl => match us, hl with | [_, _], _ => rfl
  have F_wi : Fun K "__init__" "Switch.__init__" sWI (He.fAd K ("Switch", some "__init__")) fd_wi := fun_of D_wi
  have b_wi : Binds K fd_wi ["self", "many", "slots"] [] := FunD.bindsN D_wi fun _ _ _ _ _ _ us hl => match us, hl with | [_, _, _], _ => rfl
  have F_ad : FunC K "admit" "Switch.admit" sAd (He.fAd K ("Switch", some "admit")) fd_ad (He.codeOf K ("Switch", some "admit")) := funC_of D_ad
  have b_ad : Binds K fd_ad ["self", "one", "gate", "burst", "rate"] [] := FunD.bindsN D_ad fun _ _ _ _ _ _ us hl => match us, hl with | [_, _, _, _, _], _ => rfl
  have F_dice : Fun K "_law_dice" "_law_dice" sDice (He.fAd K ("_law_dice", none)) fd_dice := fun_of D_dice
  have b_dice : Binds K fd_dice ["cell"] [] := FunD.bindsN D_dice fun _ _ _ _ _ _ us hl => match us, hl with | [_], _ => rfl
  have F_roll : Fun K "_law_roll" "_law_roll" sRoll (He.fAd K ("_law_roll", none)) fd_roll := fun_of D_roll
  have b_roll : Binds K fd_roll ["dice", "many"] [] := FunD.bindsN D_roll fun _ _ _ _ _ _ us hl => match us, hl with | [_, _], _ => rfl
  have F_rounds : Fun K "_law_rounds" "_law_rounds" sRounds (He.fAd K ("_law_rounds", none)) fd_rounds := fun_of D_rounds
  have b_rounds : Binds K fd_rounds ["script", "most"] [] := FunD.bindsN D_rounds fun _ _ _ _ _ _ us hl => match us, hl with | [_, _], _ => rfl
  have F_told : Fun K "_law_told" "_law_told" sTold (He.fAd K ("_law_told", none)) fd_told := fun_of D_told
  have b_told : Binds K fd_told ["what"] [] := FunD.bindsN D_told fun _ _ _ _ _ _ us hl => match us, hl with | [_], _ => rfl
  have F_streams : FunC K "_law_streams" "_law_streams" sStreams (He.fAd K ("_law_streams", none)) fd_streams (He.codeOf K ("_law_streams", none)) := funC_of D_streams
  have b_streams : Binds K fd_streams ["dice", "switch", "many", "slots"] [] := FunD.bindsN D_streams fun _ _ _ _ _ _ us hl => match us, hl with | [_, _, _, _], _ => rfl
  have F_came : Fun K "_law_came" "_law_came" sCame (He.fAd K ("_law_came", none)) fd_came := fun_of D_came
  have b_came : Binds K fd_came ["dice", "streams", "slots", "levels", "busy"] [] := FunD.bindsN D_came fun _ _ _ _ _ _ us hl => match us, hl with | [_, _, _, _, _], _ => rfl
  have F_once : Fun K "_law_once" "_law_once" sOnce (He.fAd K ("_law_once", none)) fd_once := fun_of D_once
  have b_once : Binds K fd_once ["row"] [] := FunD.bindsN D_once fun _ _ _ _ _ _ us hl => match us, hl with | [_], _ => rfl
  have F_sent : Fun K "_law_sent" "_law_sent" sSent (He.fAd K ("_law_sent", none)) fd_sent := fun_of D_sent
  have b_sent : Binds K fd_sent ["sent", "streams", "wanted", "slot", "waits"] [] := FunD.bindsN D_sent fun _ _ _ _ _ _ us hl => match us, hl with | [_, _, _, _, _], _ => rfl
  have F_law : Fun K "law" "law" sLaw (He.fAd K ("law", none)) fd_law := fun_of D_law
  have b_law : Binds K fd_law ["script"] [] := FunD.bindsN D_law fun _ _ _ _ _ _ us hl => match us, hl with | [_], _ => rfl
  have g_check_rates : mg "check_rates" = some (.ref (He.ga K "check_rates")) := He.glo_ok X G (c.fact 0 rfl)
  have g_frame : mg "frame" = some (.ref (He.ga K "frame")) := He.glo_ok X G (c.fact 1 rfl)
  have g_served : mg "served" = some (.ref (He.ga K "served")) := He.glo_ok X G (c.fact 2 rfl)
  have g_least_served : mg "least_served" = some (.ref (He.ga K "least_served")) := He.glo_ok X G (c.fact 3 rfl)
  have g_bucket_curve : mg "bucket_curve" = some (.ref (He.ga K "bucket_curve")) := He.glo_ok X G (c.fact 4 rfl)
  have g_most_queue : mg "most_queue" = some (.ref (He.ga K "most_queue")) := He.glo_ok X G (c.fact 5 rfl)
  have g_most_wait : mg "most_wait" = some (.ref (He.ga K "most_wait")) := He.glo_ok X G (c.fact 6 rfl)
  have g_Bucket : mg "Bucket" = some (.ref (He.ga K "Bucket")) := He.glo_ok X G (c.fact 7 rfl)
  have g_Crossbar : mg "Crossbar" = some (.ref (He.ga K "Crossbar")) := He.glo_ok X G (c.fact 8 rfl)
  have g_Calls : mg "Calls" = some (.ref (He.ga K "Calls")) := He.glo_ok X G (c.fact 9 rfl)
  have g_Stream : mg "Stream" = some (.ref (He.ga K "Stream")) := He.glo_ok X G (c.fact 10 rfl)
  have g_Switch : mg "Switch" = some (.ref (He.ga K "Switch")) := He.glo_ok X G (c.fact 11 rfl)
  have g_BadGate : mg "BadGate" = some (.ref (He.ga K "BadGate")) := He.glo_ok X G (c.fact 12 rfl)
  have g_BadNet : mg "BadNet" = some (.ref (He.ga K "BadNet")) := He.glo_ok X G (c.fact 13 rfl)
  have g_BadRate : mg "BadRate" = some (.ref (He.ga K "BadRate")) := He.glo_ok X G (c.fact 14 rfl)
  have g_BadSize : mg "BadSize" = some (.ref (He.ga K "BadSize")) := He.glo_ok X G (c.fact 15 rfl)
  have g_Blocked : mg "Blocked" = some (.ref (He.ga K "Blocked")) := He.glo_ok X G (c.fact 16 rfl)
  have g_NoSuch : mg "NoSuch" = some (.ref (He.ga K "NoSuch")) := He.glo_ok X G (c.fact 17 rfl)
  have g__law_dice : mg "_law_dice" = some (.ref (He.ga K "_law_dice")) := He.glo_ok X G (c.fact 18 rfl)
  have g__law_roll : mg "_law_roll" = some (.ref (He.ga K "_law_roll")) := He.glo_ok X G (c.fact 19 rfl)
  have g__law_rounds : mg "_law_rounds" = some (.ref (He.ga K "_law_rounds")) := He.glo_ok X G (c.fact 20 rfl)
  have g__law_told : mg "_law_told" = some (.ref (He.ga K "_law_told")) := He.glo_ok X G (c.fact 21 rfl)
  have g__law_streams : mg "_law_streams" = some (.ref (He.ga K "_law_streams")) := He.glo_ok X G (c.fact 22 rfl)
  have g__law_came : mg "_law_came" = some (.ref (He.ga K "_law_came")) := He.glo_ok X G (c.fact 23 rfl)
  have g__law_once : mg "_law_once" = some (.ref (He.ga K "_law_once")) := He.glo_ok X G (c.fact 24 rfl)
  have g__law_sent : mg "_law_sent" = some (.ref (He.ga K "_law_sent")) := He.glo_ok X G (c.fact 25 rfl)
  have g_law : mg "law" = some (.ref (He.ga K "law")) := He.glo_ok X G (c.fact 26 rfl)
  have B : Bl mg := ⟨He.free_ok X G (c.fact 27 rfl), He.free_ok X G (c.fact 28 rfl), He.free_ok X G (c.fact 29 rfl), He.free_ok X G (c.fact 30 rfl), He.free_ok X G (c.fact 31 rfl), He.free_ok X G (c.fact 32 rfl), He.free_ok X G (c.fact 33 rfl), He.free_ok X G (c.fact 34 rfl), He.free_ok X G (c.fact 35 rfl), He.free_ok X G (c.fact 36 rfl), He.free_ok X G (c.fact 37 rfl), He.free_ok X G (c.fact 38 rfl), He.free_ok X G (c.fact 39 rfl)⟩
  have K_Calls : Kl K (He.ga K "Calls") aCalls := ⟨He.cls_ok (c.fact 40 rfl), List.forall_mem_cons.mpr ⟨He.noat_ok (c.fact 41 rfl), List.forall_mem_cons.mpr ⟨He.noat_ok (c.fact 42 rfl), List.forall_mem_cons.mpr ⟨He.noat_ok (c.fact 43 rfl), List.forall_mem_cons.mpr ⟨He.noat_ok (c.fact 44 rfl), fun _ h => by cases h⟩⟩⟩⟩⟩
  have M_Calls : Mk K (He.ga K "Calls") (He.fAd K ("Calls", some "__init__")) := He.mkr_ok (c.fact 45 rfl)
  have K_Bucket : Kl K (He.ga K "Bucket") aBucket := ⟨He.cls_ok (c.fact 46 rfl), List.forall_mem_cons.mpr ⟨He.noat_ok (c.fact 47 rfl), List.forall_mem_cons.mpr ⟨He.noat_ok (c.fact 48 rfl), List.forall_mem_cons.mpr ⟨He.noat_ok (c.fact 49 rfl), fun _ h => by cases h⟩⟩⟩⟩
  have M_Bucket : Mk K (He.ga K "Bucket") (He.fAd K ("Bucket", some "__init__")) := He.mkr_ok (c.fact 50 rfl)
  have K_Stream : Kl K (He.ga K "Stream") aStream := ⟨He.cls_ok (c.fact 51 rfl), List.forall_mem_cons.mpr ⟨He.noat_ok (c.fact 52 rfl), List.forall_mem_cons.mpr ⟨He.noat_ok (c.fact 53 rfl), List.forall_mem_cons.mpr ⟨He.noat_ok (c.fact 54 rfl), List.forall_mem_cons.mpr ⟨He.noat_ok (c.fact 55 rfl), fun _ h => by cases h⟩⟩⟩⟩⟩
  have M_Stream : Mk K (He.ga K "Stream") (He.fAd K ("Stream", some "__init__")) := He.mkr_ok (c.fact 56 rfl)
  have K_Crossbar : Kl K (He.ga K "Crossbar") aBar := ⟨He.cls_ok (c.fact 57 rfl), List.forall_mem_cons.mpr ⟨He.noat_ok (c.fact 58 rfl), List.forall_mem_cons.mpr ⟨He.noat_ok (c.fact 59 rfl), List.forall_mem_cons.mpr ⟨He.noat_ok (c.fact 60 rfl), List.forall_mem_cons.mpr ⟨He.noat_ok (c.fact 61 rfl), List.forall_mem_cons.mpr ⟨He.noat_ok (c.fact 62 rfl), fun _ h => by cases h⟩⟩⟩⟩⟩⟩
  have M_Crossbar : Mk K (He.ga K "Crossbar") (He.fAd K ("Crossbar", some "__init__")) := He.mkr_ok (c.fact 63 rfl)
  have K_Switch : Kl K (He.ga K "Switch") aSw := ⟨He.cls_ok (c.fact 64 rfl), List.forall_mem_cons.mpr ⟨He.noat_ok (c.fact 65 rfl), List.forall_mem_cons.mpr ⟨He.noat_ok (c.fact 66 rfl), List.forall_mem_cons.mpr ⟨He.noat_ok (c.fact 67 rfl), List.forall_mem_cons.mpr ⟨He.noat_ok (c.fact 68 rfl), List.forall_mem_cons.mpr ⟨He.noat_ok (c.fact 69 rfl), List.forall_mem_cons.mpr ⟨He.noat_ok (c.fact 70 rfl), List.forall_mem_cons.mpr ⟨He.noat_ok (c.fact 71 rfl), fun _ h => by cases h⟩⟩⟩⟩⟩⟩⟩⟩
  have M_Switch : Mk K (He.ga K "Switch") (He.fAd K ("Switch", some "__init__")) := He.mkr_ok (c.fact 72 rfl)
  have m_Calls_at : Meth K (He.ga K "Calls") "at" (He.fAd K ("Calls", some "at")) := He.meth_ok (c.fact 73 rfl)
  have m_Calls_first_free : Meth K (He.ga K "Calls") "first_free" (He.fAd K ("Calls", some "first_free")) := He.meth_ok (c.fact 74 rfl)
  have m_Calls_exchange : Meth K (He.ga K "Calls") "exchange" (He.fAd K ("Calls", some "exchange")) := He.meth_ok (c.fact 75 rfl)
  have m_Calls_colour : Meth K (He.ga K "Calls") "colour" (He.fAd K ("Calls", some "colour")) := He.meth_ok (c.fact 76 rfl)
  have m_Bucket_take : Meth K (He.ga K "Bucket") "take" (He.fAd K ("Bucket", some "take")) := He.meth_ok (c.fact 77 rfl)
  have m_Crossbar_put : Meth K (He.ga K "Crossbar") "put" (He.fAd K ("Crossbar", some "put")) := He.meth_ok (c.fact 78 rfl)
  have m_Crossbar_serve : Meth K (He.ga K "Crossbar") "serve" (He.fAd K ("Crossbar", some "serve")) := He.meth_ok (c.fact 79 rfl)
  have m_Crossbar_how_many : Meth K (He.ga K "Crossbar") "how_many" (He.fAd K ("Crossbar", some "how_many")) := He.meth_ok (c.fact 80 rfl)
  have m_Switch_all_rates : Meth K (He.ga K "Switch") "all_rates" (He.fAd K ("Switch", some "all_rates")) := He.meth_ok (c.fact 81 rfl)
  have m_Switch_admit : Meth K (He.ga K "Switch") "admit" (He.fAd K ("Switch", some "admit")) := He.meth_ok (c.fact 82 rfl)
  have m_Switch_offer : Meth K (He.ga K "Switch") "offer" (He.fAd K ("Switch", some "offer")) := He.meth_ok (c.fact 83 rfl)
  have m_Switch_turn : Meth K (He.ga K "Switch") "turn" (He.fAd K ("Switch", some "turn")) := He.meth_ok (c.fact 84 rfl)
  have m_Switch_comes : Meth K (He.ga K "Switch") "comes" (He.fAd K ("Switch", some "comes")) := He.meth_ok (c.fact 85 rfl)
  have m_Switch_serves : Meth K (He.ga K "Switch") "serves" (He.fAd K ("Switch", some "serves")) := He.meth_ok (c.fact 86 rfl)
  have m_Switch_far : Meth K (He.ga K "Switch") "far" (He.fAd K ("Switch", some "far")) := He.meth_ok (c.fact 87 rfl)
  have m_Switch_queue_bound : Meth K (He.ga K "Switch") "queue_bound" (He.fAd K ("Switch", some "queue_bound")) := He.meth_ok (c.fact 88 rfl)
  have m_Switch_wait_bound : Meth K (He.ga K "Switch") "wait_bound" (He.fAd K ("Switch", some "wait_bound")) := He.meth_ok (c.fact 89 rfl)
  have XB : ExcC K mg "BadRate" (He.ga K "BadRate") := by
    obtain ⟨h1, h2, h3, h4⟩ := He.exc_ok (c.fact 90 rfl)
    exact ⟨h1, g_BadRate, h2, h3, h4⟩
  have XT : ToldX K mg (He.ga K "BadRate") (He.ga K "BadGate") (He.ga K "BadNet") (He.ga K "BadSize") (He.ga K "Blocked") (He.ga K "NoSuch") := ⟨g_BadGate, g_BadNet, g_BadRate, g_BadSize, g_Blocked, g_NoSuch, of_decide_eq_true told⟩
  refine ⟨fd_law, fun s v => FunD.bindsA (ps := ["script"]) D_law (fun _ _ _ _ _ _ us hl => match us, hl with | [_], _ => rfl) s [v] rfl, fun base hTB => ?_⟩
  have TB_how : LamX.TabB base mg (He.codeOf K ("Crossbar", some "how_many")) (tbOf K).how := hTB ("Crossbar", some "how_many") (List.mem_of_getElem? (i := 0) rfl)
  have CO_how := codeOfOk TB_how
  have TB_calls : LamX.TabB base mg (He.codeOf K ("Calls", some "__init__")) (tbOf K).calls := hTB ("Calls", some "__init__") (List.mem_of_getElem? (i := 1) rfl)
  have CO_calls := codeOfOk TB_calls
  have TB_check : LamX.TabB base mg (He.codeOf K ("check_rates", none)) (tbOf K).check := hTB ("check_rates", none) (List.mem_of_getElem? (i := 2) rfl)
  have CO_check := codeOfOk TB_check
  have TB_served : LamX.TabB base mg (He.codeOf K ("served", none)) (tbOf K).served := hTB ("served", none) (List.mem_of_getElem? (i := 3) rfl)
  have CO_served := codeOfOk TB_served
  have TB_admit : LamX.TabB base mg (He.codeOf K ("Switch", some "admit")) (tbOf K).admit := hTB ("Switch", some "admit") (List.mem_of_getElem? (i := 4) rfl)
  have CO_admit := codeOfOk TB_admit
  have TB_streams : LamX.TabB base mg (He.codeOf K ("_law_streams", none)) (tbOf K).streams := hTB ("_law_streams", none) (List.mem_of_getElem? (i := 5) rfl)
  have CO_streams := codeOfOk TB_streams
  let T : Tb := tbOf K
  let cs : Cs := ⟨He.ga K "Switch", He.ga K "Stream", He.ga K "Bucket", He.ga K "Crossbar", He.ga K "Calls"⟩
  have G_check := ok_check (P := P) (w := w) (T := T) F_check CO_check B XB
  have G_at := ok_at (P := P) (w := w) (mg := mg) (base := base) (T := T) F_at B K_Calls
  have G_ff := ok_ff F_ff B K_Calls G_at b_at m_Calls_at
  have G_ex := ok_ex F_ex B K_Calls G_at b_at m_Calls_at
  have G_col := ok_col F_col B K_Calls G_at b_at m_Calls_at G_ff b_ff m_Calls_first_free G_ex b_ex m_Calls_exchange
  have G_ci := ok_ci (P := P) (w := w) (T := T) F_ci CO_calls B K_Calls
  have G_frame := ok_frame F_frame B K_Calls G_check g_check_rates F_check.kp b_check M_Calls G_ci g_Calls b_ci G_col b_col m_Calls_colour
  have G_served := ok_served (P := P) (w := w) (T := T) F_served CO_served B
  have G_least := ok_least F_least B G_served g_served F_served.kp b_served
  have G_bi := ok_bi (P := P) (w := w) (mg := mg) (base := base) (T := T) F_bi K_Bucket
  have G_take := ok_take (P := P) (w := w) (base := base) (T := T) F_take B K_Bucket
  have G_si := ok_si (P := P) (w := w) (mg := mg) (base := base) (T := T) F_si K_Stream
  have G_bc := ok_bc (P := P) (w := w) (base := base) (T := T) F_bc B
  have G_mq := ok_mq (P := P) (w := w) (base := base) (T := T) F_mq B
  have G_mw := ok_mw (P := P) (w := w) (base := base) (T := T) F_mw B
  have G_xi := ok_xi (P := P) (w := w) (base := base) (T := T) F_xi B K_Crossbar
  have G_put := ok_put (P := P) (w := w) (mg := mg) (base := base) (T := T) F_put K_Crossbar
  have G_serve := ok_serve (P := P) (w := w) (base := base) (T := T) F_serve B K_Crossbar
  have G_hm := ok_hm (P := P) (w := w) (T := T) F_hm CO_how B K_Crossbar
  have G_comes := ok_comes (c := cs) F_comes B K_Switch K_Stream G_bc g_bucket_curve F_bc.kp b_bc
  have G_serves := ok_serves (c := cs) F_serves B K_Switch K_Stream G_least g_least_served F_least.kp b_least
  have G_far := ok_far (P := P) (w := w) (mg := mg) (base := base) (c := cs) F_far K_Switch K_Stream
  have G_qb := ok_qb (c := cs) F_qb K_Switch G_far b_far m_Switch_far G_comes b_comes m_Switch_comes G_serves b_serves m_Switch_serves G_mq g_most_queue F_mq.kp b_mq
  have G_wb := ok_wb (c := cs) F_wb K_Switch G_far b_far m_Switch_far G_comes b_comes m_Switch_comes G_serves b_serves m_Switch_serves G_mw g_most_wait F_mw.kp b_mw
  have G_ar := ok_ar (P := P) (w := w) (base := base) (T := T) (c := cs) F_ar B K_Switch K_Stream
  have G_offer := ok_offer (c := cs) F_offer B K_Switch K_Stream K_Bucket K_Crossbar G_take b_take m_Bucket_take G_put b_put m_Crossbar_put
  have G_turn := ok_turn (c := cs) F_turn K_Switch K_Crossbar G_offer b_offer m_Switch_offer G_serve b_serve m_Crossbar_serve
  have G_wi := ok_wi (c := cs) F_wi B K_Switch K_Crossbar G_frame g_frame F_frame.kp b_frame M_Crossbar G_xi g_Crossbar b_xi
  have G_ad := ok_ad (c := cs) F_ad CO_admit B XB K_Switch K_Crossbar K_Stream m_Switch_all_rates G_ar b_ar G_check g_check_rates F_check.kp b_check G_frame g_frame F_frame.kp b_frame M_Stream G_si g_Stream b_si M_Bucket G_bi g_Bucket b_bi
  have G_dice := ok_dice (P := P) (w := w) (base := base) F_dice B
  have G_roll := ok_roll (P := P) (w := w) (base := base) (T := T) F_roll B
  have G_rounds := ok_rounds (T := T) F_rounds B G_dice g__law_dice F_dice.kp b_dice
  have G_streams := ok_streams (c := cs) F_streams TB_streams B K_Switch G_roll g__law_roll F_roll.kp b_roll F_told g__law_told b_told G_ad b_ad m_Switch_admit XT
  have G_came := ok_came F_came B G_roll g__law_roll F_roll.kp b_roll
  have G_once := ok_once (P := P) (w := w) (base := base) (T := T) F_once B
  have G_sent := ok_sent F_sent B G_once g__law_once F_once.kp b_once
  exact ok_law (c := cs) F_law B K_Switch K_Crossbar G_rounds g__law_rounds F_rounds.kp b_rounds G_roll g__law_roll F_roll.kp b_roll M_Switch G_wi g_Switch b_wi G_streams g__law_streams F_streams.kp b_streams
    G_wb b_wb m_Switch_wait_bound G_qb b_qb m_Switch_queue_bound G_came g__law_came F_came.kp b_came G_sent g__law_sent F_sent.kp b_sent G_turn b_turn m_Switch_turn G_hm b_hm m_Crossbar_how_many
/-- the tables at the start -/
theorem tbOk_start {K : PySem.W.Frag} {H : Hp} (ap : apartB K = true) (h : ∀ p ∈ tfL, H (tP K p) = some (.tbl #[])) : TbOk (tbOf K) H := by
  have ap := List.all_eq_true.mp ap
  have ne : ∀ p ∈ tfL.take 5, tP K p ≠ tP K ("_law_streams", none) := fun p hp e => by
    have := ap p hp
    rw [decide_eq_true e] at this
    cases this
  have hs := h ("_law_streams", none) (List.mem_of_getElem? (i := 5) rfl)
  have ex0 : ∃ o, H (tbOf K).streams = some o := ⟨_, hs⟩
  exact ⟨TabD.nil (h _ (List.mem_of_getElem? (i := 0) rfl)) ex0, TabD.nil (h _ (List.mem_of_getElem? (i := 1) rfl)) ex0, TabD.nil (h _ (List.mem_of_getElem? (i := 2) rfl)) ex0, TabD.nil (h _ (List.mem_of_getElem? (i := 3) rfl)) ex0, TabD.nil (h _ (List.mem_of_getElem? (i := 4) rfl)) ex0, LamX.TabS.nil hs,
    ne _ (List.mem_of_getElem? (i := 0) rfl), ne _ (List.mem_of_getElem? (i := 1) rfl), ne _ (List.mem_of_getElem? (i := 2) rfl), ne _ (List.mem_of_getElem? (i := 3) rfl), ne _ (List.mem_of_getElem? (i := 4) rfl)⟩
end KX
open PySem PySem.W PySem.Calls PyProof.Rows
theorem PySem.Challenge.cw_crossloom_k63_whole_switch_at_any_size_holds : PySem.Challenge.rw_crossloom_k63_whole_switch_at_any_size.Holds := by
  w_on; o_law
  refine HandSHeadRun.head_any (r := OpenLaw.row PySem.Challenge.rw_crossloom_k63_whole_switch_at_any_size) (q := view (OpenLaw.row PySem.Challenge.rw_crossloom_k63_whole_switch_at_any_size).prog [36]) (H := KX.hk) (ob := KX.ob) (M := 6000) (loose := KX.names) (d := HandSHeadRun.topDef (OpenLaw.row PySem.Challenge.rw_crossloom_k63_whole_switch_at_any_size).prog 36) (kwd := []) KX.ob_eq
    (by kernel_rfl) (fun s => by kernel_rfl) KX.run (by kernel_rfl) (by kernel_rfl) (by kernel_rfl) (by rfl) (by first | assumption | decide +kernel) (by decide +kernel) ⟨rfl, rfl, rfl, rfl, rfl, by decide +kernel⟩ ?hw ?hc
  case hw => w_witness2
  case hc =>
    refine LamX.walk_ofTsE (l := PySem.Challenge.rw_crossloom_k63_whole_switch_at_any_size) (n := 63) (k := 9) (x := "script") (CX := fun _ => L2.CX0) rfl (by decide) (by kernel_rfl) (by exact ⟨rfl, by decide, by decide⟩) ?F (fun _ _ _ _ _ z => z)
    intro w mg fa h Y G hmg0
    obtain ⟨K, KX', c⟩ := Y
    have hmg : mg ("law" : PySem.Str) = some (.ref fa) := by
      have e : (HandSHeadRun.topDef (OpenLaw.row PySem.Challenge.rw_crossloom_k63_whole_switch_at_any_size).prog 36).name = ("law" : PySem.Str) := by kernel_rfl
      rw [← e]
      exact hmg0
    obtain ⟨fd, hb, hF⟩ := KX.facts (P := (PySem.Challenge.rw_crossloom_k63_whole_switch_at_any_size).prog) (w := w) KX' G c
    have e := hmg.symm.trans (He.glo_ok KX' G (c.t.d.fact 26 (f := .glo "law") rfl))
    cases e
    have mem : ∀ q ∈ KX.tfL.map (He.cT K), ∃ p ∈ KX.tfL, q = He.cT K p := fun q hq => by
      obtain ⟨p, hp, e⟩ := List.mem_map.mp hq
      exact ⟨p, hp, e.symm⟩
    refine ⟨K, KX', fd, KX.tfL.map (He.cT K), KX.spLaw (KX.tbOf K) K, fun q hq => ?_, fun q hq => ?_, fun q hq => ?_, hb, fun H a ns hl _ hT hS => ⟨a, ns, rfl, KX.tbOk_start (He.ba c.more).2 fun p hp => hT _ (List.mem_map.mpr ⟨p, hp, rfl⟩), hS, Nat.le_trans hl (by decide), fun _ => rfl⟩, fun base _ _ hTB => hF base fun p hp => hTB _ (List.mem_map.mpr ⟨p, hp, rfl⟩)⟩
    · obtain ⟨p, hp, rfl⟩ := mem q hq
      exact c.empty p hp
    · obtain ⟨p, hp, rfl⟩ := mem q hq
      exact c.out p hp
    · obtain ⟨p, hp, rfl⟩ := mem q hq
      exact PySem.W.codeHd_of_K KX' (c.hd p hp)
