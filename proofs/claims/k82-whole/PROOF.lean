import PyProof.Rows.All
import HandS.ForMost
import HandS.GenList
import HandS.AnyAll
import HandS.EndTab
import HandS.Zip
import PyProof.CollectWalk
import HandS.TupAny
import HandS.Style
import HandS.Wide
import HandS.Gcd
import HandS.IsInst
import HandS.CallLocal
import KE.KTupSum
import KE.GoesMore
import KE.GoesEnum
import KE.DataMinMax
import HandS.ForExc
import HandS.ExcIs
import HandS.ExcOwn
import KE.KIsAll
import PySem.Challenge.RW_backtohand_k82_whole_dealings_and_levels
set_option Elab.async false
set_option linter.all false
set_option maxRecDepth 100000
set_option maxHeartbeats 4000000
/-! generator expressions whose element may call defs: the block's context, its turns -/
namespace GX
open PySem PySem.Spec PyProof.Rows L2 GenW GxR

/-- the context of the block: it began at s, over the abstract heap H; pn: the generator's own object -/
abbrev gcx (X : Cx) (A : Around) (s : Shared) (H : Hp) (cenv : Env) (fp : List Addr) (pn : List (Addr × Obj)) : Cx :=
  { X with A := A, s_0 := s, H_0 := H, env := cenv, outer := X.stack, stack := cenv :: X.stack, ex := fp, fn := fun _ => false, calm := true, pn := pn, xe := fun _ _ => False }

/-- what stands between two items: how the consumer's own objects are kept (J), what the consumer does to a value (Cn) -/
structure Cons (G : Cx) (fp : List Addr) (J : List V → L2.St → Hp → Shared → Prop) (Cn : Value → Shared → Shared → Prop) : Prop where
  out : ∀ ys σ H s, J ys σ H s → ∃ pins, Inv G pins σ H s ∧ (∀ b ∈ fp, ∀ p ∈ pins, p.1 ≠ b) ∧ ∀ σ' H' s', Inv G pins σ' H' s' → J ys σ' H' s'
  woken : ∀ ys σ H s s' x v, J ys σ H s → RelV x v → Cn v s s' → J (ys ++ [x]) σ H s'
  keep : ∀ ys σ H s s' v, J ys σ H s → Cn v s s' → ∀ b ∈ fp, ∀ o, s.heap.get? b = some o → s'.heap.get? b = some o

/-- the turns, by a word W over the turn, a measure, what is out, and the heap -/
def GTurn (J : It) (g : TG) (te : TE) (σ0 : L2.St) (vs : List Nat) (Bd : List V → V → Hp → Prop) (Cy : V → Prop) (Qd : List V → Hp → Prop) (W : Nat → Nat → List V → Hp → Prop) : Prop :=
  ∀ i m ys H, W i m ys H → (J.stop i H ∧ Qd ys H) ∨ (J.go i H ∧ ∃ Nx : List V → Hp → Prop, (∀ ys' H', Nx ys' H' → ∃ m', m' < m ∧ W (i + 1) m' ys' H') ∧
    ∀ x H', J.yld i H x H' → g x σ0 H' fun σ2 H2 => wipe σ2 vs = σ0 ∧ te σ2 H2 fun y H3 => Bd ys y H3 ∨ (Cy y ∧ Nx (ys ++ [y]) H3))

theorem compTurn_gx (elt target iter : Expr) (scope : Scope) (pos : Pos) (it acc : Value) (env : Env) (hco : env.scope.isCoroutine = false) :
    compTurn (.GeneratorExp elt [⟨target, iter, [], 0⟩] scope pos) 0 it acc env = (do
      standAt iter.pos
      match ← pyNext it with
      | none => pure (.done .next)
      | some v =>
        letOwnedTupleGo target it v
        assign target env v
        (do let v ← eval elt env; standAt elt.pos; let _ ← yieldValue v)
        again (.compLoop (.GeneratorExp elt [⟨target, iter, [], 0⟩] scope pos) 0 it acc env)) := by
  have hy : ∀ v, yieldOut env v = yieldValue v := fun v => by simp only [yieldOut, hco, Bool.false_eq_true, if_false]
  rw [compTurn_gen]
  simp only [hy, List.forIn_nil]
  rfl

section
variable {X : Cx} {A Aw : Around} {s0 : Shared} {H0 : Hp} {cenv : Env} {fp : List Addr} {pn : List (Addr × Obj)} {elt tg iter : Expr} {scope : Scope} {pos : Pos} {it : Addr} {tn : Nat → Heap → Prop} {Ji : It}
  {g : TG} {te : TE} {σ : L2.St} {vs : List Nat} {Bd : List V → V → Hp → Prop} {Cy : V → Prop} {Qd : List V → Hp → Prop} {W : Nat → Nat → List V → Hp → Prop} {J : List V → L2.St → Hp → Shared → Prop} {Cn : Value → Shared → Shared → Prop}

/-- the end of a run; an item -/
def gR (J : List V → L2.St → Hp → Shared → Prop) (Qd : List V → Hp → Prop) (L : Nat) : GenEnd := fun n _ r s1 => r = .ok .next ∧ ∃ ys σ H, n + ys.length = L ∧ J ys σ H s1 ∧ Qd ys H
def gY (J : List V → L2.St → Hp → Shared → Prop) (Cn : Value → Shared → Shared → Prop) (Bd : List V → V → Hp → Prop) (Cy : V → Prop) (L : Nat) : Protocol := fun n _ v s kap =>
  ∃ ys y σ H, n + 1 + ys.length = L ∧ RelV y v ∧ J ys σ H s ∧ (Bd ys y H ∨ (Cy y ∧ ∀ s', Cn v s s' → kap (.send .none) s'))

theorem seg_gx (hA : Aw.over (.compLoop (.GeneratorExp elt [⟨tg, iter, [], 0⟩] scope pos) 0 (.ref it) .none cenv) [] = A) (T : Turn X.prog X.w X.K tg Ji fp it tn) (hco : cenv.scope.isCoroutine = false)
    (hpn : ∀ p ∈ pn, ∀ b ∈ fp, p.1 ≠ b)
    (hg : PG (gcx X A s0 H0 cenv fp pn) tg g) (he : PE (gcx X A s0 H0 cenv fp pn) elt te) (C : Cons (gcx X A s0 H0 cenv fp pn) fp J Cn)
    (turn : GTurn Ji g te (wipe σ vs) vs Bd Cy Qd W) {L : Nat} :
    ∀ (n m i : Nat) (ys : List V) (s₀ s : Shared) (H : Hp), m < n → n + ys.length = L → J ys (wipe σ vs) H s → tn i s.heap → (∀ b ∈ fp, H b = none) → W i m ys H →
      Seg (model X.prog X.w) Aw (gR J Qd L) (gY J Cn Bd Cy L) n s₀ (.compLoop (.GeneratorExp elt [⟨tg, iter, [], 0⟩] scope pos) 0 (.ref it) .none cenv)
        ((model X.prog X.w).den (.compLoop (.GeneratorExp elt [⟨tg, iter, [], 0⟩] scope pos) 0 (.ref it) .none cenv)) [] s := by
  intro n
  induction n with
  | zero =>
    intro m i ys s₀ s H hm
    exact absurd hm (Nat.not_lt_zero _)
  | succ n ih =>
    intro m i ys s₀ s H hm hn hJ ht hf w
    obtain ⟨pins, I, hd, back⟩ := C.out _ _ _ _ hJ
    have fok : ∀ b ∈ fp, FpOk (gcx X A s0 H0 cenv fp pn) pins H b := fun b hb => ⟨hf b hb, (I.ok.exf b hb).1, I.ok.exfs b hb, .inl hb, fun x c e => (I.ok.exf b hb).2 x c e, fun p hp => (List.mem_append.mp hp).elim (fun z => hpn p z b hb) (hd b hb p)⟩
    show Seg _ Aw _ _ _ s₀ _ ((compTurn (.GeneratorExp elt [⟨tg, iter, [], 0⟩] scope pos) 0 (.ref it) .none cenv).onRaise (leaving cenv)) [] s
    rw [compTurn_gx _ _ _ _ _ _ _ _ hco, Sem.onRaise_eq_wrap]
    refine seg_bind_wrap (wpAny_standAt ?_)
    rcases turn i m ys H w with ⟨stop, q⟩ | ⟨go, Nx, hNx, step⟩
    · refine seg_bind_wrap ?_
      rw [hA]
      refine thnF (T.done (gcx X A s0 H0 cenv fp pn) rfl rfl rfl rfl i pins s _ H _ I fok ht stop) fun r s1 ⟨hr, I1⟩ => ?_
      subst hr
      exact seg_end (.ok .next) ⟨rfl, ys, _, H, hn, back _ _ _ I1, q⟩
    · refine seg_bind_wrap ?_
      rw [hA]
      refine thnF (T.item (gcx X A s0 H0 cenv fp pn) rfl rfl rfl rfl i pins s _ H _ I fok ht go) fun r s1 ⟨u, hr, h1⟩ => ?_
      subst hr
      refine seg_bind_wrap ?_
      rw [hA]
      refine thnF h1 fun _ s2 ⟨x, H2, I2, rx, y2, t2, f2⟩ => ?_
      have fok2 : ∀ b ∈ fp, FpOk (gcx X A s0 H0 cenv fp pn) pins H2 b := fun b hb => ⟨f2 b hb, (fok b hb).2⟩
      have I2' := I2.pinned fok2 (T.obj _ _ t2)
      refine seg_bind_wrap ?_
      rw [hA]
      refine thnF (hg.run _ s2 _ H2 x u _ I2' rx (step x H2 y2)) fun _ s3 ⟨σ3, H3, I3, hw3, q3⟩ => ?_
      rw [Sem.bind_eq_wrap', Sem.bind_eq_wrap', Sem.wrap_wrap, Sem.wrap_wrap]
      refine seg_wrap ?_
      rw [hA]
      refine thnF (he.run _ s3 σ3 H3 _ I3 q3) fun v s4 ⟨yv, H4, I4, r4, q4⟩ => ?_
      refine seg_at (seg_yield rfl rfl rfl ?_)
      have hl : (wipe σ vs).length = σ3.length := by rw [← hw3, wipe_length]
      have pin4 : ∀ b ∈ fp, ∀ o, s2.heap.get? b = some o → s4.heap.get? b = some o ∧ H4 b = none := fun b hb o e =>
        let z := I4.pin (b, o) (List.mem_append_right _ (List.mem_append_right _ (mem_pinsAt hb e)))
        ⟨z.1, z.2.1⟩
      have I5 : Inv (gcx X A s0 H0 cenv fp pn) pins (wipe σ vs) H4 s4 := (I4.unpinned).weak hl fun j v e => by
        rw [← hw3] at e
        exact (wipe_some e).1
      have J5 := back _ _ _ I5
      refine ⟨ys, yv, _, H4, ?_, r4, J5, ?_⟩
      · exact hn
      rcases q4 with q4 | ⟨hc, nx⟩
      · exact .inl q4
      · refine .inr ⟨hc, fun s'' z => ?_⟩
        obtain ⟨m', hm', w'⟩ := hNx _ _ nx
        refine seg_again rfl (ih m' (i + 1) (ys ++ [yv]) s'' s'' H4 (by omega) (by rw [List.length_append, List.length_singleton]; omega) (C.woken _ _ _ _ _ _ _ J5 r4 z) ?_ (fun b hb => ?_) w')
        · refine T.keep _ _ _ t2 fun b hb o e => C.keep _ _ _ _ _ _ J5 z b hb o (pin4 b hb o e).1
        · obtain ⟨o, e, _⟩ := T.obj _ _ t2 b hb
          exact (pin4 b hb o e).2
end
end GX

namespace GX
open PySem PySem.Spec PyProof.Rows L2 GenW GxR

/-- a generator expression's own scope -/
structure GSc (scope : Scope) : Prop where
  kind : scope.kind = .function
  co : scope.isCoroutine = false
  cell : ∀ y ∈ scope.names, y.2 ≠ .cell
  dot : scope.names.lookup (".0" : Str) = some NameKind.local

section
variable {X : Cx} {pins : List (Addr × Obj)} {σ : L2.St} {H H3 : Hp} {s s5 : Shared}
theorem gblk_start {A : Around} {scope : Scope} {own : List (Str × Nat)} {fp : List Addr} {C bi a : Addr} {code it : Value} {go : Obj} (hd : A.handled = none) (hfr : A.frames = some (genEnv scope (cloFrom X.env.cells scope.names []) C code bi X.env :: X.stack))
    (I : Inv X pins σ H s) (S : GSc scope) (ok : BlkOk X.N X.env.scope scope own) (hN : X.N.Nodup) (hfp : ∀ b ∈ fp, FpOk X pins H b ∧ b < s.heap.objs.size)
    (hbi : bi = builtinsNs) (hC : s.heap.objs.size ≤ C) (I5 : Inv X pins σ H3 s5) (un : Un (frs X.stack) fp H H3 s.heap s5.heap) (hns : s5.heap.Ns C (fun y => if y = ".0" then some it else none))
    (hCn : H3 C = none) (kc : ∀ c v, s.heap.IsCell c v → s5.heap.IsCell c v) (hca : C < a) (hga : s5.heap.get? a = some go) (hgd : ∀ v, go.data ≠ .cell v) (han : H3 a = none) (haC : a ≠ C) (hos : s5.os = s.os) :
    Inv (gcx X A s H (genEnv scope (cloFrom X.env.cells scope.names []) C code bi X.env) fp [(a, go)]) [] (wipe σ (own.map (·.2))) H3 s5 := by
  have hfree : ∀ y ∈ scope.names, y.2 = .free → ∃ c, X.env.cells.lookup y.1 = some c := fun y hy e => by
    rcases ok.free y hy e with k | k
    · exact I.ok.has _ (.inl k)
    · exact I.ok.has _ (.inr k)
  have cm : ∀ {y c}, (cloFrom X.env.cells scope.names []).lookup y = some c → X.env.cells.lookup y = some c ∧ c < s.heap.objs.size := fun {y c} hl => by
    rcases cloFrom_mem (PySem.mem_of_lookup hl) with hm | ⟨h1, rfl⟩
    · cases hm
    · obtain ⟨c, hc⟩ := hfree _ h1 rfl
      rw [hc]
      obtain ⟨w, z⟩ := I.cell _ _ hc
      exact ⟨rfl, z.lt⟩
  have look : ∀ {y}, scope.names.lookup y = some .free → ∃ c, (cloFrom X.env.cells scope.names []).lookup y = some c ∧ X.env.cells.lookup y = some c := fun {y} hl => by
    obtain ⟨c', e'⟩ := mem_lookup (cloFrom_has (cells := X.env.cells) (acc := []) (PySem.mem_of_lookup hl))
    exact ⟨c', e', (cm e').1⟩
  have okB : (gcx X A s H (genEnv scope (cloFrom X.env.cells scope.names []) C code bi X.env) fp [(a, go)]).Ok := by
    refine ⟨I.ok.mod, S.kind, I.ok.glob, hbi, hC, fun y z c e1 e2 => I.ok.inj y z c (cm e1).1 (cm e2).1, fun y hy => ?_, fun y c z e => absurd (show false = true from z) (by decide), fun _ => hd, hfr, .inr ⟨rfl, rfl⟩, fun b hb => ⟨?_, fun y c e z => ?_⟩, I.bs, Nat.le_trans I.ok.bsz I.sz, fun b o e hb => ?_, fun b hb z => ?_, I.stack, I.stkFree⟩
    · rcases hy with hy | hy
      · have hy : scope.names.lookup y = some .cell := hy
        exact absurd rfl (S.cell _ (PySem.mem_of_lookup hy))
      · have hy : scope.names.lookup y = some .free := hy
        obtain ⟨c, h1, _⟩ := look hy
        exact ⟨c, h1⟩
    · exact Nat.ne_of_lt (Nat.lt_of_lt_of_le (hfp b hb).2 hC)
    · exact (hfp b hb).1.2.2.2.2.1 y c (cm e).1 z
    · rcases (hfp b hb).1.2.2.2.1 with z | z
      · exact I.ok.noex b o e z
      · exact absurd (Nat.lt_of_lt_of_le (Heap.lt_size e) (Nat.le_trans I.ok.bsz z)) (Nat.lt_irrefl _)
    · rcases List.mem_cons.mp (I.stkSub b z) with z | z
      · exact (hfp b hb).1.2.1 z
      · exact (hfp b hb).1.2.2.1 z
  refine ⟨okB, hos, I5.bare, un, ⟨_, hns, fun i y av e1 e2 e3 => ?_⟩, fun y c e => ?_, hCn, fun y c e => ?_, fun p hp => ?_, I5.hok, by rw [wipe_length]; exact I.len⟩
  · obtain ⟨e2, hne⟩ := wipe_some e2
    have no : ∀ k, scope.names.lookup y = some k → ¬ (k = .local ∨ k = .cell) := fun k e hh => by
      rcases ok.own _ (PySem.mem_of_lookup e) hh with e' | e'
      · obtain ⟨p, hp, hpy⟩ := List.mem_map.mp e'
        have e3 := ok.ix p hp
        have : p.1 = y := hpy
        rw [this] at e3
        exact hne (List.mem_map.mpr ⟨p, hp, nodup_ix hN e3 e1⟩)
      · exact e' (List.mem_of_getElem? e1)
    have hfr : scope.names.lookup y = some .free := by
      have e3 : Vis scope y := e3
      rcases e3 with e3 | e3 | e3
      · exact absurd (.inl rfl) (no _ e3)
      · exact absurd (.inr rfl) (no _ e3)
      · exact e3
    obtain ⟨m, hn, hl⟩ := I5.loc
    have hvis : Vis X.env.scope y := (ok.free _ (PySem.mem_of_lookup hfr) rfl).elim (fun k => .inr (.inl k)) (fun k => .inr (.inr k))
    obtain ⟨w, r, q⟩ := hl i y av e1 e2 hvis
    refine ⟨w, r, .inr ⟨.inr hfr, ?_⟩⟩
    obtain ⟨c, h1, h2⟩ := look hfr
    rcases q with ⟨k, _⟩ | ⟨_, c', e', z⟩
    · have k : X.env.scope.names.lookup y = some .local := k
      rcases ok.free _ (PySem.mem_of_lookup hfr) rfl with k' | k' <;> rw [show X.env.scope.names.lookup y = _ from k'] at k <;> cases k
    · rw [h2] at e'; cases e'
      exact ⟨c, h1, z⟩
  · obtain ⟨w, z⟩ := I.cell y c (cm e).1
    exact ⟨w, kc _ _ z⟩
  · exact I5.freeC y c (cm e).1
  · have e : p = (a, go) := by
      rcases List.mem_append.mp hp with z | z
      · exact List.mem_singleton.mp z
      · cases z
    subst e
    refine ⟨hga, han, haC, fun hm => ?_, hgd⟩
    have hm : a ∈ frs X.stack := hm
    obtain ⟨_, o, ho, _⟩ := I.stack.mem hm
    exact absurd (Nat.lt_of_lt_of_le (Heap.lt_size ho) (Nat.le_of_lt (Nat.lt_of_le_of_lt hC hca))) (Nat.lt_irrefl _)
end
end GX

namespace GX
open PySem PySem.Spec PyProof.Rows L2 GenW GxR

/-- a generator that has not begun, over an iterator -/
structure Born (X : Cx) (pins : List (Addr × Obj)) (σ : L2.St) (elt tg iter : Expr) (scope : Scope) (pos : Pos) (own : List (Str × Nat)) (P : Addr) (Ji : It) (H2 H3 : Hp) (it a : Addr) (gn : Nat) (fp : List Addr) (tn : Nat → Heap → Prop) (C : Addr) (code : Value) (go : Obj) (s2 s5 : Shared) : Prop where
  I2 : Inv X pins σ H2 s2
  T : Turn X.prog X.w X.K tg Ji fp it tn
  fok : ∀ b ∈ fp, FpOk X pins H2 b ∧ b < s2.heap.objs.size
  tabbed : Tabbed P H2 H3
  I5 : Inv X pins σ H3 s5
  blk : ∀ A : Around, A.handled = none → A.frames = some (genEnv scope (cloFrom X.env.cells scope.names []) C code builtinsNs X.env :: X.stack) → Inv (gcx X A s2 H2 (genEnv scope (cloFrom X.env.cells scope.names []) C code builtinsNs X.env) fp [(a, go)]) [] (wipe σ (own.map (·.2))) H3 s5
  t5 : tn 0 s5.heap
  f5 : ∀ b ∈ fp, H3 b = none
  apn : ∀ b ∈ fp, a ≠ b
  sz : s2.heap.objs.size ≤ a
  lt : a < s5.heap.objs.size
  gen : ∀ h : Heap, h.get? a = some go → h.IsGen a gn
  got : s5.heap.get? a = some go
  fresh : s5.gens[gn]? = some (.fresh (.compStart (.GeneratorExp elt [⟨tg, iter, [], 0⟩] scope pos) 0 (.ref it) .none (genEnv scope (cloFrom X.env.cells scope.names []) C code builtinsNs X.env)))
  nolim : s5.heap.NoLimit

section
variable {X : Cx} {pins : List (Addr × Obj)} {σ : L2.St} {H : Hp} {s : Shared}
theorem gx_make {k : Nat} {c P : Addr} {elt tg iter : Expr} {scope : Scope} {pos : Pos} {own : List (Str × Nat)} {wi : TI} {R : It → Hp → Prop} {Q' : Value → Shared → Prop}
    (hr : Room k X.A) (TB : TabB X.base X.mg c P) (hcode : X.env.code = .ref c) (S : GSc scope) (ok : BlkOk X.N X.env.scope scope own) (hN : X.N.Nodup) (hi : PI X tg iter wi)
    (hs : ∀ v, genFold iter X.env v = pure v) (I : Inv X pins σ H s) (h : wi σ H fun J H1 => TabG H1 P ∧ R J H1)
    (hQ : ∀ Ji H2 H3 it a gn fp tn C code go s2 s5, R Ji H2 → Born X pins σ elt tg iter scope pos own P Ji H2 H3 it a gn fp tn C code go s2 s5 → Q' (.ref a) s5) :
    wpAny (model X.prog X.w) X.A (eval (.GeneratorExp elt [⟨tg, iter, [], 0⟩] scope pos) X.env) Q' X.xe s := by
  have hfree : ∀ y ∈ scope.names, y.2 = .free → ∃ c, X.env.cells.lookup y.1 = some c := fun y hy e => by
    rcases ok.free y hy e with k | k
    · exact I.ok.has _ (.inl k)
    · exact I.ok.has _ (.inr k)
  refine wpAny_GeneratorExp_make S.co (closure_ok hfree) S.cell S.dot S.kind (by have := hr.dp; omega) ?_ hs
  refine thn (hi.run pins s σ H _ I h) fun xv s1 hx => thn hx fun itv s2 h2 => ?_
  obtain ⟨it, fp, tn, Ji, H2, e, I2, T, st2, f2, ⟨ps, hP, ht⟩, q⟩ := h2
  subst e
  have hPs : s2.heap.get? P = some { cls := .none, data := .fields ps } := I2.hok P _ hP
  have hPlt : P < s2.heap.objs.size := Heap.lt_size hPs
  have cd : PySem.W.CodeHd s2.heap c P := TB.code.keeps fun b u e => I2.bk b u e
  have lim2 : s2.heap.NoLimit := I2.nolimit
  have f2' : ∀ b ∈ fp, FpOk X pins H2 b ∧ b < s2.heap.objs.size := fun b hb => by
    obtain ⟨o, e, _⟩ := T.obj _ _ st2 b hb
    exact ⟨f2 b hb, Heap.lt_size e⟩
  have fpP : ∀ b ∈ fp, b ≠ P := fun b hb z => by
    have := (f2 b hb).1
    rw [z, hP] at this
    cases this
  have cont : ∀ (code : Value) (h3 : Heap) (tk : Nat) (ps' : Array Value), Heap.ExtBut P s2.heap h3 → s2.heap.objs.size ≤ h3.objs.size → h3.get? P = some { cls := .none, data := .fields ps' } → (∃ more, ps' = ps ++ more) → TriplesOk ps'.toList →
      wpAny (model X.prog X.w) X.A (builtinsFor X.env.globals X.env.builtins) (fun bi s₄ =>
        ∀ h', h'.Ns s₄.heap.objs.size (fun y => if y = ".0" then some (.ref it) else none) → Heap.SameBut s₄.heap.objs.size (s₄.heap.push { cls := .type "frame", data := .dict #[] }) h' →
          Q' (.ref h'.objs.size) { s₄ with
            gens := s₄.gens.push (.fresh (.compStart (.GeneratorExp elt [⟨tg, iter, [], 0⟩] scope pos) 0 (.ref it) .none (genEnv scope (cloFrom X.env.cells scope.names []) s₄.heap.objs.size code bi X.env))),
            toks := s₄.toks + 1 + 1 + 1,
            heap := h'.push { cls := .type "generator", data := .fields #[.int s₄.gens.size 0, .str "<genexpr>" (s₄.toks + 1), .str (X.env.qual ++ "<genexpr>") (s₄.toks + 1 + 1)] } }) X.xe { s2 with heap := h3, toks := tk } := by
    intro code h3 tk ps' hx hsz hP3 hmore ht3
    obtain ⟨bm, ob, e1, e2, e3, e4, e5, e6, e7, e8⟩ := TB.bm
    have keep3 : ∀ b u, b ≠ P → s2.heap.get? b = some u → h3.get? b = some u := fun b u hb e => hx b u hb e
    refine wpAny_builtinsFor (m := X.mg) (by rw [I2.ok.glob]; exact ((I2.mod.glob.keeps I2.bk)).extBut hx TB.gP) e1 e2 (keep3 _ _ e4 (I2.bk _ _ e5)) e6 e7 e8 ?_
    intro h' hn' hs'
    obtain ⟨more, em⟩ := hmore
    subst em
    have hn' : h'.Ns h3.objs.size (fun y => if y = ".0" then some (.ref it) else none) := hn'
    have hs' : Heap.SameBut h3.objs.size (h3.push { cls := .type "frame", data := .dict #[] }) h' := hs'
    have hsz' : h'.objs.size = h3.objs.size + 1 := by rw [hs'.1, Heap.size_push]
    have hsz4 : h'.objs.size ≠ h3.objs.size := fun z => absurd (hsz'.symm.trans z) (Nat.succ_ne_self _)
    generalize hgo : ({ cls := .type "generator", data := .fields #[.int ({ s2 with heap := h3, toks := tk } : Shared).gens.size 0, .str "<genexpr>" (({ s2 with heap := h3, toks := tk } : Shared).toks + 1), .str (X.env.qual ++ "<genexpr>") (({ s2 with heap := h3, toks := tk } : Shared).toks + 1 + 1)] } : Obj) = go
    have got : (h'.push go).get? h'.objs.size = some go := by subst hgo; exact Heap.get?_push_size _ rfl
    have keep5 : ∀ b u, b ≠ P → s2.heap.get? b = some u → (h'.push go).get? b = some u := fun b u hb e =>
      Heap.get?_push_of_some _ (hs'.extBut b u (Nat.ne_of_lt (Nat.lt_of_lt_of_le (Heap.lt_size e) hsz)) (Heap.get?_push_of_some _ (keep3 b u hb e)))
    have hP5 : (h'.push go).get? P = some { cls := .none, data := .fields (ps ++ more) } :=
      Heap.get?_push_of_some _ (hs'.extBut P _ (Nat.ne_of_lt (Nat.lt_of_lt_of_le hPlt hsz)) (Heap.get?_push_of_some _ hP3))
    have hbare : AllBare (s2.gens.push (.fresh (.compStart (.GeneratorExp elt [⟨tg, iter, [], 0⟩] scope pos) 0 (.ref it) .none (genEnv scope (cloFrom X.env.cells scope.names []) h3.objs.size code builtinsNs X.env)))) := I2.bare.push rfl
    have I5 := inv_tab (more := more) (h' := h'.push go) (g' := s2.gens.push (.fresh (.compStart (.GeneratorExp elt [⟨tg, iter, [], 0⟩] scope pos) 0 (.ref it) .none (genEnv scope (cloFrom X.env.cells scope.names []) h3.objs.size code builtinsNs X.env))))
      (d' := s2.drawn) (t' := tk + 1 + 1 + 1) I2 hP keep5 hP5 hbare
    have tb : Tabbed P H2 (upd H2 P (.tbl (ps ++ more))) := ⟨⟨ps ++ more, upd_same, ht3⟩, fun b hb => upd_ne hb⟩
    have fresh3 : ∀ b, s2.heap.objs.size ≤ b → upd H2 P (.tbl (ps ++ more)) b = none := fun b hb => by
      rw [upd_ne (fun z => absurd (Nat.lt_of_lt_of_le hPlt (by rw [← z]; exact hb)) (Nat.lt_irrefl _))]
      exact I2.hok.fresh hb
    have hle : s2.heap.objs.size ≤ h'.objs.size := by rw [hsz']; exact Nat.le_succ_of_le hsz
    have hlt : h3.objs.size < h'.objs.size := by rw [hsz']; exact Nat.lt_succ_self _
    have un : Un (frs X.stack) fp H2 (upd H2 P (.tbl (ps ++ more))) s2.heap (h'.push go) := by
      have nN : ∀ b, H2 b = none → b ≠ P := fun b e z => by rw [z, hP] at e; cases e
      refine ⟨fun b o e n _ _ => keep5 b o (nN b n) e, fun b o e n _ _ => ⟨o.slots, keep5 b o (nN b n) e⟩, fun b o e n _ => by rw [upd_ne (nN b n)]; exact n, fun b o e _ => ?_, fun b xs e => ?_, fun b o u e => ?_, fun b qs e => ?_⟩
      · by_cases hb : b = P
        · exact ⟨_, by rw [hb]; exact hP5⟩
        · exact ⟨o, keep5 b o hb e⟩
      · rw [upd_ne (fun z => by rw [z, hP] at e; cases e)]; exact e
      · rw [upd_ne (fun z => by rw [z, hP] at e; cases e)]; exact e
      · by_cases hb : b = P
        · rw [hb, hP] at e
          cases e
          exact ⟨more, by rw [hb, upd_same]⟩
        · exact ⟨#[], by rw [upd_ne hb, e]; simp⟩
    have kc : ∀ c v, s2.heap.IsCell c v → (h'.push go).IsCell c v := fun c v ⟨o, ho, hd⟩ => ⟨o, keep5 c o (fun z => by rw [z, hPs] at ho; cases ho; cases hd) ho, hd⟩
    have hgd : ∀ v, go.data ≠ .cell v := fun v q => by subst hgo; cases q
    refine hQ Ji H2 (upd H2 P (.tbl (ps ++ more))) it h'.objs.size s2.gens.size fp tn h3.objs.size code go s2 _ q ⟨I2, T, f2', tb, I5, fun A hd hf => ?_, ?_, fun b hb => by rw [upd_ne (fpP b hb)]; exact (f2 b hb).1, fun b hb => Nat.ne_of_gt (Nat.lt_of_lt_of_le (f2' b hb).2 hle), hle, ?_, fun h e => ?_, got, Array.getElem?_push_size .., ?_⟩
    · refine gblk_start hd hf I2 S ok hN f2' rfl hsz I5 un (hn'.push _) (fresh3 _ hsz) kc hlt got hgd (fresh3 _ hle) hsz4 rfl
    · exact T.keep _ _ _ st2 fun b hb o e => keep5 b o (fpP b hb) e
    · show _ < (h'.push go).objs.size
      rw [Heap.size_push]; exact Nat.lt_succ_self _
    · subst hgo
      exact ⟨_, _, _, e, rfl, rfl, rfl⟩
    · exact I5.nolimit
  refine ⟨lim2, ?_⟩
  cases hf : codeAmong pos ps.toList with
  | none =>
    refine wpAny_genexprCodeX hcode (cd.code hPs ht) (cd.tab hPs) hf fun c' h' tk hx hge hlt hco' _ htab' _ => ?_
    obtain ⟨o1, vs, f1, tf, fl, tg, inF, tx, tt, op, _, _, _, _, _, _, _, _, _, htr, _⟩ := hco'
    exact cont _ h' tk _ hx (Nat.le_trans hge (Nat.le_of_lt hlt)) htab'.2 ⟨_, rfl⟩ htr
  | some cv =>
    refine wpAny_genexprCode_hit hcode (cd.code hPs ht) hf ?_
    exact cont cv s2.heap s2.toks ps (Heap.ExtBut.refl _ _) (Nat.le_refl _) hPs ⟨#[], by simp⟩ ht
end
end GX

namespace GX
open PySem PySem.Spec PyProof.Rows L2 GenW GxR

theorem over_gx {A : Around} {elt tg iter : Expr} {scope : Scope} {pos : Pos} {it acc : Value} {cenv : Env} : A.over (.compLoop (.GeneratorExp elt [⟨tg, iter, [], 0⟩] scope pos) 0 it acc cenv) [] = A.deeper cenv := by
  first
    | rfl
    | (obtain ⟨hd, d, fr, gs, u⟩ := A; simp [Around.over, Around.deeper, marksOver, frameCount, unitsOf, envsOf, guardsOf, pushEnvs, pushGuards, Code.envs, Code.env?, Code.isFrame, Code.guards, Code.isGuard, Code.weight, Code.frames, Code.isCreation, Code.isCaller, Code.cUnits])
theorem over_gs {A : Around} {elt tg iter : Expr} {scope : Scope} {pos : Pos} {it acc : Value} {cenv : Env} : A.over (.compStart (.GeneratorExp elt [⟨tg, iter, [], 0⟩] scope pos) 0 it acc cenv) [] = A.deeper cenv := by
  first
    | rfl
    | (obtain ⟨hd, d, fr, gs, u⟩ := A; simp [Around.over, Around.deeper, marksOver, frameCount, unitsOf, envsOf, guardsOf, pushEnvs, pushGuards, Code.envs, Code.env?, Code.isFrame, Code.guards, Code.isGuard, Code.weight, Code.frames, Code.isCreation, Code.isCaller, Code.cUnits])

section
variable {P : Program} {w : World} {A : Around} {R : GenEnd} {Y : Protocol} {n : Nat} {s₀ s : Shared}
/-- the first turn -/
theorem seg_gstart {elt tg iter : Expr} {scope : Scope} {pos : Pos} {it : Addr} {cenv : Env} (self : ∀ (A : Around) (Q : Value → Shared → Prop) (E : Value → Shared → Prop), Q (.ref it) s → wpAny (model P w) A (pyIter (.ref it)) Q E s)
    (h : Seg (model P w) A R Y n s₀ (.compLoop (.GeneratorExp elt [⟨tg, iter, [], 0⟩] scope pos) 0 (.ref it) .none cenv) ((model P w).den (.compLoop (.GeneratorExp elt [⟨tg, iter, [], 0⟩] scope pos) 0 (.ref it) .none cenv)) [] s) :
    Seg (model P w) A R Y n s₀ (.compStart (.GeneratorExp elt [⟨tg, iter, [], 0⟩] scope pos) 0 (.ref it) .none cenv) ((model P w).den (.compStart (.GeneratorExp elt [⟨tg, iter, [], 0⟩] scope pos) 0 (.ref it) .none cenv)) [] s := by
  show Seg _ A _ _ _ s₀ _ ((compStart (.GeneratorExp elt [⟨tg, iter, [], 0⟩] scope pos) 0 (.ref it) .none cenv).onRaise (leaving cenv)) [] s
  unfold compStart
  rw [Sem.onRaise_eq_wrap]
  show Seg _ A _ _ _ s₀ _ ((ask >>= _).wrap _ _ _ _) [] s
  refine seg_bind_wrap (wpAny_askSetting ?_)
  split
  · exact seg_again rfl h
  · first
      | exact seg_bind_wrap (wpAny_rule (seg_bind_wrap (wpAny_standAt (seg_bind_wrap (self _ _ _ (seg_again rfl h))))))
      | (refine seg_bind_wrap (wpAny_rule ?_); show Seg _ A _ _ _ s₀ _ ((standAt iter.pos >>= _).wrap _ _ _ _) [] s; exact seg_bind_wrap (wpAny_standAt (seg_bind_wrap (self _ _ _ (seg_again rfl h)))))
end

/-! ### all(..) -/
def JA (G : Cx) : List V → L2.St → Hp → Shared → Prop := fun _ σ H s => Inv G [] σ H s
def CnA : Value → Shared → Shared → Prop := fun _ s s' => s'.os = s.os ∧ s'.heap = s.heap ∧ AllBare s'.gens
theorem cons_all {G : Cx} {fp : List Addr} : Cons G fp (JA G) CnA where
  out := fun ys σ H s h => ⟨[], h, fun _ _ p hp => (by cases hp), fun _ _ _ I => I⟩
  woken := fun ys σ H s s' x v h _ z => by
    obtain ⟨h1, h2, h3⟩ := z
    have h : Inv G [] σ H s := h
    refine h.call' (ch := []) h1 (Un.kept fun b o e => by rw [h2]; exact e) (h.hok.kept fun b o e => by rw [h2]; exact e) h3 fun b hb => by cases hb
  keep := fun ys σ H s s' v h z b hb o e => by rw [z.2.1]; exact e

section
variable {X : Cx} {pins : List (Addr × Obj)} {σ : L2.St} {P : Program} {w : World}
/-- back in the caller's context -/
theorem gx_back {A : Around} {elt tg iter : Expr} {scope : Scope} {pos : Pos} {own : List (Str × Nat)} {Pt : Addr} {Ji : It} {H2 H3 H' : Hp} {it a : Addr} {gn : Nat} {fp : List Addr} {tn : Nat → Heap → Prop} {C : Addr} {code : Value} {go : Obj} {s2 s5 s s' : Shared} {pl : List (Addr × Obj)} {σ' : L2.St}
    (B : Born X pins σ elt tg iter scope pos own Pt Ji H2 H3 it a gn fp tn C code go s2 s5)
    (I : Inv (gcx X A s2 H2 (genEnv scope (cloFrom X.env.cells scope.names []) C code builtinsNs X.env) fp [(a, go)]) pl σ' H' s) (hk : ∀ b o, s.heap.get? b = some o → s'.heap.get? b = some o) (hos : s'.os = s.os) (hg : AllBare s'.gens) : Inv X pins σ H' s' :=
  B.I2.call' (ch := fp) (hos.trans I.os) (I.base.trans (Un.kept hk)) (I.hok.kept hk) hg fun b hb => ⟨(B.fok b hb).1.2.2.2.1, (B.fok b hb).1.2.1, (B.fok b hb).1.2.2.2.2.1, (B.fok b hb).1.2.2.2.2.2⟩

/-- the end as next wants it -/
def gRA (Q : VK) (G : Cx) : GenEnd := fun _ _ r s1 => ((r = .ok (.ret .none) ∨ r = .ok .next) ∧ (∃ σ' H', Inv G [] σ' H' s1 ∧ Q (.bl true) H')) ∨ ∃ e, r = .error e ∧ False
theorem goesA {G : Cx} {Q : VK} {L : Nat} {P : Program} {w : World} {B : Around} {gs : GenState} {n : Nat} {r : Resume} {s : Shared}
    (h : gs.Goes (model P w) B (gR (JA G) (fun _ H => Q (.bl true) H) L) (gY (JA G) CnA (fun _ y H => y = .bl false ∧ Q (.bl false) H) (fun y => y = .bl true) L) n r s) :
    gs.Goes (model P w) B (gRA Q G) (gY (JA G) CnA (fun _ y H => y = .bl false ∧ Q (.bl false) H) (fun y => y = .bl true) L) n r s := by
  have im : ∀ (n : Nat) (s₀ : Shared) (r : Result) (s1 : Shared), gR (JA G) (fun _ H => Q (.bl true) H) L n s₀ r s1 → gRA Q G n s₀ r s1 := fun n s₀ r s1 z => by
    obtain ⟨z1, ys, σ', H', _, z2, z3⟩ := z
    exact .inl ⟨.inr z1, σ', H', z2, z3⟩
  have iy : ∀ n s₀ v s kap kap', (∀ r s', kap r s' → kap' r s') → gY (JA G) CnA (fun _ y H => y = .bl false ∧ Q (.bl false) H) (fun y => y = .bl true) L n s₀ v s kap → gY (JA G) CnA (fun _ y H => y = .bl false ∧ Q (.bl false) H) (fun y => y = .bl true) L n s₀ v s kap' := fun n s₀ v s kap kap' hk hY => by
    obtain ⟨ys, y, σ, H, h1, h2, h3, h4⟩ := hY
    exact ⟨ys, y, σ, H, h1, h2, h3, h4.elim .inl fun q => .inr ⟨q.1, fun s' z => hk _ _ (q.2 s' z)⟩⟩
  cases gs with
  | fresh c => exact ⟨h.1, seg_imp im iy n h.2⟩
  | suspended k0 l0 c0 p0 fs0 cl => exact seg_imp im iy n h
  | running => exact h
  | finished => exact h

theorem all_drain {A A2 : Around} {elt tg iter : Expr} {scope : Scope} {pos : Pos} {own : List (Str × Nat)} {Pt : Addr} {Ji : It} {H2 H3 : Hp} {it a : Addr} {gn : Nat} {fp : List Addr} {tn : Nat → Heap → Prop} {C : Addr} {code : Value} {go : Obj} {s2 s5 : Shared} {Q : VK} {L : Nat}
    (B : Born X pins σ elt tg iter scope pos own Pt Ji H2 H3 it a gn fp tn C code go s2 s5) (hh : A.handled = none) (hd : A.depth < recursionLimit) :
    ∀ (n : Nat) (s : Shared), s.heap.IsGen a gn → s.heap.NoLimit →
      (∃ gs, s.gens[gn]? = some gs ∧ gs.Goes (model X.prog X.w) A.in1.in1
        (gRA Q (gcx X A2 s2 H2 (genEnv scope (cloFrom X.env.cells scope.names []) C code builtinsNs X.env) fp [(a, go)]))
        (gY (JA (gcx X A2 s2 H2 (genEnv scope (cloFrom X.env.cells scope.names []) C code builtinsNs X.env) fp [(a, go)])) CnA (fun _ y H => y = .bl false ∧ Q (.bl false) H) (fun y => y = .bl true) L) n (.send .none) (s.setGen gn .running)) →
      codeAny (model X.prog X.w) A (.builtin "all.loop" ⟨[.ref a], []⟩) (fun r s' => match r with | .ok (.ret v) => EP X pins σ Q v s' | _ => False) s := by
  intro n
  induction n with
  | zero =>
    intro s hg hl ⟨gs, hgs, hgo⟩
    refine codeAny_builtin F.entry_all_loop ?_
    rw [Around.under_plainId F.plain_all_loop _]
    show wpAny _ A.in1 (pyNext (.ref a) >>= _) _ _ s
    refine wpAny_bind (next_genG (A := A.in1) hh hl hd hg hgs hgo (fun v s₁ gs' hbare hv => ?_) (fun s₁ hp h' hk => ?_) fun e s₁ he => he.elim)
    · obtain ⟨ys, y, σ', H', hn, ry, hJ, hc⟩ := hv
      have hJ : Inv _ [] σ' H' s₁ := hJ
      rcases hc with ⟨e, q⟩ | ⟨_, hk⟩
      · subst e
        cases ry
        refine wpAny_bind (wpAny_holding (wpAny_truthy_bool ?_))
        refine wpAny_bind (wpAny_letGo ?_)
        simp only [Bool.false_eq_true, if_false]
        refine wpAny_bind (wpAny_rule (wpAny_pure ?_))
        exact ⟨.bl false, H', gx_back B hJ (fun b o e => e) rfl (allBare_setGen hJ.bare hbare), rfl, q⟩
      · exact (hk s₁ ⟨rfl, rfl, hJ.bare⟩).elim
    · obtain ⟨σ', H', hI, q⟩ := hp
      refine wpAny_bind (wpAny_rule (wpAny_pure ?_))
      exact ⟨.bl true, H', gx_back B hI hk rfl (allBare_setGen hI.bare rfl), rfl, q⟩
  | succ n ih =>
    intro s hg hl ⟨gs, hgs, hgo⟩
    have hgl : gn < s.gens.size := (Array.getElem?_eq_some_iff.mp hgs).1
    refine codeAny_builtin F.entry_all_loop ?_
    rw [Around.under_plainId F.plain_all_loop _]
    show wpAny _ A.in1 (pyNext (.ref a) >>= _) _ _ s
    refine wpAny_bind (wpAny_gsz (n := gn + 1) hgl (next_genG (A := A.in1) hh hl hd hg hgs hgo (fun v s₁ gs' hbare hv => ?_) (fun s₁ hp h' hk => ?_) fun e s₁ he => he.elim))
    · intro hsz
      obtain ⟨ys, y, σ', H', hn, ry, hJ, hc⟩ := hv
      have hJ : Inv _ [] σ' H' s₁ := hJ
      rcases hc with ⟨e, q⟩ | ⟨e, hk⟩
      · subst e
        cases ry
        refine wpAny_bind (wpAny_holding (wpAny_truthy_bool ?_))
        refine wpAny_bind (wpAny_letGo ?_)
        simp only [Bool.false_eq_true, if_false]
        refine wpAny_bind (wpAny_rule (wpAny_pure ?_))
        exact ⟨.bl false, H', gx_back B hJ (fun b o e => e) rfl (allBare_setGen hJ.bare hbare), rfl, q⟩
      · subst e
        cases ry
        refine wpAny_bind (wpAny_holding (wpAny_truthy_bool ?_))
        refine wpAny_bind (wpAny_letGo ?_)
        simp only [if_true]
        have hsz1 : gn < s₁.gens.size := by
          have q : (s₁.setGen gn gs').gens.size = s₁.gens.size := setGen_size _ _ _
          have hsz' : gn + 1 ≤ (s₁.setGen gn gs').gens.size := hsz
          omega
        refine wpAny_pure ⟨plainId_quiet F.plain_all_loop _, ?_⟩
        have hgen : s₁.heap.IsGen a gn := B.gen _ (hJ.pin (a, go) (List.mem_append_left _ (List.mem_singleton.mpr rfl))).1
        refine ih (s₁.setGen gn gs') hgen hJ.nolimit ⟨gs', setGen_at hsz1, ?_⟩
        exact hk ((s₁.setGen gn gs').setGen gn .running) ⟨rfl, rfl, allBare_setGen (s := s₁.setGen gn gs') (allBare_setGen hJ.bare hbare) rfl⟩
    · intro hsz
      obtain ⟨σ', H', hI, q⟩ := hp
      refine wpAny_bind (wpAny_rule (wpAny_pure ?_))
      exact ⟨.bl true, H', gx_back B hI hk rfl (allBare_setGen hI.bare rfl), rfl, q⟩
end
end GX

namespace GX
open PySem PySem.Spec PyProof.Rows L2 GenW GxR

theorem room_deeper {k : Nat} {A : Around} (r : Room (k + 1) A) (env : Env) : Room k (A.in1.in1.deeper env) := ⟨r.hd, by
    have := r.dp
    show A.depth + 1 + 3 * k + 5 < _
    omega, by
    have := r.un
    show A.units + 1 + 1 + 3 + 16 * k + 200 < _
    omega⟩

def tAllG (P : Addr) (wi : TI) (g : TG) (te : TE) (vs : List Nat) : TE := fun σ H Q => wi σ H fun J H1 => TabG H1 P ∧ ∀ H2, Tabbed P H1 H2 → ∃ W : Nat → Nat → List V → Hp → Prop, (∃ m, W 0 m [] H2) ∧
  GTurn J g te (wipe σ vs) vs (fun _ y H => y = .bl false ∧ Q (.bl false) H) (fun y => y = .bl true) (fun _ H => Q (.bl true) H) W

section
variable {X : Cx} {pins : List (Addr × Obj)} {σ : L2.St} {P : Program} {w : World}
theorem pe_allG {k : Nat} {c P : Addr} {elt tg iter : Expr} {scope : Scope} {own : List (Str × Nat)} {wi : TI} {g : TG} {te : TE} {p pos gpos : Pos}
    (hr : Room (k + 1) X.A) (hgl : Gl X "all") (hm : X.mg "all" = none) (hb : bootBuiltins "all" = some (.builtin "all")) (TB : TabB X.base X.mg c P) (hcode : X.env.code = .ref c) (S : GSc scope) (ok : BlkOk X.N X.env.scope scope own) (hN : X.N.Nodup) (hi : PI X tg iter wi)
    (hg : ∀ (A : Around) (s : Shared) (H : Hp) (C : Addr) (code : Value) (fp : List Addr) (pn : List (Addr × Obj)), Room k A → PG (gcx X A s H (genEnv scope (cloFrom X.env.cells scope.names []) C code builtinsNs X.env) fp pn) tg g)
    (he : ∀ (A : Around) (s : Shared) (H : Hp) (C : Addr) (code : Value) (fp : List Addr) (pn : List (Addr × Obj)), Room k A → PE (gcx X A s H (genEnv scope (cloFrom X.env.cells scope.names []) C code builtinsNs X.env) fp pn) elt te)
    (hs : ∀ v, genFold iter X.env v = pure v)
    (hst : starEach [.GeneratorExp elt [⟨tg, iter, [], 0⟩] scope gpos] X.env = (false, eval (.GeneratorExp elt [⟨tg, iter, [], 0⟩] scope gpos) X.env) :: starEach [] X.env := by rfl) :
    PE X (.Call (.Name "all" p) [.GeneratorExp elt [⟨tg, iter, [], 0⟩] scope gpos] [] pos) (tAllG P wi g te (own.map fun x : Str × Nat => x.2)) := by
  refine ⟨fun pins s σ H Q I h => ?_⟩
  refine wpAny_Call_Name_kw (ld_blt I hgl hm hb ?_)
  refine PyProof.Rows.callWith_builtin1 ?_ hst (by rfl)
  rw [hst]
  show wpAny _ _ (spliced ((false, eval (.GeneratorExp elt [⟨tg, iter, [], 0⟩] scope gpos) X.env) :: backTo pos (starEach [] X.env))) _ _ s
  refine Calls.spliced_cons (gx_make (R := fun J H1 => ∀ H2, Tabbed P H1 H2 → ∃ W : Nat → Nat → List V → Hp → Prop, (∃ m, W 0 m [] H2) ∧
    GTurn J g te (wipe σ (own.map fun x : Str × Nat => x.2)) (own.map fun x : Str × Nat => x.2) (fun _ y H => y = .bl false ∧ Q (.bl false) H) (fun y => y = .bl true) (fun _ H => Q (.bl true) H) W) hr TB hcode S ok hN hi hs I h
    fun Ji H2 H3 it a gn fp tn C code go s2 s5 hR B => ?_)
  obtain ⟨W, ⟨m0, w0⟩, turn⟩ := hR H3 B.tabbed
  refine Calls.spliced_nil ?_
  have hh : X.A.handled = none := hr.hd
  have hdp : X.A.depth < recursionLimit := hr.depth
  refine call_function_tree F.kind_all F.plain_all F.entry_all (F.args_all1 _) ?_
  unfold Builtin.«all»
  refine wpAny_bind (m := oneArg "all" _) (wpAny_pure ?_)
  refine wpAny_bind (wpAny_pyIter_gen (B.gen _ B.got) ?_)
  refine wpAny_pure ⟨plainId_quiet F.plain_all_loop _, ?_⟩
  have rm := room_deeper hr (genEnv scope (cloFrom X.env.cells scope.names []) C code builtinsNs X.env)
  refine codeAny_mono (all_drain (Q := Q) (A := X.A) (A2 := X.A.in1.in1.deeper (genEnv scope (cloFrom X.env.cells scope.names []) C code builtinsNs X.env)) (L := m0 + 1) B hh hdp (m0 + 1) s5 (B.gen _ B.got) B.nolim ⟨_, B.fresh, goesA ⟨rfl, ?_⟩⟩) fun r s' q => ?_
  · have I0 : Inv (gcx X (X.A.in1.in1.deeper (genEnv scope (cloFrom X.env.cells scope.names []) C code builtinsNs X.env)) s2 H2 (genEnv scope (cloFrom X.env.cells scope.names []) C code builtinsNs X.env) fp [(a, go)]) [] (wipe σ (own.map fun x : Str × Nat => x.2)) H3 (s5.setGen gn .running) := by
      have J0 := B.blk (X.A.in1.in1.deeper (genEnv scope (cloFrom X.env.cells scope.names []) C code builtinsNs X.env)) rm.hd (Around.frames_deeper (show X.A.in1.in1.frames = some X.stack from B.I2.ok.frames))
      exact J0.call' (ch := []) rfl Un.refl J0.hok (allBare_setGen J0.bare rfl) fun b hb => by cases hb
    refine seg_gstart (fun A Q E hq => B.T.self A 0 _ Q E B.t5 hq) ?_
    refine seg_gx (A := X.A.in1.in1.deeper (genEnv scope (cloFrom X.env.cells scope.names []) C code builtinsNs X.env)) (s0 := s2) (H0 := H2) (pn := [(a, go)]) over_gx B.T S.co (fun p hp b hb => ?_) (hg _ _ _ _ _ _ _ rm) (he _ _ _ _ _ _ _ rm) cons_all turn (m0 + 1) m0 0 [] _ _ H3 (Nat.lt_succ_self _) rfl I0 B.t5 B.f5 w0
    rw [List.mem_singleton.mp hp]
    exact B.apn b hb
  · cases r with
    | error e => exact q.elim
    | ok fl =>
      cases fl with
      | ret v => exact q
      | next => exact q.elim
      | brk => exact q.elim
      | cont => exact q.elim
end
end GX

namespace GX
open PySem PySem.Spec PyProof.Rows L2 GenW GxR
open AutoSeq1 (wpAny_loadPart')

/-! ### tuple(..) -/
def JT (G : Cx) (S : Addr) : List V → L2.St → Hp → Shared → Prop := fun ys σ H s => ∃ (acc : Array Value) (c : Nat), Vals ys acc.toList ∧ Inv G [(S, lstObj acc c)] σ H s
theorem cons_tup {G : Cx} {fp : List Addr} {S : Addr} (hpn : ∀ p ∈ G.pn, p.1 ≠ S) (hA : Apart G S) (hfp : ∀ b ∈ fp, S ≠ b) : Cons G fp (JT G S) (Slept S) where
  out := fun ys σ H s h => by
    obtain ⟨acc, c, r, I⟩ := h
    exact ⟨[(S, lstObj acc c)], I, fun b hb p hp => by rw [List.mem_singleton.mp hp]; exact hfp b hb, fun _ _ _ I' => ⟨acc, c, r, I'⟩⟩
  woken := fun ys σ H s s' x v h rv z => by
    have g : GI G S [] ys σ H s := h
    exact g.woken hpn (fun p hp => by cases hp) hA rv z
  keep := fun ys σ H s s' v h z b hb o e => z.keep b o (Ne.symm (hfp b hb)) e

def tTupG (P : Addr) (wi : TI) (g : TG) (te : TE) (vs : List Nat) : TE := fun σ H Q => wi σ H fun J H1 => TabG H1 P ∧ ∀ H2, Tabbed P H1 H2 → ∃ W : Nat → Nat → List V → Hp → Prop, (∃ m, m < sizeLine ∧ W 0 m [] H2) ∧
  GTurn J g te (wipe σ vs) vs (fun _ _ _ => False) (fun _ => True) (fun ys H => ∀ p, H p = none → Q (.ref p) (upd H p (.tup ys))) W

theorem room_in1 {k : Nat} {A : Around} (r : Room (k + 1) A) (n : Nat) (hn : n ≤ 8) (env : Env) {B : Around} (h1 : B.handled = A.handled) (h2 : B.depth = A.depth) (h3 : B.units = A.units + n) : Room k (B.deeper env) := ⟨h1.trans r.hd, by
    have := r.dp
    show B.depth + 1 + 3 * k + 5 < _
    omega, by
    have := r.un
    show B.units + 3 + 16 * k + 200 < _
    omega⟩

section
variable {X : Cx} {pins : List (Addr × Obj)} {σ : L2.St}
/-- the generator drained into the list at S -/
theorem gx_drain {k : Nat} {A : Around} {elt tg iter : Expr} {scope : Scope} {pos : Pos} {own : List (Str × Nat)} {Pt : Addr} {Ji : It} {H2 H3 : Hp} {it a : Addr} {gn : Nat} {fp : List Addr} {tn : Nat → Heap → Prop} {C : Addr} {code : Value} {go : Obj} {s2 s5 s6 : Shared} {g : TG} {te : TE} {W : Nat → Nat → List V → Hp → Prop} {Qd : List V → Hp → Prop} {R : Result → Shared → Prop} {S : Addr} {cS : Nat} {res : Value} {m0 : Nat}
    (B : Born X pins σ elt tg iter scope pos own Pt Ji H2 H3 it a gn fp tn C code go s2 s5) (S0 : GSc scope) (hfr : A.frames = some X.stack) (rm : Room k (A.in1.in1.deeper (genEnv scope (cloFrom X.env.cells scope.names []) C code builtinsNs X.env))) (hdp : A.depth < recursionLimit)
    (hg : ∀ (A : Around) (s : Shared) (H : Hp) (C : Addr) (code : Value) (fp : List Addr) (pn : List (Addr × Obj)), Room k A → PG (gcx X A s H (genEnv scope (cloFrom X.env.cells scope.names []) C code builtinsNs X.env) fp pn) tg g)
    (he : ∀ (A : Around) (s : Shared) (H : Hp) (C : Addr) (code : Value) (fp : List Addr) (pn : List (Addr × Obj)), Room k A → PE (gcx X A s H (genEnv scope (cloFrom X.env.cells scope.names []) C code builtinsNs X.env) fp pn) elt te)
    (turn : GTurn Ji g te (wipe σ (own.map fun x : Str × Nat => x.2)) (own.map fun x : Str × Nat => x.2) (fun _ _ _ => False) (fun _ => True) Qd W) (w0 : W 0 m0 [] H3) (hm0 : m0 < sizeLine)
    (hS : s5.heap.objs.size ≤ S) (hk6 : ∀ b o, s5.heap.get? b = some o → s6.heap.get? b = some o) (hS6 : s6.heap.get? S = some (lstObj #[] cS)) (hos6 : s6.os = s5.os) (hg6 : s6.gens = s5.gens)
    (hend : ∀ s' acc c H' ys, s'.heap.get? S = some (lstObj acc c) → Vals ys acc.toList → ys.length ≤ sizeLine → Inv X pins σ H' s' → H' S = none → Qd ys H' → R (.ok (.ret res)) s') :
    codeAny (model X.prog X.w) A (.builtin "list.extend.loop" ⟨[.ref S, .ref a, res], []⟩) R s6 := by
  generalize hcenv : genEnv scope (cloFrom X.env.cells scope.names []) C code builtinsNs X.env = cenv at rm hg he
  have B' := B.blk
  have Bf := B.fresh
  rw [hcenv] at B' Bf
  have hh : A.handled = none := rm.hd
  have hSa : S ≠ a := Nat.ne_of_gt (Nat.lt_of_lt_of_le B.lt hS)
  have hcl : cStatics < s5.heap.objs.size := let ⟨_, hn, _⟩ := B.nolim; hn.lt
  have hSc : S ≠ cStatics := Nat.ne_of_gt (Nat.lt_of_lt_of_le hcl hS)
  have hsz6 : s5.heap.objs.size ≤ s6.heap.objs.size := Nat.le_of_lt (Nat.lt_of_le_of_lt hS (Heap.lt_size hS6))
  have J0 := B' (A.in1.in1.deeper cenv) rm.hd (Around.frames_deeper (show A.in1.in1.frames = some X.stack from hfr))
  have bare6 : AllBare s6.gens := by rw [hg6]; exact J0.bare
  have J6 : Inv (gcx X (A.in1.in1.deeper cenv) s2 H2 cenv fp [(a, go)]) [] (wipe σ (own.map (·.2))) H3 (s6.setGen gn .running) :=
    J0.call' (ch := []) hos6 (Un.kept hk6) (J0.hok.kept hk6) (allBare_setGen bare6 rfl) fun b hb => by cases hb
  have hSn : H3 S = none := J0.hok.fresh hS
  have young : S ≠ cenv.locals ∧ s2.heap.objs.size ≤ S ∧ (∀ x c, cenv.cells.lookup x = some c → c ≠ S) ∧ S ∉ frs X.stack := by
    refine ⟨Nat.ne_of_gt (Nat.lt_of_lt_of_le J0.lt hS), Nat.le_trans B.sz (Nat.le_trans (Nat.le_of_lt B.lt) hS), fun x c e z => ?_, fun hm => ?_⟩
    · obtain ⟨v, q⟩ := J0.cell x c e
      exact absurd (Nat.lt_of_lt_of_le q.lt (by rw [z]; exact hS)) (Nat.lt_irrefl _)
    · obtain ⟨_, o, ho, _⟩ := B.I5.stack.mem hm
      exact absurd (Nat.lt_of_lt_of_le (Heap.lt_size ho) hS) (Nat.lt_irrefl _)
  have hApart : Apart (gcx X (A.in1.in1.deeper cenv) s2 H2 cenv fp [(a, go)]) S := ⟨young.2.1, young.1, young.2.2.1⟩
  have hpnS : ∀ p ∈ [(a, go)], p.1 ≠ S := fun p hp => by rw [List.mem_singleton.mp hp]; exact Ne.symm hSa
  have fpS : ∀ b ∈ fp, S ≠ b := fun b hb => by
    obtain ⟨o, e, _⟩ := B.T.obj _ _ B.t5 b hb
    exact Nat.ne_of_gt (Nat.lt_of_lt_of_le (Heap.lt_size e) hS)
  have JT6 : JT (gcx X (A.in1.in1.deeper cenv) s2 H2 cenv fp [(a, go)]) S [] (wipe σ (own.map (·.2))) H3 (s6.setGen gn .running) := by
    refine ⟨#[], cS, .nil, J6.pins_of fun p hp => ?_⟩
    rw [List.mem_singleton.mp hp]
    exact ⟨hS6, hSn, young.1, young.2.2.2, fun v q => by cases q⟩
  have sg := seg_gx (A := A.in1.in1.deeper cenv) (s0 := s2) (H0 := H2) (pn := [(a, go)]) (elt := elt) (scope := scope) (pos := pos) (iter := iter) (L := sizeLine) over_gx B.T (by subst hcenv; exact S0.co) (fun p hp b hb => by rw [List.mem_singleton.mp hp]; exact B.apn b hb) (by subst hcenv; exact hg _ _ _ _ _ _ _ rm) (by subst hcenv; exact he _ _ _ _ _ _ _ rm)
    (cons_tup hpnS hApart fpS) turn sizeLine m0 0 [] (s6.setGen gn .running) (s6.setGen gn .running) H3 hm0 rfl JT6 (B.T.keep _ _ _ B.t5 fun b hb o e => hk6 b o e) B.f5 w0
  have st := seg_gstart (P := X.prog) (w := X.w) (s := s6.setGen gn .running) (fun A Q E hq => B.T.self A 0 _ Q E (B.T.keep _ _ _ B.t5 fun b hb o e => hk6 b o e) hq) sg
  have st2 := seg_imp (R' := REnd X.prog X.w X.stack H2 s2 fp S a gn Qd E0) (Y' := YItem s2 S a gn) (fun n s₀ r s1 hR => ?_) (fun n s₀ v s1 kap kap' hkk hY => ?_) sizeLine st
  · refine codeAny_mono (drain (P := X.prog) (w := X.w) (outer := X.stack) (H := H2) (sc := s2) (ex := fp) (Q := Qd) (EX := E0) (A := A) (g := gn) (R := R) hh hdp hSa hSc (fun s' acc c H' ys q1 q2 q3 q4 q5 q6 q7 q8 q9 => ?_) (fun e s' hc => ?_) sizeLine s6 (B.gen _ (hk6 _ _ B.got)) (B.nolim.keeps hk6) ⟨GenState.fresh _, by rw [hg6]; exact Bf, rfl, st2⟩) fun r s' q => q
    · refine hend s' acc c H' ys q1 q2 q3 ?_ q8 q9
      exact B.I2.call' (ch := fp) q4 q6 q7 q5 fun b hb => ⟨(B.fok b hb).1.2.2.2.1, (B.fok b hb).1.2.1, (B.fok b hb).1.2.2.2.2.1, (B.fok b hb).1.2.2.2.2.2⟩
    · obtain ⟨_, _, _, _, _, _, _, _, _, _, _, _, hw⟩ := hc
      exact hw.elim
  · obtain ⟨rfl, ys, σ', H', hn, ⟨acc, c, ra, I⟩, q⟩ := hR
    have pS := I.pin (S, lstObj acc c) (List.mem_append_right _ (List.mem_singleton.mpr rfl))
    exact .inl ⟨.inr rfl, H', ys, acc, c, I.os, I.bare, I.base, I.hok, pS.2.1, pS.1, ra, by omega, q⟩
  · obtain ⟨ys, y, σ', H', hn, ry, ⟨acc, c, ra, I⟩, hc⟩ := hY
    have pS := I.pin (S, lstObj acc c) (List.mem_append_right _ (List.mem_singleton.mpr rfl))
    have pa := I.pin (a, go) (List.mem_append_left _ (List.mem_singleton.mpr rfl))
    rcases hc with hc | ⟨_, hc⟩
    · exact hc.elim
    · have e1 := ra.length
      have e2 : acc.toList.length = acc.size := by simp
      exact ⟨I.os, I.bare, I.nolimit, B.gen _ pa.1, ⟨acc, c, pS.1, by omega⟩, fun s' z => hkk _ _ (hc s' z)⟩
end
end GX

namespace GX
open PySem PySem.Spec PyProof.Rows L2 GenW GxR
open AutoSeq1 (wpAny_loadPart')
section
variable {X : Cx} {pins : List (Addr × Obj)} {σ : L2.St}
/-- the consumer's way to the draining -/
theorem collect_gx {A : Around} {s : Shared} {a : Addr} {gn : Nat} {P : Program} {w : World} {E : Value → Shared → Prop} {Q : List Value → Shared → Prop} (hg : s.heap.IsGen a gn)
    (hd : ∀ s6 : Shared, (∀ b o, s.heap.get? b = some o → s6.heap.get? b = some o) → (∃ c, s6.heap.get? s.heap.objs.size = some (lstObj #[] c)) → s6.os = s.os → s6.gens = s.gens →
      codeAny (model P w) A (.builtin "list.extend.loop" ⟨[.ref s.heap.objs.size, .ref a, .ref s.heap.objs.size], []⟩) (fun r s' => r = .ok (.ret (.ref s.heap.objs.size)) ∧ ∃ acc c, s'.heap.get? s.heap.objs.size = some (lstObj acc c) ∧ Q acc.toList s') s6) :
    wpAny (model P w) A (collect (.ref a)) Q E s := by
  have hSI : s.heap.objs.size ≠ a := fun e => by
    obtain ⟨o, _, _, ho, _⟩ := hg
    have := Heap.lt_size ho
    rw [e] at this
    exact Nat.lt_irrefl _ this
  unfold collect
  refine wpAny_bind (wpAny_runValue (codeAny_builtin F.entry_proto_collect ?_))
  rw [Around.under_plainId F.plain_proto_collect _]
  show wpAny _ A.in1 (newList [] >>= fun l => again (.builtin "list.__iadd__" ⟨[l, .ref a], []⟩)) _ _ s
  refine wpAny_bind (wpAny_newObj_type ?_)
  refine wpAny_pure ⟨plainId_quiet F.plain_list_iadd _, codeAny_builtin F.entry_list_iadd ?_⟩
  rw [Around.under_plainId F.plain_list_iadd _]
  have up : ∀ (h : Heap) (f : Obj → Obj), (∀ b o, s.heap.get? b = some o → h.get? b = some o) → ∀ b o, s.heap.get? b = some o → (h.update s.heap.objs.size f).get? b = some o := fun h f q b o e =>
    (Heap.get?_update_other _ _ (Ne.symm (Nat.ne_of_lt (Heap.lt_size e)))).trans (q b o e)
  have k1 : ∀ b o, s.heap.get? b = some o → (s.heap.push { cls := .type "list", data := .seq ([] : List Value).toArray }).get? b = some o := fun b o e => Heap.get?_push_of_some _ e
  have gty : ∀ {h : Heap}, (∀ b o, s.heap.get? b = some o → h.get? b = some o) → h.IsGen a gn := fun {h} q => hg.keeps q
  show wpAny _ A.in1 (Builtin.List.listExtendWith (.ref s.heap.objs.size) (.ref a) (.ref s.heap.objs.size)) _ _ _
  unfold Builtin.List.listExtendWith
  refine wpAny_bind (wpAny_typeOf (Heap.IsGen.typeIs (s := { s with heap := _ }) (gty k1)) ?_)
  have h1 : Builtin.List.listSameRef (.ref s.heap.objs.size) (.ref a) = false := by simp [Builtin.List.listSameRef, hSI]
  have h2 : (Value.type "generator" == Value.type "list") = false := by decide
  have h3 : (Value.type "generator" == Value.type "tuple") = false := by decide
  simp only [h1, h2, h3, Bool.or_false, Bool.false_eq_true, if_false]
  refine wpAny_bind (wpAny_pyIter_gen (s := { s with heap := _ }) (gty k1) ?_)
  refine wpAny_bind (wpAny_holding ?_)
  unfold Builtin.List.listLengthHint
  refine wpAny_bind (wpAny_specialOf (Heap.IsGen.typeIs (s := { s with heap := _ }) (gty k1)) F.gen_no_len ?_)
  show wpAny _ A.in1 (specialOf (Value.ref a) (Str.ofString "__length_hint__") >>= _) _ _ _
  refine wpAny_bind (wpAny_specialOf (Heap.IsGen.typeIs (s := { s with heap := _ }) (gty k1)) F.gen_no_hint ?_)
  refine wpAny_pure ?_
  show wpAny _ A.in1 (rule "list.extend.makes-room" >>= fun _ => Builtin.List.listTouch (.ref s.heap.objs.size) >>= fun _ =>
    again (.builtin "list.extend.loop" ⟨[.ref s.heap.objs.size, .ref a, .ref s.heap.objs.size], []⟩)) _ _ _
  refine wpAny_bind (wpAny_rule ?_)
  have hS₁ : (s.heap.push { cls := .type "list", data := .seq ([] : List Value).toArray }).get? s.heap.objs.size = some { cls := .type "list", data := .seq ([] : List Value).toArray } := Heap.get?_push_size _ rfl
  refine wpAny_bind ?_
  show wpAny _ A.in1 (updateSeq s.heap.objs.size (·.push .none) >>= fun _ => updateSeq s.heap.objs.size (·.pop)) _ _ _
  refine wpAny_bind (wpAny_updateSeq hS₁ rfl ?_)
  have hS₂ := Heap.get?_update_self (Obj.mapSeq (·.push Value.none)) hS₁ rfl
  refine wpAny_updateSeq (hz := by seq_fits) hS₂ rfl ?_
  have hS₃ := Heap.get?_update_self (Obj.mapSeq (·.pop)) hS₂ rfl
  refine wpAny_pure ⟨plainId_quiet F.plain_extend_loop _, codeAny_mono (hd { s with heap := ((s.heap.push { cls := .type "list", data := .seq ([] : List Value).toArray }).update s.heap.objs.size (Obj.mapSeq (·.push Value.none))).update s.heap.objs.size (Obj.mapSeq (·.pop)) } (up _ _ (up _ _ k1)) ⟨_, hS₃⟩ rfl rfl) fun r s' q => ?_⟩
  obtain ⟨rfl, acc, c, hS, q⟩ := q
  show wpAny _ A (load s.heap.objs.size >>= _) _ _ s'
  refine wpAny_bind (wpAny_load hS ?_)
  exact wpAny_pure q

theorem pe_tupG {k : Nat} {c P : Addr} {elt tg iter : Expr} {scope : Scope} {own : List (Str × Nat)} {wi : TI} {g : TG} {te : TE} {p pos gpos : Pos}
    (hr : Room (k + 1) X.A) (hgl : Gl X "tuple") (hm : X.mg "tuple" = none) (hb : bootBuiltins "tuple" = some (.type "tuple")) (TB : TabB X.base X.mg c P) (hcode : X.env.code = .ref c) (S : GSc scope) (ok : BlkOk X.N X.env.scope scope own) (hN : X.N.Nodup) (hi : PI X tg iter wi)
    (hg : ∀ (A : Around) (s : Shared) (H : Hp) (C : Addr) (code : Value) (fp : List Addr) (pn : List (Addr × Obj)), Room k A → PG (gcx X A s H (genEnv scope (cloFrom X.env.cells scope.names []) C code builtinsNs X.env) fp pn) tg g)
    (he : ∀ (A : Around) (s : Shared) (H : Hp) (C : Addr) (code : Value) (fp : List Addr) (pn : List (Addr × Obj)), Room k A → PE (gcx X A s H (genEnv scope (cloFrom X.env.cells scope.names []) C code builtinsNs X.env) fp pn) elt te)
    (hs : ∀ v, genFold iter X.env v = pure v)
    (hst : starEach [.GeneratorExp elt [⟨tg, iter, [], 0⟩] scope gpos] X.env = (false, eval (.GeneratorExp elt [⟨tg, iter, [], 0⟩] scope gpos) X.env) :: starEach [] X.env := by rfl) :
    PE X (.Call (.Name "tuple" p) [.GeneratorExp elt [⟨tg, iter, [], 0⟩] scope gpos] [] pos) (tTupG P wi g te (own.map fun x : Str × Nat => x.2)) := by
  refine ⟨fun pins s σ H Q I h => ?_⟩
  refine wpAny_Call_Name_kw (ld_blt I hgl hm hb ?_)
  refine PyProof.Rows.callWith_type1 ?_ hst (by rfl)
  rw [hst]
  show wpAny _ _ (spliced ((false, eval (.GeneratorExp elt [⟨tg, iter, [], 0⟩] scope gpos) X.env) :: backTo pos (starEach [] X.env))) _ _ s
  refine Calls.spliced_cons (gx_make (R := fun J H1 => ∀ H2, Tabbed P H1 H2 → ∃ W : Nat → Nat → List V → Hp → Prop, (∃ m, m < sizeLine ∧ W 0 m [] H2) ∧
    GTurn J g te (wipe σ (own.map fun x : Str × Nat => x.2)) (own.map fun x : Str × Nat => x.2) (fun _ _ _ => False) (fun _ => True) (fun ys H => ∀ p, H p = none → Q (.ref p) (upd H p (.tup ys))) W) hr TB hcode S ok hN hi hs I h
    fun Ji H2 H3 it a gn fp tn C code go s2 s5 hR B => ?_)
  obtain ⟨W, ⟨m0, hm0, w0⟩, turn⟩ := hR H3 B.tabbed
  refine Calls.spliced_nil ?_
  have hh : X.A.handled = none := hr.hd
  have hdp : X.A.depth < recursionLimit := hr.depth
  refine callType_codes (Q₁ := fun obj s₁ => s₁.TypeIs obj "tuple" ∧ EP X pins σ Q obj s₁) F.called_tuple (F.typeCall_tuple_1 _) F.entry_object_init
    ?_ fun obj s₁ h₁ => ⟨h₁.1, F.args_object_init_2 obj _, object_init_meets F.called_tuple.init.lookup F.called_tuple.made (by decide) X.prog X.w X.A.in1 _ s₁ ⟨h₁.1, rfl, h₁.2⟩⟩
  refine codeAny_of_tree ?_
  have gis := B.gen _ B.got
  have frs0 : X.A.in1.in1.frames = some X.stack := B.I2.ok.frames
  show wpAny _ X.A.in1.in1 (do checkBuiltinCall "tuple.__new__" ⟨[.type "tuple", .ref a], []⟩; again (.builtin "tuple.__new__" ⟨[.type "tuple", .ref a], []⟩)) _ _ s5
  refine wpAny_bind (wpAny_of_eq (F.newCall_tuple_1 _) (wpAny_pure ⟨plainId_quiet F.plain_tuple_new _, codeAny_builtin F.entry_tuple_new ?_⟩))
  rw [Around.under_plainId F.plain_tuple_new _]
  have hsub := sub_tuple_self
  have hinit := init_tuple_lookup
  have hmh := madeHere_tuple
  have hTI : s5.TypeIs (.ref a) "generator" := Heap.IsGen.typeIs gis
  wp_walk using wpAny_typeOf hTI, collect_gx gis
  intro s6 hk6 hS6 hos6 hg6
  obtain ⟨cS, hS6⟩ := hS6
  refine gx_drain (k := k) (A := X.A.in1.in1) B S frs0 (room_in1 hr 4 (by decide) _ rfl rfl rfl) hdp hg he turn w0 hm0 (Nat.le_refl _) hk6 hS6 hos6 hg6 fun s' acc c H' ys q1 q2 q3 q4 q5 q6 => ⟨rfl, acc, c, q1, ?_⟩
  show wpAny _ _ (Builtin.Tuple.tupleExact acc.toList.toArray >>= fun v => ret v) _ _ _
  unfold Builtin.Tuple.tupleExact
  have hl := q2.length
  refine wpAny_bind (wpAny_newObj_type ?_ (by show acc.toList.toArray.size ≤ sizeLine; simp only [Array.toArray_toList]; rw [← Array.length_toList]; omega))
  refine wpAny_pure ?_
  refine ⟨⟨_, Heap.get?_push_size _ rfl, rfl⟩, ?_⟩
  have hfr : H' s'.heap.objs.size = none := q4.hok.fresh (Nat.le_refl _)
  refine ⟨.ref s'.heap.objs.size, upd H' s'.heap.objs.size (.tup ys), ?_, rfl, q6 _ hfr⟩
  refine q4.laid (t' := s'.toks) (fun b o e => Heap.get?_push_of_some _ e) (Nat.le_refl _) ⟨q3, acc.toList, q2, _, Heap.get?_push_size _ rfl, rfl, _, rfl⟩
end
end GX

/-! further rules: sum, min, sorted of a tuple of ints; t[::-1]; zip of a list and a tuple in any mix -/
namespace GX
open PySem PySem.Spec PyProof.Rows L2
section
variable {X : Cx}
def rSumT (K : PySem.W.Frag) : List V → Hp → VK → Prop := fun vs H Q => ∃ (a : Addr) (ns : List Int), vs = [V.ref a] ∧ SqT K H a (ns.map V.int) ∧ Q (.int ns.sum) H
theorem cr_sumT (hc : X.calm = true) : CallR X (.builtin "sum") (rSumT X.K) := by
  intro pins s σ H vs us Q I r h
  obtain ⟨a, ns, rfl, hs, q⟩ := h
  obtain ⟨its, rv, hl, _⟩ := I.tuple hs
  rw [Vals.ref1 r]
  have hi := rv.ints
  obtain ⟨xs, e⟩ := hi.allInts.items
  have hn : numsOf (intItems xs).toList = ns := by rw [← e]; exact hi.numsOf
  rw [nums_intItems] at hn
  have hl2 : s.heap.IsTuple a (intItems xs) := by rw [← e]; exact hl
  refine PySem.W.ktm_sumG (I.ok.hd hc) hl2 fun h' tk t' hk => ?_
  refine ⟨.int ns.sum, H, I.kept hk, ⟨t', ?_⟩, q⟩
  rw [preSum_eq, List.take_of_length_le (by simp), hn]
def rMinT (K : PySem.W.Frag) : List V → Hp → VK → Prop := fun vs H Q => ∃ (a : Addr) (ns : List Int), vs = [V.ref a] ∧ SqT K H a (ns.map V.int) ∧ 0 < ns.length ∧ ∀ m, m ∈ ns → (∀ y, y ∈ ns → m ≤ y) → Q (.int m) H
theorem cr_minT (hc : X.calm = true) : CallR X (.builtin "min") (rMinT X.K) := by
  intro pins s σ H vs us Q I r h
  obtain ⟨a, ns, rfl, hs, hne, q⟩ := h
  obtain ⟨its, rv, hl, _⟩ := I.tuple hs
  rw [Vals.ref1 r]
  have hi := rv.ints
  obtain ⟨xs, e⟩ := hi.allInts.items
  have hn : numsOf (intItems xs).toList = ns := by rw [← e]; exact hi.numsOf
  rw [nums_intItems] at hn
  have hl2 : s.heap.IsTuple a (intItems xs) := by rw [← e]; exact hl
  have hsz : 0 < xs.size := by
    rw [← hn] at hne
    simpa using hne
  obtain ⟨o, ho, _, _, _⟩ := id hl2
  have hne : a ≠ s.heap.objs.size := Nat.ne_of_lt (Heap.lt_size ho)
  have hsz2 : (intItems xs).size = xs.size := by simp [intItems]
  have W := Walks.tuple (prog := X.prog) (w := X.w) (A := X.A.in1) (I.ok.hd hc) s.heap.objs.size a hne (intItems xs)
  rw [hsz2] at W
  refine call_min_walk (wpAny_pyIter_tuple hl2 ?_)
  refine ⟨s.heap.objs.size, _, _, _, _, _, _, rfl, W, ⟨⟨_, Heap.get?_push_size _ rfl, rfl, rfl⟩, hl2.at fun o e => Heap.get?_push_of_some _ e⟩, fun b hb => ?_, hsz, CmpOf.ints_lt (numAt xs) (fun _ _ => intItems_at), fun v h' tk hP hk => ?_⟩
  · rcases List.mem_cons.mp hb with rfl | hb
    · exact Heap.lt_size (Heap.get?_push_size _ rfl)
    · obtain rfl := List.mem_singleton.mp hb
      exact Heap.lt_size (Heap.get?_push_of_some _ ho)
  · obtain ⟨t, rfl⟩ := intItems_at (show (intItems xs)[argBest (fun i j => decide (numAt xs i < numAt xs j)) (xs.size - 1)]? = some v from hP)
    obtain ⟨h1, h2⟩ := argBest_lt (numAt xs) (xs.size - 1)
    have hk' : ∀ b o, s.heap.get? b = some o → h'.get? b = some o := fun b o e => hk b o (fun hb => absurd (Heap.lt_size e) ((List.mem_singleton.mp hb) ▸ Nat.lt_irrefl _)) (Heap.get?_push_of_some _ e)
    refine ⟨.int _, H, I.kept (t' := tk) hk', ⟨t, rfl⟩, q _ ?_ fun y hy => ?_⟩
    · rw [← hn, numAt_eq]; exact PySem.getD_mem (by rw [List.length_map, Array.length_toList]; omega)
    · rw [← hn] at hy
      obtain ⟨j, hj, rfl⟩ := mem_getD hy
      rw [List.length_map, Array.length_toList] at hj
      rw [← numAt_eq]; exact h2 j (by omega)

/-! ### sorted of a tuple of ints -/
theorem collect_tuple {prog : Program} {w : World} {A : Around} {E : Value → Shared → Prop} {s : Shared} {l : Addr} {vs : List Value} {Q : List Value → Shared → Prop} (hl : s.heap.IsTuple l vs.toArray)
    (h : Q vs { s with heap := (s.heap.push (seqObj "list" #[] 0)).update s.heap.objs.size (Obj.mapSeq (· ++ vs.toArray)) }) (hsz : vs.length ≤ sizeLine := by size_fits) :
    wpAny (model prog w) A (collect (.ref l)) Q E s := by
  obtain ⟨o, ho, hc, n, hd⟩ := id hl
  unfold collect
  refine wpAny_bind (wpAny_runValue (codeAny_builtin entry_proto_collect' ?_))
  show wpAny _ _ (do again (.builtin "list.__iadd__" ⟨[← newList [], .ref l], []⟩)) _ _ s
  refine wpAny_bind (wpAny_newList (wpAny_pure ⟨Code.quiet_builtin _ (by decide +kernel), codeAny_builtin entry_list_iadd' ?_⟩))
  show wpAny _ _ (Builtin.List.listExtendWith (.ref s.heap.objs.size) (.ref l) (.ref s.heap.objs.size)) _ _ { s with heap := s.heap.push (seqObj "list" #[] 0) }
  unfold Builtin.List.listExtendWith
  have ho' : (s.heap.push (seqObj "list" #[] 0)).get? l = some o := Heap.get?_push_of_some _ ho
  refine wpAny_bind (wpAny_typeOf (T := "tuple") ⟨o, ho', hc⟩ ?_)
  have ht : (Value.type "tuple" == Value.type "tuple") = true := by rfl
  rw [if_pos (by rw [ht]; simp)]
  refine wpAny_bind (listItems_at ho' hd ?_)
  refine wpAny_bind (listItems_at (xs := #[]) (n := 0) (Heap.get?_push_size _ rfl) rfl ?_)
  rw [if_neg (by simp)]
  refine wpAny_bind (listUpdate_at (xs := #[]) (n := 0) (Heap.get?_push_size _ rfl) rfl ?_ (Nat.zero_le _) (by show (#[] ++ vs.toArray).size ≤ sizeLine + 1; simp only [Array.size_append, List.size_toArray, List.length_nil]; omega))
  refine wpAny_pure ?_
  show wpAny (model prog w) A (do
      let o ← load s.heap.objs.size
      match o.data with
      | .seq xs _ => pure xs.toList
      | _ => unsupported "internal:collect") Q E { s with heap := (s.heap.push (seqObj "list" #[] 0)).update s.heap.objs.size (Obj.mapSeq (· ++ vs.toArray)) }
  refine wpAny_bind (wpAny_load (get?_update_seq (Heap.get?_push_size _ rfl) _) ?_)
  show wpAny _ _ (pure ((#[] : Array Value) ++ vs.toArray).toList) Q E _
  have e : ((#[] : Array Value) ++ vs.toArray).toList = vs := by simp
  rw [e]
  exact wpAny_pure h
def rSortedT (K : PySem.W.Frag) : List V → Hp → VK → Prop := fun vs H Q => ∃ (a : Addr) (ns : List Int), vs = [V.ref a] ∧ SqT K H a (ns.map V.int) ∧ ns.length < 64 ∧
  ∀ (ns' : List Int) (p : Addr), ns'.Perm ns → ns'.Pairwise (· ≤ ·) → H p = none → Q (.ref p) (upd H p (.lst (ns'.map V.int)))
theorem cr_sortedT : CallR X (.builtin "sorted") (rSortedT X.K) := by
  intro pins s σ H vs us Q I r h
  obtain ⟨a, ns, rfl, hs, h64, q⟩ := h
  obtain ⟨its, rv, hl, _⟩ := I.tuple hs
  rw [Vals.ref1 r]
  have hi := rv.ints
  have h64' : its.length < 64 := by rw [hi.length]; exact h64
  refine Calls.call_function_entry kind_sorted plain_sorted entry_sorted (args_sorted1 _) ?_
  unfold Builtin.«sorted»
  refine wpAny_bind (m := checkCount "sorted" 1 1 _) (wpAny_pure ?_)
  refine wpAny_bind (collect_tuple hl ?_ (Nat.le_trans (Nat.le_of_lt h64') (by decide)))
  refine wpAny_bind (wpAny_newList ?_ (Nat.le_trans (Nat.le_of_lt h64') (by decide)))
  have hsz : ((s.heap.push (seqObj "list" #[] 0)).update s.heap.objs.size (Obj.mapSeq (· ++ its.toArray))).objs.size = s.heap.objs.size + 1 := by
    rw [Heap.size_update, size_push']
  have hoL : (((s.heap.push (seqObj "list" #[] 0)).update s.heap.objs.size (Obj.mapSeq (· ++ its.toArray))).push (seqObj "list" its.toArray 0)).get? (s.heap.objs.size + 1) = some (seqObj "list" its.toArray 0) := by
    rw [← hsz]; exact Heap.get?_push_size _ rfl
  show wpAny _ _ _ _ _ { s with heap := ((s.heap.push (seqObj "list" #[] 0)).update s.heap.objs.size (Obj.mapSeq (· ++ its.toArray))).push (seqObj "list" its.toArray 0) }
  rw [hsz]
  refine wpAny_bind (wpAny_holding (wpAny_call_entry slot_list_sort ⟨_, hoL, rfl⟩ entry_list_sort (list_sort_tree hoL hi h64' fun out ns' h1 h2 h3 => ⟨_, rfl, ?_⟩) (args_list_sort _)))
  refine wpAny_pure ⟨_, rfl, ?_⟩
  obtain ⟨ep, he'⟩ := PyProof.Rows.sortedAll_at s.heap its out
  have hlen : (ns'.map V.int).length ≤ sizeLine := by rw [List.length_map, h2.length_eq]; exact small64 h64
  exact ⟨.ref _, upd H (s.heap.objs.size + 1) (.lst (ns'.map V.int)), I.laid (t' := s.toks) (fun _ _ => PyProof.Rows.sortedAll_old) (Nat.le_succ _) ⟨hlen, out.toList, ep, vals_of_ints h1, he'⟩, rfl, q ns' _ h2 h3 (I.hok.fresh (Nat.le_succ _))⟩
end
end GX

namespace GX
open PySem PySem.Spec PyProof.Rows L2 HT
section
variable {prog : Program} {w : World} {A : Around} {E : Value → Shared → Prop} {s : Shared}
theorem places_rev (n : Nat) : Builtin.Slice.slicePlaces ((n : Int) - 1) (-1) (-1) = n := by
  unfold Builtin.Slice.slicePlaces
  have h1 : ¬ ((-1 : Int) > 0) := by decide
  rw [if_neg h1]
  by_cases h : (n : Int) - 1 > -1
  · rw [if_pos h]
    have e : ((n : Int) - 1 - -1 - 1) / (- -1) + 1 = (n : Int) := by
      rw [show (- -1 : Int) = 1 by decide, Int.ediv_one]
      omega
    rw [e]
    simp
  · rw [if_neg h]
    omega
theorem pick_rev (xs : Array Value) : ((List.range xs.size).filterMap fun (m : Nat) => xs[(((xs.size : Int) - 1) + (m : Int) * (-1)).toNat]?).toArray = xs.toList.reverse.toArray := by
  have e : (List.range xs.size).filterMap (fun (m : Nat) => xs[(((xs.size : Int) - 1) + (m : Int) * (-1)).toNat]?) = ((List.range xs.size).map (fun k => xs.size - 1 - k)).filterMap (xs[·]?) := by
    rw [List.filterMap_map]
    have : (fun (m : Nat) => xs[(((xs.size : Int) - 1) + (m : Int) * (-1)).toNat]?) = ((xs[·]?) ∘ fun k => xs.size - 1 - k) := by
      funext k
      have h2 : (((xs.size : Int) - 1) + (k : Int) * (-1)).toNat = xs.size - 1 - k := by omega
      show xs[_]? = xs[xs.size - 1 - k]?
      rw [h2]
    rw [this]
  rw [e, PySem.W.krv_range, List.filterMap_reverse, PySem.W.krv_all]
theorem getItem_tuple_rev {t sl : Addr} {items : Array Value} {vs : Value} {Q : Value → Shared → Prop} (ht : IsTup s.heap t items) (hs : s.heap.IsSliceOf sl .none .none vs) (ps : IsPart vs (some (-1)))
    (h : Q (.ref s.heap.objs.size) { s with heap := s.heap.push { cls := .type "tuple", data := .seq items.toList.reverse.toArray } })
    (hsz : items.size ≤ sizeLine) : wpAny (model prog w) A (getItem (.ref t) (.ref sl)) Q E s := by
  have htake : sizeOk (.seq items.toList.reverse.toArray) := by
    show (items.toList.reverse).toArray.size ≤ sizeLine
    rw [List.size_toArray, List.length_reverse, Array.length_toList]
    exact hsz
  obtain ⟨os, hos, hcs, hds⟩ := id hs
  have hTs : s.TypeIs (.ref sl) "slice" := ⟨os, hos, hcs⟩
  unfold getItem
  try with_reducible refine wpAny_holding ?_
  first | refine wpAny_bind (wpAny_pure ?_) | skip
  refine wpAny_bind (wpAny_sequenceKey ht.typeIs (by decide) ?_)
  refine wpAny_bind (wpAny_callSpecial?_slot (name := Str.ofString "__getitem__") ht.typeIs PyProof.Rows.slot_tuple_getitem
    (wpAny_call_entry PyProof.Rows.slot_tuple_getitem ht.typeIs entry_tuple_getitem ?_ (args_tuple_getitem _ _)))
  show wpAny _ _ (Builtin.Tuple.tupleItemsOf (.ref t) >>= _) _ _ s
  refine wpAny_bind (tupleItemsOf_ ht ?_)
  refine wpAny_bind (wpAny_typeOf hTs ?_)
  rw [if_pos (by decide)]
  refine wpAny_bind (m := Builtin.Slice.sliceApplied (.ref sl) (pure (items.size : Int))) ?_
  unfold Builtin.Slice.sliceApplied Builtin.Slice.sliceFields
  refine wpAny_bind (wpAny_bind (wpAny_field hos hds (x := .none) rfl (wpAny_bind (wpAny_field hos hds (x := .none) rfl (wpAny_bind (wpAny_field hos hds (x := vs) rfl (wpAny_pure ?_)))))))
  refine wpAny_bind (slicePart_ ps ?_)
  show wpAny _ _ (if ((-1 : Int) == 0) = true then _ else _) _ _ s
  rw [if_neg (by decide)]
  refine wpAny_bind (slicePart_none (wpAny_bind (slicePart_none (wpAny_bind (wpAny_pure ?_)))))
  show wpAny _ _ (pure (((items.size : Int) - 1), (-1 : Int), Builtin.Slice.slicePlaces ((items.size : Int) - 1) (-1) (-1))) _ _ s
  rw [places_rev]
  refine wpAny_pure ?_
  have hno : ¬ ((((items.size : Int) - 1) == 0 && (-1 : Int) == 1 && items.size == items.size) = true) := by
    intro q
    rw [Bool.and_eq_true, Bool.and_eq_true] at q
    exact absurd q.1.2 (by decide)
  show wpAny _ _ (if (((items.size : Int) - 1) == 0 && (-1 : Int) == 1 && items.size == items.size) = true then _ else _) _ _ s
  rw [if_neg hno, pick_rev]
  first
    | exact wpAny_bind (m := Builtin.Tuple.tupleExact _) (wpAny_newObj_type (wpAny_pure ⟨_, rfl, wpAny_pure h⟩) htake)
    | exact wpAny_bind (m := Builtin.Tuple.tupleExact _) (wpAny_newObj_type (wpAny_bind (wpAny_pure (wpAny_pure ⟨_, rfl, wpAny_pure h⟩))) htake)
    | exact wpAny_bind (wpAny_bind (m := Builtin.Tuple.tupleExact _) (wpAny_newObj_type (wpAny_pure (wpAny_pure ⟨_, rfl, wpAny_pure h⟩)) htake))
    | exact wpAny_bind (wpAny_bind (m := Builtin.Tuple.tupleExact _) (wpAny_newObj_type (wpAny_pure ⟨_, rfl, wpAny_pure h⟩) htake))
end
section
variable {X : Cx}
def tRevT (K : PySem.W.Frag) (te : TE) : TE := fun σ H Q => te σ H fun x H1 => ∃ a xs, x = .ref a ∧ SqT K H1 a xs ∧ ∀ p, H1 p = none → Q (.ref p) (upd H1 p (.tup xs.reverse))
theorem pe_revT {e : Expr} {te : TE} {k : Nat} {p1 p2 p3 pos : Pos} (he : PE X e te) : PE X (.Subscript e (.Slice none none (some (.UnaryOp .USub (.Constant (.int 1) k p1) p2)) p3) pos) (tRevT X.K te) := by
  refine ⟨fun pins s σ H Q I h => ?_⟩
  refine Subscript_ (thn (he.run pins s σ H _ I h) fun v s1 ⟨x, H1, I1, r1, q1⟩ => ?_)
  obtain ⟨a, xs, ex, hx, q⟩ := q1
  subst ex
  cases r1
  have hst : PO X (some (.UnaryOp .USub (.Constant (.int 1) k p1) p2)) (tPart (tUn (rU fun i => .int (-i)) (tC (.int 1)))) := po_some (pe_un un_neg pe_int)
  refine wpAny_Slice ?_
  rw [evalPart_none]
  refine wpAny_pure ?_
  refine wpAny_pure ?_
  refine thn (hst.run pins s1 σ H1 (fun o H4 => o = some (-1) ∧ H4 = H1) I1 ⟨1, rfl, -1, rfl, rfl, rfl⟩) fun vs s4 ⟨o, H4, I4, ps, eo, e4⟩ => ?_
  subst eo e4
  have I5 : Inv X pins σ H4 { s4 with heap := s4.heap.push { cls := .type "slice", data := .fields #[.none, .none, vs] } } := I4.kept (t' := s4.toks) fun b ob q => Heap.get?_push_of_some _ q
  obtain ⟨its, r, ht, hz⟩ := I5.tuple hx
  have hlen := r.length
  show wpAny (model X.prog X.w) X.A (subscriptTail e (.Slice none none (some (.UnaryOp .USub (.Constant (.int 1) k p1) p2)) p3) (.ref a) (.ref s4.heap.objs.size)) (EP X pins σ Q) X.xe { s4 with heap := s4.heap.push { cls := .type "slice", data := .fields #[.none, .none, vs] } }
  refine tail_any (ops := [.ref a, .ref s4.heap.objs.size]) ht.typeIs PyProof.Rows.slot_tuple_getitem.lookup ?_ (by with_unfolding_all rfl)
  refine getItem_tuple_rev ht (Heap.IsSliceOf.new _ .none .none vs) ps ?_ (by rw [List.size_toArray]; omega)
  refine ⟨.ref _, _, I5.laid (t' := s4.toks) (o := .tup xs.reverse) (fun b ob q => Heap.get?_push_of_some _ q) (Nat.le_refl _) ?_, rfl, q _ (I5.hok.fresh (Nat.le_refl _))⟩
  exact ⟨by rw [List.length_reverse]; exact hz, _, r.reverse, _, Heap.get?_push_size _ rfl, rfl, _, rfl⟩
end
end GX

namespace GX
open PySem PySem.Spec PyProof.Rows L2
/-- a list (b = true) or a tuple -/
def SqK (b : Bool) (K : PySem.W.Frag) (H : Hp) (a : Addr) (xs : List V) : Prop := match b with
  | true => SqL K H a xs
  | false => SqT K H a xs
def IterK (b : Bool) (h : Heap) (it a : Addr) (i : Nat) : Prop := match b with
  | true => h.IsListIter it a i
  | false => h.IsTupleIter it a i
def SeqK (b : Bool) (h : Heap) (a : Addr) (its : Array Value) : Prop := match b with
  | true => h.IsList a its
  | false => h.IsTuple a its
def iterO (b : Bool) (a : Addr) : Obj := match b with
  | true => { cls := .type "list_iterator", data := .fields #[.ref a, .int 0 0] }
  | false => { cls := .type "tuple_iterator", data := .fields #[.ref a, .int 0 0] }
theorem IterK.at {b : Bool} {h h' : Heap} {it a : Addr} {i : Nat} (x : IterK b h it a i) (k : ∀ o, h.get? it = some o → h'.get? it = some o) : IterK b h' it a i := by
  cases b with
  | true => exact Heap.IsListIter.at x k
  | false => exact Heap.IsTupleIter.at x k
theorem IterK.obj {b : Bool} {h : Heap} {it a : Addr} {i : Nat} (x : IterK b h it a i) : ∃ o, h.get? it = some o ∧ ∀ v, o.data ≠ .cell v := by
  cases b with
  | true => obtain ⟨o, e, _, d⟩ := x; exact ⟨o, e, fun v q => by rw [d] at q; cases q⟩
  | false => obtain ⟨o, e, _, d⟩ := x; exact ⟨o, e, fun v q => by rw [d] at q; cases q⟩
theorem IterK.new {b : Bool} {h : Heap} {it a : Addr} (e : h.get? it = some (iterO b a)) : IterK b h it a 0 := by
  cases b with
  | true => exact ⟨_, e, rfl, rfl⟩
  | false => exact ⟨_, e, rfl, rfl⟩
theorem begK (b : Bool) (a : Addr) (its : Array Value) : Begins (.ref a) (iterO b a) fun h => SeqK b h a its := by
  cases b with
  | true => exact begins_list a its
  | false => exact begins_tuple a its
theorem drawsK {prog : Program} {w : World} {A : Around} (hh : A.handled = none) (b : Bool) (it a : Addr) (hne : a ≠ it) (its : Array Value) :
    Draws prog w A it [it, a] its.size (fun i v => its[i]? = some v) (fun i h => IterK b h it a i ∧ SeqK b h a its) := by
  cases b with
  | true => exact Draws.list hh it a hne its
  | false => exact Draws.tuple hh it a hne its
section
variable {X : Cx} {pins : List (Addr × Obj)} {σ : L2.St} {H : Hp} {s : Shared} {a : Addr} {xs ys : List V} {b : Bool}
theorem inv_seqK (I : Inv X pins σ H s) (h : SqK b X.K H a xs) : ∃ its : List Value, Vals xs its ∧ SeqK b s.heap a its.toArray ∧ a < s.heap.objs.size := by
  cases b with
  | true =>
    obtain ⟨its, r, p, _⟩ := I.list h
    exact ⟨its, r, p.isList, p.lt⟩
  | false =>
    obtain ⟨its, r, p, _⟩ := I.tuple h
    obtain ⟨o, ho, _⟩ := id p
    exact ⟨its, r, p, Heap.lt_size ho⟩
theorem inv_seqK_inj (I : Inv X pins σ H s) (h : SqK b X.K H a xs) (h' : SqK b X.K H a ys) : xs = ys := by
  cases b with
  | true => exact I.list_inj h h'
  | false => exact I.tuple_inj h h'
end
/-- what stands at a and b as it stands at each turn, the items in new pairs -/
def ItzK (K : PySem.W.Frag) (b1 b2 : Bool) (a b : Addr) : It :=
  ⟨fun i H => ∃ (xs ys : List V) (x y : V), SqK b1 K H a xs ∧ SqK b2 K H b ys ∧ xs[i]? = some x ∧ ys[i]? = some y,
    fun i H v H' => ∃ T x y, v = .ref T ∧ H T = none ∧ H' = upd H T (.tup [x, y]) ∧ (∀ xs, SqK b1 K H a xs → xs[i]? = some x) ∧ ∀ ys, SqK b2 K H b ys → ys[i]? = some y,
    fun i H => ∃ xs ys : List V, SqK b1 K H a xs ∧ SqK b2 K H b ys ∧ (xs.length = i ∧ ys.length = i)⟩
/-- the zip's own cells -/
def zipSt (b1 b2 : Bool) (a b z TI TO i1 i2 : Addr) (i : Nat) (h : Heap) : Prop := IsZip h z TI TO .none ∧ IsTupOf2 h TI (.ref i1) (.ref i2) ∧ (∃ x y, IsTupOf2 h TO x y) ∧ IterK b1 h i1 a i ∧ IterK b2 h i2 b i
structure ZApart (z TI TO i1 i2 a b : Addr) : Prop where
  s : ZipSep2 z TI TO i1 i2 [i1, a] [i2, b]
  a1 : a ≠ i1
  b2 : b ≠ i2
theorem turn_zipK {P : Program} {w : World} {K : PySem.W.Frag} {elts : List Expr} {kk : Nat} {tpos : Pos} {b1 b2 : Bool} {a b z TI TO i1 i2 : Addr} (D : ZApart z TI TO i1 i2 a b) :
    Turn P w K (.Tuple elts kk tpos) (ItzK K b1 b2 a b) [z, TI, TO, i1, i2] z (zipSt b1 b2 a b z TI TO i1 i2) where
  mem := by simp
  obj := fun i h st c hc => by
    obtain ⟨hz, hTI, ⟨x, y, hTO⟩, h1, h2⟩ := st
    have e' : c = z ∨ c = TI ∨ c = TO ∨ c = i1 ∨ c = i2 := by simpa using hc
    rcases e' with q | q | q | q | q
    · rw [q]; exact ⟨_, hz, fun v q => nomatch q⟩
    · rw [q]; exact ⟨_, hTI, fun v q => nomatch q⟩
    · rw [q]; exact ⟨_, hTO, fun v q => nomatch q⟩
    · rw [q]; exact h1.obj
    · rw [q]; exact h2.obj
  keep := fun i h h' st k => by
    obtain ⟨hz, hTI, ⟨x, y, hTO⟩, h1, h2⟩ := st
    exact ⟨k z (by simp) _ hz, k TI (by simp) _ hTI, ⟨x, y, k TO (by simp) _ hTO⟩, h1.at fun o q => k i1 (by simp) o q, h2.at fun o q => k i2 (by simp) o q⟩
  item := by
    intro X hP hw hK hc i pins s σ H E I hf st hg
    subst hP hw hK
    obtain ⟨hz, hTI, hTO, h1, h2⟩ := st
    obtain ⟨xs, ys, x, y, hqx, hqy, hx, hy⟩ := hg
    obtain ⟨its, rv, p, _⟩ := inv_seqK I hqx
    obtain ⟨its2, rv2, p2, _⟩ := inv_seqK I hqy
    obtain ⟨u, hu, ru⟩ := rv.get hx
    obtain ⟨u2, hu2, ru2⟩ := rv2.get hy
    have hil : i < its.toArray.size := by
      obtain ⟨h, _⟩ := List.getElem?_eq_some_iff.mp hu
      simpa using h
    have hil2 : i < its2.toArray.size := by
      obtain ⟨h, _⟩ := List.getElem?_eq_some_iff.mp hu2
      simpa using h
    have hh : X.A.handled = none := I.ok.hd hc
    have W := WalksT.zipD2 D.s (drawsK (prog := X.prog) (w := X.w) (A := X.A.in1) hh b1 i1 a D.a1 its.toArray) (drawsK (prog := X.prog) (w := X.w) (A := X.A.in1) hh b2 i2 b D.b2 its2.toArray)
    refine W.item i s _ _ (by omega) ⟨hz, hTI, hTO, ⟨h1, p⟩, ⟨h2, p2⟩⟩ fun T vals h' tk hv hT hTu hM hk => ?_
    obtain ⟨x1, x2, e1, e2, rfl⟩ := hv
    have eu : x1 = u := by
      have q : its.toArray[i]? = some u := by simpa using hu
      exact Option.some.inj (e1.symm.trans q)
    have eu2 : x2 = u2 := by
      have q : its2.toArray[i]? = some u2 := by simpa using hu2
      exact Option.some.inj (e2.symm.trans q)
    subst eu eu2
    refine ⟨_, rfl, W.go _ _ _ i T { s with heap := h', toks := tk } _ _ hM fun h'' st'' hk'' => ?_⟩
    have hap := W.apart _ _ _ hM
    obtain ⟨oT, hoT, hoc, nT, hod⟩ := hTu
    have hT2 : h''.get? T = some oT := hk'' T oT hap hoT
    have new : ObjOk X.prog X.w (upd H T (.tup [x, y])) h'' T (.tup [x, y]) :=
      ⟨by show 2 ≤ sizeLine; decide, [x1, x2], .cons ru (.cons ru2 .nil), ⟨_, hT2, hoc, _, hod⟩⟩
    have fp5 : ∀ c, c ∉ [z, TI, TO, i1, i2] → c ∉ [z, TO, i1, i2] := fun c hc hm => hc (by
      have e : c = z ∨ c = TO ∨ c = i1 ∨ c = i2 := by simpa using hm
      rcases e with e | e | e | e <;> simp [e])
    have I1 : Inv X pins σ (upd H T (.tup [x, y])) { s with heap := h'', toks := tk } :=
      I.turnedNew (t' := tk) (ch := [z, TI, TO, i1, i2]) (fun c o hb q => hk'' c o (fp5 c hb) (hk c o (fp5 c hb) q)) hf hT new
    refine ⟨.ref T, _, I1, rfl, ⟨_, x, y, rfl, I.hok.fresh hT, rfl, fun l hl => by rw [inv_seqK_inj I hl hqx]; exact hx, fun l hl => by rw [inv_seqK_inj I hl hqy]; exact hy⟩, ?_, fun c hcm => ?_⟩
    · obtain ⟨z1, z2, z3, z4, z5⟩ := st''
      exact ⟨z1, z2, z3, z4.1, z5.1⟩
    · have hlt : c < s.heap.objs.size := by
        have e' : c = z ∨ c = TI ∨ c = TO ∨ c = i1 ∨ c = i2 := by simpa using hcm
        rcases e' with q | q | q | q | q
        · rw [q]; exact Heap.lt_size hz
        · rw [q]; exact Heap.lt_size hTI
        · obtain ⟨_, _, hTO⟩ := hTO; rw [q]; exact Heap.lt_size hTO
        · rw [q]; obtain ⟨_, e1, _⟩ := h1.obj; exact Heap.lt_size e1
        · rw [q]; obtain ⟨_, e2, _⟩ := h2.obj; exact Heap.lt_size e2
      rw [upd_ne (Nat.ne_of_lt (Nat.lt_of_lt_of_le hlt hT))]
      exact (hf c hcm).1
  done := by
    intro X hP hw hK hc i pins s σ H E I hf st hg
    subst hP hw hK
    obtain ⟨hz, hTI, ⟨x0, y0, hTO⟩, h1, h2⟩ := st
    obtain ⟨xs, ys, hqx, hqy, hend, hle⟩ := hg
    obtain ⟨its, rv, p, _⟩ := inv_seqK I hqx
    obtain ⟨its2, rv2, p2, _⟩ := inv_seqK I hqy
    have l1 := rv.length
    have l2 := rv2.length
    have hh : X.A.handled = none := I.ok.hd hc
    have W := WalksT.zipD2 D.s (drawsK (prog := X.prog) (w := X.w) (A := X.A.in1) hh b1 i1 a D.a1 its.toArray) (drawsK (prog := X.prog) (w := X.w) (A := X.A.in1) hh b2 i2 b D.b2 its2.toArray)
    have e : min its.toArray.size its2.toArray.size = i := by simp; omega
    rw [e] at W
    refine W.done s _ _ ⟨hz, hTI, ⟨x0, y0, hTO⟩, ⟨h1, p⟩, ⟨h2, p2⟩⟩ fun h' tk hk => ⟨rfl, I.turnedL (t' := tk) (ch := [z, TI, TO, i1, i2]) (fun c o hb q => hk c o (fun hm => hb (by
      have e : c = z ∨ c = TO ∨ c = i1 ∨ c = i2 := by simpa using hm
      rcases e with e | e | e | e <;> simp [e])) q) hf⟩
  self := fun A i s Q E st h => wpAny_pyIter_zip st.1 h

def iZipK (K : PySem.W.Frag) (b1 b2 : Bool) (ta : TA) : TI := fun σ H R => ta σ H fun vs H1 => ∃ a b xs ys, vs = [.ref a, .ref b] ∧ SqK b1 K H1 a xs ∧ SqK b2 K H1 b ys ∧ R (ItzK K b1 b2 a b) H1
theorem zapart {N a b : Addr} (ha : a < N) (hb : b < N) : ZApart (N + 4) (N + 2) (N + 3) N (N + 1) a b where
  s := zip_sep2 (N := N) (fp1 := [a]) (fp2 := [b]) (fun c hc => by rw [List.mem_singleton.mp hc]; exact ha) (fun c hc => by rw [List.mem_singleton.mp hc]; exact hb)
  a1 := Nat.ne_of_lt ha
  b2 := Nat.ne_of_lt (Nat.lt_succ_of_lt hb)
theorem pi_zipK {X : Cx} (b1 b2 : Bool) {e e2 : Expr} {ta : TA} {p pos tpos : Pos} {elts : List Expr} {kk : Nat} (hg : Gl X "zip") (hm : X.mg "zip" = none) (ha : PA X [e, e2] ta)
    (hs : starEach [e, e2] X.env = (false, eval e X.env) :: starEach [e2] X.env := by rfl) (hpl : (backTo pos (starEach [e2] X.env)).any (·.1) = false := by rfl) :
    PI X (.Tuple elts kk tpos) (.Call (.Name "zip" p) [e, e2] [] pos) (iZipK X.K b1 b2 ta) := by
  refine ⟨fun pins s σ H R I h => ?_⟩
  refine Call_ (ld_blt I hg hm PyProof.Rows.boot_zip (PyProof.Rows.callWith_type1 (thn (ha.run pos pins s σ H _ I h) fun us s1 ⟨vs, H1, I1, r1, q1⟩ => ?_) hs hpl))
  obtain ⟨a, b, xs, ys, ex, hqx, hqy, q⟩ := q1
  subst ex
  cases r1 with
  | cons r rr =>
    cases rr with
    | cons r' rr =>
      cases rr
      cases r
      cases r'
      have fresh5 : ∀ c, c ∈ [s1.heap.objs.size + 4, s1.heap.objs.size + 2, s1.heap.objs.size + 3, s1.heap.objs.size, s1.heap.objs.size + 1] → FpOk X pins H1 c := fun c hcm => by
        have e' : c = s1.heap.objs.size + 4 ∨ c = s1.heap.objs.size + 2 ∨ c = s1.heap.objs.size + 3 ∨ c = s1.heap.objs.size ∨ c = s1.heap.objs.size + 1 := by simpa using hcm
        have hle : s1.heap.objs.size ≤ c := by
          rcases e' with z | z | z | z | z
          · rw [z]; exact Nat.le_add_right _ _
          · rw [z]; exact Nat.le_add_right _ _
          · rw [z]; exact Nat.le_add_right _ _
          · rw [z]; exact Nat.le_refl _
          · rw [z]; exact Nat.le_add_right _ _
        exact I1.fpOk hle (I1.hok.fresh hle)
      obtain ⟨its, rv, p1, l1⟩ := inv_seqK I1 hqx
      obtain ⟨its2, rv2, p2, l2⟩ := inv_seqK I1 hqy
      refine zip_begins2 (begK b1 a its.toArray) (begK b2 b its2.toArray) p1 p2 fun h' hz hTI hTO h1 h2 hsz hk => wpAny_pyIter_zip hz ?_
      have I2 : Inv X pins σ H1 { s1 with heap := h' } := I1.kept (t' := s1.toks) hk
      exact ⟨s1.heap.objs.size + 4, [s1.heap.objs.size + 4, s1.heap.objs.size + 2, s1.heap.objs.size + 3, s1.heap.objs.size, s1.heap.objs.size + 1], _, _, H1, rfl, I2, turn_zipK (zapart l1 l2), ⟨hz, hTI, ⟨_, _, hTO⟩, IterK.new h1, IterK.new h2⟩, fresh5, q⟩
end GX

namespace Z4
open PySem PySem.Spec PyProof.Rows L2 GX
/-- a tuple of four, as it is made -/
abbrev Tp4 (m : Heap) (T : Addr) (a1 a2 a3 a4 : Value) : Prop := m.get? T = some { cls := .type "tuple", data := .seq #[a1, a2, a3, a4] }
/-- the cells of a zip of four lie apart -/
structure Sep4 (zz ti to_ : Addr) (j1 j2 j3 j4 : Addr) (fs1 fs2 fs3 fs4 : List Addr) : Prop where
  tiz : ti ≠ zz
  toz : to_ ≠ zz
  tito : ti ≠ to_
  tij1 : ti ≠ j1
  mem1 : j1 ∈ fs1
  zf1 : zz ∉ fs1
  tf1 : to_ ∉ fs1
  tij2 : ti ≠ j2
  mem2 : j2 ∈ fs2
  zf2 : zz ∉ fs2
  tf2 : to_ ∉ fs2
  tij3 : ti ≠ j3
  mem3 : j3 ∈ fs3
  zf3 : zz ∉ fs3
  tf3 : to_ ∉ fs3
  tij4 : ti ≠ j4
  mem4 : j4 ∈ fs4
  zf4 : zz ∉ fs4
  tf4 : to_ ∉ fs4
  s12 : j1 ∉ fs2
  s13 : j1 ∉ fs3
  s14 : j1 ∉ fs4
  s21 : j2 ∉ fs1
  s23 : j2 ∉ fs3
  s24 : j2 ∉ fs4
  s31 : j3 ∉ fs1
  s32 : j3 ∉ fs2
  s34 : j3 ∉ fs4
  s41 : j4 ∉ fs1
  s42 : j4 ∉ fs2
  s43 : j4 ∉ fs3
section
variable {prog : Program} {w : World} {A : Around} {E : Value → Shared → Prop} {zz ti to_ : Addr} {j1 j2 j3 j4 : Addr} {fs1 fs2 fs3 fs4 : List Addr} {n1 n2 n3 n4 i : Nat} {R1 R2 R3 R4 : Nat → Value → Prop} {U1 U2 U3 U4 : Nat → Heap → Prop} {a1 a2 a3 a4 : Value}
theorem Sep4.zj1 (D : Sep4 zz ti to_ j1 j2 j3 j4 fs1 fs2 fs3 fs4) : zz ≠ j1 := fun e => D.zf1 (by rw [e]; exact D.mem1)
theorem Sep4.tj1 (D : Sep4 zz ti to_ j1 j2 j3 j4 fs1 fs2 fs3 fs4) : to_ ≠ j1 := fun e => D.tf1 (by rw [e]; exact D.mem1)
theorem Sep4.zj2 (D : Sep4 zz ti to_ j1 j2 j3 j4 fs1 fs2 fs3 fs4) : zz ≠ j2 := fun e => D.zf2 (by rw [e]; exact D.mem2)
theorem Sep4.tj2 (D : Sep4 zz ti to_ j1 j2 j3 j4 fs1 fs2 fs3 fs4) : to_ ≠ j2 := fun e => D.tf2 (by rw [e]; exact D.mem2)
theorem Sep4.zj3 (D : Sep4 zz ti to_ j1 j2 j3 j4 fs1 fs2 fs3 fs4) : zz ≠ j3 := fun e => D.zf3 (by rw [e]; exact D.mem3)
theorem Sep4.tj3 (D : Sep4 zz ti to_ j1 j2 j3 j4 fs1 fs2 fs3 fs4) : to_ ≠ j3 := fun e => D.tf3 (by rw [e]; exact D.mem3)
theorem Sep4.zj4 (D : Sep4 zz ti to_ j1 j2 j3 j4 fs1 fs2 fs3 fs4) : zz ≠ j4 := fun e => D.zf4 (by rw [e]; exact D.mem4)
theorem Sep4.tj4 (D : Sep4 zz ti to_ j1 j2 j3 j4 fs1 fs2 fs3 fs4) : to_ ≠ j4 := fun e => D.tf4 (by rw [e]; exact D.mem4)
theorem store4 {s : Shared} {T : Addr} {x : Value} {k : Nat} {Q : Unit → Shared → Prop} (hT : Tp4 s.heap T a1 a2 a3 a4)
    (c : ∀ m', m'.get? T = some { cls := .type "tuple", data := .seq ((#[a1, a2, a3, a4] : Array Value).setIfInBounds k x) } → Heap.SameBut T s.heap m' → Q () { s with heap := m' }) :
    wpAny (model prog w) A (updateSeq T (·.setIfInBounds k x)) Q E s := by
  refine wpAny_updateSeq hT rfl (c _ ?_ (Heap.SameBut.update ..))
  rw [Heap.get?_update_self _ hT rfl] <;> simp [Obj.mapSeq]
theorem next4 {m0 : Heap} {gg dr tk0 os} {Q : Value → Shared → Prop} (S : Sep4 zz ti to_ j1 j2 j3 j4 fs1 fs2 fs3 fs4) (d1 : Draws prog w A j1 fs1 n1 R1 U1) (d2 : Draws prog w A j2 fs2 n2 R2 U2) (d3 : Draws prog w A j3 fs3 n3 R3 U3) (d4 : Draws prog w A j4 fs4 n4 R4 U4) (iz : IsZip m0 zz ti to_ .none) (hti : Tp4 m0 ti (.ref j1) (.ref j2) (.ref j3) (.ref j4)) (hto : Tp4 m0 to_ a1 a2 a3 a4) (w1 : U1 i m0) (w2 : U2 i m0) (w3 : U3 i m0) (w4 : U4 i m0) (lt1 : i < n1) (lt2 : i < n2) (lt3 : i < n3) (lt4 : i < n4)
    (c : ∀ x1 x2 x3 x4 m' tk, R1 i x1 → R2 i x2 → R3 i x3 → R4 i x4 → IsZip m' zz ti to_ (rawInt m0.objs.size) → Tp4 m' to_ x1 x2 x3 x4 → U1 (i + 1) m' → U2 (i + 1) m' → U3 (i + 1) m' → U4 (i + 1) m' → Tp4 m' m0.objs.size x1 x2 x3 x4 → m'.objs.size = m0.objs.size + 1 → (∀ c ob, c ≠ zz → c ≠ to_ → c ≠ j1 → c ≠ j2 → c ≠ j3 → c ≠ j4 → m0.get? c = some ob → m'.get? c = some ob) → Q (.ref m0.objs.size) ⟨m', gg, dr, tk, os⟩) :
    wpAny (model prog w) A (Builtin.«zip.__next__» ⟨[.ref zz], []⟩) (fun fin s' => ∃ v, fin = .done (.ret v) ∧ Q v s') E ⟨m0, gg, dr, tk0, os⟩ := by
  show wpAny _ _ (field (.ref zz) 2 >>= _) _ _ _
  refine wpAny_bind (wpAny_field iz rfl (x := .bool false) rfl ?_)
  show wpAny _ _ (field (.ref zz) 3 >>= _) _ _ _
  refine wpAny_bind (wpAny_field iz rfl (x := .ref ti) rfl (wpAny_bind (wpAny_seqItems hti rfl ?_)))
  show wpAny _ _ (Builtin.SmallTypes.ownedTupleIsFree (.ref zz) >>= _) _ _ _
  unfold Builtin.SmallTypes.ownedTupleIsFree
  refine wpAny_bind (wpAny_bind (wpAny_field iz rfl (x := .none) rfl (wpAny_pure ?_)))
  rw [if_pos rfl]
  refine wpAny_bind (wpAny_rule (wpAny_bind (wpAny_field iz rfl (x := .ref to_) rfl ?_)))
  refine wpAny_bind (wpAny_setField_rec iz (by simp) fun v0 iz0 b0 => ?_)
  replace iz0 : IsZip v0 zz ti to_ .ellipsis := iz0
  replace b0 : Heap.SameBut zz m0 v0 := b0
  refine wpAny_bind ?_
  simp only [List.zipIdx_cons, List.zipIdx_nil, List.forIn_cons, List.forIn_nil]
  refine wpAny_bind (wpAny_bind (wpAny_onRaise ?_))
  show wpAny _ _ (Builtin.SmallTypes.nextOf (.ref j1) >>= _) _ _ ⟨v0, gg, dr, tk0, os⟩
  refine wpAny_bind (d1.item i _ _ _ lt1 (d1.over w1 b0 S.zf1) fun x1 u1 tk1 hx1 sn1 e1 => wpAny_pure ?_)
  replace e1 : Heap.SameBut j1 v0 u1 := e1
  have to1 : Tp4 u1 to_ a1 a2 a3 a4 := e1.extBut _ _ S.tj1 (b0.extBut _ _ S.toz hto)
  refine wpAny_bind (wpAny_seqItems (s := ⟨u1, gg, dr, tk1, os⟩) to1 rfl (wpAny_bind (store4 (s := ⟨u1, gg, dr, tk1, os⟩) to1 fun v1 t1 b1 => ?_)))
  replace t1 : Tp4 v1 to_ x1 a2 a3 a4 := t1
  replace b1 : Heap.SameBut to_ u1 v1 := b1
  refine wpAny_bind (wpAny_letGo (wpAny_pure ?_))
  refine wpAny_bind (wpAny_bind (wpAny_onRaise ?_))
  show wpAny _ _ (Builtin.SmallTypes.nextOf (.ref j2) >>= _) _ _ ⟨v1, gg, dr, tk1, os⟩
  refine wpAny_bind (d2.item i _ _ _ lt2 (d2.over (d2.over (d2.over w2 b0 S.zf2) e1 S.s12) b1 S.tf2) fun x2 u2 tk2 hx2 sn2 e2 => wpAny_pure ?_)
  replace e2 : Heap.SameBut j2 v1 u2 := e2
  have to2 : Tp4 u2 to_ x1 a2 a3 a4 := e2.extBut _ _ S.tj2 t1
  refine wpAny_bind (wpAny_seqItems (s := ⟨u2, gg, dr, tk2, os⟩) to2 rfl (wpAny_bind (store4 (s := ⟨u2, gg, dr, tk2, os⟩) to2 fun v2 t2 b2 => ?_)))
  replace t2 : Tp4 v2 to_ x1 x2 a3 a4 := t2
  replace b2 : Heap.SameBut to_ u2 v2 := b2
  refine wpAny_bind (wpAny_letGo (wpAny_pure ?_))
  refine wpAny_bind (wpAny_bind (wpAny_onRaise ?_))
  show wpAny _ _ (Builtin.SmallTypes.nextOf (.ref j3) >>= _) _ _ ⟨v2, gg, dr, tk2, os⟩
  refine wpAny_bind (d3.item i _ _ _ lt3 (d3.over (d3.over (d3.over (d3.over (d3.over w3 b0 S.zf3) e1 S.s13) b1 S.tf3) e2 S.s23) b2 S.tf3) fun x3 u3 tk3 hx3 sn3 e3 => wpAny_pure ?_)
  replace e3 : Heap.SameBut j3 v2 u3 := e3
  have to3 : Tp4 u3 to_ x1 x2 a3 a4 := e3.extBut _ _ S.tj3 t2
  refine wpAny_bind (wpAny_seqItems (s := ⟨u3, gg, dr, tk3, os⟩) to3 rfl (wpAny_bind (store4 (s := ⟨u3, gg, dr, tk3, os⟩) to3 fun v3 t3 b3 => ?_)))
  replace t3 : Tp4 v3 to_ x1 x2 x3 a4 := t3
  replace b3 : Heap.SameBut to_ u3 v3 := b3
  refine wpAny_bind (wpAny_letGo (wpAny_pure ?_))
  refine wpAny_bind (wpAny_bind (wpAny_onRaise ?_))
  show wpAny _ _ (Builtin.SmallTypes.nextOf (.ref j4) >>= _) _ _ ⟨v3, gg, dr, tk3, os⟩
  refine wpAny_bind (d4.item i _ _ _ lt4 (d4.over (d4.over (d4.over (d4.over (d4.over (d4.over (d4.over w4 b0 S.zf4) e1 S.s14) b1 S.tf4) e2 S.s24) b2 S.tf4) e3 S.s34) b3 S.tf4) fun x4 u4 tk4 hx4 sn4 e4 => wpAny_pure ?_)
  replace e4 : Heap.SameBut j4 v3 u4 := e4
  have to4 : Tp4 u4 to_ x1 x2 x3 a4 := e4.extBut _ _ S.tj4 t3
  refine wpAny_bind (wpAny_seqItems (s := ⟨u4, gg, dr, tk4, os⟩) to4 rfl (wpAny_bind (store4 (s := ⟨u4, gg, dr, tk4, os⟩) to4 fun v4 t4 b4 => ?_)))
  replace t4 : Tp4 v4 to_ x1 x2 x3 x4 := t4
  replace b4 : Heap.SameBut to_ u4 v4 := b4
  refine wpAny_bind (wpAny_letGo (wpAny_pure (wpAny_pure ?_)))
  refine wpAny_bind (wpAny_seqItems (s := ⟨v4, gg, dr, tk4, os⟩) t4 rfl (wpAny_bind (wpAny_newTuple ?_)))
  have sz : v4.objs.size = m0.objs.size := by rw [b4.1, e4.1, b3.1, e3.1, b2.1, e2.1, b1.1, e1.1, b0.1]
  have izz : IsZip v4 zz ti to_ .ellipsis := (b4.extBut _ _ S.toz.symm (e4.extBut _ _ S.zj4 (b3.extBut _ _ S.toz.symm (e3.extBut _ _ S.zj3 (b2.extBut _ _ S.toz.symm (e2.extBut _ _ S.zj2 (b1.extBut _ _ S.toz.symm (e1.extBut _ _ S.zj1 iz0))))))))
  have kp : ∀ c ob, c ≠ zz → c ≠ to_ → c ≠ j1 → c ≠ j2 → c ≠ j3 → c ≠ j4 → m0.get? c = some ob → v4.get? c = some ob := fun c ob cz ct c1 c2 c3 c4 e => (b4.extBut _ _ ct (e4.extBut _ _ c4 (b3.extBut _ _ ct (e3.extBut _ _ c3 (b2.extBut _ _ ct (e2.extBut _ _ c2 (b1.extBut _ _ ct (e1.extBut _ _ c1 (b0.extBut _ _ cz e)))))))))
  have y1 : U1 (i + 1) v4 := (d1.over (d1.over (d1.over (d1.over (d1.over (d1.over (d1.over sn1 b1 S.tf1) e2 S.s21) b2 S.tf1) e3 S.s31) b3 S.tf1) e4 S.s41) b4 S.tf1)
  have y2 : U2 (i + 1) v4 := (d2.over (d2.over (d2.over (d2.over (d2.over sn2 b2 S.tf2) e3 S.s32) b3 S.tf2) e4 S.s42) b4 S.tf2)
  have y3 : U3 (i + 1) v4 := (d3.over (d3.over (d3.over sn3 b3 S.tf3) e4 S.s43) b4 S.tf3)
  have y4 : U4 (i + 1) v4 := (d4.over sn4 b4 S.tf4)
  have zlt : zz < v4.objs.size := Heap.lt_size izz
  show wpAny _ _ (Builtin.SmallTypes.ownedTupleHandOut (.ref zz) (.ref v4.objs.size) >>= _) _ _ ⟨v4.push { cls := .type "tuple", data := .seq #[x1, x2, x3, x4] }, gg, dr, tk4, os⟩
  unfold Builtin.SmallTypes.ownedTupleHandOut
  have iz6 : IsZip (v4.push { cls := .type "tuple", data := .seq #[x1, x2, x3, x4] }) zz ti to_ .ellipsis := Heap.get?_push_of_some _ izz
  refine wpAny_bind (wpAny_bind (wpAny_setField_rec iz6 (by simp) fun v7 iz7 b7 => ?_))
  replace iz7 : IsZip v7 zz ti to_ (rawInt v4.objs.size) := iz7
  refine wpAny_setField_rec iz7 (by simp) fun v8 iz8 b8 => ?_
  replace iz8 : IsZip v8 zz ti to_ (rawInt v4.objs.size) := iz8
  replace b7 : Heap.SameBut zz (v4.push { cls := .type "tuple", data := .seq #[x1, x2, x3, x4] }) v7 := b7
  replace b8 : Heap.SameBut zz v7 v8 := b8
  have up : ∀ c ob, c ≠ zz → v4.get? c = some ob → v8.get? c = some ob := fun c ob c1 e => b8.extBut _ _ c1 (b7.extBut _ _ c1 (Heap.get?_push_of_some _ e))
  have t8 : Tp4 v8 v4.objs.size x1 x2 x3 x4 := b8.extBut _ _ (Nat.ne_of_gt zlt) (b7.extBut _ _ (Nat.ne_of_gt zlt) (Heap.get?_push_size _ rfl))
  have sz8 : v8.objs.size = v4.objs.size + 1 := by rw [b8.1, b7.1, Heap.size_push]
  rw [sz] at iz8 t8 sz8
  refine wpAny_pure ⟨_, rfl, ?_⟩
  show Q (.ref v4.objs.size) ⟨v8, gg, dr, tk4, os⟩
  rw [sz]
  have fr : ∀ {fs : List Addr}, zz ∉ fs → ∀ b ∈ fs, ∀ ob, v4.get? b = some ob → v8.get? b = some ob := fun hz b hb ob e => up b ob (fun q => hz (q ▸ hb)) e
  exact c x1 x2 x3 x4 v8 tk4 hx1 hx2 hx3 hx4 iz8 (up _ _ S.toz t4) (d1.frame _ _ _ y1 (fr S.zf1)) (d2.frame _ _ _ y2 (fr S.zf2)) (d3.frame _ _ _ y3 (fr S.zf3)) (d4.frame _ _ _ y4 (fr S.zf4)) t8 sz8 fun c ob cz ct c1 c2 c3 c4 e => up c ob cz (kp c ob cz ct c1 c2 c3 c4 e)
theorem stop4 {m0 : Heap} {gg dr tk0 os} {Q : Fin → Shared → Prop} (S : Sep4 zz ti to_ j1 j2 j3 j4 fs1 fs2 fs3 fs4) (d1 : Draws prog w A j1 fs1 n1 R1 U1) (d2 : Draws prog w A j2 fs2 n2 R2 U2) (d3 : Draws prog w A j3 fs3 n3 R3 U3) (d4 : Draws prog w A j4 fs4 n4 R4 U4) (iz : IsZip m0 zz ti to_ .none) (hti : Tp4 m0 ti (.ref j1) (.ref j2) (.ref j3) (.ref j4)) (hto : Tp4 m0 to_ a1 a2 a3 a4) (w1 : U1 i m0) (w2 : U2 i m0) (w3 : U3 i m0) (w4 : U4 i m0) (le1 : i ≤ n1) (le2 : i ≤ n2) (le3 : i ≤ n3) (le4 : i ≤ n4) (hend : i = n1 ∨ i = n2 ∨ i = n3 ∨ i = n4)
    (c : ∀ m' tk e, (∀ c ob, c ≠ zz → c ≠ to_ → c ≠ j1 → c ≠ j2 → c ≠ j3 → c ≠ j4 → m0.get? c = some ob → m'.get? c = some ob) → (∃ ob, m'.get? e = some ob ∧ ob.cls = .type "StopIteration") → E (.ref e) ⟨m', gg, dr, tk, os⟩) :
    wpAny (model prog w) A (Builtin.«zip.__next__» ⟨[.ref zz], []⟩) Q E ⟨m0, gg, dr, tk0, os⟩ := by
  show wpAny _ _ (field (.ref zz) 2 >>= _) _ _ _
  refine wpAny_bind (wpAny_field iz rfl (x := .bool false) rfl ?_)
  show wpAny _ _ (field (.ref zz) 3 >>= _) _ _ _
  refine wpAny_bind (wpAny_field iz rfl (x := .ref ti) rfl (wpAny_bind (wpAny_seqItems hti rfl ?_)))
  show wpAny _ _ (Builtin.SmallTypes.ownedTupleIsFree (.ref zz) >>= _) _ _ _
  unfold Builtin.SmallTypes.ownedTupleIsFree
  refine wpAny_bind (wpAny_bind (wpAny_field iz rfl (x := .none) rfl (wpAny_pure ?_)))
  rw [if_pos rfl]
  refine wpAny_bind (wpAny_rule (wpAny_bind (wpAny_field iz rfl (x := .ref to_) rfl ?_)))
  refine wpAny_bind (wpAny_setField_rec iz (by simp) fun v0 iz0 b0 => ?_)
  replace iz0 : IsZip v0 zz ti to_ .ellipsis := iz0
  replace b0 : Heap.SameBut zz m0 v0 := b0
  refine wpAny_bind ?_
  simp only [List.zipIdx_cons, List.zipIdx_nil, List.forIn_cons, List.forIn_nil]
  refine wpAny_bind (wpAny_bind (wpAny_onRaise ?_))
  show wpAny _ _ (Builtin.SmallTypes.nextOf (.ref j1) >>= _) _ _ ⟨v0, gg, dr, tk0, os⟩
  by_cases lt1 : i < n1
  · refine wpAny_bind (d1.item i _ _ _ lt1 (d1.over w1 b0 S.zf1) fun x1 u1 tk1 hx1 sn1 e1 => wpAny_pure ?_)
    replace e1 : Heap.SameBut j1 v0 u1 := e1
    have to1 : Tp4 u1 to_ a1 a2 a3 a4 := e1.extBut _ _ S.tj1 (b0.extBut _ _ S.toz hto)
    refine wpAny_bind (wpAny_seqItems (s := ⟨u1, gg, dr, tk1, os⟩) to1 rfl (wpAny_bind (store4 (s := ⟨u1, gg, dr, tk1, os⟩) to1 fun v1 t1 b1 => ?_)))
    replace t1 : Tp4 v1 to_ x1 a2 a3 a4 := t1
    replace b1 : Heap.SameBut to_ u1 v1 := b1
    refine wpAny_bind (wpAny_letGo (wpAny_pure ?_))
    refine wpAny_bind (wpAny_bind (wpAny_onRaise ?_))
    show wpAny _ _ (Builtin.SmallTypes.nextOf (.ref j2) >>= _) _ _ ⟨v1, gg, dr, tk1, os⟩
    by_cases lt2 : i < n2
    · refine wpAny_bind (d2.item i _ _ _ lt2 (d2.over (d2.over (d2.over w2 b0 S.zf2) e1 S.s12) b1 S.tf2) fun x2 u2 tk2 hx2 sn2 e2 => wpAny_pure ?_)
      replace e2 : Heap.SameBut j2 v1 u2 := e2
      have to2 : Tp4 u2 to_ x1 a2 a3 a4 := e2.extBut _ _ S.tj2 t1
      refine wpAny_bind (wpAny_seqItems (s := ⟨u2, gg, dr, tk2, os⟩) to2 rfl (wpAny_bind (store4 (s := ⟨u2, gg, dr, tk2, os⟩) to2 fun v2 t2 b2 => ?_)))
      replace t2 : Tp4 v2 to_ x1 x2 a3 a4 := t2
      replace b2 : Heap.SameBut to_ u2 v2 := b2
      refine wpAny_bind (wpAny_letGo (wpAny_pure ?_))
      refine wpAny_bind (wpAny_bind (wpAny_onRaise ?_))
      show wpAny _ _ (Builtin.SmallTypes.nextOf (.ref j3) >>= _) _ _ ⟨v2, gg, dr, tk2, os⟩
      by_cases lt3 : i < n3
      · refine wpAny_bind (d3.item i _ _ _ lt3 (d3.over (d3.over (d3.over (d3.over (d3.over w3 b0 S.zf3) e1 S.s13) b1 S.tf3) e2 S.s23) b2 S.tf3) fun x3 u3 tk3 hx3 sn3 e3 => wpAny_pure ?_)
        replace e3 : Heap.SameBut j3 v2 u3 := e3
        have to3 : Tp4 u3 to_ x1 x2 a3 a4 := e3.extBut _ _ S.tj3 t2
        refine wpAny_bind (wpAny_seqItems (s := ⟨u3, gg, dr, tk3, os⟩) to3 rfl (wpAny_bind (store4 (s := ⟨u3, gg, dr, tk3, os⟩) to3 fun v3 t3 b3 => ?_)))
        replace t3 : Tp4 v3 to_ x1 x2 x3 a4 := t3
        replace b3 : Heap.SameBut to_ u3 v3 := b3
        refine wpAny_bind (wpAny_letGo (wpAny_pure ?_))
        refine wpAny_bind (wpAny_bind (wpAny_onRaise ?_))
        show wpAny _ _ (Builtin.SmallTypes.nextOf (.ref j4) >>= _) _ _ ⟨v3, gg, dr, tk3, os⟩
        have ie : i = n4 := by omega
        refine wpAny_bind (d4.done ⟨v3, gg, dr, tk3, os⟩ _ _ (by rw [← ie]; exact (d4.over (d4.over (d4.over (d4.over (d4.over (d4.over (d4.over w4 b0 S.zf4) e1 S.s14) b1 S.tf4) e2 S.s24) b2 S.tf4) e3 S.s34) b3 S.tf4)) fun r e hq he => ?_)
        replace hq : Heap.ExtBut j4 v3 r := hq
        obtain ⟨oe, ho, hce⟩ := he
        replace ho : r.get? e = some oe := ho
        have izq : IsZip r zz ti to_ .ellipsis := hq _ _ S.zj4 (b3.extBut _ _ S.toz.symm (e3.extBut _ _ S.zj3 (b2.extBut _ _ S.toz.symm (e2.extBut _ _ S.zj2 (b1.extBut _ _ S.toz.symm (e1.extBut _ _ S.zj1 iz0))))))
        have ez : e ≠ zz := fun x => by rw [x, izq] at ho; cases ho; simp at hce
        refine wpAny_setField_rec (s := ⟨r, gg, dr, tk3, os⟩) izq (by simp) fun r2 _ h2 => ?_
        replace h2 : Heap.SameBut zz r r2 := h2
        exact c r2 tk3 e (fun c ob cz ct c1 c2 c3 c4 x => h2.extBut _ _ cz (hq _ _ c4 (b3.extBut _ _ ct (e3.extBut _ _ c3 (b2.extBut _ _ ct (e2.extBut _ _ c2 (b1.extBut _ _ ct (e1.extBut _ _ c1 (b0.extBut _ _ cz x))))))))) ⟨oe, h2.extBut _ _ ez ho, hce⟩
      · have ie : i = n3 := by omega
        refine wpAny_bind (d3.done ⟨v2, gg, dr, tk2, os⟩ _ _ (by rw [← ie]; exact (d3.over (d3.over (d3.over (d3.over (d3.over w3 b0 S.zf3) e1 S.s13) b1 S.tf3) e2 S.s23) b2 S.tf3)) fun r e hq he => ?_)
        replace hq : Heap.ExtBut j3 v2 r := hq
        obtain ⟨oe, ho, hce⟩ := he
        replace ho : r.get? e = some oe := ho
        have izq : IsZip r zz ti to_ .ellipsis := hq _ _ S.zj3 (b2.extBut _ _ S.toz.symm (e2.extBut _ _ S.zj2 (b1.extBut _ _ S.toz.symm (e1.extBut _ _ S.zj1 iz0))))
        have ez : e ≠ zz := fun x => by rw [x, izq] at ho; cases ho; simp at hce
        refine wpAny_setField_rec (s := ⟨r, gg, dr, tk2, os⟩) izq (by simp) fun r2 _ h2 => ?_
        replace h2 : Heap.SameBut zz r r2 := h2
        exact c r2 tk2 e (fun c ob cz ct c1 c2 c3 c4 x => h2.extBut _ _ cz (hq _ _ c3 (b2.extBut _ _ ct (e2.extBut _ _ c2 (b1.extBut _ _ ct (e1.extBut _ _ c1 (b0.extBut _ _ cz x))))))) ⟨oe, h2.extBut _ _ ez ho, hce⟩
    · have ie : i = n2 := by omega
      refine wpAny_bind (d2.done ⟨v1, gg, dr, tk1, os⟩ _ _ (by rw [← ie]; exact (d2.over (d2.over (d2.over w2 b0 S.zf2) e1 S.s12) b1 S.tf2)) fun r e hq he => ?_)
      replace hq : Heap.ExtBut j2 v1 r := hq
      obtain ⟨oe, ho, hce⟩ := he
      replace ho : r.get? e = some oe := ho
      have izq : IsZip r zz ti to_ .ellipsis := hq _ _ S.zj2 (b1.extBut _ _ S.toz.symm (e1.extBut _ _ S.zj1 iz0))
      have ez : e ≠ zz := fun x => by rw [x, izq] at ho; cases ho; simp at hce
      refine wpAny_setField_rec (s := ⟨r, gg, dr, tk1, os⟩) izq (by simp) fun r2 _ h2 => ?_
      replace h2 : Heap.SameBut zz r r2 := h2
      exact c r2 tk1 e (fun c ob cz ct c1 c2 c3 c4 x => h2.extBut _ _ cz (hq _ _ c2 (b1.extBut _ _ ct (e1.extBut _ _ c1 (b0.extBut _ _ cz x))))) ⟨oe, h2.extBut _ _ ez ho, hce⟩
  · have ie : i = n1 := by omega
    refine wpAny_bind (d1.done ⟨v0, gg, dr, tk0, os⟩ _ _ (by rw [← ie]; exact (d1.over w1 b0 S.zf1)) fun r e hq he => ?_)
    replace hq : Heap.ExtBut j1 v0 r := hq
    obtain ⟨oe, ho, hce⟩ := he
    replace ho : r.get? e = some oe := ho
    have izq : IsZip r zz ti to_ .ellipsis := hq _ _ S.zj1 iz0
    have ez : e ≠ zz := fun x => by rw [x, izq] at ho; cases ho; simp at hce
    refine wpAny_setField_rec (s := ⟨r, gg, dr, tk0, os⟩) izq (by simp) fun r2 _ h2 => ?_
    replace h2 : Heap.SameBut zz r r2 := h2
    exact c r2 tk0 e (fun c ob cz ct c1 c2 c3 c4 x => h2.extBut _ _ cz (hq _ _ c1 (b0.extBut _ _ cz x))) ⟨oe, h2.extBut _ _ ez ho, hce⟩
/-- zip over four iterators of any kind -/
theorem walks4 (S : Sep4 zz ti to_ j1 j2 j3 j4 fs1 fs2 fs3 fs4) (d1 : Draws prog w A.in1 j1 fs1 n1 R1 U1) (d2 : Draws prog w A.in1 j2 fs2 n2 R2 U2) (d3 : Draws prog w A.in1 j3 fs3 n3 R3 U3) (d4 : Draws prog w A.in1 j4 fs4 n4 R4 U4) :
    WalksT prog w A zz (zz :: ti :: to_ :: (fs1 ++ fs2 ++ fs3 ++ fs4)) [zz, to_, j1, j2, j3, j4] (min (min (min n1 n2) n3) n4)
      (fun i vs => ∃ x1 x2 x3 x4, R1 i x1 ∧ R2 i x2 ∧ R3 i x3 ∧ R4 i x4 ∧ vs = #[x1, x2, x3, x4])
      (fun i h => IsZip h zz ti to_ .none ∧ Tp4 h ti (.ref j1) (.ref j2) (.ref j3) (.ref j4) ∧ (∃ a1 a2 a3 a4, Tp4 h to_ a1 a2 a3 a4) ∧ U1 i h ∧ U2 i h ∧ U3 i h ∧ U4 i h)
      (fun i T h => IsZip h zz ti to_ (rawInt T) ∧ Tp4 h ti (.ref j1) (.ref j2) (.ref j3) (.ref j4) ∧ (∃ a1 a2 a3 a4, Tp4 h to_ a1 a2 a3 a4) ∧ U1 (i + 1) h ∧ U2 (i + 1) h ∧ U3 (i + 1) h ∧ U4 (i + 1) h ∧ T ≠ zz ∧ T ≠ to_ ∧ T ≠ j1 ∧ T ≠ j2 ∧ T ≠ j3 ∧ T ≠ j4) where
  sub := fun c hc => by
    have m1 := S.mem1
    have m2 := S.mem2
    have m3 := S.mem3
    have m4 := S.mem4
    have q : c = zz ∨ c = to_ ∨ c = j1 ∨ c = j2 ∨ c = j3 ∨ c = j4 := by simpa using hc
    rcases q with rfl | rfl | rfl | rfl | rfl | rfl <;> simp_all
  frame := fun i h h' hst hk => by
    obtain ⟨iz, hti, ⟨a1, a2, a3, a4, hto⟩, w1, w2, w3, w4⟩ := hst
    refine ⟨hk zz (by simp) _ iz, hk ti (by simp) _ hti, ⟨a1, a2, a3, a4, hk to_ (by simp) _ hto⟩, ?_, ?_, ?_, ?_⟩
    · exact d1.frame _ _ _ w1 fun b hb ob e => hk b (by simp [hb]) ob e
    · exact d2.frame _ _ _ w2 fun b hb ob e => hk b (by simp [hb]) ob e
    · exact d3.frame _ _ _ w3 fun b hb ob e => hk b (by simp [hb]) ob e
    · exact d4.frame _ _ _ w4 fun b hb ob e => hk b (by simp [hb]) ob e
  item := fun i s Q E hi hst hQ => by
    obtain ⟨iz, hti, ⟨a1, a2, a3, a4, hto⟩, w1, w2, w3, w4⟩ := hst
    obtain ⟨m0, gg, dr, tk0, os⟩ := s
    have hT : (⟨m0, gg, dr, tk0, os⟩ : Shared).TypeIs (.ref zz) "zip" := ⟨_, iz, rfl⟩
    unfold pyNext
    refine wpAny_bind (wpAny_attempt (wpAny_callSpecial?_slot (name := Str.ofString "__next__") hT F.slot_zip_next (wpAny_call_entry F.slot_zip_next hT F.entry_zip_next (next4 S d1 d2 d3 d4 iz hti hto w1 w2 w3 w4 (by omega) (by omega) (by omega) (by omega) fun x1 x2 x3 x4 m' tk y1 y2 y3 y4 b1 b2 u1 u2 u3 u4 b5 b6 hk => wpAny_pure ?_) (F.args_zip_next_1 _))))
    have lt : ∀ {c ob}, m0.get? c = some ob → m0.objs.size ≠ c := fun e => Nat.ne_of_gt (Heap.lt_size e)
    have l1 : m0.objs.size ≠ j1 := by obtain ⟨_, e⟩ := d1.live _ _ w1; exact lt e
    have l2 : m0.objs.size ≠ j2 := by obtain ⟨_, e⟩ := d2.live _ _ w2; exact lt e
    have l3 : m0.objs.size ≠ j3 := by obtain ⟨_, e⟩ := d3.live _ _ w3; exact lt e
    have l4 : m0.objs.size ≠ j4 := by obtain ⟨_, e⟩ := d4.live _ _ w4; exact lt e
    exact hQ m0.objs.size #[x1, x2, x3, x4] m' tk ⟨x1, x2, x3, x4, y1, y2, y3, y4, rfl⟩ (Nat.le_refl _) ⟨_, b5, rfl, _, rfl⟩
      ⟨b1, hk _ _ S.tiz S.tito S.tij1 S.tij2 S.tij3 S.tij4 hti, ⟨_, _, _, _, b2⟩, u1, u2, u3, u4, lt iz, lt hto, l1, l2, l3, l4⟩
      fun c ob hc e => hk c ob (fun x => hc (by simp [x])) (fun x => hc (by simp [x])) (fun x => hc (by simp [x])) (fun x => hc (by simp [x])) (fun x => hc (by simp [x])) (fun x => hc (by simp [x])) e
  go := fun elts k pos i T s Q E hm hQ => by
    obtain ⟨iz, hti, ⟨a1, a2, a3, a4, hto⟩, w1, w2, w3, w4, _⟩ := hm
    refine wpAny_letOwnedTupleGo_zip iz fun m' iz' b => hQ m' ⟨iz', b.extBut _ _ S.tiz hti, ⟨a1, a2, a3, a4, b.extBut _ _ S.toz hto⟩, d1.over w1 b S.zf1, d2.over w2 b S.zf2, d3.over w3 b S.zf3, d4.over w4 b S.zf4⟩ fun c ob hc e => b.extBut _ _ (fun x => hc (by simp [x])) e
  apart := fun i T h hm hT => by
    obtain ⟨_, _, _, _, _, _, _, tz, tT, t1, t2, t3, t4⟩ := hm
    have q : T = zz ∨ T = to_ ∨ T = j1 ∨ T = j2 ∨ T = j3 ∨ T = j4 := by simpa using hT
    rcases q with e | e | e | e | e | e
    · exact tz e
    · exact tT e
    · exact t1 e
    · exact t2 e
    · exact t3 e
    · exact t4 e
  done := fun s Q E hst hQ => by
    obtain ⟨iz, hti, ⟨a1, a2, a3, a4, hto⟩, w1, w2, w3, w4⟩ := hst
    obtain ⟨m0, gg, dr, tk0, os⟩ := s
    have hT : (⟨m0, gg, dr, tk0, os⟩ : Shared).TypeIs (.ref zz) "zip" := ⟨_, iz, rfl⟩
    unfold pyNext
    refine wpAny_bind (wpAny_attempt (wpAny_callSpecial?_slot (name := Str.ofString "__next__") hT F.slot_zip_next (wpAny_call_entry F.slot_zip_next hT F.entry_zip_next (stop4 S d1 d2 d3 d4 iz hti hto w1 w2 w3 w4 (by omega) (by omega) (by omega) (by omega) (by omega) fun m' tk e hk he => ?_) (F.args_zip_next_1 _))))
    obtain ⟨ob, ho, hc⟩ := he
    refine wpAny_bind (wpAny_isInstance (T := "StopIteration") (b := true) ⟨ob, ho, hc⟩ isSubtype_stop ?_)
    refine wpAny_pure (hQ m' tk fun c ob hc e => hk c ob (fun x => hc (by simp [x])) (fun x => hc (by simp [x])) (fun x => hc (by simp [x])) (fun x => hc (by simp [x])) (fun x => hc (by simp [x])) (fun x => hc (by simp [x])) e)
  self := fun i s Q E hst hQ => wpAny_pyIter_zip hst.1 hQ
end
theorem tc4 (a b c d : Value) : checkTypeCall "zip" ⟨[a, b, c, d], []⟩ = pure () := by kernel_rfl
theorem nc4 (a b c d : Value) : checkBuiltinCall "zip.__new__" ⟨[.type "zip", a, b, c, d], []⟩ = pure () := by kernel_rfl
theorem oi5 (obj a b c d : Value) : argsOk "object.__init__" ⟨[obj, a, b, c, d], []⟩ := by unfold argsOk; kernel_rfl
section
variable {prog : Program} {w : World} {A : Around} {E : Value → Shared → Prop} {s : Shared}
abbrev h1_ (m : Heap) (p1 : Obj) : Heap := m.push p1
abbrev h2_ (m : Heap) (p1 p2 : Obj) : Heap := (h1_ m p1).push p2
abbrev h3_ (m : Heap) (p1 p2 p3 : Obj) : Heap := (h2_ m p1 p2).push p3
abbrev h4_ (m : Heap) (p1 p2 p3 p4 : Obj) : Heap := (h3_ m p1 p2 p3).push p4
abbrev hT_ (m : Heap) (p1 p2 p3 p4 : Obj) : Heap := (h4_ m p1 p2 p3 p4).push { cls := .type "tuple", data := .seq #[.ref m.objs.size, .ref (h1_ m p1).objs.size, .ref (h2_ m p1 p2).objs.size, .ref (h3_ m p1 p2 p3).objs.size] }
abbrev hO_ (m : Heap) (p1 p2 p3 p4 : Obj) : Heap := (hT_ m p1 p2 p3 p4).push { cls := .type "tuple", data := .seq #[.none, .none, .none, .none] }
abbrev hZ_ (m : Heap) (p1 p2 p3 p4 : Obj) : Heap := (hO_ m p1 p2 p3 p4).push { cls := .type "zip", data := .fields #[.none, .bool false, .bool false, .ref (h4_ m p1 p2 p3 p4).objs.size, .ref (hT_ m p1 p2 p3 p4).objs.size] }
theorem new4 {v1 v2 v3 v4 : Value} {p1 p2 p3 p4 : Obj} {G1 G2 G3 G4 : Heap → Prop} (B1 : Begins v1 p1 G1) (B2 : Begins v2 p2 G2) (B3 : Begins v3 p3 G3) (B4 : Begins v4 p4 G4) :
    Meets (Builtin.«zip.__new__» ⟨[.type "zip", v1, v2, v3, v4], []⟩) (fun _ R s => (G1 s.heap ∧ G2 s.heap ∧ G3 s.heap ∧ G4 s.heap) ∧
      R (.ok (.ret (.ref (hO_ s.heap p1 p2 p3 p4).objs.size))) { s with heap := hZ_ s.heap p1 p2 p3 p4 }) :=
  .of_wp fun prog w A R s h => by
    obtain ⟨m, g, d, tk, os⟩ := s
    obtain ⟨⟨g1, g2, g3, g4⟩, h⟩ := h
    have hsub := sub_zip
    have q1 : ∀ {A' : Around} {E : Value → Shared → Prop} {Q : Value → Shared → Prop}, Q (.ref m.objs.size) ⟨h1_ m p1, g, d, tk, os⟩ → wpAny (model prog w) A' (pyIter v1) Q E ⟨m, g, d, tk, os⟩ := fun q => B1.iter prog w _ _ ⟨m, g, d, tk, os⟩ _ (B1.keeps _ _ g1 fun b o' e => e) q
    have q2 : ∀ {A' : Around} {E : Value → Shared → Prop} {Q : Value → Shared → Prop}, Q (.ref (h1_ m p1).objs.size) ⟨h2_ m p1 p2, g, d, tk, os⟩ → wpAny (model prog w) A' (pyIter v2) Q E ⟨h1_ m p1, g, d, tk, os⟩ := fun q => B2.iter prog w _ _ ⟨h1_ m p1, g, d, tk, os⟩ _ (B2.keeps _ _ g2 fun b o' e => Heap.get?_push_of_some _ e) q
    have q3 : ∀ {A' : Around} {E : Value → Shared → Prop} {Q : Value → Shared → Prop}, Q (.ref (h2_ m p1 p2).objs.size) ⟨h3_ m p1 p2 p3, g, d, tk, os⟩ → wpAny (model prog w) A' (pyIter v3) Q E ⟨h2_ m p1 p2, g, d, tk, os⟩ := fun q => B3.iter prog w _ _ ⟨h2_ m p1 p2, g, d, tk, os⟩ _ (B3.keeps _ _ g3 fun b o' e => Heap.get?_push_of_some _ (Heap.get?_push_of_some _ e)) q
    have q4 : ∀ {A' : Around} {E : Value → Shared → Prop} {Q : Value → Shared → Prop}, Q (.ref (h3_ m p1 p2 p3).objs.size) ⟨h4_ m p1 p2 p3 p4, g, d, tk, os⟩ → wpAny (model prog w) A' (pyIter v4) Q E ⟨h3_ m p1 p2 p3, g, d, tk, os⟩ := fun q => B4.iter prog w _ _ ⟨h3_ m p1 p2 p3, g, d, tk, os⟩ _ (B4.keeps _ _ g4 fun b o' e => Heap.get?_push_of_some _ (Heap.get?_push_of_some _ (Heap.get?_push_of_some _ e))) q
    wp_walk using q1, q2, q3, q4
    exact ⟨_, rfl, h⟩
end
end Z4

namespace Z4
open PySem PySem.Spec PyProof.Rows L2 GX
section
variable {prog : Program} {w : World} {A : Around} {E : Value → Shared → Prop} {s : Shared}
/-- its seven new cells -/
theorem begins4 {v1 v2 v3 v4 : Value} {p1 p2 p3 p4 : Obj} {G1 G2 G3 G4 : Heap → Prop} {Q : Value → Shared → Prop} (B1 : Begins v1 p1 G1) (B2 : Begins v2 p2 G2) (B3 : Begins v3 p3 G3) (B4 : Begins v4 p4 G4) (g1 : G1 s.heap) (g2 : G2 s.heap) (g3 : G3 s.heap) (g4 : G4 s.heap)
    (c : ∀ m', IsZip m' (s.heap.objs.size + 6) (s.heap.objs.size + 4) (s.heap.objs.size + 5) .none → Tp4 m' (s.heap.objs.size + 4) (.ref s.heap.objs.size) (.ref (s.heap.objs.size + 1)) (.ref (s.heap.objs.size + 2)) (.ref (s.heap.objs.size + 3)) →
      Tp4 m' (s.heap.objs.size + 5) .none .none .none .none → m'.get? s.heap.objs.size = some p1 → m'.get? (s.heap.objs.size + 1) = some p2 → m'.get? (s.heap.objs.size + 2) = some p3 → m'.get? (s.heap.objs.size + 3) = some p4 →
      (∀ b ob, s.heap.get? b = some ob → m'.get? b = some ob) → Q (.ref (s.heap.objs.size + 6)) { s with heap := m' }) :
    wpAny (model prog w) A (call (.type "zip") [v1, v2, v3, v4]) Q E s := by
  refine callType_new F.called_zip (by decide) (tc4 _ _ _ _) (nc4 _ _ _ _) (fun obj => oi5 obj _ _ _ _) F.entry_zip_new (new4 B1 B2 B3 B4) ⟨⟨g1, g2, g3, g4⟩, ?_⟩
  have y1 : (h1_ s.heap p1).objs.size = s.heap.objs.size + 1 := by rw [Heap.size_push]
  have y2 : (h2_ s.heap p1 p2).objs.size = s.heap.objs.size + 2 := by rw [Heap.size_push, y1]
  have y3 : (h3_ s.heap p1 p2 p3).objs.size = s.heap.objs.size + 3 := by rw [Heap.size_push, y2]
  have y4 : (h4_ s.heap p1 p2 p3 p4).objs.size = s.heap.objs.size + 4 := by rw [Heap.size_push, y3]
  have yT : (hT_ s.heap p1 p2 p3 p4).objs.size = s.heap.objs.size + 5 := by rw [Heap.size_push, y4]
  have yO : (hO_ s.heap p1 p2 p3 p4).objs.size = s.heap.objs.size + 6 := by rw [Heap.size_push, yT]
  have u := fun {m : Heap} {ob : Obj} {a : Addr} {q : Obj} (e : m.get? a = some q) => Heap.get?_push_of_some ob e
  have kZ : (hZ_ s.heap p1 p2 p3 p4).get? (hO_ s.heap p1 p2 p3 p4).objs.size = some { cls := .type "zip", data := .fields #[.none, .bool false, .bool false, .ref (h4_ s.heap p1 p2 p3 p4).objs.size, .ref (hT_ s.heap p1 p2 p3 p4).objs.size] } := Heap.get?_push_size _ rfl
  have kO : (hZ_ s.heap p1 p2 p3 p4).get? (hT_ s.heap p1 p2 p3 p4).objs.size = some { cls := .type "tuple", data := .seq #[.none, .none, .none, .none] } := u (Heap.get?_push_size _ rfl)
  have kT : (hZ_ s.heap p1 p2 p3 p4).get? (h4_ s.heap p1 p2 p3 p4).objs.size = some { cls := .type "tuple", data := .seq #[.ref s.heap.objs.size, .ref (h1_ s.heap p1).objs.size, .ref (h2_ s.heap p1 p2).objs.size, .ref (h3_ s.heap p1 p2 p3).objs.size] } := u (u (Heap.get?_push_size _ rfl))
  have k4 : (hZ_ s.heap p1 p2 p3 p4).get? (h3_ s.heap p1 p2 p3).objs.size = some p4 := u (u (u (Heap.get?_push_size _ B4.free)))
  have k3 : (hZ_ s.heap p1 p2 p3 p4).get? (h2_ s.heap p1 p2).objs.size = some p3 := u (u (u (u (Heap.get?_push_size _ B3.free))))
  have k2 : (hZ_ s.heap p1 p2 p3 p4).get? (h1_ s.heap p1).objs.size = some p2 := u (u (u (u (u (Heap.get?_push_size _ B2.free)))))
  have k1 : (hZ_ s.heap p1 p2 p3 p4).get? s.heap.objs.size = some p1 := u (u (u (u (u (u (Heap.get?_push_size _ B1.free))))))
  rw [yO, yT, y4] at kZ
  rw [yT] at kO
  rw [y4, y3, y2, y1] at kT
  rw [y3] at k4
  rw [y2] at k3
  rw [y1] at k2
  show _ ∧ _
  rw [yO]
  exact ⟨⟨_, kZ, rfl⟩, c _ kZ kT kO k1 k2 k3 k4 fun b ob e => u (u (u (u (u (u (u e))))))⟩
end
theorem new_out {N i j a : Nat} (h : a < N) (hj : j ≠ i) : N + j ∉ ([N + i, a] : List Nat) := fun hm => by
  have q : N + j = N + i ∨ N + j = a := by simpa using hm
  omega
theorem sep4 {N a1 a2 a3 a4 : Nat} (l1 : a1 < N) (l2 : a2 < N) (l3 : a3 < N) (l4 : a4 < N) : Sep4 (N + 6) (N + 4) (N + 5) N (N + 1) (N + 2) (N + 3) [N, a1] [N + 1, a2] [N + 2, a3] [N + 3, a4] :=
  { tiz := show (N + 4 : Nat) ≠ N + 6 by omega,
    toz := show (N + 5 : Nat) ≠ N + 6 by omega,
    tito := show (N + 4 : Nat) ≠ N + 5 by omega,
    tij1 := show (N + 4 : Nat) ≠ N + 0 by omega,
    mem1 := List.mem_cons_self,
    zf1 := new_out (i := 0) (j := 6) l1 (by decide),
    tf1 := new_out (i := 0) (j := 5) l1 (by decide),
    tij2 := show (N + 4 : Nat) ≠ N + 1 by omega,
    mem2 := List.mem_cons_self,
    zf2 := new_out (i := 1) (j := 6) l2 (by decide),
    tf2 := new_out (i := 1) (j := 5) l2 (by decide),
    tij3 := show (N + 4 : Nat) ≠ N + 2 by omega,
    mem3 := List.mem_cons_self,
    zf3 := new_out (i := 2) (j := 6) l3 (by decide),
    tf3 := new_out (i := 2) (j := 5) l3 (by decide),
    tij4 := show (N + 4 : Nat) ≠ N + 3 by omega,
    mem4 := List.mem_cons_self,
    zf4 := new_out (i := 3) (j := 6) l4 (by decide),
    tf4 := new_out (i := 3) (j := 5) l4 (by decide),
    s12 := new_out (i := 1) (j := 0) l2 (by decide),
    s13 := new_out (i := 2) (j := 0) l3 (by decide),
    s14 := new_out (i := 3) (j := 0) l4 (by decide),
    s21 := new_out (i := 0) (j := 1) l1 (by decide),
    s23 := new_out (i := 2) (j := 1) l3 (by decide),
    s24 := new_out (i := 3) (j := 1) l4 (by decide),
    s31 := new_out (i := 0) (j := 2) l1 (by decide),
    s32 := new_out (i := 1) (j := 2) l2 (by decide),
    s34 := new_out (i := 3) (j := 2) l4 (by decide),
    s41 := new_out (i := 0) (j := 3) l1 (by decide),
    s42 := new_out (i := 1) (j := 3) l2 (by decide),
    s43 := new_out (i := 2) (j := 3) l3 (by decide) }
/-- what stands at the four as it stands at each turn, the items in new tuples -/
def It4 (K : PySem.W.Frag) (a1 a2 a3 a4 : Addr) : It :=
  ⟨fun i H => ∃ (xs1 xs2 xs3 xs4 : List V) (x1 x2 x3 x4 : V), SqT K H a1 xs1 ∧ SqT K H a2 xs2 ∧ SqT K H a3 xs3 ∧ SqT K H a4 xs4 ∧ xs1[i]? = some x1 ∧ xs2[i]? = some x2 ∧ xs3[i]? = some x3 ∧ xs4[i]? = some x4,
    fun i H v H' => ∃ T x1 x2 x3 x4, v = .ref T ∧ H T = none ∧ H' = upd H T (.tup [x1, x2, x3, x4]) ∧ (∀ xs, SqT K H a1 xs → xs[i]? = some x1) ∧ (∀ xs, SqT K H a2 xs → xs[i]? = some x2) ∧ (∀ xs, SqT K H a3 xs → xs[i]? = some x3) ∧ (∀ xs, SqT K H a4 xs → xs[i]? = some x4),
    fun i H => ∃ xs1 xs2 xs3 xs4 : List V, SqT K H a1 xs1 ∧ SqT K H a2 xs2 ∧ SqT K H a3 xs3 ∧ SqT K H a4 xs4 ∧ (xs1.length = i ∧ xs2.length = i ∧ xs3.length = i ∧ xs4.length = i)⟩
def st4 (a1 a2 a3 a4 z TI TO i1 i2 i3 i4 : Addr) (i : Nat) (h : Heap) : Prop := IsZip h z TI TO .none ∧ Tp4 h TI (.ref i1) (.ref i2) (.ref i3) (.ref i4) ∧ (∃ b1 b2 b3 b4, Tp4 h TO b1 b2 b3 b4) ∧ h.IsTupleIter i1 a1 i ∧ h.IsTupleIter i2 a2 i ∧ h.IsTupleIter i3 a3 i ∧ h.IsTupleIter i4 a4 i
structure Apart4 (z TI TO i1 i2 i3 i4 a1 a2 a3 a4 : Addr) : Prop where
  s : Sep4 z TI TO i1 i2 i3 i4 [i1, a1] [i2, a2] [i3, a3] [i4, a4]
  n1 : a1 ≠ i1
  n2 : a2 ≠ i2
  n3 : a3 ≠ i3
  n4 : a4 ≠ i4
theorem turn_zip4 {P : Program} {w : World} {K : PySem.W.Frag} {elts : List Expr} {kk : Nat} {tpos : Pos} {a1 a2 a3 a4 z TI TO i1 i2 i3 i4 : Addr} (D : Apart4 z TI TO i1 i2 i3 i4 a1 a2 a3 a4) :
    Turn P w K (.Tuple elts kk tpos) (It4 K a1 a2 a3 a4) [z, TI, TO, i1, i2, i3, i4] z (st4 a1 a2 a3 a4 z TI TO i1 i2 i3 i4) where
  mem := by simp
  obj := fun i h st c hc => by
    obtain ⟨hz, hTI, ⟨b1, b2, b3, b4, hTO⟩, t1, t2, t3, t4⟩ := st
    have e' : c = z ∨ c = TI ∨ c = TO ∨ c = i1 ∨ c = i2 ∨ c = i3 ∨ c = i4 := by simpa using hc
    rcases e' with q | q | q | q | q | q | q
    · rw [q]; exact ⟨_, hz, fun v q => nomatch q⟩
    · rw [q]; exact ⟨_, hTI, fun v q => nomatch q⟩
    · rw [q]; exact ⟨_, hTO, fun v q => nomatch q⟩
    · rw [q]; obtain ⟨o, e, _, d⟩ := t1; exact ⟨o, e, fun v q => by rw [d] at q; cases q⟩
    · rw [q]; obtain ⟨o, e, _, d⟩ := t2; exact ⟨o, e, fun v q => by rw [d] at q; cases q⟩
    · rw [q]; obtain ⟨o, e, _, d⟩ := t3; exact ⟨o, e, fun v q => by rw [d] at q; cases q⟩
    · rw [q]; obtain ⟨o, e, _, d⟩ := t4; exact ⟨o, e, fun v q => by rw [d] at q; cases q⟩
  keep := fun i h h' st k => by
    obtain ⟨hz, hTI, ⟨b1, b2, b3, b4, hTO⟩, t1, t2, t3, t4⟩ := st
    exact ⟨k z (by simp) _ hz, k TI (by simp) _ hTI, ⟨b1, b2, b3, b4, k TO (by simp) _ hTO⟩, t1.at fun o q => k i1 (by simp) o q, t2.at fun o q => k i2 (by simp) o q, t3.at fun o q => k i3 (by simp) o q, t4.at fun o q => k i4 (by simp) o q⟩
  item := by
    intro X hP hw hK hc i pins s σ H E I hf st hg
    subst hP hw hK
    obtain ⟨hz, hTI, hTO, t1, t2, t3, t4⟩ := st
    obtain ⟨xs1, xs2, xs3, xs4, x1, x2, x3, x4, hq1, hq2, hq3, hq4, hx1, hx2, hx3, hx4⟩ := hg
    obtain ⟨its1, rv1, p1, _⟩ := I.tuple hq1
    obtain ⟨u1, hu1, ru1⟩ := rv1.get hx1
    have hil1 : i < its1.toArray.size := by
      obtain ⟨h, _⟩ := List.getElem?_eq_some_iff.mp hu1
      simpa using h
    obtain ⟨its2, rv2, p2, _⟩ := I.tuple hq2
    obtain ⟨u2, hu2, ru2⟩ := rv2.get hx2
    have hil2 : i < its2.toArray.size := by
      obtain ⟨h, _⟩ := List.getElem?_eq_some_iff.mp hu2
      simpa using h
    obtain ⟨its3, rv3, p3, _⟩ := I.tuple hq3
    obtain ⟨u3, hu3, ru3⟩ := rv3.get hx3
    have hil3 : i < its3.toArray.size := by
      obtain ⟨h, _⟩ := List.getElem?_eq_some_iff.mp hu3
      simpa using h
    obtain ⟨its4, rv4, p4, _⟩ := I.tuple hq4
    obtain ⟨u4, hu4, ru4⟩ := rv4.get hx4
    have hil4 : i < its4.toArray.size := by
      obtain ⟨h, _⟩ := List.getElem?_eq_some_iff.mp hu4
      simpa using h
    have hh : X.A.handled = none := I.ok.hd hc
    have W := walks4 (prog := X.prog) (w := X.w) (A := X.A) D.s (Draws.tuple (prog := X.prog) (w := X.w) (A := X.A.in1) hh i1 a1 D.n1 its1.toArray) (Draws.tuple (prog := X.prog) (w := X.w) (A := X.A.in1) hh i2 a2 D.n2 its2.toArray) (Draws.tuple (prog := X.prog) (w := X.w) (A := X.A.in1) hh i3 a3 D.n3 its3.toArray) (Draws.tuple (prog := X.prog) (w := X.w) (A := X.A.in1) hh i4 a4 D.n4 its4.toArray)
    refine W.item i s _ _ (by omega) ⟨hz, hTI, hTO, ⟨t1, p1⟩, ⟨t2, p2⟩, ⟨t3, p3⟩, ⟨t4, p4⟩⟩ fun T vals h' tk hv hT hTu hM hk => ?_
    obtain ⟨y1, y2, y3, y4, e1, e2, e3, e4, rfl⟩ := hv
    have eu1 : y1 = u1 := by
      have q : its1.toArray[i]? = some u1 := by simpa using hu1
      exact Option.some.inj (e1.symm.trans q)
    have eu2 : y2 = u2 := by
      have q : its2.toArray[i]? = some u2 := by simpa using hu2
      exact Option.some.inj (e2.symm.trans q)
    have eu3 : y3 = u3 := by
      have q : its3.toArray[i]? = some u3 := by simpa using hu3
      exact Option.some.inj (e3.symm.trans q)
    have eu4 : y4 = u4 := by
      have q : its4.toArray[i]? = some u4 := by simpa using hu4
      exact Option.some.inj (e4.symm.trans q)
    subst eu1 eu2 eu3 eu4
    refine ⟨_, rfl, W.go _ _ _ i T { s with heap := h', toks := tk } _ _ hM fun h'' st'' hk'' => ?_⟩
    have hap := W.apart _ _ _ hM
    obtain ⟨oT, hoT, hoc, nT, hod⟩ := hTu
    have hT2 : h''.get? T = some oT := hk'' T oT hap hoT
    have new : ObjOk X.prog X.w (upd H T (.tup [x1, x2, x3, x4])) h'' T (.tup [x1, x2, x3, x4]) :=
      ⟨by show 4 ≤ sizeLine; decide, [y1, y2, y3, y4], .cons ru1 (.cons ru2 (.cons ru3 (.cons ru4 .nil))), ⟨_, hT2, hoc, _, hod⟩⟩
    have fp5 : ∀ c, c ∉ [z, TI, TO, i1, i2, i3, i4] → c ∉ [z, TO, i1, i2, i3, i4] := fun c hc hm => hc (by
      have e : c = z ∨ c = TO ∨ c = i1 ∨ c = i2 ∨ c = i3 ∨ c = i4 := by simpa using hm
      rcases e with e | e | e | e | e | e <;> simp [e])
    have I1 : Inv X pins σ (upd H T (.tup [x1, x2, x3, x4])) { s with heap := h'', toks := tk } :=
      I.turnedNew (t' := tk) (ch := [z, TI, TO, i1, i2, i3, i4]) (fun c o hb q => hk'' c o (fp5 c hb) (hk c o (fp5 c hb) q)) hf hT new
    refine ⟨.ref T, _, I1, rfl, ⟨_, x1, x2, x3, x4, rfl, I.hok.fresh hT, rfl, fun l hl => by rw [I.tuple_inj hl hq1]; exact hx1, fun l hl => by rw [I.tuple_inj hl hq2]; exact hx2, fun l hl => by rw [I.tuple_inj hl hq3]; exact hx3, fun l hl => by rw [I.tuple_inj hl hq4]; exact hx4⟩, ?_, fun c hcm => ?_⟩
    · obtain ⟨z1, z2, z3, z4, z5, z6, z7⟩ := st''
      exact ⟨z1, z2, z3, z4.1, z5.1, z6.1, z7.1⟩
    · have hlt : c < s.heap.objs.size := by
        have e' : c = z ∨ c = TI ∨ c = TO ∨ c = i1 ∨ c = i2 ∨ c = i3 ∨ c = i4 := by simpa using hcm
        rcases e' with q | q | q | q | q | q | q
        · rw [q]; exact Heap.lt_size hz
        · rw [q]; exact Heap.lt_size hTI
        · obtain ⟨_, _, _, _, hTO⟩ := hTO; rw [q]; exact Heap.lt_size hTO
        · rw [q]; obtain ⟨_, e, _⟩ := t1; exact Heap.lt_size e
        · rw [q]; obtain ⟨_, e, _⟩ := t2; exact Heap.lt_size e
        · rw [q]; obtain ⟨_, e, _⟩ := t3; exact Heap.lt_size e
        · rw [q]; obtain ⟨_, e, _⟩ := t4; exact Heap.lt_size e
      rw [upd_ne (Nat.ne_of_lt (Nat.lt_of_lt_of_le hlt hT))]
      exact (hf c hcm).1
  done := by
    intro X hP hw hK hc i pins s σ H E I hf st hg
    subst hP hw hK
    obtain ⟨hz, hTI, ⟨b1, b2, b3, b4, hTO⟩, t1, t2, t3, t4⟩ := st
    obtain ⟨xs1, xs2, xs3, xs4, hq1, hq2, hq3, hq4, l1, l2, l3, l4⟩ := hg
    obtain ⟨its1, rv1, p1, _⟩ := I.tuple hq1
    have m1 := rv1.length
    obtain ⟨its2, rv2, p2, _⟩ := I.tuple hq2
    have m2 := rv2.length
    obtain ⟨its3, rv3, p3, _⟩ := I.tuple hq3
    have m3 := rv3.length
    obtain ⟨its4, rv4, p4, _⟩ := I.tuple hq4
    have m4 := rv4.length
    have hh : X.A.handled = none := I.ok.hd hc
    have W := walks4 (prog := X.prog) (w := X.w) (A := X.A) D.s (Draws.tuple (prog := X.prog) (w := X.w) (A := X.A.in1) hh i1 a1 D.n1 its1.toArray) (Draws.tuple (prog := X.prog) (w := X.w) (A := X.A.in1) hh i2 a2 D.n2 its2.toArray) (Draws.tuple (prog := X.prog) (w := X.w) (A := X.A.in1) hh i3 a3 D.n3 its3.toArray) (Draws.tuple (prog := X.prog) (w := X.w) (A := X.A.in1) hh i4 a4 D.n4 its4.toArray)
    have e : min (min (min its1.toArray.size its2.toArray.size) its3.toArray.size) its4.toArray.size = i := by simp; omega
    rw [e] at W
    refine W.done s _ _ ⟨hz, hTI, ⟨b1, b2, b3, b4, hTO⟩, ⟨t1, p1⟩, ⟨t2, p2⟩, ⟨t3, p3⟩, ⟨t4, p4⟩⟩ fun h' tk hk => ⟨rfl, I.turnedL (t' := tk) (ch := [z, TI, TO, i1, i2, i3, i4]) (fun c o hb q => hk c o (fun hm => hb (by
      have e : c = z ∨ c = TO ∨ c = i1 ∨ c = i2 ∨ c = i3 ∨ c = i4 := by simpa using hm
      rcases e with e | e | e | e | e | e <;> simp [e])) q) hf⟩
  self := fun A i s Q E st h => wpAny_pyIter_zip st.1 h
def iZip4 (K : PySem.W.Frag) (ta : TA) : TI := fun σ H R => ta σ H fun vs H1 => ∃ a1 a2 a3 a4 xs1 xs2 xs3 xs4, vs = [.ref a1, .ref a2, .ref a3, .ref a4] ∧ SqT K H1 a1 xs1 ∧ SqT K H1 a2 xs2 ∧ SqT K H1 a3 xs3 ∧ SqT K H1 a4 xs4 ∧ R (It4 K a1 a2 a3 a4) H1
theorem pi_zip4 {X : Cx} {e1 e2 e3 e4 : Expr} {ta : TA} {p pos tpos : Pos} {elts : List Expr} {kk : Nat} (hg : Gl X "zip") (hm : X.mg "zip" = none) (ha : PA X [e1, e2, e3, e4] ta)
    (hs : starEach [e1, e2, e3, e4] X.env = (false, eval e1 X.env) :: starEach [e2, e3, e4] X.env := by rfl) (hpl : (backTo pos (starEach [e2, e3, e4] X.env)).any (·.1) = false := by rfl) :
    PI X (.Tuple elts kk tpos) (.Call (.Name "zip" p) [e1, e2, e3, e4] [] pos) (iZip4 X.K ta) := by
  refine ⟨fun pins s σ H R I h => ?_⟩
  refine Call_ (ld_blt I hg hm PyProof.Rows.boot_zip (PyProof.Rows.callWith_type1 (thn (ha.run pos pins s σ H _ I h) fun us s1 ⟨vs, H1, I1, r1, q1⟩ => ?_) hs hpl))
  obtain ⟨a1, a2, a3, a4, xs1, xs2, xs3, xs4, ex, hq1, hq2, hq3, hq4, q⟩ := q1
  subst ex
  cases r1 with
  | cons r1 rr =>
  cases rr with
  | cons r2 rr =>
  cases rr with
  | cons r3 rr =>
  cases rr with
  | cons r4 rr =>
  cases rr
  cases r1
  cases r2
  cases r3
  cases r4
  have fresh7 : ∀ c, c ∈ [s1.heap.objs.size + 6, s1.heap.objs.size + 4, s1.heap.objs.size + 5, s1.heap.objs.size, s1.heap.objs.size + 1, s1.heap.objs.size + 2, s1.heap.objs.size + 3] → FpOk X pins H1 c := fun c hcm => by
    have e' : c = s1.heap.objs.size + 6 ∨ c = s1.heap.objs.size + 4 ∨ c = s1.heap.objs.size + 5 ∨ c = s1.heap.objs.size ∨ c = s1.heap.objs.size + 1 ∨ c = s1.heap.objs.size + 2 ∨ c = s1.heap.objs.size + 3 := by simpa using hcm
    have hle : s1.heap.objs.size ≤ c := by
      rcases e' with z | z | z | z | z | z | z <;> rw [z] <;> first | exact Nat.le_refl _ | exact Nat.le_add_right _ _
    exact I1.fpOk hle (I1.hok.fresh hle)
  have lt : ∀ {a : Addr} {its : List Value}, s1.heap.IsTuple a its.toArray → a < s1.heap.objs.size := fun h => by
    obtain ⟨o, ho, _⟩ := id h
    exact Heap.lt_size ho
  obtain ⟨its1, rv1, p1, _⟩ := I1.tuple hq1
  obtain ⟨its2, rv2, p2, _⟩ := I1.tuple hq2
  obtain ⟨its3, rv3, p3, _⟩ := I1.tuple hq3
  obtain ⟨its4, rv4, p4, _⟩ := I1.tuple hq4
  refine begins4 (begins_tuple a1 its1.toArray) (begins_tuple a2 its2.toArray) (begins_tuple a3 its3.toArray) (begins_tuple a4 its4.toArray) p1 p2 p3 p4 fun h' hz hTI hTO k1 k2 k3 k4 hk => wpAny_pyIter_zip hz ?_
  have I2 : Inv X pins σ H1 { s1 with heap := h' } := I1.kept (t' := s1.toks) hk
  exact ⟨s1.heap.objs.size + 6, [s1.heap.objs.size + 6, s1.heap.objs.size + 4, s1.heap.objs.size + 5, s1.heap.objs.size, s1.heap.objs.size + 1, s1.heap.objs.size + 2, s1.heap.objs.size + 3], _, _, H1, rfl, I2,
    turn_zip4 ⟨sep4 (lt p1) (lt p2) (lt p3) (lt p4), Nat.ne_of_lt (lt p1), Nat.ne_of_lt (Nat.lt_succ_of_lt (lt p2)), Nat.ne_of_lt (Nat.lt_succ_of_lt (Nat.lt_succ_of_lt (lt p3))), Nat.ne_of_lt (Nat.lt_succ_of_lt (Nat.lt_succ_of_lt (Nat.lt_succ_of_lt (lt p4))))⟩,
    ⟨hz, hTI, ⟨_, _, _, _, hTO⟩, ⟨_, k1, rfl, rfl⟩, ⟨_, k2, rfl, rfl⟩, ⟨_, k3, rfl, rfl⟩, ⟨_, k4, rfl, rfl⟩⟩, fresh7, q⟩
end Z4

namespace GX
open PySem PySem.Spec PyProof.Rows L2
section
variable {X : Cx}
/-- xs[i] of a list, by values -/
theorem pget_list : PGet X (rIxL X.K) := by
  intro pins s σ H o i ov iv Q I ro ri h
  obtain ⟨p, xs, i, z, rfl, rfl, hq, he, q⟩ := h
  cases ro
  obtain ⟨t, rfl⟩ := ri
  obtain ⟨its, r, pl, hz⟩ := I.list hq
  obtain ⟨j, h1, h2, h3, h4, h5⟩ := atI_get he
  obtain ⟨w, ew, rw'⟩ := r.get h2
  have hl := r.length
  have hn := line63
  have fin : EP X pins σ Q w s := ⟨z, H, I, rw', q⟩
  by_cases h0 : 0 ≤ i
  · have hj : i.toNat = j := by
      rw [seqIndex_of h0 h5] at h1
      exact Option.some.inj h1
    exact wpAny_getItem_list pl.isList h0 (by omega) (by rw [hj]; simpa using ew) fin
  · have hj : (i + (its.toArray.size : Int)).toNat = j := by
      rw [seqIndex_neg (by omega) h4] at h1
      rw [List.size_toArray, ← hl]
      exact Option.some.inj h1
    exact wpAny_getItem_list_neg pl.isList (by omega) (by rw [List.size_toArray] <;> omega) (by omega) (by rw [hj]; simpa using ew) fin
theorem pget_list_K {K : PySem.W.Frag} (h : X.K = K) : PGet X (rIxL K) := h ▸ pget_list
end
/-- a call of a local that holds some def -/
def tCallH (P : Program) (w : World) (K : PySem.W.Frag) (mg : Str → Option Value) (base : Heap) (k i : Nat) (t : TA) : TE := fun σ H Q => ∃ f sp, σ[i]? = some (some (.ref f)) ∧ Held P w K mg base k f sp ∧ t σ H fun vs H1 => sp vs H1 Q (fun _ _ _ => False)
section
variable {X : Cx} {k i : Nat} {x : Str} {p pos : Pos} {e : Expr} {es : List Expr} {t : TA}
theorem pe_callH (hr : Room k X.A) (hN : X.N[i]? = some x) (hv : Vis X.env.scope x) (ha : PA X (e :: es) t)
    (hdb : (x == ("__debug__" : Str)) = false := by decide) (hcd : (x == ("__classdict__" : Str)) = false := by decide)
    (he : starEach (e :: es) X.env = (false, eval e X.env) :: starEach es X.env := by rfl) (hpl : (backTo pos (starEach es X.env)).any (·.1) = false := by rfl) : PE X (.Call (.Name x p) (e :: es) [] pos) (tCallH X.prog X.w X.K X.mg X.base k i t) := by
  refine ⟨fun pins s σ H Q I h => ?_⟩
  obtain ⟨f, sp, hs, hd, ht⟩ := h
  exact (pe_callA (i := i) (S := fun g => if g = f then some sp else none) (fun g sp' e => by
    split at e
    · rename_i c; subst c; cases e; exact hd
    · cases e) hr hN hv ha hdb hcd he hpl).run pins s σ H Q I ⟨f, sp, hs, if_pos rfl, ht⟩
/-- the name of a def, as a value -/
def tHeld (P : Program) (w : World) (K : PySem.W.Frag) (mg : Str → Option Value) (base : Heap) (k : Nat) (sp : Sp) : TE := fun _ H Q => ∀ f, Held P w K mg base k f sp → Q (.ref f) H
end
section
variable {X : Cx} {C : Addr} {bmB : List Value} {B newId initId : String}
/-- X() -/
theorem pmk_own0 {x : Str} {p pos : Pos} (F : ExcBaseFacts B newId initId bmB) (q : PySem.W.excIn X.K C bmB newId = true) (gC : X.mg x = some (.ref C)) (kC : PySem.W.keepIn X.K (.ref C) = true) (r : Raises X (.ref C)) (hg : Gl X x)
    (hdb : (x == ("__debug__" : Str)) = false := by decide) : PMk X (.Call (.Name x p) [] [] pos) (fun _ H Q => Q (.ref C) none H) := by
  intro pins s σ H Q I h
  refine wpAny_Call_Name_kw (ld_glob I hg gC ?_ hdb)
  refine PySem.W.callWith_K0 I.kIn kC ?_
  show wpAny _ _ (call (.ref C) []) _ _ _
  obtain ⟨bm, N, nm, qn, bs, hdct, sn, sub, ab, col, dd, k0, k1, k2, k3, k5, mN, hC, hN, hni, T⟩ := exc_obj I.kIn q
  exact wpAny_call_exc_subT F T hC hN hni (fun h' e hm => mk_of I hm r h (I.hok.gone hm.new)) (Nat.zero_le _)
end
/-- isinstance(e, t), e the exception that the suite holds, t a tuple of classes -/
def rIsT (K : PySem.W.Frag) (D a : Addr) : List V → Hp → VK → Prop := fun xs H Q => ∃ (tp : Addr) (cs : List Addr) (b : Bool), xs = [.ref a, .ref tp] ∧ SqT K H tp (cs.map V.ref) ∧ PySem.W.kitAny K (.ref D) (cs.map Value.ref) = some b ∧ Q (.bl b) H
theorem vals_refs : ∀ {cs : List Addr} {its : List Value}, Vals (cs.map V.ref) its → its = cs.map Value.ref
  | [], _, h => by cases h; rfl
  | c :: r, _, h => by
    cases h with
    | cons h1 h2 =>
      cases h1
      rw [vals_refs h2]
      rfl
def rIsE' (K : PySem.W.Frag) (D a : Addr) (cls : Value) (d : Option Addr) : List V → Hp → VK → Prop := fun xs H Q => cls = .ref D ∧ d = none ∧ rIsT K D a xs H Q
theorem call_isT {X : Cx} {K : PySem.W.Frag} {a D : Addr} {oe : Obj} {cls : Value} {d : Option Addr} {pn : List (Addr × Obj)} (hK : X.K = K) (C : ExcC K D) (hz : Zc cls d oe) (hf : ∃ vs, oe.data = .fields vs) : CallR (X.suite a ((a, oe) :: pn)) (.builtin "isinstance") (rIsE' K D a cls d) := by
  subst hK
  intro pins s σ H xs us Q I r h
  obtain ⟨rfl, rfl, tp, cs, b, rfl, hcv, e, q⟩ := h
  cases r with
  | cons rx rr =>
    cases rr with
    | cons rt rr =>
      cases rr
      cases rx
      cases rt
      obtain ⟨hget, _⟩ := I.pin (a, oe) (List.mem_append.mpr (.inl List.mem_cons_self))
      obtain ⟨vs, hv⟩ := hf
      have J : PySem.W.InstAt s.heap a oe D none := by
        obtain ⟨oc, od, oda, osl⟩ := oe
        obtain ⟨h1, h2⟩ := hz
        dsimp only at h1 h2 hv
        subst h1 h2 hv
        exact ⟨hget, rfl, rfl, trivial⟩
      obtain ⟨its, rv, ⟨ot, ho, hc, n, hd⟩, _⟩ := I.tuple hcv
      have ei := vals_refs rv
      subst ei
      obtain ⟨otc, otd, otda, otsl⟩ := ot
      dsimp only at hc hd
      subst hc hd
      exact PySem.W.kia_tup (PySem.W.handS_kitx_exc C.hg C.hk C.hs C.hd C.ha C.hn C.ht C.hm) I.kIn J ho e (fun z => nomatch z) fun tk => ⟨.bl b, H, I.kept (t' := tk) fun _ _ z => z, rfl, q⟩
end GX

/-! readings on data: values without the heap -/
namespace DL
open PySem PySem.Spec PyProof.Rows L2 GxR GX

/-- data: None, bools, ints, texts, tuples, lists that nobody changes; an address that is a thing of its own -/
inductive D where
  | non | bl (b : Bool) | int (i : Int) | str (x : Str) | tup (ds : List D) | lst (ds : List D) | adr (a : Addr) | ty (n : String)

section
variable (S : Addr → Prop) (K : PySem.W.Frag) (H : Hp)
mutual
def Dv (v : V) : D → Prop
  | .non => v = .non
  | .bl b => v = .bl b
  | .int i => v = .int i
  | .str x => v = .str x
  | .ty n => v = .ty n
  | .adr a => v = .ref a
  | .tup ds => ∃ a xs, v = .ref a ∧ SqT K H a xs ∧ DvAll xs ds
  | .lst ds => ∃ a xs, v = .ref a ∧ ¬ S a ∧ H a = some (.lst xs) ∧ DvAll xs ds
def DvAll (vs : List V) : List D → Prop
  | [] => vs = []
  | d :: r => ∃ v w, vs = v :: w ∧ Dv v d ∧ DvAll w r
end
end

/-- what a step may do: fr tells which objects it may change; tables grow; new objects come -/
structure Ext (fr : Addr → Prop) (H H' : Hp) : Prop where
  keep : ∀ a o, ¬ fr a → (∀ ps, o ≠ .tbl ps) → H a = some o → H' a = some o
  tup : ∀ a xs, Rd H a (.tup xs) → Rd H' a (.tup xs)
  tbl : ∀ a, TabG H a → TabG H' a
  live : ∀ a, H a ≠ none → H' a ≠ none
abbrev F0 : Addr → Prop := fun _ => False
theorem Ext.refl {fr : Addr → Prop} {H : Hp} : Ext fr H H := ⟨fun _ _ _ _ h => h, fun _ _ h => h, fun _ h => h, fun _ h => h⟩
theorem Ext.trans {fr : Addr → Prop} {H H1 H2 : Hp} (a : Ext fr H H1) (b : Ext fr H1 H2) : Ext fr H H2 :=
  ⟨fun x o n t h => b.keep x o n t (a.keep x o n t h), fun x xs h => b.tup x xs (a.tup x xs h), fun x h => b.tbl x (a.tbl x h), fun x h => b.live x (a.live x h)⟩
theorem Ext.mono {fr fr' : Addr → Prop} {H H' : Hp} (e : Ext fr H H') (h : ∀ a, fr a → fr' a) : Ext fr' H H' :=
  ⟨fun x o n t q => e.keep x o (fun z => n (h x z)) t q, e.tup, e.tbl, e.live⟩
theorem Ext.of0 {fr : Addr → Prop} {H H' : Hp} (e : Ext F0 H H') : Ext fr H H' := e.mono fun _ z => z.elim
theorem Ext.new {fr : Addr → Prop} {H : Hp} {p : Addr} {o : HO} (h : H p = none) : Ext fr H (upd H p o) := by
  have k : ∀ a u, H a = some u → (upd H p o) a = some u := fun a u e => by rw [upd_ne (ne_of_none e h)]; exact e
  refine ⟨fun a u _ _ e => k a u e, fun a xs r => ?_, fun a ⟨ps, e, t⟩ => ⟨ps, k a _ e, t⟩, fun a e z => ?_⟩
  · rcases r with r | ⟨u, r⟩
    · exact .inl (k a _ r)
    · exact .inr ⟨u, k a _ r⟩
  · cases q : H a with
    | none => exact e q
    | some u => rw [k a u q] at z; cases z
/-- an object that may change does -/
theorem Ext.write {fr : Addr → Prop} {H : Hp} {p : Addr} {o u : HO} (hp : fr p) (e : H p = some u) (ht : ∀ xs, ¬ Rd H p (.tup xs)) (hb : ¬ TabG H p) : Ext fr H (upd H p o) := by
  refine ⟨fun a x n _ q => ?_, fun a xs r => ?_, fun a t => ?_, fun a q z => ?_⟩
  · rw [upd_ne (fun z : a = p => n (by rw [z]; exact hp))]; exact q
  · have : a ≠ p := fun z => ht xs (z ▸ r)
    rcases r with r | ⟨x, r⟩
    · exact .inl (by rw [upd_ne this]; exact r)
    · exact .inr ⟨x, by rw [upd_ne this]; exact r⟩
  · have : a ≠ p := fun z => hb (z ▸ t)
    obtain ⟨ps, e1, e2⟩ := t
    exact ⟨ps, by rw [upd_ne this]; exact e1, e2⟩
  · by_cases h : a = p
    · rw [h, upd_same] at z; cases z
    · rw [upd_ne h] at z; exact q z
theorem Ext.wlst {fr : Addr → Prop} {H : Hp} {p : Addr} {o : HO} {xs : List V} (hp : fr p) (e : H p = some (.lst xs)) : Ext fr H (upd H p o) :=
  Ext.write hp e (fun ys r => by
    rcases r with r | ⟨x, r⟩ <;> rw [e] at r <;> cases r) (fun t => by
    obtain ⟨ps, e1, _⟩ := t
    rw [e] at e1; cases e1)
theorem Ext.tabbed {fr : Addr → Prop} {H H' : Hp} {P : Addr} (t : Tabbed P H H') (h0 : TabG H P) : Ext fr H H' := by
  obtain ⟨t1, t2⟩ := t
  obtain ⟨ps0, e0, _⟩ := h0
  refine ⟨fun a o _ nt e => ?_, fun a xs r => ?_, fun a q => ?_, fun a q => ?_⟩
  · by_cases ha : a = P
    · subst ha; rw [e0] at e; cases e; exact absurd rfl (nt ps0)
    · rw [t2 a ha]; exact e
  · by_cases ha : a = P
    · subst ha; rcases r with r | ⟨x, r⟩ <;> rw [e0] at r <;> cases r
    · rcases r with r | ⟨x, r⟩
      · exact .inl (by rw [t2 a ha]; exact r)
      · exact .inr ⟨x, by rw [t2 a ha]; exact r⟩
  · by_cases ha : a = P
    · subst ha; exact t1
    · obtain ⟨ps, e1, e2⟩ := q
      exact ⟨ps, by rw [t2 a ha]; exact e1, e2⟩
  · by_cases ha : a = P
    · subst ha
      obtain ⟨ps, e1, _⟩ := t1
      rw [e1]; simp
    · rw [t2 a ha]; exact q
theorem Ext.sqT {fr : Addr → Prop} {H H' : Hp} {K : PySem.W.Frag} {a : Addr} {xs : List V} (e : Ext fr H H') (h : SqT K H a xs) : SqT K H' a xs := by
  rcases h with h | h
  · exact .inl (e.tup a xs h)
  · exact .inr h

section
variable {S S' fr : Addr → Prop} {K : PySem.W.Frag} {H H' : Hp}
mutual
theorem Dv.ext (hs : ∀ a, fr a → S a) (e : Ext fr H H') : ∀ (d : D) (v : V), Dv S K H v d → Dv S K H' v d
  | .non, v, h => h
  | .bl b, v, h => h
  | .int i, v, h => h
  | .str x, v, h => h
  | .ty n, v, h => h
  | .adr a, v, h => h
  | .tup ds, v, h => by
    unfold Dv at h ⊢
    obtain ⟨a, xs, e1, h1, h2⟩ := h
    exact ⟨a, xs, e1, e.sqT h1, DvAll.ext hs e ds xs h2⟩
  | .lst ds, v, h => by
    unfold Dv at h ⊢
    obtain ⟨a, xs, e1, h0, h1, h2⟩ := h
    exact ⟨a, xs, e1, h0, e.keep a _ (fun z => h0 (hs a z)) (fun ps q => by cases q) h1, DvAll.ext hs e ds xs h2⟩
theorem DvAll.ext (hs : ∀ a, fr a → S a) (e : Ext fr H H') : ∀ (ds : List D) (vs : List V), DvAll S K H vs ds → DvAll S K H' vs ds
  | [], vs, h => h
  | d :: r, vs, h => by
    unfold DvAll at h ⊢
    obtain ⟨v, w, e1, h1, h2⟩ := h
    exact ⟨v, w, e1, Dv.ext hs e d v h1, DvAll.ext hs e r w h2⟩
end
mutual
/-- the lists stand on addresses of which p holds -/
theorem Dv.sub (hs : ∀ a, S' a → H a ≠ none → S a) : ∀ (d : D) (v : V), Dv S K H v d → Dv S' K H v d
  | .non, v, h => h
  | .bl b, v, h => h
  | .int i, v, h => h
  | .str x, v, h => h
  | .ty n, v, h => h
  | .adr a, v, h => h
  | .tup ds, v, h => by
    unfold Dv at h ⊢
    obtain ⟨a, xs, e1, h1, h2⟩ := h
    exact ⟨a, xs, e1, h1, DvAll.sub hs ds xs h2⟩
  | .lst ds, v, h => by
    unfold Dv at h ⊢
    obtain ⟨a, xs, e1, h0, h1, h2⟩ := h
    exact ⟨a, xs, e1, fun z => h0 (hs a z (by rw [h1]; simp)), h1, DvAll.sub hs ds xs h2⟩
theorem DvAll.sub (hs : ∀ a, S' a → H a ≠ none → S a) : ∀ (ds : List D) (vs : List V), DvAll S K H vs ds → DvAll S' K H vs ds
  | [], vs, h => h
  | d :: r, vs, h => by
    unfold DvAll at h ⊢
    obtain ⟨v, w, e1, h1, h2⟩ := h
    exact ⟨v, w, e1, Dv.sub hs d v h1, DvAll.sub hs r w h2⟩
end
theorem DvAll.cons {v : V} {vs : List V} {d : D} {ds : List D} (h : Dv S K H v d) (hr : DvAll S K H vs ds) : DvAll S K H (v :: vs) (d :: ds) := by
  unfold DvAll
  exact ⟨v, vs, rfl, h, hr⟩
theorem DvAll.nil : DvAll S K H [] [] := by
  unfold DvAll; rfl
theorem DvAll.length : ∀ {ds : List D} {vs : List V}, DvAll S K H vs ds → vs.length = ds.length
  | [], vs, h => by unfold DvAll at h; subst h; rfl
  | d :: r, vs, h => by
    unfold DvAll at h
    obtain ⟨v, w, rfl, _, h2⟩ := h
    rw [List.length_cons, List.length_cons, DvAll.length h2]
theorem DvAll.get : ∀ {ds : List D} {vs : List V} {i : Nat} {d : D}, DvAll S K H vs ds → ds[i]? = some d → ∃ v, vs[i]? = some v ∧ Dv S K H v d
  | [], _, _, _, _, e => by simp at e
  | d :: r, vs, 0, d', h, e => by
    unfold DvAll at h
    obtain ⟨v, w, rfl, h1, _⟩ := h
    simp at e; subst e
    exact ⟨v, rfl, h1⟩
  | d :: r, vs, i + 1, d', h, e => by
    unfold DvAll at h
    obtain ⟨v, w, rfl, _, h2⟩ := h
    obtain ⟨v', e1, e2⟩ := DvAll.get (i := i) h2 (by simpa using e)
    exact ⟨v', by simpa using e1, e2⟩
theorem DvAll.get' {ds : List D} {vs : List V} {i : Nat} {v : V} (h : DvAll S K H vs ds) (e : vs[i]? = some v) : ∃ d, ds[i]? = some d ∧ Dv S K H v d := by
  have hl := h.length
  obtain ⟨hi, _⟩ := List.getElem?_eq_some_iff.mp e
  have hi' : i < ds.length := by omega
  obtain ⟨v', e1, e2⟩ := h.get (List.getElem?_eq_getElem hi')
  rw [e] at e1; cases e1
  exact ⟨_, List.getElem?_eq_getElem hi', e2⟩
theorem DvAll.append : ∀ {ds es : List D} {vs ws : List V}, DvAll S K H vs ds → DvAll S K H ws es → DvAll S K H (vs ++ ws) (ds ++ es)
  | [], es, vs, ws, h, g => by unfold DvAll at h; subst h; exact g
  | d :: r, es, vs, ws, h, g => by
    unfold DvAll at h
    obtain ⟨v, w, rfl, h1, h2⟩ := h
    exact DvAll.cons h1 (DvAll.append h2 g)
theorem DvAll.take : ∀ {ds : List D} {vs : List V} (n : Nat), DvAll S K H vs ds → DvAll S K H (vs.take n) (ds.take n)
  | [], vs, n, h => by unfold DvAll at h; subst h; simp; exact DvAll.nil
  | d :: r, vs, 0, h => DvAll.nil
  | d :: r, vs, n + 1, h => by
    unfold DvAll at h
    obtain ⟨v, w, rfl, h1, h2⟩ := h
    exact DvAll.cons h1 (DvAll.take n h2)
theorem DvAll.drop : ∀ {ds : List D} {vs : List V} (n : Nat), DvAll S K H vs ds → DvAll S K H (vs.drop n) (ds.drop n)
  | [], vs, n, h => by unfold DvAll at h; subst h; simp; exact DvAll.nil
  | d :: r, vs, 0, h => h
  | d :: r, vs, n + 1, h => by
    unfold DvAll at h
    obtain ⟨v, w, rfl, h1, h2⟩ := h
    exact DvAll.drop n h2
theorem DvAll.reverse {ds : List D} {vs : List V} (h : DvAll S K H vs ds) : DvAll S K H vs.reverse ds.reverse := by
  induction ds generalizing vs with
  | nil => unfold DvAll at h; subst h; exact DvAll.nil
  | cons d r ih =>
    unfold DvAll at h
    obtain ⟨v, w, rfl, h1, h2⟩ := h
    rw [List.reverse_cons, List.reverse_cons]
    exact (ih h2).append (.cons h1 .nil)
theorem DvAll.set {d : D} {v : V} (h0 : Dv S K H v d) : ∀ {ds : List D} {vs : List V} (n : Nat), DvAll S K H vs ds → DvAll S K H (vs.set n v) (ds.set n d)
  | [], vs, n, h => by unfold DvAll at h; subst h; exact DvAll.nil
  | d :: r, vs, 0, h => by
    unfold DvAll at h
    obtain ⟨v, w, rfl, h1, h2⟩ := h
    exact DvAll.cons h0 h2
  | d :: r, vs, n + 1, h => by
    unfold DvAll at h
    obtain ⟨v, w, rfl, h1, h2⟩ := h
    exact DvAll.cons h1 (DvAll.set h0 n h2)
theorem DvAll.ints : ∀ {ns : List Int} {vs : List V}, DvAll S K H vs (ns.map D.int) → vs = ns.map V.int
  | [], vs, h => by unfold DvAll at h; exact h
  | n :: r, vs, h => by
    rw [List.map_cons] at h
    unfold DvAll at h
    obtain ⟨v, w, rfl, h1, h2⟩ := h
    unfold Dv at h1
    rw [h1, DvAll.ints h2]
    rfl
theorem DvAll.of_ints : ∀ {ns : List Int}, DvAll S K H (ns.map V.int) (ns.map D.int)
  | [] => DvAll.nil
  | n :: r => DvAll.cons (by unfold Dv; rfl) DvAll.of_ints
theorem DvAll.bls : ∀ {ns : List Bool} {vs : List V}, DvAll S K H vs (ns.map D.bl) → vs = ns.map V.bl
  | [], vs, h => by unfold DvAll at h; exact h
  | n :: r, vs, h => by
    rw [List.map_cons] at h
    unfold DvAll at h
    obtain ⟨v, w, rfl, h1, h2⟩ := h
    unfold Dv at h1
    rw [h1, DvAll.bls h2]
    rfl
end

/-! ### slots -/
abbrev Env' := List (Option D)
structure EnvD (S : Addr → Prop) (K : PySem.W.Frag) (H : Hp) (σ : L2.St) (Γ : Env') : Prop where
  len : σ.length = Γ.length
  at_ : ∀ (i : Nat) (d : D), Γ[i]? = some (some d) → ∃ v, σ[i]? = some (some v) ∧ Dv S K H v d
section
variable {S S' fr : Addr → Prop} {K : PySem.W.Frag} {H H' : Hp} {σ : L2.St} {Γ : Env'}
theorem EnvD.ext (hs : ∀ a, fr a → S a) (e : Ext fr H H') (h : EnvD S K H σ Γ) : EnvD S K H' σ Γ :=
  ⟨h.len, fun i d q => let ⟨v, h1, h2⟩ := h.at_ i d q; ⟨v, h1, Dv.ext hs e d v h2⟩⟩
theorem EnvD.sub (hs : ∀ a, S' a → H a ≠ none → S a) (h : EnvD S K H σ Γ) : EnvD S' K H σ Γ :=
  ⟨h.len, fun i d q => let ⟨v, h1, h2⟩ := h.at_ i d q; ⟨v, h1, Dv.sub hs d v h2⟩⟩
theorem EnvD.set {i : Nat} {v : V} {d : D} (h : EnvD S K H σ Γ) (r : Dv S K H v d) : EnvD S K H (σ.set i (some v)) (Γ.set i (some d)) := by
  refine ⟨by rw [List.length_set, List.length_set]; exact h.len, fun j e q => ?_⟩
  by_cases hj : j = i
  · subst hj
    have hi : j < Γ.length := by
      obtain ⟨q1, _⟩ := List.getElem?_eq_some_iff.mp q
      simpa using q1
    rw [List.getElem?_set_self hi] at q
    cases q
    exact ⟨v, List.getElem?_set_self (by rw [h.len]; exact hi), r⟩
  · rw [List.getElem?_set_ne (Ne.symm hj)] at q
    obtain ⟨w, h1, h2⟩ := h.at_ j e q
    exact ⟨w, by rw [List.getElem?_set_ne (Ne.symm hj)]; exact h1, h2⟩
def wipeG (Γ : Env') : List Nat → Env'
  | [] => Γ
  | v :: vs => (wipeG Γ vs).set v none
theorem EnvD.wipe (h : EnvD S K H σ Γ) : ∀ vs : List Nat, EnvD S K H (L2.wipe σ vs) (wipeG Γ vs)
  | [] => h
  | v :: vs => by
    have ih := EnvD.wipe h vs
    refine ⟨by unfold L2.wipe wipeG; rw [List.length_set, List.length_set]; exact ih.len, fun j e q => ?_⟩
    unfold wipeG at q
    unfold L2.wipe
    by_cases hj : j = v
    · subst hj
      have hi : j < (wipeG Γ vs).length := by
        obtain ⟨q1, _⟩ := List.getElem?_eq_some_iff.mp q
        simpa using q1
      rw [List.getElem?_set_self hi] at q
      cases q
    · rw [List.getElem?_set_ne (Ne.symm hj)] at q ⊢
      exact ih.at_ j e q
theorem EnvD.start {N : List Str} {vs : List V} {ds : List D} (h : DvAll S K H vs ds) : EnvD S K H (L2.start N vs) (ds.map some ++ List.replicate (N.length - ds.length) none) := by
  have hl := h.length
  refine ⟨by unfold L2.start; simp [hl], fun i d q => ?_⟩
  by_cases hi : i < ds.length
  · rw [List.getElem?_append_left (by simpa using hi), List.getElem?_map] at q
    cases e : ds[i]? with
    | none => rw [e] at q; cases q
    | some x =>
      rw [e] at q
      cases q
      obtain ⟨v, e1, e2⟩ := h.get e
      refine ⟨v, ?_, e2⟩
      unfold L2.start
      rw [List.getElem?_append_left (by simp; omega), List.getElem?_map, e1]
      rfl
  · rw [List.getElem?_append_right (by simpa using hi), List.getElem?_replicate] at q
    split at q <;> cases q
end
end DL

namespace DL
open PySem PySem.Spec PyProof.Rows L2 GxR GX

/-- where code runs: S: the lists on which no data stands; fr: what a step may change; I: what holds of the heap, by what is kept apart (M) -/
structure Wd (K : PySem.W.Frag) (M : Type) where
  S : Addr → Prop
  fr : Addr → Prop
  tabs : List Addr
  I : M → Hp → Prop
  sub : ∀ a, fr a → S a
  live : ∀ μ H a, I μ H → S a → H a ≠ none
  tab : ∀ μ H, I μ H → ∀ P ∈ tabs, TabG H P
  stay : ∀ μ H H', I μ H → Ext F0 H H' → I μ H'
  free : ∀ μ H a xs ys, I μ H → ¬ S a → H a = some (.lst xs) → I μ (upd H a (.lst ys))

section
variable {K : PySem.W.Frag} {M : Type} (W : Wd K M)
def EvG (te : TE) (Γ : Env') (μ : M) (k : D → M → Prop) : Prop := ∀ (σ : L2.St) (H : Hp) (Q : VK), EnvD W.S K H σ Γ → W.I μ H → (∀ v H' d μ', Ext W.fr H H' → W.I μ' H' → Dv W.S K H' v d → k d μ' → Q v H') → te σ H Q
def EvT (tt : TT) (Γ : Env') (μ : M) (k : Bool → M → Prop) : Prop := ∀ (σ : L2.St) (H : Hp) (Q : Bool → Hp → Prop), EnvD W.S K H σ Γ → W.I μ H → (∀ b H' μ', Ext W.fr H H' → W.I μ' H' → k b μ' → Q b H') → tt σ H Q
def EvA (ta : TA) (Γ : Env') (μ : M) (k : List D → M → Prop) : Prop := ∀ (σ : L2.St) (H : Hp) (Q : List V → Hp → Prop), EnvD W.S K H σ Γ → W.I μ H → (∀ vs H' ds μ', Ext W.fr H H' → W.I μ' H' → DvAll W.S K H' vs ds → k ds μ' → Q vs H') → ta σ H Q
/-- two values; a list of values; one -/
def Rv2 (r : R2) (x y : D) (μ : M) (k : D → M → Prop) : Prop := ∀ (vx vy : V) (H : Hp) (Q : VK), W.I μ H → Dv W.S K H vx x → Dv W.S K H vy y → (∀ v H' d μ', Ext W.fr H H' → W.I μ' H' → Dv W.S K H' v d → k d μ' → Q v H') → r vx vy H Q
def RvL (r : List V → Hp → VK → Prop) (xs : List D) (μ : M) (k : D → M → Prop) : Prop := ∀ (vs : List V) (H : Hp) (Q : VK), W.I μ H → DvAll W.S K H vs xs → (∀ v H' d μ', Ext W.fr H H' → W.I μ' H' → Dv W.S K H' v d → k d μ' → Q v H') → r vs H Q
end

section
variable {S : Addr → Prop} {K : PySem.W.Frag} {H : Hp}
theorem dv_int {i : Int} : Dv S K H (.int i) (.int i) := by unfold Dv; rfl
theorem dv_bl {i : Bool} : Dv S K H (.bl i) (.bl i) := by unfold Dv; rfl
theorem dv_str {i : Str} : Dv S K H (.str i) (.str i) := by unfold Dv; rfl
theorem dv_non : Dv S K H .non .non := by unfold Dv; rfl
theorem dv_adr {a : Addr} : Dv S K H (.ref a) (.adr a) := by unfold Dv; rfl
theorem dv_tyy {a : String} : Dv S K H (.ty a) (.ty a) := by unfold Dv; rfl
theorem vd_int {v : V} {i : Int} (h : Dv S K H v (.int i)) : v = .int i := by unfold Dv at h; exact h
theorem vd_bl {v : V} {i : Bool} (h : Dv S K H v (.bl i)) : v = .bl i := by unfold Dv at h; exact h
theorem vd_str {v : V} {i : Str} (h : Dv S K H v (.str i)) : v = .str i := by unfold Dv at h; exact h
theorem vd_non {v : V} (h : Dv S K H v .non) : v = .non := by unfold Dv at h; exact h
theorem vd_adr {v : V} {a : Addr} (h : Dv S K H v (.adr a)) : v = .ref a := by unfold Dv at h; exact h
theorem vd_ty {v : V} {a : String} (h : Dv S K H v (.ty a)) : v = .ty a := by unfold Dv at h; exact h
end
section
variable {K : PySem.W.Frag} {M : Type} {W : Wd K M} {te ta tb tc : TE} {tt tu : TT} {Γ : Env'} {μ : M} {k : D → M → Prop} {kb : Bool → M → Prop} {i : Nat} {d x y : D}
/-! ### names, constants -/
theorem eg_var (h : Γ[i]? = some (some d)) (q : k d μ) : EvG W (tVar i) Γ μ k := fun σ H Q he hI c =>
  let ⟨v, e, dv⟩ := he.at_ i d h
  ⟨v, e, c v H d μ .refl hI dv q⟩
theorem eg_c {v : V} (h : ∀ H, Dv W.S K H v d) (q : k d μ) : EvG W (tC v) Γ μ k := fun σ H Q he hI c => c v H d μ .refl hI (h H) q
theorem eg_int {n : Int} (q : k (.int n) μ) : EvG W (tC (.int n)) Γ μ k := eg_c (fun _ => dv_int) q
theorem eg_str {n : Str} (q : k (.str n) μ) : EvG W (tC (.str n)) Γ μ k := eg_c (fun _ => dv_str) q
theorem eg_bl {n : Bool} (q : k (.bl n) μ) : EvG W (tC (.bl n)) Γ μ k := eg_c (fun _ => dv_bl) q
theorem eg_non (q : k .non μ) : EvG W (tC .non) Γ μ k := eg_c (fun _ => dv_non) q
theorem eg_adr {a : Addr} (q : k (.adr a) μ) : EvG W (tC (.ref a)) Γ μ k := eg_c (fun _ => dv_adr) q
theorem EvG.imp {k' : D → M → Prop} (h : EvG W te Γ μ k) (q : ∀ d μ, k d μ → k' d μ) : EvG W te Γ μ k' := fun σ H Q he hI c => h σ H Q he hI fun v H' d μ' a b e z => c v H' d μ' a b e (q _ _ z)
theorem EvT.imp {k' : Bool → M → Prop} (h : EvT W tt Γ μ kb) (q : ∀ d μ, kb d μ → k' d μ) : EvT W tt Γ μ k' := fun σ H Q he hI c => h σ H Q he hI fun b H' μ' a e z => c b H' μ' a e (q _ _ z)
/-! ### operators -/
theorem eg_op {r : R2} (h : EvG W ta Γ μ fun x μ => EvG W tb Γ μ fun y μ => Rv2 W r x y μ k) : EvG W (tOp r ta tb) Γ μ k := fun σ H Q he hI c => by
  refine h σ H _ he hI fun v1 H1 d1 μ1 e1 I1 r1 h1 => ?_
  refine h1 σ H1 _ (he.ext W.sub e1) I1 fun v2 H2 d2 μ2 e2 I2 r2 h2 => ?_
  exact h2 v1 v2 H2 Q I2 (Dv.ext W.sub e2 d1 v1 r1) r2 fun v H' d μ' e I' r q => c v H' d μ' ((e1.trans e2).trans e) I' r q
theorem eg_un {g : Int → Int} {j : Int} (h : EvG W ta Γ μ fun x μ => ∃ j, x = .int j ∧ k (.int (g j)) μ) : EvG W (tUn (rU fun i => .int (g i)) ta) Γ μ k := fun σ H Q he hI c => by
  refine h σ H _ he hI fun v1 H1 d1 μ1 e1 I1 r1 h1 => ?_
  obtain ⟨j, rfl, q⟩ := h1
  exact ⟨j, vd_int r1, c _ H1 _ μ1 e1 I1 dv_int q⟩
/-- int operators -/
theorem r2_int {g : Int → Int → Int} {a b : Int} (q : k (.int (g a b)) μ) : Rv2 W (rI0 fun i j => .int (g i j)) (.int a) (.int b) μ k := fun vx vy H Q hI rx ry c => ⟨a, b, vd_int rx, vd_int ry, c _ H _ μ .refl hI dv_int q⟩
theorem r2_intC {C : Int → Int → Prop} {g : Int → Int → Int} {a b : Int} (hc : C a b) (q : k (.int (g a b)) μ) : Rv2 W (rI C fun i j => .int (g i j)) (.int a) (.int b) μ k := fun vx vy H Q hI rx ry c => ⟨a, b, vd_int rx, vd_int ry, hc, c _ H _ μ .refl hI dv_int q⟩
theorem r2_cmp {g : Int → Int → Bool} {a b : Int} (q : k (.bl (g a b)) μ) : Rv2 W (rI0 fun i j => .bl (g i j)) (.int a) (.int b) μ k := fun vx vy H Q hI rx ry c => ⟨a, b, vd_int rx, vd_int ry, c _ H _ μ .refl hI dv_bl q⟩
/-- index -/
theorem atI_map {α β : Type} {xs : List α} {ys : List β} {R : α → β → Prop} (hl : xs.length = ys.length) (hg : ∀ (i : Nat) (y : β), ys[i]? = some y → ∃ x, xs[i]? = some x ∧ R x y) {i : Int} {y : β} (h : atI ys i = some y) : ∃ x, atI xs i = some x ∧ R x y := by
  unfold atI at h ⊢
  rw [hl]
  cases e : ixN ys.length i with
  | none => rw [e] at h; cases h
  | some j =>
    rw [e] at h
    exact hg j y h
theorem r2_ixT {ds : List D} {j : Int} (ha : atI ds j = some d) (q : k d μ) : Rv2 W (rIx K) (.tup ds) (.int j) μ k := fun vx vy H Q hI rx ry c => by
  unfold Dv at rx
  obtain ⟨a, xs, e, hs, hd⟩ := rx
  obtain ⟨v, h1, h2⟩ := atI_map (R := fun v d => Dv W.S K H v d) hd.length (fun i y q => hd.get q) ha
  exact .inr (.inl ⟨a, xs, j, v, e, vd_int ry, hs, h1, c v H d μ .refl hI h2 q⟩)
theorem r2_ixL {ds : List D} {j : Int} (ha : atI ds j = some d) (q : k d μ) : Rv2 W (rIx K) (.lst ds) (.int j) μ k := fun vx vy H Q hI rx ry c => by
  unfold Dv at rx
  obtain ⟨a, xs, e, _, hs, hd⟩ := rx
  obtain ⟨v, h1, h2⟩ := atI_map (R := fun v d => Dv W.S K H v d) hd.length (fun i y q => hd.get q) ha
  exact .inl ⟨a, xs, j, v, e, vd_int ry, SqL.of hs, h1, c v H d μ .refl hI h2 q⟩
/-- tuple + tuple -/
theorem r2_catT {xs ys : List D} (hl : xs.length + ys.length ≤ sizeLine) (q : k (.tup (xs ++ ys)) μ) : Rv2 W (rCatA K) (.tup xs) (.tup ys) μ k := fun vx vy H Q hI rx ry c => by
  have rx0 := rx
  have ry0 := ry
  unfold Dv at rx ry
  obtain ⟨a, vs, e, hs, hd⟩ := rx
  obtain ⟨b, ws, e', hs', hd'⟩ := ry
  have l1 := hd.length
  have l2 := hd'.length
  refine ⟨a, b, vs, ws, e, e', hs, hs', by omega, fun z => ?_, fun _ z => ?_, fun _ _ p hp => ?_⟩
  · have : xs = [] := by cases xs with
      | nil => rfl
      | cons _ _ => rw [z] at l1; simp at l1
    subst this
    exact c _ H _ μ .refl hI (by rw [← e']; exact ry0) q
  · have : ys = [] := by cases ys with
      | nil => rfl
      | cons _ _ => rw [z] at l2; simp at l2
    subst this
    rw [List.append_nil] at q
    exact c _ H _ μ .refl hI (by rw [← e]; exact rx0) q
  · refine c _ _ (.tup (xs ++ ys)) μ (.new hp) (W.stay _ _ _ hI (.new hp)) ?_ q
    unfold Dv
    exact ⟨p, vs ++ ws, rfl, SqT.of upd_same, (hd.append hd').ext (fr := W.fr) W.sub (.new hp)⟩
/-- a new object -/
theorem dv_newT {H : Hp} {p : Addr} {vs : List V} {ds : List D} (hp : H p = none) (hd : DvAll W.S K H vs ds) : Dv W.S K (upd H p (.tup vs)) (.ref p) (.tup ds) := by
  unfold Dv
  exact ⟨p, vs, rfl, SqT.of upd_same, hd.ext (fr := W.fr) W.sub (.new hp)⟩
theorem dv_newL {H : Hp} {p : Addr} {vs : List V} {ds : List D} (hI : W.I μ H) (hp : H p = none) (hd : DvAll W.S K H vs ds) : Dv W.S K (upd H p (.lst vs)) (.ref p) (.lst ds) := by
  unfold Dv
  exact ⟨p, vs, rfl, fun z => W.live _ _ _ hI z hp, upd_same, hd.ext (fr := W.fr) W.sub (.new hp)⟩
/-- list + list -/
theorem r2_catL {xs ys : List D} (hl : xs.length + ys.length ≤ sizeLine) (q : k (.lst (xs ++ ys)) μ) : Rv2 W rCat (.lst xs) (.lst ys) μ k := fun vx vy H Q hI rx ry c => by
  unfold Dv at rx ry
  obtain ⟨a, vs, e, _, hs, hd⟩ := rx
  obtain ⟨b, ws, e', _, hs', hd'⟩ := ry
  have l1 := hd.length
  have l2 := hd'.length
  exact ⟨a, b, vs, ws, e, e', hs, hs', by omega, fun p hp => c _ _ (.lst (xs ++ ys)) μ (.new hp) (W.stay _ _ _ hI (.new hp)) (dv_newL hI hp (hd.append hd')) q⟩
theorem flat_rep : ∀ (n : Nat) {H : Hp} {vs : List V} {xs : List D}, DvAll W.S K H vs xs → DvAll W.S K H (List.replicate n vs).flatten (List.replicate n xs).flatten
  | 0, _, _, _, _ => DvAll.nil
  | n + 1, _, _, _, h => by
    rw [List.replicate_succ, List.replicate_succ, List.flatten_cons, List.flatten_cons]
    exact h.append (flat_rep n h)
/-- slices of a tuple -/
def cutD (xs : List D) (lo hi : Option Int) : List D := (xs.drop (HT.sIx xs.length 0 lo)).take (HT.sIx xs.length xs.length hi - HT.sIx xs.length 0 lo)
def EvO (W : Wd K M) (to : L2.TO) (Γ : Env') (μ : M) (k : Option Int → M → Prop) : Prop := ∀ (σ : L2.St) (H : Hp) (Q : Option Int → Hp → Prop), EnvD W.S K H σ Γ → W.I μ H → (∀ o H' μ', Ext W.fr H H' → W.I μ' H' → k o μ' → Q o H') → to σ H Q
theorem eo_none {ko : Option Int → M → Prop} (q : ko none μ) : EvO W tNoPart Γ μ ko := fun σ H Q he hI c => c none H μ .refl hI q
theorem eo_some {ko : Option Int → M → Prop} (h : EvG W te Γ μ fun x μ => ∃ j, x = .int j ∧ ko (some j) μ) : EvO W (tPart te) Γ μ ko := fun σ H Q he hI c => by
  refine h σ H _ he hI fun v1 H1 d1 μ1 e1 I1 r1 h1 => ?_
  obtain ⟨j, rfl, q⟩ := h1
  exact ⟨j, r1, c _ H1 μ1 e1 I1 q⟩
theorem eg_slT {tl th : L2.TO} (h : EvG W te Γ μ fun x μ => EvO W tl Γ μ fun lo μ => EvO W th Γ μ fun hi μ => ∃ xs, x = .tup xs ∧ k (.tup (cutD xs lo hi)) μ) : EvG W (tSl (rSlA K) te tl th) Γ μ k := fun σ H Q he hI c => by
  refine h σ H _ he hI fun v1 H1 d1 μ1 e1 I1 r1 h1 => ?_
  refine h1 σ H1 _ (he.ext W.sub e1) I1 fun lo H2 μ2 e2 I2 h2 => ?_
  refine h2 σ H2 _ (he.ext W.sub (e1.trans e2)) I2 fun hi H3 μ3 e3 I3 h3 => ?_
  obtain ⟨xs, rfl, q⟩ := h3
  have r3 := Dv.ext W.sub (e2.trans e3) _ _ r1
  have r0 := r3
  unfold Dv at r3
  obtain ⟨a, vs, e, hs, hd⟩ := r3
  have hl := hd.length
  have e13 := (e1.trans e2).trans e3
  have hcut : DvAll W.S K H3 (cutV vs lo hi) (cutD xs lo hi) := by
    unfold cutV cutD
    rw [hl]
    exact (hd.drop _).take _
  refine ⟨a, vs, e, hs, fun z => ?_, fun _ p hp => ?_⟩
  · have hw : cutD xs lo hi = xs := by
      unfold cutD
      rw [← hl, z.1, z.2, List.drop_zero, Nat.sub_zero, hl, List.take_length]
    rw [hw] at q
    exact c _ H3 _ μ3 e13 I3 (by rw [← e]; exact r0) q
  · exact c _ _ _ μ3 (e13.trans (.new hp)) (W.stay _ _ _ I3 (.new hp)) (dv_newT hp hcut) q
theorem eg_revT (h : EvG W te Γ μ fun x μ => ∃ xs, x = .tup xs ∧ k (.tup xs.reverse) μ) : EvG W (tRevT K te) Γ μ k := fun σ H Q he hI c => by
  refine h σ H _ he hI fun v1 H1 d1 μ1 e1 I1 r1 h1 => ?_
  obtain ⟨xs, rfl, q⟩ := h1
  unfold Dv at r1
  obtain ⟨a, vs, e, hs, hd⟩ := r1
  exact ⟨a, vs, e, hs, fun p hp => c _ _ _ μ1 (e1.trans (.new hp)) (W.stay _ _ _ I1 (.new hp)) (dv_newT hp hd.reverse) q⟩
/-! ### displays -/
theorem ea_nil {ka : List D → M → Prop} (q : ka [] μ) : EvA W tNil Γ μ ka := fun σ H Q he hI c => c [] H [] μ .refl hI DvAll.nil q
theorem ea_cons {tr : TA} {ka : List D → M → Prop} (h : EvG W te Γ μ fun x μ => EvA W tr Γ μ fun xs μ => ka (x :: xs) μ) : EvA W (tCons te tr) Γ μ ka := fun σ H Q he hI c => by
  refine h σ H _ he hI fun v1 H1 d1 μ1 e1 I1 r1 h1 => ?_
  refine h1 σ H1 _ (he.ext W.sub e1) I1 fun vs H2 ds μ2 e2 I2 r2 h2 => ?_
  exact c (v1 :: vs) H2 (d1 :: ds) μ2 (e1.trans e2) I2 (.cons (Dv.ext W.sub e2 _ _ r1) r2) h2
theorem eg_tup {ta : TA} (h : EvA W ta Γ μ fun ds μ => ds.length ≤ sizeLine ∧ k (.tup ds) μ) : EvG W (tTup ta) Γ μ k := fun σ H Q he hI c => by
  refine h σ H _ he hI fun vs H1 ds μ1 e1 I1 r1 h1 => ?_
  refine ⟨by rw [r1.length]; exact h1.1, fun p hp => ?_⟩
  exact c _ _ _ μ1 (e1.trans (.new hp)) (W.stay _ _ _ I1 (.new hp)) (dv_newT hp r1) h1.2
theorem eg_lst {ta : TA} (h : EvA W ta Γ μ fun ds μ => ds.length ≤ sizeLine ∧ k (.lst ds) μ) : EvG W (tLst ta) Γ μ k := fun σ H Q he hI c => by
  refine h σ H _ he hI fun vs H1 ds μ1 e1 I1 r1 h1 => ?_
  refine ⟨by rw [r1.length]; exact h1.1, fun p hp => ?_⟩
  exact c _ _ _ μ1 (e1.trans (.new hp)) (W.stay _ _ _ I1 (.new hp)) (dv_newL I1 hp r1) h1.2
/-! ### calls of built-ins -/
theorem eg_cb {r : List V → Hp → VK → Prop} {ta : TA} (h : EvA W ta Γ μ fun ds μ => RvL W r ds μ k) : EvG W (tCB r ta) Γ μ k := fun σ H Q he hI c => by
  refine h σ H _ he hI fun vs H1 ds μ1 e1 I1 r1 h1 => ?_
  exact h1 vs H1 Q I1 r1 fun v H' d μ' e I' r q => c v H' d μ' (e1.trans e) I' r q
theorem dv1 {H : Hp} {vs : List V} (h : DvAll W.S K H vs [x]) : ∃ v, vs = [v] ∧ Dv W.S K H v x := by
  unfold DvAll at h
  obtain ⟨v, w, rfl, h1, h2⟩ := h
  unfold DvAll at h2
  subst h2
  exact ⟨v, rfl, h1⟩
theorem dv2 {H : Hp} {vs : List V} (h : DvAll W.S K H vs [x, y]) : ∃ v w, vs = [v, w] ∧ Dv W.S K H v x ∧ Dv W.S K H w y := by
  unfold DvAll at h
  obtain ⟨v, w, rfl, h1, h2⟩ := h
  obtain ⟨u, rfl, h3⟩ := dv1 h2
  exact ⟨v, u, rfl, h1, h3⟩
abbrev rLenS (K : PySem.W.Frag) : List V → Hp → VK → Prop := fun xs H Q => ∃ p ys, xs = [.ref p] ∧ (SqL K H p ys ∨ SqT K H p ys) ∧ Q (.int ys.length) H
theorem rl_lenT {ds : List D} (q : k (.int ds.length) μ) : RvL W (rLenS K) [.tup ds] μ k := fun vs H Q hI r c => by
  obtain ⟨v, rfl, r'⟩ := dv1 r
  unfold Dv at r'
  obtain ⟨a, xs, rfl, hs, hd⟩ := r'
  exact ⟨a, xs, rfl, .inr hs, by rw [hd.length]; exact c _ H _ μ .refl hI (by first | exact dv_int | exact dv_bl | exact dv_str) q⟩
theorem rl_lenL {ds : List D} (q : k (.int ds.length) μ) : RvL W (rLenS K) [.lst ds] μ k := fun vs H Q hI r c => by
  obtain ⟨v, rfl, r'⟩ := dv1 r
  unfold Dv at r'
  obtain ⟨a, xs, rfl, _, hs, hd⟩ := r'
  exact ⟨a, xs, rfl, .inl (SqL.of hs), by rw [hd.length]; exact c _ H _ μ .refl hI (by first | exact dv_int | exact dv_bl | exact dv_str) q⟩
def rAbs : List V → Hp → VK → Prop := fun xs H Q => ∃ i, xs = [.int i] ∧ Q (.int (if i < 0 then -i else i)) H
theorem rl_abs {a : Int} (q : k (.int (if a < 0 then -a else a)) μ) : RvL W rAbs [.int a] μ k := fun vs H Q hI r c => by
  obtain ⟨v, rfl, r'⟩ := dv1 r
  exact ⟨a, by rw [vd_int r'], c _ H _ μ .refl hI (by first | exact dv_int | exact dv_bl | exact dv_str) q⟩
def rMin2 : List V → Hp → VK → Prop := fun xs H Q => ∃ i j, xs = [.int i, .int j] ∧ Q (.int (if j < i then j else i)) H
theorem rl_min2 {a b : Int} (q : k (.int (if b < a then b else a)) μ) : RvL W rMin2 [.int a, .int b] μ k := fun vs H Q hI r c => by
  obtain ⟨v, w, rfl, r1, r2⟩ := dv2 r
  exact ⟨a, b, by rw [vd_int r1, vd_int r2], c _ H _ μ .refl hI (by first | exact dv_int | exact dv_bl | exact dv_str) q⟩
def rMax2 : List V → Hp → VK → Prop := fun xs H Q => ∃ i j, xs = [.int i, .int j] ∧ Q (.int (if j > i then j else i)) H
theorem rl_max2 {a b : Int} (q : k (.int (if b > a then b else a)) μ) : RvL W rMax2 [.int a, .int b] μ k := fun vs H Q hI r c => by
  obtain ⟨v, w, rfl, r1, r2⟩ := dv2 r
  exact ⟨a, b, by rw [vd_int r1, vd_int r2], c _ H _ μ .refl hI (by first | exact dv_int | exact dv_bl | exact dv_str) q⟩
theorem rl_gcd {a b : Int} (q : k (.int ((Nat.gcd a.natAbs b.natAbs : Nat) : Int)) μ) : RvL W rGcd [.int a, .int b] μ k := fun vs H Q hI r c => by
  obtain ⟨v, w, rfl, r1, r2⟩ := dv2 r
  exact ⟨a, b, by rw [vd_int r1, vd_int r2], c _ H _ μ .refl hI (by first | exact dv_int | exact dv_bl | exact dv_str) q⟩
def rInt1 : List V → Hp → VK → Prop := fun xs H Q => (∃ i, xs = [.int i] ∧ Q (.int i) H) ∨ ∃ k, xs = [.bl k] ∧ Q (.int (if k then 1 else 0)) H
theorem rl_int {a : Int} (q : k (.int a) μ) : RvL W rInt1 [.int a] μ k := fun vs H Q hI r c => by
  obtain ⟨v, rfl, r'⟩ := dv1 r
  exact .inl ⟨a, by rw [vd_int r'], c _ H _ μ .refl hI (by first | exact dv_int | exact dv_bl | exact dv_str) q⟩
theorem rl_intB {a : Bool} (q : k (.int (if a then 1 else 0)) μ) : RvL W rInt1 [.bl a] μ k := fun vs H Q hI r c => by
  obtain ⟨v, rfl, r'⟩ := dv1 r
  exact .inr ⟨a, by rw [vd_bl r'], c _ H _ μ .refl hI (by first | exact dv_int | exact dv_bl | exact dv_str) q⟩
def rStrI : List V → Hp → VK → Prop := fun xs H Q => ∃ i, xs = [.int i] ∧ i.natAbs.log2 < 1920 ∧ Q (.str (toString i)) H
theorem rl_str {a : Int} (hb : a.natAbs.log2 < 1920) (q : k (.str (toString a)) μ) : RvL W rStrI [.int a] μ k := fun vs H Q hI r c => by
  obtain ⟨v, rfl, r'⟩ := dv1 r
  exact ⟨a, by rw [vd_int r'], hb, c _ H _ μ .refl hI (by first | exact dv_int | exact dv_bl | exact dv_str) q⟩
/-- sum of a tuple or a list -/
def rSumA (K : PySem.W.Frag) : List V → Hp → VK → Prop := fun vs H Q => rSum K vs H Q ∨ rSumT K vs H Q
theorem rl_sumT {ns : List Int} (q : k (.int ns.sum) μ) : RvL W (rSumA K) [.tup (ns.map .int)] μ k := fun vs H Q hI r c => by
  obtain ⟨v, rfl, r'⟩ := dv1 r
  unfold Dv at r'
  obtain ⟨a, xs, rfl, hs, hd⟩ := r'
  rw [hd.ints] at hs
  exact .inr ⟨a, ns, rfl, hs, c _ H _ μ .refl hI (by first | exact dv_int | exact dv_bl | exact dv_str) q⟩
theorem rl_sumL {ns : List Int} (q : k (.int ns.sum) μ) : RvL W (rSumA K) [.lst (ns.map .int)] μ k := fun vs H Q hI r c => by
  obtain ⟨v, rfl, r'⟩ := dv1 r
  unfold Dv at r'
  obtain ⟨a, xs, rfl, _, hs, hd⟩ := r'
  rw [hd.ints] at hs
  exact .inl ⟨a, ns, rfl, SqL.of hs, c _ H _ μ .refl hI (by first | exact dv_int | exact dv_bl | exact dv_str) q⟩
theorem rl_minT {ns : List Int} (h0 : 0 < ns.length) (q : ∀ m, m ∈ ns → (∀ y ∈ ns, m ≤ y) → k (.int m) μ) : RvL W (rMinT K) [.tup (ns.map .int)] μ k := fun vs H Q hI r c => by
  obtain ⟨v, rfl, r'⟩ := dv1 r
  unfold Dv at r'
  obtain ⟨a, xs, rfl, hs, hd⟩ := r'
  rw [hd.ints] at hs
  exact ⟨a, ns, rfl, hs, h0, fun m h1 h2 => c _ H _ μ .refl hI dv_int (q m h1 h2)⟩
theorem rl_minL {ns : List Int} (h0 : 0 < ns.length) (q : ∀ m, m ∈ ns → (∀ y ∈ ns, m ≤ y) → k (.int m) μ) : RvL W (rMin K) [.lst (ns.map .int)] μ k := fun vs H Q hI r c => by
  obtain ⟨v, rfl, r'⟩ := dv1 r
  unfold Dv at r'
  obtain ⟨a, xs, rfl, _, hs, hd⟩ := r'
  rw [hd.ints] at hs
  exact ⟨a, ns, rfl, SqL.of hs, h0, fun m h1 h2 => c _ H _ μ .refl hI dv_int (q m h1 h2)⟩
theorem rl_sortedT {ns : List Int} (h64 : ns.length < 64) (q : ∀ ns' : List Int, ns'.Perm ns → ns'.Pairwise (· ≤ ·) → k (.lst (ns'.map .int)) μ) : RvL W (rSortedT K) [.tup (ns.map .int)] μ k := fun vs H Q hI r c => by
  obtain ⟨v, rfl, r'⟩ := dv1 r
  unfold Dv at r'
  obtain ⟨a, xs, rfl, hs, hd⟩ := r'
  rw [hd.ints] at hs
  exact ⟨a, ns, rfl, hs, h64, fun ns' p h1 h2 hp => c _ _ _ μ (.new hp) (W.stay _ _ _ hI (.new hp)) (dv_newL hI hp DvAll.of_ints) (q ns' h1 h2)⟩
/-- all of a list of bools -/
theorem rl_all {bs : List Bool} (q : k (.bl (bs.all id)) μ) : RvL W (rAll K) [.lst (bs.map .bl)] μ k := fun vs H Q hI r c => by
  obtain ⟨v, rfl, r'⟩ := dv1 r
  unfold Dv at r'
  obtain ⟨a, xs, rfl, _, hs, hd⟩ := r'
  rw [hd.bls] at hs
  exact ⟨a, bs, rfl, SqL.of hs, c _ H _ μ .refl hI (by first | exact dv_int | exact dv_bl | exact dv_str) q⟩
theorem rl_any {bs : List Bool} (q : k (.bl (bs.any id)) μ) : RvL W (rAny K) [.lst (bs.map .bl)] μ k := fun vs H Q hI r c => by
  obtain ⟨v, rfl, r'⟩ := dv1 r
  unfold Dv at r'
  obtain ⟨a, xs, rfl, _, hs, hd⟩ := r'
  rw [hd.bls] at hs
  exact ⟨a, bs, rfl, SqL.of hs, c _ H _ μ .refl hI (by first | exact dv_int | exact dv_bl | exact dv_str) q⟩
/-- tuple(list), list(tuple) -/
abbrev rTupOf (K : PySem.W.Frag) : List V → Hp → VK → Prop := fun xs H Q => ∃ p ys, xs = [.ref p] ∧ ((SqL K H p ys ∧ ∀ l, H l = none → Q (.ref l) (upd H l (.tup ys))) ∨ (SqT K H p ys ∧ Q (.ref p) H))
theorem rl_tupL {ds : List D} (q : k (.tup ds) μ) : RvL W (rTupOf K) [.lst ds] μ k := fun vs H Q hI r c => by
  obtain ⟨v, rfl, r'⟩ := dv1 r
  unfold Dv at r'
  obtain ⟨a, xs, rfl, _, hs, hd⟩ := r'
  exact ⟨a, xs, rfl, .inl ⟨SqL.of hs, fun p hp => c _ _ _ μ (.new hp) (W.stay _ _ _ hI (.new hp)) (dv_newT hp hd) q⟩⟩
abbrev rLstOf (K : PySem.W.Frag) : List V → Hp → VK → Prop := fun xs H Q => ∃ p ys, xs = [.ref p] ∧ (SqL K H p ys ∨ SqT K H p ys) ∧ ∀ l, H l = none → Q (.ref l) (upd H l (.lst ys))
theorem rl_lstT {ds : List D} (q : k (.lst ds) μ) : RvL W (rLstOf K) [.tup ds] μ k := fun vs H Q hI r c => by
  obtain ⟨v, rfl, r'⟩ := dv1 r
  unfold Dv at r'
  obtain ⟨a, xs, rfl, hs, hd⟩ := r'
  exact ⟨a, xs, rfl, .inr hs, fun p hp => c _ _ _ μ (.new hp) (W.stay _ _ _ hI (.new hp)) (dv_newL hI hp hd) q⟩
/-- isinstance -/
def tyD : D → Option String
  | .non => some "NoneType"
  | .bl _ => some "bool"
  | .int _ => some "int"
  | .str _ => some "str"
  | .tup _ => some "tuple"
  | .lst _ => some "list"
  | _ => none
theorem dv_ty {H : Hp} {v : V} {t : String} (h : Dv W.S K H v x) (e : tyD x = some t) : TyX K H v (.type t) := by
  cases x with
  | non => cases e; rw [vd_non h]; exact .base .non
  | bl b => cases e; rw [vd_bl h]; exact .base (.bl b)
  | int i => cases e; rw [vd_int h]; exact .base (.int i)
  | str i => cases e; rw [vd_str h]; exact .base (.str i)
  | tup ds =>
    cases e
    unfold Dv at h
    obtain ⟨a, xs, rfl, hs, _⟩ := h
    rcases hs with (h | ⟨o, h⟩) | ⟨o, its, n, h, hc, _⟩
    · exact .base (.tup h)
    · exact .fTuple h
    · exact .kTuple h hc
  | lst ds =>
    cases e
    unfold Dv at h
    obtain ⟨a, xs, rfl, _, hs, _⟩ := h
    exact .base (.lst hs)
  | adr _ => cases e
  | ty _ => cases e
/-- the answer by the data -/
def isiB (T : String) (d : D) : Option Bool := (tyD d).bind fun t => kitB t T
theorem rl_isi {T : String} {b : Bool} (h : isiB T x = some b) (q : k (.bl b) μ) : RvL W (rIsi K) [x, .ty T] μ k := fun vs H Q hI r c => by
  obtain ⟨v, w, rfl, r1, r2⟩ := dv2 r
  rw [vd_ty r2]
  unfold isiB at h
  cases e : tyD x with
  | none => rw [e] at h; cases h
  | some t =>
    rw [e] at h
    exact ⟨v, .ty T, .type t, .type T, b, rfl, .ty T, dv_ty r1 e, kit_ty h, c _ H _ μ .refl hI (by first | exact dv_int | exact dv_bl | exact dv_str) q⟩
theorem eg_ty {n : String} (q : k (.ty n) μ) : EvG W (tC (.ty n)) Γ μ k := eg_c (fun _ => dv_tyy) q
end
end DL

namespace DL
open PySem PySem.Spec PyProof.Rows L2 GxR GX

/-! ### == and != -/
mutual
def toPy : D → PyData
  | .non => .none
  | .bl b => .bool b
  | .int i => .int i
  | .str x => .str x
  | .tup ds => .tuple (toPyAll ds)
  | .lst ds => .list (toPyAll ds)
  | .adr _ => .none
  | .ty _ => .none
def toPyAll : List D → List PyData
  | [] => []
  | d :: r => toPy d :: toPyAll r
end
mutual
/-- ints, and tuples and lists of them, at most n deep -/
def plainD : Nat → D → Bool
  | _, .int _ => true
  | n + 1, .tup ds => plainAll n ds
  | n + 1, .lst ds => plainAll n ds
  | _, _ => false
def plainAll : Nat → List D → Bool
  | _, [] => true
  | n, d :: r => plainD n d && plainAll n r
end
mutual
def eqD : D → D → Bool
  | .int i, .int j => i == j
  | .tup xs, .tup ys => eqAll xs ys
  | .lst xs, .lst ys => eqAll xs ys
  | _, _ => false
def eqAll : List D → List D → Bool
  | [], [] => true
  | x :: xs, y :: ys => eqD x y && eqAll xs ys
  | _, _ => false
end
mutual
theorem plain_ok : ∀ (n : Nat) (d : D), plainD n d = true → (toPy d).canLay0 = true ∧ (toPy d).depth ≤ n
  | n, .int i, h => by
    constructor
    · simp [toPy, PyData.canLay0]
    · simp [toPy, PyData.depth]
  | n + 1, .tup ds, h => by
    have h' : plainAll n ds = true := by simpa [plainD] using h
    obtain ⟨h1, h2⟩ := plainAll_ok n ds h'
    constructor
    · simpa [toPy, PyData.canLay0] using h1
    · simp only [toPy, PyData.depth]; omega
  | n + 1, .lst ds, h => by
    have h' : plainAll n ds = true := by simpa [plainD] using h
    obtain ⟨h1, h2⟩ := plainAll_ok n ds h'
    constructor
    · simpa [toPy, PyData.canLay0] using h1
    · simp only [toPy, PyData.depth]; omega
  | 0, .tup _, h => by simp [plainD] at h
  | 0, .lst _, h => by simp [plainD] at h
  | n, .non, h => by simp [plainD] at h
  | n, .bl _, h => by simp [plainD] at h
  | n, .str _, h => by simp [plainD] at h
  | n, .adr _, h => by simp [plainD] at h
  | n, .ty _, h => by simp [plainD] at h
theorem plainAll_ok : ∀ (n : Nat) (ds : List D), plainAll n ds = true → PyData.canLayAll0 (toPyAll ds) = true ∧ PyData.depthAll (toPyAll ds) ≤ n
  | n, [], h => by
    constructor
    · simp [toPyAll, PyData.canLayAll0]
    · simp [toPyAll, PyData.depthAll]
  | n, d :: r, h => by
    have h' : plainD n d = true ∧ plainAll n r = true := by simpa [plainAll] using h
    obtain ⟨a1, a2⟩ := plain_ok n d h'.1
    obtain ⟨b1, b2⟩ := plainAll_ok n r h'.2
    constructor
    · simp [toPyAll, PyData.canLayAll0, a1, b1]
    · simp only [toPyAll, PyData.depthAll]; omega
end
mutual
theorem eqv_eqD : ∀ (n m : Nat) (x y : D), plainD n x = true → plainD m y = true → PyData.eqv (toPy x) (toPy y) = eqD x y
  | n, m, .int i, .int j, _, _ => by simp [toPy, PyData.eqv, eqD]
  | n + 1, m + 1, .tup xs, .tup ys, h, g => by
    simp only [toPy, PyData.eqv, eqD]
    exact eqv_eqAll n m xs ys (by simpa [plainD] using h) (by simpa [plainD] using g)
  | n + 1, m + 1, .lst xs, .lst ys, h, g => by
    simp only [toPy, PyData.eqv, eqD]
    exact eqv_eqAll n m xs ys (by simpa [plainD] using h) (by simpa [plainD] using g)
  | n, m, .int i, .tup _, _, _ => by simp [toPy, PyData.eqv, eqD]
  | n, m, .int i, .lst _, _, _ => by simp [toPy, PyData.eqv, eqD]
  | n, m, .tup _, .int i, _, _ => by simp [toPy, PyData.eqv, eqD]
  | n, m, .tup _, .lst _, _, _ => by simp [toPy, PyData.eqv, eqD]
  | n, m, .lst _, .int i, _, _ => by simp [toPy, PyData.eqv, eqD]
  | n, m, .lst _, .tup _, _, _ => by simp [toPy, PyData.eqv, eqD]
  | 0, m, .tup _, .tup _, h, _ => by simp [plainD] at h
  | n, 0, .tup _, .tup _, _, h => by simp [plainD] at h
  | 0, m, .lst _, .lst _, h, _ => by simp [plainD] at h
  | n, 0, .lst _, .lst _, _, h => by simp [plainD] at h
  | n, m, .non, y, h, _ => by simp [plainD] at h
  | n, m, .bl _, y, h, _ => by simp [plainD] at h
  | n, m, .str _, y, h, _ => by simp [plainD] at h
  | n, m, .adr _, y, h, _ => by simp [plainD] at h
  | n, m, .ty _, y, h, _ => by simp [plainD] at h
  | n, m, x, .non, _, h => by simp [plainD] at h
  | n, m, x, .bl _, _, h => by simp [plainD] at h
  | n, m, x, .str _, _, h => by simp [plainD] at h
  | n, m, x, .adr _, _, h => by simp [plainD] at h
  | n, m, x, .ty _, _, h => by simp [plainD] at h
theorem eqv_eqAll : ∀ (n m : Nat) (xs ys : List D), plainAll n xs = true → plainAll m ys = true → PyData.eqvAll (toPyAll xs) (toPyAll ys) = eqAll xs ys
  | n, m, [], [], _, _ => by simp [toPyAll, PyData.eqvAll, eqAll]
  | n, m, [], _ :: _, _, _ => by simp [toPyAll, PyData.eqvAll, eqAll]
  | n, m, _ :: _, [], _, _ => by simp [toPyAll, PyData.eqvAll, eqAll]
  | n, m, x :: xs, y :: ys, h, g => by
    have h' : plainD n x = true ∧ plainAll n xs = true := by simpa [plainAll] using h
    have g' : plainD m y = true ∧ plainAll m ys = true := by simpa [plainAll] using g
    simp only [toPyAll, PyData.eqvAll, eqAll, eqv_eqD n m x y h'.1 g'.1, eqv_eqAll n m xs ys h'.2 g'.2]
end
section
variable {S : Addr → Prop} {K : PySem.W.Frag} {H : Hp}
mutual
theorem dv_dp : ∀ (n : Nat) (d : D) (v : V), plainD n d = true → Dv S K H v d → Dp K H v (toPy d)
  | n, .int i, v, _, h => by rw [vd_int h]; simp only [toPy]; exact .int i
  | n + 1, .tup ds, v, p, h => by
    have p' : plainAll n ds = true := by simpa [plainD] using p
    unfold Dv at h
    obtain ⟨a, xs, rfl, hs, hd⟩ := h
    simp only [toPy]
    exact .tup hs (dv_dpAll n ds xs p' hd)
  | n + 1, .lst ds, v, p, h => by
    have p' : plainAll n ds = true := by simpa [plainD] using p
    unfold Dv at h
    obtain ⟨a, xs, rfl, _, hs, hd⟩ := h
    simp only [toPy]
    exact .lst (SqL.of hs) (dv_dpAll n ds xs p' hd)
  | 0, .tup _, _, h, _ => by simp [plainD] at h
  | 0, .lst _, _, h, _ => by simp [plainD] at h
  | n, .non, _, h, _ => by simp [plainD] at h
  | n, .bl _, _, h, _ => by simp [plainD] at h
  | n, .str _, _, h, _ => by simp [plainD] at h
  | n, .adr _, _, h, _ => by simp [plainD] at h
  | n, .ty _, _, h, _ => by simp [plainD] at h
theorem dv_dpAll : ∀ (n : Nat) (ds : List D) (vs : List V), plainAll n ds = true → DvAll S K H vs ds → DpAll K H vs (toPyAll ds)
  | n, [], vs, _, h => by unfold DvAll at h; subst h; simp only [toPyAll]; exact .nil
  | n, d :: r, vs, p, h => by
    have p' : plainD n d = true ∧ plainAll n r = true := by simpa [plainAll] using p
    unfold DvAll at h
    obtain ⟨v, w, rfl, h1, h2⟩ := h
    simp only [toPyAll]
    exact .cons (dv_dp n d v p'.1 h1) (dv_dpAll n r w p'.2 h2)
end
end
section
variable {K : PySem.W.Frag} {M : Type} {W : Wd K M} {te ta tb tc : TE} {tt tu : TT} {Γ : Env'} {μ : M} {k : D → M → Prop} {kb : Bool → M → Prop} {i : Nat} {d x y : D}
theorem shaped_of {n : Nat} (h : plainD n x = true) (hn : n ≤ 64) : SeqAt.shaped (toPy x) = true := by
  obtain ⟨h1, h2⟩ := plain_ok n x h
  unfold SeqAt.shaped
  rw [h1, decide_eq_true (Nat.le_trans h2 hn)]
  rfl
theorem r2_eqD (hx : plainD 9 x = true) (hy : plainD 9 y = true) (q : k (.bl (eqD x y)) μ) : Rv2 W (rEqD K) x y μ k := fun vx vy H Q hI rx ry c =>
  ⟨toPy x, toPy y, dv_dp 9 x vx hx rx, dv_dp 9 y vy hy ry, shaped_of hx (by decide), shaped_of hy (by decide), c _ H _ μ .refl hI (by rw [eqv_eqD 9 9 x y hx hy]; exact dv_bl) q⟩
theorem r2_neD (hx : plainD 9 x = true) (hy : plainD 9 y = true) (q : k (.bl (!eqD x y)) μ) : Rv2 W (rNeD K) x y μ k := fun vx vy H Q hI rx ry c =>
  ⟨toPy x, toPy y, dv_dp 9 x vx hx rx, dv_dp 9 y vy hy ry, shaped_of hx (by decide), shaped_of hy (by decide), c _ H _ μ .refl hI (by rw [eqv_eqD 9 9 x y hx hy]; exact dv_bl) q⟩
/-- of plain values of one kind -/
theorem r2_eqI {a b : Int} (q : k (.bl (decide (a = b))) μ) : Rv2 W rEq (.int a) (.int b) μ k := fun vx vy H Q hI rx ry c => by
  rw [vd_int rx, vd_int ry]
  exact ⟨rfl, by rw [dec_int]; exact c _ H (.bl (decide (a = b))) μ .refl hI (by rw [Bool.beq_eq_decide_eq]; exact dv_bl) q⟩
theorem r2_neI {a b : Int} (q : k (.bl (!decide (a = b))) μ) : Rv2 W rNe (.int a) (.int b) μ k := fun vx vy H Q hI rx ry c => by
  rw [vd_int rx, vd_int ry]
  exact ⟨rfl, by rw [dec_int]; exact c _ H (.bl (!decide (a = b))) μ .refl hI (by rw [Bool.beq_eq_decide_eq]; exact dv_bl) q⟩
theorem r2_eqB {a b : Bool} (q : k (.bl (decide (a = b))) μ) : Rv2 W rEq (.bl a) (.bl b) μ k := fun vx vy H Q hI rx ry c => by
  rw [vd_bl rx, vd_bl ry]
  exact ⟨rfl, by rw [dec_bl]; exact c _ H (.bl (decide (a = b))) μ .refl hI (by rw [Bool.beq_eq_decide_eq]; exact dv_bl) q⟩
theorem r2_eqS {a b : Str} (q : k (.bl (a == b)) μ) : Rv2 W rEq (.str a) (.str b) μ k := fun vx vy H Q hI rx ry c => by
  rw [vd_str rx, vd_str ry]
  exact ⟨rfl, by rw [dec_str]; exact c _ H (.bl (a == b)) μ .refl hI dv_bl q⟩
/-! ### is -/
def isNonD : D → Option Bool
  | .non => some true
  | .bl _ => some false
  | .int _ => some false
  | .str _ => some false
  | .tup _ => some false
  | .lst _ => some false
  | .adr _ => some false
  | .ty _ => some false
theorem dv_isN {H : Hp} {v : V} {b : Bool} (h : Dv W.S K H v x) (e : isNonD x = some b) : decide (v = .non) = b := by
  cases x with
  | non => cases e; rw [vd_non h]; rfl
  | bl _ => cases e; rw [vd_bl h]; exact decide_eq_false fun z => nomatch z
  | int _ => cases e; rw [vd_int h]; exact decide_eq_false fun z => nomatch z
  | str _ => cases e; rw [vd_str h]; exact decide_eq_false fun z => nomatch z
  | adr _ => cases e; rw [vd_adr h]; exact decide_eq_false fun z => nomatch z
  | ty _ => cases e; rw [vd_ty h]; exact decide_eq_false fun z => nomatch z
  | tup _ =>
    cases e
    unfold Dv at h
    obtain ⟨a, xs, rfl, _⟩ := h
    exact decide_eq_false fun z => nomatch z
  | lst _ =>
    cases e
    unfold Dv at h
    obtain ⟨a, xs, rfl, _⟩ := h
    exact decide_eq_false fun z => nomatch z
def rIsN : R2 := fun x y H Q => y = .non ∧ Q (.bl (decide (x = .non))) H
def rNotN : R2 := fun x y H Q => y = .non ∧ Q (.bl (!decide (x = .non))) H
theorem r2_isN {b : Bool} (e : isNonD x = some b) (q : k (.bl b) μ) : Rv2 W rIsN x .non μ k := fun vx vy H Q hI rx ry c => by
  refine ⟨vd_non ry, ?_⟩
  rw [dv_isN rx e]
  exact c _ H _ μ .refl hI dv_bl q
theorem r2_notN {b : Bool} (e : isNonD x = some b) (q : k (.bl (!b)) μ) : Rv2 W rNotN x .non μ k := fun vx vy H Q hI rx ry c => by
  refine ⟨vd_non ry, ?_⟩
  rw [dv_isN rx e]
  exact c _ H _ μ .refl hI dv_bl q
theorem r2_isB {a b : Bool} (q : k (.bl (decide (a = b))) μ) : Rv2 W rIsB (.bl a) (.bl b) μ k := fun vx vy H Q hI rx ry c => ⟨a, b, vd_bl rx, vd_bl ry, c _ H _ μ .refl hI dv_bl q⟩
theorem r2_notB {a b : Bool} (q : k (.bl (!decide (a = b))) μ) : Rv2 W rNotB (.bl a) (.bl b) μ k := fun vx vy H Q hI rx ry c => ⟨a, b, vd_bl rx, vd_bl ry, c _ H _ μ .refl hI dv_bl q⟩
/-! ### bools -/
theorem eg_andV (h : EvG W ta Γ μ fun x μ => ∃ b, x = .bl b ∧ (b = true → EvG W tb Γ μ k) ∧ (b = false → k (.bl false) μ)) : EvG W (tAndV ta tb) Γ μ k := fun σ H Q he hI c => by
  refine h σ H _ he hI fun v1 H1 d1 μ1 e1 I1 r1 h1 => ?_
  obtain ⟨b, rfl, q1, q2⟩ := h1
  refine ⟨b, vd_bl r1, ?_⟩
  cases b with
  | true => exact q1 rfl σ H1 Q (he.ext W.sub e1) I1 fun v H' d μ' e I' r q => c v H' d μ' (e1.trans e) I' r q
  | false => exact c _ H1 _ μ1 e1 I1 dv_bl (q2 rfl)
theorem eg_orV (h : EvG W ta Γ μ fun x μ => ∃ b, x = .bl b ∧ (b = false → EvG W tb Γ μ k) ∧ (b = true → k (.bl true) μ)) : EvG W (tOrV ta tb) Γ μ k := fun σ H Q he hI c => by
  refine h σ H _ he hI fun v1 H1 d1 μ1 e1 I1 r1 h1 => ?_
  obtain ⟨b, rfl, q1, q2⟩ := h1
  refine ⟨b, vd_bl r1, ?_⟩
  cases b with
  | false => exact q1 rfl σ H1 Q (he.ext W.sub e1) I1 fun v H' d μ' e I' r q => c v H' d μ' (e1.trans e) I' r q
  | true => exact c _ H1 _ μ1 e1 I1 dv_bl (q2 rfl)
theorem eg_notV (h : EvG W ta Γ μ fun x μ => ∃ b, x = .bl b ∧ k (.bl (!b)) μ) : EvG W (tNotV ta) Γ μ k := fun σ H Q he hI c => by
  refine h σ H _ he hI fun v1 H1 d1 μ1 e1 I1 r1 h1 => ?_
  obtain ⟨b, rfl, q1⟩ := h1
  exact ⟨b, vd_bl r1, c _ H1 _ μ1 e1 I1 dv_bl q1⟩
theorem eg_if (h : EvT W tt Γ μ fun b μ => (b = true → EvG W ta Γ μ k) ∧ (b = false → EvG W tb Γ μ k)) : EvG W (tIf tt ta tb) Γ μ k := fun σ H Q he hI c => by
  refine h σ H _ he hI fun b H1 μ1 e1 I1 h1 => ?_
  cases b with
  | true => exact h1.1 rfl σ H1 Q (he.ext W.sub e1) I1 fun v H' d μ' e I' r q => c v H' d μ' (e1.trans e) I' r q
  | false => exact h1.2 rfl σ H1 Q (he.ext W.sub e1) I1 fun v H' d μ' e I' r q => c v H' d μ' (e1.trans e) I' r q
/-- a < b < c -/
theorem eg_chain {r r' : R2} (h : EvG W ta Γ μ fun x μ => EvG W tb Γ μ fun y μ => Rv2 W r x y μ fun z μ => ∃ b, z = .bl b ∧ (b = true → EvG W tc Γ μ fun w μ => Rv2 W r' y w μ k) ∧ (b = false → k (.bl false) μ)) : EvG W (tChain r r' ta tb tc) Γ μ k := fun σ H Q he hI c => by
  refine h σ H _ he hI fun v1 H1 d1 μ1 e1 I1 r1 h1 => ?_
  refine h1 σ H1 _ (he.ext W.sub e1) I1 fun v2 H2 d2 μ2 e2 I2 r2 h2 => ?_
  refine h2 v1 v2 H2 _ I2 (Dv.ext W.sub e2 d1 v1 r1) r2 fun v3 H3 d3 μ3 e3 I3 r3 h3 => ?_
  obtain ⟨b, rfl, q1, q2⟩ := h3
  have e13 := (e1.trans e2).trans e3
  refine ⟨b, vd_bl r3, ?_⟩
  cases b with
  | true =>
    refine iteT (q1 rfl σ H3 _ (he.ext W.sub e13) I3 fun v4 H4 d4 μ4 e4 I4 r4 h4 => ?_)
    exact h4 v2 v4 H4 _ I4 (Dv.ext W.sub (e3.trans e4) _ _ r2) r4 fun v H' d μ' e I' r q => c v H' d μ' ((e13.trans e4).trans e) I' r q
  | false => exact iteF (c _ H3 _ μ3 e13 I3 dv_bl (q2 rfl))
/-! ### tests -/
theorem et_val (h : EvG W te Γ μ fun x μ => ∃ b, x = .bl b ∧ kb b μ) : EvT W (tB te) Γ μ kb := fun σ H Q he hI c => by
  refine h σ H _ he hI fun v1 H1 d1 μ1 e1 I1 r1 h1 => ?_
  obtain ⟨b, rfl, q1⟩ := h1
  exact ⟨b, vd_bl r1, c b H1 μ1 e1 I1 q1⟩
theorem et_test (h : EvG W te Γ μ fun x μ => ∃ b, x = .bl b ∧ kb b μ) : EvT W (tTest te) Γ μ kb := fun σ H Q he hI c => by
  refine h σ H _ he hI fun v1 H1 d1 μ1 e1 I1 r1 h1 => ?_
  obtain ⟨b, rfl, q1⟩ := h1
  exact ⟨b, vd_bl r1, c b H1 μ1 e1 I1 q1⟩
theorem et_and (h : EvT W tt Γ μ fun b μ => (b = true → EvT W tu Γ μ kb) ∧ (b = false → kb false μ)) : EvT W (tAnd tt tu) Γ μ kb := fun σ H Q he hI c => by
  refine h σ H _ he hI fun b H1 μ1 e1 I1 h1 => ?_
  cases b with
  | true => exact iteT (h1.1 rfl σ H1 Q (he.ext W.sub e1) I1 fun b H' μ' e I' q => c b H' μ' (e1.trans e) I' q)
  | false => exact iteF (c false H1 μ1 e1 I1 (h1.2 rfl))
theorem et_or (h : EvT W tt Γ μ fun b μ => (b = false → EvT W tu Γ μ kb) ∧ (b = true → kb true μ)) : EvT W (tOr tt tu) Γ μ kb := fun σ H Q he hI c => by
  refine h σ H _ he hI fun b H1 μ1 e1 I1 h1 => ?_
  cases b with
  | false => exact iteF (h1.1 rfl σ H1 Q (he.ext W.sub e1) I1 fun b H' μ' e I' q => c b H' μ' (e1.trans e) I' q)
  | true => exact iteT (c true H1 μ1 e1 I1 (h1.2 rfl))
theorem et_not (h : EvT W tt Γ μ fun b μ => kb (!b) μ) : EvT W (tNot tt) Γ μ kb := fun σ H Q he hI c => h σ H _ he hI fun b H1 μ1 e1 I1 h1 => c (!b) H1 μ1 e1 I1 h1
end
end DL

namespace DL
open PySem PySem.Spec PyProof.Rows L2 GxR GX

/-! ### statements -/
/-- what is wanted behind a statement -/
structure Outs (M : Type) where
  nx : Env' → M → Prop
  rt : D → M → Prop
  bk : Env' → M → Prop := fun _ _ => False
  ct : Env' → M → Prop := fun _ _ => False
section
variable {K : PySem.W.Frag} {M : Type} (W : Wd K M)
structure Got (H : Hp) (O : Outs M) (D : Ends) : Prop where
  nx : ∀ σ' H' Γ' μ', Ext W.fr H H' → W.I μ' H' → EnvD W.S K H' σ' Γ' → O.nx Γ' μ' → D.nx σ' H'
  rt : ∀ v H' d μ', Ext W.fr H H' → W.I μ' H' → Dv W.S K H' v d → O.rt d μ' → D.rt v H'
  bk : ∀ σ' H' Γ' μ', Ext W.fr H H' → W.I μ' H' → EnvD W.S K H' σ' Γ' → O.bk Γ' μ' → D.bk σ' H'
  ct : ∀ σ' H' Γ' μ', Ext W.fr H H' → W.I μ' H' → EnvD W.S K H' σ' Γ' → O.ct Γ' μ' → D.ct σ' H'
def ExG (ts : TS) (Γ : Env') (μ : M) (O : Outs M) : Prop := ∀ (σ : L2.St) (H : Hp) (D : Ends), EnvD W.S K H σ Γ → W.I μ H → Got W H O D → ts D σ H
/-- a target takes a value -/
def AsG (g : TG) (x : D) (Γ : Env') (μ : M) (k : Env' → M → Prop) : Prop := ∀ (v : V) (σ : L2.St) (H : Hp) (Q : L2.St → Hp → Prop), EnvD W.S K H σ Γ → W.I μ H → Dv W.S K H v x → (∀ σ' H' Γ' μ', Ext W.fr H H' → W.I μ' H' → EnvD W.S K H' σ' Γ' → k Γ' μ' → Q σ' H') → g v σ H Q
end
section
variable {K : PySem.W.Frag} {M : Type} {W : Wd K M} {te ta tb tc : TE} {tt tu : TT} {ts t u : TS} {g : TG} {Γ : Env'} {μ : M} {k : D → M → Prop} {kb : Bool → M → Prop} {O : Outs M} {i j : Nat} {d x y : D}
theorem Got.ext {H H' : Hp} {D : Ends} (G : Got W H O D) (e : Ext W.fr H H') : Got W H' O D :=
  ⟨fun _ _ _ _ e' a b c => G.nx _ _ _ _ (e.trans e') a b c, fun _ _ _ _ e' a b c => G.rt _ _ _ _ (e.trans e') a b c, fun _ _ _ _ e' a b c => G.bk _ _ _ _ (e.trans e') a b c, fun _ _ _ _ e' a b c => G.ct _ _ _ _ (e.trans e') a b c⟩
theorem ex_next (q : O.nx Γ μ) : ExG W tNext Γ μ O := fun σ H D he hI G => G.nx σ H Γ μ .refl hI he q
theorem ex_seq (h : ExG W t Γ μ { O with nx := fun Γ μ => ExG W u Γ μ O }) : ExG W (tSeq t u) Γ μ O := fun σ H D he hI G =>
  h σ H { D with nx := u D } he hI ⟨fun σ' H' Γ' μ' e I' he' q => q σ' H' D he' I' (G.ext e), G.rt, G.bk, G.ct⟩
theorem ex_drop (h : EvG W te Γ μ fun _ μ => O.nx Γ μ) : ExG W (tDrop te) Γ μ O := fun σ H D he hI G =>
  h σ H _ he hI fun v H' d μ' e I' r q => G.nx σ H' Γ μ' e I' (he.ext W.sub e) q
theorem ex_ret (h : EvG W te Γ μ O.rt) : ExG W (tRet te) Γ μ O := fun σ H D he hI G => h σ H _ he hI fun v H' d μ' e I' r q => G.rt v H' d μ' e I' r q
theorem ex_if (h : EvT W tt Γ μ fun b μ => (b = true → ExG W t Γ μ O) ∧ (b = false → ExG W u Γ μ O)) : ExG W (tIfS tt t u) Γ μ O := fun σ H D he hI G => by
  refine h σ H _ he hI fun b H1 μ1 e1 I1 h1 => ?_
  cases b with
  | true => exact iteT (h1.1 rfl σ H1 D (he.ext W.sub e1) I1 (G.ext e1))
  | false => exact iteF (h1.2 rfl σ H1 D (he.ext W.sub e1) I1 (G.ext e1))
theorem ex_break (q : O.bk Γ μ) : ExG W tBreak Γ μ O := fun σ H D he hI G => G.bk σ H Γ μ .refl hI he q
/-! ### targets -/
theorem as_name {k : Env' → M → Prop} (q : k (Γ.set i (some x)) μ) : AsG W (gName i) x Γ μ k := fun v σ H Q he hI r c => c _ H _ μ .refl hI (he.set r) q
theorem as_tup2 {k : Env' → M → Prop} {a b : D} (q : k ((Γ.set i (some a)).set j (some b)) μ) : AsG W (gTup K 2 (gCons (gName i) (gCons (gName j) gNil))) (.tup [a, b]) Γ μ k := fun v σ H Q he hI r c => by
  unfold Dv at r
  obtain ⟨p, xs, rfl, hs, hd⟩ := r
  obtain ⟨v1, v2, rfl, r1, r2⟩ := dv2 hd
  exact ⟨p, _, rfl, hs, rfl, v1, [v2], rfl, v2, [], rfl, rfl, c _ H _ μ .refl hI ((he.set r1).set r2) q⟩
theorem as_tup4 {k : Env' → M → Prop} {a b e f : D} {l m : Nat} (q : k ((((Γ.set i (some a)).set j (some b)).set l (some e)).set m (some f)) μ) : AsG W (gTup K 4 (gCons (gName i) (gCons (gName j) (gCons (gName l) (gCons (gName m) gNil))))) (.tup [a, b, e, f]) Γ μ k := fun v σ H Q he hI r c => by
  unfold Dv at r
  obtain ⟨p, xs, rfl, hs, hd⟩ := r
  unfold DvAll at hd
  obtain ⟨v1, w, rfl, r1, hd⟩ := hd
  unfold DvAll at hd
  obtain ⟨v2, w, rfl, r2, hd⟩ := hd
  obtain ⟨v3, v4, rfl, r3, r4⟩ := dv2 hd
  exact ⟨p, _, rfl, hs, rfl, v1, _, rfl, v2, _, rfl, v3, _, rfl, v4, [], rfl, rfl, c _ H _ μ .refl hI ((((he.set r1).set r2).set r3).set r4) q⟩
theorem ex_asg (h : EvG W te Γ μ fun x μ => AsG W g x Γ μ O.nx) : ExG W (tAsg te g) Γ μ O := fun σ H D he hI G =>
  h σ H _ he hI fun v H1 d μ1 e1 I1 r1 h1 => h1 v σ H1 _ (he.ext W.sub e1) I1 r1 fun σ' H' Γ' μ' e I' he' q => G.nx σ' H' Γ' μ' (e1.trans e) I' he' q
theorem ex_par {ta : TA} (h : EvA W ta Γ μ fun ds μ => ∃ a b, ds = [a, b] ∧ O.nx ((Γ.set i (some a)).set j (some b)) μ) : ExG W (tPar i j ta) Γ μ O := fun σ H D he hI G =>
  h σ H _ he hI fun vs H1 ds μ1 e1 I1 r1 ⟨a, b, e, q⟩ => by
    subst e
    obtain ⟨v1, v2, rfl, r1, r2⟩ := dv2 r1
    exact ⟨v1, v2, rfl, G.nx _ H1 _ μ1 e1 I1 (((he.ext W.sub e1).set r1).set r2) q⟩
theorem ex_par3 {ta : TA} {l : Nat} (h : EvA W ta Γ μ fun ds μ => ∃ a b e, ds = [a, b, e] ∧ O.nx (((Γ.set i (some a)).set j (some b)).set l (some e)) μ) : ExG W (tPar3 i j l ta) Γ μ O := fun σ H D he hI G =>
  h σ H _ he hI fun vs H1 ds μ1 e1 I1 r1 ⟨a, b, e, eq, q⟩ => by
    subst eq
    unfold DvAll at r1
    obtain ⟨v0, w, rfl, r0, r1⟩ := r1
    obtain ⟨v1, v2, rfl, r1, r2⟩ := dv2 r1
    exact ⟨v0, v1, v2, rfl, G.nx _ H1 _ μ1 e1 I1 ((((he.ext W.sub e1).set r0).set r1).set r2) q⟩
theorem ex_aug {f : Int → Int → Int} {a : Int} (ha : Γ[i]? = some (some (.int a))) (h : EvG W te Γ μ fun y μ => ∃ b, y = .int b ∧ O.nx (Γ.set i (some (.int (f a b)))) μ) : ExG W (tAug i te (ipI f)) Γ μ O := fun σ H D he hI G => by
  obtain ⟨v, e, r⟩ := he.at_ i _ ha
  refine ⟨v, e, h σ H _ he hI fun v1 H1 d1 μ1 e1 I1 r1 h1 => ?_⟩
  obtain ⟨b, rfl, q⟩ := h1
  exact ⟨a, b, vd_int r, vd_int r1, G.nx _ H1 _ μ1 e1 I1 ((he.ext W.sub e1).set dv_int) q⟩
/-! ### while -/
theorem ex_while (Pv : Env' → M → Prop) (mu : Env' → M → Nat) (h0 : Pv Γ μ)
    (hs : ∀ Γ μ, Pv Γ μ → EvT W tt Γ μ fun b μ1 => (b = true → ExG W t Γ μ1 { O with nx := fun Γ' μ' => Pv Γ' μ' ∧ mu Γ' μ' < mu Γ μ, ct := fun Γ' μ' => Pv Γ' μ' ∧ mu Γ' μ' < mu Γ μ, bk := O.nx }) ∧ (b = false → O.nx Γ μ1)) : ExG W (tWhile tt t) Γ μ O := fun σ H D he hI G => by
  refine ⟨fun m σ' H' => ∃ Γ' μ', m = mu Γ' μ' ∧ Pv Γ' μ' ∧ EnvD W.S K H' σ' Γ' ∧ W.I μ' H' ∧ Ext W.fr H H', ⟨_, Γ, μ, rfl, h0, he, hI, .refl⟩, ?_⟩
  rintro m σ1 H1 ⟨Γ1, μ1, rfl, p1, he1, I1, e1⟩
  refine hs Γ1 μ1 p1 σ1 H1 _ he1 I1 fun b H2 μ2 e2 I2 h2 => ?_
  have e12 := e1.trans e2
  cases b with
  | true =>
    refine iteT ⟨fun σ' H' => ∃ Γ' μ', (Pv Γ' μ' ∧ mu Γ' μ' < mu Γ1 μ1) ∧ EnvD W.S K H' σ' Γ' ∧ W.I μ' H' ∧ Ext W.fr H H', fun σ' H' ⟨Γ', μ', ⟨p, l⟩, a, b, c⟩ => ⟨_, l, Γ', μ', rfl, p, a, b, c⟩, ?_⟩
    exact h2.1 rfl σ1 H2 _ (he1.ext W.sub e2) I2 ⟨fun σ' H' Γ' μ' e I' he' q => ⟨Γ', μ', q, he', I', e12.trans e⟩, fun v H' d μ' e I' r q => G.rt v H' d μ' (e12.trans e) I' r q,
      fun σ' H' Γ' μ' e I' he' q => G.nx σ' H' Γ' μ' (e12.trans e) I' he' q, fun σ' H' Γ' μ' e I' he' q => ⟨Γ', μ', q, he', I', e12.trans e⟩⟩
  | false => exact iteF (G.nx σ1 H2 Γ1 μ2 e12 I2 (he1.ext W.sub e2) (h2.2 rfl))
/-! ### for -/
def iSeq (K : PySem.W.Frag) (tl : TE) : TI := fun σ H R => tl σ H fun x H1 => (∃ a, x = .ref a ∧ (∃ xs, SqL K H1 a xs) ∧ R (Itl K a) H1) ∨ (∃ a, x = .ref a ∧ (∃ xs, SqT K H1 a xs) ∧ R (Itt K a) H1)
theorem pi_seq {X : Cx} {tg l : Expr} {tl : TE} (hl : PE X l tl) : PI X tg l (iSeq X.K tl) := by
  refine ⟨fun pins s σ H R I h => ?_⟩
  refine thn (hl.run pins s σ H _ I h) fun v s1 ⟨x, H1, I1, r1, q1⟩ => ?_
  rcases q1 with ⟨a, e, ⟨xs, hq⟩, q⟩ | ⟨a, e, ⟨xs, hq⟩, q⟩
  · subst e
    cases r1
    obtain ⟨its, rv, p, hz⟩ := I1.list hq
    refine wpAny_pyIter_list p.isList ?_
    refine ⟨s1.heap.objs.size, [s1.heap.objs.size], _, _, H1, rfl, I1.kept (t' := s1.toks) fun b o e => Heap.get?_push_of_some _ e, turn_list a _, ⟨_, Heap.get?_push_size _ rfl, rfl, rfl⟩, fun b hb => ?_, q⟩
    have e : b = s1.heap.objs.size := by simpa using hb
    subst e
    exact I1.fpOk (Nat.le_refl _) (I1.hok.fresh (Nat.le_refl _))
  · subst e
    cases r1
    obtain ⟨its, rv, p, hz⟩ := I1.tuple hq
    refine wpAny_pyIter_tuple (show s1.heap.IsTuple a its.toArray from p) ?_
    refine ⟨s1.heap.objs.size, [s1.heap.objs.size], _, _, H1, rfl, I1.kept (t' := s1.toks) fun b o e => Heap.get?_push_of_some _ e, turn_tuple a _, ⟨_, Heap.get?_push_size _ rfl, rfl, rfl⟩, fun b hb => ?_, q⟩
    have e : b = s1.heap.objs.size := by simpa using hb
    subst e
    exact I1.fpOk (Nat.le_refl _) (I1.hok.fresh (Nat.le_refl _))
theorem dv_newT0 {S : Addr → Prop} {H : Hp} {p : Addr} {vs : List V} {ds : List D} (hp : H p = none) (hd : DvAll S K H vs ds) : Dv S K (upd H p (.tup vs)) (.ref p) (.tup ds) := by
  unfold Dv
  exact ⟨p, vs, rfl, SqT.of upd_same, hd.ext (fr := F0) (fun _ z => z.elim) (.new hp)⟩
/-- what a loop's iterator yields, by data: at turn i of n the i-th of ds -/
structure Walks (W : Wd K M) (J : It) (H0 : Hp) (ds : List D) : Prop where
  go : ∀ (i : Nat) (H : Hp) (μ : M) (d : D), ds[i]? = some d → Ext W.fr H0 H → W.I μ H → J.go i H ∧ ∀ x H', J.yld i H x H' → Ext W.fr H H' ∧ W.I μ H' ∧ ∀ S' : Addr → Prop, (∀ a, W.fr a → S' a) → (∀ a, S' a → H0 a ≠ none → W.S a) → Dv S' K H' x d
  stop : ∀ (H : Hp), Ext W.fr H0 H → J.stop ds.length H
theorem walks_L {H : Hp} {a : Addr} {xs : List V} {ds : List D} (ha : ¬ W.S a) (h : H a = some (.lst xs)) (hd : DvAll W.S K H xs ds) : Walks W (Itl K a) H ds where
  go := fun i H1 μ d e e1 I1 => by
    have h1 : SqL K H1 a xs := SqL.of (e1.keep a _ (fun z => ha (W.sub _ z)) (fun ps q => by cases q) h)
    obtain ⟨v, q1, _⟩ := hd.get e
    refine ⟨⟨xs, v, h1, q1⟩, fun x H' y => ?_⟩
    obtain ⟨e2, y⟩ := y
    subst e2
    have := (y xs h1).symm.trans q1
    cases this
    refine ⟨.refl, I1, fun S' hf hs => ?_⟩
    obtain ⟨v', q3, q2⟩ := (((hd.sub hs)).ext hf e1).get e
    rw [q1] at q3
    cases q3
    exact q2
  stop := fun H1 e1 => ⟨xs, SqL.of (e1.keep a _ (fun z => ha (W.sub _ z)) (fun ps q => by cases q) h), by rw [hd.length]; exact Nat.le_refl _⟩
theorem walks_T {H : Hp} {a : Addr} {xs : List V} {ds : List D} (h : SqT K H a xs) (hd : DvAll W.S K H xs ds) : Walks W (Itt K a) H ds where
  go := fun i H1 μ d e e1 I1 => by
    have h1 : SqT K H1 a xs := e1.sqT h
    obtain ⟨v, q1, _⟩ := hd.get e
    refine ⟨⟨xs, v, h1, q1⟩, fun x H' y => ?_⟩
    obtain ⟨e2, y⟩ := y
    subst e2
    have := (y xs h1).symm.trans q1
    cases this
    refine ⟨.refl, I1, fun S' hf hs => ?_⟩
    obtain ⟨v', q3, q2⟩ := (((hd.sub hs)).ext hf e1).get e
    rw [q1] at q3
    cases q3
    exact q2
  stop := fun H1 e1 => ⟨xs, e1.sqT h, by rw [hd.length]; exact Nat.le_refl _⟩
/-- the ints from lo on -/
def rangeD (lo : Int) (n : Nat) : List D := (List.range n).map fun i => D.int (lo + (i : Nat))
theorem rangeD_get {lo : Int} {n i : Nat} {d : D} (h : (rangeD lo n)[i]? = some d) : i < n ∧ d = .int (lo + i) := by
  unfold rangeD at h
  rw [List.getElem?_map] at h
  cases e : (List.range n)[i]? with
  | none => rw [e] at h; cases h
  | some j =>
    rw [e] at h
    obtain ⟨h1, h2⟩ := List.getElem?_eq_some_iff.mp e
    rw [List.getElem_range] at h2
    subst h2
    cases h
    exact ⟨by simpa using h1, rfl⟩
theorem rangeD_len {lo : Int} {n : Nat} : (rangeD lo n).length = n := by unfold rangeD; simp
theorem walks_R {H : Hp} {lo : Int} {n : Nat} : Walks W (Itr lo n) H (rangeD lo n) where
  go := fun i H1 μ d e e1 I1 => by
    obtain ⟨h1, rfl⟩ := rangeD_get e
    refine ⟨h1, fun x H' y => ?_⟩
    obtain ⟨e2, y⟩ := y
    subst e2 y
    exact ⟨.refl, I1, fun _ _ _ => dv_int⟩
  stop := fun H1 e1 => by rw [rangeD_len]; exact Nat.le_refl _
/-- what an iterator walks, by data -/
def EvI (W : Wd K M) (wi : TI) (Γ : Env') (μ : M) (k : List D → M → Prop) : Prop := ∀ (σ : L2.St) (H : Hp) (R : It → Hp → Prop), EnvD W.S K H σ Γ → W.I μ H → (∀ J H' ds μ', Ext W.fr H H' → W.I μ' H' → Walks W J H' ds → k ds μ' → R J H') → wi σ H R
theorem ei_seq {ki : List D → M → Prop} (h : EvG W te Γ μ fun x μ => ∃ ds, (x = .tup ds ∨ x = .lst ds) ∧ ki ds μ) : EvI W (iSeq K te) Γ μ ki := fun σ H R he hI c => by
  refine h σ H _ he hI fun v1 H1 d1 μ1 e1 I1 r1 h1 => ?_
  obtain ⟨ds, rfl | rfl, q⟩ := h1
  · unfold Dv at r1
    obtain ⟨a, xs, rfl, hs, hd⟩ := r1
    exact .inr ⟨a, rfl, ⟨xs, hs⟩, c _ H1 ds μ1 e1 I1 (walks_T hs hd) q⟩
  · unfold Dv at r1
    obtain ⟨a, xs, rfl, hn, hs, hd⟩ := r1
    exact .inl ⟨a, rfl, ⟨xs, SqL.of hs⟩, c _ H1 ds μ1 e1 I1 (walks_L hn hs hd) q⟩
theorem ei_rng1 {ta : TA} {ki : List D → M → Prop} (h : EvA W ta Γ μ fun ds μ => ∃ n : Int, ds = [.int n] ∧ -(2 ^ 62) ≤ n ∧ n < 2 ^ 62 ∧ ki (rangeD 0 n.toNat) μ) : EvI W (iRng1 ta) Γ μ ki := fun σ H R he hI c => by
  refine h σ H _ he hI fun vs H1 ds μ1 e1 I1 r1 h1 => ?_
  obtain ⟨n, rfl, a, b, q⟩ := h1
  obtain ⟨v, rfl, r⟩ := dv1 r1
  exact ⟨n, by rw [vd_int r], a, b, c _ H1 _ μ1 e1 I1 walks_R q⟩
theorem ei_rng2 {ta : TA} {ki : List D → M → Prop} (h : EvA W ta Γ μ fun ds μ => ∃ a b : Int, ds = [.int a, .int b] ∧ (-(2 ^ 62) ≤ a ∧ a < 2 ^ 62 ∧ -(2 ^ 62) ≤ b ∧ b < 2 ^ 62) ∧ ki (rangeD a (b - a).toNat) μ) : EvI W (iRng2 ta) Γ μ ki := fun σ H R he hI c => by
  refine h σ H _ he hI fun vs H1 ds μ1 e1 I1 r1 h1 => ?_
  obtain ⟨n, m, rfl, a, q⟩ := h1
  obtain ⟨v, w, rfl, r, r'⟩ := dv2 r1
  exact ⟨n, m, by rw [vd_int r, vd_int r'], a, c _ H1 _ μ1 e1 I1 walks_R q⟩
/-- zip of two, pairs -/
def zipD : List D → List D → List D
  | x :: xs, y :: ys => .tup [x, y] :: zipD xs ys
  | _, _ => []
theorem zipD_len : ∀ {xs ys : List D}, xs.length = ys.length → (zipD xs ys).length = xs.length
  | [], [], _ => rfl
  | x :: xs, y :: ys, h => by
    unfold zipD
    rw [List.length_cons, List.length_cons, zipD_len (by simpa using h)]
theorem zipD_get : ∀ {xs ys : List D} {i : Nat} {d : D}, (zipD xs ys)[i]? = some d → ∃ x y, xs[i]? = some x ∧ ys[i]? = some y ∧ d = .tup [x, y]
  | [], _, i, d, h => by simp [zipD] at h
  | _ :: _, [], i, d, h => by simp [zipD] at h
  | x :: xs, y :: ys, 0, d, h => by
    simp [zipD] at h
    exact ⟨x, y, rfl, rfl, h.symm⟩
  | x :: xs, y :: ys, i + 1, d, h => by
    have h' : (zipD xs ys)[i]? = some d := by simpa [zipD] using h
    obtain ⟨a, b, h1, h2, h3⟩ := zipD_get h'
    exact ⟨a, b, by simpa using h1, by simpa using h2, h3⟩
/-- data that a walked tuple or list is -/
def seqD (b : Bool) (ds : List D) : D := match b with
  | true => .lst ds
  | false => .tup ds
theorem sqK_of {b : Bool} {H : Hp} {v : V} {ds : List D} (h : Dv W.S K H v (seqD b ds)) : ∃ a xs, v = .ref a ∧ SqK b K H a xs ∧ DvAll W.S K H xs ds ∧ ∀ H', Ext W.fr H H' → SqK b K H' a xs := by
  cases b with
  | true =>
    unfold seqD Dv at h
    obtain ⟨a, xs, rfl, hn, hs, hd⟩ := h
    exact ⟨a, xs, rfl, SqL.of hs, hd, fun H' e => SqL.of (e.keep a _ (fun z => hn (W.sub _ z)) (fun ps q => by cases q) hs)⟩
  | false =>
    unfold seqD Dv at h
    obtain ⟨a, xs, rfl, hs, hd⟩ := h
    exact ⟨a, xs, rfl, hs, hd, fun H' e => e.sqT hs⟩
theorem ei_zip {b1 b2 : Bool} {ta : TA} {ki : List D → M → Prop} (h : EvA W ta Γ μ fun ds μ => ∃ xs ys, ds = [seqD b1 xs, seqD b2 ys] ∧ xs.length = ys.length ∧ ki (zipD xs ys) μ) : EvI W (iZipK K b1 b2 ta) Γ μ ki := fun σ H R he hI c => by
  refine h σ H _ he hI fun vs H1 ds μ1 e1 I1 r1 h1 => ?_
  obtain ⟨xs, ys, rfl, hl, q⟩ := h1
  obtain ⟨v, w, rfl, r, r'⟩ := dv2 r1
  obtain ⟨a, as, rfl, ha, da, ka⟩ := sqK_of r
  obtain ⟨b, bs, rfl, hb, db, kb⟩ := sqK_of r'
  refine ⟨a, b, as, bs, rfl, ha, hb, c _ H1 _ μ1 e1 I1 ⟨fun i H2 μ2 d e e2 I2 => ?_, fun H2 e2 => ?_⟩ q⟩
  · obtain ⟨x, y, g1, g2, rfl⟩ := zipD_get e
    obtain ⟨vx, p1, _⟩ := da.get g1
    obtain ⟨vy, p2, _⟩ := db.get g2
    refine ⟨⟨as, bs, vx, vy, ka _ e2, kb _ e2, p1, p2⟩, fun v H' yl => ?_⟩
    obtain ⟨T, ux, uy, rfl, hT, rfl, f1, f2⟩ := yl
    have := (f1 as (ka _ e2)).symm.trans p1
    cases this
    have := (f2 bs (kb _ e2)).symm.trans p2
    cases this
    refine ⟨.new hT, W.stay _ _ _ I2 (.new hT), fun S' hf hs => ?_⟩
    obtain ⟨vx', p3, q1⟩ := ((da.sub hs).ext hf e2).get g1
    obtain ⟨vy', p4, q2⟩ := ((db.sub hs).ext hf e2).get g2
    rw [p1] at p3
    cases p3
    rw [p2] at p4
    cases p4
    exact dv_newT0 hT (.cons q1 (.cons q2 .nil))
  · refine ⟨as, bs, ka _ e2, kb _ e2, ?_, ?_⟩
    · rw [da.length, zipD_len hl]
    · rw [db.length, zipD_len hl, hl]
/-- THE LOOP -/
theorem ex_for {wi : TI} (h : EvI W wi Γ μ fun ds μ1 => ∃ Pv : Nat → Env' → M → Prop, Pv 0 Γ μ1 ∧
      (∀ i x Γ μ, ds[i]? = some x → Pv i Γ μ → AsG W g x Γ μ fun Γ μ => ExG W t Γ μ { O with nx := Pv (i + 1), ct := Pv (i + 1), bk := O.nx }) ∧ ∀ Γ μ, Pv ds.length Γ μ → O.nx Γ μ) : ExG W (tFor wi g t) Γ μ O := fun σ H D he hI G => by
  refine h σ H _ he hI fun J H1 ds μ1 e1 I1 w1 h1 => ?_
  obtain ⟨Pv, p0, ps, pd⟩ := h1
  refine ⟨fun i m σ' H' => ∃ Γ' μ', m = ds.length - i ∧ i ≤ ds.length ∧ Pv i Γ' μ' ∧ EnvD W.S K H' σ' Γ' ∧ W.I μ' H' ∧ Ext W.fr H1 H', ⟨_, Γ, μ1, rfl, Nat.zero_le _, p0, he.ext W.sub e1, I1, .refl⟩, ?_⟩
  rintro i m σ2 H2 ⟨Γ2, μ2, rfl, hi, p2, he2, I2, e2⟩
  by_cases hlt : i < ds.length
  · have hx := List.getElem?_eq_getElem hlt
    obtain ⟨g1, g2⟩ := w1.go i H2 μ2 _ hx e2 I2
    refine .inr ⟨g1, fun σ' H' => ∃ Γ' μ', Pv (i + 1) Γ' μ' ∧ EnvD W.S K H' σ' Γ' ∧ W.I μ' H' ∧ Ext W.fr H1 H', fun σ' H' ⟨Γ', μ', a, b, c, d⟩ => ⟨ds.length - (i + 1), by omega, Γ', μ', rfl, hlt, a, b, c, d⟩, fun x H' y => ?_⟩
    obtain ⟨e3, I3, r3⟩ := g2 x H' y
    have r3 := r3 W.S W.sub fun _ z _ => z
    have e23 := e2.trans e3
    refine ps i _ Γ2 μ2 hx p2 x σ2 H' _ (he2.ext W.sub e3) I3 r3 fun σ4 H4 Γ4 μ4 e4 I4 he4 q4 => ?_
    have e14 := e1.trans (e23.trans e4)
    exact q4 σ4 H4 _ he4 I4 ⟨fun σ' H' Γ' μ' e I' he' q => ⟨Γ', μ', q, he', I', (e23.trans e4).trans e⟩, fun v H' d μ' e I' r q => G.rt v H' d μ' (e14.trans e) I' r q,
      fun σ' H' Γ' μ' e I' he' q => G.nx σ' H' Γ' μ' (e14.trans e) I' he' q, fun σ' H' Γ' μ' e I' he' q => ⟨Γ', μ', q, he', I', (e23.trans e4).trans e⟩⟩
  · have e : i = ds.length := by omega
    subst e
    exact .inl ⟨w1.stop H2 e2, G.nx σ2 H2 Γ2 μ2 (e1.trans e2) I2 he2 (pd _ _ p2)⟩
/-! ### generator expressions -/
theorem eg_allG {P : Addr} {wi : TI} {vs : List Nat} (hP : P ∈ W.tabs) (h : EvI W wi Γ μ fun ds μ1 => ∃ Pv : Nat → M → Prop, Pv 0 μ1 ∧
      (∀ i x μ, ds[i]? = some x → Pv i μ → AsG W g x (wipeG Γ vs) μ fun Γ2 μ => EvG W te Γ2 μ fun y μ => ∃ b, y = .bl b ∧ (b = true → Pv (i + 1) μ) ∧ (b = false → k (.bl false) μ)) ∧ ∀ μ, Pv ds.length μ → k (.bl true) μ)
    (hw : ∀ v σ H Q, g v (L2.wipe σ vs) H Q → g v (L2.wipe σ vs) H fun σ2 H2 => L2.wipe σ2 vs = L2.wipe σ vs ∧ Q σ2 H2) : EvG W (tAllG P wi g te vs) Γ μ k := fun σ H Q he hI c => by
  refine h σ H _ he hI fun J H1 ds μ1 e1 I1 w1 h1 => ?_
  obtain ⟨Pv, p0, ps, pd⟩ := h1
  have hT := W.tab _ _ I1 P hP
  refine ⟨hT, fun H2 tb => ?_⟩
  have e2 : Ext F0 H1 H2 := Ext.tabbed tb hT
  have I2 := W.stay _ _ _ I1 e2
  refine ⟨fun i m ys H' => ∃ μ', m = ds.length - i ∧ i ≤ ds.length ∧ Pv i μ' ∧ W.I μ' H' ∧ Ext W.fr H1 H', ⟨_, μ1, rfl, Nat.zero_le _, p0, I2, e2.of0⟩, ?_⟩
  rintro i m ys H3 ⟨μ3, rfl, hi, p3, I3, e3⟩
  by_cases hlt : i < ds.length
  · have hx := List.getElem?_eq_getElem hlt
    obtain ⟨g1, g2⟩ := w1.go i H3 μ3 _ hx e3 I3
    refine .inr ⟨g1, fun ys' H' => ∃ μ', Pv (i + 1) μ' ∧ W.I μ' H' ∧ Ext W.fr H1 H', fun ys' H' ⟨μ', a, b, c⟩ => ⟨ds.length - (i + 1), by omega, μ', rfl, hlt, a, b, c⟩, fun x H' y => ?_⟩
    obtain ⟨e4, I4, r4⟩ := g2 x H' y
    have r4 := r4 W.S W.sub fun _ z _ => z
    have e34 := e3.trans e4
    refine hw x σ H' _ (ps i _ μ3 hx p3 x _ H' _ ((he.ext W.sub (e1.trans e34)).wipe vs) I4 r4 fun σ5 H5 Γ5 μ5 e5 I5 he5 q5 => ?_)
    refine q5 σ5 H5 _ he5 I5 fun v H6 d μ6 e6 I6 r6 q6 => ?_
    obtain ⟨b, rfl, q7, q8⟩ := q6
    have e16 := (e34.trans e5).trans e6
    cases b with
    | true => exact .inr ⟨vd_bl r6, μ6, q7 rfl, I6, e16⟩
    | false => exact .inl ⟨vd_bl r6, c _ H6 _ μ6 (e1.trans e16) I6 dv_bl (q8 rfl)⟩
  · have e : i = ds.length := by omega
    subst e
    exact .inl ⟨w1.stop H3 e3, c _ H3 _ μ3 (e1.trans e3) I3 dv_bl (pd _ p3)⟩
theorem eg_tupG {P : Addr} {wi : TI} {vs : List Nat} (hP : P ∈ W.tabs) (h : EvI W wi Γ μ fun ds μ1 => ds.length < sizeLine ∧ ∃ Pv : Nat → List D → M → Prop, Pv 0 [] μ1 ∧
      (∀ i x out μ, ds[i]? = some x → Pv i out μ → AsG W g x (wipeG Γ vs) μ fun Γ2 μ => EvG W te Γ2 μ fun y μ => Pv (i + 1) (out ++ [y]) μ) ∧ ∀ out μ, Pv ds.length out μ → k (.tup out) μ)
    (hw : ∀ v σ H Q, g v (L2.wipe σ vs) H Q → g v (L2.wipe σ vs) H fun σ2 H2 => L2.wipe σ2 vs = L2.wipe σ vs ∧ Q σ2 H2) : EvG W (tTupG P wi g te vs) Γ μ k := fun σ H Q he hI c => by
  refine h σ H _ he hI fun J H1 ds μ1 e1 I1 w1 h1 => ?_
  obtain ⟨hsz, Pv, p0, ps, pd⟩ := h1
  have hT := W.tab _ _ I1 P hP
  refine ⟨hT, fun H2 tb => ?_⟩
  have e2 : Ext F0 H1 H2 := Ext.tabbed tb hT
  have I2 := W.stay _ _ _ I1 e2
  refine ⟨fun i m ys H' => ∃ out μ', m = ds.length - i ∧ i ≤ ds.length ∧ Pv i out μ' ∧ DvAll W.S K H' ys out ∧ W.I μ' H' ∧ Ext W.fr H1 H', ⟨ds.length, hsz, [], μ1, rfl, Nat.zero_le _, p0, DvAll.nil, I2, e2.of0⟩, ?_⟩
  rintro i m ys H3 ⟨out, μ3, rfl, hi, p3, d3, I3, e3⟩
  by_cases hlt : i < ds.length
  · have hx := List.getElem?_eq_getElem hlt
    obtain ⟨g1, g2⟩ := w1.go i H3 μ3 _ hx e3 I3
    refine .inr ⟨g1, fun ys' H' => ∃ out' μ', Pv (i + 1) out' μ' ∧ DvAll W.S K H' ys' out' ∧ W.I μ' H' ∧ Ext W.fr H1 H', fun ys' H' ⟨out', μ', a, b, c, d⟩ => ⟨ds.length - (i + 1), by omega, out', μ', rfl, hlt, a, b, c, d⟩, fun x H' y => ?_⟩
    obtain ⟨e4, I4, r4⟩ := g2 x H' y
    have r4 := r4 W.S W.sub fun _ z _ => z
    have e34 := e3.trans e4
    refine hw x σ H' _ (ps i _ out μ3 hx p3 x _ H' _ ((he.ext W.sub (e1.trans e34)).wipe vs) I4 r4 fun σ5 H5 Γ5 μ5 e5 I5 he5 q5 => ?_)
    refine q5 σ5 H5 _ he5 I5 fun v H6 d μ6 e6 I6 r6 q6 => .inr ⟨trivial, out ++ [d], μ6, q6, ?_, I6, (e34.trans e5).trans e6⟩
    exact (d3.ext W.sub ((e4.trans e5).trans e6)).append (.cons r6 .nil)
  · have e : i = ds.length := by omega
    subst e
    exact .inl ⟨w1.stop H3 e3, fun p hp => c _ _ _ μ3 ((e1.trans e3).trans (.new hp)) (W.stay _ _ _ I3 (.new hp)) (dv_newT hp d3) (pd _ _ p3)⟩
theorem hw_name {i : Nat} : ∀ v σ H Q, gName i v (L2.wipe σ [i]) H Q → gName i v (L2.wipe σ [i]) H fun σ2 H2 => L2.wipe σ2 [i] = L2.wipe σ [i] ∧ Q σ2 H2 := fun v σ H Q h => by
  refine ⟨?_, h⟩
  show ((σ.set i none).set i (some v)).set i none = σ.set i none
  rw [List.set_set, List.set_set]
theorem hw_two {i j : Nat} (hij : i ≠ j) : ∀ v σ H Q, gTup K 2 (gCons (gName i) (gCons (gName j) gNil)) v (L2.wipe σ [i, j]) H Q → gTup K 2 (gCons (gName i) (gCons (gName j) gNil)) v (L2.wipe σ [i, j]) H fun σ2 H2 => L2.wipe σ2 [i, j] = L2.wipe σ [i, j] ∧ Q σ2 H2 := fun v σ H Q h => by
  obtain ⟨a, xs, e1, e2, e3, v1, r1, e4, v2, r2, e5, e6, q⟩ := h
  refine ⟨a, xs, e1, e2, e3, v1, r1, e4, v2, r2, e5, e6, ?_, q⟩
  show ((((((σ.set j none).set i none).set i (some v1)).set j (some v2)).set j none).set i none) = (σ.set j none).set i none
  rw [List.set_set, List.set_set, List.set_comm _ _ hij, List.set_set, List.set_set]
end
end DL

namespace DL
open PySem PySem.Spec PyProof.Rows L2 GxR GX

/-- an address that was free at the start does not count -/
theorem Ext.drop {fr : Addr → Prop} {H H1 H2 : Hp} {A : Addr} (e1 : Ext fr H H1) (h : H A = none) (e2 : Ext (fun a => fr a ∨ a = A) H1 H2) : Ext fr H H2 :=
  ⟨fun a o n t q => e2.keep a o (fun z => z.elim n fun z => by rw [z, h] at q; cases q) t (e1.keep a o n t q), fun a xs r => e2.tup a xs (e1.tup a xs r), fun a t => e2.tbl a (e1.tbl a t), fun a q => e2.live a (e1.live a q)⟩
theorem tabG_upd {H : Hp} {P a : Addr} {xs : List V} {o : HO} (h : TabG H P) (e : H a = some (.lst xs)) : TabG (upd H a o) P := by
  have : P ≠ a := fun z => by
    obtain ⟨ps, e1, _⟩ := h
    rw [z, e] at e1
    cases e1
  obtain ⟨ps, e1, e2⟩ := h
  exact ⟨ps, by rw [upd_ne this]; exact e1, e2⟩
theorem live_upd {H : Hp} {a b : Addr} {o : HO} (h : H a ≠ none) : upd H b o a ≠ none := by
  by_cases e : a = b
  · rw [e, upd_same]; exact fun z => nomatch z
  · rw [upd_ne e]; exact h

section
variable {K : PySem.W.Frag} {M : Type}
/-- .. while a new list stands at A -/
def Wd.plus (W : Wd K M) (A : Addr) : Wd K M where
  S := fun a => W.S a ∨ a = A
  fr := W.fr
  tabs := W.tabs
  I := fun μ H => W.I μ H ∧ H A ≠ none
  sub := fun a h => .inl (W.sub a h)
  live := fun μ H a hI h => h.elim (W.live μ H a hI.1) fun z => z ▸ hI.2
  tab := fun μ H hI => W.tab μ H hI.1
  stay := fun μ H H' hI e => ⟨W.stay μ H H' hI.1 e, e.live A hI.2⟩
  free := fun μ H a xs ys hI h e => ⟨W.free μ H a xs ys hI.1 (fun z => h (.inl z)) e, live_upd hI.2⟩
end
section
variable {K : PySem.W.Frag} {M : Type} {W : Wd K M} {te ta tb tc : TE} {tt tu : TT} {ts t u : TS} {g : TG} {Γ : Env'} {μ : M} {k : D → M → Prop} {kb : Bool → M → Prop} {O : Outs M} {i j : Nat} {d x y : D}
/-- [e for g in wi if t] -/
theorem eg_lc {wi : TI} {vs : List Nat} (h : EvI W wi Γ μ fun ds μ1 => ds.length < sizeLine ∧ ∃ Pv : Nat → List D → M → Prop, Pv 0 [] μ1 ∧
      (∀ i x out μ, ds[i]? = some x → Pv i out μ → ∀ A, AsG (W.plus A) g x (wipeG Γ vs) μ fun Γ2 μ => EvT (W.plus A) tt Γ2 μ fun b μ => (b = true → EvG (W.plus A) te Γ2 μ fun y μ => Pv (i + 1) (out ++ [y]) μ) ∧ (b = false → Pv (i + 1) out μ)) ∧ ∀ out μ, Pv ds.length out μ → k (.lst out) μ)
    (hw : ∀ v σ H Q, g v (L2.wipe σ vs) H Q → g v (L2.wipe σ vs) H fun σ2 H2 => L2.wipe σ2 vs = L2.wipe σ vs ∧ Q σ2 H2) : EvG W (tLc wi g tt te vs) Γ μ k := fun σ H Q he hI c => by
  refine h σ H _ he hI fun J H1 ds μ1 e1 I1 w1 h1 => ?_
  obtain ⟨hsz, Pv, p0, ps, pd⟩ := h1
  intro A hA
  have hSA : ¬ W.S A := fun z => W.live _ _ _ I1 z hA
  have hfA : ∀ a, (W.fr a ∨ a = A) → (W.plus A).S a := fun a z => z.elim (fun z => .inl (W.sub a z)) .inr
  have hnew : Ext W.fr H1 (upd H1 A (.lst [])) := .new hA
  refine ⟨fun i m H' => ∃ out acc μ', m = ds.length - i ∧ i ≤ ds.length ∧ acc.length ≤ i ∧ Pv i out μ' ∧ H' A = some (.lst acc) ∧ DvAll (W.plus A).S K H' acc out ∧ W.I μ' H' ∧ Ext (fun a => W.fr a ∨ a = A) (upd H1 A (.lst [])) H',
    ⟨_, [], [], μ1, rfl, Nat.zero_le _, Nat.le_refl _, p0, upd_same, DvAll.nil, W.stay _ _ _ I1 (.new hA), .refl⟩, ?_⟩
  rintro i m H3 ⟨out, acc, μ3, rfl, hi, hal, p3, hacc, d3, I3, e3⟩
  have e13 : Ext W.fr H1 H3 := hnew.drop hA e3
  have he3 : EnvD (W.plus A).S K H3 σ Γ := by
    have q1 : EnvD (W.plus A).S K H1 σ Γ := (he.ext W.sub e1).sub fun a z nz => z.elim (fun z => z) fun z => absurd (z ▸ hA) nz
    have q2 : EnvD (W.plus A).S K (upd H1 A (.lst [])) σ Γ := q1.ext (fr := F0) (fun _ z => z.elim) (.new hA)
    exact q2.ext hfA e3
  by_cases hlt : i < ds.length
  · have hx := List.getElem?_eq_getElem hlt
    obtain ⟨g1, g2⟩ := w1.go i H3 μ3 _ hx e13 I3
    refine .inr ⟨g1, fun H' => ∃ out acc μ', acc.length ≤ i + 1 ∧ Pv (i + 1) out μ' ∧ H' A = some (.lst acc) ∧ DvAll (W.plus A).S K H' acc out ∧ W.I μ' H' ∧ Ext (fun a => W.fr a ∨ a = A) (upd H1 A (.lst [])) H',
      fun H' ⟨out, acc, μ', a0, a, b, c, d, e⟩ => ⟨ds.length - (i + 1), by omega, out, acc, μ', rfl, hlt, a0, a, b, c, d, e⟩, fun x H' y => ?_⟩
    obtain ⟨e4, I4, r4⟩ := g2 x H' y
    have r4 := r4 (W.plus A).S (fun a z => .inl (W.sub a z)) fun a z nz => z.elim (fun z => z) fun z => absurd (z ▸ hA) nz
    have hacc4 : H' A = some (.lst acc) := e4.keep A _ (fun z => hSA (W.sub A z)) (fun ps q => by cases q) hacc
    refine hw x σ H' _ (ps i _ out μ3 hx p3 A x _ H' _ ((he3.ext (W.plus A).sub e4).wipe vs) ⟨I4, by rw [hacc4]; simp⟩ r4 fun σ5 H5 Γ5 μ5 e5 I5 he5 q5 => ?_)
    refine q5 σ5 H5 _ he5 I5 fun b H6 μ6 e6 I6 q6 => ?_
    have e46 : Ext W.fr H3 H6 := (e4.trans e5).trans e6
    have e46' : Ext (fun a => W.fr a ∨ a = A) H3 H6 := e46.mono fun a z => .inl z
    cases b with
    | true =>
      refine iteT (q6.1 rfl σ5 H6 _ (he5.ext (W.plus A).sub e6) I6 fun v H7 d7 μ7 e7 I7 r7 q7 => ?_)
      have e37 : Ext W.fr H3 H7 := e46.trans e7
      have hacc7 : H7 A = some (.lst acc) := e37.keep A _ (fun z => hSA (W.sub A z)) (fun ps q => by cases q) hacc
      have ew : Ext (fun a => W.fr a ∨ a = A) H7 (upd H7 A (.lst (acc ++ [v]))) := .wlst (.inr rfl) hacc7
      refine ⟨acc, hacc7, by omega, out ++ [d7], acc ++ [v], μ7, by rw [List.length_append, List.length_singleton]; omega, q7, upd_same, ?_, W.free _ _ _ _ _ I7.1 hSA hacc7, (e3.trans (e37.mono fun a z => .inl z)).trans ew⟩
      exact (((d3.ext (W.plus A).sub e37).append (.cons r7 .nil))).ext hfA ew
    | false =>
      refine iteF ⟨out, acc, μ6, by omega, q6.2 rfl, e46.keep A _ (fun z => hSA (W.sub A z)) (fun ps q => by cases q) hacc, d3.ext (W.plus A).sub e46, I6.1, e3.trans e46'⟩
  · have e : i = ds.length := by omega
    subst e
    refine .inl ⟨w1.stop H3 e13, c _ H3 (.lst out) μ3 (e1.trans e13) I3 ?_ (pd _ _ p3)⟩
    unfold Dv
    exact ⟨A, acc, rfl, hSA, hacc, d3.sub fun a z _ => .inl z⟩

/-! ### what pure defs promise -/
/-- nothing that stands is changed; c tells when a value with post is returned -/
def SpP (K : PySem.W.Frag) (tabs : List Addr) (c : List D → (D → Prop) → Prop) : Sp := fun vs H Q _ => ∃ (S : Addr → Prop) (ds : List D) (post : D → Prop), DvAll S K H vs ds ∧ (∀ a, S a → H a ≠ none) ∧ (∀ P ∈ tabs, TabG H P) ∧ c ds post ∧
  ∀ v H' d, Ext F0 H H' → Dv S K H' v d → post d → Q v H'
theorem eg_call {c : List D → (D → Prop) → Prop} {tabs : List Addr} {E : XK} {ta : TA} (ht : ∀ P ∈ tabs, P ∈ W.tabs) (h : EvA W ta Γ μ fun ds μ => c ds fun d => k d μ) : EvG W (tCall (SpP K tabs c) [] E ta) Γ μ k := fun σ H Q he hI cc => by
  refine h σ H _ he hI fun vs H1 ds μ1 e1 I1 r1 h1 => ?_
  exact ⟨W.S, ds, _, by rw [List.append_nil]; exact r1, fun a z => W.live _ _ _ I1 z, fun P z => W.tab _ _ I1 P (ht P z), h1, fun v H' d e r q => cc v H' d μ1 (e1.trans e.of0) (W.stay _ _ _ I1 e) r q⟩
end
/-- the world of a pure def -/
def wP (K : PySem.W.Frag) (S : Addr → Prop) (tabs : List Addr) : Wd K Unit where
  S := S
  fr := F0
  tabs := tabs
  I := fun _ H => (∀ a, S a → H a ≠ none) ∧ ∀ P ∈ tabs, TabG H P
  sub := fun _ h => h.elim
  live := fun _ _ a h => h.1 a
  tab := fun _ _ h => h.2
  stay := fun _ _ _ h e => ⟨fun a z => e.live a (h.1 a z), fun P z => e.tbl P (h.2 P z)⟩
  free := fun _ H a xs ys h _ e => ⟨fun b z => live_upd (h.1 b z), fun P z => tabG_upd (h.2 P z) e⟩
/-- a def's slots at its start -/
def Γ0 (N : List Str) (ds : List D) : Env' := ds.map some ++ List.replicate (N.length - ds.length) none
section
variable {P : Program} {w : World} {K : PySem.W.Frag} {mg : Str → Option Value} {base : Heap}
/-- as Fun.ok; the code object is the def's own -/
theorem Fun.okC {x qual : Str} {st : Stmt} {f : Addr} {fd : FuncData} {N ps : List Str} {k : Nat} {sp : Sp} (F : Fun K x qual st f fd) (S : FnScope N ps (defScope st)) (len : ∀ vs H Q E, sp vs H Q E → vs.length = ps.length)
    (hbody : ∀ (cdv : Value) (A : Around) (outer : List Env) (s : Shared) (H : Hp) (vs : List V) (Q : VK) (E : XK), cdv = fd.code → Room k (A.deeper (envOfC qual (defScope st) s.heap.objs.size f cdv)) → sp vs H Q E →
      ∃ t, PSs (cxOf CX0 P w K mg base N qual (defScope st) f cdv A outer s H E).nox (defBody st) t ∧ t { nx := fun _ H' => Q .non H', rt := Q } (start N vs) H) : FnOk P w K mg base CX0 (k + 1) f fd ps sp := by
  obtain ⟨oc, od, kV, doc, pm, an, cdv, ct, osl, rfl, lk, hcd⟩ := F.ex
  refine fn_of lk hcd S len fun A outer s H vs Q E hr hsp => ?_
  obtain ⟨t, h, q⟩ := hbody cdv A outer s H vs Q E rfl hr hsp
  exact ⟨t, h.nox, q⟩
/-- a pure def by its body -/
theorem okP {x qual : Str} {st : Stmt} {f : Addr} {fd : FuncData} {N ps : List Str} {k : Nat} {tabs : List Addr} {c : List D → (D → Prop) → Prop} (F : Fun K x qual st f fd) (S : FnScope N ps (defScope st)) (len : ∀ ds post, c ds post → ds.length = ps.length)
    (hbody : ∀ (cdv : Value) (A : Around) (outer : List Env) (s : Shared) (H : Hp) (E : XK), cdv = fd.code → Room k (A.deeper (envOfC qual (defScope st) s.heap.objs.size f cdv)) →
      ∃ t, PSs (cxOf CX0 P w K mg base N qual (defScope st) f cdv A outer s H E).nox (defBody st) t ∧ ∀ S ds post, c ds post → ExG (wP K S tabs) t (Γ0 N ds) () { nx := fun _ _ => post .non, rt := fun d _ => post d }) : FnOk P w K mg base CX0 (k + 1) f fd ps (SpP K tabs c) := by
  refine DL.Fun.okC F S (fun vs H Q E h => ?_) fun cdv A outer s H vs Q E hc hr h => ?_
  · obtain ⟨S, ds, post, h1, _, _, h2, _⟩ := h
    exact h1.length.trans (len ds post h2)
  · obtain ⟨S, ds, post, h1, h2, h3, h4, q⟩ := h
    obtain ⟨t, ht, hx⟩ := hbody cdv A outer s H E hc hr
    refine ⟨t, ht, ?_⟩
    exact hx S ds post h4 (start N vs) H _ (EnvD.start h1) ⟨h2, h3⟩ ⟨fun σ' H' Γ' μ' e I' he' q' => q .non H' .non e dv_non q', fun v H' d μ' e I' r q' => q v H' d e r q', fun _ _ _ _ _ _ _ z => z.elim, fun _ _ _ _ _ _ _ z => z.elim⟩
end
end DL

namespace DL
open PySem PySem.Spec PyProof.Rows L2 GxR GX

/-! ### a list of the def's own -/
section
variable {K : PySem.W.Frag} {M : Type}
/-- .. where all that stands at H0 counts as no data's list -/
def Wd.up (W : Wd K M) (H0 : Hp) : Wd K M where
  S := fun a => W.S a ∨ H0 a ≠ none
  fr := W.fr
  tabs := W.tabs
  I := fun μ H => W.I μ H ∧ ∀ a, H0 a ≠ none → H a ≠ none
  sub := fun a h => .inl (W.sub a h)
  live := fun μ H a hI h => h.elim (W.live μ H a hI.1) (hI.2 a)
  tab := fun μ H hI => W.tab μ H hI.1
  stay := fun μ H H' hI e => ⟨W.stay μ H H' hI.1 e, fun a z => e.live a (hI.2 a z)⟩
  free := fun μ H a xs ys hI h e => ⟨W.free μ H a xs ys hI.1 (fun z => h (.inl z)) e, fun b z => live_upd (hI.2 b z)⟩
/-- data without lists -/
abbrev DvF (K : PySem.W.Frag) (H : Hp) (vs : List V) (ds : List D) : Prop := DvAll (fun _ => True) K H vs ds
theorem dvF_ext {fr : Addr → Prop} {H H' : Hp} {vs : List V} {ds : List D} (h : DvF K H vs ds) (e : Ext fr H H') : DvF K H' vs ds := h.ext (fr := fr) (fun _ _ => trivial) e
theorem dvF_to {S : Addr → Prop} {H : Hp} {vs : List V} {ds : List D} (h : DvF K H vs ds) : DvAll S K H vs ds := h.sub fun _ _ _ => trivial
/-- a list at L of the def's own: its items are in μ -/
def Wd.own (W : Wd K M) (L : Addr) (hL : ¬ W.S L) : Wd K (M × List D) where
  S := fun a => W.S a ∨ a = L
  fr := fun a => W.fr a ∨ a = L
  tabs := W.tabs
  I := fun μ H => W.I μ.1 H ∧ ∃ xs, H L = some (.lst xs) ∧ DvF K H xs μ.2
  sub := fun a h => h.elim (fun h => .inl (W.sub a h)) .inr
  live := fun μ H a hI h => h.elim (W.live μ.1 H a hI.1) fun z => by
    obtain ⟨xs, e, _⟩ := hI.2
    rw [z, e]; exact fun z => nomatch z
  tab := fun μ H hI => W.tab μ.1 H hI.1
  stay := fun μ H H' hI e => ⟨W.stay μ.1 H H' hI.1 e, by
    obtain ⟨xs, e1, e2⟩ := hI.2
    exact ⟨xs, e.keep L _ (fun z => z.elim) (fun ps q => by cases q) e1, dvF_ext e2 e⟩⟩
  free := fun μ H a xs ys hI h e => ⟨W.free μ.1 H a xs ys hI.1 (fun z => h (.inl z)) e, by
    obtain ⟨zs, e1, e2⟩ := hI.2
    have : L ≠ a := fun z => h (.inr z.symm)
    refine ⟨zs, by rw [upd_ne this]; exact e1, ?_⟩
    exact dvF_ext (fr := fun b => b = a) e2 (.wlst rfl e)⟩
end
mutual
/-- no list in it -/
def flatD : D → Bool
  | .lst _ => false
  | .tup ds => flatAll ds
  | _ => true
def flatAll : List D → Bool
  | [] => true
  | d :: r => flatD d && flatAll r
end
section
variable {S S' : Addr → Prop} {K : PySem.W.Frag} {H : Hp}
mutual
theorem Dv.flat : ∀ (d : D) (v : V), flatD d = true → Dv S K H v d → Dv S' K H v d
  | .non, v, _, h => h
  | .bl b, v, _, h => h
  | .int i, v, _, h => h
  | .str x, v, _, h => h
  | .ty n, v, _, h => h
  | .adr a, v, _, h => h
  | .tup ds, v, f, h => by
    have f' : flatAll ds = true := by simpa [flatD] using f
    unfold Dv at h ⊢
    obtain ⟨a, xs, e1, h1, h2⟩ := h
    exact ⟨a, xs, e1, h1, DvAll.flat ds xs f' h2⟩
  | .lst ds, v, f, h => by simp [flatD] at f
theorem DvAll.flat : ∀ (ds : List D) (vs : List V), flatAll ds = true → DvAll S K H vs ds → DvAll S' K H vs ds
  | [], vs, _, h => h
  | d :: r, vs, f, h => by
    have f' : flatD d = true ∧ flatAll r = true := by simpa [flatAll] using f
    unfold DvAll at h ⊢
    obtain ⟨v, w, e1, h1, h2⟩ := h
    exact ⟨v, w, e1, Dv.flat d v f'.1 h1, DvAll.flat r w f'.2 h2⟩
end
def flatG (Γ : Env') : Bool := Γ.all fun o => match o with
  | none => true
  | some d => flatD d
theorem EnvD.flat {σ : L2.St} {Γ : Env'} (h : EnvD S K H σ Γ) (f : flatG Γ = true) : EnvD S' K H σ Γ :=
  ⟨h.len, fun i d q => let ⟨v, h1, h2⟩ := h.at_ i d q; ⟨v, h1, Dv.flat d v (List.all_eq_true.mp f (some d) (List.mem_of_getElem? q)) h2⟩⟩
end
theorem flatAll_ints : ∀ (ns : List Int), flatAll (ns.map .int) = true
  | [] => rfl
  | n :: r => by rw [List.map_cons]; unfold flatAll; rw [flatAll_ints r]; rfl
theorem flatAll_of {ds : List D} (h : ∀ d ∈ ds, flatD d = true) : flatAll ds = true := by
  induction ds with
  | nil => rfl
  | cons d r ih =>
    unfold flatAll
    rw [h d List.mem_cons_self, ih fun x hx => h x (List.mem_cons_of_mem _ hx)]
    rfl
theorem flatAll_at {ds : List D} {i : Nat} {d : D} (h : flatAll ds = true) (e : ds[i]? = some d) : flatD d = true := by
  induction ds generalizing i with
  | nil => simp at e
  | cons x r ih =>
    have f' : flatD x = true ∧ flatAll r = true := by simpa [flatAll] using h
    cases i with
    | zero => simp at e; subst e; exact f'.1
    | succ i => exact ih f'.2 (by simpa using e)
section
variable {K : PySem.W.Frag} {M : Type} {W : Wd K M} {te ta tb tc : TE} {tt tu : TT} {ts t u : TS} {g : TG} {Γ : Env'} {μ : M} {k : D → M → Prop} {kb : Bool → M → Prop} {O : Outs M} {i j l : Nat} {d x y : D}
theorem up_run {te : TE} {σ : L2.St} {H : Hp} {Q : VK} (hΓ : flatG Γ = true) (he : EnvD W.S K H σ Γ) (hI : W.I μ H) {k' : D → M → Prop} (h : EvG (W.up H) te Γ μ k')
    (c : ∀ L xs ds H1 μ1, Ext W.fr H H1 → W.I μ1 H1 → H L = none → ¬ W.S L → H1 L = some (.lst xs) → DvAll W.S K H1 xs ds → EnvD W.S K H1 σ Γ → k' (.lst ds) μ1 → Q (.ref L) H1) (hk : ∀ d μ, k' d μ → ∃ ds, d = .lst ds) : te σ H Q := by
  refine h σ H Q (he.flat hΓ) ⟨hI, fun _ z => z⟩ fun v H1 d μ1 e1 I1 r1 h1 => ?_
  obtain ⟨ds, rfl⟩ := hk _ _ h1
  unfold Dv at r1
  obtain ⟨L, xs, rfl, n1, e2, d2⟩ := r1
  have hn : H L = none := by
    cases q : H L with
    | none => rfl
    | some o => exact absurd (.inr (by rw [q]; exact fun z => nomatch z)) n1
  exact c L xs ds H1 μ1 e1 I1.1 hn (fun z => n1 (.inl z)) e2 (d2.sub fun _ z _ => .inl z) (he.ext W.sub e1) h1
/-- behind it: the rest of the body runs with the list as its own -/
theorem own_rest {σ : L2.St} {H H1 : Hp} {L : Addr} {xs : List V} {ds : List D} {D : Ends} {Γ1 : Env'} (hL : ¬ W.S L) (hn : H L = none) (e1 : Ext W.fr H H1) (I1 : W.I μ H1) (hl : H1 L = some (.lst xs)) (hd : DvF K H1 xs ds)
    (he : EnvD (fun a => W.S a ∨ a = L) K H1 σ Γ1) (G : Got W H O D) (h : ExG (W.own L hL) u Γ1 (μ, ds) { nx := fun _ _ => False, rt := fun d m => O.rt d m.1 }) : u D σ H1 := by
  refine h σ H1 D he ⟨I1, xs, hl, hd⟩ ⟨fun _ _ _ _ _ _ _ z => z.elim, fun v H' d m e I' r q => ?_, fun _ _ _ _ _ _ _ z => z.elim, fun _ _ _ _ _ _ _ z => z.elim⟩
  exact G.rt v H' d m.1 (e1.drop hn e) I'.1 (Dv.sub (S := fun a => W.S a ∨ a = L) (fun a z _ => .inl z) _ _ r) q
theorem ex_own1 (hΓ : flatG Γ = true) (h : ∀ H0, EvG (W.up H0) te Γ μ fun x μ => ∃ ds, x = .lst ds ∧ flatAll ds = true ∧ ∀ L hL, ExG (W.own L hL) u (Γ.set i (some (.adr L))) (μ, ds) { nx := fun _ _ => False, rt := fun d m => O.rt d m.1 }) : ExG W (tSeq (tAsg te (gName i)) u) Γ μ O := fun σ H D he hI G => by
  refine up_run hΓ he hI (h H) (fun L xs ds H1 μ1 e1 I1 hn hL hl hd he1 ⟨ds', e, hf, hx⟩ => ?_) fun d μ ⟨ds, e, _⟩ => ⟨ds, e⟩
  cases e
  show u D (σ.set i (some (.ref L))) H1
  exact own_rest (xs := xs) hL hn e1 I1 hl (hd.flat ds xs hf) ((he1.flat hΓ).set dv_adr) G (hx L hL)
/-- a, b = <list>, e -/
theorem ex_ownP1 (hΓ : flatG Γ = true) (h : ∀ H0, EvG (W.up H0) ta Γ μ fun x μ => ∃ ds, x = .lst ds ∧ flatAll ds = true ∧ ∀ L hL, EvG (W.own L hL) tb Γ (μ, ds) fun y m => ExG (W.own L hL) u ((Γ.set i (some (.adr L))).set j (some y)) m { nx := fun _ _ => False, rt := fun d m => O.rt d m.1 }) :
    ExG W (tSeq (tPar i j (tCons ta (tCons tb tNil))) u) Γ μ O := fun σ H D he hI G => by
  refine up_run hΓ he hI (h H) (fun L xs ds H1 μ1 e1 I1 hn hL hl hd he1 ⟨ds', e, hf, hx⟩ => ?_) fun d μ ⟨ds, e, _⟩ => ⟨ds, e⟩
  cases e
  refine hx L hL σ H1 _ (he1.flat hΓ) ⟨I1, xs, hl, hd.flat ds xs hf⟩ fun v2 H2 d2 m e2 I2 r2 h2 => ?_
  refine ⟨_, _, rfl, ?_⟩
  refine h2 _ H2 _ (((((he1.flat (S' := (W.own L hL).S) hΓ).ext (W.own L hL).sub e2).set dv_adr).set r2)) I2 ⟨fun _ _ _ _ _ _ _ z => z.elim, fun v H' d m e I' r q => ?_, fun _ _ _ _ _ _ _ z => z.elim, fun _ _ _ _ _ _ _ z => z.elim⟩
  exact G.rt v H' d m.1 (e1.drop hn (e2.trans e)) I'.1 (Dv.sub (S := fun a => W.S a ∨ a = L) (fun a z _ => .inl z) _ _ r) q
/-- a, b, c = e, <list>, f -/
theorem ex_ownP3 (hΓ : flatG Γ = true) (h : EvG W ta Γ μ fun x μ => flatD x = true ∧ ∀ H0, EvG (W.up H0) tb Γ μ fun y μ => ∃ ds, y = .lst ds ∧ flatAll ds = true ∧ ∀ L hL, EvG (W.own L hL) tc Γ (μ, ds) fun z m => ExG (W.own L hL) u (((Γ.set i (some x)).set j (some (.adr L))).set l (some z)) m { nx := fun _ _ => False, rt := fun d m => O.rt d m.1 }) :
    ExG W (tSeq (tPar3 i j l (tCons ta (tCons tb (tCons tc tNil)))) u) Γ μ O := fun σ H D he hI G => by
  refine h σ H _ he hI fun v0 H0 d0 μ0 e0 I0 r0 ⟨hf0, h0⟩ => ?_
  refine up_run hΓ (he.ext W.sub e0) I0 (h0 H0) (fun L xs ds H1 μ1 e1 I1 hn hL hl hd he1 ⟨ds', e, hf, hx⟩ => ?_) fun d μ ⟨ds, e, _⟩ => ⟨ds, e⟩
  cases e
  refine hx L hL σ H1 _ (he1.flat hΓ) ⟨I1, xs, hl, hd.flat ds xs hf⟩ fun v2 H2 d2 m e2 I2 r2 h2 => ?_
  refine ⟨_, _, _, rfl, ?_⟩
  have r0' : Dv (W.own L hL).S K H2 v0 d0 := Dv.ext (W.own L hL).sub e2 _ _ (Dv.flat _ _ hf0 (Dv.ext W.sub e1 _ _ r0))
  refine h2 _ H2 _ ((((((he1.flat (S' := (W.own L hL).S) hΓ).ext (W.own L hL).sub e2).set r0').set dv_adr).set r2)) I2 ⟨fun _ _ _ _ _ _ _ z => z.elim, fun v H' d m e I' r q => ?_, fun _ _ _ _ _ _ _ z => z.elim, fun _ _ _ _ _ _ _ z => z.elim⟩
  exact G.rt v H' d m.1 (e0.trans (e1.drop hn (e2.trans e))) I'.1 (Dv.sub (S := fun a => W.S a ∨ a = L) (fun a z _ => .inl z) _ _ r) q
end
/-! ### its uses -/
section
variable {K : PySem.W.Frag} {M : Type} {W : Wd K M} {L : Addr} {hL : ¬ W.S L} {te ta tb tc : TE} {Γ : Env'} {μ : M} {ds : List D} {k : D → M × List D → Prop} {i j : Nat} {d x y : D}
theorem r2_ixO {n : Int} (ha : atI ds n = some d) (q : k d (μ, ds)) : Rv2 (W.own L hL) (rIx K) (.adr L) (.int n) (μ, ds) k := fun vx vy H Q hI rx ry c => by
  obtain ⟨I1, xs, hl, hd⟩ := hI
  obtain ⟨v, h1, h2⟩ := atI_map (R := fun v d => Dv (fun _ => True) K H v d) hd.length (fun i y q => hd.get q) ha
  exact .inl ⟨L, xs, n, v, vd_adr rx, vd_int ry, SqL.of hl, h1, c v H d (μ, ds) .refl ⟨I1, xs, hl, hd⟩ (Dv.sub (fun _ _ _ => trivial) _ _ h2) q⟩
theorem rl_lenO (q : k (.int ds.length) (μ, ds)) : RvL (W.own L hL) (rLenS K) [.adr L] (μ, ds) k := fun vs H Q hI r c => by
  obtain ⟨v, rfl, r'⟩ := dv1 r
  obtain ⟨I1, xs, hl, hd⟩ := hI
  exact ⟨L, xs, by rw [vd_adr r'], .inl (SqL.of hl), by rw [hd.length]; exact c _ H _ (μ, ds) .refl ⟨I1, xs, hl, hd⟩ dv_int q⟩
theorem rl_tupO (q : k (.tup ds) (μ, ds)) : RvL (W.own L hL) (rTupOf K) [.adr L] (μ, ds) k := fun vs H Q hI r c => by
  obtain ⟨v, rfl, r'⟩ := dv1 r
  obtain ⟨I1, xs, hl, hd⟩ := hI
  exact ⟨L, xs, by rw [vd_adr r'], .inl ⟨SqL.of hl, fun p hp => c _ _ _ (μ, ds) (.new hp) ((W.own L hL).stay _ _ _ ⟨I1, xs, hl, hd⟩ (.new hp)) (dv_newT hp (dvF_to hd)) q⟩⟩
theorem rl_sumO {ns : List Int} (e : ds = ns.map .int) (q : k (.int ns.sum) (μ, ds)) : RvL (W.own L hL) (rSumA K) [.adr L] (μ, ds) k := fun vs H Q hI r c => by
  obtain ⟨v, rfl, r'⟩ := dv1 r
  obtain ⟨I1, xs, hl, hd⟩ := hI
  subst e
  have hd0 := hd
  unfold DvF at hd0
  have hx := hd0.ints
  subst hx
  exact .inl ⟨L, ns, by rw [vd_adr r'], SqL.of hl, c _ H _ _ .refl ⟨I1, _, hl, hd⟩ dv_int q⟩
theorem r2_neO {b : D} (hb : b = .lst []) (hp : plainAll 8 ds = true) (q : k (.bl (!ds.isEmpty)) (μ, ds)) : Rv2 (W.own L hL) (rNeD K) (.adr L) b (μ, ds) k := fun vx vy H Q hI rx ry c => by
  subst hb
  obtain ⟨I1, xs, hl, hd⟩ := hI
  have hy : plainD 9 (.lst []) = true := rfl
  have hx : plainD 9 (.lst ds) = true := by simpa [plainD] using hp
  have rx' : Dv (fun _ => False) K H vx (.lst ds) := by
    unfold Dv
    exact ⟨L, xs, vd_adr rx, fun z => z, hl, dvF_to hd⟩
  refine ⟨toPy (.lst ds), toPy (.lst []), dv_dp 9 _ vx hx rx', dv_dp 9 _ vy hy ry, shaped_of hx (by decide), shaped_of hy (by decide), c _ H _ (μ, ds) .refl ⟨I1, xs, hl, hd⟩ (by rw [eqv_eqD 9 9 _ _ hx hy]; exact dv_bl) ?_⟩
  cases ds with
  | nil => exact q
  | cons _ _ => exact q
/-- xs.pop(0) -/
theorem eg_pop0 {ta : TA} (h : EvG (W.own L hL) te Γ (μ, ds) fun x m => x = .adr L ∧ m = (μ, ds) ∧ EvA (W.own L hL) ta Γ m fun as m => as = [.int 0] ∧ m = (μ, ds) ∧ ∃ d r, ds = d :: r ∧ k d (μ, r)) : EvG (W.own L hL) (tBM K "list" rPopAt te ta) Γ (μ, ds) k := fun σ H Q he hI c => by
  refine h σ H _ he hI fun v1 H1 d1 m1 e1 I1 r1 h1 => ?_
  obtain ⟨rfl, rfl, h1⟩ := h1
  have ev := vd_adr r1
  subst ev
  obtain ⟨J1, xs1, hl1, hd1⟩ := id I1
  refine ⟨.inl ⟨rfl, xs1, SqL.of hl1⟩, ?_⟩
  refine h1 σ H1 _ (he.ext (W.own L hL).sub e1) I1 fun vs H2 as m2 e2 I2 r2 h2 => ?_
  obtain ⟨rfl, rfl, d, r, rfl, q⟩ := h2
  obtain ⟨v, rfl, r3⟩ := dv1 r2
  have ev := vd_int r3
  subst ev
  obtain ⟨J2, xs2, hl2, hd2⟩ := I2
  have hd2' := hd2
  unfold DvF DvAll at hd2'
  obtain ⟨y, ys, rfl, hy, hys⟩ := hd2'
  have ew : Ext (W.own L hL).fr H2 (upd H2 L (.lst ys)) := .wlst (.inr rfl) hl2
  refine ⟨L, y :: ys, 0, 0, y, rfl, rfl, hl2, by decide, by decide, ?_, rfl, c y _ d (μ, r) ((e1.trans e2).trans ew) ⟨W.free _ _ _ _ _ J2 hL hl2, ys, upd_same, dvF_ext hys ew⟩ (Dv.sub (fun _ _ _ => trivial) _ _ (Dv.ext (S := fun _ => True) (fun _ _ => trivial) ew _ _ hy)) q⟩
  unfold seqIndex?
  simp
/-- xs[n] = .. -/
theorem as_setO {to ti : TE} {n : Int} {m : Nat} {k : Env' → M × List D → Prop} (hf : flatD x = true) (h : EvG (W.own L hL) to Γ (μ, ds) fun z w => z = .adr L ∧ w = (μ, ds) ∧ EvG (W.own L hL) ti Γ w fun z w => ∃ n m, z = .int n ∧ w = (μ, ds) ∧ ixN ds.length n = some m ∧ k Γ (μ, ds.set m x)) :
    AsG (W.own L hL) (gSub to ti rSetL) x Γ (μ, ds) k := fun v σ H Q he hI r c => by
  refine h σ H _ he hI fun v1 H1 d1 m1 e1 I1 r1 h1 => ?_
  obtain ⟨rfl, rfl, h1⟩ := h1
  refine h1 σ H1 _ (he.ext (W.own L hL).sub e1) I1 fun v2 H2 d2 m2 e2 I2 r2 h2 => ?_
  obtain ⟨n, m, rfl, rfl, hix, q⟩ := h2
  obtain ⟨J2, xs2, hl2, hd2⟩ := I2
  have ew : Ext (W.own L hL).fr H2 (upd H2 L (.lst (xs2.set m v))) := .wlst (.inr rfl) hl2
  have e12 := (e1.trans e2).trans ew
  refine ⟨L, xs2, n, m, vd_adr r1, vd_int r2, hl2, by rw [hd2.length]; exact hix, c σ _ Γ (μ, ds.set m x) e12 ⟨W.free _ _ _ _ _ J2 hL hl2, _, upd_same, ?_⟩ (he.ext (W.own L hL).sub e12) q⟩
  exact dvF_ext (hd2.set (Dv.flat _ _ hf (Dv.ext (W.own L hL).sub (e1.trans e2) _ _ r)) m) ew
end
end DL

namespace DL
open PySem PySem.Spec PyProof.Rows L2 GxR GX

/-! ### boxes: what the law draws from -/
/-- box B: a list of cells C (n ints), and two ints -/
structure BoxI (B C : Addr) (n : Nat) (H : Hp) : Prop where
  ne : B ≠ C
  ex : ∃ (x y : Int) (ns : List Int), H B = some (.lst [.ref C, .int x, .int y]) ∧ H C = some (.lst (ns.map .int)) ∧ ns.length = n
theorem BoxI.ext {B C : Addr} {n : Nat} {H H' : Hp} {fr : Addr → Prop} (h : BoxI B C n H) (e : Ext fr H H') (hB : ¬ fr B) (hC : ¬ fr C) : BoxI B C n H' := by
  obtain ⟨x, y, ns, h1, h2, h3⟩ := h.ex
  exact ⟨h.ne, x, y, ns, e.keep B _ hB (fun ps q => by cases q) h1, e.keep C _ hC (fun ps q => by cases q) h2, h3⟩
theorem BoxI.put {B C : Addr} {n : Nat} {H : Hp} {a : Addr} {o : HO} (h : BoxI B C n H) (hB : B ≠ a) (hC : C ≠ a) : BoxI B C n (upd H a o) := by
  obtain ⟨x, y, ns, h1, h2, h3⟩ := h.ex
  exact ⟨h.ne, x, y, ns, by rw [upd_ne hB]; exact h1, by rw [upd_ne hC]; exact h2, h3⟩
/-- the world of a def with a box -/
def wB (K : PySem.W.Frag) (S : Addr → Prop) (tabs : List Addr) (B C : Addr) (hB : S B) (hC : S C) : Wd K Nat where
  S := S
  fr := fun a => a = B ∨ a = C
  tabs := tabs
  I := fun n H => BoxI B C n H ∧ (∀ a, S a → H a ≠ none) ∧ ∀ P ∈ tabs, TabG H P
  sub := fun _ h => h.elim (fun z => z ▸ hB) fun z => z ▸ hC
  live := fun _ _ a h => h.2.1 a
  tab := fun _ _ h => h.2.2
  stay := fun _ _ _ h e => ⟨h.1.ext e (fun z => z) fun z => z, fun a z => e.live a (h.2.1 a z), fun P z => e.tbl P (h.2.2 P z)⟩
  free := fun _ H a xs ys h n e => ⟨h.1.put (fun z => n (z ▸ hB)) fun z => n (z ▸ hC), fun b z => live_upd (h.2.1 b z), fun P z => tabG_upd (h.2.2 P z) e⟩
/-- where a box may be drawn from -/
structure IsBox {K : PySem.W.Frag} (W : Wd K Nat) (B C : Addr) : Prop where
  fB : W.fr B
  fC : W.fr C
  get : ∀ n H, W.I n H → BoxI B C n H
  put : ∀ n m H H', W.I n H → Ext (fun a => a = B ∨ a = C) H H' → BoxI B C m H' → W.I m H'
section
variable {K : PySem.W.Frag} {S : Addr → Prop} {tabs : List Addr} {B C : Addr} {hB : S B} {hC : S C}
theorem isBox_B : IsBox (wB K S tabs B C hB hC) B C :=
  ⟨.inl rfl, .inr rfl, fun _ _ h => h.1, fun _ _ _ _ h e b => ⟨b, fun a z => e.live a (h.2.1 a z), fun P z => e.tbl P (h.2.2 P z)⟩⟩
theorem IsBox.plus {W : Wd K Nat} (h : IsBox W B C) (A : Addr) : IsBox (W.plus A) B C :=
  ⟨h.fB, h.fC, fun n H q => h.get n H q.1, fun n m H H' q e b => ⟨h.put n m H H' q.1 e b, e.live A q.2⟩⟩
end
/-- what a def with a box promises: only the box is changed -/
def SpB (K : PySem.W.Frag) (tabs : List Addr) (c : List D → (D → Prop) → Prop) : Sp := fun vs H Q _ => ∃ (S : Addr → Prop) (B C : Addr) (ws : List V) (ds : List D) (n : Nat) (post : D → Prop), vs = .ref B :: ws ∧ DvAll S K H ws ds ∧ S B ∧ S C ∧ BoxI B C n H ∧ (∀ a, S a → H a ≠ none) ∧ (∀ P ∈ tabs, TabG H P) ∧ c ds post ∧
  ∀ v H' d m, Ext (fun a => a = B ∨ a = C) H H' → BoxI B C m H' → Dv S K H' v d → post d → Q v H'
section
variable {K : PySem.W.Frag} {W : Wd K Nat} {B C : Addr} {te ta tb : TE} {Γ : Env'} {μ : Nat} {k : D → Nat → Prop}
theorem eg_callB {c : List D → (D → Prop) → Prop} {tabs : List Addr} {E : XK} {ta : TA} (hb : IsBox W B C) (ht : ∀ P ∈ tabs, P ∈ W.tabs) (h : EvA W ta Γ μ fun ds μ => ∃ ds', ds = .adr B :: ds' ∧ c ds' fun d => ∀ n, k d n) : EvG W (tCall (SpB K tabs c) [] E ta) Γ μ k := fun σ H Q he hI cc => by
  refine h σ H _ he hI fun vs H1 ds μ1 e1 I1 r1 h1 => ?_
  obtain ⟨ds', rfl, h1⟩ := h1
  unfold DvAll at r1
  obtain ⟨v, ws, rfl, r0, r1⟩ := r1
  have ev := vd_adr r0
  subst ev
  have hfr : ∀ a, (a = B ∨ a = C) → W.fr a := fun a z => z.elim (fun z => z ▸ hb.fB) fun z => z ▸ hb.fC
  exact ⟨W.S, B, C, ws, ds', μ1, _, by rw [List.append_nil], r1, W.sub _ hb.fB, W.sub _ hb.fC, hb.get _ _ I1, fun a z => W.live _ _ _ I1 z, fun P z => W.tab _ _ I1 P (ht P z), h1,
    fun v H' d m e b r q => cc v H' d m (e1.trans (e.mono hfr)) (hb.put _ _ _ _ I1 e b) r (q m)⟩
end
section
variable {P : Program} {w : World} {K : PySem.W.Frag} {mg : Str → Option Value} {base : Heap}
/-- a def with a box by its body -/
theorem okB {x qual : Str} {st : Stmt} {f : Addr} {fd : FuncData} {N ps : List Str} {k : Nat} {tabs : List Addr} {c : List D → (D → Prop) → Prop} (F : Fun K x qual st f fd) (S : FnScope N ps (defScope st)) (len : ∀ ds post, c ds post → ds.length + 1 = ps.length)
    (hbody : ∀ (cdv : Value) (A : Around) (outer : List Env) (s : Shared) (H : Hp) (E : XK), cdv = fd.code → Room k (A.deeper (envOfC qual (defScope st) s.heap.objs.size f cdv)) →
      ∃ t, PSs (cxOf CX0 P w K mg base N qual (defScope st) f cdv A outer s H E).nox (defBody st) t ∧ ∀ S B C hB hC n ds post, c ds post → ExG (wB K S tabs B C hB hC) t (Γ0 N (.adr B :: ds)) n { nx := fun _ _ => post .non, rt := fun d _ => post d }) : FnOk P w K mg base CX0 (k + 1) f fd ps (SpB K tabs c) := by
  refine DL.Fun.okC F S (fun vs H Q E h => ?_) fun cdv A outer s H vs Q E hc hr h => ?_
  · obtain ⟨S, B, C, ws, ds, n, post, rfl, h1, _, _, _, _, _, h2, _⟩ := h
    rw [List.length_cons, h1.length]
    exact len ds post h2
  · obtain ⟨S, B, C, ws, ds, n, post, rfl, h1, hB, hC, hb, h2, h3, h4, q⟩ := h
    obtain ⟨t, ht, hx⟩ := hbody cdv A outer s H E hc hr
    refine ⟨t, ht, ?_⟩
    exact hx S B C hB hC n ds post h4 (start N (.ref B :: ws)) H _ (EnvD.start (.cons dv_adr h1)) ⟨hb, h2, h3⟩ ⟨fun σ' H' Γ' μ' e I' he' q' => q .non H' .non μ' e I'.1 dv_non q', fun v H' d μ' e I' r q' => q v H' d μ' e I'.1 r q', fun _ _ _ _ _ _ _ z => z.elim, fun _ _ _ _ _ _ _ z => z.elim⟩
end
/-! ### the box's own defs -/
section
variable {K : PySem.W.Frag} {S : Addr → Prop} {tabs : List Addr} {B C : Addr} {hB : S B} {hC : S C} {te ta tb : TE} {Γ : Env'} {n : Nat} {k : D → Nat → Prop}
theorem r2_ixB0 (q : k (.adr C) n) : Rv2 (wB K S tabs B C hB hC) (rIx K) (.adr B) (.int 0) n k := fun vx vy H Q hI rx ry c => by
  obtain ⟨x, y, ns, h1, h2, h3⟩ := hI.1.ex
  exact .inl ⟨B, _, 0, .ref C, vd_adr rx, vd_int ry, SqL.of h1, rfl, c _ H (.adr C) n .refl hI dv_adr q⟩
theorem r2_ixB1 (q : ∀ x : Int, k (.int x) n) : Rv2 (wB K S tabs B C hB hC) (rIx K) (.adr B) (.int 1) n k := fun vx vy H Q hI rx ry c => by
  obtain ⟨x, y, ns, h1, h2, h3⟩ := hI.1.ex
  exact .inl ⟨B, _, 1, .int x, vd_adr rx, vd_int ry, SqL.of h1, rfl, c _ H (.int x) n .refl hI dv_int (q x)⟩
theorem r2_ixB2 (q : ∀ x : Int, k (.int x) n) : Rv2 (wB K S tabs B C hB hC) (rIx K) (.adr B) (.int 2) n k := fun vx vy H Q hI rx ry c => by
  obtain ⟨x, y, ns, h1, h2, h3⟩ := hI.1.ex
  exact .inl ⟨B, _, 2, .int y, vd_adr rx, vd_int ry, SqL.of h1, rfl, c _ H (.int y) n .refl hI dv_int (q y)⟩
theorem rl_lenB (q : k (.int n) n) : RvL (wB K S tabs B C hB hC) (rLenS K) [.adr C] n k := fun vs H Q hI r c => by
  obtain ⟨v, rfl, r'⟩ := dv1 r
  obtain ⟨x, y, ns, h1, h2, h3⟩ := hI.1.ex
  exact ⟨C, _, by rw [vd_adr r'], .inl (SqL.of h2), by rw [List.length_map, h3]; exact c _ H _ n .refl hI dv_int q⟩
theorem eg_popB {ta : TA} {n0 : Nat} (hn : n = n0 + 1) (h : EvG (wB K S tabs B C hB hC) te Γ n fun x m => x = .adr C ∧ m = n ∧ EvA (wB K S tabs B C hB hC) ta Γ m fun as m => as = [.int 0] ∧ m = n ∧ ∀ x : Int, k (.int x) n0) : EvG (wB K S tabs B C hB hC) (tBM K "list" rPopAt te ta) Γ n k := fun σ H Q he hI c => by
  refine h σ H _ he hI fun v1 H1 d1 m1 e1 I1 r1 h1 => ?_
  obtain ⟨rfl, rfl, h1⟩ := h1
  have ev := vd_adr r1
  subst ev
  obtain ⟨x1, y1, ns1, g1, g2, g3⟩ := I1.1.ex
  refine ⟨.inl ⟨rfl, _, SqL.of g2⟩, ?_⟩
  refine h1 σ H1 _ (he.ext (Wd.sub _) e1) I1 fun vs H2 as m2 e2 I2 r2 h2 => ?_
  obtain ⟨rfl, rfl, q⟩ := h2
  obtain ⟨v, rfl, r3⟩ := dv1 r2
  have ev := vd_int r3
  subst ev
  obtain ⟨x, y, ns, k1, k2, k3⟩ := I2.1.ex
  cases ns with
  | nil => rw [hn] at k3; simp at k3
  | cons z zs =>
    have ew : Ext (Wd.fr (wB K S tabs B C hB hC)) H2 (upd H2 C (.lst (zs.map .int))) := .wlst (.inr rfl) k2
    refine ⟨C, _, 0, 0, .int z, rfl, rfl, k2, by decide, by decide, by unfold seqIndex?; simp, rfl, c _ _ (.int z) n0 ((e1.trans e2).trans ew) ⟨⟨I2.1.ne, x, y, zs, by rw [upd_ne I2.1.ne]; exact k1, upd_same, ?_⟩, fun b z => live_upd (I2.2.1 b z), fun P z => tabG_upd (I2.2.2 P z) k2⟩ dv_int (q z)⟩
    rw [hn] at k3
    simpa using k3
/-- box[1] = e, box[2] = e -/
theorem as_setB {to ti : TE} {z : Int} {k : Env' → Nat → Prop} (h : EvG (wB K S tabs B C hB hC) to Γ n fun d m => d = .adr B ∧ EvG (wB K S tabs B C hB hC) ti Γ m fun d m => (d = .int 1 ∨ d = .int 2) ∧ k Γ m) : AsG (wB K S tabs B C hB hC) (gSub to ti rSetL) (.int z) Γ n k := fun v σ H Q he hI r c => by
  refine h σ H _ he hI fun v1 H1 d1 m1 e1 I1 r1 h1 => ?_
  obtain ⟨rfl, h1⟩ := h1
  refine h1 σ H1 _ (he.ext (Wd.sub _) e1) I1 fun v2 H2 d2 m2 e2 I2 r2 h2 => ?_
  obtain ⟨hd, q⟩ := h2
  obtain ⟨x, y, ns, k1, k2, k3⟩ := I2.1.ex
  have ev := vd_int r
  subst ev
  have ew : ∀ o, Ext (Wd.fr (wB K S tabs B C hB hC)) H2 (upd H2 B o) := fun o => .wlst (.inl rfl) k1
  rcases hd with rfl | rfl
  · refine ⟨B, _, 1, 1, vd_adr r1, vd_int r2, k1, rfl, c σ _ Γ m2 ((e1.trans e2).trans (ew _)) ⟨⟨I2.1.ne, z, y, ns, upd_same, by rw [upd_ne I2.1.ne.symm]; exact k2, k3⟩, fun b z => live_upd (I2.2.1 b z), fun P z => tabG_upd (I2.2.2 P z) k1⟩ (he.ext (Wd.sub _) ((e1.trans e2).trans (ew _))) q⟩
  · refine ⟨B, _, 2, 2, vd_adr r1, vd_int r2, k1, rfl, c σ _ Γ m2 ((e1.trans e2).trans (ew _)) ⟨⟨I2.1.ne, x, z, ns, upd_same, by rw [upd_ne I2.1.ne.symm]; exact k2, k3⟩, fun b z => live_upd (I2.2.1 b z), fun P z => tabG_upd (I2.2.2 P z) k1⟩ (he.ext (Wd.sub _) ((e1.trans e2).trans (ew _))) q⟩
end
/-- a new box -/
def spBox (K : PySem.W.Frag) : Sp := fun vs H Q _ => ∃ (a : Addr) (ns : List Int), vs = [.ref a] ∧ SqL K H a (ns.map V.int) ∧ ∀ B C H' n, Ext F0 H H' → H B = none → H C = none → BoxI B C n H' → Q (.ref B) H'
/-- the law's promise -/
def spLaw (K : PySem.W.Frag) (tabs : List Addr) : Sp := fun vs H Q _ => ∃ (a : Addr) (ns : List Int), vs = [.ref a] ∧ SqL K H a (ns.map V.int) ∧ (∀ P ∈ tabs, TabG H P) ∧ ∀ H', Q (.bl true) H'
section
variable {P : Program} {w : World} {K : PySem.W.Frag} {mg : Str → Option Value} {base : Heap}
theorem okL {x qual : Str} {st : Stmt} {f : Addr} {fd : FuncData} {N : List Str} {k : Nat} {tabs : List Addr} (F : Fun K x qual st f fd) (S : FnScope N ["script"] (defScope st))
    (hbody : ∀ (cdv : Value) (A : Around) (outer : List Env) (s : Shared) (H : Hp) (E : XK), cdv = fd.code → Room k (A.deeper (envOfC qual (defScope st) s.heap.objs.size f cdv)) →
      ∃ E1 u, PSs (cxOf CX0 P w K mg base N qual (defScope st) f cdv A outer s H E).nox (defBody st) (tSeq (tAsg (tCall (spBox K) [] E1 (tCons (tVar 0) tNil)) (gName 1)) u) ∧ ∀ S B C hB hC n a, ExG (wB K S tabs B C hB hC) u ((Γ0 N [.adr a]).set 1 (some (.adr B))) n { nx := fun _ _ => False, rt := fun d _ => d = .bl true }) : FnOk P w K mg base CX0 (k + 1) f fd ["script"] (spLaw K tabs) := by
  refine DL.Fun.okC F S (fun vs H Q E h => ?_) fun cdv A outer s H vs Q E hc hr h => ?_
  · obtain ⟨a, ns, rfl, _⟩ := h
    rfl
  · obtain ⟨a, ns, rfl, h1, h3, q⟩ := h
    obtain ⟨E1, u, ht, hx⟩ := hbody cdv A outer s H E hc hr
    refine ⟨_, ht, ?_⟩
    have hs : EnvD (fun _ => False) K H (start N [.ref a]) (Γ0 N [.adr a]) := EnvD.start (.cons dv_adr .nil)
    obtain ⟨v0, hv0, hd0⟩ := hs.at_ 0 (.adr a) rfl
    have ev := vd_adr hd0
    subst ev
    refine ⟨.ref a, hv0, a, ns, rfl, h1, fun B C H' n e nB nC b => ?_⟩
    obtain ⟨x, y, ms, b1, b2, _⟩ := b.ex
    show u _ ((start N [.ref a]).set 1 (some (.ref B))) H'
    refine hx (fun z => z = B ∨ z = C) B C (.inl rfl) (.inr rfl) n a _ H' _ ?_ ⟨b, fun z hz => ?_, fun P z => e.tbl P (h3 P z)⟩ ⟨fun _ _ _ _ _ _ _ z => z.elim, fun v H2 d m e I r q2 => ?_, fun _ _ _ _ _ _ _ z => z.elim, fun _ _ _ _ _ _ _ z => z.elim⟩
    · exact ((hs.ext (fr := F0) (fun _ z => z.elim) e).flat (by
        unfold flatG Γ0
        simp only [List.map_cons, List.map_nil, List.cons_append, List.nil_append, List.all_cons, List.all_replicate]
        simp [flatD])).set dv_adr
    · rcases hz with rfl | rfl
      · rw [b1]; exact fun z => nomatch z
      · rw [b2]; exact fun z => nomatch z
    · subst q2
      rw [vd_bl r]
      exact q H2
end
end DL

namespace DL
open PySem PySem.Spec PyProof.Rows L2 GxR GX

section
variable {K : PySem.W.Frag} {M : Type} {W : Wd K M} {te ta tb tc : TE} {tt tu : TT} {ts t u : TS} {g : TG} {Γ : Env'} {μ : M} {k : D → M → Prop} {kb : Bool → M → Prop} {O : Outs M} {i j l : Nat} {d x y : D}
/-- a, b, c = e, <list>, f (a tuple is made) -/
theorem ex_ownT3 (hΓ : flatG Γ = true) (h : ∀ H0, EvG (W.up H0) te Γ μ fun d μ => ∃ x ds z, d = .tup [x, .lst ds, z] ∧ flatD x = true ∧ flatD z = true ∧ flatAll ds = true ∧ ∀ L hL, ExG (W.own L hL) u (((Γ.set i (some x)).set j (some (.adr L))).set l (some z)) (μ, ds) { nx := fun _ _ => False, rt := fun d m => O.rt d m.1 }) :
    ExG W (tSeq (tAsg te (gTup K 3 (gCons (gName i) (gCons (gName j) (gCons (gName l) gNil))))) u) Γ μ O := fun σ H D he hI G => by
  refine h H σ H _ (he.flat hΓ) ⟨hI, fun _ z => z⟩ fun v H1 d μ1 e1 I1 r1 h1 => ?_
  obtain ⟨x, ds, z, rfl, hx, hz, hf, hb⟩ := h1
  unfold Dv at r1
  obtain ⟨a, vs, rfl, hs, hd⟩ := r1
  unfold DvAll at hd
  obtain ⟨v1, w, rfl, r1, hd⟩ := hd
  obtain ⟨v2, v3, rfl, r2, r3⟩ := dv2 hd
  unfold Dv at r2
  obtain ⟨L, xs, rfl, n1, e2, d2⟩ := r2
  have hn : H L = none := by
    cases q : H L with
    | none => rfl
    | some o => exact absurd (.inr (by rw [q]; exact fun z => nomatch z)) n1
  have hL : ¬ W.S L := fun z => n1 (.inl z)
  refine ⟨a, _, rfl, hs, rfl, v1, _, rfl, .ref L, _, rfl, v3, [], rfl, rfl, ?_⟩
  show u D _ H1
  exact own_rest (xs := xs) hL hn e1 I1.1 e2 (d2.flat ds xs hf) (((((he.ext W.sub e1).flat hΓ).set (Dv.flat _ _ hx r1)).set dv_adr).set (Dv.flat _ _ hz r3)) G (hb L hL)
/-- a tuple of three names -/
theorem as_tup3 {k : Env' → M → Prop} {a b e : D} (q : k (((Γ.set i (some a)).set j (some b)).set l (some e)) μ) : AsG W (gTup K 3 (gCons (gName i) (gCons (gName j) (gCons (gName l) gNil)))) (.tup [a, b, e]) Γ μ k := fun v σ H Q he hI r c => by
  unfold Dv at r
  obtain ⟨p, xs, rfl, hs, hd⟩ := r
  unfold DvAll at hd
  obtain ⟨v1, w, rfl, r1, hd⟩ := hd
  obtain ⟨v2, v3, rfl, r2, r3⟩ := dv2 hd
  exact ⟨p, _, rfl, hs, rfl, v1, _, rfl, v2, _, rfl, v3, [], rfl, rfl, c _ H _ μ .refl hI (((he.set r1).set r2).set r3) q⟩
end
/-- * where the one or the other rule holds -/
def CMulA (i j : Int) : Prop := CMul i j ∨ CMulW i j
section
variable {X : Cx}
theorem op_mulA : OpR X (binaryOp .Mult) (rI CMulA fun i j => .int (i * j)) := opI fun _ _ _ _ _ _ _ hc q => mul_int q (hc.elim (fun h => h.ok) fun h => h.ok)
/-- is None, is not None; under names -/
theorem op_isN' : OpR X (compareOp .Is) rIsN := op_isN
theorem op_notN' : OpR X (compareOp .IsNot) rNotN := op_notN
theorem call_abs' : CallR X (.builtin "abs") rAbs := call_abs
theorem call_max2' (hc : X.calm = true) : CallR X (.builtin "max") rMax2 := call_max2 hc
theorem call_min2' (hc : X.calm = true) : CallR X (.builtin "min") rMin2 := call_min2 hc
theorem call_int1' : CallR X (.type "int") rInt1 := call_int1
theorem call_str_int' : CallR X (.type "str") rStrI := call_str_int
theorem call_len_seq' : CallR X (.builtin "len") (rLenS X.K) := call_len_seq
theorem call_tuple_of' : CallR X (.type "tuple") (rTupOf X.K) := call_tuple_of
theorem call_list_of' : CallR X (.type "list") (rLstOf X.K) := call_list_of
theorem cr_or {id : Value} {r r' : List V → Hp → VK → Prop} (h : CallR X id r) (h' : CallR X id r') : CallR X id (fun vs H Q => r vs H Q ∨ r' vs H Q) := fun pins s σ H vs us Q I rv h0 => h0.elim (h pins s σ H vs us Q I rv) (h' pins s σ H vs us Q I rv)
end
/-- a def that may be called by its name -/
structure Cal (P : Program) (w : World) (K : PySem.W.Frag) (mg : Str → Option Value) (base : Heap) (k : Nat) (x : Str) (sp : Sp) : Prop where
  ex : ∃ (f : Addr) (fd : FuncData) (ps : List Str), FnOk P w K mg base CX0 k f fd ps sp ∧ mg x = some (.ref f) ∧ PySem.W.keepIn K (.ref f) = true ∧ Binds K fd ps []
section
variable {X : Cx} {k j : Nat} {x : Str} {sp : Sp} {p pos : Pos} {e : Expr} {es : List Expr} {t : TA}
theorem pe_cal (c : Cal X.prog X.w X.K X.mg X.base k x sp) (hr : Room j X.A) (hk : k ≤ j) (hg : Gl X x) (ha : PA X (e :: es) t)
    (hdb : (x == ("__debug__" : Str)) = false := by decide) (he : starEach (e :: es) X.env = (false, eval e X.env) :: starEach es X.env := by rfl) (hpl : (backTo pos (starEach es X.env)).any (·.1) = false := by rfl) :
    PE X (.Call (.Name x p) (e :: es) [] pos) (tCall sp [] (fun _ _ _ => False) t) := by
  obtain ⟨f, fd, ps, F, hm, hkp, hb⟩ := c.ex
  exact pe_call F (hr.mono hk) hg hm hkp hb .nil pass0 ha hdb he hpl
end
end DL

namespace DL
open PySem PySem.Spec PyProof.Rows L2 GxR GX

/-! ### built-ins by name -/
theorem bt_isinstance : bootBuiltins "isinstance" = some (.builtin "isinstance") := by rfl
theorem bt_len : bootBuiltins "len" = some (.builtin "len") := by rfl
theorem bt_all : bootBuiltins "all" = some (.builtin "all") := by rfl
theorem bt_any : bootBuiltins "any" = some (.builtin "any") := by rfl
theorem bt_sum : bootBuiltins "sum" = some (.builtin "sum") := by rfl
theorem bt_min : bootBuiltins "min" = some (.builtin "min") := by rfl
theorem bt_max : bootBuiltins "max" = some (.builtin "max") := by rfl
theorem bt_abs : bootBuiltins "abs" = some (.builtin "abs") := by rfl
theorem bt_sorted : bootBuiltins "sorted" = some (.builtin "sorted") := by rfl
theorem bt_tuple : bootBuiltins "tuple" = some (.type "tuple") := by rfl
theorem bt_list : bootBuiltins "list" = some (.type "list") := by rfl
theorem bt_int : bootBuiltins "int" = some (.type "int") := by rfl
theorem bt_bool : bootBuiltins "bool" = some (.type "bool") := by rfl
theorem bt_str : bootBuiltins "str" = some (.type "str") := by rfl
/-- no name of a built-in stands in the module -/
structure Mg (mg : Str → Option Value) : Prop where
  isinstance_ : mg "isinstance" = none
  len_ : mg "len" = none
  all_ : mg "all" = none
  any_ : mg "any" = none
  sum_ : mg "sum" = none
  min_ : mg "min" = none
  max_ : mg "max" = none
  abs_ : mg "abs" = none
  sorted_ : mg "sorted" = none
  tuple_ : mg "tuple" = none
  list_ : mg "list" = none
  int_ : mg "int" = none
  bool_ : mg "bool" = none
  str_ : mg "str" = none
  range_ : mg "range" = none
  zip_ : mg "zip" = none
section
variable {X : Cx}
theorem cr_sumA (hc : X.calm = true) : CallR X (.builtin "sum") (rSumA X.K) := cr_or (cr_sum hc) (cr_sumT hc)
def rMinA (K : PySem.W.Frag) : List V → Hp → VK → Prop := fun vs H Q => rMin K vs H Q ∨ rMinT K vs H Q
theorem cr_minA (hc : X.calm = true) : CallR X (.builtin "min") (rMinA X.K) := cr_or (cr_min hc) (cr_minT hc)
end
/-! ### contracts by the number of arguments -/
def c1 (p : D → (D → Prop) → Prop) : List D → (D → Prop) → Prop := fun ds post => ∃ a, ds = [a] ∧ p a post
def c2 (p : D → D → (D → Prop) → Prop) : List D → (D → Prop) → Prop := fun ds post => ∃ a b, ds = [a, b] ∧ p a b post
def c3 (p : D → D → D → (D → Prop) → Prop) : List D → (D → Prop) → Prop := fun ds post => ∃ a b c, ds = [a, b, c] ∧ p a b c post
def c4 (p : D → D → D → D → (D → Prop) → Prop) : List D → (D → Prop) → Prop := fun ds post => ∃ a b c d, ds = [a, b, c, d] ∧ p a b c d post
theorem len1 {p : D → (D → Prop) → Prop} (ds : List D) (post : D → Prop) (h : c1 p ds post) : ds.length = 1 := by obtain ⟨a, rfl, _⟩ := h; rfl
theorem len2 {p : D → D → (D → Prop) → Prop} (ds : List D) (post : D → Prop) (h : c2 p ds post) : ds.length = 2 := by obtain ⟨a, b, rfl, _⟩ := h; rfl
theorem len3 {p : D → D → D → (D → Prop) → Prop} (ds : List D) (post : D → Prop) (h : c3 p ds post) : ds.length = 3 := by obtain ⟨a, b, c, rfl, _⟩ := h; rfl
theorem len4 {p : D → D → D → D → (D → Prop) → Prop} (ds : List D) (post : D → Prop) (h : c4 p ds post) : ds.length = 4 := by obtain ⟨a, b, c, d, rfl, _⟩ := h; rfl
theorem c1_mk {p : D → (D → Prop) → Prop} {a : D} {post : D → Prop} (h : p a post) : c1 p [a] post := ⟨a, rfl, h⟩
theorem c2_mk {p : D → D → (D → Prop) → Prop} {a b : D} {post : D → Prop} (h : p a b post) : c2 p [a, b] post := ⟨a, b, rfl, h⟩
theorem c3_mk {p : D → D → D → (D → Prop) → Prop} {a b c : D} {post : D → Prop} (h : p a b c post) : c3 p [a, b, c] post := ⟨a, b, c, rfl, h⟩
theorem c4_mk {p : D → D → D → D → (D → Prop) → Prop} {a b c d : D} {post : D → Prop} (h : p a b c d post) : c4 p [a, b, c, d] post := ⟨a, b, c, d, rfl, h⟩
/-- with a box ahead -/
def c0 (p : (D → Prop) → Prop) : List D → (D → Prop) → Prop := fun ds post => ds = [] ∧ p post
theorem c0_mk {p : (D → Prop) → Prop} {post : D → Prop} (h : p post) : c0 p [] post := ⟨rfl, h⟩
theorem lenB0 {p : (D → Prop) → Prop} (ds : List D) (post : D → Prop) (h : c0 p ds post) : ds.length + 1 = 1 := by obtain ⟨rfl, _⟩ := h; rfl
theorem lenB1 {p : D → (D → Prop) → Prop} (ds : List D) (post : D → Prop) (h : c1 p ds post) : ds.length + 1 = 2 := by obtain ⟨a, rfl, _⟩ := h; rfl
theorem lenB2 {p : D → D → (D → Prop) → Prop} (ds : List D) (post : D → Prop) (h : c2 p ds post) : ds.length + 1 = 3 := by obtain ⟨a, b, rfl, _⟩ := h; rfl

section
variable {K : PySem.W.Frag} {M : Type} {W : Wd K M} {te ta tb tc : TE} {tt tu : TT} {ts t u : TS} {g : TG} {Γ : Env'} {μ : M} {k : D → M → Prop} {kb : Bool → M → Prop} {O : Outs M} {i j l : Nat} {d x y : D}
theorem rl_minTA {ns : List Int} (h0 : 0 < ns.length) (q : ∀ m, m ∈ ns → (∀ y ∈ ns, m ≤ y) → k (.int m) μ) : RvL W (rMinA K) [.tup (ns.map .int)] μ k := fun vs H Q hI r c => .inr (rl_minT h0 q vs H Q hI r c)
theorem rl_minLA {ns : List Int} (h0 : 0 < ns.length) (q : ∀ m, m ∈ ns → (∀ y ∈ ns, m ≤ y) → k (.int m) μ) : RvL W (rMinA K) [.lst (ns.map .int)] μ k := fun vs H Q hI r c => .inl (rl_minL h0 q vs H Q hI r c)
theorem et_yes (q : kb true μ) : EvT W tYes Γ μ kb := fun σ H Q he hI c => c true H μ .refl hI q
/-- tests whose value is known -/
theorem et_valB (h : EvG W te Γ μ fun x μ => ∃ b, x = .bl b ∧ kb b μ) : EvT W (tB te) Γ μ kb := et_val h
theorem ex_if' (h : EvT W tt Γ μ fun b μ => if b = true then ExG W t Γ μ O else ExG W u Γ μ O) : ExG W (tIfS tt t u) Γ μ O :=
  ex_if (h.imp fun b μ q => ⟨fun e => by subst e; simpa using q, fun e => by subst e; simpa using q⟩)
theorem eg_if' (h : EvT W tt Γ μ fun b μ => if b = true then EvG W ta Γ μ k else EvG W tb Γ μ k) : EvG W (tIf tt ta tb) Γ μ k :=
  eg_if (h.imp fun b μ q => ⟨fun e => by subst e; simpa using q, fun e => by subst e; simpa using q⟩)
theorem et_and' (h : EvT W tt Γ μ fun b μ => if b = true then EvT W tu Γ μ kb else kb false μ) : EvT W (tAnd tt tu) Γ μ kb :=
  et_and (h.imp fun b μ q => ⟨fun e => by subst e; simpa using q, fun e => by subst e; simpa using q⟩)
theorem et_or' (h : EvT W tt Γ μ fun b μ => if b = true then kb true μ else EvT W tu Γ μ kb) : EvT W (tOr tt tu) Γ μ kb :=
  et_or (h.imp fun b μ q => ⟨fun e => by subst e; simpa using q, fun e => by subst e; simpa using q⟩)
theorem eg_and' (h : EvG W ta Γ μ fun x μ => ∃ b, x = .bl b ∧ if b = true then EvG W tb Γ μ k else k (.bl false) μ) : EvG W (tAndV ta tb) Γ μ k :=
  eg_andV (h.imp fun x μ ⟨b, e, q⟩ => ⟨b, e, fun e => by subst e; simpa using q, fun e => by subst e; simpa using q⟩)
theorem eg_or' (h : EvG W ta Γ μ fun x μ => ∃ b, x = .bl b ∧ if b = true then k (.bl true) μ else EvG W tb Γ μ k) : EvG W (tOrV ta tb) Γ μ k :=
  eg_orV (h.imp fun x μ ⟨b, e, q⟩ => ⟨b, e, fun e => by subst e; simpa using q, fun e => by subst e; simpa using q⟩)
theorem eg_chain' {r r' : R2} (h : EvG W ta Γ μ fun x μ => EvG W tb Γ μ fun y μ => Rv2 W r x y μ fun z μ => ∃ b, z = .bl b ∧ if b = true then EvG W tc Γ μ fun w μ => Rv2 W r' y w μ k else k (.bl false) μ) : EvG W (tChain r r' ta tb tc) Γ μ k := by
  refine eg_chain (h.imp fun x μ q => q.imp fun y μ q => ?_)
  intro vx vy H Q hI rx ry c
  refine q vx vy H Q hI rx ry fun v H' d μ' e I r ⟨b, e1, q⟩ => c v H' d μ' e I r ⟨b, e1, fun e => by subst e; simpa using q, fun e => by subst e; simpa using q⟩
end
/-- a known test -/
theorem if_split {b : Bool} {A B : Prop} (h1 : b = true → A) (h2 : b = false → B) : if b = true then A else B := by
  cases b with
  | true => exact iteT (h1 rfl)
  | false => exact iteF (h2 rfl)
theorem cxK {CX : CXT} {P : Program} {w : World} {K : PySem.W.Frag} {mg : Str → Option Value} {base : Heap} {N : List Str} {qual : Str} {scope : Scope} {f : Addr} {cdv : Value} {A : Around} {outer : List Env} {s : Shared} {H : Hp} {E : XK} : (cxOf CX P w K mg base N qual scope f cdv A outer s H E).nox.K = K := rfl
theorem iteNF {A B : Prop} (h : A) : if (!false) = true then A else B := h
theorem iteNT {A B : Prop} (h : B) : if (!true) = true then A else B := h
abbrev dR (r : Rat) : D := .tup [.int r.num, .int (r.den : Int)]
end DL

namespace DL
open PySem PySem.Spec PyProof.Rows L2 GxR GX

/-! ### ratios -/
theorem if_no {c : Prop} [Decidable c] {A B : Prop} (h : ¬ c) (b : B) : if decide c = true then A else B := by
  rw [decide_eq_false h]; exact iteF b
theorem if_yes {c : Prop} [Decidable c] {A B : Prop} (h : c) (a : A) : if decide c = true then A else B := by
  rw [decide_eq_true h]; exact iteT a
theorem if_dec {c : Prop} [Decidable c] {A B : Prop} (h1 : c → A) (h2 : ¬ c → B) : if decide c = true then A else B := by
  by_cases h : c
  · exact if_yes h (h1 h)
  · exact if_no h (h2 h)
theorem if_ndec {c : Prop} [Decidable c] {A B : Prop} (h1 : ¬ c → A) (h2 : c → B) : if (!decide c) = true then A else B := by
  by_cases h : c
  · rw [decide_eq_true h]; exact iteF (h2 h)
  · rw [decide_eq_false h]; exact iteT (h1 h)
theorem if_nsplit {b : Bool} {A B : Prop} (h1 : b = false → A) (h2 : b = true → B) : if (!b) = true then A else B := by
  cases b with
  | true => exact iteF (h2 rfl)
  | false => exact iteT (h1 rfl)
section
variable {K : PySem.W.Frag} {M : Type} {W : Wd K M} {μ : M} {k : D → M → Prop}
theorem r2_intC' {C : Int → Int → Prop} {g : Int → Int → Int} {a b : Int} (q : k (.int (g a b)) μ) (hc : C a b) : Rv2 W (rI C fun i j => .int (g i j)) (.int a) (.int b) μ k := r2_intC hc q
end
theorem ratio_q (x y : Int) (h : 0 < y) : ((x:Rat)/(y:Rat)).num = x / ((Nat.gcd x.natAbs y.natAbs : Nat) : Int) ∧ ((((x:Rat)/(y:Rat)).den : Nat) : Int) = y / ((Nat.gcd x.natAbs y.natAbs : Nat) : Int) := by
  obtain ⟨n, rfl⟩ := Int.eq_ofNat_of_zero_le (Int.le_of_lt h)
  have e : (x:Rat)/((n:Int):Rat) = mkRat x n := by
    rw [Rat.mkRat_eq_div]; rfl
  rw [e, Rat.mkRat_def]
  have hn : n ≠ 0 := by omega
  rw [dif_neg hn, Rat.normalize_eq]
  simp
theorem rat_nd (x : Rat) : x = (x.num : Rat) / ((x.den : Int) : Rat) := by
  have h := Rat.mkRat_self x
  rw [Rat.mkRat_eq_div] at h
  exact h.symm
theorem den_ne (x : Rat) : ((x.den : Int) : Rat) ≠ 0 := by
  have h := x.den_nz
  intro z
  have : (x.den : Int) = 0 := by exact_mod_cast z
  omega
theorem den_pos (x : Rat) : (0 : Int) < (x.den : Int) := by
  have h := x.den_nz
  omega
theorem rat_add (x y : Rat) : ((x.num * (y.den : Int) + y.num * (x.den : Int) : Int) : Rat) / (((x.den : Int) * (y.den : Int) : Int) : Rat) = x + y := by
  have a := den_ne x
  have b := den_ne y
  have e1 := rat_nd x
  have e2 := rat_nd y
  rw [Rat.intCast_add, Rat.intCast_mul, Rat.intCast_mul, Rat.intCast_mul]
  generalize ((x.den : Int) : Rat) = p at *
  generalize ((y.den : Int) : Rat) = q at *
  generalize (x.num : Rat) = u at *
  generalize (y.num : Rat) = v at *
  grind
theorem rat_sub (x y : Rat) : ((x.num * (y.den : Int) - y.num * (x.den : Int) : Int) : Rat) / (((x.den : Int) * (y.den : Int) : Int) : Rat) = x - y := by
  have a := den_ne x
  have b := den_ne y
  have e1 := rat_nd x
  have e2 := rat_nd y
  rw [Rat.intCast_sub, Rat.intCast_mul, Rat.intCast_mul, Rat.intCast_mul]
  generalize ((x.den : Int) : Rat) = p at *
  generalize ((y.den : Int) : Rat) = q at *
  generalize (x.num : Rat) = u at *
  generalize (y.num : Rat) = v at *
  grind
theorem rat_half (x : Rat) : ((x.num : Int) : Rat) / ((2 * (x.den : Int) : Int) : Rat) = x / 2 := by
  have a := den_ne x
  have e1 := rat_nd x
  rw [Rat.intCast_mul]
  generalize ((x.den : Int) : Rat) = p at *
  generalize (x.num : Rat) = u at *
  have : ((2 : Int) : Rat) = 2 := rfl
  rw [this]
  grind
theorem rat_lt (x y : Rat) : decide (x.num * (y.den : Int) < y.num * (x.den : Int)) = decide (x < y) := decide_eq_decide.mpr (Rat.lt_iff x y).symm
theorem dR_int (c : Int) : D.tup [.int c, .int 1] = dR (c : Rat) := rfl
theorem dR_neg (x : Rat) : D.tup [.int (-x.num), .int (x.den : Int)] = dR (-x) := rfl
/-- a ratio of at most n bits -/
structure Rb (n : Nat) (r : Rat) : Prop where
  num : r.num.natAbs < 2 ^ n
  den : r.den < 2 ^ n
theorem Rb.pos {n : Nat} {r : Rat} (h : Rb n r) : 0 < n := by
  rcases Nat.eq_zero_or_pos n with e | e
  · subst e
    have := h.2
    have := r.den_nz
    omega
  · exact e
theorem Rb.mono {n m : Nat} {r : Rat} (h : Rb n r) (hm : n ≤ m) : Rb m r :=
  ⟨Nat.lt_of_lt_of_le h.1 (Nat.pow_le_pow_right (by decide) hm), Nat.lt_of_lt_of_le h.2 (Nat.pow_le_pow_right (by decide) hm)⟩
theorem div_le_self' (x : Int) (g : Nat) : (x / (g : Int)).natAbs ≤ x.natAbs := by
  rw [← Int.natAbs_natCast g] 
  exact Int.natAbs_ediv_le_natAbs x _
theorem Rb.div {n : Nat} {x y : Int} (hy : 0 < y) (h1 : x.natAbs < 2 ^ n) (h2 : y.natAbs < 2 ^ n) : Rb n ((x : Rat) / (y : Rat)) := by
  obtain ⟨a, b⟩ := ratio_q x y hy
  refine ⟨?_, ?_⟩
  · rw [a]; exact Nat.lt_of_le_of_lt (div_le_self' _ _) h1
  · have c : ((((x:Rat)/(y:Rat)).den : Nat) : Int).natAbs < 2 ^ n := by
      rw [b]; exact Nat.lt_of_le_of_lt (div_le_self' _ _) h2
    simpa using c
theorem natAbs_mul_lt {i j : Int} {a b : Nat} (ha : i.natAbs < 2 ^ a) (hb : j.natAbs < 2 ^ b) : (i * j).natAbs < 2 ^ (a + b) := wide_lt ha hb
theorem den_abs {n : Nat} {r : Rat} (h : Rb n r) : ((r.den : Int)).natAbs < 2 ^ n := by simpa using h.2
theorem pow_dbl (n : Nat) : 2 ^ (n + 1) = 2 ^ n + 2 ^ n := by rw [Nat.pow_succ]; omega
theorem Rb.add {n m : Nat} {x y : Rat} (h : Rb n x) (g : Rb m y) : Rb (n + m + 1) (x + y) := by
  rw [← rat_add x y]
  have a := natAbs_mul_lt h.1 (den_abs g)
  have b := natAbs_mul_lt g.1 (den_abs h)
  have c := natAbs_mul_lt (den_abs h) (den_abs g)
  rw [Nat.add_comm m n] at b
  have e := pow_dbl (n + m)
  have p := den_pos x
  have q := den_pos y
  refine Rb.div (Int.mul_pos p q) ?_ (by omega)
  omega
theorem Rb.sub {n m : Nat} {x y : Rat} (h : Rb n x) (g : Rb m y) : Rb (n + m + 1) (x - y) := by
  rw [← rat_sub x y]
  have a := natAbs_mul_lt h.1 (den_abs g)
  have b := natAbs_mul_lt g.1 (den_abs h)
  have c := natAbs_mul_lt (den_abs h) (den_abs g)
  rw [Nat.add_comm m n] at b
  have e := pow_dbl (n + m)
  have p := den_pos x
  have q := den_pos y
  refine Rb.div (Int.mul_pos p q) ?_ (by omega)
  omega
theorem Rb.half {n : Nat} {x : Rat} (h : Rb n x) : Rb (n + 1) (x / 2) := by
  rw [← rat_half x]
  have c := den_abs h
  have d := h.1
  have e := pow_dbl n
  have p := den_pos x
  refine Rb.div (by omega) ?_ ?_ <;> omega
theorem Rb.int {n : Nat} {c : Int} (h : c.natAbs < 2 ^ n) (hn : 0 < n) : Rb n (c : Rat) := ⟨h, by
  show 1 < 2 ^ n
  exact Nat.one_lt_two_pow (by omega)⟩
theorem Rb.neg {n : Nat} {x : Rat} (h : Rb n x) : Rb n (-x) := ⟨by
  show (-x.num).natAbs < _
  rw [Int.natAbs_neg]; exact h.1, h.2⟩
theorem mulA {i j : Int} {n m : Nat} (hi : i.natAbs < 2 ^ n) (hj : j.natAbs < 2 ^ m) (h : n + m ≤ 900000) : CMulA i j := by
  by_cases hn : n = 0
  · subst hn
    refine .inl (.inl ?_)
    have : i = 0 := by omega
    subst this
    decide
  · by_cases hm : m = 0
    · subst hm
      refine .inl (.inr ?_)
      have : j = 0 := by omega
      subst this
      decide
    · exact .inr (wide_mul hi hj (by omega) (by omega) (by omega))
theorem mulS {i j : Int} (h : -18446744073709551616 < i ∧ i < 18446744073709551616) : CMulA i j := .inl (.inl h)
theorem mulS' {i j : Int} (h : -18446744073709551616 < j ∧ j < 18446744073709551616) : CMulA i j := .inl (.inr h)
theorem log2_lt {x n m : Nat} (h : x < 2 ^ n) (hm : n ≤ m) (h0 : 0 < m) : x.log2 < m := by
  exact PySem.Flt.log2_lt_of h0 (Nat.lt_of_lt_of_le h (Nat.pow_le_pow_right (by decide) hm))
theorem divW {i j : Int} {n : Nat} (h : 0 < j) (hb : j.natAbs < 2 ^ n) (h9 : n ≤ 9000) : CDivW i j := ⟨h, log2_lt hb h9 (by decide)⟩

/-! ### what the defs on ratios promise -/
/-- ratio(p, q), a positive q -/
def kRatio (p q : D) (post : D → Prop) : Prop := ∃ (x y : Int) (n : Nat), p = .int x ∧ q = .int y ∧ 0 < y ∧ y.natAbs < 2 ^ n ∧ n ≤ 9000 ∧ post (dR ((x : Rat) / (y : Rat)))
def kPlus (a b : D) (post : D → Prop) : Prop := ∃ (x y : Rat) (n m : Nat), a = dR x ∧ b = dR y ∧ Rb n x ∧ Rb m y ∧ n + m ≤ 9000 ∧ post (dR (x + y))
def kMinus (a b : D) (post : D → Prop) : Prop := ∃ (x y : Rat) (n m : Nat), a = dR x ∧ b = dR y ∧ Rb n x ∧ Rb m y ∧ n + m ≤ 9000 ∧ post (dR (x - y))
def kLess (a b : D) (post : D → Prop) : Prop := ∃ (x y : Rat) (n m : Nat), a = dR x ∧ b = dR y ∧ Rb n x ∧ Rb m y ∧ n + m ≤ 9000 ∧ post (.bl (decide (x < y)))
def kHalf (a : D) (post : D → Prop) : Prop := ∃ (x : Rat) (n : Nat), a = dR x ∧ Rb n x ∧ n ≤ 8000 ∧ post (dR (x / 2))
def kLesser (a b : D) (post : D → Prop) : Prop := ∃ (x y : Rat) (n m : Nat), a = dR x ∧ b = dR y ∧ Rb n x ∧ Rb m y ∧ n + m ≤ 9000 ∧ post (dR (if x < y then x else y))
def kGreater (a b : D) (post : D → Prop) : Prop := ∃ (x y : Rat) (n m : Nat), a = dR x ∧ b = dR y ∧ Rb n x ∧ Rb m y ∧ n + m ≤ 9000 ∧ post (dR (if x < y then y else x))
/-- .. of the law: a common factor of the absolute values -/
def kCommon (a b : D) (post : D → Prop) : Prop := ∃ x y : Int, a = .int x ∧ b = .int y ∧ post (.int (Nat.gcd x.natAbs y.natAbs : Nat))
theorem gcd_bound {x y : Int} {n : Nat} (hy : 0 < y) (h : y.natAbs < 2 ^ n) : (0 : Int) < ((Nat.gcd x.natAbs y.natAbs : Nat) : Int) ∧ ((Nat.gcd x.natAbs y.natAbs : Nat) : Int).natAbs < 2 ^ n := by
  have a : 0 < Nat.gcd x.natAbs y.natAbs := Nat.gcd_pos_of_pos_right _ (by omega)
  have b : Nat.gcd x.natAbs y.natAbs ≤ y.natAbs := Nat.gcd_le_right _ (by omega)
  simp only [Int.natAbs_natCast]
  omega
end DL

namespace DL
open PySem PySem.Spec PyProof.Rows L2 GxR GX

section
variable {K : PySem.W.Frag} {M : Type} {W : Wd K M} {te ta tb tc : TE} {tt tu : TT} {ts t u : TS} {g : TG} {Γ : Env'} {μ : M} {k : D → M → Prop} {kb : Bool → M → Prop} {O : Outs M} {i j l : Nat} {d x y : D} {wi : TI} {vs : List Nat} {P : Addr}
theorem EvI.imp {k k' : List D → M → Prop} (h : EvI W wi Γ μ k) (q : ∀ ds μ, k ds μ → k' ds μ) : EvI W wi Γ μ k' := fun σ H R he hI c => h σ H R he hI fun J H' ds μ' a b e z => c J H' ds μ' a b e (q _ _ z)
theorem all_take {f : D → Bool} {ds : List D} {i : Nat} {x : D} (e : ds[i]? = some x) : (ds.take (i + 1)).all f = ((ds.take i).all f && f x) := by
  rw [List.take_add_one, e, List.all_append]
  simp
theorem map_take {α : Type} {f : D → α} {ds : List D} {i : Nat} {x : D} (e : ds[i]? = some x) : (ds.take (i + 1)).map f = (ds.take i).map f ++ [f x] := by
  rw [List.take_add_one, e, List.map_append]
  rfl
theorem filt_take {f : D → Bool} {ds : List D} {i : Nat} {x : D} (e : ds[i]? = some x) : (ds.take (i + 1)).filter f = (ds.take i).filter f ++ (if f x = true then [x] else []) := by
  rw [List.take_add_one, e, List.filter_append]
  cases h : f x <;> simp [h]
/-- all(.. for ..): each a bool that its item tells -/
theorem eg_allP (f : D → Bool) (hP : P ∈ W.tabs) (h : EvI W wi Γ μ fun ds _ => (∀ x ∈ ds, ∀ μ, AsG W g x (wipeG Γ vs) μ fun Γ2 μ => EvG W te Γ2 μ fun y _ => y = .bl (f x)) ∧ ∀ μ, k (.bl (ds.all f)) μ)
    (hw : ∀ v σ H Q, g v (L2.wipe σ vs) H Q → g v (L2.wipe σ vs) H fun σ2 H2 => L2.wipe σ2 vs = L2.wipe σ vs ∧ Q σ2 H2) : EvG W (tAllG P wi g te vs) Γ μ k := by
  refine eg_allG hP (h.imp fun ds μ1 ⟨h1, h2⟩ => ⟨fun i _ => (ds.take i).all f = true, rfl, fun i x μ e p => ?_, fun μ p => ?_⟩) hw
  · intro v σ H Q he hI r c
    refine h1 x (List.mem_of_getElem? e) μ v σ H Q he hI r fun σ' H' Γ' μ' a b e' q => c σ' H' Γ' μ' a b e' ?_
    refine q.imp fun y μ ey => ⟨f x, ey, fun hf => ?_, fun hf => ?_⟩
    · show (ds.take (i + 1)).all f = true
      rw [all_take e, p, hf]; rfl
    · have : ds.all f = false := by
        rw [Bool.eq_false_iff]
        intro z
        have := List.all_eq_true.mp z x (List.mem_of_getElem? e)
        rw [hf] at this
        cases this
      rw [← this]
      exact h2 μ
  · dsimp only at p
    rw [List.take_length] at p
    rw [← p]
    exact h2 μ
/-- tuple(.. for ..): each what its item tells -/
theorem eg_tupP (f : D → D) (hP : P ∈ W.tabs) (h : EvI W wi Γ μ fun ds _ => ds.length < sizeLine ∧ (∀ x ∈ ds, ∀ μ, AsG W g x (wipeG Γ vs) μ fun Γ2 μ => EvG W te Γ2 μ fun y _ => y = f x) ∧ ∀ μ, k (.tup (ds.map f)) μ)
    (hw : ∀ v σ H Q, g v (L2.wipe σ vs) H Q → g v (L2.wipe σ vs) H fun σ2 H2 => L2.wipe σ2 vs = L2.wipe σ vs ∧ Q σ2 H2) : EvG W (tTupG P wi g te vs) Γ μ k := by
  refine eg_tupG hP (h.imp fun ds μ1 ⟨h0, h1, h2⟩ => ⟨h0, fun i out _ => out = (ds.take i).map f, rfl, fun i x out μ e p => ?_, fun out μ p => ?_⟩) hw
  · intro v σ H Q he hI r c
    refine h1 x (List.mem_of_getElem? e) μ v σ H Q he hI r fun σ' H' Γ' μ' a b e' q => c σ' H' Γ' μ' a b e' ?_
    refine q.imp fun y μ ey => ?_
    dsimp only at p ⊢
    rw [map_take e, p, ey]
  · dsimp only at p
    rw [List.take_length] at p
    rw [p]
    exact h2 μ
/-- [.. for ..] -/
theorem eg_lcP (f : D → D) (h : EvI W wi Γ μ fun ds _ => ds.length < sizeLine ∧ (∀ x ∈ ds, ∀ μ A, AsG (W.plus A) g x (wipeG Γ vs) μ fun Γ2 μ => EvG (W.plus A) te Γ2 μ fun y _ => y = f x) ∧ ∀ μ, k (.lst (ds.map f)) μ)
    (hw : ∀ v σ H Q, g v (L2.wipe σ vs) H Q → g v (L2.wipe σ vs) H fun σ2 H2 => L2.wipe σ2 vs = L2.wipe σ vs ∧ Q σ2 H2) : EvG W (tLc wi g tYes te vs) Γ μ k := by
  refine eg_lc (h.imp fun ds μ1 ⟨h0, h1, h2⟩ => ⟨h0, fun i out _ => out = (ds.take i).map f, rfl, fun i x out μ e p A => ?_, fun out μ p => ?_⟩) hw
  · intro v σ H Q he hI r c
    refine h1 x (List.mem_of_getElem? e) μ A v σ H Q he hI r fun σ' H' Γ' μ' a b e' q => c σ' H' Γ' μ' a b e' ?_
    refine et_yes ⟨fun _ => q.imp fun y μ ey => ?_, fun z => nomatch z⟩
    dsimp only at p ⊢
    rw [map_take e, p, ey]
  · dsimp only at p
    rw [List.take_length] at p
    rw [p]
    exact h2 μ
/-- [.. for .. if ..] -/
theorem eg_lcT (t : D → Bool) (f : D → D) (h : EvI W wi Γ μ fun ds _ => ds.length < sizeLine ∧ (∀ x ∈ ds, ∀ μ A, AsG (W.plus A) g x (wipeG Γ vs) μ fun Γ2 μ => EvT (W.plus A) tt Γ2 μ fun b μ => b = t x ∧ (b = true → EvG (W.plus A) te Γ2 μ fun y _ => y = f x)) ∧ ∀ μ, k (.lst ((ds.filter t).map f)) μ)
    (hw : ∀ v σ H Q, g v (L2.wipe σ vs) H Q → g v (L2.wipe σ vs) H fun σ2 H2 => L2.wipe σ2 vs = L2.wipe σ vs ∧ Q σ2 H2) : EvG W (tLc wi g tt te vs) Γ μ k := by
  refine eg_lc (h.imp fun ds μ1 ⟨h0, h1, h2⟩ => ⟨h0, fun i out _ => out = ((ds.take i).filter t).map f, rfl, fun i x out μ e p A => ?_, fun out μ p => ?_⟩) hw
  · intro v σ H Q he hI r c
    refine h1 x (List.mem_of_getElem? e) μ A v σ H Q he hI r fun σ' H' Γ' μ' a b e' q => c σ' H' Γ' μ' a b e' ?_
    refine q.imp fun b μ ⟨eb, q⟩ => ⟨fun hb => (q hb).imp fun y μ ey => ?_, fun hb => ?_⟩
    · have : t x = true := by rw [← eb]; exact hb
      dsimp only at p ⊢
      rw [filt_take e, this, List.map_append, p, ey]
      rfl
    · have : t x = false := by rw [← eb]; exact hb
      dsimp only at p ⊢
      rw [filt_take e, this, p]
      simp
  · dsimp only at p
    rw [List.take_length] at p
    rw [p]
    exact h2 μ
/-- .. where a relation holds of each item and what is made of it -/
theorem eg_lcR (R : D → D → Prop) (h : EvI W wi Γ μ fun ds _ => ds.length < sizeLine ∧ (∀ x ∈ ds, ∀ μ A, AsG (W.plus A) g x (wipeG Γ vs) μ fun Γ2 μ => EvG (W.plus A) te Γ2 μ fun y _ => R x y) ∧ ∀ out μ, out.length = ds.length → (∀ (i : Nat) (x y : D), ds[i]? = some x → out[i]? = some y → R x y) → k (.lst out) μ)
    (hw : ∀ v σ H Q, g v (L2.wipe σ vs) H Q → g v (L2.wipe σ vs) H fun σ2 H2 => L2.wipe σ2 vs = L2.wipe σ vs ∧ Q σ2 H2) : EvG W (tLc wi g tYes te vs) Γ μ k := by
  refine eg_lc (h.imp fun ds μ1 ⟨h0, h1, h2⟩ => ⟨h0, fun i out _ => i ≤ ds.length → out.length = i ∧ ∀ (i : Nat) (x y : D), ds[i]? = some x → out[i]? = some y → R x y, fun _ => ⟨rfl, fun i x y _ e => by simp at e⟩, fun i x out μ e p A => ?_, fun out μ p => ?_⟩) hw
  · intro v σ H Q he hI r c
    refine h1 x (List.mem_of_getElem? e) μ A v σ H Q he hI r fun σ' H' Γ' μ' a b e' q => c σ' H' Γ' μ' a b e' ?_
    refine et_yes ⟨fun _ => q.imp fun y μ ey => fun hi => ?_, fun z => nomatch z⟩
    obtain ⟨p1, p2⟩ := p (by omega)
    refine ⟨by rw [List.length_append, p1]; rfl, fun j x' y' e1 e2 => ?_⟩
    by_cases hj : j < out.length
    · rw [List.getElem?_append_left hj] at e2
      exact p2 j x' y' e1 e2
    · rw [List.getElem?_append_right (by omega)] at e2
      have : j - out.length = 0 := by
        have := (List.getElem?_eq_some_iff.mp e2).1
        simp at this
        omega
      have ej : j = i := by omega
      rw [this] at e2
      simp at e2
      subst e2 ej
      rw [e] at e1
      cases e1
      exact ey
  · obtain ⟨p1, p2⟩ := p (Nat.le_refl _)
    exact h2 out μ p1 p2
end
/-! ### data of bounded size -/
mutual
def okD (b : Nat) : D → Prop
  | .int i => i.natAbs < 2 ^ b
  | .tup ds => ds.length ≤ 100 ∧ okAll b ds
  | .lst ds => ds.length ≤ 100 ∧ okAll b ds
  | .adr _ => False
  | .ty _ => False
  | _ => True
def okAll (b : Nat) : List D → Prop
  | [] => True
  | d :: r => okD b d ∧ okAll b r
end
theorem okAll_iff {b : Nat} {ds : List D} : okAll b ds ↔ ∀ d ∈ ds, okD b d := by
  induction ds with
  | nil => simp [okAll]
  | cons d r ih => simp [okAll, ih]
theorem okD_T {b : Nat} {d : D} (h : okD b d) : (tyD d).isSome = true := by
  cases d <;> first | rfl | (unfold okD at h; exact h.elim)
/-- a ratio by its look -/
def isRatB : D → Bool
  | .tup [.int p, .int q] => decide (0 < q) && decide (Nat.gcd p.natAbs q.natAbs = 1)
  | _ => false
def toR : D → Rat
  | .tup [.int p, .int q] => (p : Rat) / (q : Rat)
  | _ => 0
theorem isRat_dR (r : Rat) : isRatB (dR r) = true := by
  show (decide (0 < (r.den : Int)) && decide (Nat.gcd r.num.natAbs ((r.den : Int)).natAbs = 1)) = true
  have a := den_pos r
  have b : Nat.gcd r.num.natAbs ((r.den : Int)).natAbs = 1 := by
    rw [Int.natAbs_natCast]; exact r.reduced
  rw [decide_eq_true a, decide_eq_true b]; rfl
theorem toR_dR (r : Rat) : toR (dR r) = r := (rat_nd r).symm
theorem dR_of {d : D} (h : isRatB d = true) : d = dR (toR d) := by
  unfold isRatB at h
  split at h
  · rename_i p q
    rw [Bool.and_eq_true] at h
    have h1 := of_decide_eq_true h.1
    have h2 := of_decide_eq_true h.2
    obtain ⟨a, b⟩ := ratio_q p q h1
    show D.tup [.int p, .int q] = D.tup [.int ((p : Rat) / (q : Rat)).num, .int (((p : Rat) / (q : Rat)).den : Int)]
    rw [a, b, h2]
    simp
  · cases h
theorem okD_Rb {b : Nat} {r : Rat} (h : okD b (dR r)) : Rb b r := by
  unfold okD at h
  have h1 := okAll_iff.mp h.2 (.int r.num) (by simp)
  have h2 := okAll_iff.mp h.2 (.int (r.den : Int)) (by simp)
  unfold okD at h1 h2
  exact ⟨h1, by simpa using h2⟩
theorem Rb_okD {b : Nat} {r : Rat} (h : Rb b r) : okD b (dR r) := by
  unfold okD
  refine ⟨by simp, ?_⟩
  simp only [okD, okAll]
  exact ⟨h.1, by simpa using h.2, trivial⟩
theorem dR_inj {x y : Rat} (h : dR x = dR y) : x = y := by
  have := congrArg toR h
  rwa [toR_dR, toR_dR] at this
theorem eqD_dR (x y : Rat) : eqD (dR x) (dR y) = decide (x = y) := by
  show (decide (x.num = y.num) && (decide ((x.den : Int) = (y.den : Int)) && true)) = _
  by_cases h : x = y
  · subst h; simp
  · rw [decide_eq_false h]
    by_cases h1 : x.num = y.num
    · by_cases h2 : (x.den : Int) = (y.den : Int)
      · exact absurd (Rat.ext h1 (by omega)) h
      · rw [decide_eq_false h2]; simp
    · rw [decide_eq_false h1]; simp
theorem plain_dR (n : Nat) (x : Rat) : plainD (n + 1) (dR x) = true := by simp [plainD, plainAll]
def sumR : List Rat → Rat
  | [] => 0
  | r :: t => r + sumR t
theorem sumR_app (a b : List Rat) : sumR (a ++ b) = sumR a + sumR b := by
  induction a with
  | nil => simp [sumR]; grind
  | cons x r ih => simp [sumR, ih]; grind
theorem sumR_take {rs : List Rat} {i : Nat} {r : Rat} (e : rs[i]? = some r) : sumR (rs.take (i + 1)) = sumR (rs.take i) + r := by
  rw [List.take_add_one, e, sumR_app]
  simp [sumR]
  grind
end DL

namespace DL
open PySem PySem.Spec PyProof.Rows L2 GxR GX
/-! ### the rules with the frame by its name -/
section
variable {X : Cx} {K : PySem.W.Frag}
theorem call_isi_K (h : X.K = K) : CallR X (.builtin "isinstance") (rIsi K) := h ▸ call_isi
theorem call_len_K (h : X.K = K) : CallR X (.builtin "len") (rLenS K) := h ▸ call_len_seq'
theorem call_tuple_K (h : X.K = K) : CallR X (.type "tuple") (rTupOf K) := h ▸ call_tuple_of'
theorem call_list_K (h : X.K = K) : CallR X (.type "list") (rLstOf K) := h ▸ call_list_of'
theorem cr_sum_K (h : X.K = K) (hc : X.calm = true) : CallR X (.builtin "sum") (rSumA K) := h ▸ cr_sumA hc
theorem cr_min_K (h : X.K = K) (hc : X.calm = true) : CallR X (.builtin "min") (rMinA K) := h ▸ cr_minA hc
theorem cr_all_K (h : X.K = K) (hc : X.calm = true) : CallR X (.builtin "all") (rAll K) := h ▸ cr_all hc
theorem cr_any_K (h : X.K = K) (hc : X.calm = true) : CallR X (.builtin "any") (rAny K) := h ▸ cr_any hc
theorem cr_sorted_K (h : X.K = K) : CallR X (.builtin "sorted") (rSortedT K) := h ▸ cr_sortedT
theorem ix_seq_K (h : X.K = K) : IxR X (rIx K) := h ▸ ix_seq
theorem op_catA_K (h : X.K = K) : OpR X (binaryOp .Add) (rCatA K) := h ▸ op_catA
theorem op_eqD_K (h : X.K = K) (hu : X.A.units + 64 < cLine) : OpR X (compareOp .Eq) (rEqD K) := h ▸ op_eqD hu
theorem op_neD_K (h : X.K = K) (hu : X.A.units + 64 < cLine) : OpR X (compareOp .NotEq) (rNeD K) := h ▸ op_neD hu
theorem sl_tupA_K (h : X.K = K) : SlR X (rSlA K) := h ▸ sl_tupA
theorem sl_list_K (h : X.K = K) : SlR X (rSlL K) := h ▸ sl_list
theorem pe_revT_K {e : Expr} {te : TE} {k : Nat} {p1 p2 p3 pos : Pos} (h : X.K = K) (he : PE X e te) : PE X (.Subscript e (.Slice none none (some (.UnaryOp .USub (.Constant (.int 1) k p1) p2)) p3) pos) (tRevT K te) := h ▸ pe_revT he
theorem pg_tup_K {es : List Expr} {k : Nat} {t : TGs} {n : Nat} {pos : Pos} (hK : X.K = K) (hc : X.calm = true) (h : PGs X es t)
    (hn : (assignEach es X.env).length = n := by rfl) (hst : (assignEach es X.env).findIdx? (·.1) = none := by rfl) : PG X (.Tuple es k pos) (gTup K n t) := hK ▸ pg_tup hc h hn hst
theorem pi_seq_K {tg l : Expr} {tl : TE} (hK : X.K = K) (hl : PE X l tl) : PI X tg l (iSeq K tl) := hK ▸ pi_seq hl
end
end DL

namespace DL
open PySem PySem.Spec PyProof.Rows L2 GxR GX
/-! ### defs that call themselves -/
section
variable {P : Program} {w : World} {K : PySem.W.Frag} {mg : Str → Option Value} {base : Heap} {tabs : List Addr} {f : Addr} {fd : FuncData} {ps : List Str} {x : Str}
theorem recP {p q : Nat → List D → (D → Prop) → Prop} (hq : ∀ n ds post, q n ds post → ∃ m, n = m + 1 ∧ p m ds post) (B : Nat) (mgf : mg x = some (.ref f)) (kp : PySem.W.keepIn K (.ref f) = true) (hb : Binds K fd ps [])
    (step : ∀ n, Cal P w K mg base (B + n) x (SpP K tabs (q n)) → FnOk P w K mg base CX0 (B + n + 1) f fd ps (SpP K tabs (p n))) : ∀ n, FnOk P w K mg base CX0 (B + n + 1) f fd ps (SpP K tabs (p n))
  | 0 => by
    have no : ∀ vs H Q E, ¬ SpP K tabs (q 0) vs H Q E := fun vs H Q E h => by
      obtain ⟨S, ds, post, _, _, _, h2, _⟩ := h
      obtain ⟨m, e, _⟩ := hq _ _ _ h2
      omega
    exact step 0 ⟨f, fd, ps, ⟨fun vs H Q E h => (no _ _ _ _ h).elim, fun A outer s H args us vs Q E hr e0 hb rv h => (no _ _ _ _ h).elim⟩, mgf, kp, hb⟩
  | n + 1 => by
    refine step (n + 1) ⟨f, fd, ps, (recP hq B mgf kp hb step n).imp fun vs H Q E h => ?_, mgf, kp, hb⟩
    obtain ⟨S, ds, post, a, b, c, h2, d⟩ := h
    obtain ⟨m, e, h3⟩ := hq _ _ _ h2
    have : m = n := by omega
    subst this
    exact ⟨S, ds, post, a, b, c, h3, d⟩
theorem recB {p q : Nat → List D → (D → Prop) → Prop} (hq : ∀ n ds post, q n ds post → ∃ m, n = m + 1 ∧ p m ds post) (B : Nat) (mgf : mg x = some (.ref f)) (kp : PySem.W.keepIn K (.ref f) = true) (hb : Binds K fd ps [])
    (step : ∀ n, Cal P w K mg base (B + n) x (SpB K tabs (q n)) → FnOk P w K mg base CX0 (B + n + 1) f fd ps (SpB K tabs (p n))) : ∀ n, FnOk P w K mg base CX0 (B + n + 1) f fd ps (SpB K tabs (p n))
  | 0 => by
    have no : ∀ vs H Q E, ¬ SpB K tabs (q 0) vs H Q E := fun vs H Q E h => by
      obtain ⟨S, B, C, ws, ds, nn, post, _, _, _, _, _, _, _, h2, _⟩ := h
      obtain ⟨m, e, _⟩ := hq _ _ _ h2
      omega
    exact step 0 ⟨f, fd, ps, ⟨fun vs H Q E h => (no _ _ _ _ h).elim, fun A outer s H args us vs Q E hr e0 hb rv h => (no _ _ _ _ h).elim⟩, mgf, kp, hb⟩
  | n + 1 => by
    refine step (n + 1) ⟨f, fd, ps, (recB hq B mgf kp hb step n).imp fun vs H Q E h => ?_, mgf, kp, hb⟩
    obtain ⟨S, B, C, ws, ds, nn, post, a1, a2, a3, a4, a5, a6, a7, h2, d⟩ := h
    obtain ⟨m, e, h3⟩ := hq _ _ _ h2
    have : m = n := by omega
    subst this
    exact ⟨S, B, C, ws, ds, nn, post, a1, a2, a3, a4, a5, a6, a7, h3, d⟩
end
/-! ### ranges, places -/
theorem mem_range {lo : Int} {n : Nat} {x : D} (h : x ∈ rangeD lo n) : ∃ i : Nat, i < n ∧ x = .int (lo + (i : Int)) := by
  unfold rangeD at h
  obtain ⟨i, h1, h2⟩ := List.mem_map.mp h
  exact ⟨i, List.mem_range.mp h1, h2.symm⟩
theorem at0 {α : Type} {xs : List α} {i : Nat} {x : α} (h : xs[i]? = some x) : atI xs ((0 : Int) + (i : Int)) = some x := by
  rw [Int.zero_add]
  exact atI_nat h
theorem atN {α : Type} {xs : List α} {i : Nat} {x : α} {j : Int} (h : xs[i]? = some x) (e : j = (i : Int)) : atI xs j = some x := by
  rw [e]
  exact atI_nat h
theorem small_sz {n : Nat} (h : n ≤ 1000) : n < sizeLine := small1000 h
theorem atI_some {α : Type} {xs : List α} {j : Int} (h0 : 0 ≤ j) (h1 : j < xs.length) : ∃ x, atI xs j = some x ∧ xs[j.toNat]? = some x := by
  have h : j.toNat < xs.length := by omega
  exact ⟨xs[j.toNat], atN (List.getElem?_eq_getElem h) (by omega), List.getElem?_eq_getElem h⟩
end DL

namespace DL
open PySem PySem.Spec PyProof.Rows L2 GxR GX
theorem tabNil : TriplesOk (#[] : Array Value).toList := by
  first | exact trivial | simp [TriplesOk] | exact .nil
/-- a tuple of texts of the module -/
theorem dv_const {S : Addr → Prop} {K : PySem.W.Frag} {H : Hp} {a : Addr} {od : Option Addr} {its : Array Value} {n : Nat} {sl : Array (Option Value)} {xs : List V} {ds : List D} (y : K.lookup a = some ⟨.type "tuple", od, .seq its n, sl⟩) (v : Vals xs its.toList) (w : its.size ≤ sizeLine) (h : DvAll S K H xs ds) : Dv S K H (.ref a) (.tup ds) := by
  unfold Dv
  exact ⟨a, xs, rfl, .inr ⟨_, its, n, y, rfl, rfl, w, v⟩, h⟩
section
variable {K : PySem.W.Frag} {M : Type} {W : Wd K M} {μ : M} {k : D → M → Prop}
theorem rl_lenS {bl : Bool} {ds : List D} (q : k (.int ds.length) μ) : RvL W (rLenS K) [seqD bl ds] μ k := by
  cases bl with
  | true => exact rl_lenL q
  | false => exact rl_lenT q
theorem r2_ixS {bl : Bool} {ds : List D} {j : Int} {d : D} (ha : atI ds j = some d) (q : k d μ) : Rv2 W (rIx K) (seqD bl ds) (.int j) μ k := by
  cases bl with
  | true => exact r2_ixL ha q
  | false => exact r2_ixT ha q
end
section
variable {K : PySem.W.Frag} {M : Type} {W : Wd K M} {μ : M} {k : D → M → Prop}
theorem r2_rep {ds : List D} {n : Int} (h0 : 0 ≤ n) (h1 : n ≤ 1000) (h2 : ds.length * n.toNat ≤ sizeLine) (q : k (.lst (List.replicate n.toNat ds).flatten) μ) : Rv2 W rRep (.lst ds) (.int n) μ k := fun vx vy H Q hI rx ry c => by
  unfold Dv at rx
  obtain ⟨a, xs, e, _, hs, hd⟩ := rx
  refine ⟨a, n, xs, e, vd_int ry, hs, by omega, by omega, by rw [hd.length]; exact h2, fun p hp => ?_⟩
  exact c _ _ _ μ (.new hp) (W.stay _ _ _ hI (.new hp)) (dv_newL hI hp (flat_rep _ hd)) q
end
section
variable {K : PySem.W.Frag} {M : Type} {W : Wd K M} {te : TE} {tt : TT} {g : TG} {Γ : Env'} {μ : M} {k : D → M → Prop} {wi : TI} {vs : List Nat} {P : Addr}
/-- .. where what is kept apart stays -/
theorem eg_tupM (f : D → D) (hP : P ∈ W.tabs) (h : EvI W wi Γ μ fun ds μ1 => ds.length < sizeLine ∧ (∀ x ∈ ds, AsG W g x (wipeG Γ vs) μ1 fun Γ2 μ => EvG W te Γ2 μ fun y μ => y = f x ∧ μ = μ1) ∧ k (.tup (ds.map f)) μ1)
    (hw : ∀ v σ H Q, g v (L2.wipe σ vs) H Q → g v (L2.wipe σ vs) H fun σ2 H2 => L2.wipe σ2 vs = L2.wipe σ vs ∧ Q σ2 H2) : EvG W (tTupG P wi g te vs) Γ μ k := by
  refine eg_tupG hP (h.imp fun ds μ1 ⟨h0, h1, h2⟩ => ⟨h0, fun i out μ => out = (ds.take i).map f ∧ μ = μ1, ⟨rfl, rfl⟩, fun i x out μ e p => ?_, fun out μ p => ?_⟩) hw
  · intro v σ H Q he hI r c
    obtain ⟨p1, p2⟩ := p
    subst p2
    refine h1 x (List.mem_of_getElem? e) v σ H Q he hI r fun σ' H' Γ' μ' a b e' q => c σ' H' Γ' μ' a b e' ?_
    refine q.imp fun y μ ey => ?_
    refine ⟨?_, ey.2⟩
    rw [map_take e, p1, ey.1]
  · obtain ⟨p1, p2⟩ := p
    subst p2
    rw [List.take_length] at p1
    rw [p1]
    exact h2
theorem eg_lcM (t : D → Bool) (f : D → D) (h : EvI W wi Γ μ fun ds μ1 => ds.length < sizeLine ∧ (∀ x ∈ ds, ∀ A, AsG (W.plus A) g x (wipeG Γ vs) μ1 fun Γ2 μ => EvT (W.plus A) tt Γ2 μ fun b μ => b = t x ∧ μ = μ1 ∧ (b = true → EvG (W.plus A) te Γ2 μ fun y μ => y = f x ∧ μ = μ1)) ∧ k (.lst ((ds.filter t).map f)) μ1)
    (hw : ∀ v σ H Q, g v (L2.wipe σ vs) H Q → g v (L2.wipe σ vs) H fun σ2 H2 => L2.wipe σ2 vs = L2.wipe σ vs ∧ Q σ2 H2) : EvG W (tLc wi g tt te vs) Γ μ k := by
  refine eg_lc (h.imp fun ds μ1 ⟨h0, h1, h2⟩ => ⟨h0, fun i out μ => out = ((ds.take i).filter t).map f ∧ μ = μ1, ⟨rfl, rfl⟩, fun i x out μ e p A => ?_, fun out μ p => ?_⟩) hw
  · intro v σ H Q he hI r c
    obtain ⟨p1, p2⟩ := p
    subst p2
    refine h1 x (List.mem_of_getElem? e) A v σ H Q he hI r fun σ' H' Γ' μ' a b e' q => c σ' H' Γ' μ' a b e' ?_
    refine q.imp fun b μ ⟨eb, em, q⟩ => ⟨fun hb => (q hb).imp fun y μ ey => ?_, fun hb => ?_⟩
    · have : t x = true := by rw [← eb]; exact hb
      refine ⟨?_, ey.2⟩
      rw [filt_take e, this, List.map_append, p1, ey.1]
      rfl
    · have : t x = false := by rw [← eb]; exact hb
      refine ⟨?_, em⟩
      rw [filt_take e, this, p1]
      simp
  · obtain ⟨p1, p2⟩ := p
    subst p2
    rw [List.take_length] at p1
    rw [p1]
    exact h2
end
end DL

namespace DL
open PySem PySem.Spec PyProof.Rows L2 GxR GX
section
variable {P : Program} {w : World} {K : PySem.W.Frag} {mg : Str → Option Value} {base : Heap} {tabs : List Addr}
/-- is_number on what may be no number -/
def isInt : D → Option Int
  | .int i => some i
  | _ => none
def okT (d : D) : Bool := (tyD d).isSome
def numB (v : D) (a b : Int) : Bool := match isInt v with
  | some i => decide (a ≤ i) && decide (i ≤ b)
  | none => false
def kNum (v l m : D) (post : D → Prop) : Prop := ∃ a b : Int, okT v = true ∧ l = .int a ∧ m = .int b ∧ post (.bl (numB v a b))
/-- is_ratio of what may be no ratio -/
def kIsRatio (v : D) (post : D → Prop) : Prop := ∃ b, okD b v ∧ post (.bl (isRatB v))
def plainInt : D → Bool
  | .int _ => true
  | _ => false
theorem ratB_len {ds : List D} (h : ds.length ≠ 2) : isRatB (.tup ds) = false := by
  unfold isRatB
  split
  · rename_i e
    cases e
    exact absurd rfl h
  · rfl
theorem ratB_kind {a b : D} (h : ([a, b] : List D).all plainInt = false) : isRatB (.tup [a, b]) = false := by
  unfold isRatB
  split
  · rename_i e
    cases e
    cases h
  · rfl
theorem plain_two {a b : D} (h : ([a, b] : List D).all plainInt = true) : ∃ p q : Int, a = .int p ∧ b = .int q := by
  cases a with
  | int p =>
    cases b with
    | int q => exact ⟨p, q, rfl, rfl⟩
    | _ => cases h
  | _ => cases h
theorem len_ne2 {n : Nat} : decide ((n : Int) = 2) = decide (n = 2) := decide_eq_decide.mpr (by omega)
/-- what a demand is -/
def demB : D → Bool
  | .tup [e, .tup cs] => numB e 0 1000000000 && (decide (1 ≤ cs.length) && decide (cs.length ≤ 24)) && cs.all (fun c => numB c 1 1000000000) && (match isInt e with
    | some i => decide (i ≤ ((cs.map fun c => (isInt c).getD 0).sum))
    | none => false)
  | _ => false
def kIsDem (v : D) (post : D → Prop) : Prop := ∃ b, okD b v ∧ post (.bl (demB v))
theorem demB_len {ds : List D} (h : ds.length ≠ 2) : demB (.tup ds) = false := by
  unfold demB
  split
  · rename_i e
    cases e
    exact absurd rfl h
  · rfl
theorem num_all {cs : List D} {a b : Int} (h : cs.all (fun c => numB c a b) = true) : ∃ ns : List Int, cs = ns.map .int ∧ ∀ n ∈ ns, a ≤ n ∧ n ≤ b := by
  induction cs with
  | nil => exact ⟨[], rfl, fun _ z => by simp at z⟩
  | cons c r ih =>
    rw [List.all_cons, Bool.and_eq_true] at h
    obtain ⟨ns, e, hn⟩ := ih h.2
    cases c with
    | int i =>
      have h1 := h.1
      unfold numB isInt at h1
      simp only [Bool.and_eq_true, decide_eq_true_eq] at h1
      refine ⟨i :: ns, by rw [e]; rfl, fun n hm => ?_⟩
      rcases List.mem_cons.mp hm with rfl | hm
      · exact h1
      · exact hn n hm
    | _ => cases h.1
theorem getD_ints (ns : List Int) : (ns.map D.int).map (fun c => (isInt c).getD 0) = ns := by
  induction ns with
  | nil => rfl
  | cons n r ih => rw [List.map_cons, List.map_cons, ih]; rfl
def kSumOf (v : D) (post : D → Prop) : Prop := ∃ (rs : List Rat) (n : Nat), v = .tup (rs.map dR) ∧ (∀ r ∈ rs, Rb n r) ∧ (n + 1) * rs.length + 2 ≤ 8000 ∧ post (dR (sumR rs))
abbrev dDem (e : Int) (cs : List Int) : D := .tup [.int e, .tup (cs.map .int)]
def fit1 (c : Int) (r : Rat) : Bool := decide (0 ≤ r) && !decide ((c : Rat) < r)
def fitB : List Int → List Rat → Bool
  | c :: cs, r :: rs => fit1 c r && fitB cs rs
  | _, _ => true
/-- what a division is -/
def divB (e : Int) (cs : List Int) : D → Bool
  | .tup ds => decide (ds.length = cs.length) && ds.all isRatB && fitB cs (ds.map toR) && decide (sumR (ds.map toR) = (e : Rat))
  | _ => false
def CsOk (cs : List Int) : Prop := cs.length ≤ 24 ∧ ∀ c ∈ cs, 0 < c ∧ c < 1099511627776
def kIsDiv (dem v : D) (post : D → Prop) : Prop := ∃ (e : Int) (cs : List Int) (b : Nat), dem = dDem e cs ∧ CsOk cs ∧ okD b v ∧ b ≤ 300 ∧ post (.bl (divB e cs v))
theorem rat_all {ds : List D} (h : ds.all isRatB = true) : ds = (ds.map toR).map dR := by
  induction ds with
  | nil => rfl
  | cons d r ih =>
    rw [List.all_cons, Bool.and_eq_true] at h
    rw [List.map_cons, List.map_cons, ← ih h.2, ← dR_of h.1]
theorem fit_true : ∀ {cs : List Int} {rs : List Rat}, (∀ (i : Nat) (c : Int) (r : Rat), cs[i]? = some c → rs[i]? = some r → fit1 c r = true) → fitB cs rs = true
  | c :: cs, r :: rs, h => by
    unfold fitB
    rw [h 0 c r rfl rfl, fit_true fun i c r a b => h (i + 1) c r (by simpa using a) (by simpa using b)]
    rfl
  | [], _, _ => by unfold fitB; rfl
  | _ :: _, [], _ => by unfold fitB; rfl
theorem fit_at : ∀ {cs : List Int} {rs : List Rat} {i : Nat} {c : Int} {r : Rat}, fitB cs rs = true → cs[i]? = some c → rs[i]? = some r → fit1 c r = true
  | c :: cs, r :: rs, 0, c', r', h, a, b => by
    unfold fitB at h
    rw [Bool.and_eq_true] at h
    simp at a b
    subst a b
    exact h.1
  | c :: cs, r :: rs, i + 1, c', r', h, a, b => by
    unfold fitB at h
    rw [Bool.and_eq_true] at h
    exact fit_at (i := i) h.2 (by simpa using a) (by simpa using b)
  | [], _, _, _, _, _, a, _ => by simp at a
  | _ :: _, [], _, _, _, _, _, b => by simp at b
def fitD : D → Bool
  | .tup [p, .int c] => fit1 c (toR p)
  | _ => false
theorem fit_zip : ∀ (cs : List Int) (ds : List D), (zipD ds (cs.map .int)).all fitD = fitB cs (ds.map toR)
  | [], [] => rfl
  | [], _ :: _ => rfl
  | _ :: _, [] => rfl
  | c :: cs, d :: ds => by
    rw [List.map_cons, List.map_cons]
    unfold zipD fitB
    rw [List.all_cons, fit_zip cs ds]
    rfl
theorem num_nn {y : Rat} : decide (0 ≤ y.num) = decide (0 ≤ y) := decide_eq_decide.mpr (by
  rw [Rat.le_iff]
  simp)
theorem num_neg {y : Rat} : decide (y.num < 0) = decide (y < 0) := decide_eq_decide.mpr (by
  rw [Rat.lt_iff]
  simp)
theorem fit1_eq {c : Int} {r : Rat} : fit1 c r = (decide (0 ≤ r) && !decide ((c : Rat) < r)) := rfl
/-- what the first gets of x by a rule -/
def two1 (ru : Str) (x c d : Rat) : Rat :=
  if ru = "shares" then x * c / (c + d)
  else if ru = "gains" then (let l := if x / 2 < c then x / 2 else c; if l < x - d then x - d else l)
  else if ru = "losses" then (let k := c - (c + d - x) / 2; let l := if k < 0 then 0 else k; if l < x then l else x)
  else (let own := if 0 < x - d then x - d else 0; let other := if 0 < x - c then x - c else 0; own + (x - (own + other)) / 2)
def kTwo (ru e c d : D) (post : D → Prop) : Prop := ∃ (r : Str) (x : Rat) (a b : Int) (n : Nat), ru = .str r ∧ e = dR x ∧ c = .int a ∧ d = .int b ∧ Rb n x ∧ 40 ≤ n ∧ n ≤ 1000 ∧ 0 < a ∧ a < 1099511627776 ∧ 0 < b ∧ b < 1099511627776 ∧
  post (.tup [dR (two1 r x a b), dR (x - two1 r x a b)])
theorem small40 {a : Int} (h : 0 < a) (h2 : a < 1099511627776) : a.natAbs < 2 ^ 40 := by
  have : (2 : Nat) ^ 40 = 1099511627776 := by decide
  omega
theorem small41 {a b : Int} (h : 0 < a) (h2 : a < 1099511627776) (h3 : 0 < b) (h4 : b < 1099511627776) : (a + b).natAbs < 2 ^ 41 := by
  have : (2 : Nat) ^ 41 = 2199023255552 := by decide
  omega
theorem rat_share (x : Rat) (c d : Int) : ((x.num * c : Int) : Rat) / (((x.den : Int) * (c + d) : Int) : Rat) = x * c / (c + d) := by
  have a := den_ne x
  have e1 := rat_nd x
  rw [Rat.intCast_mul, Rat.intCast_mul, Rat.intCast_add]
  generalize ((x.den : Int) : Rat) = p at *
  generalize (x.num : Rat) = u at *
  generalize (c : Rat) = c at *
  generalize (d : Rat) = d at *
  by_cases h : c + d = 0
  · rw [h]; grind
  · grind
theorem Rb_ite {p : Prop} [Decidable p] {n : Nat} {x y : Rat} (h : Rb n x) (g : Rb n y) : Rb n (if p then x else y) := by
  split
  · exact h
  · exact g
theorem ne_of_beq_ff {a b : Str} (h : (a == b) = false) : ¬ a = b := fun z => by
  rw [z] at h
  have : (b == b) = true := by simp
  rw [h] at this
  cases this
theorem two1_s {r : Str} {x c d : Rat} (e1 : (r == ("shares" : Str)) = true) : two1 r x c d = x * c / (c + d) := by
  unfold two1
  rw [if_pos (eq_of_beq e1)]
theorem two1_g {r : Str} {x c d : Rat} (e1 : (r == ("shares" : Str)) = false) (e2 : (r == ("gains" : Str)) = true) : two1 r x c d = (if (if x / 2 < c then x / 2 else c) < x - d then x - d else (if x / 2 < c then x / 2 else c)) := by
  unfold two1
  rw [if_neg (ne_of_beq_ff e1), if_pos (eq_of_beq e2)]
theorem two1_l {r : Str} {x c d : Rat} (e1 : (r == ("shares" : Str)) = false) (e2 : (r == ("gains" : Str)) = false) (e3 : (r == ("losses" : Str)) = true) : two1 r x c d = (if (if c - (c + d - x) / 2 < 0 then 0 else c - (c + d - x) / 2) < x then (if c - (c + d - x) / 2 < 0 then 0 else c - (c + d - x) / 2) else x) := by
  unfold two1
  rw [if_neg (ne_of_beq_ff e1), if_neg (ne_of_beq_ff e2), if_pos (eq_of_beq e3)]
theorem two1_x {r : Str} {x c d : Rat} (e1 : (r == ("shares" : Str)) = false) (e2 : (r == ("gains" : Str)) = false) (e3 : (r == ("losses" : Str)) = false) : two1 r x c d = (if 0 < x - d then x - d else 0) + (x - ((if 0 < x - d then x - d else 0) + (if 0 < x - c then x - c else 0))) / 2 := by
  unfold two1
  rw [if_neg (ne_of_beq_ff e1), if_neg (ne_of_beq_ff e2), if_neg (ne_of_beq_ff e3)]
/-- what the first gets of x by the words of the rule -/
def fst1 (ru : Str) (x c d : Rat) : Rat :=
  if ru = "shares" then x * c / (c + d)
  else if ru = "gains" then (if c < x / 2 then c else if d < x / 2 then x - d else x / 2)
  else if ru = "losses" then (if c < (c + d - x) / 2 then 0 else if d < (c + d - x) / 2 then x else c - (c + d - x) / 2)
  else (if 0 < x - d then x - d else 0) + (x - (if 0 < x - d then x - d else 0) - (if 0 < x - c then x - c else 0)) / 2
def kFirst (ru e c d : D) (post : D → Prop) : Prop := ∃ (r : Str) (x : Rat) (a b : Int) (n : Nat), ru = .str r ∧ e = dR x ∧ c = .int a ∧ d = .int b ∧ Rb n x ∧ 40 ≤ n ∧ n ≤ 1000 ∧ 0 < a ∧ a < 1099511627776 ∧ 0 < b ∧ b < 1099511627776 ∧ post (dR (fst1 r x a b))
theorem fst1_s {r : Str} {x c d : Rat} (e1 : (r == ("shares" : Str)) = true) : fst1 r x c d = x * c / (c + d) := by
  unfold fst1
  rw [if_pos (eq_of_beq e1)]
theorem fst1_g {r : Str} {x c d : Rat} (e1 : (r == ("shares" : Str)) = false) (e2 : (r == ("gains" : Str)) = true) : fst1 r x c d = (if c < x / 2 then c else if d < x / 2 then x - d else x / 2) := by
  unfold fst1
  rw [if_neg (ne_of_beq_ff e1), if_pos (eq_of_beq e2)]
theorem fst1_l {r : Str} {x c d : Rat} (e1 : (r == ("shares" : Str)) = false) (e2 : (r == ("gains" : Str)) = false) (e3 : (r == ("losses" : Str)) = true) : fst1 r x c d = (if c < (c + d - x) / 2 then 0 else if d < (c + d - x) / 2 then x else c - (c + d - x) / 2) := by
  unfold fst1
  rw [if_neg (ne_of_beq_ff e1), if_neg (ne_of_beq_ff e2), if_pos (eq_of_beq e3)]
theorem fst1_x {r : Str} {x c d : Rat} (e1 : (r == ("shares" : Str)) = false) (e2 : (r == ("gains" : Str)) = false) (e3 : (r == ("losses" : Str)) = false) : fst1 r x c d = (if 0 < x - d then x - d else 0) + (x - (if 0 < x - d then x - d else 0) - (if 0 < x - c then x - c else 0)) / 2 := by
  unfold fst1
  rw [if_neg (ne_of_beq_ff e1), if_neg (ne_of_beq_ff e2), if_neg (ne_of_beq_ff e3)]
theorem num_pos {y : Rat} : decide (0 < y.num) = decide (0 < y) := decide_eq_decide.mpr (by
  rw [Rat.lt_iff]
  simp)
/-- what a claim gets at a level; none: all of it -/
def lvOf (l : Option Rat) (c : Int) : Rat := match l with
  | none => (c : Rat)
  | some l => if (c : Rat) < l then (c : Rat) else l
/-- what level_gains returns -/
structure LvSpec (E : Int) (cs : List Int) (parts : List Rat) : Prop where
  lev : ∃ l, parts = cs.map (lvOf l)
  sum : sumR parts = (E : Rat)
  rb : ∀ p ∈ parts, Rb 50 p
def kLevel (e caps : D) (post : D → Prop) : Prop := ∃ (E : Int) (cs : List Int), e = .int E ∧ caps = .tup (cs.map .int) ∧ CsOk cs ∧ 0 ≤ E ∧ E ≤ cs.sum ∧ ∀ parts, LvSpec E cs parts → post (.lst (parts.map dR))
theorem sumR_perm {a b : List Rat} (h : a.Perm b) : sumR a = sumR b := by
  induction h with
  | nil => rfl
  | cons x _ ih => simp [sumR, ih]
  | swap x y l => simp [sumR]; grind
  | trans _ _ h1 h2 => rw [h1, h2]
theorem sumR_int (cs : List Int) : sumR (cs.map fun c => ((c : Int) : Rat)) = ((cs.sum : Int) : Rat) := by
  induction cs with
  | nil => rfl
  | cons c r ih => rw [List.map_cons, List.sum_cons, Rat.intCast_add]; simp only [sumR]; rw [ih]
theorem sumR_const (l : Rat) (cs : List Int) : sumR (cs.map fun _ => l) = (cs.length : Rat) * l := by
  induction cs with
  | nil => simp [sumR]
  | cons c r ih =>
    rw [List.map_cons, List.length_cons]
    simp only [sumR]
    rw [ih]
    push_cast
    grind
theorem sum_le (n : Int) (hn : 0 ≤ n) {cs : List Int} (h : ∀ c ∈ cs, c ≤ n) : cs.sum ≤ n * cs.length := by
  induction cs with
  | nil => simp
  | cons c r ih =>
    have h1 := ih fun x hx => h x (List.mem_cons_of_mem _ hx)
    have h2 := h c List.mem_cons_self
    rw [List.sum_cons, List.length_cons]
    push_cast
    rw [Int.mul_add]
    omega
theorem sum_pos {cs : List Int} (h : ∀ c ∈ cs, 0 < c) : 0 ≤ cs.sum := by
  induction cs with
  | nil => simp
  | cons c r ih =>
    have h1 := ih fun x hx => h x (List.mem_cons_of_mem _ hx)
    have h2 := h c List.mem_cons_self
    rw [List.sum_cons]
    omega
/-- where a level is found: what is popped lies at most at it, what is left above it -/
theorem level_ok {E left : Int} {cs P oc : List Int} (hp : (P ++ oc).Perm cs) (hl : left = E - P.sum) (hP : ∀ p ∈ P, p * oc.length ≤ left) (ho : ∀ c ∈ oc, left < c * oc.length) (hn : oc ≠ []) :
    sumR (cs.map (lvOf (some ((left : Rat) / ((oc.length : Int) : Rat))))) = (E : Rat) := by
  have hlen : 0 < oc.length := List.length_pos_iff.mpr hn
  have hq : (0 : Rat) < ((oc.length : Int) : Rat) := by exact_mod_cast hlen
  generalize hL : (left : Rat) / ((oc.length : Int) : Rat) = l
  have hl1 : l * ((oc.length : Int) : Rat) = (left : Rat) := by rw [← hL]; grind
  rw [← sumR_perm (hp.map (lvOf (some l))), List.map_append, sumR_app]
  have h1 : P.map (lvOf (some l)) = P.map fun c => ((c : Int) : Rat) := by
    refine List.map_congr_left fun c hc => ?_
    have : c * (oc.length : Int) ≤ left := hP c hc
    have h2 : ((c * (oc.length : Int) : Int) : Rat) ≤ ((left : Int) : Rat) := by exact_mod_cast this
    rw [Rat.intCast_mul, ← hl1] at h2
    show (if (c : Rat) < l then (c : Rat) else l) = (c : Rat)
    by_cases h3 : (c : Rat) < l
    · rw [if_pos h3]
    · rw [if_neg h3]
      have h4 : (c : Rat) ≤ l := Rat.le_of_mul_le_mul_right h2 hq
      exact Rat.le_antisymm (Rat.not_lt.mp h3) h4
  have h2 : oc.map (lvOf (some l)) = oc.map fun _ => l := by
    refine List.map_congr_left fun c hc => ?_
    have : left < c * (oc.length : Int) := ho c hc
    have h2 : ((left : Int) : Rat) < ((c * (oc.length : Int) : Int) : Rat) := by exact_mod_cast this
    rw [Rat.intCast_mul, ← hl1] at h2
    show (if (c : Rat) < l then (c : Rat) else l) = l
    have h3 : ¬ (c : Rat) < l := fun h3 => by
      have := Rat.mul_lt_mul_of_pos_right h3 hq
      grind
    rw [if_neg h3]
  rw [h1, h2, sumR_int, sumR_const]
  rw [hl, Rat.intCast_sub] at hl1
  have e : ((oc.length : Nat) : Rat) = ((oc.length : Int) : Rat) := rfl
  rw [e]
  grind
theorem sumI_perm {a b : List Int} (h : a.Perm b) : a.sum = b.sum := by
  induction h with
  | nil => rfl
  | cons x _ ih => simp [ih]
  | swap x y l => simp; omega
  | trans _ _ h1 h2 => rw [h1, h2]
theorem all_out {E left : Int} {cs P : List Int} (hp : P.Perm cs) (hl : left = E - P.sum) (h0 : 0 ≤ left) (hE : E ≤ cs.sum) : sumR (cs.map (lvOf none)) = (E : Rat) := by
  have e : cs.map (lvOf none) = cs.map fun c => ((c : Int) : Rat) := rfl
  have : P.sum = cs.sum := sumI_perm hp
  rw [e, sumR_int]
  have : cs.sum = E := by omega
  rw [this]
theorem lv_rb {l : Option Rat} {cs : List Int} (hcs : CsOk cs) (hl : ∀ x, l = some x → Rb 50 x) : ∀ p ∈ cs.map (lvOf l), Rb 50 p := by
  intro p hp
  obtain ⟨c, hc, rfl⟩ := List.mem_map.mp hp
  have cb := hcs.2 c hc
  have rc : Rb 50 (c : Rat) := (Rb.int (small40 cb.1 cb.2) (by decide) : Rb 40 (c : Rat)).mono (by decide)
  cases l with
  | none => exact rc
  | some x => exact Rb_ite rc (hl x rfl)
def optD : Option Rat → D
  | none => .non
  | some l => dR l
/-- the loop's state -/
structure LvInv (E : Int) (cs : List Int) (left : Int) (oc : List Int) (l : Option Rat) : Prop where
  ex : ∃ P, (P ++ oc).Perm cs ∧ left = E - P.sum ∧ 0 ≤ left ∧ (∀ p ∈ P, ∀ c ∈ oc, p ≤ c) ∧ (∀ p ∈ P, p * oc.length ≤ left) ∧ oc.Pairwise (· ≤ ·)
  lv : ∀ x, l = some x → Rb 50 x ∧ sumR (cs.map (lvOf (some x))) = (E : Rat)
theorem LvInv.pop {E left c : Int} {cs oc : List Int} (hcs : CsOk cs) (h : LvInv E cs left (c :: oc) none) (hc : ¬ left < c * ((c :: oc).length : Int)) : LvInv E cs (left - c) oc none := by
  obtain ⟨P, hp, hl, h0, hle, hP, hs⟩ := h.ex
  have hmem : c ∈ cs := hp.subset (by simp)
  have cp := hcs.2 c hmem
  rw [List.length_cons] at hc
  push_cast at hc
  have e1 : c * ((oc.length : Int) + 1) = c * oc.length + c := by rw [Int.mul_add, Int.mul_one]
  rw [e1] at hc
  have h2 : 0 ≤ c * (oc.length : Int) := Int.mul_nonneg (by omega) (by omega)
  refine ⟨⟨P ++ [c], by simpa using hp, ?_, by omega, fun p hm d hd => ?_, fun p hm => ?_, (List.pairwise_cons.mp hs).2⟩, fun x z => nomatch z⟩
  · rw [List.sum_append]
    simp
    omega
  · rcases List.mem_append.mp hm with hm | hm
    · exact hle p hm d (List.mem_cons_of_mem _ hd)
    · rw [List.mem_singleton] at hm
      rw [hm]
      exact (List.pairwise_cons.mp hs).1 d hd
  · rcases List.mem_append.mp hm with hm | hm
    · have h3 : p ≤ c := hle p hm c List.mem_cons_self
      have h4 : p * (oc.length : Int) ≤ c * oc.length := Int.mul_le_mul_of_nonneg_right h3 (by omega)
      omega
    · rw [List.mem_singleton] at hm
      rw [hm]
      omega
theorem LvInv.found {E left c : Int} {cs oc : List Int} (hcs : CsOk cs) (hE : E ≤ cs.sum) (h : LvInv E cs left (c :: oc) none) (hc : left < c * ((c :: oc).length : Int)) : LvInv E cs left (c :: oc) (some ((left : Rat) / ((((c :: oc).length : Nat) : Int) : Rat))) ∧ left.natAbs < 2 ^ 45 ∧ (((c :: oc).length : Int)).natAbs < 2 ^ 45 := by
  obtain ⟨P, hp, hl, h0, hle, hP, hs⟩ := h.ex
  have hlen := hp.length_eq
  rw [List.length_append] at hlen
  have h24 := hcs.1
  have hsum : cs.sum ≤ 1099511627776 * cs.length := sum_le _ (by decide) fun c hc => Int.le_of_lt (hcs.2 c hc).2
  have hP0 : 0 ≤ P.sum := sum_pos fun p hm => (hcs.2 p (hp.subset (List.mem_append_left _ hm))).1
  have e45 : (2 : Nat) ^ 45 = 35184372088832 := by decide
  have b1 : left.natAbs < 2 ^ 45 := by rw [e45]; omega
  have b2 : (((c :: oc).length : Int)).natAbs < 2 ^ 45 := by rw [e45]; omega
  refine ⟨⟨h.ex, fun x z => ?_⟩, b1, b2⟩
  cases z
  refine ⟨(Rb.div (by rw [List.length_cons]; omega) b1 b2).mono (by decide), ?_⟩
  refine level_ok hp hl hP (fun d hd => ?_) (by simp)
  have h5 : c ≤ d := by
    rcases List.mem_cons.mp hd with rfl | hd
    · exact Int.le_refl _
    · exact (List.pairwise_cons.mp hs).1 d hd
  have h6 : c * ((c :: oc).length : Int) ≤ d * ((c :: oc).length : Int) := Int.mul_le_mul_of_nonneg_right h5 (by omega)
  omega
def subL (f : Rat → Rat) (cs : List Int) (p : List Rat) : List Rat := List.zipWith (fun (c : Int) (x : Rat) => (c : Rat) - f x) cs p
/-- what divided returns -/
def DivSpec (ru : Str) (E : Int) (cs : List Int) (parts : List Rat) : Prop :=
  if (ru == ("shares" : Str)) = true then parts = cs.map fun (c : Int) => (E : Rat) * (c : Rat) / ((cs.sum : Int) : Rat)
  else if (ru == ("gains" : Str)) = true then LvSpec E cs parts
  else if (ru == ("losses" : Str)) = true then ∃ p, LvSpec (cs.sum - E) cs p ∧ parts = subL (fun x => x) cs p
  else if 2 * E ≤ cs.sum then ∃ p, LvSpec (2 * E) cs p ∧ parts = p.map fun x => x / 2
  else ∃ p, LvSpec (2 * (cs.sum - E)) cs p ∧ parts = subL (fun x => x / 2) cs p
def kDivided (dem ru : D) (post : D → Prop) : Prop := ∃ (E : Int) (cs : List Int) (r : Str), dem = dDem E cs ∧ ru = .str r ∧ CsOk cs ∧ cs ≠ [] ∧ 0 ≤ E ∧ E ≤ cs.sum ∧ ∀ parts, DivSpec r E cs parts → post (.tup (parts.map dR))
theorem LvSpec.len {E : Int} {cs : List Int} {p : List Rat} (h : LvSpec E cs p) : p.length = cs.length := by
  obtain ⟨l, e⟩ := h.lev
  rw [e, List.length_map]
def subD (f : Rat → Rat) : D → D
  | .tup [.int c, x] => dR ((c : Rat) - f (toR x))
  | d => d
def shD (E S : Int) : D → D
  | .int c => dR ((E : Rat) * (c : Rat) / (S : Rat))
  | d => d
theorem sub_map (f : Rat → Rat) : ∀ (cs : List Int) (p : List Rat), (zipD (cs.map D.int) (p.map dR)).map (subD f) = (subL f cs p).map dR
  | [], _ => by unfold subL zipD; rfl
  | _ :: _, [] => by unfold subL zipD; rfl
  | c :: cs, x :: p => by
    have ih := sub_map f cs p
    unfold subL at ih ⊢
    rw [List.map_cons, List.map_cons, List.zipWith_cons_cons, List.map_cons, ← ih]
    rw [show zipD (D.int c :: cs.map D.int) (dR x :: p.map dR) = .tup [.int c, dR x] :: zipD (cs.map D.int) (p.map dR) from rfl, List.map_cons]
    show dR ((c : Rat) - f (toR (dR x))) :: _ = _
    rw [toR_dR]
theorem sum_bits {cs : List Int} (h : CsOk cs) : 0 ≤ cs.sum ∧ cs.sum ≤ 26388279066624 := by
  have h1 := sum_le 1099511627776 (by decide) (cs := cs) fun c hc => Int.le_of_lt (h.2 c hc).2
  have h2 := sum_pos (cs := cs) fun c hc => (h.2 c hc).1
  have h3 := h.1
  omega
theorem sum_pos' {cs : List Int} (h : CsOk cs) (hn : cs ≠ []) : 0 < cs.sum := by
  cases cs with
  | nil => exact absurd rfl hn
  | cons c r =>
    have h1 := h.2 c List.mem_cons_self
    have h2 := sum_pos (cs := r) fun c hc => (h.2 c (List.mem_cons_of_mem _ hc)).1
    rw [List.sum_cons]
    omega
/-- the first two for which a look finds it wrong -/
def WrSpec (bad : Nat → Nat → Bool) (n : Nat) (d : D) : Prop := (d = .non ∧ ∀ i j, i < j → j < n → bad i j = false) ∨
  ∃ i j : Nat, d = .tup [.int (i : Int), .int (j : Int)] ∧ i < j ∧ j < n ∧ bad i j = true ∧ ∀ i' j', i' < j' → j' < n → (i' < i ∨ (i' = i ∧ j' < j)) → bad i' j' = false
theorem WrSpec.uniq {bad : Nat → Nat → Bool} {n : Nat} {d d' : D} (h : WrSpec bad n d) (g : WrSpec bad n d') : d = d' := by
  rcases h with ⟨e, h⟩ | ⟨i, j, e, h1, h2, h3, h4⟩ <;> rcases g with ⟨e', g⟩ | ⟨i', j', e', g1, g2, g3, g4⟩
  · rw [e, e']
  · rw [h i' j' g1 g2] at g3; cases g3
  · rw [g i j h1 h2] at h3; cases h3
  · have a : ¬ (i' < i ∨ (i' = i ∧ j' < j)) := fun z => by rw [h4 i' j' g1 g2 z] at g3; cases g3
    have b : ¬ (i < i' ∨ (i = i' ∧ j < j')) := fun z => by rw [g4 i j h1 h2 z] at h3; cases h3
    have ei : i = i' := by omega
    have ej : j = j' := by omega
    rw [e, e', ei, ej]
def badF (ru : Str) (cs : List Int) (rs : List Rat) (i j : Nat) : Bool := match cs[i]?, cs[j]?, rs[i]?, rs[j]? with
  | some c, some d, some r, some s => !decide (fst1 ru (r + s) c d = r)
  | _, _, _, _ => false
theorem badF_at {ru : Str} {cs : List Int} {rs : List Rat} {i j : Nat} {c d : Int} {r s : Rat} (a : cs[i]? = some c) (b : cs[j]? = some d) (e : rs[i]? = some r) (f : rs[j]? = some s) : badF ru cs rs i j = !decide (fst1 ru (r + s) c d = r) := by
  unfold badF
  rw [a, b, e, f]
def kWrong2 (dem ru v : D) (post : D → Prop) : Prop := ∃ (e : Int) (cs : List Int) (r : Str) (rs : List Rat) (n : Nat), dem = dDem e cs ∧ ru = .str r ∧ v = .tup (rs.map dR) ∧ CsOk cs ∧ rs.length = cs.length ∧ (∀ r ∈ rs, Rb n r) ∧ 40 ≤ n ∧ n ≤ 400 ∧ fitB cs rs = true ∧ ∀ d, WrSpec (badF r cs rs) cs.length d → post d
def kWrongL (cl ru v : D) (post : D → Prop) : Prop := ∃ (bl : Bool) (cs : List Int) (r : Str) (rs : List Rat) (n : Nat), cl = seqD bl (cs.map .int) ∧ ru = .str r ∧ v = .tup (rs.map dR) ∧ CsOk cs ∧ rs.length = cs.length ∧ (∀ r ∈ rs, Rb n r) ∧ 40 ≤ n ∧ n ≤ 400 ∧ ∀ d, WrSpec (badF r cs rs) cs.length d → post d
theorem two1_eq {r : Str} {x c d : Rat} (h0 : 0 ≤ x) (h1 : x ≤ c + d) (hc : 0 < c) (hd : 0 < d) : two1 r x c d = fst1 r x c d := by
  unfold two1 fst1
  by_cases e1 : r = ("shares" : Str)
  · rw [if_pos e1, if_pos e1]
  · rw [if_neg e1, if_neg e1]
    by_cases e2 : r = ("gains" : Str)
    · rw [if_pos e2, if_pos e2]
      grind
    · rw [if_neg e2, if_neg e2]
      by_cases e3 : r = ("losses" : Str)
      · rw [if_pos e3, if_pos e3]
        grind
      · rw [if_neg e3, if_neg e3]
        grind
theorem fit1_of {c : Int} {r : Rat} (h : fit1 c r = true) : 0 ≤ r ∧ r ≤ (c : Rat) := by
  unfold fit1 at h
  rw [Bool.and_eq_true, Bool.not_eq_true', decide_eq_true_eq, decide_eq_false_iff_not] at h
  exact ⟨h.1, Rat.not_lt.mp h.2⟩
theorem eq_two {t x r s : Rat} (h : x = r + s) : eqD (.tup [dR t, dR (x - t)]) (.tup [dR r, dR s]) = decide (t = r) := by
  show (eqD (dR t) (dR r) && (eqD (dR (x - t)) (dR s) && true)) = _
  rw [eqD_dR, eqD_dR, Bool.and_true, h]
  by_cases e : t = r
  · rw [decide_eq_true e, e, decide_eq_true (by grind)]; rfl
  · rw [decide_eq_false e]; rfl
theorem ext_new {H : Hp} {p : Addr} {o : HO} (h : H p = none) : Ext F0 H (upd H p o) := .new h
def kLoad (post : D → Prop) : Prop := ∀ x : Int, post (.int x)
def kDraw (many : D) (post : D → Prop) : Prop := ∃ m : Int, many = .int m ∧ 0 < m ∧ m.natAbs.log2 < 9000 ∧ ∀ j : Int, 0 ≤ j → j < m → post (.int j)
mutual
/-- how deep tuples lie -/
def dep : Nat → D → Bool
  | n + 1, .tup ds => decide (ds.length ≤ 100) && depAll n ds
  | _, .int _ => true
  | _, .bl _ => true
  | _, .str _ => true
  | _, .non => true
  | _, _ => false
def depAll : Nat → List D → Bool
  | _, [] => true
  | n, d :: r => dep n d && depAll n r
end
theorem depAll_at {n : Nat} {ds : List D} (h : depAll n ds = true) {i : Nat} {d : D} (e : ds[i]? = some d) : dep n d = true := by
  induction ds generalizing i with
  | nil => simp at e
  | cons x r ih =>
    unfold depAll at h
    rw [Bool.and_eq_true] at h
    cases i with
    | zero => simp at e; subst e; exact h.1
    | succ i => exact ih h.2 (by simpa using e)
def kSame (n : Nat) (a b : D) (post : D → Prop) : Prop := a = b ∧ dep n a = true ∧ post (.bl true)
theorem map_true {α : Type} (xs : List α) : xs.map (fun _ => D.bl true) = (List.replicate xs.length true).map D.bl := by
  induction xs with
  | nil => rfl
  | cons _ r ih => rw [List.map_cons, ih]; rfl
mutual
/-- what may be bent: ints, tuples of such, n deep -/
def ben (b : Nat) : Nat → D → Prop
  | n + 1, .tup ds => ds.length ≤ 40 ∧ benAll b n ds
  | _, .int i => i.natAbs < 2 ^ b
  | _, _ => False
def benAll (b : Nat) : Nat → List D → Prop
  | _, [] => True
  | n, d :: r => ben b n d ∧ benAll b n r
end
theorem benAll_iff {b n : Nat} {ds : List D} : benAll b n ds ↔ ∀ d ∈ ds, ben b n d := by
  induction ds with
  | nil => simp [benAll]
  | cons d r ih => simp [benAll, ih]
theorem ben_int {b n : Nat} {i : Int} (h : ben b n (.int i)) : i.natAbs < 2 ^ b := by
  cases n <;> simpa [ben] using h
theorem ben_tup {b n : Nat} {ds : List D} (h : ben b n (.tup ds)) : ∃ m, n = m + 1 ∧ ds.length ≤ 40 ∧ ∀ d ∈ ds, ben b m d := by
  cases n with
  | zero => simp [ben] at h
  | succ m =>
    have h' : ds.length ≤ 40 ∧ benAll b m ds := by simpa [ben] using h
    exact ⟨m, rfl, h'.1, benAll_iff.mp h'.2⟩
theorem okT_of {b : Nat} {ds : List D} (hl : ds.length ≤ 100) (h : ∀ d ∈ ds, okD b d) : okD b (.tup ds) := by
  unfold okD
  exact ⟨hl, okAll_iff.mpr h⟩
theorem okL_of {b : Nat} {ds : List D} (hl : ds.length ≤ 100) (h : ∀ d ∈ ds, okD b d) : okD b (.lst ds) := by
  unfold okD
  exact ⟨hl, okAll_iff.mpr h⟩
theorem okI_of {b : Nat} {i : Int} (h : i.natAbs < 2 ^ b) : okD b (.int i) := by
  unfold okD
  exact h
theorem ben_ok {b c : Nat} (hc : b ≤ c) : ∀ (n : Nat) (d : D), ben b n d → okD c d
  | n, .int i, h => okI_of (Nat.lt_of_lt_of_le (ben_int h) (Nat.pow_le_pow_right (by decide) hc))
  | 0, .tup ds, h => by simp [ben] at h
  | n + 1, .tup ds, h => by
    obtain ⟨m, e, hl, ha⟩ := ben_tup h
    have e' : n = m := by omega
    subst e'
    exact okT_of (by omega) fun d hd => ben_ok hc n d (ha d hd)
  | n, .non, h => by cases n <;> simp [ben] at h
  | n, .bl _, h => by cases n <;> simp [ben] at h
  | n, .str _, h => by cases n <;> simp [ben] at h
  | n, .lst _, h => by cases n <;> simp [ben] at h
  | n, .adr _, h => by cases n <;> simp [ben] at h
  | n, .ty _, h => by cases n <;> simp [ben] at h
def kBent (n : Nat) (v : D) (post : D → Prop) : Prop := ∃ b, 11 ≤ b ∧ b ≤ 1000 ∧ ben b n v ∧ ∀ d, okD (b + 1) d → post d
theorem mem_cut {ds : List D} {lo hi : Option Int} {d : D} (h : d ∈ cutD ds lo hi) : d ∈ ds := by
  unfold cutD at h
  exact List.mem_of_mem_drop (List.mem_of_mem_take h)
theorem len_cut {ds : List D} {lo hi : Option Int} : (cutD ds lo hi).length ≤ ds.length := by
  unfold cutD
  rw [List.length_take, List.length_drop]
  omega
theorem log2_le {x : Nat} (h : x ≤ 1000) : x.log2 < 9000 := log2_lt (n := 10) (m := 9000) (by omega) (by decide) (by decide)
theorem okAt {b : Nat} {ds : List D} (h : ∀ d ∈ ds, okD b d) {i : Int} {d : D} (e : atI ds i = some d) : okD b d := by
  unfold atI at e
  cases q : ixN ds.length i with
  | none => rw [q] at e; cases e
  | some j =>
    rw [q] at e
    exact h d (List.mem_of_getElem? e)
theorem abs_if (x : Int) : (if x < 0 then -x else x) = (x.natAbs : Int) := by
  split <;> omega
abbrev dDemS (bl : Bool) (e : Int) (cs : List Int) : D := .tup [.int e, seqD bl (cs.map .int)]
def kIsDivL (dem v : D) (post : D → Prop) : Prop := ∃ (e : Int) (cs : List Int) (b : Nat) (bl : Bool), dem = dDemS bl e cs ∧ CsOk cs ∧ okD b v ∧ b ≤ 300 ∧ post (.bl (divB e cs v))
/-! ### divisions are right -/
theorem lv_two (l : Option Rat) (c d : Int) : lvOf l c ≤ (c : Rat) ∧ lvOf l d ≤ (d : Rat) ∧ (lvOf l c = (c : Rat) ∨ lvOf l d ≤ lvOf l c) ∧ (lvOf l d = (d : Rat) ∨ lvOf l c ≤ lvOf l d) := by
  cases l with
  | none => exact ⟨Rat.le_refl, Rat.le_refl, .inl rfl, .inl rfl⟩
  | some x =>
    show (if (c : Rat) < x then (c : Rat) else x) ≤ (c : Rat) ∧ (if (d : Rat) < x then (d : Rat) else x) ≤ (d : Rat) ∧ ((if (c : Rat) < x then (c : Rat) else x) = (c : Rat) ∨ (if (d : Rat) < x then (d : Rat) else x) ≤ (if (c : Rat) < x then (c : Rat) else x)) ∧ ((if (d : Rat) < x then (d : Rat) else x) = (d : Rat) ∨ (if (c : Rat) < x then (c : Rat) else x) ≤ (if (d : Rat) < x then (d : Rat) else x))
    generalize (c : Rat) = c
    generalize (d : Rat) = d
    grind
theorem lv_nn {E : Int} {cs : List Int} {p : List Rat} (h : LvSpec E cs p) (hE : 0 ≤ E) (hc : ∀ c ∈ cs, 0 < c) : ∀ x ∈ p, 0 ≤ x := by
  obtain ⟨l, rfl⟩ := h.lev
  intro x hx
  obtain ⟨c, hcm, rfl⟩ := List.mem_map.mp hx
  have c0 : (0 : Rat) < (c : Rat) := by exact_mod_cast hc c hcm
  cases l with
  | none => exact Rat.le_of_lt c0
  | some x =>
    show 0 ≤ if (c : Rat) < x then (c : Rat) else x
    by_cases hx0 : 0 ≤ x
    · split
      · exact Rat.le_of_lt c0
      · exact hx0
    · exfalso
      have e : cs.map (lvOf (some x)) = cs.map fun _ => x := by
        refine List.map_congr_left fun d hd => ?_
        have d0 : (0 : Rat) < (d : Rat) := by exact_mod_cast hc d hd
        show (if (d : Rat) < x then (d : Rat) else x) = x
        rw [if_neg (by grind)]
      have hs := h.sum
      rw [e, sumR_const] at hs
      have hn : (0 : Rat) < (cs.length : Rat) := by
        have : 0 < cs.length := List.length_pos_of_mem hcm
        exact_mod_cast this
      have hE' : (0 : Rat) ≤ (E : Rat) := by exact_mod_cast hE
      have := Rat.mul_lt_mul_of_pos_left (show x < 0 by grind) hn
      grind
theorem two_gains {a b c d : Rat} (h1 : a ≤ c) (h2 : b ≤ d) (h3 : a = c ∨ b ≤ a) (h4 : b = d ∨ a ≤ b) : (if c < (a + b) / 2 then c else if d < (a + b) / 2 then a + b - d else (a + b) / 2) = a := by grind
theorem two_losses {a b c d : Rat} (h1 : a ≤ c) (h2 : b ≤ d) (h3 : a = c ∨ b ≤ a) (h4 : b = d ∨ a ≤ b) : (if c < (c + d - (c - a + (d - b))) / 2 then 0 else if d < (c + d - (c - a + (d - b))) / 2 then c - a + (d - b) else c - (c + d - (c - a + (d - b))) / 2) = c - a := by grind
theorem two_low {a b c d : Rat} (h0 : 0 ≤ a) (h0' : 0 ≤ b) (h1 : a ≤ c) (h2 : b ≤ d) (h3 : a = c ∨ b ≤ a) (h4 : b = d ∨ a ≤ b) : (if 0 < a / 2 + b / 2 - d then a / 2 + b / 2 - d else 0) + (a / 2 + b / 2 - (if 0 < a / 2 + b / 2 - d then a / 2 + b / 2 - d else 0) - (if 0 < a / 2 + b / 2 - c then a / 2 + b / 2 - c else 0)) / 2 = a / 2 := by grind
theorem two_high {a b c d : Rat} (h0 : 0 ≤ a) (h0' : 0 ≤ b) (h1 : a ≤ c) (h2 : b ≤ d) (h3 : a = c ∨ b ≤ a) (h4 : b = d ∨ a ≤ b) : (if 0 < c - a / 2 + (d - b / 2) - d then c - a / 2 + (d - b / 2) - d else 0) + (c - a / 2 + (d - b / 2) - (if 0 < c - a / 2 + (d - b / 2) - d then c - a / 2 + (d - b / 2) - d else 0) - (if 0 < c - a / 2 + (d - b / 2) - c then c - a / 2 + (d - b / 2) - c else 0)) / 2 = c - a / 2 := by grind
theorem two_shares {E S c d : Rat} (hS : 0 < S) (hc : 0 < c) (hd : 0 < d) : (E * c / S + E * d / S) * c / (c + d) = E * c / S := by
  have h1 : c + d ≠ 0 := by grind
  have h2 : S ≠ 0 := by grind
  grind
theorem sumR_sub (f : Rat → Rat) : ∀ {cs : List Int} {p : List Rat}, p.length = cs.length → sumR (subL f cs p) = ((cs.sum : Int) : Rat) - sumR (p.map f)
  | [], [], _ => by simp [subL, sumR]; grind
  | c :: cs, x :: p, h => by
    have ih := sumR_sub f (cs := cs) (p := p) (by simpa using h)
    unfold subL at ih ⊢
    rw [List.zipWith_cons_cons, List.map_cons, List.sum_cons, Rat.intCast_add]
    simp only [sumR]
    rw [ih]
    grind
  | [], _ :: _, h => by simp at h
  | _ :: _, [], h => by simp at h
theorem sumR_half : ∀ (p : List Rat), sumR (p.map fun x => x / 2) = sumR p / 2
  | [] => by simp [sumR]; grind
  | x :: p => by
    rw [List.map_cons]
    simp only [sumR]
    rw [sumR_half p]
    grind
theorem div_nn {a S : Rat} (ha : 0 ≤ a) (hS : 0 < S) : 0 ≤ a / S := by
  have h1 : a / S * S = a := by grind
  refine Rat.le_of_mul_le_mul_right (c := S) ?_ hS
  rw [h1]
  grind
theorem div_le {a c S : Rat} (ha : a ≤ c * S) (hS : 0 < S) : a / S ≤ c := by
  have h1 : a / S * S = a := by grind
  refine Rat.le_of_mul_le_mul_right (c := S) ?_ hS
  rw [h1]
  exact ha
theorem sumR_share (E S : Rat) : ∀ (cs : List Int), sumR (cs.map fun (c : Int) => E * (c : Rat) / S) = E * ((cs.sum : Int) : Rat) / S
  | [] => by simp [sumR]; grind
  | c :: cs => by
    rw [List.map_cons, List.sum_cons, Rat.intCast_add]
    simp only [sumR]
    rw [sumR_share E S cs]
    grind
theorem subL_at {f : Rat → Rat} {cs : List Int} {p : List Rat} {i : Nat} {c : Int} {x : Rat} (a : cs[i]? = some c) (b : p[i]? = some x) : (subL f cs p)[i]? = some ((c : Rat) - f x) := by
  unfold subL
  rw [List.getElem?_zipWith, a, b]
theorem subL_len {f : Rat → Rat} {cs : List Int} {p : List Rat} (h : p.length = cs.length) : (subL f cs p).length = cs.length := by
  unfold subL
  rw [List.length_zipWith]
  omega
/-- what is known of each place of a division by divided -/
structure DivAt (r : Str) (cs : List Int) (parts : List Rat) : Prop where
  len : parts.length = cs.length
  fit : ∀ (i : Nat) (c : Int) (x : Rat), cs[i]? = some c → parts[i]? = some x → 0 ≤ x ∧ x ≤ (c : Rat) ∧ Rb 140 x
  two : ∀ (i j : Nat) (c d : Int) (x y : Rat), cs[i]? = some c → cs[j]? = some d → parts[i]? = some x → parts[j]? = some y → fst1 r (x + y) c d = x
theorem lv_at {E : Int} {cs : List Int} {p : List Rat} (h : LvSpec E cs p) (hE : 0 ≤ E) (hc : ∀ c ∈ cs, 0 < c) : ∃ l, p = cs.map (lvOf l) ∧ ∀ (i : Nat) (c : Int), cs[i]? = some c → p[i]? = some (lvOf l c) ∧ 0 ≤ lvOf l c ∧ lvOf l c ≤ (c : Rat) ∧ Rb 50 (lvOf l c) := by
  have nn := lv_nn h hE hc
  have rb := h.rb
  obtain ⟨l, e⟩ := h.lev
  refine ⟨l, e, fun i c hi => ?_⟩
  have hm : p[i]? = some (lvOf l c) := by rw [e, List.getElem?_map, hi]; rfl
  have mm := List.mem_of_getElem? hm
  exact ⟨hm, nn _ mm, (lv_two l c c).1, rb _ mm⟩
theorem fst1_cases (r : Str) : (r == ("shares" : Str)) = true ∨ ((r == ("shares" : Str)) = false ∧ (r == ("gains" : Str)) = true) ∨ ((r == ("shares" : Str)) = false ∧ (r == ("gains" : Str)) = false ∧ (r == ("losses" : Str)) = true) ∨ ((r == ("shares" : Str)) = false ∧ (r == ("gains" : Str)) = false ∧ (r == ("losses" : Str)) = false) := by
  cases (r == ("shares" : Str)) <;> cases (r == ("gains" : Str)) <;> cases (r == ("losses" : Str)) <;> simp
theorem div_at {r : Str} {E : Int} {cs : List Int} {parts : List Rat} (hcs : CsOk cs) (hn : cs ≠ []) (h0 : 0 ≤ E) (hE : E ≤ cs.sum) (h : DivSpec r E cs parts) : DivAt r cs parts ∧ sumR parts = (E : Rat) := by
  have hc : ∀ c ∈ cs, 0 < c := fun c hm => (hcs.2 c hm).1
  have cp : ∀ (i : Nat) (c : Int), cs[i]? = some c → (0 : Rat) < (c : Rat) ∧ Rb 40 (c : Rat) := fun i c hi => by
    have cb := hcs.2 c (List.mem_of_getElem? hi)
    exact ⟨by exact_mod_cast cb.1, Rb.int (small40 cb.1 cb.2) (by decide)⟩
  have S0 := sum_pos' hcs hn
  have sb := sum_bits hcs
  have S0' : (0 : Rat) < ((cs.sum : Int) : Rat) := by exact_mod_cast S0
  have E0' : (0 : Rat) ≤ (E : Rat) := by exact_mod_cast h0
  have ES' : (E : Rat) ≤ ((cs.sum : Int) : Rat) := by exact_mod_cast hE
  have e46 : (2 : Nat) ^ 46 = 70368744177664 := by decide
  unfold DivSpec at h
  rcases fst1_cases r with e1 | ⟨e1, e2⟩ | ⟨e1, e2, e3⟩ | ⟨e1, e2, e3⟩
  · rw [if_pos e1] at h
    subst h
    have at_ : ∀ (i : Nat) (c : Int) (x : Rat), cs[i]? = some c → (cs.map fun (c : Int) => (E : Rat) * (c : Rat) / ((cs.sum : Int) : Rat))[i]? = some x → x = (E : Rat) * (c : Rat) / ((cs.sum : Int) : Rat) := fun i c x a b => by
      rw [List.getElem?_map, a] at b
      cases b
      rfl
    refine ⟨⟨by rw [List.length_map], fun i c x a b => ?_, fun i j c d x y a b e f => ?_⟩, ?_⟩
    · obtain ⟨c0, cr⟩ := cp i c a
      rw [at_ i c x a b]
      refine ⟨?_, ?_, ?_⟩
      · have := Rat.mul_nonneg E0' (Rat.le_of_lt c0)
        exact div_nn this S0'
      · have h1 : (E : Rat) * (c : Rat) ≤ ((cs.sum : Int) : Rat) * (c : Rat) := Rat.mul_le_mul_of_nonneg_right ES' (Rat.le_of_lt c0)
        exact div_le (by grind) S0'
      · have he : E.natAbs < 2 ^ 46 := by rw [e46]; omega
        have hs : cs.sum.natAbs < 2 ^ 86 := Nat.lt_trans (by rw [e46]; omega : cs.sum.natAbs < 2 ^ 46) (by decide)
        have := Rb.div S0 (natAbs_mul_lt he (small40 (hcs.2 c (List.mem_of_getElem? a)).1 (hcs.2 c (List.mem_of_getElem? a)).2)) hs
        rw [Rat.intCast_mul] at this
        exact this.mono (by decide)
    · rw [at_ i c x a e, at_ j d y b f, fst1_s e1]
      exact two_shares S0' (cp i c a).1 (cp j d b).1
    · rw [sumR_share]
      grind
  · rw [if_neg (by rw [e1]; exact Bool.false_ne_true), if_pos e2] at h
    obtain ⟨l, e, hl⟩ := lv_at h h0 hc
    refine ⟨⟨h.len, fun i c x a b => ?_, fun i j c d x y a b e f => ?_⟩, h.sum⟩
    · obtain ⟨q1, q2, q3, q4⟩ := hl i c a
      rw [q1] at b
      cases b
      exact ⟨q2, q3, q4.mono (by decide)⟩
    · rw [(hl i c a).1] at e
      rw [(hl j d b).1] at f
      cases e
      cases f
      obtain ⟨z1, z2, z3, z4⟩ := lv_two l c d
      rw [fst1_g e1 e2]
      exact two_gains z1 z2 z3 z4
  · rw [if_neg (by rw [e1]; exact Bool.false_ne_true), if_neg (by rw [e2]; exact Bool.false_ne_true), if_pos e3] at h
    obtain ⟨p, hp, rfl⟩ := h
    obtain ⟨l, e, hl⟩ := lv_at hp (by omega) hc
    have hlen := hp.len
    have at_ : ∀ (i : Nat) (c : Int) (x : Rat), cs[i]? = some c → (subL (fun x => x) cs p)[i]? = some x → x = (c : Rat) - lvOf l c := fun i c x a b => by
      rw [subL_at a (hl i c a).1] at b
      cases b
      rfl
    refine ⟨⟨subL_len hlen, fun i c x a b => ?_, fun i j c d x y a b e f => ?_⟩, ?_⟩
    · obtain ⟨q1, q2, q3, q4⟩ := hl i c a
      rw [at_ i c x a b]
      exact ⟨by grind, by grind, ((cp i c a).2.sub q4).mono (by decide)⟩
    · rw [at_ i c x a e, at_ j d y b f]
      obtain ⟨z1, z2, z3, z4⟩ := lv_two l c d
      rw [fst1_l e1 e2 e3]
      exact two_losses z1 z2 z3 z4
    · have em : p.map (fun x => x) = p := List.map_id' p
      rw [sumR_sub _ hlen, em, hp.sum, Rat.intCast_sub]
      grind
  · rw [if_neg (by rw [e1]; exact Bool.false_ne_true), if_neg (by rw [e2]; exact Bool.false_ne_true), if_neg (by rw [e3]; exact Bool.false_ne_true)] at h
    by_cases hh : 2 * E ≤ cs.sum
    · rw [if_pos hh] at h
      obtain ⟨p, hp, rfl⟩ := h
      obtain ⟨l, e, hl⟩ := lv_at hp (by omega) hc
      have hlen := hp.len
      have at_ : ∀ (i : Nat) (c : Int) (x : Rat), cs[i]? = some c → (p.map fun x => x / 2)[i]? = some x → x = lvOf l c / 2 := fun i c x a b => by
        rw [List.getElem?_map, (hl i c a).1] at b
        cases b
        rfl
      refine ⟨⟨by rw [List.length_map]; exact hlen, fun i c x a b => ?_, fun i j c d x y a b e f => ?_⟩, ?_⟩
      · obtain ⟨q1, q2, q3, q4⟩ := hl i c a
        rw [at_ i c x a b]
        exact ⟨by grind, by grind, q4.half.mono (by decide)⟩
      · rw [at_ i c x a e, at_ j d y b f]
        obtain ⟨z1, z2, z3, z4⟩ := lv_two l c d
        rw [fst1_x e1 e2 e3]
        exact two_low (hl i c a).2.1 (hl j d b).2.1 z1 z2 z3 z4
      · rw [sumR_half, hp.sum, Rat.intCast_mul]
        have : ((2 : Int) : Rat) = 2 := rfl
        grind
    · rw [if_neg hh] at h
      obtain ⟨p, hp, rfl⟩ := h
      obtain ⟨l, e, hl⟩ := lv_at hp (by omega) hc
      have hlen := hp.len
      have at_ : ∀ (i : Nat) (c : Int) (x : Rat), cs[i]? = some c → (subL (fun x => x / 2) cs p)[i]? = some x → x = (c : Rat) - lvOf l c / 2 := fun i c x a b => by
        rw [subL_at a (hl i c a).1] at b
        cases b
        rfl
      refine ⟨⟨subL_len hlen, fun i c x a b => ?_, fun i j c d x y a b e f => ?_⟩, ?_⟩
      · obtain ⟨q1, q2, q3, q4⟩ := hl i c a
        rw [at_ i c x a b]
        exact ⟨by grind, by grind, ((cp i c a).2.sub q4.half).mono (by decide)⟩
      · rw [at_ i c x a e, at_ j d y b f]
        obtain ⟨z1, z2, z3, z4⟩ := lv_two l c d
        rw [fst1_x e1 e2 e3]
        exact two_high (hl i c a).2.1 (hl j d b).2.1 z1 z2 z3 z4
      · rw [sumR_sub _ hlen, sumR_half, hp.sum, Rat.intCast_mul, Rat.intCast_sub]
        have : ((2 : Int) : Rat) = 2 := rfl
        grind
/-- a demand that the law draws -/
structure DemOk (E : Int) (cs : List Int) : Prop where
  ok : ∀ c ∈ cs, 1 ≤ c ∧ c ≤ 1000000000
  len : 1 ≤ cs.length ∧ cs.length ≤ 24
  e0 : 0 ≤ E
  eS : E ≤ cs.sum
  eM : E ≤ 1000000000
def kDemand (m : D) (post : D → Prop) : Prop := ∃ n : Int, m = .int n ∧ 1 ≤ n ∧ n ≤ 24 ∧ ∀ E cs, DemOk E cs → (cs.length : Int) ≤ n → post (dDem E cs)
theorem log2_40 {x : Int} (h0 : 0 < x) (h : x < 1099511627776) : x.natAbs.log2 < 9000 := log2_lt (small40 h0 h) (by decide) (by decide)
theorem outs_ints {ds out : List D} {p : Int → Prop} (hl : out.length = ds.length) (h : ∀ (i : Nat) (x y : D), ds[i]? = some x → out[i]? = some y → ∃ c, y = .int c ∧ p c) : ∃ cs : List Int, out = cs.map .int ∧ ∀ c ∈ cs, p c := by
  have : ∀ y ∈ out, ∃ c, y = .int c ∧ p c := fun y hy => by
    obtain ⟨i, hi⟩ := List.mem_iff_getElem?.mp hy
    have hlt := (List.getElem?_eq_some_iff.mp hi).1
    exact h i _ y (List.getElem?_eq_getElem (by omega)) hi
  clear h hl
  induction out with
  | nil => exact ⟨[], rfl, fun _ z => by simp at z⟩
  | cons y r ih =>
    obtain ⟨c, rfl, hc⟩ := this y List.mem_cons_self
    obtain ⟨cs, rfl, hcs⟩ := ih fun z hz => this z (List.mem_cons_of_mem _ hz)
    exact ⟨c :: cs, rfl, fun d hd => (List.mem_cons.mp hd).elim (fun e => e ▸ hc) (hcs d)⟩
theorem numB_and {v : D} {a b : Int} : numB v a b = (match isInt v with
    | some i => decide (a ≤ i) && decide (i ≤ b)
    | none => false) := rfl
theorem num_all0 {cs : List D} (h1 : ∀ c ∈ cs, numB c 0 1000000000 = true) : ∃ ns : List Int, cs = ns.map .int ∧ ∀ n ∈ ns, 0 ≤ n ∧ n ≤ 1000000000 := num_all (List.all_eq_true.mpr h1)
def kMoved (v : D) (post : D → Prop) : Prop := ∃ (rs : List Rat) (n : Nat), v = .tup (rs.map dR) ∧ rs ≠ [] ∧ rs.length ≤ 24 ∧ (∀ r ∈ rs, Rb n r) ∧ n ≤ 200 ∧ ∀ rs' : List Rat, rs'.length = rs.length → (∀ r ∈ rs', Rb (n + 20) r) → post (.tup (rs'.map dR))
theorem flatAll_rats (rs : List Rat) : flatAll (rs.map dR) = true := flatAll_of fun d hd => by
  obtain ⟨r, _, rfl⟩ := List.mem_map.mp hd
  rfl
theorem ixN_in {n : Nat} {i : Int} (h0 : 0 ≤ i) (h1 : i < n) : ixN n i = some i.toNat := by
  unfold ixN
  rw [if_pos h0, if_pos h1]
def kFine (dem : D) (post : D → Prop) : Prop := ∃ E cs, dem = dDem E cs ∧ DemOk E cs ∧ post (.bl true)
abbrev tD (p : List Rat) : D := .tup (p.map dR)
abbrev ruleL : List Str := ["shares", "gains", "losses", "garment"]
theorem DemOk.cs {E : Int} {cs : List Int} (h : DemOk E cs) : CsOk cs ∧ cs ≠ [] := by
  refine ⟨⟨h.len.2, fun c hc => ?_⟩, fun z => ?_⟩
  · have := h.ok c hc
    omega
  · have := h.len.1
    rw [z] at this
    simp at this
theorem toR_map (p : List Rat) : (p.map dR).map toR = p := by
  induction p with
  | nil => rfl
  | cons x r ih => rw [List.map_cons, List.map_cons, ih, toR_dR]
theorem rats_all (p : List Rat) : (p.map dR).all isRatB = true := by
  rw [List.all_map]
  exact List.all_eq_true.mpr fun x _ => isRat_dR x
theorem okD_tD {b : Nat} {p : List Rat} (hl : p.length ≤ 24) (h : ∀ r ∈ p, Rb b r) : okD b (tD p) := by
  refine okT_of (by rw [List.length_map]; omega) fun d hd => ?_
  obtain ⟨r, hr, rfl⟩ := List.mem_map.mp hd
  exact Rb_okD (h r hr)
theorem ben_tD {b : Nat} {p : List Rat} (hl : p.length ≤ 24) (h : ∀ r ∈ p, Rb b r) : ben b 2 (tD p) := by
  show (p.map dR).length ≤ 40 ∧ benAll b 1 (p.map dR)
  refine ⟨by rw [List.length_map]; omega, benAll_iff.mpr fun d hd => ?_⟩
  obtain ⟨r, hr, rfl⟩ := List.mem_map.mp hd
  show 2 ≤ 40 ∧ (r.num.natAbs < 2 ^ b ∧ ((r.den : Int).natAbs < 2 ^ b ∧ True))
  exact ⟨by decide, (h r hr).num, den_abs (h r hr), trivial⟩
theorem fit1_mk {c : Int} {x : Rat} (h0 : 0 ≤ x) (h1 : x ≤ (c : Rat)) : fit1 c x = true := by
  rw [fit1_eq, decide_eq_true h0, decide_eq_false (Rat.not_lt.mpr h1)]
  rfl
theorem divB_tD (E : Int) (cs : List Int) (p : List Rat) : divB E cs (tD p) = (decide (p.length = cs.length) && true && fitB cs p && decide (sumR p = (E : Rat))) := by
  show (decide ((p.map dR).length = cs.length) && (p.map dR).all isRatB && fitB cs ((p.map dR).map toR) && decide (sumR ((p.map dR).map toR) = (E : Rat))) = _
  rw [rats_all, toR_map, List.length_map]
theorem div_yes {r : Str} {E : Int} {cs : List Int} {p : List Rat} (h : DivAt r cs p) (hs : sumR p = (E : Rat)) : divB E cs (tD p) = true := by
  rw [divB_tD, decide_eq_true h.len, decide_eq_true hs, fit_true fun i c x a b => fit1_mk (h.fit i c x a b).1 (h.fit i c x a b).2.1]
  rfl
theorem div_bits {r : Str} {cs : List Int} {p : List Rat} (h : DivAt r cs p) : ∀ x ∈ p, Rb 140 x := fun x hx => by
  obtain ⟨i, hi⟩ := List.mem_iff_getElem?.mp hx
  have hlt := (List.getElem?_eq_some_iff.mp hi).1
  have := h.len
  exact (h.fit i _ x (List.getElem?_eq_getElem (by omega)) hi).2.2
theorem div_right {r : Str} {cs : List Int} {p : List Rat} (h : DivAt r cs p) : ∀ i j, badF r cs p i j = false := fun i j => by
  unfold badF
  split
  · rename_i c d x y a b e f
    rw [decide_eq_true (h.two i j c d x y a b e f)]
    rfl
  · rfl
/-- what divided tells, rule by rule -/
def ToldOk (E : Int) (cs : List Int) (P : List (List Rat)) : Prop := P.length = 4 ∧ ∀ (k : Nat) (r : Str) (p : List Rat), ruleL[k]? = some r → P[k]? = some p → DivAt r cs p ∧ sumR p = (E : Rat)
theorem told_of {E : Int} {cs : List Int} {out : List D} (hl : out.length = 4) (h : ∀ (i : Nat) (x y : D), (ruleL.map D.str)[i]? = some x → out[i]? = some y → ∃ r p, x = .str r ∧ y = tD p ∧ (DivAt r cs p ∧ sumR p = (E : Rat))) : ∃ P, out = P.map tD ∧ ToldOk E cs P := by
  have : ∀ (i : Nat) (y : D), out[i]? = some y → ∃ p, y = tD p := fun i y hi => by
    have hlt := (List.getElem?_eq_some_iff.mp hi).1
    obtain ⟨r, p, _, e, _⟩ := h i _ y (List.getElem?_eq_getElem (show i < (ruleL.map D.str).length from by simp; omega)) hi
    exact ⟨p, e⟩
  obtain ⟨P, hP⟩ : ∃ P : List (List Rat), out = P.map tD := by
    clear h hl
    induction out with
    | nil => exact ⟨[], rfl⟩
    | cons y r ih =>
      obtain ⟨p, rfl⟩ := this 0 y rfl
      obtain ⟨P, rfl⟩ := ih fun i z hi => this (i + 1) z (by simpa using hi)
      exact ⟨p :: P, rfl⟩
  refine ⟨P, hP, ?_⟩
  subst hP
  rw [List.length_map] at hl
  refine ⟨hl, fun k r p a b => ?_⟩
  obtain ⟨r', p', e1, e2, q⟩ := h k (.str r) (tD p) (by rw [List.getElem?_map, a]; rfl) (by rw [List.getElem?_map, b]; rfl)
  cases e1
  have ep : p = p' := by
    have e3 : D.tup (p.map dR) = D.tup (p'.map dR) := e2
    injection e3 with e4
    have e5 : (p.map dR).map toR = (p'.map dR).map toR := congrArg (fun l : List D => l.map toR) e4
    exact (toR_map p).symm.trans (e5.trans (toR_map p'))
  subst ep
  exact q
theorem dep_wr {bad : Nat → Nat → Bool} {n : Nat} {d : D} (h : WrSpec bad n d) : dep 2 d = true := by
  rcases h with ⟨rfl, _⟩ | ⟨i, j, rfl, _⟩
  · rfl
  · rfl
/-- divisions of the right length, not too big -/
def ValOk (cs : List Int) (V : List (List Rat)) : Prop := ∀ p ∈ V, p.length = cs.length ∧ ∀ r ∈ p, Rb 160 r
theorem demB_of {E : Int} {cs : List Int} (h : DemOk E cs) : demB (dDem E cs) = true := by
  show (numB (.int E) 0 1000000000 && (decide (1 ≤ (cs.map D.int).length) && decide ((cs.map D.int).length ≤ 24)) && (cs.map D.int).all (fun c => numB c 1 1000000000) && decide (E ≤ (((cs.map D.int).map fun c => (isInt c).getD 0).sum))) = true
  rw [getD_ints, List.length_map, decide_eq_true h.eS, decide_eq_true h.len.1, decide_eq_true h.len.2]
  have e1 : numB (.int E) 0 1000000000 = true := by
    show (decide (0 ≤ E) && decide (E ≤ 1000000000)) = true
    rw [decide_eq_true h.e0, decide_eq_true h.eM]; rfl
  have e2 : (cs.map D.int).all (fun c => numB c 1 1000000000) = true := by
    rw [List.all_map]
    refine List.all_eq_true.mpr fun n hn' => ?_
    have h6 := h.ok n hn'
    show (decide (1 ≤ n) && decide (n ≤ 1000000000)) = true
    rw [decide_eq_true h6.1, decide_eq_true h6.2]; rfl
  rw [e1, e2]
  rfl
theorem ben_dem {E : Int} {cs : List Int} (h : DemOk E cs) : ben 40 2 (dDem E cs) := by
  have e40 : (2 : Nat) ^ 40 = 1099511627776 := by decide
  have h0 := h.e0
  have h1 := h.eM
  show 2 ≤ 40 ∧ (E.natAbs < 2 ^ 40 ∧ (((cs.map D.int).length ≤ 40 ∧ benAll 40 0 (cs.map D.int)) ∧ True))
  refine ⟨by decide, by rw [e40]; omega, ⟨by rw [List.length_map]; have := h.len.2; omega, benAll_iff.mpr fun d hd => ?_⟩, trivial⟩
  obtain ⟨c, hc, rfl⟩ := List.mem_map.mp hd
  have h6 := h.ok c hc
  show c.natAbs < 2 ^ 40
  rw [e40]
  omega
theorem okD_dem {E : Int} {cs : List Int} (h : DemOk E cs) : okD 40 (dDem E cs) := ben_ok (by decide) 2 _ (ben_dem h)
theorem okD_full : okD 40 (.tup [.int 1000000000, .tup (List.replicate (24 : Int).toNat [D.int 1000000000]).flatten]) := by
  refine okT_of (by decide) fun d hd => ?_
  simp only [List.mem_cons, List.not_mem_nil, or_false] at hd
  rcases hd with rfl | rfl
  · exact okI_of (by decide)
  · refine okT_of (by decide) fun d hd => ?_
    obtain ⟨l, hl, hm⟩ := List.mem_flatten.mp hd
    rw [List.eq_of_mem_replicate hl, List.mem_singleton] at hm
    subst hm
    exact okI_of (by decide)
theorem okD_full2 : okD 40 (.tup [.int 5, .tup ((List.replicate (24 : Int).toNat [D.int 1000000000]).flatten ++ [.int 1])]) := by
  refine okT_of (by decide) fun d hd => ?_
  simp only [List.mem_cons, List.not_mem_nil, or_false] at hd
  rcases hd with rfl | rfl
  · exact okI_of (by decide)
  · refine okT_of (by decide) fun d hd => ?_
    rcases List.mem_append.mp hd with hd | hd
    · obtain ⟨l, hl, hm⟩ := List.mem_flatten.mp hd
      rw [List.eq_of_mem_replicate hl, List.mem_singleton] at hm
      subst hm
      exact okI_of (by decide)
    · rw [List.mem_singleton] at hd
      subst hd
      exact okI_of (by decide)
theorem okD_full3 : okD 40 (.tup [.int 6, .tup [.int 2, .int 3]]) := by
  refine okT_of (by decide) fun d hd => ?_
  simp only [List.mem_cons, List.not_mem_nil, or_false] at hd
  rcases hd with rfl | rfl
  · exact okI_of (by decide)
  · refine okT_of (by decide) fun d hd => ?_
    simp only [List.mem_cons, List.not_mem_nil, or_false] at hd
    rcases hd with rfl | rfl <;> exact okI_of (by decide)
theorem fst1_rb {r : Str} {x : Rat} {c d : Int} (hx : Rb 40 x) (c0 : 0 < c) (c1 : c < 1099511627776) (d0 : 0 < d) (d1 : d < 1099511627776) : Rb 300 (fst1 r x c d) := by
  have rc : Rb 40 (c : Rat) := Rb.int (small40 c0 c1) (by decide)
  have rd : Rb 40 (d : Rat) := Rb.int (small40 d0 d1) (by decide)
  have r0 : Rb 40 (0 : Rat) := (Rb.int (c := 0) (by decide) (by decide) : Rb 1 ((0 : Int) : Rat)).mono (by decide)
  rcases fst1_cases r with e1 | ⟨e1, e2⟩ | ⟨e1, e2, e3⟩ | ⟨e1, e2, e3⟩
  · rw [fst1_s e1, ← rat_share]
    exact (Rb.div (n := 81) (Int.mul_pos (den_pos x) (by omega)) (Nat.lt_trans (natAbs_mul_lt hx.1 (small40 c0 c1)) (by decide)) (natAbs_mul_lt (den_abs hx) (small41 c0 c1 d0 d1))).mono (by decide)
  · rw [fst1_g e1 e2]
    exact Rb_ite (rc.mono (by decide)) (Rb_ite ((hx.sub rd).mono (by decide)) (hx.half.mono (by decide)))
  · rw [fst1_l e1 e2 e3]
    exact Rb_ite (r0.mono (by decide)) (Rb_ite (hx.mono (by decide)) ((rc.sub ((rc.add rd).sub hx).half).mono (by decide)))
  · rw [fst1_x e1 e2 e3]
    have a : Rb 81 (if 0 < x - (d : Rat) then x - (d : Rat) else 0) := Rb_ite (hx.sub rd) (r0.mono (by decide))
    have b : Rb 81 (if 0 < x - (c : Rat) then x - (c : Rat) else 0) := Rb_ite (hx.sub rc) (r0.mono (by decide))
    exact (a.add ((hx.sub a).sub b).half).mono (by decide)
end
end DL

namespace DL
open PySem PySem.Spec PyProof.Rows L2 GxR GX
def clampZ (l h x : Int) : Int := if (if x < h then x else h) > l then (if x < h then x else h) else l
def mostZ (x : Rat) (w l h : Int) : Int := clampZ l h ((x.num * w + (x.den : Int)) / (2 * (x.den : Int)))
def partZ (x : Rat) (w l h : Int) : Int := clampZ l h (-(-(x.num * w - (x.den : Int)) / (2 * (x.den : Int))))
/-! ### levels, in plain numbers -/
/-- where a place comes to n -/
def jmp (n w : Int) : Rat := ((2 * n - 1 : Int) : Rat) / (w : Rat)
theorem div_gt_rat {p q : Int} {x : Rat} (hq : 0 < q) : x < (p : Rat) / (q : Rat) ↔ x.num * q < p * (x.den : Int) := by
  have hq' : (0 : Rat) < (q : Rat) := by exact_mod_cast hq
  have hd' : (0 : Rat) < ((x.den : Int) : Rat) := by
    have := den_pos x
    exact_mod_cast this
  rw [Rat.lt_div_iff hq']
  have e := rat_nd x
  have e2 : x * ((x.den : Int) : Rat) = (x.num : Rat) := by
    have : ((x.den : Int) : Rat) ≠ 0 := by grind
    generalize (x.num : Rat) = u at *
    generalize ((x.den : Int) : Rat) = v at *
    grind
  rw [← Rat.mul_lt_mul_right hd']
  have e3 : x * (q : Rat) * ((x.den : Int) : Rat) = ((x.num * q : Int) : Rat) := by
    rw [Rat.intCast_mul, ← e2]
    grind
  rw [e3, ← Rat.intCast_mul]
  exact Rat.intCast_lt_intCast
theorem div_lt_rat {p q : Int} {x : Rat} (hq : 0 < q) : (p : Rat) / (q : Rat) < x ↔ p * (x.den : Int) < x.num * q := by
  have hq' : (0 : Rat) < (q : Rat) := by exact_mod_cast hq
  have hd' : (0 : Rat) < ((x.den : Int) : Rat) := by
    have := den_pos x
    exact_mod_cast this
  rw [Rat.div_lt_iff hq']
  have e := rat_nd x
  have e2 : x * ((x.den : Int) : Rat) = (x.num : Rat) := by
    have : ((x.den : Int) : Rat) ≠ 0 := by grind
    generalize (x.num : Rat) = u at *
    generalize ((x.den : Int) : Rat) = v at *
    grind
  rw [← Rat.mul_lt_mul_right hd']
  have e3 : x * (q : Rat) * ((x.den : Int) : Rat) = ((x.num * q : Int) : Rat) := by
    rw [Rat.intCast_mul, ← e2]
    grind
  rw [e3, ← Rat.intCast_mul]
  exact Rat.intCast_lt_intCast
theorem div_le_rat {p q : Int} {x : Rat} (hq : 0 < q) : (p : Rat) / (q : Rat) ≤ x ↔ p * (x.den : Int) ≤ x.num * q := by
  rw [← Rat.not_lt, div_gt_rat hq, Int.not_lt]
theorem div_ge_rat {p q : Int} {x : Rat} (hq : 0 < q) : x ≤ (p : Rat) / (q : Rat) ↔ x.num * q ≤ p * (x.den : Int) := by
  rw [← Rat.not_lt, div_lt_rat hq, Int.not_lt]
theorem le_most {x : Rat} {w n : Int} (hw : 0 < w) : n ≤ (x.num * w + (x.den : Int)) / (2 * (x.den : Int)) ↔ jmp n w ≤ x := by
  have d := den_pos x
  unfold jmp
  rw [div_le_rat hw, Int.le_ediv_iff_mul_le (by omega)]
  constructor <;> intro h <;> grind
theorem part_le {x : Rat} {w n : Int} (hw : 0 < w) : -(-(x.num * w - (x.den : Int)) / (2 * (x.den : Int))) ≤ n ↔ x ≤ jmp (n + 1) w := by
  have d := den_pos x
  unfold jmp
  rw [div_ge_rat hw]
  have : -(-(x.num * w - (x.den : Int)) / (2 * (x.den : Int))) ≤ n ↔ -n ≤ -(x.num * w - (x.den : Int)) / (2 * (x.den : Int)) := by omega
  rw [this, Int.le_ediv_iff_mul_le (by omega)]
  constructor <;> intro h <;> grind
theorem jmp_mono {n m w : Int} (hw : 0 < w) (h : n ≤ m) : jmp n w ≤ jmp m w := by
  unfold jmp
  have hq' : (0 : Rat) < (w : Rat) := by exact_mod_cast hw
  have h2 : ((2 * n - 1 : Int) : Rat) ≤ ((2 * m - 1 : Int) : Rat) := by exact_mod_cast (by omega : 2 * n - 1 ≤ 2 * m - 1)
  rw [Rat.div_def, Rat.div_def]
  exact Rat.mul_le_mul_of_nonneg_right h2 (Rat.le_of_lt (Rat.inv_pos.mpr hq'))
theorem jmp_lt {n m w : Int} (hw : 0 < w) (h : n < m) : jmp n w < jmp m w := by
  unfold jmp
  have hq' : (0 : Rat) < (w : Rat) := by exact_mod_cast hw
  have h2 : ((2 * n - 1 : Int) : Rat) < ((2 * m - 1 : Int) : Rat) := by exact_mod_cast (by omega : 2 * n - 1 < 2 * m - 1)
  rw [Rat.div_def, Rat.div_def]
  exact Rat.mul_lt_mul_of_pos_right h2 (Rat.inv_pos.mpr hq')
theorem jmp_pos {n w : Int} (hw : 0 < w) (h : 1 ≤ n) : 0 < jmp n w := by
  unfold jmp
  have hq' : (0 : Rat) < (w : Rat) := by exact_mod_cast hw
  have h2 : (0 : Rat) < ((2 * n - 1 : Int) : Rat) := by exact_mod_cast (by omega : 0 < 2 * n - 1)
  rw [Rat.lt_div_iff hq', Rat.zero_mul]
  exact h2
theorem clamp_le {l h x n : Int} (hl : l ≤ h) : clampZ l h x ≤ n ↔ l ≤ n ∧ (x ≤ n ∨ h ≤ n) := by
  unfold clampZ
  split <;> split <;> omega
theorem le_clamp {l h x n : Int} (hl : l ≤ h) : n ≤ clampZ l h x ↔ n ≤ l ∨ (n ≤ x ∧ n ≤ h) := by
  unfold clampZ
  split <;> split <;> omega
theorem clamp_ge {l h x : Int} (hl : l ≤ h) : l ≤ clampZ l h x := (le_clamp hl).mpr (.inl (Int.le_refl _))
theorem clamp_hi {l h x : Int} (hl : l ≤ h) : clampZ l h x ≤ h := (clamp_le hl).mpr ⟨hl, .inr (Int.le_refl _)⟩
theorem most_ge {x : Rat} {w l h : Int} (hl : l ≤ h) : l ≤ mostZ x w l h := clamp_ge hl
theorem most_hi {x : Rat} {w l h : Int} (hl : l ≤ h) : mostZ x w l h ≤ h := clamp_hi hl
theorem part_ge {x : Rat} {w l h : Int} (hl : l ≤ h) : l ≤ partZ x w l h := clamp_ge hl
theorem part_hi {x : Rat} {w l h : Int} (hl : l ≤ h) : partZ x w l h ≤ h := clamp_hi hl
theorem le_mostZ {x : Rat} {w l h n : Int} (hw : 0 < w) (hl : l ≤ h) : n ≤ mostZ x w l h ↔ n ≤ l ∨ (jmp n w ≤ x ∧ n ≤ h) := by
  unfold mostZ
  rw [le_clamp hl, le_most hw]
theorem partZ_le {x : Rat} {w l h n : Int} (hw : 0 < w) (hl : l ≤ h) : partZ x w l h ≤ n ↔ l ≤ n ∧ (x ≤ jmp (n + 1) w ∨ h ≤ n) := by
  unfold partZ
  rw [clamp_le hl, part_le hw]
theorem part_most {x : Rat} {w l h : Int} (hw : 0 < w) (hl : l ≤ h) : partZ x w l h ≤ mostZ x w l h := by
  refine (partZ_le hw hl).mpr ⟨most_ge hl, ?_⟩
  by_cases hh : h ≤ mostZ x w l h
  · exact .inr hh
  · refine .inl ?_
    rcases (Rat.le_total : jmp (mostZ x w l h + 1) w ≤ x ∨ x ≤ jmp (mostZ x w l h + 1) w) with z | z
    · have := (le_mostZ (x := x) (n := mostZ x w l h + 1) hw hl).mpr (.inr ⟨z, by omega⟩)
      omega
    · exact z
theorem most_mono {x y : Rat} {w l h : Int} (hw : 0 < w) (hl : l ≤ h) (hxy : x ≤ y) : mostZ x w l h ≤ mostZ y w l h := by
  refine (le_mostZ hw hl).mpr ?_
  rcases (le_mostZ (x := x) (n := mostZ x w l h) hw hl).mp (Int.le_refl _) with z | ⟨z1, z2⟩
  · exact .inl z
  · exact .inr ⟨Rat.le_trans z1 hxy, z2⟩
/-- the part of a place is above its low one: it jumped below the level -/
theorem part_jump {x : Rat} {w l h : Int} (hw : 0 < w) (hl : l ≤ h) (hp : l < partZ x w l h) : jmp (partZ x w l h) w < x := by
  rcases (Rat.le_total : x ≤ jmp (partZ x w l h) w ∨ jmp (partZ x w l h) w ≤ x) with z | z
  · have hh := part_hi (x := x) (w := w) hl
    have := (partZ_le (x := x) (n := partZ x w l h - 1) hw hl).mpr ⟨by omega, .inl (by rw [Int.sub_add_cancel]; exact z)⟩
    omega
  · rcases Rat.le_iff_lt_or_eq.mp z with z | z
    · exact z
    · have hh := part_hi (x := x) (w := w) hl
      have := (partZ_le (x := x) (n := partZ x w l h - 1) hw hl).mpr ⟨by omega, .inl (by rw [Int.sub_add_cancel, z]; exact Rat.le_refl)⟩
      omega
theorem part_zero {w l h : Int} (hw : 0 < w) (hl : l ≤ h) (h0 : 0 ≤ l) : partZ 0 w l h = l := by
  have a := (partZ_le (x := 0) (n := l) hw hl).mpr ⟨Int.le_refl _, .inl (Rat.le_of_lt (jmp_pos hw (by omega)))⟩
  have b := part_ge (x := 0) (w := w) hl
  omega
/-! ### over all places -/
/-- places: weight, low, high -/
structure Pl where
  w : Int
  l : Int
  h : Int
structure PlOk (p : Pl) : Prop where
  w : 0 < p.w
  l : 0 ≤ p.l
  h : p.l ≤ p.h
def SM (x : Rat) (ps : List Pl) : Int := (ps.map fun p => mostZ x p.w p.l p.h).sum
def SP' (x : Rat) (ps : List Pl) : Int := (ps.map fun p => partZ x p.w p.l p.h).sum
theorem psum_le {α : Type} {f g : α → Int} {ps : List α} (h : ∀ p, p ∈ ps → f p ≤ g p) : (ps.map f).sum ≤ (ps.map g).sum := by
  induction ps with
  | nil => exact Int.le_refl _
  | cons a r ih =>
    have h1 := h a List.mem_cons_self
    have h2 := ih fun p hp => h p (List.mem_cons_of_mem _ hp)
    simp only [List.map_cons, List.sum_cons]
    omega
theorem psum_lt {α : Type} {f g : α → Int} {ps : List α} (h : ∀ p ∈ ps, f p ≤ g p) (hlt : (ps.map f).sum < (ps.map g).sum) : ∃ p ∈ ps, f p < g p := by
  induction ps with
  | nil => simp at hlt
  | cons a r ih =>
    have h1 := h a List.mem_cons_self
    simp only [List.map_cons, List.sum_cons] at hlt
    by_cases c : f a < g a
    · exact ⟨a, List.mem_cons_self, c⟩
    · obtain ⟨p, hp, e⟩ := ih (fun p hp => h p (List.mem_cons_of_mem _ hp)) (by omega)
      exact ⟨p, List.mem_cons_of_mem _ hp, e⟩
theorem SM_mono {x y : Rat} {ps : List Pl} (ok : ∀ p ∈ ps, PlOk p) (hxy : x ≤ y) : SM x ps ≤ SM y ps := by
  unfold SM
  refine psum_le fun p hp => ?_
  have o := ok p hp
  exact most_mono o.w o.h hxy
/-- the greatest of some -/
theorem max_of {α : Type} (f : α → Rat) (Q : α → Prop) : ∀ (ps : List α), (∃ p ∈ ps, Q p) → ∃ p ∈ ps, Q p ∧ ∀ p' ∈ ps, Q p' → f p' ≤ f p
  | [], h => by obtain ⟨_, h, _⟩ := h; cases h
  | a :: r, h => by
    by_cases hr : ∃ p ∈ r, Q p
    · obtain ⟨p, hp, q, m⟩ := max_of f Q r hr
      by_cases ha : Q a ∧ f p < f a
      · refine ⟨a, List.mem_cons_self, ha.1, fun p' hp' q' => ?_⟩
        rcases List.mem_cons.mp hp' with rfl | hp'
        · exact Rat.le_refl
        · exact Rat.le_trans (m p' hp' q') (Rat.le_of_lt ha.2)
      · refine ⟨p, List.mem_cons_of_mem _ hp, q, fun p' hp' q' => ?_⟩
        rcases List.mem_cons.mp hp' with rfl | hp'
        · exact Rat.not_lt.mp fun z => ha ⟨q', z⟩
        · exact m p' hp' q'
    · obtain ⟨p, hp, q⟩ := h
      rcases List.mem_cons.mp hp with e | hp
      · subst e
        refine ⟨p, List.mem_cons_self, q, fun p' hp' q' => ?_⟩
        rcases List.mem_cons.mp hp' with rfl | hp'
        · exact Rat.le_refl
        · exact absurd ⟨p', hp', q'⟩ hr
      · exact absurd ⟨p, hp, q⟩ hr
/-- what is found, behind some places -/
structure Fnd (t : Int) (all ps : List Pl) (f : Rat) : Prop where
  a : f ≠ 0 → t ≤ SM f all
  b : ∀ p ∈ ps, ∀ n, p.l < n → n ≤ p.h → t < SM (jmp n p.w) all → f ≠ 0 ∧ f ≤ jmp n p.w
  c : ∀ p ∈ ps, p.l < p.h → t ≤ SM (jmp p.h p.w) all → f ≠ 0
theorem Fnd.nil {t : Int} {all : List Pl} : Fnd t all [] 0 := ⟨fun h => absurd rfl h, fun _ h => (nomatch h), fun _ h => (nomatch h)⟩
/-- a level that is not less than the last jump below it: all parts there are reached -/
theorem jump_below {x y : Rat} {all : List Pl} (ok : ∀ p ∈ all, PlOk p) (h : ∀ p ∈ all, p.l < partZ x p.w p.l p.h → jmp (partZ x p.w p.l p.h) p.w ≤ y) : SP' x all ≤ SM y all := by
  unfold SP' SM
  refine psum_le fun p hp => ?_
  have o := ok p hp
  refine (le_mostZ o.w o.h).mpr ?_
  by_cases c : p.l < partZ x p.w p.l p.h
  · exact .inr ⟨h p hp c, part_hi o.h⟩
  · exact .inl (by omega)
theorem Fnd.ne {t : Int} {all : List Pl} {f : Rat} (ok : ∀ p ∈ all, PlOk p) (F : Fnd t all all f) (h0 : SM 0 all < t) (hh : t ≤ (all.map Pl.h).sum) : f ≠ 0 := by
  have q1 : ∀ p ∈ all, (fun p : Pl => mostZ 0 p.w p.l p.h) p ≤ Pl.h p := fun p hp => by
    have o := ok p hp
    exact most_hi o.h
  have q2 : (all.map fun p => mostZ 0 p.w p.l p.h).sum < (all.map Pl.h).sum := by
    unfold SM at h0
    exact Int.lt_of_lt_of_le h0 hh
  obtain ⟨p0, hp0, e⟩ := psum_lt q1 q2
  have o := ok p0 hp0
  have z := most_ge (x := 0) (w := p0.w) o.h
  have lt0 : p0.l < p0.h := Int.lt_of_le_of_lt z e
  obtain ⟨p, hp, q, m⟩ := max_of (fun p => jmp p.h p.w) (fun p => p.l < p.h) all ⟨p0, hp0, lt0⟩
  refine F.c p hp q (Int.le_trans hh ?_)
  unfold SM
  refine psum_le fun p' hp' => ?_
  have o := ok p' hp'
  refine (le_mostZ o.w o.h).mpr ?_
  by_cases c : p'.l < p'.h
  · exact .inr ⟨m p' hp' c, Int.le_refl _⟩
  · exact .inl (Int.not_lt.mp c)
theorem Fnd.part {t : Int} {all : List Pl} {f : Rat} (ok : ∀ p ∈ all, PlOk p) (F : Fnd t all all f) (hl : (all.map Pl.l).sum ≤ t) : SP' f all ≤ t := by
  apply Int.not_lt.mp
  intro z
  have q1 : ∀ p ∈ all, Pl.l p ≤ (fun p : Pl => partZ f p.w p.l p.h) p := fun p hp => by
    have o := ok p hp
    exact part_ge o.h
  have q2 : (all.map Pl.l).sum < (all.map fun p => partZ f p.w p.l p.h).sum := by
    unfold SP' at z
    exact Int.lt_of_le_of_lt hl z
  obtain ⟨p0, hp0, e0⟩ := psum_lt q1 q2
  replace e0 : p0.l < partZ f p0.w p0.l p0.h := e0
  let G : Pl → Rat := fun p => jmp (partZ f p.w p.l p.h) p.w
  let R : Pl → Prop := fun p => p.l < partZ f p.w p.l p.h
  have mx := max_of G R all ⟨p0, hp0, e0⟩
  obtain ⟨p, hp, q, m⟩ := mx
  have o := ok p hp
  replace m : ∀ p' ∈ all, p'.l < partZ f p'.w p'.l p'.h → jmp (partZ f p'.w p'.l p'.h) p'.w ≤ jmp (partZ f p.w p.l p.h) p.w := fun p' h1 h2 => m p' h1 h2
  replace q : p.l < partZ f p.w p.l p.h := q
  clear_value G R
  have s : SP' f all ≤ SM (jmp (partZ f p.w p.l p.h) p.w) all := jump_below (x := f) (y := jmp (partZ f p.w p.l p.h) p.w) ok m
  have lt : jmp (partZ f p.w p.l p.h) p.w < f := part_jump (x := f) o.w o.h q
  have hi : partZ f p.w p.l p.h ≤ p.h := part_hi (x := f) (w := p.w) o.h
  have b : f ≤ jmp (partZ f p.w p.l p.h) p.w := by
    have b0 := F.b p hp (partZ f p.w p.l p.h) q hi
    clear m lt q1 q2 hi q
    generalize partZ f p.w p.l p.h = n at *
    exact (b0 (Int.lt_of_lt_of_le z s)).2
  exact absurd b (Rat.not_le.mpr lt)
theorem Fnd.done {t : Int} {all : List Pl} {f : Rat} (ok : ∀ p ∈ all, PlOk p) (F : Fnd t all all f) (h0 : SM 0 all < t) (hl : (all.map Pl.l).sum ≤ t) (hh : t ≤ (all.map Pl.h).sum) : f ≠ 0 ∧ SP' f all ≤ t ∧ t ≤ SM f all := by
  have hf := F.ne ok h0 hh
  exact ⟨hf, F.part ok hl, F.a hf⟩
/-- one candidate -/
def updL (t : Int) (all : List Pl) (p : Pl) (f : Rat) (n : Int) : Rat := if p.l < n ∧ n ≤ p.h ∧ t ≤ SM (jmp n p.w) all ∧ (f = 0 ∨ jmp n p.w < f) then jmp n p.w else f
theorem updL_ok {t : Int} {all : List Pl} {p : Pl} {f : Rat} {n : Int} (ok : PlOk p) : (f ≠ 0 → updL t all p f n ≠ 0 ∧ updL t all p f n ≤ f) ∧ ((f ≠ 0 → t ≤ SM f all) → updL t all p f n ≠ 0 → t ≤ SM (updL t all p f n) all) ∧
    (p.l < n → n ≤ p.h → t ≤ SM (jmp n p.w) all → updL t all p f n ≠ 0 ∧ updL t all p f n ≤ jmp n p.w) := by
  unfold updL
  split
  · rename_i c
    have := jmp_pos ok.w (show 1 ≤ n by have := ok.l; omega)
    have ne : jmp n p.w ≠ 0 := fun z => by rw [z] at this; exact absurd this Rat.lt_irrefl
    refine ⟨fun hf => ⟨ne, ?_⟩, fun _ _ => c.2.2.1, fun _ _ _ => ⟨ne, Rat.le_refl⟩⟩
    exact Rat.le_of_lt (c.2.2.2.resolve_left hf)
  · rename_i c
    refine ⟨fun hf => ⟨hf, Rat.le_refl⟩, fun h hf => h hf, fun h1 h2 h3 => ?_⟩
    have : ¬ (f = 0 ∨ jmp n p.w < f) := fun z => c ⟨h1, h2, h3, z⟩
    exact ⟨fun z => this (.inl z), Rat.not_lt.mp fun z => this (.inr z)⟩
/-- one place -/
theorem Fnd.step {t m : Int} {all ps : List Pl} {p : Pl} {f : Rat} (okA : ∀ p ∈ all, PlOk p) (ok : PlOk p) (F : Fnd t all ps f) (hm : p.l ≤ m ∧ m ≤ p.h) (h1 : m = p.l ∨ SM (jmp m p.w) all ≤ t) (h2 : m = p.h ∨ t < SM (jmp (m + 1) p.w) all) :
    Fnd t all (ps ++ [p]) (updL t all p (updL t all p f m) (m + 1)) := by
  obtain ⟨u1, u2, u3⟩ := updL_ok (t := t) (all := all) (f := f) (n := m) ok
  obtain ⟨v1, v2, v3⟩ := updL_ok (t := t) (all := all) (f := updL t all p f m) (n := m + 1) ok
  refine ⟨fun h => v2 (u2 F.a) h, fun p' hp' n hn1 hn2 hn3 => ?_, fun p' hp' hlh hs => ?_⟩
  · rcases List.mem_append.mp hp' with hp' | hp'
    · obtain ⟨b1, b2⟩ := F.b p' hp' n hn1 hn2 hn3
      obtain ⟨c1, c2⟩ := u1 b1
      obtain ⟨d1, d2⟩ := v1 c1
      exact ⟨d1, Rat.le_trans d2 (Rat.le_trans c2 b2)⟩
    · have e : p' = p := by simpa using hp'
      subst e
      have hmn : m < n := by
        rcases h1 with h1 | h1
        · omega
        · apply Int.not_le.mp
          intro z
          have := SM_mono okA (jmp_mono ok.w z)
          omega
      have hm2 : t < SM (jmp (m + 1) p'.w) all := by
        rcases h2 with h2 | h2
        · omega
        · exact h2
      obtain ⟨d1, d2⟩ := v3 (by omega) (by omega) (Int.le_of_lt hm2)
      exact ⟨d1, Rat.le_trans d2 (jmp_mono ok.w (by omega))⟩
  · rcases List.mem_append.mp hp' with hp' | hp'
    · exact (v1 (u1 (F.c p' hp' hlh hs)).1).1
    · have e : p' = p := by simpa using hp'
      subst e
      by_cases hmh : m = p'.h
      · subst hmh
        exact (v1 (u3 (by omega) (by omega) hs).1).1
      · have hm2 : t < SM (jmp (m + 1) p'.w) all := h2.resolve_left hmh
        exact (v3 (by omega) (by omega) (Int.le_of_lt hm2)).1
/-! ### levels of a dealing -/
/-- a place with its part -/
def levP (a b : Int) (p : Pl) (x : Int) : Prop := (p.l < x → (2 * x - 1) * b ≤ a * p.w) ∧ (x < p.h → a * p.w ≤ (2 * x + 1) * b)
theorem lev_of {r : Rat} {p : Pl} {x : Int} (ok : PlOk p) (h1 : partZ r p.w p.l p.h ≤ x) (h2 : x ≤ mostZ r p.w p.l p.h) : levP r.num (r.den : Int) p x ∧ p.l ≤ x ∧ x ≤ p.h := by
  have a := (partZ_le ok.w ok.h).mp h1
  have b := (le_mostZ ok.w ok.h).mp h2
  have hm := most_hi (x := r) (w := p.w) ok.h
  refine ⟨⟨fun z => ?_, fun z => ?_⟩, a.1, by omega⟩
  · rcases b with b | ⟨b, _⟩
    · omega
    · exact (div_le_rat ok.w).mp b
  · rcases a.2 with a | a
    · have := (div_ge_rat ok.w).mp a
      rw [show 2 * (x + 1) - 1 = 2 * x + 1 by omega] at this
      exact this
    · omega
/-- place by place -/
theorem lev_sq {a b c W : Int} {p : Pl} {x y : Int} (hb : 0 < b) (hc : 0 < c) (hcw : c * p.w = W) (h : levP a b p x) (hy : p.l ≤ y ∧ y ≤ p.h) : a * W * (y - x) ≤ b * (y * y * c - x * x * c) ∧ (b * (y * y * c - x * x * c) ≤ a * W * (y - x) → levP a b p y) := by
  have key : b * (y * y * c - x * x * c) - a * W * (y - x) = c * ((y - x) * (b * (y + x) - a * p.w)) := by
    rw [← hcw]; grind
  have pos : 0 ≤ (y - x) * (b * (y + x) - a * p.w) := by
    rcases Int.lt_trichotomy y x with z | z | z
    · have h1 := h.1 (by omega)
      have : b * (y + x) - a * p.w ≤ 0 := by
        have : b * (y + x) ≤ (2 * x - 1) * b := by
          rw [Int.mul_comm _ b]
          exact Int.mul_le_mul_of_nonneg_left (by omega) (by omega)
        omega
      have q := Int.mul_nonneg (show 0 ≤ x - y by omega) (show 0 ≤ -(b * (y + x) - a * p.w) by omega)
      grind
    · subst z; simp
    · have h1 := h.2 (by omega)
      have : 0 ≤ b * (y + x) - a * p.w := by
        have : (2 * x + 1) * b ≤ b * (y + x) := by
          rw [Int.mul_comm _ b]
          exact Int.mul_le_mul_of_nonneg_left (by omega) (by omega)
        omega
      exact Int.mul_nonneg (by omega) this
  refine ⟨?_, fun z => ?_⟩
  · have := Int.mul_nonneg (Int.le_of_lt hc) pos
    omega
  · have z1 : c * ((y - x) * (b * (y + x) - a * p.w)) ≤ 0 := by omega
    have z2 : (y - x) * (b * (y + x) - a * p.w) ≤ 0 := by
      apply Int.not_lt.mp
      intro q
      have := Int.mul_pos hc q
      omega
    have z3 : (y - x) * (b * (y + x) - a * p.w) = 0 := by omega
    rcases Int.mul_eq_zero.mp z3 with e | e
    · have : y = x := by omega
      subst this
      exact h
    · rcases Int.lt_trichotomy y x with q | q | q
      · have h1 := h.1 (by omega)
        have e2 : a * p.w = b * (y + x) := by omega
        have : b * (2 * x - 1) ≤ b * (y + x) := by rw [← e2, Int.mul_comm b]; exact h1
        have := Int.le_of_mul_le_mul_left this hb
        have ey : y = x - 1 := by omega
        subst ey
        refine ⟨fun _ => ?_, fun _ => ?_⟩
        · rw [e2, Int.mul_comm _ b]
          exact Int.mul_le_mul_of_nonneg_left (by omega) (by omega)
        · rw [e2, Int.mul_comm _ b]
          exact Int.mul_le_mul_of_nonneg_left (by omega) (by omega)
      · subst q; exact h
      · have h1 := h.2 (by omega)
        have e2 : a * p.w = b * (y + x) := by omega
        have : b * (y + x) ≤ b * (2 * x + 1) := by rw [← e2, Int.mul_comm b]; exact h1
        have := Int.le_of_mul_le_mul_left this hb
        have ey : y = x + 1 := by omega
        subst ey
        refine ⟨fun _ => ?_, fun _ => ?_⟩
        · rw [e2, Int.mul_comm _ b]
          exact Int.mul_le_mul_of_nonneg_left (by omega) (by omega)
        · rw [e2, Int.mul_comm _ b]
          exact Int.mul_le_mul_of_nonneg_left (by omega) (by omega)
/-- all places with their parts -/
def levA (a b : Int) : List Pl → List Int → Prop
  | p :: ps, x :: xs => levP a b p x ∧ levA a b ps xs
  | [], [] => True
  | _, _ => False
def inA : List Pl → List Int → Prop
  | p :: ps, x :: xs => (p.l ≤ x ∧ x ≤ p.h) ∧ inA ps xs
  | [], [] => True
  | _, _ => False
/-- the squares, W the product of all weights -/
def sqA (W : Int) : List Pl → List Int → Int
  | p :: ps, x :: xs => x * x * (W / p.w) + sqA W ps xs
  | _, _ => 0
theorem levA_sq {a b W : Int} (hb : 0 < b) (hW : 0 < W) : ∀ {ps : List Pl} {xs ys : List Int}, (∀ p ∈ ps, 0 < p.w ∧ p.w ∣ W) → levA a b ps xs → inA ps ys →
    a * W * (ys.sum - xs.sum) ≤ b * (sqA W ps ys - sqA W ps xs) ∧ (b * (sqA W ps ys - sqA W ps xs) ≤ a * W * (ys.sum - xs.sum) → levA a b ps ys)
  | [], [], [], _, _, _ => ⟨by simp [sqA], fun _ => trivial⟩
  | p :: ps, x :: xs, y :: ys, ok, h, hy => by
    obtain ⟨i1, i2⟩ := levA_sq hb hW (fun p hp => ok p (List.mem_cons_of_mem _ hp)) h.2 hy.2
    obtain ⟨w0, c, hc⟩ := ok p List.mem_cons_self
    have ec : W / p.w = c := by rw [hc]; exact Int.mul_ediv_cancel_left _ (by omega)
    have c0 : 0 < c := by
      have : 0 < p.w * c := by rw [← hc]; exact hW
      exact Int.pos_of_mul_pos_right this w0
    obtain ⟨j1, j2⟩ := lev_sq (W := W) hb c0 (by rw [Int.mul_comm]; exact hc.symm) h.1 hy.1
    have s1 : a * W * ((y :: ys).sum - (x :: xs).sum) = a * W * (y - x) + a * W * (ys.sum - xs.sum) := by
      rw [List.sum_cons, List.sum_cons, ← Int.mul_add]
      exact congrArg (a * W * ·) (by omega)
    have s2 : b * (sqA W (p :: ps) (y :: ys) - sqA W (p :: ps) (x :: xs)) = b * (y * y * c - x * x * c) + b * (sqA W ps ys - sqA W ps xs) := by
      rw [show sqA W (p :: ps) (y :: ys) = y * y * (W / p.w) + sqA W ps ys from rfl, show sqA W (p :: ps) (x :: xs) = x * x * (W / p.w) + sqA W ps xs from rfl, ec, ← Int.mul_add]
      exact congrArg (b * ·) (by omega)
    refine ⟨by omega, fun z => ⟨j2 (by omega), i2 (by omega)⟩⟩
  | [], _ :: _, _, _, h, _ => h.elim
  | [], [], _ :: _, _, _, h => h.elim
  | _ :: _, [], _, _, h, _ => h.elim
  | _ :: _, _ :: _, [], _, _, h => h.elim
/-- of two dealings of one sum: no less squares than with a level; as little just with the level -/
theorem level_least {a b W : Int} {ps : List Pl} {xs ys : List Int} (hb : 0 < b) (hW : 0 < W) (ok : ∀ p ∈ ps, 0 < p.w ∧ p.w ∣ W) (h : levA a b ps xs) (hx : inA ps xs) (hy : inA ps ys) (e : ys.sum = xs.sum) :
    sqA W ps xs ≤ sqA W ps ys ∧ (sqA W ps ys = sqA W ps xs ↔ levA a b ps ys) := by
  obtain ⟨h1, h2⟩ := levA_sq hb hW ok h hy
  rw [e, Int.sub_self, Int.mul_zero] at h1 h2
  have k1 : 0 ≤ sqA W ps ys - sqA W ps xs := by
    apply Int.not_lt.mp
    intro z
    have := Int.mul_neg_of_pos_of_neg hb z
    omega
  refine ⟨by omega, fun z => h2 (by rw [z]; simp), fun z => ?_⟩
  obtain ⟨g1, _⟩ := levA_sq hb hW ok z hx
  rw [e, Int.sub_self, Int.mul_zero] at g1
  have k2 : 0 ≤ sqA W ps xs - sqA W ps ys := by
    apply Int.not_lt.mp
    intro z
    have := Int.mul_neg_of_pos_of_neg hb z
    omega
  omega
/-! ### jobs -/
structure Job where
  t : Int
  ws : List Int
  ls : List Int
  hs : List Int
abbrev jobD (J : Job) : D := .tup [.int J.t, .tup (J.ws.map .int), .tup (J.ls.map .int), .tup (J.hs.map .int)]
structure JobOk (J : Job) : Prop where
  n : 1 ≤ J.ws.length ∧ J.ws.length ≤ 24
  l : J.ls.length = J.ws.length
  h : J.hs.length = J.ws.length
  w : ∀ x ∈ J.ws, 1 ≤ x ∧ x ≤ 1000000000
  lb : ∀ x ∈ J.ls, 0 ≤ x ∧ x ≤ 1000000000
  hb : ∀ x ∈ J.hs, 0 ≤ x ∧ x ≤ 2000000000
  le : ∀ (k : Nat) (a b : Int), J.ls[k]? = some a → J.hs[k]? = some b → a ≤ b
  t0 : -1000000000 ≤ J.t ∧ J.t ≤ 1000000000
def plcs : List Int → List Int → List Int → List Pl
  | w :: ws, l :: ls, h :: hs => ⟨w, l, h⟩ :: plcs ws ls hs
  | _, _, _ => []
abbrev Job.ps (J : Job) : List Pl := plcs J.ws J.ls J.hs
theorem plcs_len : ∀ {ws ls hs : List Int}, ls.length = ws.length → hs.length = ws.length → (plcs ws ls hs).length = ws.length
  | [], _, _, _, _ => by simp [plcs]
  | w :: ws, l :: ls, h :: hs, h1, h2 => by
    unfold plcs
    rw [List.length_cons, List.length_cons, plcs_len (by simpa using h1) (by simpa using h2)]
  | _ :: _, [], _, h, _ => by simp at h
  | _ :: _, _ :: _, [], _, h => by simp at h
theorem plcs_get : ∀ {ws ls hs : List Int} {k : Nat} {w l h : Int}, ws[k]? = some w → ls[k]? = some l → hs[k]? = some h → (plcs ws ls hs)[k]? = some ⟨w, l, h⟩
  | [], _, _, _, _, _, _, e, _, _ => by simp at e
  | _ :: _, [], _, _, _, _, _, _, e, _ => by simp at e
  | _ :: _, _ :: _, [], _, _, _, _, _, _, e => by simp at e
  | w :: ws, l :: ls, h :: hs, 0, _, _, _, e1, e2, e3 => by
    simp at e1 e2 e3
    subst e1 e2 e3
    rfl
  | w :: ws, l :: ls, h :: hs, k + 1, _, _, _, e1, e2, e3 => by
    unfold plcs
    rw [List.getElem?_cons_succ]
    exact plcs_get (by simpa using e1) (by simpa using e2) (by simpa using e3)
theorem plcs_at : ∀ {ws ls hs : List Int} {k : Nat} {p : Pl}, (plcs ws ls hs)[k]? = some p → ws[k]? = some p.w ∧ ls[k]? = some p.l ∧ hs[k]? = some p.h
  | [], _, _, _, _, e => by simp [plcs] at e
  | _ :: _, [], _, _, _, e => by simp [plcs] at e
  | _ :: _, _ :: _, [], _, _, e => by simp [plcs] at e
  | w :: ws, l :: ls, h :: hs, 0, _, e => by
    simp [plcs] at e
    subst e
    exact ⟨rfl, rfl, rfl⟩
  | w :: ws, l :: ls, h :: hs, k + 1, _, e => by
    unfold plcs at e
    rw [List.getElem?_cons_succ] at e
    simpa using plcs_at e
theorem plcs_w : ∀ {ws ls hs : List Int}, ls.length = ws.length → hs.length = ws.length → (plcs ws ls hs).map Pl.w = ws ∧ (plcs ws ls hs).map Pl.l = ls ∧ (plcs ws ls hs).map Pl.h = hs
  | [], [], [], _, _ => ⟨rfl, rfl, rfl⟩
  | w :: ws, l :: ls, h :: hs, h1, h2 => by
    obtain ⟨a, b, c⟩ := plcs_w (ws := ws) (ls := ls) (hs := hs) (by simpa using h1) (by simpa using h2)
    unfold plcs
    rw [List.map_cons, List.map_cons, List.map_cons, a, b, c]
    exact ⟨rfl, rfl, rfl⟩
  | _, [], _ :: _, h1, h2 => by simp at h1 h2; omega
  | _, _ :: _, [], h1, h2 => by simp at h1 h2; omega
  | [], _ :: _, _ :: _, h, _ => by simp at h
  | _ :: _, [], [], h, _ => by simp at h
/-- the bounds of a place -/
structure PlB (p : Pl) : Prop where
  w : p.w ≤ 1000000000
  l : p.l ≤ 1000000000
  h : p.h ≤ 2000000000
theorem JobOk.pl {J : Job} (hJ : JobOk J) : ∀ p ∈ J.ps, PlOk p ∧ PlB p := fun p hp => by
  obtain ⟨k, e⟩ := List.mem_iff_getElem?.mp hp
  obtain ⟨a, b, c⟩ := plcs_at e
  have h1 := hJ.w _ (List.mem_of_getElem? a)
  have h2 := hJ.lb _ (List.mem_of_getElem? b)
  have h3 := hJ.hb _ (List.mem_of_getElem? c)
  have h4 := hJ.le k _ _ b c
  exact ⟨⟨by omega, h2.1, h4⟩, ⟨h1.2, h2.2, h3.2⟩⟩
theorem JobOk.ok {J : Job} (hJ : JobOk J) : ∀ p ∈ J.ps, PlOk p := fun p hp => (hJ.pl p hp).1
theorem JobOk.len {J : Job} (hJ : JobOk J) : J.ps.length = J.ws.length := plcs_len hJ.l hJ.h
theorem JobOk.ex {J : Job} (hJ : JobOk J) {k : Nat} (hk : k < J.ws.length) : ∃ p, J.ps[k]? = some p ∧ J.ws[k]? = some p.w ∧ J.ls[k]? = some p.l ∧ J.hs[k]? = some p.h ∧ PlOk p ∧ PlB p := by
  have e := List.getElem?_eq_getElem (show k < J.ps.length by rw [hJ.len]; exact hk)
  obtain ⟨a, b, c⟩ := plcs_at e
  obtain ⟨o, q⟩ := hJ.pl _ (List.mem_of_getElem? e)
  exact ⟨_, e, a, b, c, o, q⟩
theorem mapD {ns : List Int} {k : Nat} {n : Int} (h : ns[k]? = some n) : (ns.map D.int)[k]? = some (.int n) := by rw [List.getElem?_map, h]; rfl
/-! ### levels, as they are looked at -/
def levB (a b : Int) (p : Pl) (x : Int) : Bool := !(decide (p.l < x) && decide (a * p.w < (2 * x - 1) * b)) && !(decide (x < p.h) && decide ((2 * x + 1) * b < a * p.w))
theorem levB_iff {a b : Int} {p : Pl} {x : Int} : levB a b p x = true ↔ levP a b p x := by
  unfold levB levP
  simp only [Bool.and_eq_true, Bool.not_eq_true', Bool.and_eq_false_iff, decide_eq_false_iff_not, Int.not_lt]
  constructor
  · rintro ⟨h1, h2⟩
    exact ⟨fun z => h1.resolve_left (by omega), fun z => h2.resolve_left (by omega)⟩
  · rintro ⟨h1, h2⟩
    refine ⟨?_, ?_⟩
    · by_cases c : p.l < x
      · exact .inr (h1 c)
      · exact .inl (by omega)
    · by_cases c : x < p.h
      · exact .inr (h2 c)
      · exact .inl (by omega)
def levAt (a b : Int) (ps : List Pl) (xs : List Int) (k : Nat) : Bool := match ps[k]?, xs[k]? with
  | some p, some x => levB a b p x
  | _, _ => true
theorem levAt_at {a b : Int} {ps : List Pl} {xs : List Int} {k : Nat} {p : Pl} {x : Int} (h1 : ps[k]? = some p) (h2 : xs[k]? = some x) : levAt a b ps xs k = levB a b p x := by
  unfold levAt
  rw [h1, h2]
theorem levAt_iff {a b : Int} : ∀ {ps : List Pl} {xs : List Int}, xs.length = ps.length → ((∀ k, k < ps.length → levAt a b ps xs k = true) ↔ levA a b ps xs)
  | [], [], _ => by simp [levA]
  | p :: ps, x :: xs, h => by
    have ih := levAt_iff (a := a) (b := b) (ps := ps) (xs := xs) (by simpa using h)
    unfold levA
    rw [← ih, ← levB_iff]
    constructor
    · intro q
      exact ⟨q 0 (by simp), fun k hk => q (k + 1) (by simpa using hk)⟩
    · rintro ⟨q1, q2⟩ k hk
      cases k with
      | zero => exact q1
      | succ k => exact q2 k (by simpa using hk)
  | [], _ :: _, h => by simp at h
  | _ :: _, [], h => by simp at h
def levelB (J : Job) (xs : List Int) : D → Bool
  | .tup [.int a, .int b] => isRatB (.tup [.int a, .int b]) && (List.range J.ws.length).all (levAt a b J.ps xs)
  | _ => false
theorem levelB_no {J : Job} {xs : List Int} {v : D} (h : isRatB v = false) : levelB J xs v = false := by
  unfold levelB
  split
  · rw [h]; rfl
  · rfl
theorem levelB_dR {J : Job} {xs : List Int} {r : Rat} : levelB J xs (dR r) = (List.range J.ws.length).all (levAt r.num (r.den : Int) J.ps xs) := by
  show (isRatB (dR r) && _) = _
  rw [isRat_dR]
  rfl
theorem levelB_iff {J : Job} {xs : List Int} {r : Rat} (hJ : JobOk J) (hx : xs.length = J.ws.length) : levelB J xs (dR r) = true ↔ levA r.num (r.den : Int) J.ps xs := by
  rw [levelB_dR, List.all_eq_true, ← levAt_iff (by rw [hJ.len]; exact hx), hJ.len]
  constructor
  · intro h k hk
    exact h k (List.mem_range.mpr hk)
  · intro h k hk
    exact h k (List.mem_range.mp hk)
theorem all_false {f : Nat → Bool} {n k : Nat} (hk : k < n) (h : f k = false) : (List.range n).all f = false := by
  rw [Bool.eq_false_iff]
  intro z
  have := List.all_eq_true.mp z k (List.mem_range.mpr hk)
  rw [h] at this
  cases this
theorem all_true {f : Nat → Bool} {n : Nat} (h : ∀ k, k < n → f k = true) : (List.range n).all f = true := List.all_eq_true.mpr fun k hk => h k (List.mem_range.mp hk)
section
variable {CX : CXT} {P : Program} {w : World} {K : PySem.W.Frag} {mg : Str → Option Value} {base : Heap} {N : List Str} {qual : Str} {scope : Scope} {f : Addr} {cdv : Value} {A : Around} {outer : List Env} {s : Shared} {H : Hp} {E : XK}
theorem cxP : (cxOf CX P w K mg base N qual scope f cdv A outer s H E).nox.prog = P := rfl
theorem cxW : (cxOf CX P w K mg base N qual scope f cdv A outer s H E).nox.w = w := rfl
theorem cxM : (cxOf CX P w K mg base N qual scope f cdv A outer s H E).nox.mg = mg := rfl
theorem cxB : (cxOf CX P w K mg base N qual scope f cdv A outer s H E).nox.base = base := rfl
theorem cyK : (cxOf CX P w K mg base N qual scope f cdv A outer s H E).K = K := rfl
theorem cyP : (cxOf CX P w K mg base N qual scope f cdv A outer s H E).prog = P := rfl
theorem cyW : (cxOf CX P w K mg base N qual scope f cdv A outer s H E).w = w := rfl
theorem cyM : (cxOf CX P w K mg base N qual scope f cdv A outer s H E).mg = mg := rfl
theorem cyB : (cxOf CX P w K mg base N qual scope f cdv A outer s H E).base = base := rfl
end
end DL

namespace DL
open PySem PySem.Spec PyProof.Rows L2 GxR GX

/-! ### zip of four -/
def zip4D : List D → List D → List D → List D → List D
  | x :: xs, y :: ys, z :: zs, u :: us => .tup [x, y, z, u] :: zip4D xs ys zs us
  | _, _, _, _ => []
theorem zip4D_len : ∀ {xs ys zs us : List D}, ys.length = xs.length → zs.length = xs.length → us.length = xs.length → (zip4D xs ys zs us).length = xs.length
  | [], _, _, _, _, _, _ => by simp [zip4D]
  | x :: xs, y :: ys, z :: zs, u :: us, h1, h2, h3 => by
    unfold zip4D
    rw [List.length_cons, List.length_cons, zip4D_len (by simpa using h1) (by simpa using h2) (by simpa using h3)]
  | x :: xs, [], _, _, h, _, _ => by simp at h
  | x :: xs, _ :: _, [], _, _, h, _ => by simp at h
  | x :: xs, _ :: _, _ :: _, [], _, _, h => by simp at h
theorem zip4D_get : ∀ {xs ys zs us : List D} {i : Nat} {d : D}, (zip4D xs ys zs us)[i]? = some d → ∃ x y z u, xs[i]? = some x ∧ ys[i]? = some y ∧ zs[i]? = some z ∧ us[i]? = some u ∧ d = .tup [x, y, z, u]
  | [], _, _, _, i, d, h => by simp [zip4D] at h
  | _ :: _, [], _, _, i, d, h => by simp [zip4D] at h
  | _ :: _, _ :: _, [], _, i, d, h => by simp [zip4D] at h
  | _ :: _, _ :: _, _ :: _, [], i, d, h => by simp [zip4D] at h
  | x :: xs, y :: ys, z :: zs, u :: us, 0, d, h => by
    simp [zip4D] at h
    exact ⟨x, y, z, u, rfl, rfl, rfl, rfl, h.symm⟩
  | x :: xs, y :: ys, z :: zs, u :: us, i + 1, d, h => by
    have h' : (zip4D xs ys zs us)[i]? = some d := by simpa [zip4D] using h
    obtain ⟨a, b, c, e, h1, h2, h3, h4, h5⟩ := zip4D_get h'
    exact ⟨a, b, c, e, by simpa using h1, by simpa using h2, by simpa using h3, by simpa using h4, h5⟩
section
variable {K : PySem.W.Frag} {M : Type} {W : Wd K M} {te ta tb tc : TE} {tt tu : TT} {ts t u : TS} {g : TG} {Γ : Env'} {μ : M} {k : D → M → Prop} {kb : Bool → M → Prop} {O : Outs M} {i j l : Nat} {d x y : D}
theorem dvAll4 {S : Addr → Prop} {H : Hp} {vs : List V} {a b c e : D} (h : DvAll S K H vs [a, b, c, e]) : ∃ v1 v2 v3 v4, vs = [v1, v2, v3, v4] ∧ Dv S K H v1 a ∧ Dv S K H v2 b ∧ Dv S K H v3 c ∧ Dv S K H v4 e := by
  unfold DvAll at h
  obtain ⟨v1, w, rfl, r1, h⟩ := h
  unfold DvAll at h
  obtain ⟨v2, w, rfl, r2, h⟩ := h
  unfold DvAll at h
  obtain ⟨v3, w, rfl, r3, h⟩ := h
  unfold DvAll at h
  obtain ⟨v4, w, rfl, r4, h⟩ := h
  unfold DvAll at h
  subst h
  exact ⟨v1, v2, v3, v4, rfl, r1, r2, r3, r4⟩
theorem tup_of {H : Hp} {v : V} {ds : List D} (h : Dv W.S K H v (.tup ds)) : ∃ a xs, v = .ref a ∧ SqT K H a xs ∧ DvAll W.S K H xs ds := by
  unfold Dv at h
  exact h
theorem ei_zip4 {tA : TA} {ki : List D → M → Prop} (h : EvA W tA Γ μ fun ds μ => ∃ xs ys zs us, ds = [.tup xs, .tup ys, .tup zs, .tup us] ∧ (ys.length = xs.length ∧ zs.length = xs.length ∧ us.length = xs.length) ∧ ki (zip4D xs ys zs us) μ) : EvI W (Z4.iZip4 K tA) Γ μ ki := fun σ H R he hI c => by
  refine h σ H _ he hI fun vs H1 ds μ1 e1 I1 r1 h1 => ?_
  obtain ⟨xs, ys, zs, us, rfl, ⟨l1, l2, l3⟩, q⟩ := h1
  obtain ⟨v1, v2, v3, v4, rfl, r1, r2, r3, r4⟩ := dvAll4 r1
  obtain ⟨a1, as1, rfl, h1, d1⟩ := tup_of r1
  obtain ⟨a2, as2, rfl, h2, d2⟩ := tup_of r2
  obtain ⟨a3, as3, rfl, h3, d3⟩ := tup_of r3
  obtain ⟨a4, as4, rfl, h4, d4⟩ := tup_of r4
  refine ⟨a1, a2, a3, a4, as1, as2, as3, as4, rfl, h1, h2, h3, h4, c _ H1 _ μ1 e1 I1 ⟨fun i H2 μ2 d e e2 I2 => ?_, fun H2 e2 => ?_⟩ q⟩
  · obtain ⟨x, y, z, u, g1, g2, g3, g4, rfl⟩ := zip4D_get e
    obtain ⟨w1, p1, _⟩ := d1.get g1
    obtain ⟨w2, p2, _⟩ := d2.get g2
    obtain ⟨w3, p3, _⟩ := d3.get g3
    obtain ⟨w4, p4, _⟩ := d4.get g4
    refine ⟨⟨as1, as2, as3, as4, w1, w2, w3, w4, e2.sqT h1, e2.sqT h2, e2.sqT h3, e2.sqT h4, p1, p2, p3, p4⟩, fun v H' yl => ?_⟩
    obtain ⟨T, u1, u2, u3, u4, rfl, hT, rfl, f1, f2, f3, f4⟩ := yl
    have := (f1 as1 (e2.sqT h1)).symm.trans p1
    cases this
    have := (f2 as2 (e2.sqT h2)).symm.trans p2
    cases this
    have := (f3 as3 (e2.sqT h3)).symm.trans p3
    cases this
    have := (f4 as4 (e2.sqT h4)).symm.trans p4
    cases this
    refine ⟨.new hT, W.stay _ _ _ I2 (.new hT), fun S' hf hs => ?_⟩
    obtain ⟨w1', k1, q1⟩ := ((d1.sub hs).ext hf e2).get g1
    obtain ⟨w2', k2, q2⟩ := ((d2.sub hs).ext hf e2).get g2
    obtain ⟨w3', k3, q3⟩ := ((d3.sub hs).ext hf e2).get g3
    obtain ⟨w4', k4, q4⟩ := ((d4.sub hs).ext hf e2).get g4
    rw [p1] at k1
    cases k1
    rw [p2] at k2
    cases k2
    rw [p3] at k3
    cases k3
    rw [p4] at k4
    cases k4
    exact dv_newT0 hT (.cons q1 (.cons q2 (.cons q3 (.cons q4 .nil))))
  · refine ⟨as1, as2, as3, as4, e2.sqT h1, e2.sqT h2, e2.sqT h3, e2.sqT h4, ?_⟩
    have := d1.length
    have := zip4D_len l1 l2 l3
    have := d2.length
    have := d3.length
    have := d4.length
    exact ⟨by omega, by omega, by omega, by omega⟩
/-! ### xs[n] op= e, xs the def's own list -/
theorem ex_augO {L : Addr} {hL : ¬ W.S L} {ds : List D} {to ti te : TE} {f : Int → Int → Int} {O : Outs (M × List D)} (h : EvG (W.own L hL) to Γ (μ, ds) fun z w => z = .adr L ∧ w = (μ, ds) ∧ EvG (W.own L hL) ti Γ w fun z w => w = (μ, ds) ∧ ∃ n m a, z = .int n ∧ ixN ds.length n = some m ∧ atI ds n = some (.int a) ∧
      EvG (W.own L hL) te Γ w fun y w => ∃ b, y = .int b ∧ w = (μ, ds) ∧ O.nx Γ (μ, ds.set m (.int (f a b)))) :
    ExG (W.own L hL) (tAugS to ti te (rIxL K) (ipI f) rSetL) Γ (μ, ds) O := fun σ H D he hI G => by
  refine h σ H _ he hI fun v1 H1 d1 m1 e1 I1 r1 h1 => ?_
  obtain ⟨rfl, rfl, h1⟩ := h1
  refine h1 σ H1 _ (he.ext (W.own L hL).sub e1) I1 fun v2 H2 d2 m2 e2 I2 r2 h2 => ?_
  obtain ⟨rfl, n, m, a, rfl, hix, hat, q⟩ := h2
  obtain ⟨J2, xs2, hl2, hd2⟩ := id I2
  obtain ⟨w, h1, h2⟩ := atI_map (R := fun v d => Dv (fun _ => True) K H2 v d) hd2.length (fun i y q => hd2.get q) hat
  refine ⟨L, xs2, n, w, vd_adr r1, vd_int r2, SqL.of hl2, h1, ?_⟩
  refine q σ H2 _ (he.ext (W.own L hL).sub (e1.trans e2)) I2 fun v3 H3 d3 m3 e3 I3 r3 h3 => ?_
  obtain ⟨b, rfl, rfl, q3⟩ := h3
  refine ⟨a, b, vd_int h2, vd_int r3, ?_⟩
  obtain ⟨J3, xs3, hl3, hd3⟩ := I3
  have ew : Ext (W.own L hL).fr H3 (upd H3 L (.lst (xs3.set m (.int (f a b))))) := .wlst (.inr rfl) hl3
  have e14 := ((e1.trans e2).trans e3).trans ew
  refine ⟨L, xs3, n, m, vd_adr r1, vd_int r2, hl3, by rw [hd3.length]; exact hix, G.nx σ _ Γ (μ, ds.set m (.int (f a b))) e14 ⟨W.free _ _ _ _ _ J3 hL hl3, _, upd_same, ?_⟩ (he.ext (W.own L hL).sub e14) q3⟩
  exact dvF_ext (hd3.set dv_int m) ew
/-! ### defs as values -/
theorem eg_callH {P : Program} {w : World} {mg : Str → Option Value} {base : Heap} {lv : Nat} {a : Addr} {c : List D → (D → Prop) → Prop} {tabs : List Addr} {tA : TA} (ht : ∀ P ∈ tabs, P ∈ W.tabs) (ha : Γ[i]? = some (some (.adr a))) (hh : Held P w K mg base lv a (SpP K tabs c)) (h : EvA W tA Γ μ fun ds μ => c ds fun d => k d μ) : EvG W (tCallH P w K mg base lv i tA) Γ μ k := fun σ H Q he hI cc => by
  obtain ⟨v, e, dv⟩ := he.at_ i _ ha
  rw [vd_adr dv] at e
  refine ⟨a, _, e, hh, h σ H _ he hI fun vs H1 ds μ1 e1 I1 r1 h1 => ?_⟩
  exact ⟨W.S, ds, _, r1, fun a z => W.live _ _ _ I1 z, fun P z => W.tab _ _ I1 P (ht P z), h1, fun v H' d e r q => cc v H' d μ1 (e1.trans e.of0) (W.stay _ _ _ I1 e) r q⟩
theorem eg_held {P : Program} {w : World} {mg : Str → Option Value} {base : Heap} {lv : Nat} {sp : Sp} (q : ∀ a, Held P w K mg base lv a sp → k (.adr a) μ) : EvG W (tHeld P w K mg base lv sp) Γ μ k := fun σ H Q he hI c => fun a ha => c _ H (.adr a) μ .refl hI dv_adr (q a ha)
end
section
variable {X : Cx} {j n : Nat} {x : Str} {sp : Sp} {p : Pos}
theorem pe_calV (c : Cal X.prog X.w X.K X.mg X.base n x sp) (hk : n ≤ j) (hg : Gl X x) (hd : (x == ("__debug__" : Str)) = false := by decide) : PE X (.Name x p) (tHeld X.prog X.w X.K X.mg X.base j sp) := by
  refine ⟨fun pins s σ H Q I h => ?_⟩
  obtain ⟨f, fd, ps, F, hm, hkp, hb⟩ := c.ex
  exact (pe_glob (v := .ref f) hg hm rfl hd).run pins s σ H Q I (h f ⟨fd, ps, F.mono hk, hkp, hb⟩)
end
/-! ### defs that may raise -/
theorem lst_rd {H : Hp} {a b : Addr} {xs ys : List V} (e : H a = some (.lst xs)) (r : Rd H b (.tup ys)) : b ≠ a := fun z => by
  subst z
  rcases r with r | ⟨u, r⟩ <;> rw [e] at r <;> cases r
/-- the world of such a def: all that stood stays -/
def wX (K : PySem.W.Frag) (H0 : Hp) (tabs : List Addr) : Wd K Unit where
  S := fun a => H0 a ≠ none
  fr := F0
  tabs := tabs
  I := fun _ H => Ext F0 H0 H ∧ ∀ P ∈ tabs, TabG H P
  sub := fun _ h => h.elim
  live := fun _ _ a h z => h.1.live a z
  tab := fun _ _ h => h.2
  stay := fun _ _ _ h e => ⟨h.1.trans e, fun P z => e.tbl P (h.2 P z)⟩
  free := fun _ H a xs ys h hn e => ⟨⟨fun b o n t q => by
      rw [upd_ne (fun z : b = a => hn (by rw [← z, q]; exact fun z => nomatch z))]
      exact h.1.keep b o n t q, fun b zs r => by
      have r1 := h.1.tup b zs r
      have ne := lst_rd e r1
      rcases r1 with r1 | ⟨u, r1⟩
      · exact .inl (by rw [upd_ne ne]; exact r1)
      · exact .inr ⟨u, by rw [upd_ne ne]; exact r1⟩, fun b z => tabG_upd (h.1.tbl b z) e, fun b z => live_upd (h.1.live b z)⟩, fun P z => tabG_upd (h.2 P z) e⟩
def SpX (K : PySem.W.Frag) (tabs : List Addr) (C : Addr) (c : List D → (D → Prop) → Prop) (x : List D → Prop) : Sp := fun vs H Q E => SpP K tabs c vs H Q E ∨
  ∃ (S : Addr → Prop) (ds : List D), DvAll S K H vs ds ∧ (∀ P ∈ tabs, TabG H P) ∧ x ds ∧ ∀ H', Ext F0 H H' → E (.ref C) none H'
/-- raise X() -/
def tRaise (W : WX) (C : Addr) : TS := fun _ σ H => W (.ref C) none σ H
theorem ex_raise {K : PySem.W.Frag} {M : Type} {W : Wd K M} {Γ : Env'} {μ : M} {O : Outs M} {E : WX} {C : Addr} (h : ∀ σ H, W.I μ H → E (.ref C) none σ H) : ExG W (tRaise E C) Γ μ O := fun σ H D he hI G => h σ H hI
section
variable {P : Program} {w : World} {K : PySem.W.Frag} {mg : Str → Option Value} {base : Heap}
theorem okX {y qual : Str} {st : Stmt} {f : Addr} {fd : FuncData} {N ps : List Str} {k : Nat} {tabs : List Addr} {C : Addr} {c : List D → (D → Prop) → Prop} {x : List D → Prop} (F : Fun K y qual st f fd) (S : FnScope N ps (defScope st)) (len : ∀ ds post, c ds post → ds.length = ps.length) (lenx : ∀ ds, x ds → ds.length = ps.length)
    (fl : ∀ ds post, c ds post → flatAll ds = true) (flx : ∀ ds, x ds → flatAll ds = true)
    (hbody : ∀ (cdv : Value) (A : Around) (outer : List Env) (s : Shared) (H : Hp) (E : XK), Room k (A.deeper (envOfC qual (defScope st) s.heap.objs.size f cdv)) →
      ∃ t, PSs (cxOf (L2.CX P w) P w K mg base N qual (defScope st) f cdv A outer s H E) (defBody st) t ∧ (∀ H0 ds post, c ds post → ExG (wX K H0 tabs) t (Γ0 N ds) () { nx := fun _ _ => post .non, rt := fun d _ => post d }) ∧
        ∀ H0 ds, x ds → (∀ H', Ext F0 H0 H' → E (.ref C) none H') → ExG (wX K H0 tabs) t (Γ0 N ds) () { nx := fun _ _ => False, rt := fun _ _ => False }) : FnOk P w K mg base (L2.CX P w) (k + 1) f fd ps (SpX K tabs C c x) := by
  refine F.okX S (fun vs H Q E h => ?_) fun cdv A outer s H vs Q E hr h => ?_
  · rcases h with ⟨S, ds, post, h1, _, _, h2, _⟩ | ⟨S, ds, h1, _, h2, _⟩
    · exact h1.length.trans (len ds post h2)
    · exact h1.length.trans (lenx ds h2)
  · obtain ⟨t, ht, ha, hb⟩ := hbody cdv A outer s H E hr
    refine ⟨t, ht, ?_⟩
    rcases h with ⟨S, ds, post, h1, h2, h3, h4, q⟩ | ⟨S, ds, h1, h3, h4, q⟩
    · refine ha H ds post h4 (start N vs) H _ (EnvD.start (DvAll.flat ds vs (fl ds post h4) h1)) ⟨.refl, h3⟩ ⟨fun σ' H' Γ' μ' e I' he' q' => q .non H' .non e dv_non q', fun v H' d μ' e I' r q' => q v H' d e (Dv.sub (fun a z _ => h2 a z) _ _ r) q', fun _ _ _ _ _ _ _ z => z.elim, fun _ _ _ _ _ _ _ z => z.elim⟩
    · exact hb H ds h4 q (start N vs) H _ (EnvD.start (DvAll.flat ds vs (flx ds h4) h1)) ⟨.refl, h3⟩ ⟨fun _ _ _ _ _ _ _ z => z.elim, fun _ _ _ _ _ _ _ z => z.elim, fun _ _ _ _ _ _ _ z => z.elim, fun _ _ _ _ _ _ _ z => z.elim⟩
/-- where it does not raise -/
theorem fnX0 {k : Nat} {f : Addr} {fd : FuncData} {ps : List Str} {tabs : List Addr} {C : Addr} {c : List D → (D → Prop) → Prop} {x : List D → Prop} (F : FnOk P w K mg base (L2.CX P w) k f fd ps (SpX K tabs C c x)) : FnOk P w K mg base CX0 k f fd ps (SpP K tabs c) := by
  refine ⟨fun vs H Q E h => F.len vs H Q E (.inl h), fun A outer s H args us vs Q E hr e0 hb rv h => ?_⟩
  have h' : SpP K tabs c vs H Q (fun _ _ _ => False) := h
  refine codeAny_mono (F.run A outer s H args us vs Q (fun _ _ _ => False) hr e0 hb rv (.inl h')) fun r s' z => ?_
  cases r with
  | error e =>
    obtain ⟨_, _, _, _, _, _, _, _, _, _, _, _, z⟩ := z
    exact z.elim
  | ok fl => cases fl <;> exact z
end
/-! ### try: f(..); .. except X as n: .. -/
theorem EnvD.unset {S : Addr → Prop} {K : PySem.W.Frag} {H : Hp} {σ : L2.St} {Γ : Env'} (h : EnvD S K H σ Γ) (i : Nat) : EnvD S K H (σ.set i none) (Γ.set i none) := h.wipe [i]
section
variable {K : PySem.W.Frag} {M : Type} {W : Wd K M} {u : TS} {Γ : Env'} {μ : M} {O : Outs M} {i : Nat} {x y : D} {k : D → M → Prop}
theorem ex_tryX {C : Addr} {c : List D → (D → Prop) → Prop} {xx : List D → Prop} {tabs : List Addr} {ta : TA} {ts : Addr → Value → Option Addr → TS} {Wout : WX} (ht : ∀ P ∈ tabs, P ∈ W.tabs) (hex : PySem.W.exmOne K (.ref C) (.ref C) = some true)
    (h : EvA W ta Γ μ fun ds μ' => xx ds ∧ ∀ a, ExG W (ts a (.ref C) none) (Γ.set i (some (.adr a))) μ' { nx := fun Γ' μ'' => O.nx (Γ'.set i none) μ'', rt := O.rt }) :
    ExG W (fun D σ H => (tSeq (tDrop (tCallS (SpX K tabs C c xx) (WE (wAs K (.ref C) i ts Wout D)) ta)) u) D σ H) Γ μ O := fun σ H D he hI G => by
  refine h σ H _ he hI fun vs H1 ds μ1 e1 I1 r1 h1 => .inr ⟨W.S, ds, r1, fun P z => W.tab _ _ I1 P (ht P z), h1.1, fun H2 e2 => ?_⟩
  refine ⟨true, hex, fun _ a na => ?_, fun z => nomatch z⟩
  have e12 := e1.trans e2.of0
  refine h1.2 a (σ.set i (some (.ref a))) H2 _ ((he.ext W.sub e12).set dv_adr) (W.stay _ _ _ I1 e2) ⟨fun σ' H' Γ' μ' e I' he' q => G.nx _ H' _ μ' (e12.trans e) I' (he'.unset i) q, fun v H' d μ' e I' r q => G.rt v H' d μ' (e12.trans e) I' r q, fun _ _ _ _ _ _ _ z => z.elim, fun _ _ _ _ _ _ _ z => z.elim⟩
theorem dvAll_adr {S : Addr → Prop} {H : Hp} : ∀ {cs : List Addr} {vs : List V}, DvAll S K H vs (cs.map D.adr) → vs = cs.map V.ref
  | [], vs, h => by unfold DvAll at h; exact h
  | c :: r, vs, h => by
    rw [List.map_cons] at h
    unfold DvAll at h
    obtain ⟨v, w, rfl, h1, h2⟩ := h
    rw [vd_adr h1, dvAll_adr h2]
    rfl
theorem rl_isE {C a : Addr} {cs : List Addr} {b : Bool} (hk : PySem.W.kitAny K (.ref C) (cs.map Value.ref) = some b) (q : k (.bl b) μ) : RvL W (rIsE' K C a (.ref C) none) [.adr a, .tup (cs.map D.adr)] μ k := fun vs H Q hI r c => by
  obtain ⟨v, w, rfl, r1, r2⟩ := dv2 r
  rw [vd_adr r1]
  unfold Dv at r2
  obtain ⟨p, xs, rfl, hs, hd⟩ := r2
  rw [dvAll_adr hd] at hs
  exact ⟨rfl, rfl, p, cs, b, rfl, hs, hk, c _ H _ μ .refl hI dv_bl q⟩
end
section
variable {X : Cx} {k i : Nat} {x : Str} {p pos : Pos} {e : Expr} {es : List Expr} {t : TA} {P : Program} {w : World} {K : PySem.W.Frag} {mg : Str → Option Value} {base : Heap}
theorem pe_callH_K (h1 : X.prog = P) (h2 : X.w = w) (h3 : X.K = K) (h4 : X.mg = mg) (h5 : X.base = base) (hr : Room k X.A) (hN : X.N[i]? = some x) (hv : Vis X.env.scope x) (ha : PA X (e :: es) t)
    (hdb : (x == ("__debug__" : Str)) = false := by decide) (hcd : (x == ("__classdict__" : Str)) = false := by decide)
    (he : starEach (e :: es) X.env = (false, eval e X.env) :: starEach es X.env := by rfl) (hpl : (backTo pos (starEach es X.env)).any (·.1) = false := by rfl) : PE X (.Call (.Name x p) (e :: es) [] pos) (tCallH P w K mg base k i t) := by
  subst h1 h2 h3 h4 h5
  exact pe_callH hr hN hv ha hdb hcd he hpl
end
/-! ### a def that may raise, by its name -/
structure CalX (P : Program) (w : World) (K : PySem.W.Frag) (mg : Str → Option Value) (base : Heap) (k : Nat) (x : Str) (sp : Sp) : Prop where
  ex : ∃ (f : Addr) (fd : FuncData) (ps : List Str), FnOk P w K mg base (L2.CX P w) k f fd ps sp ∧ mg x = some (.ref f) ∧ PySem.W.keepIn K (.ref f) = true ∧ Binds K fd ps []
theorem CalX.cal {P : Program} {w : World} {K : PySem.W.Frag} {mg : Str → Option Value} {base : Heap} {k : Nat} {x : Str} {tabs : List Addr} {C : Addr} {c : List D → (D → Prop) → Prop} {xx : List D → Prop} (h : CalX P w K mg base k x (SpX K tabs C c xx)) : Cal P w K mg base k x (SpP K tabs c) := by
  obtain ⟨f, fd, ps, F, a, b, c⟩ := h.ex
  exact ⟨f, fd, ps, fnX0 F, a, b, c⟩
section
variable {X : Cx} {k j : Nat} {x : Str} {sp : Sp} {p pos : Pos} {e : Expr} {es : List Expr} {t : TA} {W : WX}
theorem pe_calX (c : CalX X.prog X.w X.K X.mg X.base k x sp) (tk : Takes X W) (hr : Room j X.A) (hk : k ≤ j) (hg : Gl X x) (ha : PA X (e :: es) t)
    (hdb : (x == ("__debug__" : Str)) = false := by decide) (he : starEach (e :: es) X.env = (false, eval e X.env) :: starEach es X.env := by rfl) (hpl : (backTo pos (starEach es X.env)).any (·.1) = false := by rfl) :
    PE X (.Call (.Name x p) (e :: es) [] pos) (tCallS sp (WE W) t) := by
  obtain ⟨f, fd, ps, F, hm, hkp, hb⟩ := c.ex
  exact pe_callS F (hr.mono hk) hg hm hkp hb (fun σ => passAt tk σ) ha hdb he hpl
end
/-! ### the classes of errors -/
structure ExcT (K : PySem.W.Frag) (mg : Str → Option Value) (C c1 c2 c3 c4 : Addr) : Prop where
  q : PySem.W.excIn K C [.type "ValueError", .type "Exception", .type "BaseException", .type "object"] "ValueError.__new__" = true
  g : mg "NoAnswer" = some (.ref C)
  k : PySem.W.keepIn K (.ref C) = true
  sb : PySem.W.subIn K (.ref C) (.type "BaseException") = some true
  ty : PySem.W.typeIn K (.ref C) = some (.type "type")
  x : ExcC K C
  me : PySem.W.exmOne K (.ref C) (.ref C) = some true
  g1 : mg "BadText" = some (.ref c1)
  g2 : mg "NotAllowed" = some (.ref c2)
  g3 : mg "NotPossible" = some (.ref c3)
  g4 : mg "TooMany" = some (.ref c4)
  no : PySem.W.kitAny K (.ref C) [.ref c1, .ref c2, .ref c3, .ref c4] = some false
theorem ps_raise0 {X : Cx} {C c1 c2 c3 c4 : Addr} {W : WX} {p pos pos' : Pos} (T : ExcT X.K X.mg C c1 c2 c3 c4) (hc : X.calm = true) (tk : Takes X W) (hg : Gl X "NoAnswer") : PS X (.Raise (some (.Call (.Name "NoAnswer" p) [] [] pos)) none pos') (tRaise W C) :=
  ps_raise hc tk (pmk_own0 PySem.F.excBase_ValueError T.q T.g T.k (raises_own T.sb T.ty) hg)
theorem cxK' {CX : CXT} {P : Program} {w : World} {K : PySem.W.Frag} {mg : Str → Option Value} {base : Heap} {N : List Str} {qual : Str} {scope : Scope} {f : Addr} {cdv : Value} {A : Around} {outer : List Env} {s : Shared} {H : Hp} {E : XK} : (cxOf CX P w K mg base N qual scope f cdv A outer s H E).K = K := rfl
section
variable {K : PySem.W.Frag} {M : Type} {W : Wd K M} {te : TE} {Γ : Env'} {μ : M} {k : D → M → Prop}
/-- slices of a list -/
theorem eg_slL {tl th : L2.TO} (h : EvG W te Γ μ fun x μ => EvO W tl Γ μ fun lo μ => EvO W th Γ μ fun hi μ => ∃ xs, x = .lst xs ∧ k (.lst (cutD xs lo hi)) μ) : EvG W (tSl (rSlL K) te tl th) Γ μ k := fun σ H Q he hI c => by
  refine h σ H _ he hI fun v1 H1 d1 μ1 e1 I1 r1 h1 => ?_
  refine h1 σ H1 _ (he.ext W.sub e1) I1 fun lo H2 μ2 e2 I2 h2 => ?_
  refine h2 σ H2 _ (he.ext W.sub (e1.trans e2)) I2 fun hi H3 μ3 e3 I3 h3 => ?_
  obtain ⟨xs, rfl, q⟩ := h3
  have r3 := Dv.ext W.sub (e2.trans e3) _ _ r1
  unfold Dv at r3
  obtain ⟨a, vs, e, _, hs, hd⟩ := r3
  have hl := hd.length
  have hcut : DvAll W.S K H3 (cutV vs lo hi) (cutD xs lo hi) := by
    unfold cutV cutD
    rw [hl]
    exact (hd.drop _).take _
  exact ⟨a, vs, e, SqL.of hs, fun p hp => c _ _ _ μ3 (((e1.trans e2).trans e3).trans (.new hp)) (W.stay _ _ _ I3 (.new hp)) (dv_newL I3 hp hcut) q⟩
theorem r2_neB {a b : Bool} (q : k (.bl (!decide (a = b))) μ) : Rv2 W rNe (.bl a) (.bl b) μ k := fun vx vy H Q hI rx ry c => by
  rw [vd_bl rx, vd_bl ry]
  exact ⟨rfl, by rw [dec_bl]; exact c _ H (.bl (!decide (a = b))) μ .refl hI (by rw [Bool.beq_eq_decide_eq]; exact dv_bl) q⟩
end
theorem ex_seqI {K : PySem.W.Frag} {M : Type} {W : Wd K M} {t u : TS} {Γ : Env'} {μ : M} {O : Outs M} (Pv : Env' → M → Prop) (h : ExG W t Γ μ { O with nx := Pv }) (h2 : ∀ Γ μ, Pv Γ μ → ExG W u Γ μ O) : ExG W (tSeq t u) Γ μ O :=
  ex_seq fun σ H D he hI G => h σ H D he hI ⟨fun σ' H' Γ' μ' e I' he' q => G.nx σ' H' Γ' μ' e I' he' (h2 _ _ q), G.rt, G.bk, G.ct⟩
end DL

namespace DL
open PySem PySem.Spec PyProof.Rows L2 GxR GX
def topS (i : Nat) : Stmt := PySem.Challenge.pw_backtohand_k82_whole_dealings_and_levels.main.body.getD i (.Pass ⟨0, 0, 0, 0⟩)
/-- one step -/
local macro_rules | `(tactic| walk_at "dd1") => `(tactic| first
  | with_reducible refine iteT ?_
  | with_reducible refine iteF ?_
  | with_reducible refine iteNF ?_
  | with_reducible refine iteNT ?_
  | ((with_reducible apply eg_var); exact rfl)
  | ((with_reducible apply rl_isi (b := true)); exact rfl)
  | ((with_reducible apply rl_isi (b := false)); exact rfl)
  | ((with_reducible apply r2_ixT); exact rfl)
  | ((with_reducible apply r2_ixL); exact rfl)
  | ((with_reducible apply r2_isN); exact rfl)
  | ((with_reducible apply r2_notN); exact rfl)
  | ((with_reducible apply eg_call); exact fun _ h => h)
  | ((with_reducible apply eg_callB); (first | exact isBox_B | exact isBox_B.plus _); exact fun _ h => h)
  | with_reducible first
  | refine eg_op ?_
  | refine eg_int ?_
  | refine eg_bl ?_
  | refine eg_str ?_
  | refine eg_non ?_
  | refine eg_ty ?_
  | refine ea_cons ?_
  | refine ea_nil ?_
  | refine eg_cb ?_
  | refine eg_tup ?_
  | refine eg_lst ?_
  | refine eg_if' ?_
  | refine eg_and' ?_
  | refine eg_or' ?_
  | refine eg_notV ?_
  | refine eg_chain' ?_
  | refine eg_un (j := 0) ?_
  | refine eg_slT ?_
  | refine eg_revT ?_
  | refine eo_none ?_
  | refine eo_some ?_
  | refine et_val ?_
  | refine et_test ?_
  | refine et_and' ?_
  | refine et_or' ?_
  | refine et_not ?_
  | refine et_yes ?_
  | refine ex_ret ?_
  | refine ex_if' ?_
  | refine ex_seq ?_
  | refine ex_asg ?_
  | refine ex_par ?_
  | refine ex_par3 ?_
  | refine ex_drop ?_
  | refine ex_next ?_
  | refine as_name ?_
  | refine as_tup2 ?_
  | refine as_tup3 ?_
  | refine as_tup4 ?_
  | refine ei_seq ?_
  | refine ei_rng1 ?_
  | refine ei_rng2 ?_
  | refine ei_zip ?_
  | refine r2_int ?_
  | refine r2_cmp ?_
  | refine r2_ixB0 ?_
  | (refine r2_ixB1 ?_; intro xb)
  | (refine r2_ixB2 ?_; intro xb)
  | refine rl_lenB ?_
  | refine as_setB ?_
  | refine r2_intC' ?_ ?_
  | refine r2_eqI ?_
  | refine r2_neI ?_
  | refine r2_eqB ?_
  | refine r2_eqS ?_
  | refine r2_isB ?_
  | refine r2_notB ?_
  | refine rl_lenT ?_
  | refine rl_lenL ?_
  | refine rl_lenS ?_
  | refine rl_abs ?_
  | refine rl_min2 ?_
  | refine rl_max2 ?_
  | refine rl_gcd ?_
  | refine rl_int ?_
  | refine rl_intB ?_
  | refine rl_sumT ?_
  | refine rl_sumL ?_
  | refine rl_all ?_
  | refine rl_any ?_
  | refine rl_tupL ?_
  | refine rl_lstT ?_
  | refine c0_mk ?_
  | refine c1_mk ?_
  | refine c2_mk ?_
  | refine c3_mk ?_
  | refine c4_mk ?_
  | (show ∃ _, D.adr _ :: _ = D.adr _ :: _ ∧ _; refine ⟨_, rfl, ?_⟩)
  | (show D.adr _ = D.adr _ ∧ _; refine ⟨rfl, ?_⟩)
  | (show (D.int _ = D.int _ ∨ D.int _ = D.int _) ∧ _; first | refine ⟨Or.inl rfl, ?_⟩ | refine ⟨Or.inr rfl, ?_⟩)
  | (show ∃ _, D.tup _ = D.tup _ ∧ _; refine ⟨_, rfl, ?_⟩)
  | (show ∃ _, D.bl _ = D.bl _ ∧ _; refine ⟨_, rfl, ?_⟩)
  | (show ∃ _, D.int _ = D.int _ ∧ _; refine ⟨_, rfl, ?_⟩))
local macro_rules | `(tactic| walk_at "dd") => `(tactic| repeat walk_at "dd1")

section
variable {P : Program} {w : World} {K : PySem.W.Frag} {mg : Str → Option Value} {base : Heap} {tabs : List Addr}
theorem sc_is_number : FnScope ["value", "least", "most"] ["value", "least", "most"] (defScope (topS 9)) := ⟨rfl, rfl, rfl, by decide +kernel, rfl, by decide +kernel, by decide +kernel⟩
theorem ok_is_number {f : Addr} {fd : FuncData} (F : Fun K "is_number" "is_number" (topS 9) f fd) (G : Mg mg)  : FnOk P w K mg base CX0 1 f fd ["value", "least", "most"] (SpP K tabs (c3 kNum)) := by
  refine okP F sc_is_number len3 fun cdv A outer s H E hc hr => ?_
  have nd := (sc_is_number).nd
  refine ⟨_, (pss_one (ps_ret (pe_and (pe_callB (call_isi_K (K := K) rfl) (by rfl) G.isinstance_ bt_isinstance (pa_cons (pv 0) (pa_cons (pe_bltn (v := .ty "int") (by rfl) G.int_ bt_int rfl) pa_nil))) (pe_and (pe_not (pe_callB (call_isi_K (K := K) rfl) (by rfl) G.isinstance_ bt_isinstance (pa_cons (pv 0) (pa_cons (pe_bltn (v := .ty "bool") (by rfl) G.bool_ bt_bool rfl) pa_nil)))) (pe_one (pe_chain op_le op_le (pv 1) (pv 0) (pv 2))))))), fun S ds post h => ?_⟩
  try dsimp only [cxK, cxP, cxW, cxM, cxB, List.map_cons, List.map_nil]
  obtain ⟨v, l, m, rfl, a, b, hv, rfl, rfl, q⟩ := h
  cases v with
  | int i =>
    walk_at "dd"
    refine if_split (fun e => ?_) fun e => ?_
    · walk_at "dd"
      have : numB (.int i) a b = decide (i ≤ b) := by
        show (decide (a ≤ i) && decide (i ≤ b)) = _
        rw [e]; rfl
      rw [this] at q
      exact q
    · have : numB (.int i) a b = false := by
        show (decide (a ≤ i) && decide (i ≤ b)) = _
        rw [e]; rfl
      rw [this] at q
      exact q
  | adr _ => simp [okT, tyD] at hv
  | ty _ => simp [okT, tyD] at hv
  | _ => (walk_at "dd"; exact q)
theorem sc_is_ratio : FnScope ["value", "part"] ["value"] (defScope (topS 11)) := ⟨rfl, rfl, rfl, by decide +kernel, rfl, by decide +kernel, by decide +kernel⟩
theorem ok_is_ratio {f : Addr} {fd : FuncData} {cG pG : Addr} (F : Fun K "is_ratio" "is_ratio" (topS 11) f fd) (G : Mg mg) (m_gcd : mg "gcd" = some (.builtin "math.gcd")) (hcd : fd.code = .ref cG) (TB : TabB base mg cG pG) (hP : pG ∈ tabs) : FnOk P w K mg base CX0 2 f fd ["value"] (SpP K tabs (c1 kIsRatio)) := by
  refine okP F sc_is_ratio len1 fun cdv A outer s H E hc hr => ?_
  have nd := (sc_is_ratio).nd
  have hcode : cdv = .ref cG := hc.trans hcd
  refine ⟨_, (pss_cons (ps_if (pw_or (pt_not (pt_val (pe_callB (call_isi_K (K := K) rfl) (by rfl) G.isinstance_ bt_isinstance (pa_cons (pv 0) (pa_cons (pe_bltn (v := .ty "tuple") (by rfl) G.tuple_ bt_tuple rfl) pa_nil))))) (pw_or1 (pt_cmpR op_ne (pe_callB (call_len_K (K := K) rfl) (by rfl) G.len_ bt_len (pa_cons (pv 0) pa_nil)) pe_int (nomark _)))).pt (pss_one (ps_ret pe_bl)) pss_nil)
      (pss_cons (ps_if (pt_not (pt_val (pe_allG (k := 0) (own := [("part", 1)]) hr (by rfl) G.all_ bt_all TB hcode ⟨rfl, rfl, by decide +kernel, rfl⟩ (blkOk_by (N := ["value", "part"]) (sc := defScope (topS 11)) (by decide +kernel)) nd (pi_seq_K (K := K) rfl (pv 0)) (fun _ _ _ _ _ _ _ hq2 => (pg_name (i := 1) nd rfl (Or.inl rfl))) (fun _ _ _ _ _ _ _ hq2 => (pe_and (pe_callB (call_isi_K (K := K) rfl) (by rfl) G.isinstance_ bt_isinstance (pa_cons (pv 1) (pa_cons (pe_bltn (v := .ty "int") (by rfl) G.int_ bt_int rfl) pa_nil))) (pe_one (pe_not (pe_callB (call_isi_K (K := K) rfl) (by rfl) G.isinstance_ bt_isinstance (pa_cons (pv 1) (pa_cons (pe_bltn (v := .ty "bool") (by rfl) G.bool_ bt_bool rfl) pa_nil))))))) (by intro v; rfl)))) (pss_one (ps_ret pe_bl)) pss_nil)
      (pss_one (ps_ret (pe_and (pe_cmpR op_gt (pe_ix (ix_seq_K (K := K) rfl) (pv 0) pe_int (fun _ _ => rfl)) pe_int (nomark _)) (pe_one (pe_cmpR op_eq (pe_callBfun cr_gcd (by rfl) m_gcd (pa_cons (pe_ix (ix_seq_K (K := K) rfl) (pv 0) pe_int (fun _ _ => rfl)) (pa_cons (pe_ix (ix_seq_K (K := K) rfl) (pv 0) pe_int (fun _ _ => rfl)) pa_nil))) pe_int (nomark _)))))))), fun S ds post h => ?_⟩
  try dsimp only [cxK, cxP, cxW, cxM, cxB, List.map_cons, List.map_nil]
  obtain ⟨v, rfl, b, ok, q⟩ := h
  cases v with
  | adr _ => unfold okD at ok; exact ok.elim
  | ty _ => unfold okD at ok; exact ok.elim
  | tup ds =>
    walk_at "dd"
    refine if_ndec (fun e => ?_) fun e => ?_
    · walk_at "dd"
      rw [ratB_len (by omega)] at q
      exact q
    · match ds, e, ok, q with
      | [a, b'], _, ok, q =>
      walk_at "dd"
      refine eg_allP plainInt hP ?_ hw_name
      walk_at "dd"
      refine ⟨_, .inl rfl, fun x hx μ => ?_, fun μ => ?_⟩
      · have okx := okAll_iff.mp (by unfold okD at ok; exact ok.2) x hx
        cases x with
        | adr _ => unfold okD at okx; exact okx.elim
        | ty _ => unfold okD at okx; exact okx.elim
        | _ => (walk_at "dd"; rfl)
      · walk_at "dd"
        refine if_nsplit (fun hz => ?_) fun hz => ?_
        · walk_at "dd"
          rw [ratB_kind hz] at q
          exact q
        · obtain ⟨x, y, rfl, rfl⟩ := plain_two hz
          walk_at "dd"
          have e2 : isRatB (.tup [.int x, .int y]) = (decide (0 < y) && decide (Nat.gcd x.natAbs y.natAbs = 1)) := rfl
          rw [e2] at q
          refine if_dec (fun hy => ?_) fun hy => ?_
          · walk_at "dd"
            have e3 : decide (((Nat.gcd x.natAbs y.natAbs : Nat) : Int) = 1) = decide (Nat.gcd x.natAbs y.natAbs = 1) := decide_eq_decide.mpr (by omega)
            rw [e3]
            rw [decide_eq_true hy] at q
            exact q
          · rw [decide_eq_false hy] at q
            exact q
  | _ => (walk_at "dd"; exact q)
theorem sc_ratio : FnScope ["p", "q", "common"] ["p", "q"] (defScope (topS 12)) := ⟨rfl, rfl, rfl, by decide +kernel, rfl, by decide +kernel, by decide +kernel⟩
theorem ok_ratio {f : Addr} {fd : FuncData} (F : Fun K "ratio" "ratio" (topS 12) f fd) (G : Mg mg) (m_gcd : mg "gcd" = some (.builtin "math.gcd")) : FnOk P w K mg base CX0 1 f fd ["p", "q"] (SpP K tabs (c2 kRatio)) := by
  refine okP F sc_ratio len2 fun cdv A outer s H E hc hr => ?_
  have nd := (sc_ratio).nd
  refine ⟨_, (pss_cons (ps_set (i := 2) nd rfl (Or.inl rfl) (pe_callBfun cr_gcd (by rfl) m_gcd (pa_cons (pv 0) (pa_cons (pv 1) pa_nil))))
      (pss_cons (ps_if (pt_cmpR op_lt (pv 1) pe_int (nomark _)) (pss_one (ps_set (i := 2) nd rfl (Or.inl rfl) (pe_un un_neg (pv 2)))) pss_nil)
      (pss_one (ps_ret (pe_tup (pa_cons (pe_op op_fdivW (pv 0) (pv 2)) (pa_cons (pe_op op_fdivW (pv 1) (pv 2)) pa_nil))))))), fun S ds post h => ?_⟩
  try dsimp only [cxK, cxP, cxW, cxM, cxB, List.map_cons, List.map_nil]
  obtain ⟨p, q, rfl, x, y, n, rfl, rfl, hy, hb, hn, q⟩ := h
  have gb := gcd_bound (x := x) hy hb
  obtain ⟨r1, r2⟩ := ratio_q x y hy
  walk_at "dd"
  refine if_no (by omega) ?_
  walk_at "dd"
  · refine ⟨by show 2 ≤ sizeLine; decide, ?_⟩
    rw [← r1, ← r2]
    exact q
  · exact divW gb.1 gb.2 hn
  · exact divW gb.1 gb.2 hn
theorem sc_less : FnScope ["a", "b"] ["a", "b"] (defScope (topS 13)) := ⟨rfl, rfl, rfl, by decide +kernel, rfl, by decide +kernel, by decide +kernel⟩
theorem ok_less {f : Addr} {fd : FuncData} (F : Fun K "less" "less" (topS 13) f fd) (G : Mg mg)  : FnOk P w K mg base CX0 1 f fd ["a", "b"] (SpP K tabs (c2 kLess)) := by
  refine okP F sc_less len2 fun cdv A outer s H E hc hr => ?_
  have nd := (sc_less).nd
  refine ⟨_, (pss_one (ps_ret (pe_cmpR op_lt (pe_op op_mulA (pe_ix (ix_seq_K (K := K) rfl) (pv 0) pe_int (fun _ _ => rfl)) (pe_ix (ix_seq_K (K := K) rfl) (pv 1) pe_int (fun _ _ => rfl))) (pe_op op_mulA (pe_ix (ix_seq_K (K := K) rfl) (pv 1) pe_int (fun _ _ => rfl)) (pe_ix (ix_seq_K (K := K) rfl) (pv 0) pe_int (fun _ _ => rfl))) (nomark _)))), fun S ds post h => ?_⟩
  try dsimp only [cxK, cxP, cxW, cxM, cxB, List.map_cons, List.map_nil]
  obtain ⟨a, b, rfl, x, y, n, m, rfl, rfl, hx, hy, hn, q⟩ := h
  walk_at "dd"
  · rw [rat_lt]
    exact q
  · exact mulA hy.1 (den_abs hx) (by omega)
  · exact mulA hx.1 (den_abs hy) (by omega)
def kFloor (a : D) (post : D → Prop) : Prop := ∃ (x : Rat) (n : Nat), a = dR x ∧ Rb n x ∧ n ≤ 9000 ∧ post (.int (x.num / (x.den : Int)))
theorem sc_floor_of : FnScope ["a"] ["a"] (defScope (topS 14)) := ⟨rfl, rfl, rfl, by decide +kernel, rfl, by decide +kernel, by decide +kernel⟩
theorem ok_floor_of {f : Addr} {fd : FuncData} (F : Fun K "floor_of" "floor_of" (topS 14) f fd) (G : Mg mg)  : FnOk P w K mg base CX0 1 f fd ["a"] (SpP K tabs (c1 kFloor)) := by
  refine okP F sc_floor_of len1 fun cdv A outer s H E hc hr => ?_
  have nd := (sc_floor_of).nd
  refine ⟨_, (pss_one (ps_ret (pe_op op_fdivW (pe_ix (ix_seq_K (K := K) rfl) (pv 0) pe_int (fun _ _ => rfl)) (pe_ix (ix_seq_K (K := K) rfl) (pv 0) pe_int (fun _ _ => rfl))))), fun S ds post h => ?_⟩
  try dsimp only [cxK, cxP, cxW, cxM, cxB, List.map_cons, List.map_nil]
  obtain ⟨a, rfl, x, n, rfl, hx, hn, q⟩ := h
  walk_at "dd"
  · exact q
  · exact divW (den_pos x) (den_abs hx) hn
def kCeil (a : D) (post : D → Prop) : Prop := ∃ (x : Rat) (n : Nat), a = dR x ∧ Rb n x ∧ n ≤ 9000 ∧ post (.int (-(-x.num / (x.den : Int))))
theorem sc_ceil_of : FnScope ["a"] ["a"] (defScope (topS 15)) := ⟨rfl, rfl, rfl, by decide +kernel, rfl, by decide +kernel, by decide +kernel⟩
theorem ok_ceil_of {f : Addr} {fd : FuncData} (F : Fun K "ceil_of" "ceil_of" (topS 15) f fd) (G : Mg mg)  : FnOk P w K mg base CX0 1 f fd ["a"] (SpP K tabs (c1 kCeil)) := by
  refine okP F sc_ceil_of len1 fun cdv A outer s H E hc hr => ?_
  have nd := (sc_ceil_of).nd
  refine ⟨_, (pss_one (ps_ret (pe_un un_neg (pe_op op_fdivW (pe_un un_neg (pe_ix (ix_seq_K (K := K) rfl) (pv 0) pe_int (fun _ _ => rfl))) (pe_ix (ix_seq_K (K := K) rfl) (pv 0) pe_int (fun _ _ => rfl)))))), fun S ds post h => ?_⟩
  try dsimp only [cxK, cxP, cxW, cxM, cxB, List.map_cons, List.map_nil]
  obtain ⟨a, rfl, x, n, rfl, hx, hn, q⟩ := h
  walk_at "dd"
  · exact q
  · exact divW (den_pos x) (den_abs hx) hn
def intsB (v : D) (a : Int) : Bool := match v with
  | .tup ds => (decide (1 ≤ ds.length) && decide (ds.length ≤ 24)) && ds.all fun c => numB c a 1000000000
  | _ => false
def kInts (v l : D) (post : D → Prop) : Prop := ∃ (b : Nat) (a : Int), okD b v ∧ l = .int a ∧ post (.bl (intsB v a))
theorem sc_are_integers : FnScope ["value", "least", "part"] ["value", "least"] (defScope (topS 19)) := ⟨rfl, rfl, rfl, by decide +kernel, rfl, by decide +kernel, by decide +kernel⟩
theorem ok_are_integers {f : Addr} {fd : FuncData} {cG pG : Addr} (F : Fun K "are_integers" "are_integers" (topS 19) f fd) (G : Mg mg) {t_MAX_CLAIMS : Tok} (c_MAX_CLAIMS : mg "MAX_CLAIMS" = some (.int 24 t_MAX_CLAIMS)) {t_MAX_SUM : Tok} (c_MAX_SUM : mg "MAX_SUM" = some (.int 1000000000 t_MAX_SUM)) (f_is_number : Cal P w K mg base 1 "is_number" (SpP K tabs (c3 kNum))) (hcd : fd.code = .ref cG) (TB : TabB base mg cG pG) (hP : pG ∈ tabs) : FnOk P w K mg base CX0 3 f fd ["value", "least"] (SpP K tabs (c2 kInts)) := by
  refine okP F sc_are_integers len2 fun cdv A outer s H E hc hr => ?_
  have nd := (sc_are_integers).nd
  have hcode : cdv = .ref cG := hc.trans hcd
  refine ⟨_, (pss_cons (ps_if (pw_or (pt_not (pt_val (pe_callB (call_isi_K (K := K) rfl) (by rfl) G.isinstance_ bt_isinstance (pa_cons (pv 0) (pa_cons (pe_bltn (v := .ty "tuple") (by rfl) G.tuple_ bt_tuple rfl) pa_nil))))) (pw_or1 (pt_not (pt_chain op_le op_le pe_int (pe_callB (call_len_K (K := K) rfl) (by rfl) G.len_ bt_len (pa_cons (pv 0) pa_nil)) (pe_glob (v := .int 24) (by rfl) c_MAX_CLAIMS ⟨_, rfl⟩))))).pt (pss_one (ps_ret pe_bl)) pss_nil)
      (pss_one (ps_ret (pe_allG (k := 1) (own := [("part", 2)]) hr (by rfl) G.all_ bt_all TB hcode ⟨rfl, rfl, by decide +kernel, rfl⟩ (blkOk_by (N := ["value", "least", "part"]) (sc := defScope (topS 19)) (by decide +kernel)) nd (pi_seq_K (K := K) rfl (pv 0)) (fun _ _ _ _ _ _ _ hq2 => (pg_name (i := 2) nd rfl (Or.inl rfl))) (fun _ _ _ _ _ _ _ hq2 => (pe_cal f_is_number hq2 (by decide) (by rfl) (pa_cons (pv 2) (pa_cons (pv 1) (pa_cons (pe_glob (v := .int 1000000000) (by rfl) c_MAX_SUM ⟨_, rfl⟩) pa_nil))))) (by intro v; rfl))))), fun S ds post h => ?_⟩
  try dsimp only [cxK, cxP, cxW, cxM, cxB, List.map_cons, List.map_nil]
  obtain ⟨v, l, rfl, b, a, ok, rfl, q⟩ := h
  cases v with
  | adr _ => unfold okD at ok; exact ok.elim
  | ty _ => unfold okD at ok; exact ok.elim
  | tup ds =>
    have okds := okAll_iff.mp (by unfold okD at ok; exact ok.2)
    have hv : intsB (.tup ds) a = ((decide (1 ≤ ds.length) && decide (ds.length ≤ 24)) && ds.all fun c => numB c a 1000000000) := rfl
    rw [hv] at q
    walk_at "dd"
    refine if_dec (fun h1 => ?_) fun h1 => ?_
    · walk_at "dd"
      refine if_ndec (fun h2 => ?_) fun h2 => ?_
      · rw [decide_eq_false (by omega : ¬ ds.length ≤ 24), Bool.and_false] at q
        walk_at "dd"
        exact q
      · rw [decide_eq_true (by omega : 1 ≤ ds.length), decide_eq_true (by omega : ds.length ≤ 24)] at q
        walk_at "dd"
        refine eg_allP (fun c => numB c a 1000000000) hP ?_ hw_name
        walk_at "dd"
        refine ⟨_, .inl rfl, fun x hx μ => ?_, fun μ => ?_⟩
        · walk_at "dd"
          exact ⟨a, 1000000000, okD_T (okds x hx), rfl, rfl, rfl⟩
        · exact q
    · rw [decide_eq_false (by omega : ¬ 1 ≤ ds.length)] at q
      walk_at "dd"
      exact q
  | _ => (walk_at "dd"; exact q)
def leB : List D → List D → Bool
  | a :: r, b :: s => decide ((isInt a).getD 0 ≤ (isInt b).getD 0) && leB r s
  | _, _ => true
def partsD : D → List D
  | .tup ds => ds
  | _ => []
def jobB : D → Bool
  | .tup [t, ws, ls, hs] => numB t 0 1000000000 && (intsB ws 1 && (intsB ls 0 && (intsB hs 0 && ((decide ((partsD ws).length = (partsD ls).length) && decide ((partsD ws).length = (partsD hs).length)) && leB (partsD ls) (partsD hs)))))
  | _ => false
def kIsJob (v : D) (post : D → Prop) : Prop := ∃ b : Nat, okD b v ∧ post (.bl (jobB v))
theorem jobB_len {ds : List D} (h : ds.length ≠ 4) : jobB (.tup ds) = false := by
  unfold jobB
  split
  · rename_i e
    cases e
    exact absurd rfl h
  · rfl
theorem ints_of {v : D} {a : Int} (h : intsB v a = true) : ∃ ns : List Int, v = .tup (ns.map .int) ∧ (∀ n ∈ ns, a ≤ n ∧ n ≤ 1000000000) ∧ 1 ≤ ns.length ∧ ns.length ≤ 24 := by
  cases v with
  | tup ds =>
    have h' : ((decide (1 ≤ ds.length) && decide (ds.length ≤ 24)) && ds.all fun c => numB c a 1000000000) = true := h
    simp only [Bool.and_eq_true, decide_eq_true_eq] at h'
    obtain ⟨⟨h1, h2⟩, h3⟩ := h'
    obtain ⟨ns, rfl, hn⟩ := num_all h3
    rw [List.length_map] at h1 h2
    exact ⟨ns, rfl, hn, h1, h2⟩
  | _ => cases h
def leI : List Int → List Int → Bool
  | a :: r, b :: s => decide (a ≤ b) && leI r s
  | _, _ => true
theorem leB_ints : ∀ (ls hs : List Int), leB (ls.map D.int) (hs.map D.int) = leI ls hs
  | [], _ => rfl
  | _ :: _, [] => rfl
  | a :: r, b :: s => by
    rw [List.map_cons, List.map_cons]
    unfold leB leI
    rw [leB_ints r s]
    rfl
def leD : D → Bool
  | .tup [.int a, .int b] => decide (a ≤ b)
  | _ => false
theorem le_zip : ∀ (ls hs : List Int), (zipD (ls.map D.int) (hs.map D.int)).all leD = leI ls hs
  | [], _ => rfl
  | _ :: _, [] => rfl
  | a :: r, b :: s => by
    rw [List.map_cons, List.map_cons]
    unfold leI
    rw [show zipD (D.int a :: r.map D.int) (D.int b :: s.map D.int) = .tup [.int a, .int b] :: zipD (r.map D.int) (s.map D.int) from rfl, List.all_cons, le_zip r s]
    rfl
theorem sc_is_job : FnScope ["value", "low", "high"] ["value"] (defScope (topS 20)) := ⟨rfl, rfl, rfl, by decide +kernel, rfl, by decide +kernel, by decide +kernel⟩
theorem ok_is_job {f : Addr} {fd : FuncData} {cG pG : Addr} (F : Fun K "is_job" "is_job" (topS 20) f fd) (G : Mg mg) {t_MAX_SUM : Tok} (c_MAX_SUM : mg "MAX_SUM" = some (.int 1000000000 t_MAX_SUM)) (f_are_integers : Cal P w K mg base 3 "are_integers" (SpP K tabs (c2 kInts))) (f_is_number : Cal P w K mg base 1 "is_number" (SpP K tabs (c3 kNum))) (hcd : fd.code = .ref cG) (TB : TabB base mg cG pG) (hP : pG ∈ tabs) : FnOk P w K mg base CX0 4 f fd ["value"] (SpP K tabs (c1 kIsJob)) := by
  refine okP F sc_is_job len1 fun cdv A outer s H E hc hr => ?_
  have nd := (sc_is_job).nd
  have hcode : cdv = .ref cG := hc.trans hcd
  refine ⟨_, (pss_cons (ps_if (pw_or (pt_not (pt_val (pe_callB (call_isi_K (K := K) rfl) (by rfl) G.isinstance_ bt_isinstance (pa_cons (pv 0) (pa_cons (pe_bltn (v := .ty "tuple") (by rfl) G.tuple_ bt_tuple rfl) pa_nil))))) (pw_or (pt_cmpR op_ne (pe_callB (call_len_K (K := K) rfl) (by rfl) G.len_ bt_len (pa_cons (pv 0) pa_nil)) pe_int (nomark _)) (pw_or1 (pt_not (pt_val (pe_cal f_is_number hr (by decide) (by rfl) (pa_cons (pe_ix (ix_seq_K (K := K) rfl) (pv 0) pe_int (fun _ _ => rfl)) (pa_cons pe_int (pa_cons (pe_glob (v := .int 1000000000) (by rfl) c_MAX_SUM ⟨_, rfl⟩) pa_nil))))))))).pt (pss_one (ps_ret pe_bl)) pss_nil)
      (pss_cons (ps_if (pw_or (pt_not (pt_val (pe_cal f_are_integers hr (by decide) (by rfl) (pa_cons (pe_ix (ix_seq_K (K := K) rfl) (pv 0) pe_int (fun _ _ => rfl)) (pa_cons pe_int pa_nil))))) (pw_or (pt_not (pt_val (pe_cal f_are_integers hr (by decide) (by rfl) (pa_cons (pe_ix (ix_seq_K (K := K) rfl) (pv 0) pe_int (fun _ _ => rfl)) (pa_cons pe_int pa_nil))))) (pw_or1 (pt_not (pt_val (pe_cal f_are_integers hr (by decide) (by rfl) (pa_cons (pe_ix (ix_seq_K (K := K) rfl) (pv 0) pe_int (fun _ _ => rfl)) (pa_cons pe_int pa_nil)))))))).pt (pss_one (ps_ret pe_bl)) pss_nil)
      (pss_cons (ps_if (pw_or (pt_cmpR op_ne (pe_callB (call_len_K (K := K) rfl) (by rfl) G.len_ bt_len (pa_cons (pe_ix (ix_seq_K (K := K) rfl) (pv 0) pe_int (fun _ _ => rfl)) pa_nil)) (pe_callB (call_len_K (K := K) rfl) (by rfl) G.len_ bt_len (pa_cons (pe_ix (ix_seq_K (K := K) rfl) (pv 0) pe_int (fun _ _ => rfl)) pa_nil)) (nomark _)) (pw_or1 (pt_cmpR op_ne (pe_callB (call_len_K (K := K) rfl) (by rfl) G.len_ bt_len (pa_cons (pe_ix (ix_seq_K (K := K) rfl) (pv 0) pe_int (fun _ _ => rfl)) pa_nil)) (pe_callB (call_len_K (K := K) rfl) (by rfl) G.len_ bt_len (pa_cons (pe_ix (ix_seq_K (K := K) rfl) (pv 0) pe_int (fun _ _ => rfl)) pa_nil)) (nomark _)))).pt (pss_one (ps_ret pe_bl)) pss_nil)
      (pss_one (ps_ret (pe_allG (k := 2) (own := [("low", 1), ("high", 2)]) hr (by rfl) G.all_ bt_all TB hcode ⟨rfl, rfl, by decide +kernel, rfl⟩ (blkOk_by (N := ["value", "low", "high"]) (sc := defScope (topS 20)) (by decide +kernel)) nd (pi_zipK false false (by rfl) G.zip_ (pa_cons (pe_ix (ix_seq_K (K := K) rfl) (pv 0) pe_int (fun _ _ => rfl)) (pa_cons (pe_ix (ix_seq_K (K := K) rfl) (pv 0) pe_int (fun _ _ => rfl)) pa_nil))) (fun _ _ _ _ _ _ _ hq2 => (pg_tup_K (n := 2) (K := K) rfl rfl (pgs_cons (pg_name (i := 1) nd rfl (Or.inl rfl)) (pgs_cons (pg_name (i := 2) nd rfl (Or.inl rfl)) pgs_nil)))) (fun _ _ _ _ _ _ _ hq2 => (pe_cmpR op_le (pv 1) (pv 2) (nomark _))) (by intro v; rfl))))))), fun S ds post h => ?_⟩
  try dsimp only [cxK, cxP, cxW, cxM, cxB, List.map_cons, List.map_nil]
  obtain ⟨v, rfl, b, ok, q⟩ := h
  cases v with
  | adr _ => unfold okD at ok; exact ok.elim
  | ty _ => unfold okD at ok; exact ok.elim
  | tup ds =>
    walk_at "dd"
    refine if_ndec (fun e => ?_) fun e => ?_
    · walk_at "dd"
      rw [jobB_len (by omega)] at q
      exact q
    · match ds, e, ok, q with
      | [t, ws, ls, hs], _, ok, q =>
      have okp := okAll_iff.mp (by unfold okD at ok; exact ok.2)
      have hj : jobB (.tup [t, ws, ls, hs]) = (numB t 0 1000000000 && (intsB ws 1 && (intsB ls 0 && (intsB hs 0 && ((decide ((partsD ws).length = (partsD ls).length) && decide ((partsD ws).length = (partsD hs).length)) && leB (partsD ls) (partsD hs)))))) := rfl
      rw [hj] at q
      walk_at "dd"
      refine ⟨0, 1000000000, okD_T (okp t (by simp)), rfl, rfl, ?_⟩
      walk_at "dd"
      refine if_nsplit (fun h1 => ?_) fun h1 => ?_
      · rw [h1] at q
        walk_at "dd"
        exact q
      rw [h1] at q
      walk_at "dd"
      refine ⟨b, 1, okp ws (by simp), rfl, ?_⟩
      walk_at "dd"
      refine if_nsplit (fun h2 => ?_) fun h2 => ?_
      · rw [h2] at q
        walk_at "dd"
        exact q
      rw [h2] at q
      walk_at "dd"
      refine ⟨b, 0, okp ls (by simp), rfl, ?_⟩
      walk_at "dd"
      refine if_nsplit (fun h3 => ?_) fun h3 => ?_
      · rw [h3] at q
        walk_at "dd"
        exact q
      rw [h3] at q
      walk_at "dd"
      refine ⟨b, 0, okp hs (by simp), rfl, ?_⟩
      walk_at "dd"
      refine if_nsplit (fun h4 => ?_) fun h4 => ?_
      · rw [h4] at q
        walk_at "dd"
        exact q
      rw [h4] at q
      obtain ⟨wi, rfl, hw, w1, w2⟩ := ints_of h2
      obtain ⟨li, rfl, hl, l1, l2⟩ := ints_of h3
      obtain ⟨hi, rfl, hh, i1, i2⟩ := ints_of h4
      rw [show partsD (.tup (wi.map .int)) = wi.map .int from rfl, show partsD (.tup (li.map .int)) = li.map .int from rfl, show partsD (.tup (hi.map .int)) = hi.map .int from rfl, leB_ints] at q
      walk_at "dd"
      refine if_ndec (fun h5 => ?_) fun h5 => ?_
      · rw [decide_eq_false (by omega : ¬ (wi.map D.int).length = (li.map D.int).length)] at q
        walk_at "dd"
        exact q
      rw [decide_eq_true (by omega : (wi.map D.int).length = (li.map D.int).length)] at q
      walk_at "dd"
      refine if_ndec (fun h6 => ?_) fun h6 => ?_
      · rw [decide_eq_false (by omega : ¬ (wi.map D.int).length = (hi.map D.int).length)] at q
        walk_at "dd"
        exact q
      rw [decide_eq_true (by omega : (wi.map D.int).length = (hi.map D.int).length)] at q
      walk_at "dd"
      refine eg_allP leD hP ?_ (hw_two (by decide))
      walk_at "dd"
      refine ⟨li.map .int, hi.map .int, rfl, by omega, fun x hx μ => ?_, fun μ => ?_⟩
      · obtain ⟨i, hi⟩ := List.mem_iff_getElem?.mp hx
        obtain ⟨p, c, e1, e2, rfl⟩ := zipD_get hi
        obtain ⟨p', _, rfl⟩ := List.mem_map.mp (List.mem_of_getElem? e1)
        obtain ⟨c', _, rfl⟩ := List.mem_map.mp (List.mem_of_getElem? e2)
        walk_at "dd"
        rfl
      · rw [le_zip]
        exact q
  | _ => (walk_at "dd"; exact q)
def dealAt (J : Job) (ds : List D) (k : Nat) : Bool := numB ((ds[k]?).getD .non) ((J.ls[k]?).getD 0) ((J.hs[k]?).getD 0)
def dealB (J : Job) : D → Bool
  | .tup ds => decide (ds.length = J.ws.length) && ((List.range J.ws.length).all (dealAt J ds) && decide ((ds.map fun c => (isInt c).getD 0).sum = J.t))
  | _ => false
def kIsDeal (job v : D) (post : D → Prop) : Prop := ∃ (J : Job) (b : Nat), job = jobD J ∧ JobOk J ∧ okD b v ∧ post (.bl (dealB J v))
theorem deal_ints {J : Job} {ds : List D} (hl : ds.length = J.ws.length) (h : (List.range J.ws.length).all (dealAt J ds) = true) : ∃ ns : List Int, ds = ns.map .int := by
  have : ∀ d ∈ ds, ∃ i, d = .int i := fun d hd => by
    obtain ⟨k, hk⟩ := List.mem_iff_getElem?.mp hd
    have hlt := (List.getElem?_eq_some_iff.mp hk).1
    have := List.all_eq_true.mp h k (List.mem_range.mpr (by omega))
    unfold dealAt at this
    rw [hk] at this
    cases d with
    | int i => exact ⟨i, rfl⟩
    | _ => cases this
  clear h hl
  induction ds with
  | nil => exact ⟨[], rfl⟩
  | cons d r ih =>
    obtain ⟨i, rfl⟩ := this d List.mem_cons_self
    obtain ⟨ns, rfl⟩ := ih fun z hz => this z (List.mem_cons_of_mem _ hz)
    exact ⟨i :: ns, rfl⟩
def dealD (J : Job) (ds : List D) : D → Bool
  | .int j => dealAt J ds j.toNat
  | _ => false
theorem deal_all (J : Job) (ds : List D) (n : Nat) : (rangeD 0 n).all (dealD J ds) = (List.range n).all (dealAt J ds) := by
  unfold rangeD
  rw [List.all_map]
  refine congrArg (fun f => (List.range n).all f) (funext fun k => ?_)
  show dealAt J ds ((0 : Int) + (k : Int)).toNat = _
  rw [show ((0 : Int) + (k : Int)).toNat = k by omega]
theorem sc_is_dealing : FnScope ["job", "value", "total", "weights", "lows", "highs", "k"] ["job", "value"] (defScope (topS 21)) := ⟨rfl, rfl, rfl, by decide +kernel, rfl, by decide +kernel, by decide +kernel⟩
theorem ok_is_dealing {f : Addr} {fd : FuncData} {cG pG : Addr} (F : Fun K "is_dealing" "is_dealing" (topS 21) f fd) (G : Mg mg) (f_is_number : Cal P w K mg base 1 "is_number" (SpP K tabs (c3 kNum))) (hcd : fd.code = .ref cG) (TB : TabB base mg cG pG) (hP : pG ∈ tabs) : FnOk P w K mg base CX0 3 f fd ["job", "value"] (SpP K tabs (c2 kIsDeal)) := by
  refine okP F sc_is_dealing len2 fun cdv A outer s H E hc hr => ?_
  have nd := (sc_is_dealing).nd
  have hcode : cdv = .ref cG := hc.trans hcd
  refine ⟨_, (pss_cons (ps_asg (pv 0) (pg_tup_K (n := 4) (K := K) rfl rfl (pgs_cons (pg_name (i := 2) nd rfl (Or.inl rfl)) (pgs_cons (pg_name (i := 3) nd rfl (Or.inl rfl)) (pgs_cons (pg_name (i := 4) nd rfl (Or.inr rfl)) (pgs_cons (pg_name (i := 5) nd rfl (Or.inr rfl)) pgs_nil))))))
      (pss_cons (ps_if (pw_or (pt_not (pt_val (pe_callB (call_isi_K (K := K) rfl) (by rfl) G.isinstance_ bt_isinstance (pa_cons (pv 1) (pa_cons (pe_bltn (v := .ty "tuple") (by rfl) G.tuple_ bt_tuple rfl) pa_nil))))) (pw_or1 (pt_cmpR op_ne (pe_callB (call_len_K (K := K) rfl) (by rfl) G.len_ bt_len (pa_cons (pv 1) pa_nil)) (pe_callB (call_len_K (K := K) rfl) (by rfl) G.len_ bt_len (pa_cons (pv 3) pa_nil)) (nomark _)))).pt (pss_one (ps_ret pe_bl)) pss_nil)
      (pss_one (ps_ret (pe_and (pe_allG (k := 1) (own := [("k", 6)]) hr (by rfl) G.all_ bt_all TB hcode ⟨rfl, rfl, by decide +kernel, rfl⟩ (blkOk_by (N := ["job", "value", "total", "weights", "lows", "highs", "k"]) (sc := defScope (topS 21)) (by decide +kernel)) nd (pi_range1 (by rfl) G.range_ (pa_cons (pe_callB (call_len_K (K := K) rfl) (by rfl) G.len_ bt_len (pa_cons (pv 3) pa_nil)) pa_nil)) (fun _ _ _ _ _ _ _ hq2 => (pg_name (i := 6) nd rfl (Or.inl rfl))) (fun _ _ _ _ _ _ _ hq2 => (pe_cal f_is_number hq2 (by decide) (by rfl) (pa_cons (pe_ix (ix_seq_K (K := K) rfl) (pv 1) (pv 6) (fun _ _ => rfl)) (pa_cons (pe_ix (ix_seq_K (K := K) rfl) (pv 4) (pv 6) (fun _ _ => rfl)) (pa_cons (pe_ix (ix_seq_K (K := K) rfl) (pv 5) (pv 6) (fun _ _ => rfl)) pa_nil))))) (by intro v; rfl)) (pe_one (pe_cmpR op_eq (pe_callB (cr_sum_K (K := K) rfl rfl) (by rfl) G.sum_ bt_sum (pa_cons (pv 1) pa_nil)) (pv 2) (nomark _)))))))), fun S ds post h => ?_⟩
  try dsimp only [cxK, cxP, cxW, cxM, cxB, List.map_cons, List.map_nil]
  obtain ⟨job, v, rfl, J, b, rfl, hJ, ok, q⟩ := h
  have h24 := hJ.n.2
  have hll := hJ.l
  have hhl := hJ.h
  walk_at "dd"
  cases v with
  | adr _ => unfold okD at ok; exact ok.elim
  | ty _ => unfold okD at ok; exact ok.elim
  | tup ds =>
    have okds := okAll_iff.mp (by unfold okD at ok; exact ok.2)
    have hdv : dealB J (.tup ds) = (decide (ds.length = J.ws.length) && ((List.range J.ws.length).all (dealAt J ds) && decide ((ds.map fun c => (isInt c).getD 0).sum = J.t))) := rfl
    rw [hdv] at q
    walk_at "dd"
    rw [List.length_map]
    refine if_ndec (fun h1 => ?_) fun h1 => ?_
    · rw [decide_eq_false (by omega : ¬ ds.length = J.ws.length)] at q
      walk_at "dd"
      exact q
    · have hl : ds.length = J.ws.length := by omega
      rw [decide_eq_true hl] at q
      walk_at "dd"
      refine eg_allP (dealD J ds) hP ?_ hw_name
      walk_at "dd"
      rw [List.length_map]
      refine ⟨_, rfl, by omega, by omega, ?_⟩
      rw [show ((J.ws.length : Nat) : Int).toNat = J.ws.length by omega]
      refine ⟨fun x hx μ => ?_, fun μ => ?_⟩
      · obtain ⟨k, hk, rfl⟩ := mem_range hx
        have e0 := List.getElem?_eq_getElem (show k < ds.length by omega)
        have e1 := List.getElem?_eq_getElem (show k < J.ls.length by omega)
        have e2 := List.getElem?_eq_getElem (show k < J.hs.length by omega)
        have d1 : (J.ls.map D.int)[k]? = some (.int J.ls[k]) := by rw [List.getElem?_map, e1]; rfl
        have d2 : (J.hs.map D.int)[k]? = some (.int J.hs[k]) := by rw [List.getElem?_map, e2]; rfl
        walk_at "dd"
        refine r2_ixT (at0 e0) ?_
        walk_at "dd"
        refine r2_ixT (at0 d1) ?_
        walk_at "dd"
        refine r2_ixT (at0 d2) ?_
        walk_at "dd"
        refine ⟨_, _, okD_T (okds _ (List.mem_of_getElem? e0)), rfl, rfl, ?_⟩
        show _ = D.bl (dealAt J ds ((0 : Int) + (k : Int)).toNat)
        rw [show ((0 : Int) + (k : Int)).toNat = k by omega]
        unfold dealAt
        rw [e0, e1, e2]
        rfl
      · rw [deal_all]
        refine ⟨_, rfl, ?_⟩
        refine if_split (fun h3 => ?_) fun h3 => ?_
        · rw [h3] at q
          obtain ⟨ns, rfl⟩ := deal_ints hl h3
          rw [getD_ints] at q
          walk_at "dd"
          exact q
        · rw [h3] at q
          exact q
  | _ => (walk_at "dd"; exact q)
def kIsLevel (job de v : D) (post : D → Prop) : Prop := ∃ (J : Job) (xs : List Int) (b : Nat), job = jobD J ∧ JobOk J ∧ de = .tup (xs.map .int) ∧ xs.length = J.ws.length ∧ (∀ x ∈ xs, -2000000000 ≤ x ∧ x ≤ 2000000000) ∧ okD b v ∧ b ≤ 8000 ∧ post (.bl (levelB J xs v))
theorem small_p {x c : Int} (h1 : -2000000000 ≤ x) (h2 : x ≤ 2000000000) (hc : -1 ≤ c ∧ c ≤ 1) : (2 * x + c).natAbs < 2 ^ 40 := by
  have : (2 : Nat) ^ 40 = 1099511627776 := by decide
  omega
theorem small_w {w : Int} (h1 : 0 < w) (h2 : w ≤ 1000000000) : w.natAbs < 2 ^ 40 := by
  have : (2 : Nat) ^ 40 = 1099511627776 := by decide
  omega
theorem sc_is_level : FnScope ["job", "dealing", "value", "total", "weights", "lows", "highs", "x", "weight", "low", "high"] ["job", "dealing", "value"] (defScope (topS 22)) := ⟨rfl, rfl, rfl, by decide +kernel, rfl, by decide +kernel, by decide +kernel⟩
theorem ok_is_level {f : Addr} {fd : FuncData} (F : Fun K "is_level" "is_level" (topS 22) f fd) (G : Mg mg) (f_is_ratio : Cal P w K mg base 2 "is_ratio" (SpP K tabs (c1 kIsRatio))) (f_less : Cal P w K mg base 1 "less" (SpP K tabs (c2 kLess))) (f_ratio : Cal P w K mg base 1 "ratio" (SpP K tabs (c2 kRatio))) : FnOk P w K mg base CX0 3 f fd ["job", "dealing", "value"] (SpP K tabs (c3 kIsLevel)) := by
  refine okP F sc_is_level len3 fun cdv A outer s H E hc hr => ?_
  have nd := (sc_is_level).nd
  refine ⟨_, (pss_cons (ps_if (pt_not (pt_val (pe_cal f_is_ratio hr (by decide) (by rfl) (pa_cons (pv 2) pa_nil)))) (pss_one (ps_ret pe_bl)) pss_nil)
      (pss_cons (ps_asg (pv 0) (pg_tup_K (n := 4) (K := K) rfl rfl (pgs_cons (pg_name (i := 3) nd rfl (Or.inl rfl)) (pgs_cons (pg_name (i := 4) nd rfl (Or.inl rfl)) (pgs_cons (pg_name (i := 5) nd rfl (Or.inl rfl)) (pgs_cons (pg_name (i := 6) nd rfl (Or.inl rfl)) pgs_nil))))))
      (pss_cons (ps_for PassesOwn.never rfl (Z4.pi_zip4 (by rfl) G.zip_ (pa_cons (pv 1) (pa_cons (pv 4) (pa_cons (pv 5) (pa_cons (pv 6) pa_nil))))) (pg_tup_K (n := 4) (K := K) rfl rfl (pgs_cons (pg_name (i := 7) nd rfl (Or.inl rfl)) (pgs_cons (pg_name (i := 8) nd rfl (Or.inl rfl)) (pgs_cons (pg_name (i := 9) nd rfl (Or.inl rfl)) (pgs_cons (pg_name (i := 10) nd rfl (Or.inl rfl)) pgs_nil))))) (pss_cons (ps_if (pw_and (pt_cmpR op_gt (pv 7) (pv 9) (nomark _)) (pw_and1 (pt_val (pe_cal f_less hr (by decide) (by rfl) (pa_cons (pv 2) (pa_cons (pe_cal f_ratio hr (by decide) (by rfl) (pa_cons (pe_op op_sub (pe_op op_mulA pe_int (pv 7)) pe_int) (pa_cons (pv 8) pa_nil))) pa_nil)))))).pt (pss_one (ps_ret pe_bl)) pss_nil)
      (pss_one (ps_if (pw_and (pt_cmpR op_lt (pv 7) (pv 10) (nomark _)) (pw_and1 (pt_val (pe_cal f_less hr (by decide) (by rfl) (pa_cons (pe_cal f_ratio hr (by decide) (by rfl) (pa_cons (pe_op op_add (pe_op op_mulA pe_int (pv 7)) pe_int) (pa_cons (pv 8) pa_nil))) (pa_cons (pv 2) pa_nil)))))).pt (pss_one (ps_ret pe_bl)) pss_nil))))
      (pss_one (ps_ret pe_bl))))), fun S ds post h => ?_⟩
  try dsimp only [cxK, cxP, cxW, cxM, cxB, List.map_cons, List.map_nil]
  obtain ⟨job, de, v, rfl, J, xs, b, rfl, hJ, rfl, hx, hxb, ok, hb, q⟩ := h
  have h24 := hJ.n.2
  have hll := hJ.l
  have hhl := hJ.h
  walk_at "dd"
  refine ⟨b, ok, ?_⟩
  walk_at "dd"
  refine if_nsplit (fun h1 => ?_) fun h1 => ?_
  · rw [levelB_no h1] at q
    walk_at "dd"
    exact q
  have ev := dR_of h1
  generalize toR v = r at ev
  subst ev
  have hr := okD_Rb ok
  rw [levelB_dR] at q
  walk_at "dd"
  refine ex_for ?_
  refine ei_zip4 ?_
  walk_at "dd"
  refine ⟨_, _, _, _, rfl, ⟨by simp; omega, by simp; omega, by simp; omega⟩, ?_⟩
  refine ⟨fun i Γ _ => (∃ z7 z8 z9 z10, Γ = [some (jobD J), some (.tup (xs.map .int)), some (dR r), some (.int J.t), some (.tup (J.ws.map .int)), some (.tup (J.ls.map .int)), some (.tup (J.hs.map .int)), z7, z8, z9, z10]) ∧ ∀ k, k < i → k < J.ws.length → levAt r.num (r.den : Int) J.ps xs k = true, ⟨⟨none, none, none, none, rfl⟩, fun k h => by omega⟩, ?_, ?_⟩
  · rintro i y Γ μ hy ⟨⟨z7, z8, z9, z10, rfl⟩, hl⟩
    obtain ⟨dx, dw, dl, dh, e0, e1, e2, e3, rfl⟩ := zip4D_get hy
    rw [List.getElem?_map] at e0 e1 e2 e3
    obtain ⟨x, g0, rfl⟩ := Option.map_eq_some_iff.mp e0
    obtain ⟨w, g1, rfl⟩ := Option.map_eq_some_iff.mp e1
    obtain ⟨l, g2, rfl⟩ := Option.map_eq_some_iff.mp e2
    obtain ⟨hi, g3, rfl⟩ := Option.map_eq_some_iff.mp e3
    have hp := plcs_get g1 g2 g3
    have hlv := levAt_at (a := r.num) (b := (r.den : Int)) hp g0
    have xb := hxb x (List.mem_of_getElem? g0)
    have wb := hJ.w w (List.mem_of_getElem? g1)
    have hik : i < J.ws.length := (List.getElem?_eq_some_iff.mp g1).1
    have step : levAt r.num (r.den : Int) J.ps xs i = true → ∀ k, k < i + 1 → k < J.ws.length → levAt r.num (r.den : Int) J.ps xs k = true := fun h k h1 h2 => by
      by_cases e : k = i
      · subst e; exact h
      · exact hl k (by omega) h2
    have r1 : Rb 40 (((2 * x - 1 : Int) : Rat) / (w : Rat)) := Rb.div (by omega) (small_p xb.1 xb.2 (c := -1) (by omega)) (small_w (by omega) wb.2)
    have r2 : Rb 40 (((2 * x + 1 : Int) : Rat) / (w : Rat)) := Rb.div (by omega) (small_p xb.1 xb.2 (c := 1) (by omega)) (small_w (by omega) wb.2)
    walk_at "dd"
    refine if_dec (fun c1 => ?_) fun c1 => ?_
    · walk_at "dd"
      · refine ⟨2 * x - 1, w, 40, rfl, rfl, by omega, small_w (by omega) wb.2, by omega, ?_⟩
        walk_at "dd"
        refine ⟨_, _, b, 40, rfl, rfl, hr, r1, by omega, ?_⟩
        walk_at "dd"
        refine if_dec (fun c2 => ?_) fun c2 => ?_
        · walk_at "dd"
          have hno : levAt r.num (r.den : Int) J.ps xs i = false := by
            rw [hlv]
            unfold levB
            dsimp only
            rw [decide_eq_true c1, decide_eq_true ((div_gt_rat (by omega)).mp c2)]
            simp
          rw [all_false hik hno] at q
          exact q
        · have hA : (decide (l < x) && decide (r.num * w < (2 * x - 1) * (r.den : Int))) = false := by
            rw [decide_eq_false (fun z => c2 ((div_gt_rat (by omega)).mpr z)), Bool.and_false]
          walk_at "dd"
          refine if_dec (fun c3 => ?_) fun c3 => ?_
          · walk_at "dd"
            · refine ⟨2 * x + 1, w, 40, rfl, rfl, by omega, small_w (by omega) wb.2, by omega, ?_⟩
              walk_at "dd"
              refine ⟨_, _, 40, b, rfl, rfl, r2, hr, by omega, ?_⟩
              walk_at "dd"
              refine if_dec (fun c4 => ?_) fun c4 => ?_
              · walk_at "dd"
                have hno : levAt r.num (r.den : Int) J.ps xs i = false := by
                  rw [hlv]
                  unfold levB
                  dsimp only
                  rw [decide_eq_true c3, decide_eq_true ((div_lt_rat (by omega)).mp c4)]
                  simp
                rw [all_false hik hno] at q
                exact q
              · walk_at "dd"
                refine ⟨⟨_, _, _, _, rfl⟩, step ?_⟩
                rw [hlv]
                unfold levB
                dsimp only
                rw [decide_eq_false (fun z => c4 ((div_lt_rat (by omega)).mpr z)), hA]
                simp
            · exact mulS ⟨by decide, by decide⟩
          · walk_at "dd"
            refine ⟨⟨_, _, _, _, rfl⟩, step ?_⟩
            rw [hlv]
            unfold levB
            dsimp only
            rw [decide_eq_false c3, hA]
            simp
      · exact mulS ⟨by decide, by decide⟩
    · have hA : (decide (l < x) && decide (r.num * w < (2 * x - 1) * (r.den : Int))) = false := by
        rw [decide_eq_false c1, Bool.false_and]
      walk_at "dd"
      refine if_dec (fun c3 => ?_) fun c3 => ?_
      · walk_at "dd"
        · refine ⟨2 * x + 1, w, 40, rfl, rfl, by omega, small_w (by omega) wb.2, by omega, ?_⟩
          walk_at "dd"
          refine ⟨_, _, 40, b, rfl, rfl, r2, hr, by omega, ?_⟩
          walk_at "dd"
          refine if_dec (fun c4 => ?_) fun c4 => ?_
          · walk_at "dd"
            have hno : levAt r.num (r.den : Int) J.ps xs i = false := by
              rw [hlv]
              unfold levB
              dsimp only
              rw [decide_eq_true c3, decide_eq_true ((div_lt_rat (by omega)).mp c4)]
              simp
            rw [all_false hik hno] at q
            exact q
          · walk_at "dd"
            refine ⟨⟨_, _, _, _, rfl⟩, step ?_⟩
            rw [hlv]
            unfold levB
            dsimp only
            rw [decide_eq_false (fun z => c4 ((div_lt_rat (by omega)).mpr z)), hA]
            simp
        · exact mulS ⟨by decide, by decide⟩
      · walk_at "dd"
        refine ⟨⟨_, _, _, _, rfl⟩, step ?_⟩
        rw [hlv]
        unfold levB
        dsimp only
        rw [decide_eq_false c3, hA]
        simp
  · rintro Γ μ ⟨⟨z7, z8, z9, z10, rfl⟩, hl⟩
    walk_at "dd"
    have hz := zip4D_len (xs := xs.map D.int) (ys := J.ws.map D.int) (zs := J.ls.map D.int) (us := J.hs.map D.int) (by simp; omega) (by simp; omega) (by simp; omega)
    rw [List.length_map] at hz
    rw [all_true fun k hk => hl k (by omega) hk] at q
    exact q
/-- rounding, of what is not reduced -/
theorem floor_red (p q : Int) (hq : 0 < q) : ((p : Rat) / (q : Rat)).num / ((((p : Rat) / (q : Rat)).den : Nat) : Int) = p / q := by
  obtain ⟨a, b⟩ := ratio_q p q hq
  have g0 : (0 : Int) < ((Nat.gcd p.natAbs q.natAbs : Nat) : Int) := by
    have := Nat.gcd_pos_of_pos_right p.natAbs (show 0 < q.natAbs by omega)
    omega
  rw [a, b]
  have d1 : ((Nat.gcd p.natAbs q.natAbs : Nat) : Int) ∣ p := Int.ofNat_dvd_left.mpr (Nat.gcd_dvd_left _ _)
  have d2 : ((Nat.gcd p.natAbs q.natAbs : Nat) : Int) ∣ q := Int.ofNat_dvd_left.mpr (Nat.gcd_dvd_right _ _)
  obtain ⟨u, hu⟩ := d1
  obtain ⟨v, hv⟩ := d2
  generalize ((Nat.gcd p.natAbs q.natAbs : Nat) : Int) = g at *
  rw [hu, hv, Int.mul_ediv_cancel_left _ (by omega), Int.mul_ediv_cancel_left _ (by omega), Int.mul_ediv_mul_of_pos _ _ g0]
def kMost (a w l h : D) (post : D → Prop) : Prop := ∃ (x : Rat) (n : Nat) (wi li hi : Int), a = dR x ∧ w = .int wi ∧ l = .int li ∧ h = .int hi ∧ Rb n x ∧ n ≤ 8000 ∧ 0 < wi ∧ wi < 1099511627776 ∧ post (.int (mostZ x wi li hi))
def kPart (a w l h : D) (post : D → Prop) : Prop := ∃ (x : Rat) (n : Nat) (wi li hi : Int), a = dR x ∧ w = .int wi ∧ l = .int li ∧ h = .int hi ∧ Rb n x ∧ n ≤ 8000 ∧ 0 < wi ∧ wi < 1099511627776 ∧ post (.int (partZ x wi li hi))
theorem neg_num (p q : Int) : (-((p : Rat) / (q : Rat))) = ((-p : Int) : Rat) / (q : Rat) := by
  rw [Rat.intCast_neg]
  grind
theorem ceil_red (p q : Int) (hq : 0 < q) : -(-((p : Rat) / (q : Rat)).num / ((((p : Rat) / (q : Rat)).den : Nat) : Int)) = -(-p / q) := by
  have h := floor_red (-p) q hq
  rw [← neg_num] at h
  have e1 : (-((p : Rat) / (q : Rat))).num = -((p : Rat) / (q : Rat)).num := rfl
  have e2 : (-((p : Rat) / (q : Rat))).den = ((p : Rat) / (q : Rat)).den := rfl
  rw [e1, e2] at h
  rw [h]
theorem sc_part_at : FnScope ["level", "weight", "low", "high"] ["level", "weight", "low", "high"] (defScope (topS 23)) := ⟨rfl, rfl, rfl, by decide +kernel, rfl, by decide +kernel, by decide +kernel⟩
theorem ok_part_at {f : Addr} {fd : FuncData} (F : Fun K "part_at" "part_at" (topS 23) f fd) (G : Mg mg) (f_ceil_of : Cal P w K mg base 1 "ceil_of" (SpP K tabs (c1 kCeil))) (f_ratio : Cal P w K mg base 1 "ratio" (SpP K tabs (c2 kRatio))) : FnOk P w K mg base CX0 2 f fd ["level", "weight", "low", "high"] (SpP K tabs (c4 kPart)) := by
  refine okP F sc_part_at len4 fun cdv A outer s H E hc hr => ?_
  have nd := (sc_part_at).nd
  refine ⟨_, (pss_one (ps_ret (pe_callB (call_max2' rfl) (by rfl) G.max_ bt_max (pa_cons (pv 2) (pa_cons (pe_callB (call_min2' rfl) (by rfl) G.min_ bt_min (pa_cons (pv 3) (pa_cons (pe_cal f_ceil_of hr (by decide) (by rfl) (pa_cons (pe_cal f_ratio hr (by decide) (by rfl) (pa_cons (pe_op op_sub (pe_op op_mulA (pe_ix (ix_seq_K (K := K) rfl) (pv 0) pe_int (fun _ _ => rfl)) (pv 1)) (pe_ix (ix_seq_K (K := K) rfl) (pv 0) pe_int (fun _ _ => rfl))) (pa_cons (pe_op op_mulA pe_int (pe_ix (ix_seq_K (K := K) rfl) (pv 0) pe_int (fun _ _ => rfl))) pa_nil))) pa_nil)) pa_nil))) pa_nil))))), fun S ds post h => ?_⟩
  try dsimp only [cxK, cxP, cxW, cxM, cxB, List.map_cons, List.map_nil]
  obtain ⟨a, wd, ld, hd, rfl, x, n, wi, li, hi, rfl, rfl, rfl, rfl, hx, hn, w0, w1, q⟩ := h
  have dp := den_pos x
  have dn := den_abs hx
  have pn := natAbs_mul_lt hx.1 (small40 w0 w1)
  have e40 : 2 ^ n ≤ 2 ^ (n + 40) := Nat.pow_le_pow_right (by decide) (by omega)
  have pd := pow_dbl n
  have pd2 := pow_dbl (n + 40)
  walk_at "dd"
  · refine ⟨x.num * wi - (x.den : Int), 2 * (x.den : Int), n + 41, rfl, rfl, by omega, ?_, by omega, ?_⟩
    · rw [show n + 41 = n + 40 + 1 by omega, pd2]
      omega
    · have hy : Rb (n + 41) (((x.num * wi - (x.den : Int) : Int) : Rat) / ((2 * (x.den : Int) : Int) : Rat)) := by
        refine Rb.div (by omega) ?_ ?_
        · rw [show n + 41 = n + 40 + 1 by omega, pd2]
          omega
        · rw [show n + 41 = n + 40 + 1 by omega, pd2]
          omega
      walk_at "dd"
      refine ⟨_, _, rfl, hy, by omega, ?_⟩
      rw [ceil_red _ _ (by omega)]
      walk_at "dd"
      exact q
  · exact mulS ⟨by decide, by decide⟩
  · exact mulA hx.1 (small40 w0 w1) (by omega)
theorem sc_most_at : FnScope ["level", "weight", "low", "high"] ["level", "weight", "low", "high"] (defScope (topS 24)) := ⟨rfl, rfl, rfl, by decide +kernel, rfl, by decide +kernel, by decide +kernel⟩
theorem ok_most_at {f : Addr} {fd : FuncData} (F : Fun K "most_at" "most_at" (topS 24) f fd) (G : Mg mg) (f_floor_of : Cal P w K mg base 1 "floor_of" (SpP K tabs (c1 kFloor))) (f_ratio : Cal P w K mg base 1 "ratio" (SpP K tabs (c2 kRatio))) : FnOk P w K mg base CX0 2 f fd ["level", "weight", "low", "high"] (SpP K tabs (c4 kMost)) := by
  refine okP F sc_most_at len4 fun cdv A outer s H E hc hr => ?_
  have nd := (sc_most_at).nd
  refine ⟨_, (pss_one (ps_ret (pe_callB (call_max2' rfl) (by rfl) G.max_ bt_max (pa_cons (pv 2) (pa_cons (pe_callB (call_min2' rfl) (by rfl) G.min_ bt_min (pa_cons (pv 3) (pa_cons (pe_cal f_floor_of hr (by decide) (by rfl) (pa_cons (pe_cal f_ratio hr (by decide) (by rfl) (pa_cons (pe_op op_add (pe_op op_mulA (pe_ix (ix_seq_K (K := K) rfl) (pv 0) pe_int (fun _ _ => rfl)) (pv 1)) (pe_ix (ix_seq_K (K := K) rfl) (pv 0) pe_int (fun _ _ => rfl))) (pa_cons (pe_op op_mulA pe_int (pe_ix (ix_seq_K (K := K) rfl) (pv 0) pe_int (fun _ _ => rfl))) pa_nil))) pa_nil)) pa_nil))) pa_nil))))), fun S ds post h => ?_⟩
  try dsimp only [cxK, cxP, cxW, cxM, cxB, List.map_cons, List.map_nil]
  obtain ⟨a, wd, ld, hd, rfl, x, n, wi, li, hi, rfl, rfl, rfl, rfl, hx, hn, w0, w1, q⟩ := h
  have dp := den_pos x
  have dn := den_abs hx
  have pn := natAbs_mul_lt hx.1 (small40 w0 w1)
  have e40 : 2 ^ n ≤ 2 ^ (n + 40) := Nat.pow_le_pow_right (by decide) (by omega)
  have pd := pow_dbl n
  have pd2 := pow_dbl (n + 40)
  walk_at "dd"
  · refine ⟨x.num * wi + (x.den : Int), 2 * (x.den : Int), n + 41, rfl, rfl, by omega, ?_, by omega, ?_⟩
    · rw [show n + 41 = n + 40 + 1 by omega, pd2]
      omega
    · have hy : Rb (n + 41) (((x.num * wi + (x.den : Int) : Int) : Rat) / ((2 * (x.den : Int) : Int) : Rat)) := by
        refine Rb.div (by omega) ?_ ?_
        · rw [show n + 41 = n + 40 + 1 by omega, pd2]
          omega
        · rw [show n + 41 = n + 40 + 1 by omega, pd2]
          omega
      walk_at "dd"
      refine ⟨_, _, rfl, hy, by omega, ?_⟩
      rw [floor_red _ _ (by omega)]
      walk_at "dd"
      exact q
  · exact mulS ⟨by decide, by decide⟩
  · exact mulA hx.1 (small40 w0 w1) (by omega)
def kPartsAt (P : Program) (w : World) (K : PySem.W.Frag) (mg : Str → Option Value) (base : Heap) (tabs : List Addr) (job lv part : D) (post : D → Prop) : Prop := ∃ (J : Job) (r : Rat) (n : Nat) (a : Addr) (kk : D → D → D → D → (D → Prop) → Prop) (f : Int → Int → Int → Int), job = jobD J ∧ JobOk J ∧ lv = dR r ∧ part = .adr a ∧ Held P w K mg base 2 a (SpP K tabs (c4 kk)) ∧
  (∀ (wi li hi : Int) (post : D → Prop), 0 < wi → wi ≤ 1000000000 → post (.int (f wi li hi)) → kk (dR r) (.int wi) (.int li) (.int hi) post) ∧ post (.lst ((J.ps.map fun p => f p.w p.l p.h).map .int))
def partD (f : Int → Int → Int → Int) (ps : List Pl) : D → D
  | .int j => match ps[j.toNat]? with
    | some p => .int (f p.w p.l p.h)
    | none => .non
  | d => d
theorem partD_at {f : Int → Int → Int → Int} {ps : List Pl} {k : Nat} {p : Pl} (h : ps[k]? = some p) : partD f ps (.int ((0 : Int) + (k : Int))) = .int (f p.w p.l p.h) := by
  show (match ps[((0 : Int) + (k : Int)).toNat]? with
    | some p => D.int (f p.w p.l p.h)
    | none => D.non) = _
  rw [show ((0 : Int) + (k : Int)).toNat = k by omega, h]
theorem partD_all {f : Int → Int → Int → Int} {ps : List Pl} {n : Nat} (hn : ps.length = n) : (rangeD 0 n).map (partD f ps) = (ps.map fun p => f p.w p.l p.h).map D.int := by
  apply List.ext_getElem?
  intro k
  unfold rangeD
  rw [List.map_map, List.map_map, List.getElem?_map, List.getElem?_map]
  by_cases h : k < n
  · have e := List.getElem?_eq_getElem (show k < ps.length by omega)
    rw [e, List.getElem?_range h]
    show some (partD f ps (.int ((0 : Int) + (k : Int)))) = _
    rw [partD_at e]
    rfl
  · rw [List.getElem?_eq_none (by simp; omega), List.getElem?_eq_none (by omega)]
    rfl
theorem sc_parts_at : FnScope ["job", "level", "part", "total", "weights", "lows", "highs", "k"] ["job", "level", "part"] (defScope (topS 25)) := ⟨rfl, rfl, rfl, by decide +kernel, rfl, by decide +kernel, by decide +kernel⟩
theorem ok_parts_at {f : Addr} {fd : FuncData} (F : Fun K "parts_at" "parts_at" (topS 25) f fd) (G : Mg mg)  : FnOk P w K mg base CX0 3 f fd ["job", "level", "part"] (SpP K tabs (c3 (kPartsAt P w K mg base tabs))) := by
  refine okP F sc_parts_at len3 fun cdv A outer s H E hc hr => ?_
  have nd := (sc_parts_at).nd
  refine ⟨_, (pss_cons (ps_asg (pv 0) (pg_tup_K (n := 4) (K := K) rfl rfl (pgs_cons (pg_name (i := 3) nd rfl (Or.inl rfl)) (pgs_cons (pg_name (i := 4) nd rfl (Or.inr rfl)) (pgs_cons (pg_name (i := 5) nd rfl (Or.inr rfl)) (pgs_cons (pg_name (i := 6) nd rfl (Or.inr rfl)) pgs_nil))))))
      (pss_one (ps_ret (pe_lc (own := [("k", 7)]) rfl nd (pi_range1 (by rfl) G.range_ (pa_cons (pe_callB (call_len_K (K := K) rfl) (by rfl) G.len_ bt_len (pa_cons (pv 4) pa_nil)) pa_nil)) (blkOk_by (N := ["job", "level", "part", "total", "weights", "lows", "highs", "k"]) (sc := defScope (topS 25)) (by decide +kernel)) (fun _ _ _ _ _ => (pg_name (i := 7) nd rfl (Or.inl rfl))) (fun _ _ _ _ _ => pts_nil) (fun _ _ _ _ _ => (pe_callH_K (P := P) (w := w) (K := K) (mg := mg) (base := base) (k := 2) (i := 2) rfl rfl rfl rfl rfl hr rfl (by first | exact Or.inl rfl | exact Or.inr (Or.inl rfl) | exact Or.inr (Or.inr rfl)) (pa_cons (pv 1) (pa_cons (pe_ix (ix_seq_K (K := K) rfl) (pv 4) (pv 7) (fun _ _ => rfl)) (pa_cons (pe_ix (ix_seq_K (K := K) rfl) (pv 5) (pv 7) (fun _ _ => rfl)) (pa_cons (pe_ix (ix_seq_K (K := K) rfl) (pv 6) (pv 7) (fun _ _ => rfl)) pa_nil)))))))))), fun S ds post h => ?_⟩
  try dsimp only [cxK, cxP, cxW, cxM, cxB, List.map_cons, List.map_nil]
  obtain ⟨job, lv, part, rfl, J, r, n, a, kk, f, rfl, hJ, rfl, rfl, hh, hk, q⟩ := h
  have h24 := hJ.n.2
  have hll := hJ.l
  have hhl := hJ.h
  walk_at "dd"
  refine eg_lcP (partD f J.ps) ?_ hw_name
  walk_at "dd"
  rw [List.length_map]
  refine ⟨_, rfl, by omega, by omega, ?_⟩
  rw [show ((J.ws.length : Nat) : Int).toNat = J.ws.length by omega]
  refine ⟨by rw [rangeD_len]; exact small_sz (by omega), fun x hx μ A => ?_, fun μ => ?_⟩
  · obtain ⟨k, hk0, rfl⟩ := mem_range hx
    obtain ⟨p, hp, g1, g2, g3, po, pb⟩ := hJ.ex hk0
    walk_at "dd"
    refine eg_callH (fun _ h => h) rfl hh ?_
    walk_at "dd"
    refine r2_ixT (at0 (mapD g1)) ?_
    walk_at "dd"
    refine r2_ixT (at0 (mapD g2)) ?_
    walk_at "dd"
    refine r2_ixT (at0 (mapD g3)) ?_
    walk_at "dd"
    refine hk _ _ _ _ po.w pb.w ?_
    exact (partD_at hp).symm
  · rw [partD_all hJ.len]
    exact q
def kFirstL (job : D) (post : D → Prop) : Prop := ∃ J : Job, job = jobD J ∧ JobOk J ∧ J.ls.sum ≤ J.t ∧ J.t ≤ J.hs.sum ∧ ∀ r : Rat, Rb 40 r → SP' r J.ps ≤ J.t → J.t ≤ SM r J.ps → post (dR r)
theorem most_call {r : Rat} {n : Nat} (h : Rb n r) (hn : n ≤ 8000) : ∀ (wi li hi : Int) (post : D → Prop), 0 < wi → wi ≤ 1000000000 → post (.int (mostZ r wi li hi)) → kMost (dR r) (.int wi) (.int li) (.int hi) post := fun wi li hi post h1 h2 h3 => ⟨r, n, wi, li, hi, rfl, rfl, rfl, rfl, h, hn, h1, by omega, h3⟩
theorem part_call {r : Rat} {n : Nat} (h : Rb n r) (hn : n ≤ 8000) : ∀ (wi li hi : Int) (post : D → Prop), 0 < wi → wi ≤ 1000000000 → post (.int (partZ r wi li hi)) → kPart (dR r) (.int wi) (.int li) (.int hi) post := fun wi li hi post h1 h2 h3 => ⟨r, n, wi, li, hi, rfl, rfl, rfl, rfl, h, hn, h1, by omega, h3⟩
theorem SP_zero : ∀ {ps : List Pl}, (∀ p ∈ ps, PlOk p) → SP' 0 ps = (ps.map Pl.l).sum
  | [], _ => rfl
  | p :: ps, h => by
    have o := h p List.mem_cons_self
    have ih := SP_zero (ps := ps) fun p hp => h p (List.mem_cons_of_mem _ hp)
    unfold SP' at ih ⊢
    rw [List.map_cons, List.map_cons, List.sum_cons, List.sum_cons, ih, part_zero o.w o.h o.l]
theorem Rb_jmp {n w : Int} (h1 : -2000000000 ≤ n) (h2 : n ≤ 2000000000) (hw : 0 < w) (hw2 : w ≤ 1000000000) : Rb 40 (jmp n w) := Rb.div hw (small_p h1 h2 (c := -1) (by omega)) (small_w hw hw2)
theorem Rb_zero : Rb 40 0 := ⟨by decide, by decide⟩
def updN (t : Int) (all : List Pl) (p : Pl) (f : Rat) (n : Int) : Nat → Rat
  | 0 => f
  | 1 => updL t all p f n
  | _ => updL t all p (updL t all p f n) (n + 1)
theorem updN_step {t : Int} {all : List Pl} {p : Pl} {f : Rat} {n : Int} {j : Nat} (hj : j < 2) : updN t all p f n (j + 1) = updL t all p (updN t all p f n j) (n + j) := by
  match j, hj with
  | 0, _ =>
    show updL t all p f n = updL t all p f (n + ((0 : Nat) : Int))
    rw [show n + ((0 : Nat) : Int) = n by omega]
  | 1, _ => rfl
theorem two_get {n : Int} {j : Nat} {y : D} (h : ([.int n, .int (n + 1)] : List D)[j]? = some y) : j < 2 ∧ y = .int (n + j) := by
  match j, h with
  | 0, h =>
    simp at h
    exact ⟨by decide, by rw [← h]; simp⟩
  | 1, h =>
    simp at h
    exact ⟨by decide, by rw [← h]; simp⟩
  | j + 2, h => simp at h
def muW (Γ : Env') (_ : Unit) : Nat := match Γ[7]?, Γ[8]? with
  | some (some (D.int a)), some (some (D.int b)) => (b - a).toNat
  | _, _ => 0
theorem sc_first_level : FnScope ["job", "total", "weights", "lows", "highs", "found", "k", "low", "high", "middle", "x", "level"] ["job"] (defScope (topS 26)) := ⟨rfl, rfl, rfl, by decide +kernel, rfl, by decide +kernel, by decide +kernel⟩
theorem ok_first_level {f : Addr} {fd : FuncData} (F : Fun K "first_level" "first_level" (topS 26) f fd) (G : Mg mg) (f_less : Cal P w K mg base 1 "less" (SpP K tabs (c2 kLess))) (f_most_at : Cal P w K mg base 2 "most_at" (SpP K tabs (c4 kMost))) (f_parts_at : Cal P w K mg base 3 "parts_at" (SpP K tabs (c3 (kPartsAt P w K mg base tabs)))) (f_ratio : Cal P w K mg base 1 "ratio" (SpP K tabs (c2 kRatio))) : FnOk P w K mg base CX0 4 f fd ["job"] (SpP K tabs (c1 kFirstL)) := by
  refine okP F sc_first_level len1 fun cdv A outer s H E hc hr => ?_
  have nd := (sc_first_level).nd
  refine ⟨_, (pss_cons (ps_asg (pv 0) (pg_tup_K (n := 4) (K := K) rfl rfl (pgs_cons (pg_name (i := 1) nd rfl (Or.inl rfl)) (pgs_cons (pg_name (i := 2) nd rfl (Or.inl rfl)) (pgs_cons (pg_name (i := 3) nd rfl (Or.inl rfl)) (pgs_cons (pg_name (i := 4) nd rfl (Or.inl rfl)) pgs_nil))))))
      (pss_cons (ps_set (i := 5) nd rfl (Or.inl rfl) (pe_tup (pa_cons pe_int (pa_cons pe_int pa_nil))))
      (pss_cons (ps_if (pt_cmpR op_ge (pe_callB (cr_sum_K (K := K) rfl rfl) (by rfl) G.sum_ bt_sum (pa_cons (pe_cal f_parts_at hr (by decide) (by rfl) (pa_cons (pv 0) (pa_cons (pv 5) (pa_cons (pe_calV (j := 2) f_most_at (by decide) (by rfl)) pa_nil)))) pa_nil)) (pv 1) (nomark _)) (pss_one (ps_ret (pv 5))) pss_nil)
      (pss_cons (ps_for PassesOwn.never rfl (pi_range1 (by rfl) G.range_ (pa_cons (pe_callB (call_len_K (K := K) rfl) (by rfl) G.len_ bt_len (pa_cons (pv 2) pa_nil)) pa_nil)) (pg_name (i := 6) nd rfl (Or.inl rfl)) (pss_cons (ps_par (i := 7) (j := 8) rfl nd rfl rfl (by decide) rfl rfl (pa_cons (pe_ix (ix_seq_K (K := K) rfl) (pv 3) (pv 6) (fun _ _ => rfl)) (pa_cons (pe_ix (ix_seq_K (K := K) rfl) (pv 4) (pv 6) (fun _ _ => rfl)) pa_nil)) rfl)
      (pss_cons (ps_while PassesOwn.never (pt_cmpR op_lt (pv 7) (pv 8) (nomark _)) (pss_cons (ps_set (i := 9) nd rfl (Or.inl rfl) (pe_op op_fdivW (pe_op op_add (pe_op op_add (pv 7) (pv 8)) pe_int) pe_int))
      (pss_one (ps_if (pt_cmpR op_le (pe_callB (cr_sum_K (K := K) rfl rfl) (by rfl) G.sum_ bt_sum (pa_cons (pe_cal f_parts_at hr (by decide) (by rfl) (pa_cons (pv 0) (pa_cons (pe_cal f_ratio hr (by decide) (by rfl) (pa_cons (pe_op op_sub (pe_op op_mulA pe_int (pv 9)) pe_int) (pa_cons (pe_ix (ix_seq_K (K := K) rfl) (pv 2) (pv 6) (fun _ _ => rfl)) pa_nil))) (pa_cons (pe_calV (j := 2) f_most_at (by decide) (by rfl)) pa_nil)))) pa_nil)) (pv 1) (nomark _)) (pss_one (ps_set (i := 7) nd rfl (Or.inl rfl) (pv 9))) (pss_one (ps_set (i := 8) nd rfl (Or.inl rfl) (pe_op op_sub (pv 9) pe_int)))))))
      (pss_one (ps_for PassesOwn.never rfl (pi_seq_K (K := K) rfl (pe_tup (pa_cons (pv 7) (pa_cons (pe_op op_add (pv 7) pe_int) pa_nil)))) (pg_name (i := 10) nd rfl (Or.inl rfl)) (pss_one (ps_if (pt_chain op_lt op_le (pe_ix (ix_seq_K (K := K) rfl) (pv 3) (pv 6) (fun _ _ => rfl)) (pv 10) (pe_ix (ix_seq_K (K := K) rfl) (pv 4) (pv 6) (fun _ _ => rfl))) (pss_cons (ps_set (i := 11) nd rfl (Or.inl rfl) (pe_cal f_ratio hr (by decide) (by rfl) (pa_cons (pe_op op_sub (pe_op op_mulA pe_int (pv 10)) pe_int) (pa_cons (pe_ix (ix_seq_K (K := K) rfl) (pv 2) (pv 6) (fun _ _ => rfl)) pa_nil))))
      (pss_one (ps_if (pw_and (pt_cmpR op_ge (pe_callB (cr_sum_K (K := K) rfl rfl) (by rfl) G.sum_ bt_sum (pa_cons (pe_cal f_parts_at hr (by decide) (by rfl) (pa_cons (pv 0) (pa_cons (pv 11) (pa_cons (pe_calV (j := 2) f_most_at (by decide) (by rfl)) pa_nil)))) pa_nil)) (pv 1) (nomark _)) (pw_and1 (pw_or (pt_cmpR (op_eqD_K (K := K) rfl hr.units) (pv 5) (pe_tup (pa_cons pe_int (pa_cons pe_int pa_nil))) (nomark _)) (pw_or1 (pt_val (pe_cal f_less hr (by decide) (by rfl) (pa_cons (pv 11) (pa_cons (pv 5) pa_nil)))))).pt)).pt (pss_one (ps_set (i := 5) nd rfl (Or.inl rfl) (pv 11))) pss_nil))) pss_nil)))))))
      (pss_one (ps_ret (pv 5))))))), fun S ds post h => ?_⟩
  try dsimp only [cxK, cxP, cxW, cxM, cxB, List.map_cons, List.map_nil]
  obtain ⟨job, rfl, J, rfl, hJ, hlo, hhi, q⟩ := h
  have h24 := hJ.n.2
  have hll := hJ.l
  have hhl := hJ.h
  obtain ⟨pw, pl, ph⟩ := plcs_w hJ.l hJ.h
  walk_at "dd"
  refine ⟨by show 2 ≤ sizeLine; decide, ?_⟩
  walk_at "dd"
  refine eg_held fun am hm => ?_
  walk_at "dd"
  refine ⟨J, 0, 1, am, kMost, mostZ 0, rfl, hJ, rfl, rfl, hm, most_call Rb_zero (by decide), ?_⟩
  walk_at "dd"
  refine if_dec (fun c0 => ?_) fun c0 => ?_
  · walk_at "dd"
    refine q 0 Rb_zero ?_ c0
    rw [SP_zero hJ.ok, pl]
    exact hlo
  have h0 : SM 0 J.ps < J.t := Int.not_le.mp c0
  walk_at "dd"
  refine ex_for ?_
  walk_at "dd"
  rw [List.length_map]
  refine ⟨_, rfl, by omega, by omega, ?_⟩
  rw [show ((J.ws.length : Nat) : Int).toNat = J.ws.length by omega]
  refine ⟨fun i Γ _ => ∃ z6 z7 z8 z9 z10 z11, ∃ f : Rat, Γ = [some (jobD J), some (.int J.t), some (.tup (J.ws.map .int)), some (.tup (J.ls.map .int)), some (.tup (J.hs.map .int)), some (dR f), z6, z7, z8, z9, z10, z11] ∧ Rb 40 f ∧ Fnd J.t J.ps (J.ps.take i) f, ⟨none, none, none, none, none, none, 0, rfl, Rb_zero, Fnd.nil⟩, ?_, ?_⟩
  · rintro i y Γ μ hy ⟨z6, z7, z8, z9, z10, z11, f, rfl, hf, F⟩
    obtain ⟨hik, rfl⟩ := rangeD_get hy
    obtain ⟨p, hp, g1, g2, g3, po, pb⟩ := hJ.ex hik
    have d1 := mapD g1
    have d2 := mapD g2
    have d3 := mapD g3
    walk_at "dd"
    refine r2_ixT (at0 d2) ?_
    walk_at "dd"
    refine r2_ixT (at0 d3) ?_
    walk_at "dd"
    refine ⟨_, _, rfl, ?_⟩
    walk_at "dd"
    refine ex_while (fun Γ _ => ∃ lo hi : Int, ∃ y9, Γ = [some (jobD J), some (.int J.t), some (.tup (J.ws.map .int)), some (.tup (J.ls.map .int)), some (.tup (J.hs.map .int)), some (dR f), some (.int (0 + (i : Int))), some (.int lo), some (.int hi), y9, z10, z11] ∧ (p.l ≤ lo ∧ lo ≤ hi ∧ hi ≤ p.h) ∧ (lo = p.l ∨ SM (jmp lo p.w) J.ps ≤ J.t) ∧ (hi = p.h ∨ J.t < SM (jmp (hi + 1) p.w) J.ps)) muW ⟨p.l, p.h, z9, rfl, ⟨Int.le_refl _, po.h, Int.le_refl _⟩, .inl rfl, .inl rfl⟩ ?_
    rintro Γ μ ⟨lo, hi, y9, rfl, hb, hL, hH⟩
    walk_at "dd"
    refine ⟨fun hlt => ?_, fun hge => ?_⟩
    · have hlt := of_decide_eq_true hlt
      have po1 := po.l
      have pb3 := pb.h
      walk_at "dd"
      · refine r2_ixT (at0 d1) ?_
        walk_at "dd"
        refine ⟨2 * ((lo + hi + 1) / 2) - 1, p.w, 40, rfl, rfl, po.w, small_w po.w pb.w, by omega, ?_⟩
        walk_at "dd"
        refine eg_held fun am hm => ?_
        walk_at "dd"
        have rj : Rb 40 (jmp ((lo + hi + 1) / 2) p.w) := Rb_jmp (by omega) (by omega) po.w pb.w
        refine ⟨J, jmp ((lo + hi + 1) / 2) p.w, 1, am, kMost, mostZ (jmp ((lo + hi + 1) / 2) p.w), rfl, hJ, rfl, rfl, hm, most_call rj (by decide), ?_⟩
        walk_at "dd"
        refine if_dec (fun c1 => ?_) fun c1 => ?_
        · walk_at "dd"
          refine ⟨⟨(lo + hi + 1) / 2, hi, _, rfl, by omega, .inr c1, hH⟩, ?_⟩
          show (hi - (lo + hi + 1) / 2).toNat < (hi - lo).toNat
          omega
        · walk_at "dd"
          refine ⟨⟨lo, (lo + hi + 1) / 2 - 1, _, rfl, by omega, hL, .inr ?_⟩, ?_⟩
          · rw [Int.sub_add_cancel]
            exact Int.not_le.mp c1
          · show ((lo + hi + 1) / 2 - 1 - lo).toNat < (hi - lo).toNat
            omega
      · exact mulS ⟨by decide, by decide⟩
      · exact divW (n := 2) (by decide) (by decide) (by decide)
    · have hge := of_decide_eq_false hge
      have ehl : hi = lo := by omega
      subst ehl
      show ExG _ _ _ _ _
      refine ex_for ?_
      walk_at "dd"
      refine ⟨by show 2 ≤ sizeLine; decide, _, .inl rfl, ?_⟩
      refine ⟨fun j Γ _ => ∃ y10 y11, ∃ g : Rat, Γ = [some (jobD J), some (.int J.t), some (.tup (J.ws.map .int)), some (.tup (J.ls.map .int)), some (.tup (J.hs.map .int)), some (dR g), some (.int (0 + (i : Int))), some (.int hi), some (.int hi), y9, y10, y11] ∧ Rb 40 g ∧ g = updN J.t J.ps p f hi j, ⟨z10, z11, f, rfl, hf, rfl⟩, ?_, ?_⟩
      · rintro j y Γ μ hy ⟨y10, y11, g, rfl, hg, eg⟩
        obtain ⟨ej, ey⟩ := two_get hy
        subst ey
        have step : updN J.t J.ps p f hi (j + 1) = updL J.t J.ps p g (hi + j) := by rw [eg]; exact updN_step ej
        walk_at "dd"
        refine r2_ixT (at0 d2) ?_
        walk_at "dd"
        refine if_dec (fun c1 => ?_) fun c1 => ?_
        · walk_at "dd"
          refine r2_ixT (at0 d3) ?_
          walk_at "dd"
          refine if_dec (fun c2 => ?_) fun c2 => ?_
          · have po1 := po.l
            have pb3 := pb.h
            have rj : Rb 40 (jmp (hi + j) p.w) := Rb_jmp (by omega) (by omega) po.w pb.w
            walk_at "dd"
            · refine r2_ixT (at0 d1) ?_
              walk_at "dd"
              refine ⟨2 * (hi + (j : Int)) - 1, p.w, 40, rfl, rfl, po.w, small_w po.w pb.w, by omega, ?_⟩
              walk_at "dd"
              refine eg_held fun am hm => ?_
              walk_at "dd"
              refine ⟨J, jmp (hi + j) p.w, 1, am, kMost, mostZ (jmp (hi + j) p.w), rfl, hJ, rfl, rfl, hm, most_call rj (by decide), ?_⟩
              walk_at "dd"
              refine if_dec (fun c3 => ?_) fun c3 => ?_
              · walk_at "dd"
                refine ⟨by show 2 ≤ sizeLine; decide, ?_⟩
                refine r2_eqD (by simp [plainD, plainAll]) (by simp [plainD, plainAll]) ?_
                rw [show eqD (dR g) (.tup [.int 0, .int 1]) = decide (g = 0) from eqD_dR g 0]
                walk_at "dd"
                refine if_dec (fun c4 => ?_) fun c4 => ?_
                · walk_at "dd"
                  refine ⟨_, _, jmp (hi + j) p.w, rfl, rj, ?_⟩
                  rw [step]
                  unfold updL
                  rw [if_pos ⟨c1, c2, c3, .inl c4⟩]
                · walk_at "dd"
                  refine ⟨_, _, 40, 40, rfl, rfl, rj, hg, by omega, ?_⟩
                  walk_at "dd"
                  refine if_dec (fun c5 => ?_) fun c5 => ?_
                  · walk_at "dd"
                    refine ⟨_, _, jmp (hi + j) p.w, rfl, rj, ?_⟩
                    rw [step]
                    unfold updL
                    rw [if_pos ⟨c1, c2, c3, .inr c5⟩]
                  · walk_at "dd"
                    refine ⟨_, _, g, rfl, hg, ?_⟩
                    rw [step]
                    unfold updL
                    rw [if_neg fun z => z.2.2.2.elim c4 c5]
              · walk_at "dd"
                refine ⟨_, _, g, rfl, hg, ?_⟩
                rw [step]
                unfold updL
                rw [if_neg fun z => c3 z.2.2.1]
            · exact mulS ⟨by decide, by decide⟩
          · walk_at "dd"
            refine ⟨_, _, g, rfl, hg, ?_⟩
            rw [step]
            unfold updL
            rw [if_neg fun z => c2 z.2.1]
        · walk_at "dd"
          refine ⟨_, _, g, rfl, hg, ?_⟩
          rw [step]
          unfold updL
          rw [if_neg fun z => c1 z.1]
      · rintro Γ μ ⟨y10, y11, g, rfl, hg, eg⟩
        refine ⟨_, _, _, _, _, _, g, rfl, hg, ?_⟩
        rw [List.take_add_one, hp, eg]
        exact F.step hJ.ok po ⟨hb.1, hb.2.2⟩ hL hH
  · rintro Γ μ ⟨z6, z7, z8, z9, z10, z11, f, rfl, hf, F⟩
    rw [rangeD_len, ← hJ.len, List.take_length] at F
    walk_at "dd"
    obtain ⟨_, f1, f2⟩ := F.done hJ.ok h0 (by rw [pl]; exact hlo) (by rw [ph]; exact hhi)
    exact q f hf f1 f2
def kDealt (job : D) (post : D → Prop) : Prop := ∃ J : Job, job = jobD J ∧ JobOk J ∧ J.ls.sum ≤ J.t ∧ J.t ≤ J.hs.sum ∧ ∀ (xs : List Int) (r : Rat), Rb 40 r → xs.length = J.ws.length → inA J.ps xs → xs.sum = J.t → levA r.num (r.den : Int) J.ps xs → post (.tup [.tup (xs.map .int), dR r])
def xDealt (ds : List D) : Prop := ∃ J : Job, ds = [jobD J] ∧ JobOk J ∧ ¬ (J.ls.sum ≤ J.t ∧ J.t ≤ J.hs.sum)
theorem flat_job (J : Job) : flatAll [jobD J] = true := by simp [flatAll, flatD, flatAll_ints]
theorem flatD_job (J : Job) : flatD (jobD J) = true := by simp [flatAll, flatD, flatAll_ints]
theorem levA_of {a b : Int} : ∀ {ps : List Pl} {xs : List Int}, xs.length = ps.length → (∀ (k : Nat) (p : Pl) (x : Int), ps[k]? = some p → xs[k]? = some x → levP a b p x) → levA a b ps xs
  | [], [], _, _ => trivial
  | p :: ps, x :: xs, h, q => ⟨q 0 p x rfl rfl, levA_of (by simpa using h) fun k p' x' e1 e2 => q (k + 1) p' x' (by simpa using e1) (by simpa using e2)⟩
  | [], _ :: _, h, _ => by simp at h
  | _ :: _, [], h, _ => by simp at h
theorem inA_of : ∀ {ps : List Pl} {xs : List Int}, xs.length = ps.length → (∀ (k : Nat) (p : Pl) (x : Int), ps[k]? = some p → xs[k]? = some x → p.l ≤ x ∧ x ≤ p.h) → inA ps xs
  | [], [], _, _ => trivial
  | p :: ps, x :: xs, h, q => ⟨q 0 p x rfl rfl, inA_of (by simpa using h) fun k p' x' e1 e2 => q (k + 1) p' x' (by simpa using e1) (by simpa using e2)⟩
  | [], _ :: _, h, _ => by simp at h
  | _ :: _, [], h, _ => by simp at h
theorem sum_set : ∀ {qs : List Int} {k : Nat} {x v : Int}, qs[k]? = some x → (qs.set k v).sum = qs.sum - x + v
  | [], _, _, _, e => by simp at e
  | a :: r, 0, x, v, e => by
    simp at e
    subst e
    rw [List.set_cons_zero, List.sum_cons, List.sum_cons]
    omega
  | a :: r, k + 1, x, v, e => by
    rw [List.set_cons_succ, List.sum_cons, List.sum_cons, sum_set (k := k) (x := x) (by simpa using e)]
    omega
/-- the parts while they are filled -/
structure Fill (ps : List Pl) (r : Rat) (t : Int) (i : Nat) (qs : List Int) (left : Int) : Prop where
  len : qs.length = ps.length
  eq : left = t - qs.sum
  pos : 0 ≤ left
  at_ : ∀ (k : Nat) (p : Pl), ps[k]? = some p → ∃ x, qs[k]? = some x ∧ partZ r p.w p.l p.h ≤ x ∧ x ≤ mostZ r p.w p.l p.h ∧ (i ≤ k → x = partZ r p.w p.l p.h) ∧ (k < i → x = mostZ r p.w p.l p.h ∨ left = 0)
theorem Fill.nil {ps : List Pl} {r : Rat} {t : Int} (ok : ∀ p ∈ ps, PlOk p) (h : SP' r ps ≤ t) : Fill ps r t 0 (ps.map fun p => partZ r p.w p.l p.h) (t - (ps.map fun p => partZ r p.w p.l p.h).sum) := by
  refine ⟨by simp, rfl, ?_, fun k p e => ⟨partZ r p.w p.l p.h, by rw [List.getElem?_map, e]; rfl, Int.le_refl _, ?_, fun _ => rfl, fun z => by omega⟩⟩
  · unfold SP' at h
    generalize (ps.map fun p => partZ r p.w p.l p.h).sum = s at *
    omega
  · have o := ok p (List.mem_of_getElem? e)
    exact part_most o.w o.h
theorem Fill.step {ps : List Pl} {r : Rat} {t : Int} {i : Nat} {qs : List Int} {left x m : Int} {p : Pl} (F : Fill ps r t i qs left) (hp : ps[i]? = some p) (hx : qs[i]? = some x) (hm : m = mostZ r p.w p.l p.h) :
    Fill ps r t (i + 1) (qs.set i (x + (if m - x < left then m - x else left))) (left - (if m - x < left then m - x else left)) := by
  obtain ⟨x', e, b1, b2, b3, b4⟩ := F.at_ i p hp
  rw [hx] at e
  cases e
  have hl := F.eq
  have h0 := F.pos
  have hi : i < qs.length := (List.getElem?_eq_some_iff.mp hx).1
  rw [← hm] at b2
  generalize ed : (if m - x < left then m - x else left) = d
  have hd : 0 ≤ d ∧ d ≤ left ∧ d ≤ m - x ∧ (d = m - x ∨ d = left) := by
    split at ed <;> omega
  refine ⟨by rw [List.length_set]; exact F.len, by rw [sum_set hx]; omega, by omega, fun k p' e => ?_⟩
  obtain ⟨y, f, c1, c2, c3, c4⟩ := F.at_ k p' e
  by_cases h : k = i
  · subst h
    rw [hp] at e
    cases e
    refine ⟨x + d, List.getElem?_set_self hi, ?_, ?_, fun z => by omega, fun _ => ?_⟩
    · rw [hx] at f
      cases f
      exact Int.le_trans c1 (by omega)
    · rw [← hm]; omega
    · rw [← hm]
      rcases hd.2.2.2 with z | z
      · exact .inl (by omega)
      · exact .inr (by omega)
  · refine ⟨y, by rw [List.getElem?_set_ne (Ne.symm h)]; exact f, c1, c2, fun z => c3 (by omega), fun z => ?_⟩
    rcases c4 (by omega) with z | z
    · exact .inl z
    · exact .inr (by omega)
theorem Fill.done {ps : List Pl} {r : Rat} {t : Int} {qs : List Int} {left : Int} (ok : ∀ p ∈ ps, PlOk p) (F : Fill ps r t ps.length qs left) (ht : t ≤ SM r ps) : qs.sum = t ∧ inA ps qs ∧ levA r.num (r.den : Int) ps qs := by
  have hl := F.eq
  have h0 := F.pos
  refine ⟨?_, inA_of F.len fun k p x e1 e2 => ?_, levA_of F.len fun k p x e1 e2 => ?_⟩
  · by_cases hz : left = 0
    · omega
    · have e : qs = ps.map fun p => mostZ r p.w p.l p.h := by
        apply List.ext_getElem?
        intro k
        rw [List.getElem?_map]
        by_cases hk : k < ps.length
        · have e := List.getElem?_eq_getElem hk
          obtain ⟨x, f, _, _, _, c4⟩ := F.at_ k _ e
          rw [e, f, (c4 hk).resolve_right hz]
          rfl
        · have hl2 := F.len
          rw [List.getElem?_eq_none (show ps.length ≤ k by omega), List.getElem?_eq_none (show qs.length ≤ k by omega)]
          rfl
      unfold SM at ht
      rw [← e] at ht
      omega
  · obtain ⟨y, f, c1, c2, _⟩ := F.at_ k p e1
    rw [e2] at f
    cases f
    exact (lev_of (ok p (List.mem_of_getElem? e1)) c1 c2).2
  · obtain ⟨y, f, c1, c2, _⟩ := F.at_ k p e1
    rw [e2] at f
    cases f
    exact (lev_of (ok p (List.mem_of_getElem? e1)) c1 c2).1
theorem sc_dealt : FnScope ["job", "total", "weights", "lows", "highs", "level", "parts", "tops", "left", "k", "more"] ["job"] (defScope (topS 27)) := ⟨rfl, rfl, rfl, by decide +kernel, rfl, by decide +kernel, by decide +kernel⟩
theorem ok_dealt {f : Addr} {fd : FuncData} {eC e1 e2 e3 e4 : Addr} (F : Fun K "dealt" "dealt" (topS 27) f fd) (G : Mg mg) (XT : ExcT K mg eC e1 e2 e3 e4) (f_first_level : Cal P w K mg base 4 "first_level" (SpP K tabs (c1 kFirstL))) (f_most_at : Cal P w K mg base 2 "most_at" (SpP K tabs (c4 kMost))) (f_part_at : Cal P w K mg base 2 "part_at" (SpP K tabs (c4 kPart))) (f_parts_at : Cal P w K mg base 3 "parts_at" (SpP K tabs (c3 (kPartsAt P w K mg base tabs)))) : FnOk P w K mg base (L2.CX P w) 5 f fd ["job"] (SpX K tabs eC (c1 kDealt) xDealt) := by
  refine okX F sc_dealt len1 (fun ds ⟨J, e, _⟩ => by rw [e]; rfl) (fun ds post ⟨j, e, J, e2, _⟩ => by rw [e, e2]; exact flat_job J) (fun ds ⟨J, e, _⟩ => by rw [e]; exact flat_job J) fun cdv A outer s H E hr => ?_
  have nd := (sc_dealt).nd
  refine ⟨_, (pss_cons (ps_asg (pv 0) (pg_tup_K (n := 4) (K := K) rfl rfl (pgs_cons (pg_name (i := 1) nd rfl (Or.inl rfl)) (pgs_cons (pg_name (i := 2) nd rfl (Or.inl rfl)) (pgs_cons (pg_name (i := 3) nd rfl (Or.inl rfl)) (pgs_cons (pg_name (i := 4) nd rfl (Or.inl rfl)) pgs_nil))))))
      (pss_cons (ps_if (pt_not (pt_chain op_le op_le (pe_callB (cr_sum_K (K := K) rfl rfl) (by rfl) G.sum_ bt_sum (pa_cons (pv 3) pa_nil)) (pv 1) (pe_callB (cr_sum_K (K := K) rfl rfl) (by rfl) G.sum_ bt_sum (pa_cons (pv 4) pa_nil)))) (pss_one (ps_raise0 XT rfl (takes_of rfl rfl rfl rfl) (by rfl))) pss_nil)
      (pss_cons (ps_set (i := 5) nd rfl (Or.inl rfl) (pe_cal f_first_level hr (by decide) (by rfl) (pa_cons (pv 0) pa_nil)))
      (pss_cons (ps_par (i := 6) (j := 7) rfl nd rfl rfl (by decide) rfl rfl (pa_cons (pe_cal f_parts_at hr (by decide) (by rfl) (pa_cons (pv 0) (pa_cons (pv 5) (pa_cons (pe_calV (j := 2) f_part_at (by decide) (by rfl)) pa_nil)))) (pa_cons (pe_cal f_parts_at hr (by decide) (by rfl) (pa_cons (pv 0) (pa_cons (pv 5) (pa_cons (pe_calV (j := 2) f_most_at (by decide) (by rfl)) pa_nil)))) pa_nil)) rfl)
      (pss_cons (ps_set (i := 8) nd rfl (Or.inl rfl) (pe_op op_sub (pv 1) (pe_callB (cr_sum_K (K := K) rfl rfl) (by rfl) G.sum_ bt_sum (pa_cons (pv 6) pa_nil))))
      (pss_cons (ps_for (passes_of rfl) rfl (pi_range1 (by rfl) G.range_ (pa_cons (pe_callB (call_len_K (K := K) rfl) (by rfl) G.len_ bt_len (pa_cons (pv 6) pa_nil)) pa_nil)) (pg_name (i := 9) nd rfl (Or.inl rfl)) (pss_cons (ps_set (i := 10) nd rfl (Or.inl rfl) (pe_callB (call_min2' rfl) (by rfl) G.min_ bt_min (pa_cons (pv 8) (pa_cons (pe_op op_sub (pe_ix (ix_seq_K (K := K) rfl) (pv 7) (pv 9) (fun _ _ => rfl)) (pe_ix (ix_seq_K (K := K) rfl) (pv 6) (pv 9) (fun _ _ => rfl))) pa_nil))))
      (pss_cons (ps_augS (pv 6) (pv 9) (pget_list_K (K := K) rfl) (pv 10) ip_add set_list)
      (pss_one (ps_aug (i := 8) nd rfl (Or.inl rfl) (pv 10) ip_sub)))))
      (pss_one (ps_ret (pe_tup (pa_cons (pe_callTy (call_tuple_K (K := K) rfl) (by rfl) G.tuple_ bt_tuple (pa_cons (pv 6) pa_nil)) (pa_cons (pv 5) pa_nil))))))))))), fun H0 ds post h => ?_, fun H0 ds h hE => ?_⟩
  · try dsimp only [cyK, cyP, cyW, cyM, cyB, List.map_cons, List.map_nil]
    obtain ⟨job, rfl, J, rfl, hJ, hlo, hhi, q⟩ := h
    have h24 := hJ.n.2
    have hll := hJ.l
    have hhl := hJ.h
    walk_at "dd"
    refine if_yes hlo ?_
    walk_at "dd"
    refine if_ndec (fun z => absurd hhi z) fun _ => ?_
    walk_at "dd"
    refine ⟨J, rfl, hJ, hlo, hhi, fun r hr s1 s2 => ?_⟩
    refine as_name ?_
    show ExG _ _ _ _ _
    refine ex_ownP1 (by simp [flatG, flatD, flatAll, flatAll_ints, Γ0]) fun H1 => ?_
    walk_at "dd"
    refine eg_held fun ap hp => ?_
    walk_at "dd"
    refine ⟨J, r, 1, ap, kPart, partZ r, rfl, hJ, rfl, rfl, hp, part_call hr (by decide), ?_⟩
    refine ⟨_, rfl, flatAll_ints _, fun L hL => ?_⟩
    walk_at "dd"
    refine eg_held fun am hm => ?_
    walk_at "dd"
    refine ⟨J, r, 1, am, kMost, mostZ r, rfl, hJ, rfl, rfl, hm, most_call hr (by decide), ?_⟩
    walk_at "dd"
    refine rl_sumO rfl ?_
    walk_at "dd"
    refine ex_for ?_
    walk_at "dd"
    refine rl_lenO ?_
    walk_at "dd"
    rw [List.length_map, List.length_map, hJ.len]
    refine ⟨_, rfl, by omega, by omega, ?_⟩
    rw [show ((J.ws.length : Nat) : Int).toNat = J.ws.length by omega]
    refine ⟨fun i Γ m => ∃ z9 z10, ∃ (qs : List Int) (left : Int), Γ = [some (jobD J), some (.int J.t), some (.tup (J.ws.map .int)), some (.tup (J.ls.map .int)), some (.tup (J.hs.map .int)), some (dR r), some (.adr L), some (.lst ((J.ps.map fun p => mostZ r p.w p.l p.h).map .int)), some (.int left), z9, z10] ∧ m = ((), qs.map .int) ∧ Fill J.ps r J.t i qs left, ⟨none, none, _, _, rfl, rfl, Fill.nil hJ.ok s1⟩, ?_, ?_⟩
    · rintro i y Γ m hy ⟨z9, z10, qs, left, rfl, rfl, F⟩
      obtain ⟨hik, rfl⟩ := rangeD_get hy
      obtain ⟨p, hp, g1, g2, g3, po, pb⟩ := hJ.ex hik
      obtain ⟨x, hx, x1, x2, _, _⟩ := F.at_ i p hp
      have dm : ((J.ps.map fun p => mostZ r p.w p.l p.h).map D.int)[i]? = some (.int (mostZ r p.w p.l p.h)) := by rw [List.getElem?_map, List.getElem?_map, hp]; rfl
      have dx := mapD hx
      walk_at "dd"
      refine r2_ixL (at0 dm) ?_
      walk_at "dd"
      refine r2_ixO (at0 dx) ?_
      walk_at "dd"
      refine ex_augO ?_
      walk_at "dd"
      refine ⟨rfl, ?_⟩
      walk_at "dd"
      have hql : (qs.map D.int).length = qs.length := List.length_map _
      have hiq := (List.getElem?_eq_some_iff.mp hx).1
      refine ⟨rfl, _, i, x, rfl, by rw [ixN_in (by omega) (by omega)]; simp, at0 dx, ?_⟩
      walk_at "dd"
      refine ⟨rfl, ?_⟩
      show ExG _ _ _ _ _
      refine ex_aug (a := left) rfl ?_
      walk_at "dd"
      refine ⟨_, _, qs.set i (x + (if mostZ r p.w p.l p.h - x < left then mostZ r p.w p.l p.h - x else left)), _, rfl, ?_, F.step hp hx rfl⟩
      rw [List.map_set]
    · rintro Γ m ⟨z9, z10, qs, left, rfl, rfl, F⟩
      rw [rangeD_len, ← hJ.len] at F
      obtain ⟨f1, f2, f3⟩ := F.done hJ.ok s2
      walk_at "dd"
      refine rl_tupO ?_
      walk_at "dd"
      refine ⟨by show 2 ≤ sizeLine; decide, ?_⟩
      exact q qs r hr (F.len.trans hJ.len) f2 f1 f3
  · try dsimp only [cyK, cyP, cyW, cyM, cyB, List.map_cons, List.map_nil]
    obtain ⟨J, rfl, hJ, hno⟩ := h
    walk_at "dd"
    refine if_dec (fun c1 => ?_) fun c1 => ?_
    · walk_at "dd"
      refine if_ndec (fun c2 => ?_) fun c2 => absurd ⟨c1, c2⟩ hno
      walk_at "dd"
      exact ex_raise fun σ H hI => hE H hI.1
    · walk_at "dd"
      exact ex_raise fun σ H hI => hE H hI.1
theorem sc__law_box : FnScope ["script"] ["script"] (defScope (topS 29)) := ⟨rfl, rfl, rfl, by decide +kernel, rfl, by decide +kernel, by decide +kernel⟩
theorem ok__law_box {f : Addr} {fd : FuncData} (F : Fun K "_law_box" "_law_box" (topS 29) f fd) (G : Mg mg)  : FnOk P w K mg base CX0 1 f fd ["script"] (spBox K) := by
  refine F.ok sc__law_box (fun vs H Q E h => ?_) (fun cdv A outer s H vs Q E hr h => ?_)
  · obtain ⟨a, ns, rfl, _⟩ := h
    rfl
  · obtain ⟨a, ns, rfl, hS, q⟩ := h
    have nd := (sc__law_box).nd
    refine ⟨_, (pss_one (ps_ret (pe_lst (pa_cons (pe_callTy (call_list_K (K := K) rfl) (by rfl) G.list_ bt_list (pa_cons (pe_slice (sl_list_K (K := K) rfl) (pv 0) po_none (po_some pe_int)) pa_nil)) (pa_cons pe_int (pa_cons (pe_op op_add pe_int (pe_callB (call_len_K (K := K) rfl) (by rfl) G.len_ bt_len (pa_cons (pv 0) pa_nil))) pa_nil)))))), ?_⟩
    refine ⟨.ref a, rfl, 63, rfl, a, ns.map V.int, rfl, hS, fun c nc => ?_⟩
    have s1 : Same H (upd H c (.lst (cutV (ns.map V.int) none (some 63)))) := fun b x e => by
      rw [upd_ne (ne_of_none e nc)]; exact e
    refine ⟨c, _, rfl, .inl (SqL.of upd_same), fun l nl => ?_⟩
    have s2 : Same (upd H c (.lst (cutV (ns.map V.int) none (some 63)))) (upd (upd H c (.lst (cutV (ns.map V.int) none (some 63)))) l (.lst (cutV (ns.map V.int) none (some 63)))) := fun b x e => by
      rw [upd_ne (ne_of_none e nl)]; exact e
    have nlc : l ≠ c := fun z => by rw [z, upd_same] at nl; cases nl
    refine ⟨.ref a, rfl, a, ns.map V.int, rfl, .inl (s2.seq (s1.seq hS)), 4711, _, rfl, rfl, by show 3 ≤ sizeLine; decide, fun p np => ?_⟩
    have npl : p ≠ l := fun z => by rw [z, upd_same] at np; cases np
    obtain ⟨ms, hms⟩ : ∃ ms : List Int, cutV (ns.map V.int) none (some 63) = ms.map V.int := ⟨(ns.drop _).take _, by unfold cutV; rw [List.map_take, List.map_drop]⟩
    have e1 : Ext F0 H (upd H c (.lst (cutV (ns.map V.int) none (some 63)))) := .new nc
    have hl : H l = none := s1.free nl
    have hp : H p = none := (s1.trans s2).free np
    refine q p l _ ms.length ((e1.trans (.new nl)).trans (.new np)) hp hl ⟨npl, 0, 4711 + _, ms, upd_same, ?_, rfl⟩
    rw [upd_ne (Ne.symm npl), upd_same, hms]
theorem sc__law_load : FnScope ["box", "cells", "cell", "size", "first", "second"] ["box"] (defScope (topS 30)) := ⟨rfl, rfl, rfl, by decide +kernel, rfl, by decide +kernel, by decide +kernel⟩
theorem ok__law_load {f : Addr} {fd : FuncData} (F : Fun K "_law_load" "_law_load" (topS 30) f fd) (G : Mg mg)  : FnOk P w K mg base CX0 1 f fd ["box"] (SpB K tabs (c0 kLoad)) := by
  refine okB F sc__law_load lenB0 fun cdv A outer s H E hc hr => ?_
  have nd := (sc__law_load).nd
  refine ⟨_, (pss_cons (ps_set (i := 1) nd rfl (Or.inl rfl) (pe_ix (ix_seq_K (K := K) rfl) (pv 0) pe_int (fun _ _ => rfl)))
      (pss_cons (ps_if (pt_cmpR op_gt (pe_callB (call_len_K (K := K) rfl) (by rfl) G.len_ bt_len (pa_cons (pv 1) pa_nil)) pe_int (nomark _)) (pss_cons (ps_set (i := 2) nd rfl (Or.inl rfl) (pe_callTy call_int1' (by rfl) G.int_ bt_int (pa_cons (pe_bm PySem.F.plainAttrs_list PySem.F.slot_list_pop PySem.F.type_list_pop mt_popAt (pv 1) (pa_cons pe_int pa_nil)) pa_nil)))
      (pss_cons (ps_set (i := 3) nd rfl (Or.inl rfl) (pe_ifExp (pt_cmpR op_ge (pv 2) pe_int (nomark _)) (pe_op op_mulA pe_int (pv 2)) (pe_op op_sub (pe_op op_mulA (pe_un un_neg pe_int) (pv 2)) pe_int)))
      (pss_cons (ps_if (pt_cmpR op_ge (pv 3) pe_int (nomark _)) (pss_one (ps_ret (pv 3))) pss_nil)
      (pss_one (ps_asg (pe_op op_mod (pe_callTy call_int1' (by rfl) G.int_ bt_int (pa_cons (pe_op op_add (pe_op op_add (pe_op op_mulA (pe_ix (ix_seq_K (K := K) rfl) (pv 0) pe_int (fun _ _ => rfl)) pe_int) (pe_op op_mulA (pv 3) pe_int)) pe_int) pa_nil)) pe_int) (pg_sub (pv 0) pe_int set_list)))))) pss_nil)
      (pss_cons (ps_set (i := 4) nd rfl (Or.inl rfl) (pe_op op_mod (pe_callTy call_int1' (by rfl) G.int_ bt_int (pa_cons (pe_op op_add (pe_op op_mulA (pe_ix (ix_seq_K (K := K) rfl) (pv 0) pe_int (fun _ _ => rfl)) pe_int) pe_int) pa_nil)) pe_int))
      (pss_cons (ps_set (i := 5) nd rfl (Or.inl rfl) (pe_op op_mod (pe_callTy call_int1' (by rfl) G.int_ bt_int (pa_cons (pe_op op_add (pe_op op_mulA (pv 4) pe_int) pe_int) pa_nil)) pe_int))
      (pss_cons (ps_asg (pe_op op_mod (pe_callTy call_int1' (by rfl) G.int_ bt_int (pa_cons (pe_op op_add (pe_op op_mulA (pv 5) pe_int) pe_int) pa_nil)) pe_int) (pg_sub (pv 0) pe_int set_list))
      (pss_one (ps_ret (pe_op op_add (pe_op op_add (pe_op op_mulA (pv 4) pe_int) (pe_op op_mulA (pv 5) pe_int)) (pe_ix (ix_seq_K (K := K) rfl) (pv 0) pe_int (fun _ _ => rfl)))))))))), fun S B C hB hC nB ds post h => ?_⟩
  try dsimp only [cxK, cxP, cxW, cxM, cxB, List.map_cons, List.map_nil]
  obtain ⟨rfl, q⟩ := h
  walk_at "dd"
  refine if_dec (fun h => ?_) fun h => ?_
  · walk_at "dd"
    refine eg_popB (n0 := nB - 1) (by omega) ?_
    walk_at "dd"
    refine ⟨rfl, ?_⟩
    walk_at "dd"
    refine ⟨rfl, rfl, fun cell => ?_⟩
    walk_at "dd"
    refine if_dec (fun h => ?_) fun h => ?_
    · walk_at "dd"
      · refine if_dec (fun h => ?_) fun h => ?_
        · walk_at "dd"
          exact q _
        · walk_at "dd"
          · exact q _
          all_goals first | exact mulS (by decide) | exact mulS' (by decide) | (show (0 : Int) < _; decide)
      all_goals first | exact mulS (by decide) | exact mulS' (by decide) | (show (0 : Int) < _; decide)
    · walk_at "dd"
      · refine if_dec (fun h => ?_) fun h => ?_
        · walk_at "dd"
          exact q _
        · walk_at "dd"
          · exact q _
          all_goals first | exact mulS (by decide) | exact mulS' (by decide) | (show (0 : Int) < _; decide)
      all_goals first | exact mulS (by decide) | exact mulS' (by decide) | (show (0 : Int) < _; decide)
  · walk_at "dd"
    · exact q _
    all_goals first | exact mulS (by decide) | exact mulS' (by decide) | (show (0 : Int) < _; decide)
theorem sc__law_draw : FnScope ["box", "many", "digit"] ["box", "many"] (defScope (topS 31)) := ⟨rfl, rfl, rfl, by decide +kernel, rfl, by decide +kernel, by decide +kernel⟩
theorem ok__law_draw {f : Addr} {fd : FuncData} (F : Fun K "_law_draw" "_law_draw" (topS 31) f fd) (G : Mg mg) (f__law_load : Cal P w K mg base 1 "_law_load" (SpB K tabs (c0 kLoad))) : FnOk P w K mg base CX0 2 f fd ["box", "many"] (SpB K tabs (c1 kDraw)) := by
  refine okB F sc__law_draw lenB1 fun cdv A outer s H E hc hr => ?_
  have nd := (sc__law_draw).nd
  refine ⟨_, (pss_cons (ps_if (pt_cmpR op_lt (pe_ix (ix_seq_K (K := K) rfl) (pv 0) pe_int (fun _ _ => rfl)) (pv 1) (nomark _)) (pss_one (ps_asg (pe_cal f__law_load hr (by decide) (by rfl) (pa_cons (pv 0) pa_nil)) (pg_sub (pv 0) pe_int set_list))) pss_nil)
      (pss_cons (ps_set (i := 2) nd rfl (Or.inl rfl) (pe_op op_mod (pe_callTy call_int1' (by rfl) G.int_ bt_int (pa_cons (pe_ix (ix_seq_K (K := K) rfl) (pv 0) pe_int (fun _ _ => rfl)) pa_nil)) (pv 1)))
      (pss_cons (ps_asg (pe_op op_fdivW (pe_ix (ix_seq_K (K := K) rfl) (pv 0) pe_int (fun _ _ => rfl)) (pv 1)) (pg_sub (pv 0) pe_int set_list))
      (pss_one (ps_ret (pv 2)))))), fun S B C hB hC nB ds post h => ?_⟩
  try dsimp only [cxK, cxP, cxW, cxM, cxB, List.map_cons, List.map_nil]
  obtain ⟨many, rfl, m, rfl, h0, hb, q⟩ := h
  walk_at "dd"
  refine if_dec (fun h => ?_) fun h => ?_
  · walk_at "dd"
    intro x nn
    walk_at "dd"
    · exact q _ (Int.emod_nonneg _ (by omega)) (Int.emod_lt_of_pos _ h0)
    · exact ⟨h0, hb⟩
    · exact h0
  · walk_at "dd"
    · exact q _ (Int.emod_nonneg _ (by omega)) (Int.emod_lt_of_pos _ h0)
    · exact ⟨h0, hb⟩
    · exact h0
theorem sc__law_same : FnScope ["a", "b", "k"] ["a", "b"] (defScope (topS 32)) := ⟨rfl, rfl, rfl, by decide +kernel, rfl, by decide +kernel, by decide +kernel⟩
theorem ok__law_same {f : Addr} {fd : FuncData} (F : Fun K "_law_same" "_law_same" (topS 32) f fd) (G : Mg mg) (mgf : mg "_law_same" = some (.ref f)) (hb : Binds K fd ["a", "b"] [])  : ∀ n, FnOk P w K mg base CX0 (0 + n + 1) f fd ["a", "b"] (SpP K tabs (c2 (kSame n))) := by
  refine recP (q := fun n => c2 fun a b post => ∃ m, n = m + 1 ∧ kSame m a b post) (fun n ds post ⟨a, b, e, m, e2, h⟩ => ⟨m, e2, a, b, e, h⟩) 0 mgf F.kp hb (fun n f__law_same => ?_)
  refine okP F sc__law_same len2 fun cdv A outer s H E hc hr => ?_
  have nd := (sc__law_same).nd
  refine ⟨_, (pss_cons (ps_if (pw_or (pw_and (pt_val (pe_callB (call_isi_K (K := K) rfl) (by rfl) G.isinstance_ bt_isinstance (pa_cons (pv 0) (pa_cons (pe_bltn (v := .ty "tuple") (by rfl) G.tuple_ bt_tuple rfl) pa_nil)))) (pw_and1 (pt_val (pe_callB (call_isi_K (K := K) rfl) (by rfl) G.isinstance_ bt_isinstance (pa_cons (pv 1) (pa_cons (pe_bltn (v := .ty "tuple") (by rfl) G.tuple_ bt_tuple rfl) pa_nil)))))).pt (pw_or1 (pw_and (pt_val (pe_callB (call_isi_K (K := K) rfl) (by rfl) G.isinstance_ bt_isinstance (pa_cons (pv 0) (pa_cons (pe_bltn (v := .ty "list") (by rfl) G.list_ bt_list rfl) pa_nil)))) (pw_and1 (pt_val (pe_callB (call_isi_K (K := K) rfl) (by rfl) G.isinstance_ bt_isinstance (pa_cons (pv 1) (pa_cons (pe_bltn (v := .ty "list") (by rfl) G.list_ bt_list rfl) pa_nil)))))).pt)).pt (pss_one (ps_ret (pe_and (pe_cmpR op_eq (pe_callB (call_len_K (K := K) rfl) (by rfl) G.len_ bt_len (pa_cons (pv 0) pa_nil)) (pe_callB (call_len_K (K := K) rfl) (by rfl) G.len_ bt_len (pa_cons (pv 1) pa_nil)) (nomark _)) (pe_one (pe_callB (cr_all_K (K := K) rfl rfl) (by rfl) G.all_ bt_all (pa_cons (pe_lc (own := [("k", 2)]) rfl nd (pi_range1 (by rfl) G.range_ (pa_cons (pe_callB (call_len_K (K := K) rfl) (by rfl) G.len_ bt_len (pa_cons (pv 0) pa_nil)) pa_nil)) (blkOk_by (N := ["a", "b", "k"]) (sc := defScope (topS 32)) (by decide +kernel)) (fun _ _ _ _ _ => (pg_name (i := 2) nd rfl (Or.inl rfl))) (fun _ _ _ _ _ => pts_nil) (fun _ _ _ _ _ => (pe_cal f__law_same hr (by omega) (by rfl) (pa_cons (pe_ix (ix_seq_K (K := K) rfl) (pv 0) (pv 2) (fun _ _ => rfl)) (pa_cons (pe_ix (ix_seq_K (K := K) rfl) (pv 1) (pv 2) (fun _ _ => rfl)) pa_nil))))) pa_nil)))))) pss_nil)
      (pss_cons (ps_if (pw_or (pt_val (pe_callB (call_isi_K (K := K) rfl) (by rfl) G.isinstance_ bt_isinstance (pa_cons (pv 0) (pa_cons (pe_bltn (v := .ty "bool") (by rfl) G.bool_ bt_bool rfl) pa_nil)))) (pw_or1 (pt_val (pe_callB (call_isi_K (K := K) rfl) (by rfl) G.isinstance_ bt_isinstance (pa_cons (pv 1) (pa_cons (pe_bltn (v := .ty "bool") (by rfl) G.bool_ bt_bool rfl) pa_nil)))))).pt (pss_one (ps_ret (pe_and (pe_callB (call_isi_K (K := K) rfl) (by rfl) G.isinstance_ bt_isinstance (pa_cons (pv 0) (pa_cons (pe_bltn (v := .ty "bool") (by rfl) G.bool_ bt_bool rfl) pa_nil))) (pe_and (pe_callB (call_isi_K (K := K) rfl) (by rfl) G.isinstance_ bt_isinstance (pa_cons (pv 1) (pa_cons (pe_bltn (v := .ty "bool") (by rfl) G.bool_ bt_bool rfl) pa_nil))) (pe_one (pe_cmpR op_eq (pv 0) (pv 1) (nomark _))))))) pss_nil)
      (pss_cons (ps_if (pw_or (pw_and (pt_val (pe_callB (call_isi_K (K := K) rfl) (by rfl) G.isinstance_ bt_isinstance (pa_cons (pv 0) (pa_cons (pe_bltn (v := .ty "int") (by rfl) G.int_ bt_int rfl) pa_nil)))) (pw_and1 (pt_val (pe_callB (call_isi_K (K := K) rfl) (by rfl) G.isinstance_ bt_isinstance (pa_cons (pv 1) (pa_cons (pe_bltn (v := .ty "int") (by rfl) G.int_ bt_int rfl) pa_nil)))))).pt (pw_or1 (pw_and (pt_val (pe_callB (call_isi_K (K := K) rfl) (by rfl) G.isinstance_ bt_isinstance (pa_cons (pv 0) (pa_cons (pe_bltn (v := .ty "str") (by rfl) G.str_ bt_str rfl) pa_nil)))) (pw_and1 (pt_val (pe_callB (call_isi_K (K := K) rfl) (by rfl) G.isinstance_ bt_isinstance (pa_cons (pv 1) (pa_cons (pe_bltn (v := .ty "str") (by rfl) G.str_ bt_str rfl) pa_nil)))))).pt)).pt (pss_one (ps_ret (pe_cmpR op_eq (pv 0) (pv 1) (nomark _)))) pss_nil)
      (pss_one (ps_ret (pe_and (pe_cmpR op_isN' (pv 0) pe_non (nomark _)) (pe_one (pe_cmpR op_isN' (pv 1) pe_non (nomark _))))))))), fun S ds post h => ?_⟩
  try dsimp only [cxK, cxP, cxW, cxM, cxB, List.map_cons, List.map_nil]
  obtain ⟨a, b, rfl, rfl, hd, q⟩ := h
  cases a with
  | adr _ => unfold dep at hd; simp at hd
  | ty _ => unfold dep at hd; simp at hd
  | lst _ => unfold dep at hd; simp at hd
  | tup ds =>
    cases n with
    | zero => unfold dep at hd; simp at hd
    | succ m =>
      have hd' : ds.length ≤ 100 ∧ depAll m ds = true := by simpa [dep] using hd
      walk_at "dd"
      refine if_yes rfl ?_
      walk_at "dd"
      refine eg_lcP (fun _ => .bl true) ?_ hw_name
      walk_at "dd"
      refine ⟨_, rfl, by omega, by omega, ?_⟩
      refine ⟨by rw [rangeD_len]; exact small_sz (by omega), fun x hx μ A => ?_, fun μ => ?_⟩
      · obtain ⟨i, hi, rfl⟩ := mem_range hx
        have hi' : i < ds.length := by omega
        have hx := List.getElem?_eq_getElem hi'
        walk_at "dd"
        refine r2_ixT (at0 hx) ?_
        walk_at "dd"
        refine r2_ixT (at0 hx) ?_
        walk_at "dd"
        exact ⟨m, rfl, rfl, depAll_at hd'.2 hx, rfl⟩
      · rw [map_true]
        walk_at "dd"
        rw [show (List.replicate (rangeD 0 (ds.length : Int).toNat).length true).all id = true from by simp]
        exact q
  | bl b =>
    walk_at "dd"
    rw [decide_eq_true rfl]
    exact q
  | int i =>
    walk_at "dd"
    rw [decide_eq_true rfl]
    exact q
  | str i =>
    walk_at "dd"
    rw [show (i == i) = true from by simp]
    exact q
  | non =>
    walk_at "dd"
    exact q
theorem sc__law_bent : FnScope ["box", "value", "at", "pick"] ["box", "value"] (defScope (topS 33)) := ⟨rfl, rfl, rfl, by decide +kernel, rfl, by decide +kernel, by decide +kernel⟩
theorem ok__law_bent {f : Addr} {fd : FuncData} (F : Fun K "_law_bent" "_law_bent" (topS 33) f fd) (G : Mg mg) (mgf : mg "_law_bent" = some (.ref f)) (hb : Binds K fd ["box", "value"] []) (f__law_draw : Cal P w K mg base 2 "_law_draw" (SpB K tabs (c1 kDraw))) : ∀ n, FnOk P w K mg base CX0 (2 + n + 1) f fd ["box", "value"] (SpB K tabs (c1 (kBent n))) := by
  refine recB (q := fun n => c1 fun a post => ∃ m, n = m + 1 ∧ kBent m a post) (fun n ds post ⟨a, e, m, e2, h⟩ => ⟨m, e2, a, e, h⟩) 2 mgf F.kp hb (fun n f__law_bent => ?_)
  refine okB F sc__law_bent lenB1 fun cdv A outer s H E hc hr => ?_
  have nd := (sc__law_bent).nd
  refine ⟨_, (pss_cons (ps_if (pw_and (pt_val (pe_callB (call_isi_K (K := K) rfl) (by rfl) G.isinstance_ bt_isinstance (pa_cons (pv 1) (pa_cons (pe_bltn (v := .ty "tuple") (by rfl) G.tuple_ bt_tuple rfl) pa_nil)))) (pw_and (pt_cmpR op_gt (pe_callB (call_len_K (K := K) rfl) (by rfl) G.len_ bt_len (pa_cons (pv 1) pa_nil)) pe_int (nomark _)) (pw_and1 (pt_cmpR op_gt (pe_cal f__law_draw hr (by omega) (by rfl) (pa_cons (pv 0) (pa_cons pe_int pa_nil))) pe_int (nomark _))))).pt (pss_cons (ps_set (i := 2) nd rfl (Or.inl rfl) (pe_cal f__law_draw hr (by omega) (by rfl) (pa_cons (pv 0) (pa_cons (pe_callB (call_len_K (K := K) rfl) (by rfl) G.len_ bt_len (pa_cons (pv 1) pa_nil)) pa_nil))))
      (pss_one (ps_ret (pe_op (op_catA_K (K := K) rfl) (pe_op (op_catA_K (K := K) rfl) (pe_slice (sl_tupA_K (K := K) rfl) (pv 1) po_none (po_some (pv 2))) (pe_tup (pa_cons (pe_cal f__law_bent hr (by omega) (by rfl) (pa_cons (pv 0) (pa_cons (pe_ix (ix_seq_K (K := K) rfl) (pv 1) (pv 2) (fun _ _ => rfl)) pa_nil))) pa_nil))) (pe_slice (sl_tupA_K (K := K) rfl) (pv 1) (po_some (pe_op op_add (pv 2) pe_int)) po_none))))) pss_nil)
      (pss_cons (ps_set (i := 3) nd rfl (Or.inl rfl) (pe_cal f__law_draw hr (by omega) (by rfl) (pa_cons (pv 0) (pa_cons pe_int pa_nil))))
      (pss_cons (ps_if (pt_val (pe_callB (call_isi_K (K := K) rfl) (by rfl) G.isinstance_ bt_isinstance (pa_cons (pv 1) (pa_cons (pe_bltn (v := .ty "tuple") (by rfl) G.tuple_ bt_tuple rfl) pa_nil)))) (pss_one (ps_ret (pe_ix (ix_seq_K (K := K) rfl) (pe_lst (pa_cons (pe_op (op_catA_K (K := K) rfl) (pv 1) (pe_slice (sl_tupA_K (K := K) rfl) (pv 1) po_none (po_some pe_int))) (pa_cons (pe_slice (sl_tupA_K (K := K) rfl) (pv 1) (po_some pe_int) po_none) (pa_cons (pe_revT_K (K := K) rfl (pv 1)) (pa_cons (pe_op (op_catA_K (K := K) rfl) (pv 1) (pe_tup (pa_cons pe_int pa_nil))) (pa_cons (pe_op (op_catA_K (K := K) rfl) (pe_slice (sl_tupA_K (K := K) rfl) (pv 1) po_none (po_some pe_int)) (pv 1)) (pa_cons (pe_slice (sl_tupA_K (K := K) rfl) (pv 1) po_none (po_some (pe_un un_neg pe_int))) (pa_cons pe_non (pa_cons (pe_slice (sl_tupA_K (K := K) rfl) (pv 1) po_none (po_some pe_int)) pa_nil))))))))) (pv 3) (fun _ _ => rfl)))) pss_nil)
      (pss_cons (ps_if (pw_and (pt_val (pe_callB (call_isi_K (K := K) rfl) (by rfl) G.isinstance_ bt_isinstance (pa_cons (pv 1) (pa_cons (pe_bltn (v := .ty "int") (by rfl) G.int_ bt_int rfl) pa_nil)))) (pw_and1 (pt_not (pt_val (pe_callB (call_isi_K (K := K) rfl) (by rfl) G.isinstance_ bt_isinstance (pa_cons (pv 1) (pa_cons (pe_bltn (v := .ty "bool") (by rfl) G.bool_ bt_bool rfl) pa_nil))))))).pt (pss_one (ps_ret (pe_ix (ix_seq_K (K := K) rfl) (pe_lst (pa_cons (pe_op op_add (pv 1) pe_int) (pa_cons (pe_op op_sub (pv 1) pe_int) (pa_cons (pe_un un_neg (pv 1)) (pa_cons (pe_cmpR op_eq (pv 1) pe_int (nomark _)) (pa_cons pe_non (pa_cons (pe_callTy call_str_int' (by rfl) G.str_ bt_str (pa_cons (pv 1) pa_nil)) (pa_cons (pe_tup (pa_cons (pv 1) pa_nil)) (pa_cons (pe_op op_add (pv 1) pe_int) pa_nil))))))))) (pv 3) (fun _ _ => rfl)))) pss_nil)
      (pss_cons ps_never
      (pss_one ps_never)))))), fun S B C hB hC nB ds post h => ?_⟩
  try dsimp only [cxK, cxP, cxW, cxM, cxB, List.map_cons, List.map_nil]
  obtain ⟨v, rfl, b, hb1, hb2, hv, q⟩ := h
  cases v with
  | non => cases n <;> simp [ben] at hv
  | bl _ => cases n <;> simp [ben] at hv
  | str _ => cases n <;> simp [ben] at hv
  | lst _ => cases n <;> simp [ben] at hv
  | adr _ => cases n <;> simp [ben] at hv
  | ty _ => cases n <;> simp [ben] at hv
  | int i =>
    have hi := ben_int hv
    have pd := pow_dbl b
    have p10 : 2 ^ 10 < 2 ^ b := Nat.pow_lt_pow_right (by decide) (by omega)
    have e10 : (2 : Nat) ^ 10 = 1024 := by decide
    walk_at "dd"
    refine ⟨8, rfl, by decide, by decide, fun j j0 j1 nn => ?_⟩
    walk_at "dd"
    refine rl_str (log2_lt hi (by omega) (by decide)) ?_
    walk_at "dd"
    refine ⟨by show 1 ≤ sizeLine; decide, ?_⟩
    walk_at "dd"
    refine ⟨by show 8 ≤ sizeLine; decide, ?_⟩
    walk_at "dd"
    obtain ⟨d, e1, _⟩ := atI_some (xs := [D.int (i + 1), D.int (i - 1), D.int (-i), D.bl (decide (i = 1)), D.non, D.str (toString i), D.tup [D.int i], D.int (i + 1001)]) j0 j1
    refine r2_ixL e1 ?_
    refine q d (okAt (fun d hd => ?_) e1)
    simp only [List.mem_cons, List.not_mem_nil, or_false] at hd
    rcases hd with rfl | rfl | rfl | rfl | rfl | rfl | rfl | rfl
    · exact okI_of (by omega)
    · exact okI_of (by omega)
    · exact okI_of (by omega)
    · unfold okD; trivial
    · unfold okD; trivial
    · unfold okD; trivial
    · exact okT_of (by show 1 ≤ 100; decide) fun d hd => by
        rw [List.mem_singleton] at hd
        subst hd
        exact okI_of (by omega)
    · exact okI_of (by omega)
  | tup ds =>
    obtain ⟨m, rfl, hl, hall⟩ := ben_tup hv
    have hok : ∀ d ∈ ds, okD (b + 1) d := fun d hd => ben_ok (by omega) m d (hall d hd)
    have sz : ∀ k : Nat, k ≤ 1000 → k ≤ sizeLine := fun k h => Nat.le_of_lt (small_sz h)
    have hc : ∀ lo hi, (cutD ds lo hi).length ≤ ds.length := fun lo hi => len_cut
    walk_at "dd"
    refine if_dec (fun h0 => ?_) fun h0 => ?_
    · walk_at "dd"
      refine ⟨5, rfl, by decide, by decide, fun j _ _ nn => ?_⟩
      walk_at "dd"
      refine if_dec (fun h1 => ?_) fun h1 => ?_
      · walk_at "dd"
        refine ⟨_, rfl, h0, log2_le (by omega), fun j j0 j1 nn => ?_⟩
        walk_at "dd"
        obtain ⟨d, e1, e2⟩ := atI_some j0 j1
        refine r2_ixT e1 ?_
        walk_at "dd"
        refine ⟨m, rfl, b, hb1, hb2, hall d (List.mem_of_getElem? e2), fun d' hd' nn => ?_⟩
        walk_at "dd"
        refine ⟨by show 1 ≤ sizeLine; decide, ?_⟩
        refine r2_catT (sz _ (by have := hc none (some j); simp; omega)) ?_
        walk_at "dd"
        refine r2_catT (sz _ (by have := hc none (some j); have := hc (some (j + 1)) none; simp; omega)) ?_
        refine q _ (okT_of (by have := hc none (some j); have := hc (some (j + 1)) none; simp; omega) fun d hd => ?_)
        rcases List.mem_append.mp hd with hd | hd
        · rcases List.mem_append.mp hd with hd | hd
          · exact hok d (mem_cut hd)
          · rw [List.mem_singleton] at hd
            subst hd
            exact hd'
        · exact hok d (mem_cut hd)
      · walk_at "dd"
        refine ⟨8, rfl, by decide, by decide, fun j j0 j1 nn => ?_⟩
        walk_at "dd"
        refine r2_catT (sz _ (by have := hc none (some 1); omega)) ?_
        walk_at "dd"
        refine ⟨by show 1 ≤ sizeLine; decide, ?_⟩
        refine r2_catT (sz _ (by simp; omega)) ?_
        walk_at "dd"
        refine r2_catT (sz _ (by have := hc none (some 1); omega)) ?_
        walk_at "dd"
        refine ⟨by show 8 ≤ sizeLine; decide, ?_⟩
        walk_at "dd"
        obtain ⟨d, e1, _⟩ := atI_some (xs := [D.tup (ds ++ cutD ds none (some 1)), D.tup (cutD ds (some 1) none), D.tup ds.reverse, D.tup (ds ++ [D.int 0]), D.tup (cutD ds none (some 1) ++ ds), D.tup (cutD ds none (some (-1))), D.non, D.tup (cutD ds none (some 1))]) j0 j1
        refine r2_ixL e1 ?_
        refine q d (okAt (fun d hd => ?_) e1)
        simp only [List.mem_cons, List.not_mem_nil, or_false] at hd
        rcases hd with rfl | rfl | rfl | rfl | rfl | rfl | rfl | rfl
        · exact okT_of (by rw [List.length_append]; have := hc none (some 1); omega) fun d hd => (List.mem_append.mp hd).elim (hok d) fun z => hok d (mem_cut z)
        · exact okT_of (by have := hc (some 1) none; omega) fun d hd => hok d (mem_cut hd)
        · exact okT_of (by rw [List.length_reverse]; omega) fun d hd => hok d (List.mem_reverse.mp hd)
        · refine okT_of (by rw [List.length_append]; simp; omega) fun d hd => (List.mem_append.mp hd).elim (hok d) fun z => ?_
          rw [List.mem_singleton] at z
          subst z
          exact okI_of (Nat.two_pow_pos _)
        · exact okT_of (by rw [List.length_append]; have := hc none (some 1); omega) fun d hd => (List.mem_append.mp hd).elim (fun z => hok d (mem_cut z)) (hok d)
        · exact okT_of (by have := hc none (some (-1)); omega) fun d hd => hok d (mem_cut hd)
        · unfold okD; trivial
        · exact okT_of (by have := hc none (some 1); omega) fun d hd => hok d (mem_cut hd)
    · walk_at "dd"
      refine ⟨8, rfl, by decide, by decide, fun j j0 j1 nn => ?_⟩
      walk_at "dd"
      refine r2_catT (sz _ (by have := hc none (some 1); omega)) ?_
      walk_at "dd"
      refine ⟨by show 1 ≤ sizeLine; decide, ?_⟩
      refine r2_catT (sz _ (by simp; omega)) ?_
      walk_at "dd"
      refine r2_catT (sz _ (by have := hc none (some 1); omega)) ?_
      walk_at "dd"
      refine ⟨by show 8 ≤ sizeLine; decide, ?_⟩
      walk_at "dd"
      obtain ⟨d, e1, _⟩ := atI_some (xs := [D.tup (ds ++ cutD ds none (some 1)), D.tup (cutD ds (some 1) none), D.tup ds.reverse, D.tup (ds ++ [D.int 0]), D.tup (cutD ds none (some 1) ++ ds), D.tup (cutD ds none (some (-1))), D.non, D.tup (cutD ds none (some 1))]) j0 j1
      refine r2_ixL e1 ?_
      refine q d (okAt (fun d hd => ?_) e1)
      simp only [List.mem_cons, List.not_mem_nil, or_false] at hd
      rcases hd with rfl | rfl | rfl | rfl | rfl | rfl | rfl | rfl
      · exact okT_of (by rw [List.length_append]; have := hc none (some 1); omega) fun d hd => (List.mem_append.mp hd).elim (hok d) fun z => hok d (mem_cut z)
      · exact okT_of (by have := hc (some 1) none; omega) fun d hd => hok d (mem_cut hd)
      · exact okT_of (by rw [List.length_reverse]; omega) fun d hd => hok d (List.mem_reverse.mp hd)
      · refine okT_of (by rw [List.length_append]; simp; omega) fun d hd => (List.mem_append.mp hd).elim (hok d) fun z => ?_
        rw [List.mem_singleton] at z
        subst z
        exact okI_of (Nat.two_pow_pos _)
      · exact okT_of (by rw [List.length_append]; have := hc none (some 1); omega) fun d hd => (List.mem_append.mp hd).elim (fun z => hok d (mem_cut z)) (hok d)
      · exact okT_of (by have := hc none (some (-1)); omega) fun d hd => hok d (mem_cut hd)
      · unfold okD; trivial
      · exact okT_of (by have := hc none (some 1); omega) fun d hd => hok d (mem_cut hd)
theorem sc__law_common : FnScope ["a", "b"] ["a", "b"] (defScope (topS 34)) := ⟨rfl, rfl, rfl, by decide +kernel, rfl, by decide +kernel, by decide +kernel⟩
theorem ok__law_common {f : Addr} {fd : FuncData} (F : Fun K "_law_common" "_law_common" (topS 34) f fd) (G : Mg mg)  : FnOk P w K mg base CX0 1 f fd ["a", "b"] (SpP K tabs (c2 kCommon)) := by
  refine okP F sc__law_common len2 fun cdv A outer s H E hc hr => ?_
  have nd := (sc__law_common).nd
  refine ⟨_, (pss_cons (ps_par (i := 0) (j := 1) rfl nd rfl rfl (by decide) rfl rfl (pa_cons (pe_callB call_abs' (by rfl) G.abs_ bt_abs (pa_cons (pv 0) pa_nil)) (pa_cons (pe_callB call_abs' (by rfl) G.abs_ bt_abs (pa_cons (pv 1) pa_nil)) pa_nil)) rfl)
      (pss_cons (ps_while PassesOwn.never (pt_cmpR op_gt (pv 1) pe_int (nomark _)) (pss_one (ps_par (i := 0) (j := 1) rfl nd rfl rfl (by decide) rfl rfl (pa_cons (pv 1) (pa_cons (pe_op op_mod (pe_callTy call_int1' (by rfl) G.int_ bt_int (pa_cons (pv 0) pa_nil)) (pv 1)) pa_nil)) rfl)))
      (pss_one (ps_ret (pv 0))))), fun S ds post h => ?_⟩
  try dsimp only [cxK, cxP, cxW, cxM, cxB, List.map_cons, List.map_nil]
  obtain ⟨a, b, rfl, x, y, rfl, rfl, q⟩ := h
  walk_at "dd"
  refine ⟨_, _, rfl, ?_⟩
  walk_at "dd"
  refine ex_while (fun Γ _ => ∃ a b : Nat, Γ = [some (.int (a : Int)), some (.int (b : Int))] ∧ Nat.gcd a b = Nat.gcd x.natAbs y.natAbs) (fun Γ _ => match Γ with
    | [_, some (.int b)] => b.toNat
    | _ => 0) ⟨x.natAbs, y.natAbs, by rw [abs_if, abs_if]; rfl, rfl⟩ ?_
  rintro Γ μ ⟨a, b, rfl, hg⟩
  walk_at "dd"
  refine ⟨fun e => ?_, fun e => ?_⟩
  · have e' := of_decide_eq_true e
    have hb : 0 < b := by omega
    walk_at "dd"
    · refine ⟨_, _, rfl, ?_⟩
      refine ⟨⟨b, a % b, by simp, ?_⟩, ?_⟩
      · rw [Nat.gcd_comm b, ← Nat.gcd_rec b a, Nat.gcd_comm b]; exact hg
      · show ((a : Int) % (b : Int)).toNat < ((b : Int)).toNat
        have := Nat.mod_lt a hb
        omega
    · omega
  · have e' := of_decide_eq_false e
    have hb : b = 0 := by omega
    subst hb
    walk_at "dd"
    rw [Nat.gcd_zero_right] at hg
    rw [← hg] at q
    exact q
theorem sc__law_whole : FnScope ["value", "low", "high"] ["value", "low", "high"] (defScope (topS 35)) := ⟨rfl, rfl, rfl, by decide +kernel, rfl, by decide +kernel, by decide +kernel⟩
theorem ok__law_whole {f : Addr} {fd : FuncData} (F : Fun K "_law_whole" "_law_whole" (topS 35) f fd) (G : Mg mg)  : FnOk P w K mg base CX0 1 f fd ["value", "low", "high"] (SpP K tabs (c3 kNum)) := by
  refine okP F sc__law_whole len3 fun cdv A outer s H E hc hr => ?_
  have nd := (sc__law_whole).nd
  refine ⟨_, (pss_one (ps_ret (pe_and (pe_callB (call_isi_K (K := K) rfl) (by rfl) G.isinstance_ bt_isinstance (pa_cons (pv 0) (pa_cons (pe_bltn (v := .ty "int") (by rfl) G.int_ bt_int rfl) pa_nil))) (pe_and (pe_not (pe_callB (call_isi_K (K := K) rfl) (by rfl) G.isinstance_ bt_isinstance (pa_cons (pv 0) (pa_cons (pe_bltn (v := .ty "bool") (by rfl) G.bool_ bt_bool rfl) pa_nil)))) (pe_one (pe_chain op_le op_le (pv 1) (pv 0) (pv 2))))))), fun S ds post h => ?_⟩
  try dsimp only [cxK, cxP, cxW, cxM, cxB, List.map_cons, List.map_nil]
  obtain ⟨v, l, m, rfl, a, b, hv, rfl, rfl, q⟩ := h
  cases v with
  | int i =>
    walk_at "dd"
    refine if_split (fun e => ?_) fun e => ?_
    · walk_at "dd"
      have : numB (.int i) a b = decide (i ≤ b) := by
        show (decide (a ≤ i) && decide (i ≤ b)) = _
        rw [e]; rfl
      rw [this] at q
      exact q
    · have : numB (.int i) a b = false := by
        show (decide (a ≤ i) && decide (i ≤ b)) = _
        rw [e]; rfl
      rw [this] at q
      exact q
  | adr _ => simp [okT, tyD] at hv
  | ty _ => simp [okT, tyD] at hv
  | _ => (walk_at "dd"; exact q)
theorem sc__law_row : FnScope ["value", "least", "part"] ["value", "least"] (defScope (topS 36)) := ⟨rfl, rfl, rfl, by decide +kernel, rfl, by decide +kernel, by decide +kernel⟩
theorem ok__law_row {f : Addr} {fd : FuncData} (F : Fun K "_law_row" "_law_row" (topS 36) f fd) (G : Mg mg) (f__law_whole : Cal P w K mg base 1 "_law_whole" (SpP K tabs (c3 kNum))) : FnOk P w K mg base CX0 2 f fd ["value", "least"] (SpP K tabs (c2 kInts)) := by
  refine okP F sc__law_row len2 fun cdv A outer s H E hc hr => ?_
  have nd := (sc__law_row).nd
  refine ⟨_, (pss_one (ps_ret (pe_and (pe_callB (call_isi_K (K := K) rfl) (by rfl) G.isinstance_ bt_isinstance (pa_cons (pv 0) (pa_cons (pe_bltn (v := .ty "tuple") (by rfl) G.tuple_ bt_tuple rfl) pa_nil))) (pe_and (pe_chain op_le op_le pe_int (pe_callB (call_len_K (K := K) rfl) (by rfl) G.len_ bt_len (pa_cons (pv 0) pa_nil)) pe_int) (pe_one (pe_callB (cr_all_K (K := K) rfl rfl) (by rfl) G.all_ bt_all (pa_cons (pe_lc (own := [("part", 2)]) rfl nd (pi_seq_K (K := K) rfl (pv 0)) (blkOk_by (N := ["value", "least", "part"]) (sc := defScope (topS 36)) (by decide +kernel)) (fun _ _ _ _ _ => (pg_name (i := 2) nd rfl (Or.inl rfl))) (fun _ _ _ _ _ => pts_nil) (fun _ _ _ _ _ => (pe_cal f__law_whole hr (by decide) (by rfl) (pa_cons (pv 2) (pa_cons (pv 1) (pa_cons pe_int pa_nil)))))) pa_nil))))))), fun S ds post h => ?_⟩
  try dsimp only [cxK, cxP, cxW, cxM, cxB, List.map_cons, List.map_nil]
  obtain ⟨v, l, rfl, b, a, ok, rfl, q⟩ := h
  cases v with
  | adr _ => unfold okD at ok; exact ok.elim
  | ty _ => unfold okD at ok; exact ok.elim
  | tup ds =>
    have okds := okAll_iff.mp (by unfold okD at ok; exact ok.2)
    have hv : intsB (.tup ds) a = ((decide (1 ≤ ds.length) && decide (ds.length ≤ 24)) && ds.all fun c => numB c a 1000000000) := rfl
    rw [hv] at q
    walk_at "dd"
    refine if_dec (fun h1 => ?_) fun h1 => ?_
    · walk_at "dd"
      refine if_dec (fun h2 => ?_) fun h2 => ?_
      · rw [decide_eq_true (by omega : 1 ≤ ds.length), decide_eq_true (by omega : ds.length ≤ 24)] at q
        walk_at "dd"
        refine eg_lcP (fun c => .bl (numB c a 1000000000)) ?_ hw_name
        walk_at "dd"
        refine ⟨_, .inl rfl, small_sz (by omega), fun x hx μ A => ?_, fun μ => ?_⟩
        · walk_at "dd"
          exact ⟨a, 1000000000, okD_T (okds x hx), rfl, rfl, rfl⟩
        · show EvA _ _ _ _ _
          have em : ds.map (fun c => D.bl (numB c a 1000000000)) = (ds.map fun c => numB c a 1000000000).map D.bl := by simp
          rw [em]
          walk_at "dd"
          have ea : (ds.map fun c => numB c a 1000000000).all id = ds.all fun c => numB c a 1000000000 := by rw [List.all_map]; rfl
          rw [ea]
          exact q
      · rw [decide_eq_false (by omega : ¬ ds.length ≤ 24), Bool.and_false] at q
        exact q
    · rw [decide_eq_false (by omega : ¬ 1 ≤ ds.length)] at q
      walk_at "dd"
      exact q
  | _ => (walk_at "dd"; exact q)
def leAt (li hi : List Int) : D → D
  | .int j => .bl (decide ((li[j.toNat]?).getD 0 ≤ (hi[j.toNat]?).getD 0))
  | d => d
theorem leI_iff : ∀ {li hi : List Int}, li.length = hi.length → (leI li hi = true ↔ ∀ k, k < li.length → (li[k]?).getD 0 ≤ (hi[k]?).getD 0)
  | [], [], _ => by simp [leI]
  | a :: r, b :: s, h => by
    have ih := leI_iff (li := r) (hi := s) (by simpa using h)
    unfold leI
    rw [Bool.and_eq_true, ih, decide_eq_true_eq]
    constructor
    · rintro ⟨h1, h2⟩ k hk
      cases k with
      | zero => exact h1
      | succ k => exact h2 k (by simpa using hk)
    · intro h3
      exact ⟨h3 0 (by simp), fun k hk => h3 (k + 1) (by simpa using hk)⟩
  | [], _ :: _, h => by simp at h
  | _ :: _, [], h => by simp at h
theorem leAt_all {n : Nat} {li hi : List Int} (h1 : li.length = n) (h2 : hi.length = n) : ∃ bs : List Bool, (rangeD 0 n).map (leAt li hi) = bs.map D.bl ∧ bs.all id = leI li hi := by
  refine ⟨(List.range n).map fun k => decide ((li[k]?).getD 0 ≤ (hi[k]?).getD 0), ?_, ?_⟩
  · unfold rangeD
    rw [List.map_map, List.map_map]
    refine List.map_congr_left fun k _ => ?_
    show D.bl (decide ((li[((0 : Int) + (k : Int)).toNat]?).getD 0 ≤ (hi[((0 : Int) + (k : Int)).toNat]?).getD 0)) = _
    rw [show ((0 : Int) + (k : Int)).toNat = k by omega]
    rfl
  · rw [Bool.eq_iff_iff, leI_iff (by omega), List.all_map, List.all_eq_true]
    constructor
    · intro h k hk
      exact of_decide_eq_true (h k (List.mem_range.mpr (by omega)))
    · intro h k hk
      exact decide_eq_true (h k (by have := List.mem_range.mp hk; omega))
theorem sc__law_job_due : FnScope ["value", "k"] ["value"] (defScope (topS 37)) := ⟨rfl, rfl, rfl, by decide +kernel, rfl, by decide +kernel, by decide +kernel⟩
theorem ok__law_job_due {f : Addr} {fd : FuncData} (F : Fun K "_law_job_due" "_law_job_due" (topS 37) f fd) (G : Mg mg) (f__law_row : Cal P w K mg base 2 "_law_row" (SpP K tabs (c2 kInts))) (f__law_whole : Cal P w K mg base 1 "_law_whole" (SpP K tabs (c3 kNum))) : FnOk P w K mg base CX0 3 f fd ["value"] (SpP K tabs (c1 kIsJob)) := by
  refine okP F sc__law_job_due len1 fun cdv A outer s H E hc hr => ?_
  have nd := (sc__law_job_due).nd
  refine ⟨_, (pss_cons (ps_if (pw_or (pt_not (pt_val (pe_callB (call_isi_K (K := K) rfl) (by rfl) G.isinstance_ bt_isinstance (pa_cons (pv 0) (pa_cons (pe_bltn (v := .ty "tuple") (by rfl) G.tuple_ bt_tuple rfl) pa_nil))))) (pw_or (pt_cmpR op_ne (pe_callB (call_len_K (K := K) rfl) (by rfl) G.len_ bt_len (pa_cons (pv 0) pa_nil)) pe_int (nomark _)) (pw_or1 (pt_not (pt_val (pe_cal f__law_whole hr (by decide) (by rfl) (pa_cons (pe_ix (ix_seq_K (K := K) rfl) (pv 0) pe_int (fun _ _ => rfl)) (pa_cons pe_int (pa_cons pe_int pa_nil))))))))).pt (pss_one (ps_ret pe_bl)) pss_nil)
      (pss_cons (ps_if (pw_or (pt_not (pt_val (pe_cal f__law_row hr (by decide) (by rfl) (pa_cons (pe_ix (ix_seq_K (K := K) rfl) (pv 0) pe_int (fun _ _ => rfl)) (pa_cons pe_int pa_nil))))) (pw_or (pt_not (pt_val (pe_cal f__law_row hr (by decide) (by rfl) (pa_cons (pe_ix (ix_seq_K (K := K) rfl) (pv 0) pe_int (fun _ _ => rfl)) (pa_cons pe_int pa_nil))))) (pw_or1 (pt_not (pt_val (pe_cal f__law_row hr (by decide) (by rfl) (pa_cons (pe_ix (ix_seq_K (K := K) rfl) (pv 0) pe_int (fun _ _ => rfl)) (pa_cons pe_int pa_nil)))))))).pt (pss_one (ps_ret pe_bl)) pss_nil)
      (pss_cons (ps_if (pw_or (pt_cmpR op_ne (pe_callB (call_len_K (K := K) rfl) (by rfl) G.len_ bt_len (pa_cons (pe_ix (ix_seq_K (K := K) rfl) (pv 0) pe_int (fun _ _ => rfl)) pa_nil)) (pe_callB (call_len_K (K := K) rfl) (by rfl) G.len_ bt_len (pa_cons (pe_ix (ix_seq_K (K := K) rfl) (pv 0) pe_int (fun _ _ => rfl)) pa_nil)) (nomark _)) (pw_or1 (pt_cmpR op_ne (pe_callB (call_len_K (K := K) rfl) (by rfl) G.len_ bt_len (pa_cons (pe_ix (ix_seq_K (K := K) rfl) (pv 0) pe_int (fun _ _ => rfl)) pa_nil)) (pe_callB (call_len_K (K := K) rfl) (by rfl) G.len_ bt_len (pa_cons (pe_ix (ix_seq_K (K := K) rfl) (pv 0) pe_int (fun _ _ => rfl)) pa_nil)) (nomark _)))).pt (pss_one (ps_ret pe_bl)) pss_nil)
      (pss_one (ps_ret (pe_callB (cr_all_K (K := K) rfl rfl) (by rfl) G.all_ bt_all (pa_cons (pe_lc (own := [("k", 1)]) rfl nd (pi_range1 (by rfl) G.range_ (pa_cons (pe_callB (call_len_K (K := K) rfl) (by rfl) G.len_ bt_len (pa_cons (pe_ix (ix_seq_K (K := K) rfl) (pv 0) pe_int (fun _ _ => rfl)) pa_nil)) pa_nil)) (blkOk_by (N := ["value", "k"]) (sc := defScope (topS 37)) (by decide +kernel)) (fun _ _ _ _ _ => (pg_name (i := 1) nd rfl (Or.inl rfl))) (fun _ _ _ _ _ => pts_nil) (fun _ _ _ _ _ => (pe_cmpR op_le (pe_ix (ix_seq_K (K := K) rfl) (pe_ix (ix_seq_K (K := K) rfl) (pv 0) pe_int (fun _ _ => rfl)) (pv 1) (fun _ _ => rfl)) (pe_ix (ix_seq_K (K := K) rfl) (pe_ix (ix_seq_K (K := K) rfl) (pv 0) pe_int (fun _ _ => rfl)) (pv 1) (fun _ _ => rfl)) (nomark _)))) pa_nil))))))), fun S ds post h => ?_⟩
  try dsimp only [cxK, cxP, cxW, cxM, cxB, List.map_cons, List.map_nil]
  obtain ⟨v, rfl, b, ok, q⟩ := h
  cases v with
  | adr _ => unfold okD at ok; exact ok.elim
  | ty _ => unfold okD at ok; exact ok.elim
  | tup ds =>
    walk_at "dd"
    refine if_ndec (fun e => ?_) fun e => ?_
    · walk_at "dd"
      rw [jobB_len (by omega)] at q
      exact q
    · match ds, e, ok, q with
      | [t, ws, ls, hs], _, ok, q =>
      have okp := okAll_iff.mp (by unfold okD at ok; exact ok.2)
      have hj : jobB (.tup [t, ws, ls, hs]) = (numB t 0 1000000000 && (intsB ws 1 && (intsB ls 0 && (intsB hs 0 && ((decide ((partsD ws).length = (partsD ls).length) && decide ((partsD ws).length = (partsD hs).length)) && leB (partsD ls) (partsD hs)))))) := rfl
      rw [hj] at q
      walk_at "dd"
      refine ⟨0, 1000000000, okD_T (okp t (by simp)), rfl, rfl, ?_⟩
      walk_at "dd"
      refine if_nsplit (fun h1 => ?_) fun h1 => ?_
      · rw [h1] at q
        walk_at "dd"
        exact q
      rw [h1] at q
      walk_at "dd"
      refine ⟨b, 1, okp ws (by simp), rfl, ?_⟩
      walk_at "dd"
      refine if_nsplit (fun h2 => ?_) fun h2 => ?_
      · rw [h2] at q
        walk_at "dd"
        exact q
      rw [h2] at q
      walk_at "dd"
      refine ⟨b, 0, okp ls (by simp), rfl, ?_⟩
      walk_at "dd"
      refine if_nsplit (fun h3 => ?_) fun h3 => ?_
      · rw [h3] at q
        walk_at "dd"
        exact q
      rw [h3] at q
      walk_at "dd"
      refine ⟨b, 0, okp hs (by simp), rfl, ?_⟩
      walk_at "dd"
      refine if_nsplit (fun h4 => ?_) fun h4 => ?_
      · rw [h4] at q
        walk_at "dd"
        exact q
      rw [h4] at q
      obtain ⟨wi, rfl, hw, w1, w2⟩ := ints_of h2
      obtain ⟨li, rfl, hl, l1, l2⟩ := ints_of h3
      obtain ⟨hi, rfl, hh, i1, i2⟩ := ints_of h4
      rw [show partsD (.tup (wi.map .int)) = wi.map .int from rfl, show partsD (.tup (li.map .int)) = li.map .int from rfl, show partsD (.tup (hi.map .int)) = hi.map .int from rfl, leB_ints] at q
      walk_at "dd"
      refine if_ndec (fun h5 => ?_) fun h5 => ?_
      · rw [decide_eq_false (by omega : ¬ (wi.map D.int).length = (li.map D.int).length)] at q
        walk_at "dd"
        exact q
      rw [decide_eq_true (by omega : (wi.map D.int).length = (li.map D.int).length)] at q
      walk_at "dd"
      refine if_ndec (fun h6 => ?_) fun h6 => ?_
      · rw [decide_eq_false (by omega : ¬ (wi.map D.int).length = (hi.map D.int).length)] at q
        walk_at "dd"
        exact q
      rw [decide_eq_true (by omega : (wi.map D.int).length = (hi.map D.int).length)] at q
      walk_at "dd"
      refine eg_lcP (leAt li hi) ?_ hw_name
      walk_at "dd"
      rw [List.length_map]
      refine ⟨_, rfl, by omega, by omega, ?_⟩
      rw [show ((wi.length : Nat) : Int).toNat = wi.length by omega]
      refine ⟨by rw [rangeD_len]; exact small_sz (by omega), fun x hx μ A => ?_, fun μ => ?_⟩
      · obtain ⟨k, hk, rfl⟩ := mem_range hx
        rw [List.length_map, List.length_map] at h5 h6
        have e1 := List.getElem?_eq_getElem (show k < li.length by omega)
        have e2 := List.getElem?_eq_getElem (show k < hi.length by omega)
        have d1 : (li.map D.int)[k]? = some (.int li[k]) := by rw [List.getElem?_map, e1]; rfl
        have d2 : (hi.map D.int)[k]? = some (.int hi[k]) := by rw [List.getElem?_map, e2]; rfl
        walk_at "dd"
        refine r2_ixT (at0 d1) ?_
        walk_at "dd"
        refine r2_ixT (at0 d2) ?_
        walk_at "dd"
        show _ = D.bl (decide ((li[((0 : Int) + (k : Int)).toNat]?).getD 0 ≤ (hi[((0 : Int) + (k : Int)).toNat]?).getD 0))
        rw [show ((0 : Int) + (k : Int)).toNat = k by omega, e1, e2]
        rfl
      · show EvA _ _ _ _ _
        obtain ⟨bs, hb, hall⟩ := leAt_all (n := wi.length) (li := li) (hi := hi) (by simp at h5; omega) (by simp at h6; omega)
        rw [hb]
        walk_at "dd"
        rw [hall]
        exact q
  | _ => (walk_at "dd"; exact q)
theorem sc__law_dealing_due : FnScope ["job", "value", "total", "weights", "lows", "highs", "k"] ["job", "value"] (defScope (topS 38)) := ⟨rfl, rfl, rfl, by decide +kernel, rfl, by decide +kernel, by decide +kernel⟩
theorem ok__law_dealing_due {f : Addr} {fd : FuncData} (F : Fun K "_law_dealing_due" "_law_dealing_due" (topS 38) f fd) (G : Mg mg) (f__law_whole : Cal P w K mg base 1 "_law_whole" (SpP K tabs (c3 kNum))) : FnOk P w K mg base CX0 2 f fd ["job", "value"] (SpP K tabs (c2 kIsDeal)) := by
  refine okP F sc__law_dealing_due len2 fun cdv A outer s H E hc hr => ?_
  have nd := (sc__law_dealing_due).nd
  refine ⟨_, (pss_cons (ps_asg (pv 0) (pg_tup_K (n := 4) (K := K) rfl rfl (pgs_cons (pg_name (i := 2) nd rfl (Or.inl rfl)) (pgs_cons (pg_name (i := 3) nd rfl (Or.inl rfl)) (pgs_cons (pg_name (i := 4) nd rfl (Or.inr rfl)) (pgs_cons (pg_name (i := 5) nd rfl (Or.inr rfl)) pgs_nil))))))
      (pss_cons (ps_if (pw_or (pt_not (pt_val (pe_callB (call_isi_K (K := K) rfl) (by rfl) G.isinstance_ bt_isinstance (pa_cons (pv 1) (pa_cons (pe_bltn (v := .ty "tuple") (by rfl) G.tuple_ bt_tuple rfl) pa_nil))))) (pw_or1 (pt_cmpR op_ne (pe_callB (call_len_K (K := K) rfl) (by rfl) G.len_ bt_len (pa_cons (pv 1) pa_nil)) (pe_callB (call_len_K (K := K) rfl) (by rfl) G.len_ bt_len (pa_cons (pv 3) pa_nil)) (nomark _)))).pt (pss_one (ps_ret pe_bl)) pss_nil)
      (pss_one (ps_ret (pe_and (pe_callB (cr_all_K (K := K) rfl rfl) (by rfl) G.all_ bt_all (pa_cons (pe_lc (own := [("k", 6)]) rfl nd (pi_range1 (by rfl) G.range_ (pa_cons (pe_callB (call_len_K (K := K) rfl) (by rfl) G.len_ bt_len (pa_cons (pv 3) pa_nil)) pa_nil)) (blkOk_by (N := ["job", "value", "total", "weights", "lows", "highs", "k"]) (sc := defScope (topS 38)) (by decide +kernel)) (fun _ _ _ _ _ => (pg_name (i := 6) nd rfl (Or.inl rfl))) (fun _ _ _ _ _ => pts_nil) (fun _ _ _ _ _ => (pe_cal f__law_whole hr (by decide) (by rfl) (pa_cons (pe_ix (ix_seq_K (K := K) rfl) (pv 1) (pv 6) (fun _ _ => rfl)) (pa_cons (pe_ix (ix_seq_K (K := K) rfl) (pv 4) (pv 6) (fun _ _ => rfl)) (pa_cons (pe_ix (ix_seq_K (K := K) rfl) (pv 5) (pv 6) (fun _ _ => rfl)) pa_nil)))))) pa_nil)) (pe_one (pe_cmpR op_eq (pe_callB (cr_sum_K (K := K) rfl rfl) (by rfl) G.sum_ bt_sum (pa_cons (pv 1) pa_nil)) (pv 2) (nomark _)))))))), fun S ds post h => ?_⟩
  try dsimp only [cxK, cxP, cxW, cxM, cxB, List.map_cons, List.map_nil]
  obtain ⟨job, v, rfl, J, b, rfl, hJ, ok, q⟩ := h
  have h24 := hJ.n.2
  have hll := hJ.l
  have hhl := hJ.h
  walk_at "dd"
  cases v with
  | adr _ => unfold okD at ok; exact ok.elim
  | ty _ => unfold okD at ok; exact ok.elim
  | tup ds =>
    have okds := okAll_iff.mp (by unfold okD at ok; exact ok.2)
    have hdv : dealB J (.tup ds) = (decide (ds.length = J.ws.length) && ((List.range J.ws.length).all (dealAt J ds) && decide ((ds.map fun c => (isInt c).getD 0).sum = J.t))) := rfl
    rw [hdv] at q
    walk_at "dd"
    rw [List.length_map]
    refine if_ndec (fun h1 => ?_) fun h1 => ?_
    · rw [decide_eq_false (by omega : ¬ ds.length = J.ws.length)] at q
      walk_at "dd"
      exact q
    · have hl : ds.length = J.ws.length := by omega
      rw [decide_eq_true hl] at q
      walk_at "dd"
      refine eg_lcP (fun x => .bl (dealD J ds x)) ?_ hw_name
      walk_at "dd"
      rw [List.length_map]
      refine ⟨_, rfl, by omega, by omega, ?_⟩
      rw [show ((J.ws.length : Nat) : Int).toNat = J.ws.length by omega]
      refine ⟨by rw [rangeD_len]; exact small_sz (by omega), fun x hx μ A => ?_, fun μ => ?_⟩
      · obtain ⟨k, hk, rfl⟩ := mem_range hx
        have e0 := List.getElem?_eq_getElem (show k < ds.length by omega)
        have e1 := List.getElem?_eq_getElem (show k < J.ls.length by omega)
        have e2 := List.getElem?_eq_getElem (show k < J.hs.length by omega)
        have d1 : (J.ls.map D.int)[k]? = some (.int J.ls[k]) := by rw [List.getElem?_map, e1]; rfl
        have d2 : (J.hs.map D.int)[k]? = some (.int J.hs[k]) := by rw [List.getElem?_map, e2]; rfl
        walk_at "dd"
        refine r2_ixT (at0 e0) ?_
        walk_at "dd"
        refine r2_ixT (at0 d1) ?_
        walk_at "dd"
        refine r2_ixT (at0 d2) ?_
        walk_at "dd"
        refine ⟨_, _, okD_T (okds _ (List.mem_of_getElem? e0)), rfl, rfl, ?_⟩
        show _ = D.bl (dealAt J ds ((0 : Int) + (k : Int)).toNat)
        rw [show ((0 : Int) + (k : Int)).toNat = k by omega]
        unfold dealAt
        rw [e0, e1, e2]
        rfl
      · show EvA _ _ _ _ _
        have em : (rangeD 0 J.ws.length).map (fun x => D.bl (dealD J ds x)) = ((rangeD 0 J.ws.length).map (dealD J ds)).map D.bl := by rw [List.map_map]; rfl
        rw [em]
        walk_at "dd"
        have ea : ((rangeD 0 J.ws.length).map (dealD J ds)).all id = (List.range J.ws.length).all (dealAt J ds) := by rw [List.all_map, ← deal_all]; rfl
        rw [ea]
        refine if_split (fun h3 => ?_) fun h3 => ?_
        · rw [h3] at q
          obtain ⟨ns, rfl⟩ := deal_ints hl h3
          rw [getD_ints] at q
          walk_at "dd"
          exact q
        · rw [h3] at q
          exact q
  | _ => (walk_at "dd"; exact q)
theorem levelB_int {J : Job} {xs : List Int} {a c : Int} : levelB J xs (.tup [.int a, .int c]) = ((decide (0 < c) && decide (Nat.gcd a.natAbs c.natAbs = 1)) && (List.range J.ws.length).all (levAt a c J.ps xs)) := rfl
theorem sc__law_level_due : FnScope ["job", "dealing", "value", "total", "weights", "lows", "highs", "k", "x", "part"] ["job", "dealing", "value"] (defScope (topS 39)) := ⟨rfl, rfl, rfl, by decide +kernel, rfl, by decide +kernel, by decide +kernel⟩
theorem ok__law_level_due {f : Addr} {fd : FuncData} (F : Fun K "_law_level_due" "_law_level_due" (topS 39) f fd) (G : Mg mg) (f__law_common : Cal P w K mg base 1 "_law_common" (SpP K tabs (c2 kCommon))) : FnOk P w K mg base CX0 2 f fd ["job", "dealing", "value"] (SpP K tabs (c3 kIsLevel)) := by
  refine okP F sc__law_level_due len3 fun cdv A outer s H E hc hr => ?_
  have nd := (sc__law_level_due).nd
  refine ⟨_, (pss_cons (ps_if (pw_or (pt_not (pt_val (pe_callB (call_isi_K (K := K) rfl) (by rfl) G.isinstance_ bt_isinstance (pa_cons (pv 2) (pa_cons (pe_bltn (v := .ty "tuple") (by rfl) G.tuple_ bt_tuple rfl) pa_nil))))) (pw_or (pt_cmpR op_ne (pe_callB (call_len_K (K := K) rfl) (by rfl) G.len_ bt_len (pa_cons (pv 2) pa_nil)) pe_int (nomark _)) (pw_or (pt_not (pt_val (pe_callB (cr_all_K (K := K) rfl rfl) (by rfl) G.all_ bt_all (pa_cons (pe_lc (own := [("part", 9)]) rfl nd (pi_seq_K (K := K) rfl (pv 2)) (blkOk_by (N := ["job", "dealing", "value", "total", "weights", "lows", "highs", "k", "x", "part"]) (sc := defScope (topS 39)) (by decide +kernel)) (fun _ _ _ _ _ => (pg_name (i := 9) nd rfl (Or.inl rfl))) (fun _ _ _ _ _ => pts_nil) (fun _ _ _ _ _ => (pe_and (pe_callB (call_isi_K (K := K) rfl) (by rfl) G.isinstance_ bt_isinstance (pa_cons (pv 9) (pa_cons (pe_bltn (v := .ty "int") (by rfl) G.int_ bt_int rfl) pa_nil))) (pe_one (pe_not (pe_callB (call_isi_K (K := K) rfl) (by rfl) G.isinstance_ bt_isinstance (pa_cons (pv 9) (pa_cons (pe_bltn (v := .ty "bool") (by rfl) G.bool_ bt_bool rfl) pa_nil)))))))) pa_nil)))) (pw_or1 (pt_cmpR op_lt (pe_ix (ix_seq_K (K := K) rfl) (pv 2) pe_int (fun _ _ => rfl)) pe_int (nomark _)))))).pt (pss_one (ps_ret pe_bl)) pss_nil)
      (pss_cons (ps_if (pt_cmpR op_ne (pe_cal f__law_common hr (by decide) (by rfl) (pa_cons (pe_ix (ix_seq_K (K := K) rfl) (pv 2) pe_int (fun _ _ => rfl)) (pa_cons (pe_ix (ix_seq_K (K := K) rfl) (pv 2) pe_int (fun _ _ => rfl)) pa_nil))) pe_int (nomark _)) (pss_one (ps_ret pe_bl)) pss_nil)
      (pss_cons (ps_asg (pv 0) (pg_tup_K (n := 4) (K := K) rfl rfl (pgs_cons (pg_name (i := 3) nd rfl (Or.inl rfl)) (pgs_cons (pg_name (i := 4) nd rfl (Or.inl rfl)) (pgs_cons (pg_name (i := 5) nd rfl (Or.inl rfl)) (pgs_cons (pg_name (i := 6) nd rfl (Or.inl rfl)) pgs_nil))))))
      (pss_cons (ps_for PassesOwn.never rfl (pi_range1 (by rfl) G.range_ (pa_cons (pe_callB (call_len_K (K := K) rfl) (by rfl) G.len_ bt_len (pa_cons (pv 4) pa_nil)) pa_nil)) (pg_name (i := 7) nd rfl (Or.inl rfl)) (pss_cons (ps_set (i := 8) nd rfl (Or.inl rfl) (pe_ix (ix_seq_K (K := K) rfl) (pv 1) (pv 7) (fun _ _ => rfl)))
      (pss_cons (ps_if (pw_and (pt_cmpR op_gt (pv 8) (pe_ix (ix_seq_K (K := K) rfl) (pv 5) (pv 7) (fun _ _ => rfl)) (nomark _)) (pw_and1 (pt_cmpR op_gt (pe_op op_mulA (pe_op op_sub (pe_op op_mulA pe_int (pv 8)) pe_int) (pe_ix (ix_seq_K (K := K) rfl) (pv 2) pe_int (fun _ _ => rfl))) (pe_op op_mulA (pe_ix (ix_seq_K (K := K) rfl) (pv 2) pe_int (fun _ _ => rfl)) (pe_ix (ix_seq_K (K := K) rfl) (pv 4) (pv 7) (fun _ _ => rfl))) (nomark _)))).pt (pss_one (ps_ret pe_bl)) pss_nil)
      (pss_one (ps_if (pw_and (pt_cmpR op_lt (pv 8) (pe_ix (ix_seq_K (K := K) rfl) (pv 6) (pv 7) (fun _ _ => rfl)) (nomark _)) (pw_and1 (pt_cmpR op_lt (pe_op op_mulA (pe_op op_add (pe_op op_mulA pe_int (pv 8)) pe_int) (pe_ix (ix_seq_K (K := K) rfl) (pv 2) pe_int (fun _ _ => rfl))) (pe_op op_mulA (pe_ix (ix_seq_K (K := K) rfl) (pv 2) pe_int (fun _ _ => rfl)) (pe_ix (ix_seq_K (K := K) rfl) (pv 4) (pv 7) (fun _ _ => rfl))) (nomark _)))).pt (pss_one (ps_ret pe_bl)) pss_nil)))))
      (pss_one (ps_ret pe_bl)))))), fun S ds post h => ?_⟩
  try dsimp only [cxK, cxP, cxW, cxM, cxB, List.map_cons, List.map_nil]
  obtain ⟨job, de, v, rfl, J, xs, b, rfl, hJ, rfl, hx, hxb, ok, hb, q⟩ := h
  have h24 := hJ.n.2
  have hll := hJ.l
  have hhl := hJ.h
  cases v with
  | adr _ => unfold okD at ok; exact ok.elim
  | ty _ => unfold okD at ok; exact ok.elim
  | tup ds =>
    walk_at "dd"
    refine if_ndec (fun e => ?_) fun e => ?_
    · walk_at "dd"
      rw [levelB_no (ratB_len (by omega))] at q
      exact q
    · match ds, e, ok, q with
      | [a', c'], _, ok, q =>
      walk_at "dd"
      refine eg_lcP (fun x => .bl (plainInt x)) ?_ hw_name
      walk_at "dd"
      refine ⟨_, .inl rfl, small_sz (by simp), fun x hx μ A => ?_, fun μ => ?_⟩
      · have okx := okAll_iff.mp (by unfold okD at ok; exact ok.2) x hx
        cases x with
        | adr _ => unfold okD at okx; exact okx.elim
        | ty _ => unfold okD at okx; exact okx.elim
        | _ => (walk_at "dd"; rfl)
      · show EvA _ _ _ _ _
        have em : ([a', c'] : List D).map (fun x => D.bl (plainInt x)) = (([a', c'] : List D).map plainInt).map D.bl := by simp
        rw [em]
        walk_at "dd"
        have ea : (([a', c'] : List D).map plainInt).all id = ([a', c'] : List D).all plainInt := by simp
        rw [ea]
        refine if_nsplit (fun hz => ?_) fun hz => ?_
        · walk_at "dd"
          rw [levelB_no (ratB_kind hz)] at q
          exact q
        · obtain ⟨a, c, rfl, rfl⟩ := plain_two hz
          rw [levelB_int] at q
          have okp := okAll_iff.mp (by unfold okD at ok; exact ok.2)
          have hab : a.natAbs < 2 ^ b := okp (.int a) (by simp)
          have hcb : c.natAbs < 2 ^ b := okp (.int c) (by simp)
          walk_at "dd"
          refine if_dec (fun hy => ?_) fun hy => ?_
          · walk_at "dd"
            rw [decide_eq_false (by omega : ¬ 0 < c)] at q
            exact q
          · rw [decide_eq_true (by omega : 0 < c)] at q
            walk_at "dd"
            refine ⟨_, _, rfl, rfl, ?_⟩
            walk_at "dd"
            refine if_ndec (fun hg => ?_) fun hg => ?_
            · walk_at "dd"
              rw [decide_eq_false (by omega : ¬ Nat.gcd a.natAbs c.natAbs = 1)] at q
              exact q
            · rw [decide_eq_true (by omega : Nat.gcd a.natAbs c.natAbs = 1)] at q
              replace q : post (.bl ((List.range J.ws.length).all (levAt a c J.ps xs))) := q
              walk_at "dd"
              refine ex_for ?_
              walk_at "dd"
              rw [List.length_map]
              refine ⟨_, rfl, by omega, by omega, ?_⟩
              rw [show ((J.ws.length : Nat) : Int).toNat = J.ws.length by omega]
              refine ⟨fun i Γ _ => (∃ z7 z8, Γ = [some (jobD J), some (.tup (xs.map .int)), some (.tup [.int a, .int c]), some (.int J.t), some (.tup (J.ws.map .int)), some (.tup (J.ls.map .int)), some (.tup (J.hs.map .int)), z7, z8, none]) ∧ ∀ k, k < i → k < J.ws.length → levAt a c J.ps xs k = true, ⟨⟨none, none, rfl⟩, fun k h => by omega⟩, ?_, ?_⟩
              · rintro i y Γ μ hy ⟨⟨z7, z8, rfl⟩, hl⟩
                obtain ⟨hik, rfl⟩ := rangeD_get hy
                obtain ⟨⟨w, l, hi⟩, hp, g1, g2, g3, po, pb⟩ := hJ.ex hik
                dsimp only at g1 g2 g3
                have g0 := List.getElem?_eq_getElem (show i < xs.length by omega)
                generalize xs[i] = x at g0
                have d0 := mapD g0
                have d1 := mapD g1
                have d2 := mapD g2
                have d3 := mapD g3
                have hlv := levAt_at (a := a) (b := c) hp g0
                have xb := hxb x (List.mem_of_getElem? g0)
                have wb := hJ.w w (List.mem_of_getElem? g1)
                have step : levAt a c J.ps xs i = true → ∀ k, k < i + 1 → k < J.ws.length → levAt a c J.ps xs k = true := fun h k h1 h2 => by
                  by_cases e : k = i
                  · subst e; exact h
                  · exact hl k (by omega) h2
                walk_at "dd"
                refine r2_ixT (at0 d0) ?_
                walk_at "dd"
                refine r2_ixT (at0 d2) ?_
                walk_at "dd"
                refine if_dec (fun c1 => ?_) fun c1 => ?_
                · walk_at "dd"
                  · refine r2_ixT (at0 d1) ?_
                    walk_at "dd"
                    · refine if_dec (fun c2 => ?_) fun c2 => ?_
                      · walk_at "dd"
                        have hno : levAt a c J.ps xs i = false := by
                          rw [hlv]
                          unfold levB
                          dsimp only
                          rw [decide_eq_true c1, decide_eq_true c2]
                          simp
                        rw [all_false hik hno] at q
                        exact q
                      · have hA : (decide (l < x) && decide (a * w < (2 * x - 1) * c)) = false := by
                          rw [decide_eq_false c2, Bool.and_false]
                        walk_at "dd"
                        refine r2_ixT (at0 d3) ?_
                        walk_at "dd"
                        refine if_dec (fun c3 => ?_) fun c3 => ?_
                        · walk_at "dd"
                          · refine r2_ixT (at0 d1) ?_
                            walk_at "dd"
                            · refine if_dec (fun c4 => ?_) fun c4 => ?_
                              · walk_at "dd"
                                have hno : levAt a c J.ps xs i = false := by
                                  rw [hlv]
                                  unfold levB
                                  dsimp only
                                  rw [decide_eq_true c3, decide_eq_true c4]
                                  simp
                                rw [all_false hik hno] at q
                                exact q
                              · walk_at "dd"
                                refine ⟨⟨_, _, rfl⟩, step ?_⟩
                                rw [hlv]
                                unfold levB
                                dsimp only
                                rw [decide_eq_false c4, hA]
                                simp
                            · exact mulA hab (small_w (by omega) wb.2) (by omega)
                          · exact mulA (small_p xb.1 xb.2 (c := 1) (by omega)) hcb (by omega)
                          · exact mulS ⟨by decide, by decide⟩
                        · walk_at "dd"
                          refine ⟨⟨_, _, rfl⟩, step ?_⟩
                          rw [hlv]
                          unfold levB
                          dsimp only
                          rw [decide_eq_false c3, hA]
                          simp
                    · exact mulA hab (small_w (by omega) wb.2) (by omega)
                  · exact mulA (small_p xb.1 xb.2 (c := -1) (by omega)) hcb (by omega)
                  · exact mulS ⟨by decide, by decide⟩
                · have hA : (decide (l < x) && decide (a * w < (2 * x - 1) * c)) = false := by
                    rw [decide_eq_false c1, Bool.false_and]
                  walk_at "dd"
                  refine r2_ixT (at0 d3) ?_
                  walk_at "dd"
                  refine if_dec (fun c3 => ?_) fun c3 => ?_
                  · walk_at "dd"
                    · refine r2_ixT (at0 d1) ?_
                      walk_at "dd"
                      · refine if_dec (fun c4 => ?_) fun c4 => ?_
                        · walk_at "dd"
                          have hno : levAt a c J.ps xs i = false := by
                            rw [hlv]
                            unfold levB
                            dsimp only
                            rw [decide_eq_true c3, decide_eq_true c4]
                            simp
                          rw [all_false hik hno] at q
                          exact q
                        · walk_at "dd"
                          refine ⟨⟨_, _, rfl⟩, step ?_⟩
                          rw [hlv]
                          unfold levB
                          dsimp only
                          rw [decide_eq_false c4, hA]
                          simp
                      · exact mulA hab (small_w (by omega) wb.2) (by omega)
                    · exact mulA (small_p xb.1 xb.2 (c := 1) (by omega)) hcb (by omega)
                    · exact mulS ⟨by decide, by decide⟩
                  · walk_at "dd"
                    refine ⟨⟨_, _, rfl⟩, step ?_⟩
                    rw [hlv]
                    unfold levB
                    dsimp only
                    rw [decide_eq_false c3, hA]
                    simp
              · rintro Γ μ ⟨⟨z7, z8, rfl⟩, hl⟩
                walk_at "dd"
                rw [rangeD_len] at hl
                rw [all_true fun k hk => hl k hk hk] at q
                exact q
  | _ => (walk_at "dd"; exact q)
structure JobS (m tp : Int) (J : Job) : Prop where
  len : (J.ws.length : Int) = m
  t0 : 0 ≤ J.t
  hb : ∀ x ∈ J.hs, x ≤ 1000000000
  d : ∀ (k : Nat) (l h : Int), J.ls[k]? = some l → J.hs[k]? = some h → h - l < tp
def kJob (many top : D) (post : D → Prop) : Prop := ∃ m tp : Int, many = .int m ∧ top = .int tp ∧ 1 ≤ m ∧ m ≤ 24 ∧ 4 ≤ tp ∧ tp ≤ 30000000 ∧ ∀ J : Job, JobOk J → JobS m tp J → post (jobD J)
theorem outs_two {p : Int → Int → Prop} : ∀ {ls : List Int} {out : List D}, out.length = ls.length → (∀ (i : Nat) (x y : D), (ls.map D.int)[i]? = some x → out[i]? = some y → ∃ l h, x = .int l ∧ y = .int h ∧ p l h) → ∃ hs : List Int, out = hs.map .int ∧ ∀ (k : Nat) (l h : Int), ls[k]? = some l → hs[k]? = some h → p l h
  | [], [], _, _ => ⟨[], rfl, fun k l h e => by simp at e⟩
  | a :: ls, y :: out, hl, q => by
    obtain ⟨hs, rfl, hh⟩ := outs_two (p := p) (ls := ls) (out := out) (by simpa using hl) fun i x y e1 e2 => q (i + 1) x y (by simpa using e1) (by simpa using e2)
    obtain ⟨l, h, e1, rfl, hp⟩ := q 0 (.int a) y rfl rfl
    cases e1
    refine ⟨h :: hs, rfl, fun k l' h' g1 g2 => ?_⟩
    cases k with
    | zero =>
      simp at g1 g2
      subst g1 g2
      exact hp
    | succ k => exact hh k l' h' (by simpa using g1) (by simpa using g2)
  | [], _ :: _, h, _ => by simp at h
  | _ :: _, [], h, _ => by simp at h
theorem sum_bd {B : Int} : ∀ {xs : List Int}, (∀ x ∈ xs, 0 ≤ x ∧ x ≤ B) → 0 ≤ xs.sum ∧ xs.sum ≤ B * xs.length
  | [], _ => by simp
  | x :: xs, h => by
    obtain ⟨a, b⟩ := sum_bd (B := B) (xs := xs) fun y hy => h y (List.mem_cons_of_mem _ hy)
    have := h x List.mem_cons_self
    rw [List.sum_cons, List.length_cons]
    have e : B * ((xs.length + 1 : Nat) : Int) = B * xs.length + B := by
      rw [Int.natCast_add, Int.mul_add]
      simp
    omega
theorem at_two {a b j : Int} (h0 : 0 ≤ j) (h1 : j < 2) : ∃ t : Int, atI [D.int a, D.int b] j = some (.int t) ∧ (t = a ∨ t = b) := by
  obtain ⟨d, e1, e2⟩ := atI_some (xs := [D.int a, D.int b]) h0 h1
  have hm := List.mem_of_getElem? e2
  simp only [List.mem_cons, List.not_mem_nil, or_false] at hm
  rcases hm with rfl | rfl
  · exact ⟨_, e1, .inl rfl⟩
  · exact ⟨_, e1, .inr rfl⟩
theorem at_three {a b c j : Int} (h0 : 0 ≤ j) (h1 : j < 3) : ∃ t : Int, atI [D.int a, D.int b, D.int c] j = some (.int t) ∧ (t = a ∨ t = b ∨ t = c) := by
  obtain ⟨d, e1, e2⟩ := atI_some (xs := [D.int a, D.int b, D.int c]) h0 h1
  have hm := List.mem_of_getElem? e2
  simp only [List.mem_cons, List.not_mem_nil, or_false] at hm
  rcases hm with rfl | rfl | rfl
  · exact ⟨_, e1, .inl rfl⟩
  · exact ⟨_, e1, .inr (.inl rfl)⟩
  · exact ⟨_, e1, .inr (.inr rfl)⟩
theorem sc__law_job : FnScope ["box", "many", "top", "weights", "lows", "highs", "least", "most", "total", "k", "low"] ["box", "many", "top"] (defScope (topS 40)) := ⟨rfl, rfl, rfl, by decide +kernel, rfl, by decide +kernel, by decide +kernel⟩
theorem ok__law_job {f : Addr} {fd : FuncData} (F : Fun K "_law_job" "_law_job" (topS 40) f fd) (G : Mg mg) (f__law_draw : Cal P w K mg base 2 "_law_draw" (SpB K tabs (c1 kDraw))) : FnOk P w K mg base CX0 3 f fd ["box", "many", "top"] (SpB K tabs (c2 kJob)) := by
  refine okB F sc__law_job lenB2 fun cdv A outer s H E hc hr => ?_
  have nd := (sc__law_job).nd
  refine ⟨_, (pss_cons (ps_set (i := 3) nd rfl (Or.inl rfl) (pe_callTy (call_tuple_K (K := K) rfl) (by rfl) G.tuple_ bt_tuple (pa_cons (pe_lc (own := [("k", 9)]) rfl nd (pi_range1 (by rfl) G.range_ (pa_cons (pv 1) pa_nil)) (blkOk_by (N := ["box", "many", "top", "weights", "lows", "highs", "least", "most", "total", "k", "low"]) (sc := defScope (topS 40)) (by decide +kernel)) (fun _ _ _ _ _ => (pg_name (i := 9) nd rfl (Or.inl rfl))) (fun _ _ _ _ _ => pts_nil) (fun _ _ _ _ _ => (pe_op op_add pe_int (pe_cal f__law_draw hr (by decide) (by rfl) (pa_cons (pv 0) (pa_cons (pe_ix (ix_seq_K (K := K) rfl) (pe_lst (pa_cons pe_int (pa_cons (pv 2) pa_nil))) (pe_cal f__law_draw hr (by decide) (by rfl) (pa_cons (pv 0) (pa_cons pe_int pa_nil))) (fun _ _ => rfl)) pa_nil)))))) pa_nil)))
      (pss_cons (ps_set (i := 4) nd rfl (Or.inl rfl) (pe_callTy (call_tuple_K (K := K) rfl) (by rfl) G.tuple_ bt_tuple (pa_cons (pe_lc (own := [("k", 9)]) rfl nd (pi_range1 (by rfl) G.range_ (pa_cons (pv 1) pa_nil)) (blkOk_by (N := ["box", "many", "top", "weights", "lows", "highs", "least", "most", "total", "k", "low"]) (sc := defScope (topS 40)) (by decide +kernel)) (fun _ _ _ _ _ => (pg_name (i := 9) nd rfl (Or.inl rfl))) (fun _ _ _ _ _ => pts_nil) (fun _ _ _ _ _ => (pe_ix (ix_seq_K (K := K) rfl) (pe_lst (pa_cons pe_int (pa_cons (pe_cal f__law_draw hr (by decide) (by rfl) (pa_cons (pv 0) (pa_cons (pv 2) pa_nil))) pa_nil))) (pe_callTy call_int1' (by rfl) G.int_ bt_int (pa_cons (pe_cmpR op_eq (pe_cal f__law_draw hr (by decide) (by rfl) (pa_cons (pv 0) (pa_cons pe_int pa_nil))) pe_int (nomark _)) pa_nil)) (fun _ _ => rfl)))) pa_nil)))
      (pss_cons (ps_set (i := 5) nd rfl (Or.inl rfl) (pe_callTy (call_tuple_K (K := K) rfl) (by rfl) G.tuple_ bt_tuple (pa_cons (pe_lc (own := [("low", 10)]) rfl nd (pi_seq_K (K := K) rfl (pv 4)) (blkOk_by (N := ["box", "many", "top", "weights", "lows", "highs", "least", "most", "total", "k", "low"]) (sc := defScope (topS 40)) (by decide +kernel)) (fun _ _ _ _ _ => (pg_name (i := 10) nd rfl (Or.inl rfl))) (fun _ _ _ _ _ => pts_nil) (fun _ _ _ _ _ => (pe_op op_add (pv 10) (pe_cal f__law_draw hr (by decide) (by rfl) (pa_cons (pv 0) (pa_cons (pe_ix (ix_seq_K (K := K) rfl) (pe_lst (pa_cons pe_int (pa_cons (pv 2) pa_nil))) (pe_cal f__law_draw hr (by decide) (by rfl) (pa_cons (pv 0) (pa_cons pe_int pa_nil))) (fun _ _ => rfl)) pa_nil)))))) pa_nil)))
      (pss_cons (ps_par (i := 6) (j := 7) rfl nd rfl rfl (by decide) rfl rfl (pa_cons (pe_callB (cr_sum_K (K := K) rfl rfl) (by rfl) G.sum_ bt_sum (pa_cons (pv 4) pa_nil)) (pa_cons (pe_callB (call_min2' rfl) (by rfl) G.min_ bt_min (pa_cons (pe_callB (cr_sum_K (K := K) rfl rfl) (by rfl) G.sum_ bt_sum (pa_cons (pv 5) pa_nil)) (pa_cons pe_int pa_nil))) pa_nil)) rfl)
      (pss_cons (ps_set (i := 8) nd rfl (Or.inl rfl) (pe_ix (ix_seq_K (K := K) rfl) (pe_lst (pa_cons (pe_ifExp (pt_cmpR op_ge (pv 7) (pv 6) (nomark _)) (pe_op op_add (pv 6) (pe_cal f__law_draw hr (by decide) (by rfl) (pa_cons (pv 0) (pa_cons (pe_op op_add (pe_op op_sub (pv 7) (pv 6)) pe_int) pa_nil)))) (pv 6)) (pa_cons (pv 6) (pa_cons (pv 7) pa_nil)))) (pe_cal f__law_draw hr (by decide) (by rfl) (pa_cons (pv 0) (pa_cons pe_int pa_nil))) (fun _ _ => rfl)))
      (pss_one (ps_ret (pe_tup (pa_cons (pe_callB (call_min2' rfl) (by rfl) G.min_ bt_min (pa_cons (pv 8) (pa_cons pe_int pa_nil))) (pa_cons (pv 3) (pa_cons (pv 4) (pa_cons (pv 5) pa_nil)))))))))))), fun S B C hB hC nB ds post h => ?_⟩
  try dsimp only [cxK, cxP, cxW, cxM, cxB, List.map_cons, List.map_nil]
  obtain ⟨md, td, rfl, m, tp, rfl, rfl, m1, m2, t1, t2, q⟩ := h
  walk_at "dd"
  refine eg_lcR (fun _ y => ∃ c, y = .int c ∧ (1 ≤ c ∧ c ≤ 30000000)) ?_ hw_name
  walk_at "dd"
  refine ⟨m, rfl, by omega, by omega, ?_⟩
  refine ⟨by rw [rangeD_len]; exact small_sz (by omega), fun x hx μ A => ?_, fun out μ hlen hall => ?_⟩
  · walk_at "dd"
    refine ⟨by show 2 ≤ sizeLine; decide, ?_⟩
    walk_at "dd"
    refine ⟨2, rfl, by decide, by decide, fun j j0 j1 nn => ?_⟩
    obtain ⟨s, hs, s1⟩ := at_two (a := 4) (b := tp) j0 j1
    refine r2_ixL hs ?_
    walk_at "dd"
    refine ⟨s, rfl, by omega, log2_40 (by omega) (by omega), fun c c0 c1 nn => ?_⟩
    walk_at "dd"
    exact ⟨by omega, by omega⟩
  obtain ⟨ws, rfl, hws⟩ := outs_ints hlen hall
  rw [List.length_map, rangeD_len] at hlen
  clear hall
  walk_at "dd"
  refine eg_lcR (fun _ y => ∃ c, y = .int c ∧ (0 ≤ c ∧ c < tp)) ?_ hw_name
  walk_at "dd"
  refine ⟨m, rfl, by omega, by omega, ?_⟩
  refine ⟨by rw [rangeD_len]; exact small_sz (by omega), fun x hx μ A => ?_, fun out μ hlen2 hall => ?_⟩
  · walk_at "dd"
    refine ⟨tp, rfl, by omega, log2_40 (by omega) (by omega), fun c c0 c1 nn => ?_⟩
    walk_at "dd"
    refine ⟨by show 2 ≤ sizeLine; decide, ?_⟩
    walk_at "dd"
    refine ⟨3, rfl, by decide, by decide, fun j j0 j1 nn => ?_⟩
    walk_at "dd"
    obtain ⟨s, hs, s1⟩ := at_two (a := 0) (b := c) (j := if decide (j = 0) = true then 1 else 0) (by split <;> omega) (by split <;> omega)
    refine r2_ixL hs ?_
    walk_at "dd"
    exact ⟨by omega, by omega⟩
  obtain ⟨ls, rfl, hls⟩ := outs_ints hlen2 hall
  rw [List.length_map, rangeD_len] at hlen2
  clear hall
  walk_at "dd"
  refine eg_lcR (fun x y => ∃ l h, x = .int l ∧ y = .int h ∧ (l ≤ h ∧ h - l < tp)) ?_ hw_name
  walk_at "dd"
  refine ⟨_, .inl rfl, by rw [List.length_map]; exact small_sz (by omega), fun x hx μ A => ?_, fun out μ hlen3 hall => ?_⟩
  · obtain ⟨l, hl, rfl⟩ := List.mem_map.mp hx
    walk_at "dd"
    refine ⟨by show 2 ≤ sizeLine; decide, ?_⟩
    walk_at "dd"
    refine ⟨2, rfl, by decide, by decide, fun j j0 j1 nn => ?_⟩
    obtain ⟨s, hs, s1⟩ := at_two (a := 2) (b := tp) j0 j1
    refine r2_ixL hs ?_
    walk_at "dd"
    refine ⟨s, rfl, by omega, log2_40 (by omega) (by omega), fun c c0 c1 nn => ?_⟩
    walk_at "dd"
    exact ⟨l, l + c, rfl, rfl, by omega, by omega⟩
  rw [List.length_map] at hlen3
  obtain ⟨hs, rfl, hhs⟩ := outs_two hlen3 hall
  rw [List.length_map] at hlen3
  clear hall
  have hb : ∀ x ∈ hs, 0 ≤ x ∧ x ≤ 60000000 := fun x hx => by
    obtain ⟨k, e⟩ := List.mem_iff_getElem?.mp hx
    have hk := (List.getElem?_eq_some_iff.mp e).1
    have e2 := List.getElem?_eq_getElem (show k < ls.length by omega)
    have a := hhs k _ _ e2 e
    have b := hls _ (List.mem_of_getElem? e2)
    omega
  obtain ⟨sl0, sl1⟩ := sum_bd (B := 30000000) (xs := ls) fun x hx => by have := hls x hx; omega
  obtain ⟨sh0, sh1⟩ := sum_bd (B := 60000000) (xs := hs) hb
  walk_at "dd"
  generalize hmo : (if (1000000000 : Int) < hs.sum then (1000000000 : Int) else hs.sum) = most
  have mo : 0 ≤ most ∧ most ≤ 1000000000 := by
    rw [← hmo]
    split <;> omega
  have fin : ∀ z : Int, 0 ≤ z → post (.tup [.int (if (1000000000 : Int) < z then (1000000000 : Int) else z), .tup (ws.map .int), .tup (ls.map .int), .tup (hs.map .int)]) := fun z hz => by
    generalize ht : (if (1000000000 : Int) < z then (1000000000 : Int) else z) = t
    have tb : 0 ≤ t ∧ t ≤ 1000000000 := by
      rw [← ht]
      split <;> omega
    exact q ⟨t, ws, ls, hs⟩ ⟨⟨by show 1 ≤ ws.length; omega, by show ws.length ≤ 24; omega⟩, by show ls.length = ws.length; omega, by show hs.length = ws.length; omega, fun x hx => by have := hws x hx; omega, fun x hx => by have := hls x hx; omega, fun x hx => by have := hb x hx; omega, fun k a b e1 e2 => (hhs k a b e1 e2).1, by show -1000000000 ≤ t; omega, tb.2⟩
      ⟨by show (ws.length : Int) = m; omega, tb.1, fun x hx => by have := hb x hx; omega, fun k a b e1 e2 => (hhs k a b e1 e2).2⟩
  have lst : ls.length ≤ 24 := by omega
  have slb : ls.sum ≤ 720000000 := by omega
  refine ⟨_, _, rfl, ?_⟩
  walk_at "dd"
  refine if_dec (fun c1 => ?_) fun c1 => ?_
  · walk_at "dd"
    refine ⟨most - ls.sum + 1, rfl, by omega, log2_40 (by omega) (by omega), fun c c0 c1 nn => ?_⟩
    walk_at "dd"
    refine ⟨by show 3 ≤ sizeLine; decide, ?_⟩
    walk_at "dd"
    refine ⟨3, rfl, by decide, by decide, fun j j0 j1 nn => ?_⟩
    obtain ⟨s, hs, s1⟩ := at_three (a := ls.sum + c) (b := ls.sum) (c := most) j0 j1
    refine r2_ixL hs ?_
    walk_at "dd"
    exact ⟨by show 4 ≤ sizeLine; decide, fin s (by omega)⟩
  · walk_at "dd"
    refine ⟨by show 3 ≤ sizeLine; decide, ?_⟩
    walk_at "dd"
    refine ⟨3, rfl, by decide, by decide, fun j j0 j1 nn => ?_⟩
    obtain ⟨s, hs, s1⟩ := at_three (a := ls.sum) (b := ls.sum) (c := most) j0 j1
    refine r2_ixL hs ?_
    walk_at "dd"
    exact ⟨by show 4 ≤ sizeLine; decide, fin s (by omega)⟩
def kRefused (job : D) (post : D → Prop) : Prop := ∃ J : Job, job = jobD J ∧ JobOk J ∧ ¬ (J.ls.sum ≤ J.t ∧ J.t ≤ J.hs.sum) ∧ post (.bl true)
theorem sc__law_refused : FnScope ["job", "told", "e"] ["job"] (defScope (topS 41)) := ⟨rfl, rfl, rfl, by decide +kernel, rfl, by decide +kernel, by decide +kernel⟩
theorem ok__law_refused {f : Addr} {fd : FuncData} {eC e1 e2 e3 e4 : Addr} (F : Fun K "_law_refused" "_law_refused" (topS 41) f fd) (G : Mg mg) (f_dealt : CalX P w K mg base 5 "dealt" (SpX K tabs eC (c1 kDealt) xDealt)) (XT : ExcT K mg eC e1 e2 e3 e4) : FnOk P w K mg base CX0 6 f fd ["job"] (SpP K tabs (c1 kRefused)) := by
  refine okP F sc__law_refused len1 fun cdv A outer s H E hc hr => ?_
  have nd := (sc__law_refused).nd
  refine ⟨_, (pss_cons (ps_set (i := 1) nd rfl (Or.inl rfl) pe_non) (pss_cons (ps_try_as (i := 2) (tb := fun W => tSeq (tDrop (tCallS (SpX K tabs eC (c1 kDealt) xDealt) (WE W) (tCons (tVar 0) tNil))) (tAsg (tC (.str "told")) (gName 1))) (ts := fun a cls d => tSeq (tAsg (tC (.str "none")) (gName 1)) (tIfS (tB (tCB (rIsE' K eC a cls d) (tCons (tVar 2) (tCons (tTup (tCons (tC (.ref e1)) (tCons (tC (.ref e2)) (tCons (tC (.ref e3)) (tCons (tC (.ref e4)) tNil))))) tNil)))) (tAsg (tC (.str "other")) (gName 1)) tNext)) (Wout := fun _ _ _ _ => False) rfl rfl nd rfl rfl ⟨rfl, by decide, Or.inl XT.g⟩ takes0 (fun W pn xe tk _ => pss_cons (ps_expr (pe_calX f_dealt tk hr (by decide) (by rfl) (pa_cons (pv 0) pa_nil))) (pss_one (ps_set (i := 1) nd rfl (Or.inl rfl) pe_str))) (fun a oe cls d pn hz hf => pss_cons (ps_set (i := 1) nd rfl (Or.inl rfl) pe_str) (pss_one (ps_if (pt_val (pe_callB (call_isT (K := K) rfl XT.x hz hf) (by rfl) G.isinstance_ bt_isinstance (pa_cons (pv 2) (pa_cons (pe_tup (pa_cons (pe_glob (v := .ref e1) (by rfl) XT.g1 rfl) (pa_cons (pe_glob (v := .ref e2) (by rfl) XT.g2 rfl) (pa_cons (pe_glob (v := .ref e3) (by rfl) XT.g3 rfl) (pa_cons (pe_glob (v := .ref e4) (by rfl) XT.g4 rfl) pa_nil))))) pa_nil)))) (pss_one (ps_set (i := 1) nd rfl (Or.inl rfl) pe_str)) pss_nil)))) (pss_one (ps_ret (pe_cmpR op_eq (pv 1) pe_str (nomark _)))))), fun S ds post h => ?_⟩
  try dsimp only [cxK, cxP, cxW, cxM, cxB, List.map_cons, List.map_nil]
  obtain ⟨job, rfl, J, rfl, hJ, hno, q⟩ := h
  walk_at "dd"
  refine ex_tryX (fun _ h => h) XT.me ?_
  walk_at "dd"
  refine ⟨⟨J, rfl, hJ, hno⟩, fun a => ?_⟩
  walk_at "dd"
  refine eg_adr ?_
  walk_at "dd"
  refine eg_adr ?_
  walk_at "dd"
  refine eg_adr ?_
  walk_at "dd"
  refine eg_adr ?_
  walk_at "dd"
  refine ⟨by show 4 ≤ sizeLine; decide, ?_⟩
  walk_at "dd"
  refine rl_isE (cs := [e1, e2, e3, e4]) XT.no ?_
  walk_at "dd"
  rw [show (("none" : Str) == ("none" : Str)) = true from by decide]
  exact q
def kFine82 (job : D) (post : D → Prop) : Prop := ∃ J : Job, job = jobD J ∧ JobOk J ∧ post (.bl true)
theorem inA_at : ∀ {ps : List Pl} {xs : List Int}, inA ps xs → ∀ (k : Nat) (p : Pl) (x : Int), ps[k]? = some p → xs[k]? = some x → p.l ≤ x ∧ x ≤ p.h
  | p :: ps, x :: xs, h, 0, p', x', e1, e2 => by
    simp at e1 e2
    subst e1 e2
    exact h.1
  | p :: ps, x :: xs, h, k + 1, p', x', e1, e2 => inA_at h.2 k p' x' (by simpa using e1) (by simpa using e2)
  | [], _, _, _, _, _, e1, _ => by simp at e1
  | _ :: _, [], h, _, _, _, _, _ => h.elim
theorem dealB_yes {J : Job} {xs : List Int} (hJ : JobOk J) (hl : xs.length = J.ws.length) (h : inA J.ps xs) (hs : xs.sum = J.t) : dealB J (.tup (xs.map .int)) = true := by
  show (decide ((xs.map D.int).length = J.ws.length) && ((List.range J.ws.length).all (dealAt J (xs.map D.int)) && decide (((xs.map D.int).map fun c => (isInt c).getD 0).sum = J.t))) = true
  rw [List.length_map, decide_eq_true hl, getD_ints, decide_eq_true hs]
  rw [all_true fun k hk => ?_]
  · rfl
  · obtain ⟨p, hp, g1, g2, g3, po, pb⟩ := hJ.ex hk
    have g0 := List.getElem?_eq_getElem (show k < xs.length by omega)
    obtain ⟨b1, b2⟩ := inA_at h k p _ hp g0
    unfold dealAt
    rw [mapD g0, g2, g3]
    show (decide (p.l ≤ xs[k]) && decide (xs[k] ≤ p.h)) = true
    rw [decide_eq_true b1, decide_eq_true b2]
    rfl
theorem deal_bd {J : Job} {xs : List Int} (hJ : JobOk J) (h : inA J.ps xs) (hl : xs.length = J.ws.length) : ∀ x ∈ xs, -2000000000 ≤ x ∧ x ≤ 2000000000 := fun x hx => by
  obtain ⟨k, e⟩ := List.mem_iff_getElem?.mp hx
  have hk := (List.getElem?_eq_some_iff.mp e).1
  obtain ⟨p, hp, g1, g2, g3, po, pb⟩ := hJ.ex (k := k) (by omega)
  obtain ⟨b1, b2⟩ := inA_at h k p x hp e
  have := po.l
  have := pb.h
  omega
theorem ok_ints {b : Nat} {xs : List Int} (hl : xs.length ≤ 100) (h : ∀ x ∈ xs, x.natAbs < 2 ^ b) : okD b (.tup (xs.map .int)) := by
  unfold okD
  refine ⟨by simpa using hl, okAll_iff.mpr fun d hd => ?_⟩
  obtain ⟨x, hx, rfl⟩ := List.mem_map.mp hd
  unfold okD
  exact h x hx
theorem ok_deal {xs : List Int} (hl : xs.length ≤ 24) (h : ∀ x ∈ xs, -2000000000 ≤ x ∧ x ≤ 2000000000) : okD 40 (.tup (xs.map .int)) := ok_ints (by omega) fun x hx => by
  have := h x hx
  have : (2 : Nat) ^ 40 = 1099511627776 := by decide
  omega
theorem sc__law_fine : FnScope ["job", "told"] ["job"] (defScope (topS 42)) := ⟨rfl, rfl, rfl, by decide +kernel, rfl, by decide +kernel, by decide +kernel⟩
theorem ok__law_fine {f : Addr} {fd : FuncData} (F : Fun K "_law_fine" "_law_fine" (topS 42) f fd) (G : Mg mg) (f__law_dealing_due : Cal P w K mg base 2 "_law_dealing_due" (SpP K tabs (c2 kIsDeal))) (f__law_level_due : Cal P w K mg base 2 "_law_level_due" (SpP K tabs (c3 kIsLevel))) (f__law_refused : Cal P w K mg base 6 "_law_refused" (SpP K tabs (c1 kRefused))) (f_dealt : Cal P w K mg base 5 "dealt" (SpP K tabs (c1 kDealt))) : FnOk P w K mg base CX0 7 f fd ["job"] (SpP K tabs (c1 kFine82)) := by
  refine okP F sc__law_fine len1 fun cdv A outer s H E hc hr => ?_
  have nd := (sc__law_fine).nd
  refine ⟨_, (pss_cons (ps_if (pt_not (pt_chain op_le op_le (pe_callB (cr_sum_K (K := K) rfl rfl) (by rfl) G.sum_ bt_sum (pa_cons (pe_ix (ix_seq_K (K := K) rfl) (pv 0) pe_int (fun _ _ => rfl)) pa_nil)) (pe_ix (ix_seq_K (K := K) rfl) (pv 0) pe_int (fun _ _ => rfl)) (pe_callB (cr_sum_K (K := K) rfl rfl) (by rfl) G.sum_ bt_sum (pa_cons (pe_ix (ix_seq_K (K := K) rfl) (pv 0) pe_int (fun _ _ => rfl)) pa_nil)))) (pss_one (ps_ret (pe_cal f__law_refused hr (by decide) (by rfl) (pa_cons (pv 0) pa_nil)))) pss_nil)
      (pss_cons (ps_set (i := 1) nd rfl (Or.inl rfl) (pe_cal f_dealt hr (by decide) (by rfl) (pa_cons (pv 0) pa_nil)))
      (pss_cons (ps_if (pw_or (pt_not (pt_val (pe_callB (call_isi_K (K := K) rfl) (by rfl) G.isinstance_ bt_isinstance (pa_cons (pv 1) (pa_cons (pe_bltn (v := .ty "tuple") (by rfl) G.tuple_ bt_tuple rfl) pa_nil))))) (pw_or (pt_cmpR op_ne (pe_callB (call_len_K (K := K) rfl) (by rfl) G.len_ bt_len (pa_cons (pv 1) pa_nil)) pe_int (nomark _)) (pw_or1 (pt_not (pt_val (pe_cal f__law_dealing_due hr (by decide) (by rfl) (pa_cons (pv 0) (pa_cons (pe_ix (ix_seq_K (K := K) rfl) (pv 1) pe_int (fun _ _ => rfl)) pa_nil)))))))).pt (pss_one (ps_ret pe_bl)) pss_nil)
      (pss_one (ps_ret (pe_cal f__law_level_due hr (by decide) (by rfl) (pa_cons (pv 0) (pa_cons (pe_ix (ix_seq_K (K := K) rfl) (pv 1) pe_int (fun _ _ => rfl)) (pa_cons (pe_ix (ix_seq_K (K := K) rfl) (pv 1) pe_int (fun _ _ => rfl)) pa_nil))))))))), fun S ds post h => ?_⟩
  try dsimp only [cxK, cxP, cxW, cxM, cxB, List.map_cons, List.map_nil]
  obtain ⟨job, rfl, J, rfl, hJ, q⟩ := h
  have h24 := hJ.n.2
  walk_at "dd"
  refine if_dec (fun c1 => ?_) fun c1 => ?_
  · walk_at "dd"
    refine if_ndec (fun c2 => ?_) fun c2 => ?_
    · walk_at "dd"
      exact ⟨J, rfl, hJ, fun z => c2 z.2, q⟩
    · walk_at "dd"
      refine ⟨J, rfl, hJ, c1, c2, fun xs r hr hl hi hs hv => ?_⟩
      walk_at "dd"
      refine if_ndec (fun z => absurd rfl z) fun _ => ?_
      walk_at "dd"
      refine ⟨J, 40, rfl, hJ, ok_deal (by omega) (deal_bd hJ hi hl), ?_⟩
      rw [dealB_yes hJ hl hi hs]
      walk_at "dd"
      refine ⟨J, xs, 40, rfl, hJ, rfl, hl, deal_bd hJ hi hl, Rb_okD hr, by omega, ?_⟩
      rw [(levelB_iff hJ hl).mpr hv]
      exact q
  · walk_at "dd"
    exact ⟨J, rfl, hJ, fun z => c1 z.1, q⟩
def tI (xs : List Int) : D := .tup (xs.map .int)
def kDealings (job : D) (post : D → Prop) : Prop := ∃ J : Job, job = jobD J ∧ JobOk J ∧ J.ws.length ≤ 4 ∧ (∀ (k : Nat) (l h : Int), J.ls[k]? = some l → J.hs[k]? = some h → h - l < 5) ∧ ∀ F : List (List Int), (∀ xs, xs ∈ F ↔ inA J.ps xs ∧ xs.sum = J.t) → F.length ≤ 625 → post (.lst (F.map tI))
def intsR (lo : Int) (n : Nat) : List Int := (List.range n).map fun i : Nat => lo + (i : Int)
theorem rangeD_ints (lo : Int) (n : Nat) : rangeD lo n = (intsR lo n).map .int := by
  unfold rangeD intsR
  rw [List.map_map]
  rfl
theorem mem_intsR {lo x : Int} {n : Nat} : x ∈ intsR lo n ↔ lo ≤ x ∧ x < lo + n := by
  unfold intsR
  rw [List.mem_map]
  constructor
  · rintro ⟨i, hi, rfl⟩
    have := List.mem_range.mp hi
    omega
  · rintro ⟨h1, h2⟩
    exact ⟨(x - lo).toNat, List.mem_range.mpr (by omega), by omega⟩
theorem intsR_len (lo : Int) (n : Nat) : (intsR lo n).length = n := by unfold intsR; simp
def snocs (lo : Int) (n : Nat) (t : List Int) : List (List Int) := (intsR lo n).map fun x => t ++ [x]
def ext (lo : Int) (n : Nat) (F : List (List Int)) : List (List Int) := F.flatMap (snocs lo n)
theorem ext_len (lo : Int) (n : Nat) : ∀ (F : List (List Int)), (ext lo n F).length = F.length * n
  | [] => by simp [ext]
  | t :: F => by
    have ih := ext_len lo n F
    unfold ext at ih ⊢
    rw [List.flatMap_cons, List.length_append, ih, List.length_cons, Nat.succ_mul]
    unfold snocs
    rw [List.length_map, intsR_len, Nat.add_comm]
theorem ext_take {lo : Int} {n : Nat} {F : List (List Int)} {j : Nat} {t : List Int} (e : F[j]? = some t) : ext lo n (F.take (j + 1)) = ext lo n (F.take j) ++ snocs lo n t := by
  unfold ext
  rw [List.take_add_one, e, List.flatMap_append]
  simp
def snocD (t : List Int) : D → D
  | .int x => tI (t ++ [x])
  | d => d
theorem snoc_all (lo : Int) (n : Nat) (t : List Int) : (rangeD lo n).map (snocD t) = (snocs lo n t).map tI := by
  rw [rangeD_ints]
  unfold snocs
  rw [List.map_map, List.map_map]
  rfl
theorem inA_snoc : ∀ {ps : List Pl} {p : Pl} {ys : List Int}, inA (ps ++ [p]) ys ↔ ∃ xs x, ys = xs ++ [x] ∧ inA ps xs ∧ p.l ≤ x ∧ x ≤ p.h
  | [], p, [] => by simp [inA]
  | [], p, [y] => by
    constructor
    · intro h
      exact ⟨[], y, rfl, trivial, h.1⟩
    · rintro ⟨xs, x, e, h1, h2⟩
      cases xs with
      | nil => cases e; exact ⟨h2, trivial⟩
      | cons a r => exact h1.elim
  | [], p, y :: z :: r => by
    constructor
    · intro h
      exact h.2.elim
    · rintro ⟨xs, x, e, h1, h2⟩
      cases xs with
      | nil => cases e
      | cons a r => exact h1.elim
  | q :: ps, p, [] => by
    constructor
    · intro h
      exact h.elim
    · rintro ⟨xs, x, e, h1, h2⟩
      cases xs with
      | nil => exact h1.elim
      | cons a r => cases e
  | q :: ps, p, y :: ys => by
    show (_ ∧ inA (ps ++ [p]) ys) ↔ _
    rw [inA_snoc (ps := ps) (p := p) (ys := ys)]
    constructor
    · rintro ⟨h0, xs, x, rfl, h1, h2⟩
      exact ⟨y :: xs, x, rfl, ⟨h0, h1⟩, h2⟩
    · rintro ⟨xs, x, e, h1, h2⟩
      cases xs with
      | nil => exact h1.elim
      | cons a r =>
        cases e
        exact ⟨h1.1, r, x, rfl, h1.2, h2⟩
theorem inA_len : ∀ {ps : List Pl} {xs : List Int}, inA ps xs → xs.length = ps.length
  | [], [], _ => rfl
  | p :: ps, x :: xs, h => by rw [List.length_cons, List.length_cons, inA_len h.2]
  | [], _ :: _, h => h.elim
  | _ :: _, [], h => h.elim
structure Cov (ps : List Pl) (k : Nat) (F : List (List Int)) : Prop where
  mem : ∀ xs, xs ∈ F ↔ inA (ps.take k) xs
  len : F.length ≤ 5 ^ k
theorem Cov.nil {ps : List Pl} : Cov ps 0 [[]] := by
  refine ⟨fun xs => ?_, by simp⟩
  rw [List.take_zero]
  cases xs with
  | nil => simp [inA]
  | cons x r => simp [inA]
theorem Cov.step {ps : List Pl} {k : Nat} {F : List (List Int)} {p : Pl} (C : Cov ps k F) (hp : ps[k]? = some p) (h1 : p.l ≤ p.h) (h2 : p.h - p.l < 5) : Cov ps (k + 1) (ext p.l (p.h + 1 - p.l).toNat F) := by
  refine ⟨fun ys => ?_, ?_⟩
  · rw [List.take_add_one, hp]
    show _ ↔ inA (ps.take k ++ [p]) ys
    rw [inA_snoc]
    unfold ext
    rw [List.mem_flatMap]
    constructor
    · rintro ⟨t, ht, h⟩
      unfold snocs at h
      obtain ⟨x, hx, rfl⟩ := List.mem_map.mp h
      have := mem_intsR.mp hx
      exact ⟨t, x, rfl, (C.mem t).mp ht, this.1, by omega⟩
    · rintro ⟨xs, x, rfl, h3, h4⟩
      refine ⟨xs, (C.mem xs).mpr h3, ?_⟩
      unfold snocs
      exact List.mem_map.mpr ⟨x, mem_intsR.mpr (by omega), rfl⟩
  · rw [ext_len, Nat.pow_succ]
    exact Nat.mul_le_mul C.len (by omega)
def sumEq (T : Int) : D → Bool
  | .tup ds => decide ((ds.map fun c => (isInt c).getD 0).sum = T)
  | _ => false
theorem sumEq_tI (T : Int) (xs : List Int) : sumEq T (tI xs) = decide (xs.sum = T) := by
  show decide (((xs.map D.int).map fun c => (isInt c).getD 0).sum = T) = _
  rw [getD_ints]
theorem filt_tI (T : Int) (F : List (List Int)) : ((F.map tI).filter (sumEq T)).map (fun d => d) = (F.filter fun xs => decide (xs.sum = T)).map tI := by
  rw [List.map_id', List.filter_map]
  congr 1
  refine List.filter_congr fun xs _ => ?_
  exact sumEq_tI T xs
theorem sc__law_dealings : FnScope ["job", "found", "k", "longer", "told", "x"] ["job"] (defScope (topS 43)) := ⟨rfl, rfl, rfl, by decide +kernel, rfl, by decide +kernel, by decide +kernel⟩
theorem ok__law_dealings {f : Addr} {fd : FuncData} (F : Fun K "_law_dealings" "_law_dealings" (topS 43) f fd) (G : Mg mg)  : FnOk P w K mg base CX0 1 f fd ["job"] (SpP K tabs (c1 kDealings)) := by
  refine okP F sc__law_dealings len1 fun cdv A outer s H E hc hr => ?_
  have nd := (sc__law_dealings).nd
  refine ⟨_, (pss_cons (ps_set (i := 1) nd rfl (Or.inl rfl) (pe_lst (pa_cons (pe_tup pa_nil) pa_nil)))
      (pss_cons (ps_for PassesOwn.never rfl (pi_range1 (by rfl) G.range_ (pa_cons (pe_callB (call_len_K (K := K) rfl) (by rfl) G.len_ bt_len (pa_cons (pe_ix (ix_seq_K (K := K) rfl) (pv 0) pe_int (fun _ _ => rfl)) pa_nil)) pa_nil)) (pg_name (i := 2) nd rfl (Or.inl rfl)) (pss_cons (ps_set (i := 3) nd rfl (Or.inl rfl) (pe_lst pa_nil))
      (pss_cons (ps_for PassesOwn.never rfl (pi_seq_K (K := K) rfl (pv 1)) (pg_name (i := 4) nd rfl (Or.inr rfl)) (pss_one (ps_set (i := 3) nd rfl (Or.inl rfl) (pe_op op_cat (pv 3) (pe_lc (own := [("x", 5)]) rfl nd (pi_range2 (by rfl) G.range_ (pa_cons (pe_ix (ix_seq_K (K := K) rfl) (pe_ix (ix_seq_K (K := K) rfl) (pv 0) pe_int (fun _ _ => rfl)) (pv 2) (fun _ _ => rfl)) (pa_cons (pe_op op_add (pe_ix (ix_seq_K (K := K) rfl) (pe_ix (ix_seq_K (K := K) rfl) (pv 0) pe_int (fun _ _ => rfl)) (pv 2) (fun _ _ => rfl)) pe_int) pa_nil))) (blkOk_by (N := ["job", "found", "k", "longer", "told", "x"]) (sc := defScope (topS 43)) (by decide +kernel)) (fun _ _ _ _ _ => (pg_name (i := 5) nd rfl (Or.inl rfl))) (fun _ _ _ _ _ => pts_nil) (fun _ _ _ _ _ => (pe_op (op_catA_K (K := K) rfl) (pv 4) (pe_tup (pa_cons (pv 5) pa_nil)))))))))
      (pss_one (ps_set (i := 1) nd rfl (Or.inl rfl) (pv 3))))))
      (pss_one (ps_ret (pe_lc (own := [("told", 4)]) rfl nd (pi_seq_K (K := K) rfl (pv 1)) (blkOk_by (N := ["job", "found", "k", "longer", "told", "x"]) (sc := defScope (topS 43)) (by decide +kernel)) (fun _ _ _ _ _ => (pg_name (i := 4) nd rfl (Or.inl rfl))) (fun _ _ _ _ _ => pts_one (pt_cmpR op_eq (pe_callB (cr_sum_K (K := K) rfl rfl) (by rfl) G.sum_ bt_sum (pa_cons (pv 4) pa_nil)) (pe_ix (ix_seq_K (K := K) rfl) (pv 0) pe_int (fun _ _ => rfl)) (nomark _))) (fun _ _ _ _ _ => (pv 4))))))), fun S ds post h => ?_⟩
  try dsimp only [cxK, cxP, cxW, cxM, cxB, List.map_cons, List.map_nil]
  obtain ⟨job, rfl, J, rfl, hJ, h4, h5, q⟩ := h
  have hll := hJ.l
  have hhl := hJ.h
  walk_at "dd"
  refine ⟨by decide, ?_⟩
  walk_at "dd"
  refine ⟨by decide, ?_⟩
  walk_at "dd"
  refine ex_for ?_
  walk_at "dd"
  rw [List.length_map]
  refine ⟨_, rfl, by omega, by omega, ?_⟩
  rw [show ((J.ws.length : Nat) : Int).toNat = J.ws.length by omega]
  refine ⟨fun i Γ _ => ∃ z2 z3 z4, ∃ F : List (List Int), Γ = [some (jobD J), some (.lst (F.map tI)), z2, z3, z4, none] ∧ Cov J.ps i F, ⟨none, none, none, [[]], rfl, Cov.nil⟩, ?_, ?_⟩
  · rintro i y Γ μ hy ⟨z2, z3, z4, F, rfl, C⟩
    obtain ⟨hik, rfl⟩ := rangeD_get hy
    obtain ⟨p, hp, g1, g2, g3, po, pb⟩ := hJ.ex hik
    have p5 := h5 i p.l p.h g2 g3
    have fl : F.length ≤ 125 := Nat.le_trans C.len (by
      have := Nat.pow_le_pow_right (n := 5) (by decide) (show i ≤ 3 by omega)
      omega)
    have nb : (p.h + 1 - p.l).toNat ≤ 5 := by have := po.h; omega
    walk_at "dd"
    refine ⟨by decide, ?_⟩
    walk_at "dd"
    refine ex_for ?_
    walk_at "dd"
    refine ⟨_, .inr rfl, ?_⟩
    refine ⟨fun j Γ _ => ∃ z4, Γ = [some (jobD J), some (.lst (F.map tI)), some (.int (0 + (i : Int))), some (.lst ((ext p.l (p.h + 1 - p.l).toNat (F.take j)).map tI)), z4, none], ⟨z4, rfl⟩, ?_, ?_⟩
    · rintro j y Γ μ hy ⟨z4, rfl⟩
      rw [List.getElem?_map] at hy
      obtain ⟨t, gt, rfl⟩ := Option.map_eq_some_iff.mp hy
      walk_at "dd"
      refine eg_lcP (snocD t) ?_ hw_name
      walk_at "dd"
      refine r2_ixT (at0 (mapD g2)) ?_
      walk_at "dd"
      refine r2_ixT (at0 (mapD g3)) ?_
      walk_at "dd"
      have lb := po.l
      have ub := pb.h
      have lh := po.h
      refine ⟨_, _, rfl, ⟨by omega, by omega, by omega, by omega⟩, ?_⟩
      refine ⟨by rw [rangeD_len]; exact small_sz (by omega), fun x hx μ A => ?_, fun μ => ?_⟩
      · rw [rangeD_ints] at hx
        obtain ⟨v, hv, rfl⟩ := List.mem_map.mp hx
        walk_at "dd"
        refine ⟨by show 1 ≤ sizeLine; decide, ?_⟩
        have htl := inA_len ((C.mem t).mp (List.mem_of_getElem? gt))
        rw [List.length_take] at htl
        refine r2_catT (Nat.le_of_lt (small_sz (by simp; omega))) ?_
        show D.tup _ = D.tup ((t ++ [v]).map D.int)
        rw [List.map_append]
        rfl
      · rw [snoc_all]
        have el : (ext p.l (p.h + 1 - p.l).toNat (F.take j)).length ≤ 625 := by
          rw [ext_len, List.length_take]
          exact Nat.le_trans (Nat.mul_le_mul (show min j F.length ≤ 125 by omega) nb) (by decide)
        have sl : (snocs p.l (p.h + 1 - p.l).toNat t).length ≤ 5 := by
          unfold snocs
          rw [List.length_map, intsR_len]
          exact nb
        refine r2_catL (Nat.le_of_lt (small_sz (by rw [List.length_map, List.length_map]; omega))) ?_
        rw [← List.map_append]
        walk_at "dd"
        refine ⟨some (tI t), ?_⟩
        rw [ext_take gt]
        rfl
    · rintro Γ μ ⟨z4, rfl⟩
      rw [List.length_map, List.take_length]
      walk_at "dd"
      exact ⟨_, _, _, _, rfl, C.step hp po.h p5⟩
  · rintro Γ μ ⟨z2, z3, z4, F, rfl, C⟩
    rw [rangeD_len, ← hJ.len] at C
    have fl : F.length ≤ 625 := Nat.le_trans C.len (by
      have := Nat.pow_le_pow_right (n := 5) (by decide) (show J.ps.length ≤ 4 by rw [hJ.len]; exact h4)
      omega)
    walk_at "dd"
    refine eg_lcT (sumEq J.t) (fun d => d) ?_ hw_name
    walk_at "dd"
    refine ⟨_, .inr rfl, by rw [List.length_map]; exact small_sz (by omega), fun x hx μ A => ?_, fun μ => ?_⟩
    · obtain ⟨xs, hxs, rfl⟩ := List.mem_map.mp hx
      show AsG _ _ (.tup (xs.map .int)) _ _ _
      walk_at "dd"
      exact ⟨(sumEq_tI J.t xs).symm, fun _ => by walk_at "dd"; rfl⟩
    · rw [filt_tI]
      refine q _ (fun xs => ?_) ?_
      · rw [List.mem_filter, C.mem, List.take_length, decide_eq_true_eq]
      · exact Nat.le_trans (List.length_filter_le _ _) fl
def prodI : List Int → Int
  | [] => 1
  | w :: r => w * prodI r
theorem prodI_app (a b : List Int) : prodI (a ++ b) = prodI a * prodI b := by
  induction a with
  | nil => simp [prodI]
  | cons x r ih =>
    show x * prodI (r ++ b) = x * prodI r * prodI b
    rw [ih, Int.mul_assoc]
theorem prodI_take {ws : List Int} {i : Nat} {w : Int} (e : ws[i]? = some w) : prodI (ws.take (i + 1)) = prodI (ws.take i) * w := by
  rw [List.take_add_one, e, prodI_app]
  simp [prodI]
theorem prodI_pos : ∀ {ws : List Int}, (∀ w ∈ ws, 1 ≤ w ∧ w ≤ 1000000000) → 0 < prodI ws ∧ (prodI ws).natAbs < 2 ^ (40 * ws.length + 1)
  | [], _ => by simp [prodI]
  | w :: r, h => by
    obtain ⟨a, b⟩ := prodI_pos (ws := r) fun x hx => h x (List.mem_cons_of_mem _ hx)
    have hw := h w List.mem_cons_self
    refine ⟨Int.mul_pos (by omega) a, ?_⟩
    have := natAbs_mul_lt (small_w (by omega) hw.2) b
    rw [show 40 + (40 * r.length + 1) = 40 * (w :: r).length + 1 by rw [List.length_cons]; omega] at this
    exact this
theorem prodI_dvd : ∀ {ws : List Int} {w : Int}, w ∈ ws → w ∣ prodI ws
  | [], _, h => by cases h
  | v :: r, w, h => by
    rcases List.mem_cons.mp h with rfl | h
    · exact Int.dvd_mul_right _ _
    · exact Int.dvd_trans (prodI_dvd h) (Int.dvd_mul_left _ _)
def sqL (W : Int) : List Pl → List Int → List Int
  | p :: ps, x :: xs => x * x * (W / p.w) :: sqL W ps xs
  | _, _ => []
theorem sqL_sum (W : Int) : ∀ (ps : List Pl) (xs : List Int), (sqL W ps xs).sum = sqA W ps xs
  | [], _ => by simp [sqL, sqA]
  | _ :: _, [] => by simp [sqL, sqA]
  | p :: ps, x :: xs => by
    unfold sqL sqA
    rw [List.sum_cons, sqL_sum W ps xs]
theorem sqL_len (W : Int) : ∀ {ps : List Pl} {xs : List Int}, xs.length = ps.length → (sqL W ps xs).length = ps.length
  | [], _, _ => by simp [sqL]
  | _ :: _, [], h => by simp at h
  | p :: ps, x :: xs, h => by
    unfold sqL
    rw [List.length_cons, List.length_cons, sqL_len W (by simpa using h)]
theorem sqL_get (W : Int) : ∀ {ps : List Pl} {xs : List Int} {k : Nat} {p : Pl} {x : Int}, ps[k]? = some p → xs[k]? = some x → (sqL W ps xs)[k]? = some (x * x * (W / p.w))
  | [], _, _, _, _, h, _ => by simp at h
  | _ :: _, [], _, _, _, _, h => by simp at h
  | p :: ps, x :: xs, 0, _, _, h1, h2 => by
    simp at h1 h2
    subst h1 h2
    rfl
  | p :: ps, x :: xs, k + 1, _, _, h1, h2 => by
    unfold sqL
    rw [List.getElem?_cons_succ]
    exact sqL_get W (by simpa using h1) (by simpa using h2)
def intsAt (ns : List Int) : D → D
  | .int j => match ns[j.toNat]? with
    | some n => .int n
    | none => .non
  | d => d
theorem intsAt_at {ns : List Int} {k : Nat} {n : Int} (h : ns[k]? = some n) : intsAt ns (.int ((0 : Int) + (k : Int))) = .int n := by
  show (match ns[((0 : Int) + (k : Int)).toNat]? with
    | some n => D.int n
    | none => D.non) = _
  rw [show ((0 : Int) + (k : Int)).toNat = k by omega, h]
theorem intsAt_all {ns : List Int} {n : Nat} (hn : ns.length = n) : (rangeD 0 n).map (intsAt ns) = ns.map D.int := by
  apply List.ext_getElem?
  intro k
  unfold rangeD
  rw [List.map_map, List.getElem?_map, List.getElem?_map]
  by_cases h : k < n
  · have e := List.getElem?_eq_getElem (show k < ns.length by omega)
    rw [e, List.getElem?_range h]
    show some (intsAt ns (.int ((0 : Int) + (k : Int)))) = _
    rw [intsAt_at e]
    rfl
  · rw [List.getElem?_eq_none (by simp; omega), List.getElem?_eq_none (by omega)]
    rfl
def kSquares (job told : D) (post : D → Prop) : Prop := ∃ (J : Job) (xs : List Int), job = jobD J ∧ JobOk J ∧ told = .tup (xs.map .int) ∧ xs.length = J.ws.length ∧ (∀ x ∈ xs, -2000000000 ≤ x ∧ x ≤ 2000000000) ∧ post (.int (sqA (prodI J.ws) J.ps xs))
theorem sc__law_squares : FnScope ["job", "told", "whole", "weight", "k"] ["job", "told"] (defScope (topS 44)) := ⟨rfl, rfl, rfl, by decide +kernel, rfl, by decide +kernel, by decide +kernel⟩
theorem ok__law_squares {f : Addr} {fd : FuncData} (F : Fun K "_law_squares" "_law_squares" (topS 44) f fd) (G : Mg mg)  : FnOk P w K mg base CX0 1 f fd ["job", "told"] (SpP K tabs (c2 kSquares)) := by
  refine okP F sc__law_squares len2 fun cdv A outer s H E hc hr => ?_
  have nd := (sc__law_squares).nd
  refine ⟨_, (pss_cons (ps_set (i := 2) nd rfl (Or.inr rfl) pe_int)
      (pss_cons (ps_for PassesOwn.never rfl (pi_seq_K (K := K) rfl (pe_ix (ix_seq_K (K := K) rfl) (pv 0) pe_int (fun _ _ => rfl))) (pg_name (i := 3) nd rfl (Or.inl rfl)) (pss_one (ps_set (i := 2) nd rfl (Or.inr rfl) (pe_op op_mulA (pv 2) (pv 3)))))
      (pss_one (ps_ret (pe_callB (cr_sum_K (K := K) rfl rfl) (by rfl) G.sum_ bt_sum (pa_cons (pe_lc (own := [("k", 4)]) rfl nd (pi_range1 (by rfl) G.range_ (pa_cons (pe_callB (call_len_K (K := K) rfl) (by rfl) G.len_ bt_len (pa_cons (pv 1) pa_nil)) pa_nil)) (blkOk_by (N := ["job", "told", "whole", "weight", "k"]) (sc := defScope (topS 44)) (by decide +kernel)) (fun _ _ _ _ _ => (pg_name (i := 4) nd rfl (Or.inl rfl))) (fun _ _ _ _ _ => pts_nil) (fun _ _ _ _ _ => (pe_op op_mulA (pe_op op_mulA (pe_ix (ix_seq_K (K := K) rfl) (pv 1) (pv 4) (fun _ _ => rfl)) (pe_ix (ix_seq_K (K := K) rfl) (pv 1) (pv 4) (fun _ _ => rfl))) (pe_op op_fdivW (pv 2) (pe_ix (ix_seq_K (K := K) rfl) (pe_ix (ix_seq_K (K := K) rfl) (pv 0) pe_int (fun _ _ => rfl)) (pv 4) (fun _ _ => rfl)))))) pa_nil)))))), fun S ds post h => ?_⟩
  try dsimp only [cxK, cxP, cxW, cxM, cxB, List.map_cons, List.map_nil]
  obtain ⟨job, told, rfl, J, xs, rfl, hJ, rfl, hl, hb, q⟩ := h
  have h24 := hJ.n.2
  obtain ⟨W0, W1⟩ := prodI_pos hJ.w
  walk_at "dd"
  refine ex_for ?_
  walk_at "dd"
  refine ⟨_, .inl rfl, ?_⟩
  refine ⟨fun i Γ _ => ∃ z3, Γ = [some (jobD J), some (.tup (xs.map .int)), some (.int (prodI (J.ws.take i))), z3, none], ⟨none, rfl⟩, ?_, ?_⟩
  · rintro i y Γ μ hy ⟨z3, rfl⟩
    rw [List.getElem?_map] at hy
    obtain ⟨w, g1, rfl⟩ := Option.map_eq_some_iff.mp hy
    have wb := hJ.w w (List.mem_of_getElem? g1)
    obtain ⟨p0, p1⟩ := prodI_pos (ws := J.ws.take i) fun x hx => hJ.w x (List.mem_of_mem_take hx)
    have tl : (J.ws.take i).length ≤ 24 := by rw [List.length_take]; omega
    walk_at "dd"
    · refine ⟨some (.int w), ?_⟩
      rw [prodI_take g1]
      rfl
    · exact mulA p1 (small_w (by omega) wb.2) (by omega)
  · rintro Γ μ ⟨z3, rfl⟩
    rw [List.length_map, List.take_length]
    walk_at "dd"
    refine eg_lcP (intsAt (sqL (prodI J.ws) J.ps xs)) ?_ hw_name
    walk_at "dd"
    rw [List.length_map]
    refine ⟨_, rfl, by omega, by omega, ?_⟩
    rw [show ((xs.length : Nat) : Int).toNat = xs.length by omega]
    refine ⟨by rw [rangeD_len]; exact small_sz (by omega), fun x hx μ A => ?_, fun μ => ?_⟩
    · obtain ⟨k, hk, rfl⟩ := mem_range hx
      obtain ⟨p, hp, g1, g2, g3, po, pb⟩ := hJ.ex (show k < J.ws.length by omega)
      have g0 := List.getElem?_eq_getElem hk
      generalize xs[k] = x at g0
      have xb := hb x (List.mem_of_getElem? g0)
      have x40 : x.natAbs < 2 ^ 40 := by
        have : (2 : Nat) ^ 40 = 1099511627776 := by decide
        omega
      walk_at "dd"
      refine r2_ixT (at0 (mapD g0)) ?_
      walk_at "dd"
      refine r2_ixT (at0 (mapD g0)) ?_
      walk_at "dd"
      · refine r2_ixT (at0 (mapD g1)) ?_
        walk_at "dd"
        · exact (intsAt_at (sqL_get _ hp g0)).symm
        · refine mulA (n := 80) (m := 40 * J.ws.length + 1) (natAbs_mul_lt x40 x40) ?_ (by omega)
          have e : (prodI J.ws / p.w).natAbs ≤ (prodI J.ws).natAbs := Int.natAbs_ediv_le_natAbs _ _
          omega
        · exact divW po.w (small_w po.w pb.w) (by decide)
      · exact mulA x40 x40 (by decide)
    · rw [intsAt_all (by rw [sqL_len _ (by rw [hJ.len]; exact hl), hJ.len]; exact hl.symm)]
      walk_at "dd"
      rw [sqL_sum]
      exact q
def kSmall (post : D → Prop) : Prop := post (.bl true)
def sqD (J : Job) : D → D
  | .tup ds => .int (sqA (prodI J.ws) J.ps (ds.map fun c => (isInt c).getD 0))
  | d => d
theorem getD_map (xs : List Int) : (xs.map D.int).map (fun c => (isInt c).getD 0) = xs := by
  rw [List.map_map]
  conv => rhs; rw [← List.map_id xs]
  rfl
theorem sqD_tI (J : Job) (xs : List Int) : sqD J (tI xs) = .int (sqA (prodI J.ws) J.ps xs) := by
  show D.int (sqA (prodI J.ws) J.ps ((xs.map D.int).map fun c => (isInt c).getD 0)) = _
  rw [getD_map]
theorem sqD_all (J : Job) (F : List (List Int)) : (F.map tI).map (sqD J) = (F.map fun xs => sqA (prodI J.ws) J.ps xs).map D.int := by
  rw [List.map_map, List.map_map]
  exact List.map_congr_left fun xs _ => sqD_tI J xs
theorem plain_ints (n : Nat) : ∀ (xs : List Int), plainAll n (xs.map .int) = true
  | [] => by simp [plainAll]
  | x :: r => by
    have := plain_ints n r
    simp [plainAll, plainD, this]
theorem plain_tI : ∀ (F : List (List Int)), plainAll 8 (F.map tI) = true
  | [] => by simp [plainAll]
  | xs :: F => by
    rw [List.map_cons]
    unfold plainAll
    rw [plain_tI F]
    have : plainD 8 (tI xs) = true := by
      unfold tI
      have := plain_ints 7 xs
      simpa [plainD] using this
    rw [this]
    rfl
theorem eq_nil (F : List (List Int)) : eqD (.lst (F.map tI)) (.lst []) = F.isEmpty := by
  cases F with
  | nil => rfl
  | cons _ _ => rfl
theorem ex_deal : ∀ {ps : List Pl} {t : Int}, (∀ p ∈ ps, PlOk p) → (ps.map Pl.l).sum ≤ t → t ≤ (ps.map Pl.h).sum → ∃ xs, inA ps xs ∧ xs.sum = t
  | [], t, _, h1, h2 => ⟨[], trivial, by simp at h1 h2 ⊢; omega⟩
  | p :: ps, t, ok, h1, h2 => by
    have o := ok p List.mem_cons_self
    have okr : ∀ p ∈ ps, PlOk p := fun p hp => ok p (List.mem_cons_of_mem _ hp)
    rw [List.map_cons, List.sum_cons] at h1 h2
    have lh : (ps.map Pl.l).sum ≤ (ps.map Pl.h).sum := psum_le fun p hp => (okr p hp).h
    have oh := o.h
    by_cases c : p.l ≤ t - (ps.map Pl.h).sum
    · obtain ⟨xs, a, b⟩ := ex_deal (ps := ps) (t := (ps.map Pl.h).sum) okr lh (Int.le_refl _)
      refine ⟨(t - (ps.map Pl.h).sum) :: xs, ⟨⟨c, by omega⟩, a⟩, ?_⟩
      rw [List.sum_cons, b]
      omega
    · obtain ⟨xs, a, b⟩ := ex_deal (ps := ps) (t := t - p.l) okr (by omega) (by omega)
      refine ⟨p.l :: xs, ⟨⟨Int.le_refl _, oh⟩, a⟩, ?_⟩
      rw [List.sum_cons, b]
      omega
theorem inA_sum : ∀ {ps : List Pl} {xs : List Int}, inA ps xs → (ps.map Pl.l).sum ≤ xs.sum ∧ xs.sum ≤ (ps.map Pl.h).sum
  | [], [], _ => by simp
  | p :: ps, x :: xs, h => by
    obtain ⟨a, b⟩ := inA_sum h.2
    have := h.1
    rw [List.map_cons, List.map_cons, List.sum_cons, List.sum_cons, List.sum_cons]
    omega
  | [], _ :: _, h => h.elim
  | _ :: _, [], h => h.elim
theorem pl_dvd {J : Job} (hJ : JobOk J) : ∀ p ∈ J.ps, 0 < p.w ∧ p.w ∣ prodI J.ws := fun p hp => by
  refine ⟨(hJ.ok p hp).w, prodI_dvd ?_⟩
  obtain ⟨k, e⟩ := List.mem_iff_getElem?.mp hp
  exact List.mem_of_getElem? (plcs_at e).1
theorem least_of {J : Job} (hJ : JobOk J) {F : List (List Int)} (hF : ∀ xs, xs ∈ F ↔ inA J.ps xs ∧ xs.sum = J.t) {m : Int} (h1 : m ∈ F.map fun xs => sqA (prodI J.ws) J.ps xs) (h2 : ∀ y ∈ F.map fun xs => sqA (prodI J.ws) J.ps xs, m ≤ y) {xs : List Int} {r : Rat} (hi : inA J.ps xs) (hs : xs.sum = J.t) (hv : levA r.num (r.den : Int) J.ps xs) :
    sqA (prodI J.ws) J.ps xs = m := by
  obtain ⟨ys, hy, rfl⟩ := List.mem_map.mp h1
  obtain ⟨i2, s2⟩ := (hF ys).mp hy
  have a := (level_least (den_pos r) (prodI_pos hJ.w).1 (pl_dvd hJ) hv hi i2 (s2.trans hs.symm)).1
  have b := h2 _ (List.mem_map.mpr ⟨xs, (hF xs).mpr ⟨hi, hs⟩, rfl⟩)
  omega
theorem due_of {J : Job} (hJ : JobOk J) {m : Int} {xs ys : List Int} {r : Rat} (hi : inA J.ps xs) (hs : xs.sum = J.t) (hv : levA r.num (r.den : Int) J.ps xs) (hm : sqA (prodI J.ws) J.ps xs = m) (hi2 : inA J.ps ys) (hs2 : ys.sum = J.t) :
    levelB J ys (dR r) = decide (sqA (prodI J.ws) J.ps ys = m) := by
  have a := (level_least (den_pos r) (prodI_pos hJ.w).1 (pl_dvd hJ) hv hi hi2 (hs2.trans hs.symm)).2
  have b := levelB_iff (r := r) hJ (xs := ys) (by rw [inA_len hi2, hJ.len])
  rw [Bool.eq_iff_iff, b, decide_eq_true_eq, ← hm, a]
theorem sc__law_small_fine : FnScope ["box", "job", "every", "least", "level", "told", "due", "near"] ["box"] (defScope (topS 45)) := ⟨rfl, rfl, rfl, by decide +kernel, rfl, by decide +kernel, by decide +kernel⟩
theorem ok__law_small_fine {f : Addr} {fd : FuncData} (F : Fun K "_law_small_fine" "_law_small_fine" (topS 45) f fd) (G : Mg mg) (f__law_dealings : Cal P w K mg base 1 "_law_dealings" (SpP K tabs (c1 kDealings))) (f__law_draw : Cal P w K mg base 2 "_law_draw" (SpB K tabs (c1 kDraw))) (f__law_fine : Cal P w K mg base 7 "_law_fine" (SpP K tabs (c1 kFine82))) (f__law_job : Cal P w K mg base 3 "_law_job" (SpB K tabs (c2 kJob))) (f__law_level_due : Cal P w K mg base 2 "_law_level_due" (SpP K tabs (c3 kIsLevel))) (f__law_refused : Cal P w K mg base 6 "_law_refused" (SpP K tabs (c1 kRefused))) (f__law_same : Cal P w K mg base 3 "_law_same" (SpP K tabs (c2 (kSame 2)))) (f__law_squares : Cal P w K mg base 1 "_law_squares" (SpP K tabs (c2 kSquares))) (f_dealt : Cal P w K mg base 5 "dealt" (SpP K tabs (c1 kDealt))) (f_is_level : Cal P w K mg base 3 "is_level" (SpP K tabs (c3 kIsLevel))) : FnOk P w K mg base CX0 8 f fd ["box"] (SpB K tabs (c0 kSmall)) := by
  refine okB F sc__law_small_fine lenB0 fun cdv A outer s H E hc hr => ?_
  have nd := (sc__law_small_fine).nd
  refine ⟨_, (pss_cons (ps_set (i := 1) nd rfl (Or.inr rfl) (pe_cal f__law_job hr (by decide) (by rfl) (pa_cons (pv 0) (pa_cons (pe_op op_add pe_int (pe_cal f__law_draw hr (by decide) (by rfl) (pa_cons (pv 0) (pa_cons pe_int pa_nil)))) (pa_cons pe_int pa_nil)))))
      (pss_cons (ps_set (i := 2) nd rfl (Or.inl rfl) (pe_cal f__law_dealings hr (by decide) (by rfl) (pa_cons (pv 1) pa_nil)))
      (pss_cons (ps_if (pt_cmpR (op_eqD_K (K := K) rfl hr.units) (pv 2) (pe_lst pa_nil) (nomark _)) (pss_one (ps_ret (pe_cal f__law_refused hr (by decide) (by rfl) (pa_cons (pv 1) pa_nil)))) pss_nil)
      (pss_cons (ps_set (i := 3) nd rfl (Or.inl rfl) (pe_callB (cr_min_K (K := K) rfl rfl) (by rfl) G.min_ bt_min (pa_cons (pe_lc (own := [("told", 5)]) rfl nd (pi_seq_K (K := K) rfl (pv 2)) (blkOk_by (N := ["box", "job", "every", "least", "level", "told", "due", "near"]) (sc := defScope (topS 45)) (by decide +kernel)) (fun _ _ _ _ _ => (pg_name (i := 5) nd rfl (Or.inl rfl))) (fun _ _ _ _ _ => pts_nil) (fun _ _ _ _ _ => (pe_cal f__law_squares hr (by decide) (by rfl) (pa_cons (pv 1) (pa_cons (pv 5) pa_nil))))) pa_nil)))
      (pss_cons (ps_if (pw_or (pt_not (pt_val (pe_cal f__law_fine hr (by decide) (by rfl) (pa_cons (pv 1) pa_nil)))) (pw_or1 (pt_cmpR op_ne (pe_cal f__law_squares hr (by decide) (by rfl) (pa_cons (pv 1) (pa_cons (pe_ix (ix_seq_K (K := K) rfl) (pe_cal f_dealt hr (by decide) (by rfl) (pa_cons (pv 1) pa_nil)) pe_int (fun _ _ => rfl)) pa_nil))) (pv 3) (nomark _)))).pt (pss_one (ps_ret pe_bl)) pss_nil)
      (pss_cons (ps_set (i := 4) nd rfl (Or.inl rfl) (pe_ix (ix_seq_K (K := K) rfl) (pe_cal f_dealt hr (by decide) (by rfl) (pa_cons (pv 1) pa_nil)) pe_int (fun _ _ => rfl)))
      (pss_cons (ps_for PassesOwn.never rfl (pi_seq_K (K := K) rfl (pe_slice (sl_list_K (K := K) rfl) (pv 2) po_none (po_some pe_int))) (pg_name (i := 5) nd rfl (Or.inl rfl)) (pss_cons (ps_set (i := 6) nd rfl (Or.inl rfl) (pe_cmpR op_eq (pe_cal f__law_squares hr (by decide) (by rfl) (pa_cons (pv 1) (pa_cons (pv 5) pa_nil))) (pv 3) (nomark _)))
      (pss_cons (ps_if (pw_or (pt_not (pt_val (pe_cal f__law_same hr (by decide) (by rfl) (pa_cons (pe_cal f_is_level hr (by decide) (by rfl) (pa_cons (pv 1) (pa_cons (pv 5) (pa_cons (pv 4) pa_nil)))) (pa_cons (pv 6) pa_nil))))) (pw_or1 (pt_cmpR op_ne (pe_cal f__law_level_due hr (by decide) (by rfl) (pa_cons (pv 1) (pa_cons (pv 5) (pa_cons (pv 4) pa_nil)))) (pv 6) (nomark _)))).pt (pss_one (ps_ret pe_bl)) pss_nil)
      (pss_one (ps_for PassesOwn.never rfl (pi_seq_K (K := K) rfl (pe_tup (pa_cons (pe_tup (pa_cons (pe_op op_add (pe_ix (ix_seq_K (K := K) rfl) (pv 4) pe_int (fun _ _ => rfl)) pe_int) (pa_cons (pe_ix (ix_seq_K (K := K) rfl) (pv 4) pe_int (fun _ _ => rfl)) pa_nil))) (pa_cons (pe_tup (pa_cons (pe_op op_mulA (pe_ix (ix_seq_K (K := K) rfl) (pv 4) pe_int (fun _ _ => rfl)) pe_int) (pa_cons (pe_op op_mulA (pe_ix (ix_seq_K (K := K) rfl) (pv 4) pe_int (fun _ _ => rfl)) pe_int) pa_nil))) (pa_cons (pe_tup (pa_cons (pe_un un_neg (pe_ix (ix_seq_K (K := K) rfl) (pv 4) pe_int (fun _ _ => rfl))) (pa_cons (pe_ix (ix_seq_K (K := K) rfl) (pv 4) pe_int (fun _ _ => rfl)) pa_nil))) (pa_cons (pe_op (op_catA_K (K := K) rfl) (pv 4) (pe_tup (pa_cons pe_int pa_nil))) (pa_cons pe_non (pa_cons (pe_ix (ix_seq_K (K := K) rfl) (pv 4) pe_int (fun _ _ => rfl)) pa_nil)))))))) (pg_name (i := 7) nd rfl (Or.inl rfl)) (pss_one (ps_if (pt_not (pt_val (pe_cal f__law_same hr (by decide) (by rfl) (pa_cons (pe_cal f_is_level hr (by decide) (by rfl) (pa_cons (pv 1) (pa_cons (pv 5) (pa_cons (pv 7) pa_nil)))) (pa_cons (pe_cal f__law_level_due hr (by decide) (by rfl) (pa_cons (pv 1) (pa_cons (pv 5) (pa_cons (pv 7) pa_nil)))) pa_nil))))) (pss_one (ps_ret pe_bl)) pss_nil)))))))
      (pss_one (ps_ret pe_bl))))))))), fun S B C hB hC nB ds post h => ?_⟩
  try dsimp only [cxK, cxP, cxW, cxM, cxB, List.map_cons, List.map_nil]
  obtain ⟨rfl, q⟩ := h
  walk_at "dd"
  refine ⟨4, rfl, by decide, by decide, fun j j0 j1 nn => ?_⟩
  walk_at "dd"
  refine ⟨1 + j, 5, rfl, rfl, by omega, by omega, by decide, by decide, fun J hJ hS nn => ?_⟩
  have h4 : J.ws.length ≤ 4 := by have := hS.len; omega
  have hll := hJ.l
  obtain ⟨pw, pl, ph⟩ := plcs_w hJ.l hJ.h
  walk_at "dd"
  refine ⟨J, rfl, hJ, h4, hS.d, fun F hF hFl => ?_⟩
  walk_at "dd"
  refine ⟨by decide, ?_⟩
  refine r2_eqD (by have := plain_tI F; simpa [plainD] using this) (by simp [plainD, plainAll]) ?_
  rw [eq_nil]
  refine ⟨_, rfl, ?_⟩
  refine if_split (fun he => ?_) fun he => ?_
  · have he := List.isEmpty_iff.mp he
    subst he
    walk_at "dd"
    refine ⟨J, rfl, hJ, fun z => ?_, q⟩
    obtain ⟨xs, a, b⟩ := ex_deal (t := J.t) hJ.ok (by rw [pl]; exact z.1) (by rw [ph]; exact z.2)
    exact absurd ((hF xs).mpr ⟨a, b⟩) List.not_mem_nil
  obtain ⟨x0, hx0⟩ : ∃ x0, x0 ∈ F := by
    cases F with
    | nil => cases he
    | cons a _ => exact ⟨a, List.mem_cons_self⟩
  obtain ⟨i0, s0⟩ := (hF x0).mp hx0
  obtain ⟨b1, b2⟩ := inA_sum i0
  rw [pl, s0] at b1
  rw [ph, s0] at b2
  have fact : ∀ xs ∈ F, xs.length = J.ws.length ∧ ∀ x ∈ xs, -2000000000 ≤ x ∧ x ≤ 2000000000 := fun xs hxs => by
    have i := ((hF xs).mp hxs).1
    have l := (inA_len i).trans hJ.len
    exact ⟨l, deal_bd hJ i l⟩
  walk_at "dd"
  refine eg_lcP (sqD J) ?_ hw_name
  walk_at "dd"
  refine ⟨_, .inr rfl, by rw [List.length_map]; exact small_sz (by omega), fun x hx μ A => ?_, fun μ => ?_⟩
  · obtain ⟨xs, hxs, rfl⟩ := List.mem_map.mp hx
    obtain ⟨f1, f2⟩ := fact xs hxs
    walk_at "dd"
    exact ⟨J, xs, rfl, hJ, rfl, f1, f2, (sqD_tI J xs).symm⟩
  rw [sqD_all]
  walk_at "dd"
  refine rl_minLA (by rw [List.length_map]; exact List.length_pos_of_mem hx0) fun least hm1 hm2 => ?_
  walk_at "dd"
  refine ⟨J, rfl, hJ, ?_⟩
  walk_at "dd"
  refine ⟨J, rfl, hJ, b1, b2, fun xs1 r1 hr1 hl1 hi1 hs1 hv1 => ?_⟩
  walk_at "dd"
  refine ⟨J, xs1, rfl, hJ, rfl, hl1, deal_bd hJ hi1 hl1, ?_⟩
  walk_at "dd"
  refine if_ndec (fun z => absurd (least_of hJ hF hm1 hm2 hi1 hs1 hv1) z) fun _ => ?_
  walk_at "dd"
  refine ⟨J, rfl, hJ, b1, b2, fun xs2 r2 hr2 hl2 hi2 hs2 hv2 => ?_⟩
  have hm := least_of hJ hF hm1 hm2 hi2 hs2 hv2
  walk_at "dd"
  refine ex_for ?_
  walk_at "dd"
  refine eg_slL ?_
  walk_at "dd"
  refine ⟨_, rfl, _, .inr rfl, ?_⟩
  have n40 : r2.num.natAbs < 1099511627776 := hr2.num
  have d40 : r2.den < 1099511627776 := hr2.den
  refine ⟨fun i Γ _ => ∃ z5 z6 z7, Γ = [some (.adr B), some (jobD J), some (.lst (F.map tI)), some (.int least), some (dR r2), z5, z6, z7], ⟨none, none, none, rfl⟩, ?_, ?_⟩
  · rintro i y Γ μ hy ⟨z5, z6, z7, rfl⟩
    obtain ⟨xs, hxs, rfl⟩ := List.mem_map.mp (mem_cut (List.mem_of_getElem? hy))
    obtain ⟨f1, f2⟩ := fact xs hxs
    obtain ⟨i3, s3⟩ := (hF xs).mp hxs
    have hdue := due_of (m := least) hJ hi2 hs2 hv2 hm i3 s3
    show AsG _ _ (.tup (xs.map .int)) _ _ _
    walk_at "dd"
    refine ⟨J, xs, rfl, hJ, rfl, f1, f2, ?_⟩
    walk_at "dd"
    rw [← hdue]
    refine ⟨J, xs, 40, rfl, hJ, rfl, f1, f2, Rb_okD hr2, by omega, ?_⟩
    walk_at "dd"
    refine ⟨rfl, rfl, ?_⟩
    walk_at "dd"
    refine ⟨J, xs, 40, rfl, hJ, rfl, f1, f2, Rb_okD hr2, by omega, ?_⟩
    walk_at "dd"
    refine r2_neB ?_
    refine ⟨_, rfl, ?_⟩
    refine if_ndec (fun z => absurd rfl z) fun _ => ?_
    walk_at "dd"
    refine ex_for ?_
    walk_at "dd"
    refine ⟨by show 2 ≤ sizeLine; decide, ?_⟩
    walk_at "dd"
    · refine ⟨by show 2 ≤ sizeLine; decide, ?_⟩
      walk_at "dd"
      refine ⟨by show 2 ≤ sizeLine; decide, ?_⟩
      walk_at "dd"
      refine ⟨by show 1 ≤ sizeLine; decide, ?_⟩
      refine r2_catT (by show 3 ≤ sizeLine; decide) ?_
      walk_at "dd"
      refine ⟨by show 6 ≤ sizeLine; decide, _, .inl rfl, ?_⟩
      refine ⟨fun i Γ _ => ∃ z7, Γ = [some (.adr B), some (jobD J), some (.lst (F.map tI)), some (.int least), some (dR r2), some (.tup (xs.map .int)), some (.bl (levelB J xs (dR r2))), z7], ⟨z7, rfl⟩, ?_, ?_⟩
      · rintro i y Γ μ hy ⟨z7, rfl⟩
        have oky : okD 50 y := by
          have := List.mem_of_getElem? hy
          simp only [List.mem_cons, List.not_mem_nil, or_false] at this
          have e50 : (2 : Nat) ^ 50 = 1125899906842624 := by decide
          rcases this with rfl | rfl | rfl | rfl | rfl | rfl
          · simp only [okD, okAll, e50]
            exact ⟨by simp, by omega, by omega, trivial⟩
          · simp only [okD, okAll, e50]
            exact ⟨by simp, by omega, by omega, trivial⟩
          · simp only [okD, okAll, e50]
            exact ⟨by simp, by omega, by omega, trivial⟩
          · simp only [okD, okAll, e50, List.cons_append, List.nil_append]
            exact ⟨by simp, by omega, by omega, by omega, trivial⟩
          · simp only [okD]
          · simp only [okD, e50]
            omega
        walk_at "dd"
        refine ⟨J, xs, 50, rfl, hJ, rfl, f1, f2, oky, by omega, ?_⟩
        walk_at "dd"
        refine ⟨J, xs, 50, rfl, hJ, rfl, f1, f2, oky, by omega, ?_⟩
        walk_at "dd"
        refine ⟨rfl, rfl, ?_⟩
        walk_at "dd"
        exact ⟨_, rfl⟩
      · rintro Γ μ ⟨z7, rfl⟩
        exact ⟨_, _, _, rfl⟩
    · exact mulS' ⟨by decide, by decide⟩
    · exact mulS' ⟨by decide, by decide⟩
  · rintro Γ μ ⟨z5, z6, z7, rfl⟩
    walk_at "dd"
    exact q
theorem ints_yes {ns : List Int} {a : Int} (hl : 1 ≤ ns.length ∧ ns.length ≤ 24) (h : ∀ x ∈ ns, a ≤ x ∧ x ≤ 1000000000) : intsB (.tup (ns.map .int)) a = true := by
  show ((decide (1 ≤ (ns.map D.int).length) && decide ((ns.map D.int).length ≤ 24)) && (ns.map D.int).all fun c => numB c a 1000000000) = true
  rw [List.length_map, decide_eq_true hl.1, decide_eq_true hl.2, List.all_map]
  refine (Bool.true_and _).trans (List.all_eq_true.mpr fun x hx => ?_)
  obtain ⟨h1, h2⟩ := h x hx
  show (decide (a ≤ x) && decide (x ≤ 1000000000)) = true
  rw [decide_eq_true h1, decide_eq_true h2]
  rfl
theorem job_yes {J : Job} (hJ : JobOk J) (t0 : 0 ≤ J.t) (hb : ∀ x ∈ J.hs, x ≤ 1000000000) : jobB (jobD J) = true := by
  have hll := hJ.l
  have hhl := hJ.h
  have hn := hJ.n
  show (numB (.int J.t) 0 1000000000 && (intsB (.tup (J.ws.map .int)) 1 && (intsB (.tup (J.ls.map .int)) 0 && (intsB (.tup (J.hs.map .int)) 0 && ((decide ((J.ws.map D.int).length = (J.ls.map D.int).length) && decide ((J.ws.map D.int).length = (J.hs.map D.int).length)) && leB (J.ls.map D.int) (J.hs.map D.int)))))) = true
  rw [ints_yes hn hJ.w, ints_yes (by omega) hJ.lb, ints_yes (by omega) fun x hx => ⟨(hJ.hb x hx).1, hb x hx⟩, List.length_map, List.length_map, List.length_map, hll, hhl, leB_ints]
  have e1 : numB (.int J.t) 0 1000000000 = true := by
    show (decide (0 ≤ J.t) && decide (J.t ≤ 1000000000)) = true
    rw [decide_eq_true t0, decide_eq_true hJ.t0.2]
    rfl
  have e2 : leI J.ls J.hs = true := (leI_iff (hll.trans hhl.symm)).mpr fun k hk => by
    have a := List.getElem?_eq_getElem hk
    have b := List.getElem?_eq_getElem (show k < J.hs.length by omega)
    rw [a, b]
    exact hJ.le k _ _ a b
  rw [e1, e2]
  simp
theorem ben_ints {b n : Nat} {xs : List Int} (hl : xs.length ≤ 40) (h : ∀ x ∈ xs, x.natAbs < 2 ^ b) : ben b (n + 1) (.tup (xs.map .int)) := by
  unfold ben
  refine ⟨by simpa using hl, benAll_iff.mpr fun d hd => ?_⟩
  obtain ⟨x, hx, rfl⟩ := List.mem_map.mp hd
  cases n <;> simpa [ben] using h x hx
theorem e40 : (2 : Nat) ^ 40 = 1099511627776 := by decide
theorem ben_job {J : Job} (hJ : JobOk J) : ben 40 2 (jobD J) := by
  have hll := hJ.l
  have hhl := hJ.h
  have hn := hJ.n
  unfold ben
  refine ⟨by simp, benAll_iff.mpr fun d hd => ?_⟩
  simp only [List.mem_cons, List.not_mem_nil, or_false] at hd
  rcases hd with rfl | rfl | rfl | rfl
  · have := hJ.t0
    show J.t.natAbs < 2 ^ 40
    rw [e40]
    omega
  · exact ben_ints (by omega) fun x hx => by have := hJ.w x hx; rw [e40]; omega
  · exact ben_ints (by omega) fun x hx => by have := hJ.lb x hx; rw [e40]; omega
  · exact ben_ints (by omega) fun x hx => by have := hJ.hb x hx; rw [e40]; omega
theorem ok_job {J : Job} (hJ : JobOk J) : okD 40 (jobD J) := ben_ok (Nat.le_refl _) 2 _ (ben_job hJ)
theorem JobOk.at {J : Job} (hJ : JobOk J) {t : Int} (h0 : 0 ≤ t) (h1 : t ≤ 1000000000) : JobOk { J with t := t } := ⟨hJ.n, hJ.l, hJ.h, hJ.w, hJ.lb, hJ.hb, hJ.le, by show -1000000000 ≤ t; omega, h1⟩
def jFull : Job := ⟨24, List.replicate 24 1000000000, List.replicate 24 0, List.replicate 24 1000000000⟩
theorem full_ok : JobOk jFull := by
  refine ⟨⟨by decide, by decide⟩, by decide, by decide, fun x hx => ?_, fun x hx => ?_, fun x hx => ?_, fun k a b e1 e2 => ?_, by decide⟩
  · rw [(List.mem_replicate.mp hx).2]; decide
  · rw [(List.mem_replicate.mp hx).2]; decide
  · rw [(List.mem_replicate.mp hx).2]; decide
  · rw [(List.mem_replicate.mp (List.mem_of_getElem? e1)).2, (List.mem_replicate.mp (List.mem_of_getElem? e2)).2]; decide
theorem over_ok : okD 40 (.tup [.int 24, .tup (jFull.ws.map .int ++ [.int 1]), .tup (jFull.ls.map .int ++ [.int 0]), .tup (jFull.hs.map .int ++ [.int 1])]) := by
  have row : ∀ (a b : Int), a.natAbs < 2 ^ 40 → b.natAbs < 2 ^ 40 → okD 40 (.tup ((List.replicate 24 a).map .int ++ [.int b])) := fun a b ha hb => by
    refine okT_of (by simp) fun d hd => ?_
    rcases List.mem_append.mp hd with h | h
    · obtain ⟨x, hx, rfl⟩ := List.mem_map.mp h
      rw [(List.mem_replicate.mp hx).2]
      exact ha
    · have : d = .int b := by simpa using h
      rw [this]
      exact hb
  refine okT_of (by simp) fun d hd => ?_
  simp only [List.mem_cons, List.not_mem_nil, or_false] at hd
  rcases hd with rfl | rfl | rfl | rfl
  · show (24 : Int).natAbs < 2 ^ 40
    decide
  · exact row _ _ (by decide) (by decide)
  · exact row _ _ (by decide) (by decide)
  · exact row _ _ (by decide) (by decide)
theorem over_no : jobB (.tup [.int 24, .tup (jFull.ws.map .int ++ [.int 1]), .tup (jFull.ls.map .int ++ [.int 0]), .tup (jFull.hs.map .int ++ [.int 1])]) = false := by
  have h : intsB (.tup (jFull.ws.map .int ++ [.int 1])) 1 = false := by
    rfl
  simp only [jobB, h, Bool.false_and, Bool.and_false]
theorem sc_law : FnScope ["script", "box", "turn", "job", "least", "most", "total", "other", "told", "full"] ["script"] (defScope (topS 46)) := ⟨rfl, rfl, rfl, by decide +kernel, rfl, by decide +kernel, by decide +kernel⟩
theorem ok_law {f : Addr} {fd : FuncData} (F : Fun K "law" "law" (topS 46) f fd) (G : Mg mg) (f__law_bent : Cal P w K mg base 5 "_law_bent" (SpB K tabs (c1 (kBent 2)))) (f__law_box : Cal P w K mg base 1 "_law_box" (spBox K)) (f__law_dealing_due : Cal P w K mg base 2 "_law_dealing_due" (SpP K tabs (c2 kIsDeal))) (f__law_draw : Cal P w K mg base 2 "_law_draw" (SpB K tabs (c1 kDraw))) (f__law_fine : Cal P w K mg base 7 "_law_fine" (SpP K tabs (c1 kFine82))) (f__law_job : Cal P w K mg base 3 "_law_job" (SpB K tabs (c2 kJob))) (f__law_job_due : Cal P w K mg base 3 "_law_job_due" (SpP K tabs (c1 kIsJob))) (f__law_same : Cal P w K mg base 3 "_law_same" (SpP K tabs (c2 (kSame 2)))) (f__law_small_fine : Cal P w K mg base 8 "_law_small_fine" (SpB K tabs (c0 kSmall))) (f_dealt : Cal P w K mg base 5 "dealt" (SpP K tabs (c1 kDealt))) (f_is_dealing : Cal P w K mg base 3 "is_dealing" (SpP K tabs (c2 kIsDeal))) (f_is_job : Cal P w K mg base 4 "is_job" (SpP K tabs (c1 kIsJob))) : FnOk P w K mg base CX0 9 f fd ["script"] (spLaw K tabs) := by
  refine okL F sc_law fun cdv A outer s H E hc hr => ?_
  have nd := (sc_law).nd
  refine ⟨fun _ _ _ => False, _, (pss_cons (ps_set (i := 1) nd rfl (Or.inl rfl) (pe_cal f__law_box hr (by decide) (by rfl) (pa_cons (pv 0) pa_nil)))
      (pss_cons (ps_for PassesOwn.never rfl (pi_range1 (by rfl) G.range_ (pa_cons pe_int pa_nil)) (pg_name (i := 2) nd rfl (Or.inl rfl)) (pss_one (ps_if (pt_not (pt_val (pe_cal f__law_small_fine hr (by decide) (by rfl) (pa_cons (pv 1) pa_nil)))) (pss_one (ps_ret pe_bl)) pss_nil)))
      (pss_cons (ps_set (i := 3) nd rfl (Or.inl rfl) (pe_cal f__law_job hr (by decide) (by rfl) (pa_cons (pv 1) (pa_cons (pe_op op_add pe_int (pe_cal f__law_draw hr (by decide) (by rfl) (pa_cons (pv 1) (pa_cons pe_int pa_nil)))) (pa_cons (pe_ix (ix_seq_K (K := K) rfl) (pe_lst (pa_cons pe_int (pa_cons pe_int (pa_cons pe_int pa_nil)))) (pe_cal f__law_draw hr (by decide) (by rfl) (pa_cons (pv 1) (pa_cons pe_int pa_nil))) (fun _ _ => rfl)) pa_nil)))))
      (pss_cons (ps_if (pw_or (pt_not (pt_val (pe_cal f__law_fine hr (by decide) (by rfl) (pa_cons (pv 3) pa_nil)))) (pw_or1 (pt_not (pt_val (pe_cal f__law_same hr (by decide) (by rfl) (pa_cons (pe_cal f_is_job hr (by decide) (by rfl) (pa_cons (pv 3) pa_nil)) (pa_cons pe_bl pa_nil))))))).pt (pss_one (ps_ret pe_bl)) pss_nil)
      (pss_cons (ps_par (i := 4) (j := 5) rfl nd rfl rfl (by decide) rfl rfl (pa_cons (pe_callB (cr_sum_K (K := K) rfl rfl) (by rfl) G.sum_ bt_sum (pa_cons (pe_ix (ix_seq_K (K := K) rfl) (pv 3) pe_int (fun _ _ => rfl)) pa_nil)) (pa_cons (pe_callB (cr_sum_K (K := K) rfl rfl) (by rfl) G.sum_ bt_sum (pa_cons (pe_ix (ix_seq_K (K := K) rfl) (pv 3) pe_int (fun _ _ => rfl)) pa_nil)) pa_nil)) rfl)
      (pss_cons (ps_for PassesOwn.never rfl (pi_seq_K (K := K) rfl (pe_tup (pa_cons (pe_op op_sub (pv 4) pe_int) (pa_cons (pe_op op_add (pv 5) pe_int) (pa_cons (pv 4) (pa_cons (pv 5) pa_nil)))))) (pg_name (i := 6) nd rfl (Or.inl rfl)) (pss_one (ps_if (pw_and (pt_chain op_le op_le pe_int (pv 6) pe_int) (pw_and1 (pt_not (pt_val (pe_cal f__law_fine hr (by decide) (by rfl) (pa_cons (pe_op (op_catA_K (K := K) rfl) (pe_tup (pa_cons (pv 6) pa_nil)) (pe_slice (sl_tupA_K (K := K) rfl) (pv 3) (po_some pe_int) po_none)) pa_nil)))))).pt (pss_one (ps_ret pe_bl)) pss_nil)))
      (pss_cons (ps_for PassesOwn.never rfl (pi_range1 (by rfl) G.range_ (pa_cons pe_int pa_nil)) (pg_name (i := 2) nd rfl (Or.inl rfl)) (pss_cons (ps_set (i := 7) nd rfl (Or.inl rfl) (pe_cal f__law_bent hr (by decide) (by rfl) (pa_cons (pv 1) (pa_cons (pv 3) pa_nil))))
      (pss_one (ps_if (pt_not (pt_val (pe_cal f__law_same hr (by decide) (by rfl) (pa_cons (pe_cal f_is_job hr (by decide) (by rfl) (pa_cons (pv 7) pa_nil)) (pa_cons (pe_cal f__law_job_due hr (by decide) (by rfl) (pa_cons (pv 7) pa_nil)) pa_nil))))) (pss_one (ps_ret pe_bl)) pss_nil))))
      (pss_cons (ps_if (pt_chain op_le op_le (pv 4) (pe_ix (ix_seq_K (K := K) rfl) (pv 3) pe_int (fun _ _ => rfl)) (pv 5)) (pss_cons (ps_set (i := 8) nd rfl (Or.inl rfl) (pe_ix (ix_seq_K (K := K) rfl) (pe_cal f_dealt hr (by decide) (by rfl) (pa_cons (pv 3) pa_nil)) pe_int (fun _ _ => rfl)))
      (pss_one (ps_for PassesOwn.never rfl (pi_range1 (by rfl) G.range_ (pa_cons pe_int pa_nil)) (pg_name (i := 2) nd rfl (Or.inl rfl)) (pss_cons (ps_set (i := 7) nd rfl (Or.inl rfl) (pe_cal f__law_bent hr (by decide) (by rfl) (pa_cons (pv 1) (pa_cons (pv 8) pa_nil))))
      (pss_one (ps_if (pt_not (pt_val (pe_cal f__law_same hr (by decide) (by rfl) (pa_cons (pe_cal f_is_dealing hr (by decide) (by rfl) (pa_cons (pv 3) (pa_cons (pv 7) pa_nil))) (pa_cons (pe_cal f__law_dealing_due hr (by decide) (by rfl) (pa_cons (pv 3) (pa_cons (pv 7) pa_nil))) pa_nil))))) (pss_one (ps_ret pe_bl)) pss_nil)))))) pss_nil)
      (pss_cons (ps_set (i := 9) nd rfl (Or.inl rfl) (pe_tup (pa_cons pe_int (pa_cons (pe_callTy (call_tuple_K (K := K) rfl) (by rfl) G.tuple_ bt_tuple (pa_cons (pe_op op_rep (pe_lst (pa_cons pe_int pa_nil)) pe_int) pa_nil)) (pa_cons (pe_callTy (call_tuple_K (K := K) rfl) (by rfl) G.tuple_ bt_tuple (pa_cons (pe_op op_rep (pe_lst (pa_cons pe_int pa_nil)) pe_int) pa_nil)) (pa_cons (pe_callTy (call_tuple_K (K := K) rfl) (by rfl) G.tuple_ bt_tuple (pa_cons (pe_op op_rep (pe_lst (pa_cons pe_int pa_nil)) pe_int) pa_nil)) pa_nil))))))
      (pss_cons (ps_if (pw_or (pt_not (pt_val (pe_cal f__law_fine hr (by decide) (by rfl) (pa_cons (pv 9) pa_nil)))) (pw_or (pt_cmpR op_notBl (pe_cal f_is_job hr (by decide) (by rfl) (pa_cons (pv 9) pa_nil)) pe_bl (nomark _)) (pw_or1 (pt_cmpR op_notBl (pe_cal f_is_job hr (by decide) (by rfl) (pa_cons (pe_tup (pa_cons pe_int (pa_cons (pe_op (op_catA_K (K := K) rfl) (pe_ix (ix_seq_K (K := K) rfl) (pv 9) pe_int (fun _ _ => rfl)) (pe_tup (pa_cons pe_int pa_nil))) (pa_cons (pe_op (op_catA_K (K := K) rfl) (pe_ix (ix_seq_K (K := K) rfl) (pv 9) pe_int (fun _ _ => rfl)) (pe_tup (pa_cons pe_int pa_nil))) (pa_cons (pe_op (op_catA_K (K := K) rfl) (pe_ix (ix_seq_K (K := K) rfl) (pv 9) pe_int (fun _ _ => rfl)) (pe_tup (pa_cons pe_int pa_nil))) pa_nil))))) pa_nil)) pe_bl (nomark _))))).pt (pss_one (ps_ret pe_bl)) pss_nil)
      (pss_one (ps_ret (pe_or (pe_cmpR op_gt (pe_cal f__law_draw hr (by decide) (by rfl) (pa_cons (pv 1) (pa_cons pe_int pa_nil))) pe_int (nomark _)) (pe_one (pe_cal f__law_fine hr (by decide) (by rfl) (pa_cons (pe_cal f__law_job hr (by decide) (by rfl) (pa_cons (pv 1) (pa_cons pe_int (pa_cons pe_int pa_nil)))) pa_nil)))))))))))))))), fun S B C hB hC nB scr => ?_⟩
  try dsimp only [cxK, cxP, cxW, cxM, cxB, List.map_cons, List.map_nil]
  walk_at "dd"
  refine ex_for ?_
  walk_at "dd"
  refine ⟨2, rfl, by decide, by decide, ?_⟩
  refine ⟨fun i Γ _ => ∃ z2, Γ = [some (.adr scr), some (.adr B), z2, none, none, none, none, none, none, none], ⟨none, rfl⟩, ?_, ?_⟩
  · rintro i y Γ μ hy ⟨z2, rfl⟩
    walk_at "dd"
    unfold kSmall
    intro nn
    walk_at "dd"
    exact ⟨_, rfl⟩
  rintro Γ μ ⟨z2, rfl⟩
  walk_at "dd"
  refine ⟨6, rfl, by decide, by decide, fun j j0 j1 nn => ?_⟩
  walk_at "dd"
  refine ⟨by show 3 ≤ sizeLine; decide, ?_⟩
  walk_at "dd"
  refine ⟨3, rfl, by decide, by decide, fun i i0 i1 nn => ?_⟩
  obtain ⟨s, hs, s1⟩ := at_three (a := 6) (b := 1000) (c := 30000000) i0 i1
  refine r2_ixL hs ?_
  walk_at "dd"
  refine ⟨1 + j, s, rfl, rfl, by omega, by omega, by omega, by omega, fun J hJ hS nn => ?_⟩
  walk_at "dd"
  refine ⟨J, rfl, hJ, ?_⟩
  walk_at "dd"
  refine ⟨40, ok_job hJ, ?_⟩
  rw [job_yes hJ hS.t0 hS.hb]
  walk_at "dd"
  refine ⟨rfl, rfl, ?_⟩
  walk_at "dd"
  refine ⟨_, _, rfl, ?_⟩
  walk_at "dd"
  refine ex_for ?_
  walk_at "dd"
  refine ⟨by show 4 ≤ sizeLine; decide, ?_⟩
  refine ⟨_, .inl rfl, ?_⟩
  refine ⟨fun i Γ _ => ∃ z6, Γ = [some (.adr scr), some (.adr B), z2, some (jobD J), some (.int J.ls.sum), some (.int J.hs.sum), z6, none, none, none], ⟨none, rfl⟩, ?_, ?_⟩
  · rintro i y Γ μ hy ⟨z6, rfl⟩
    obtain ⟨T, rfl⟩ : ∃ T : Int, y = .int T := by
      have hm := List.mem_of_getElem? hy
      simp only [List.mem_cons, List.not_mem_nil, or_false] at hm
      rcases hm with rfl | rfl | rfl | rfl <;> exact ⟨_, rfl⟩
    walk_at "dd"
    refine if_dec (fun c1 => ?_) fun c1 => ?_
    · walk_at "dd"
      refine if_dec (fun c2 => ?_) fun c2 => ?_
      · walk_at "dd"
        refine ⟨by show 1 ≤ sizeLine; decide, ?_⟩
        walk_at "dd"
        refine r2_catT (by show 4 ≤ sizeLine; decide) ?_
        walk_at "dd"
        refine ⟨{ J with t := T }, rfl, hJ.at c1 c2, ?_⟩
        walk_at "dd"
        exact ⟨_, rfl⟩
      · walk_at "dd"
        exact ⟨_, rfl⟩
    · walk_at "dd"
      exact ⟨_, rfl⟩
  rintro Γ μ ⟨z6, rfl⟩
  walk_at "dd"
  refine ex_for ?_
  walk_at "dd"
  refine ⟨8, rfl, by decide, by decide, ?_⟩
  refine ⟨fun i Γ _ => ∃ z2 z7, Γ = [some (.adr scr), some (.adr B), z2, some (jobD J), some (.int J.ls.sum), some (.int J.hs.sum), z6, z7, none, none], ⟨z2, none, rfl⟩, ?_, ?_⟩
  · rintro i y Γ μ hy ⟨z2, z7, rfl⟩
    walk_at "dd"
    refine ⟨40, by decide, by decide, ben_job hJ, fun d hok nn => ?_⟩
    walk_at "dd"
    refine ⟨41, hok, ?_⟩
    walk_at "dd"
    refine ⟨41, hok, ?_⟩
    walk_at "dd"
    refine ⟨rfl, rfl, ?_⟩
    walk_at "dd"
    exact ⟨_, _, rfl⟩
  rintro Γ μ ⟨z2, z7, rfl⟩
  show ExG _ _ _ _ _
  refine ex_seqI (fun Γ _ => ∃ z2 z7 z8, Γ = [some (.adr scr), some (.adr B), z2, some (jobD J), some (.int J.ls.sum), some (.int J.hs.sum), z6, z7, z8, none]) ?_ ?_
  · walk_at "dd"
    refine if_dec (fun c1 => ?_) fun c1 => ?_
    · walk_at "dd"
      refine if_dec (fun c2 => ?_) fun c2 => ?_
      · walk_at "dd"
        refine ⟨J, rfl, hJ, c1, c2, fun xs r hr hl hi hsu hv => ?_⟩
        walk_at "dd"
        refine ex_for ?_
        walk_at "dd"
        refine ⟨6, rfl, by decide, by decide, ?_⟩
        refine ⟨fun i Γ _ => ∃ z2 z7, Γ = [some (.adr scr), some (.adr B), z2, some (jobD J), some (.int J.ls.sum), some (.int J.hs.sum), z6, z7, some (.tup (xs.map .int)), none], ⟨z2, z7, rfl⟩, ?_, ?_⟩
        · rintro i y Γ μ hy ⟨z2, z7, rfl⟩
          have hn := hJ.n
          walk_at "dd"
          refine ⟨40, by decide, by decide, ben_ints (by omega) fun x hx => ?_, fun d hok nn => ?_⟩
          · have := deal_bd hJ hi hl x hx
            rw [e40]
            omega
          · walk_at "dd"
            refine ⟨J, 41, rfl, hJ, hok, ?_⟩
            walk_at "dd"
            refine ⟨J, 41, rfl, hJ, hok, ?_⟩
            walk_at "dd"
            refine ⟨rfl, rfl, ?_⟩
            walk_at "dd"
            exact ⟨_, _, rfl⟩
        · rintro Γ μ ⟨z2, z7, rfl⟩
          exact ⟨_, _, _, rfl⟩
      · walk_at "dd"
        exact ⟨_, _, _, rfl⟩
    · walk_at "dd"
      exact ⟨_, _, _, rfl⟩
  rintro Γ μ ⟨z2, z7, z8, rfl⟩
  walk_at "dd"
  refine ⟨by show 1 ≤ sizeLine; decide, ?_⟩
  walk_at "dd"
  refine r2_rep (by decide) (by decide) (by show 24 ≤ sizeLine; decide) ?_
  walk_at "dd"
  refine ⟨by show 1 ≤ sizeLine; decide, ?_⟩
  walk_at "dd"
  refine r2_rep (by decide) (by decide) (by show 24 ≤ sizeLine; decide) ?_
  walk_at "dd"
  refine ⟨by show 1 ≤ sizeLine; decide, ?_⟩
  walk_at "dd"
  refine r2_rep (by decide) (by decide) (by show 24 ≤ sizeLine; decide) ?_
  walk_at "dd"
  refine ⟨by show 4 ≤ sizeLine; decide, ?_⟩
  show AsG _ _ (jobD jFull) _ _ _
  walk_at "dd"
  refine ⟨jFull, rfl, full_ok, ?_⟩
  walk_at "dd"
  refine ⟨40, ok_job full_ok, ?_⟩
  rw [job_yes full_ok (by decide) fun x hx => by rw [(List.mem_replicate.mp hx).2]; decide]
  walk_at "dd"
  refine if_ndec (fun z => absurd rfl z) fun _ => ?_
  walk_at "dd"
  refine ⟨by show 1 ≤ sizeLine; decide, ?_⟩
  refine r2_catT (by show 25 ≤ sizeLine; decide) ?_
  walk_at "dd"
  refine ⟨by show 1 ≤ sizeLine; decide, ?_⟩
  refine r2_catT (by show 25 ≤ sizeLine; decide) ?_
  walk_at "dd"
  refine ⟨by show 1 ≤ sizeLine; decide, ?_⟩
  refine r2_catT (by show 25 ≤ sizeLine; decide) ?_
  walk_at "dd"
  refine ⟨by show 4 ≤ sizeLine; decide, ?_⟩
  walk_at "dd"
  refine ⟨40, over_ok, ?_⟩
  rw [over_no]
  walk_at "dd"
  refine if_ndec (fun z => absurd rfl z) fun _ => ?_
  walk_at "dd"
  refine ⟨8, rfl, by decide, by decide, fun v v0 v1 nn => ?_⟩
  walk_at "dd"
  refine if_dec (fun c => ?_) fun c => ?_
  · rfl
  · walk_at "dd"
    refine ⟨24, 1000000, rfl, rfl, by decide, by decide, by decide, by decide, fun J hJ hS nn => ?_⟩
    walk_at "dd"
    exact ⟨J, rfl, hJ, rfl⟩
end
/-! ### what the top has written -/
theorem walk_T {l : PySem.W.OpenLaw} {n k : Nat} {q : Program} {loose : List Str} {XP : (Str → Option Value) → Heap → Prop} {YP : World → Heap → Prop} {d : DefRec} {K : Params → PySem.W.Frag} {CX : World → CXT} {x : Str}
    (hn : l.most = some n) (hn2 : n ≤ sizeLine) (hdf : d.params.defaults = []) (hr : Room k callerA) (hY : ∀ (w : World) (h : Heap), YP w h → (K w.params).In h)
    (F : ∀ (w : World) (mg : Str → Option Value) (fa : Addr) (h : Heap), YP w h → (K w.params).In h → h.Ns mainGlobals mg → mg d.name = some (.ref fa) →
      (∀ (y : Str) (e : DefRec) (c P : Addr), (recsOf q).find? (fun e => e.name == y) = some e → PySem.W.tabIn (K w.params) y = some (c, P) → PySem.W.CodeHd h c P ∧ h.get? P = some { cls := .none, data := .fields #[] }) → LamX.LawAtS l w (K w.params) (CX w) k n x mg fa h)
    (hCX : ∀ (w : World) (H : Hp) (s : Shared) (e : Value) (s' : Shared), CX w [] H s (fun _ _ _ => False) e s' → False) :
    PySem.W.WalkO q loose XP YP l.row.toRowW d [] (fun f vs => PySem.call f vs) := by
  refine Att.attach_callB hn hdf fun w s₀ s₁ mg mb fa o pm cd doc a vs ns G Y ho hd hcd hmg hobj hints hlen hbits hg => ?_
  have KX := hY w _ Y
  obtain ⟨fd, cs, sp, hT, nT, C, hb, hsp, hF⟩ := F w mg fa _ Y KX G.T.g hmg fun y e c P h1 h2 => PySem.W.tab_of G.T KX h1 h2
  exact LamX.law_callTs KX G.T.g G.T.b G.T.builtins G.T.nolimit hg hT nT C G.T.bmain hobj hints (Nat.le_trans hlen hn2) hr hF hb (fun H hH hS => hsp H a ns hlen hbits hH hS) fun H e s' => hCX w H s₁ e s'
theorem tabIn_of {K : PySem.W.Frag} {x : Str} {f c P : Addr} {oc er : Value} {od dr : Option Addr} {fd : FuncData} {osl sr : Array (Option Value)} {vr : Array Value} (a : PySem.W.nsIn K mainGlobals x = some (some (.ref f))) (l : K.lookup f = some ⟨oc, od, .func fd, osl⟩) (hc : fd.code = .ref c) (r : K.lookup c = some ⟨er, dr, .fields vr, sr⟩) (s : vr[11]? = some (.ref P)) : PySem.W.tabIn K x = some (c, P) := by
  unfold PySem.W.tabIn
  simp only [a, l, hc, r, s]
theorem all_mk {l : PySem.W.OpenLaw} {w : World} {K : PySem.W.Frag} {h : Heap} {mg : Str → Option Value} {fa : Addr} {recs : Str → Option DefRec} (X : K.In h) (G : h.Ns mainGlobals mg) (hfa : mg "law" = some (.ref fa))
    (tb : ∀ (y : Str) (e : DefRec) (c P : Addr), recs y = some e → PySem.W.tabIn K y = some (c, P) → PySem.W.CodeHd h c P ∧ h.get? P = some { cls := .none, data := .fields #[] })
    {e1 : DefRec} (q1 : recs "is_ratio" = some e1) {e6 : DefRec} (q6 : recs "are_integers" = some e6) {e7 : DefRec} (q7 : recs "is_job" = some e7) {e8 : DefRec} (q8 : recs "is_dealing" = some e8)
    {f0 : Addr} {od0 an0 : Option Addr} {sl0 : Array (Option Value)} {oc0 kV0 dc0 pm0 cd0 ct0 : Value}
    (a0 : PySem.W.nsIn K mainGlobals "is_number" = some (some (.ref f0))) (l0 : K.lookup f0 = some ⟨oc0, od0, .func (PySem.W.fnOf "is_number" "is_number" (defArgs (topS 9)) (defBody (topS 9)) (defScope (topS 9)) .none kV0 dc0 pm0 an0 cd0 ct0), sl0⟩) (cc0 : PySem.W.codeIn K cd0 "is_number" = true) (k0 : PySem.W.keepIn K (.ref f0) = true)
    {f1 : Addr} {od1 an1 : Option Addr} {sl1 : Array (Option Value)} {oc1 kV1 dc1 pm1 ct1 : Value} {cg1 pg1 : Addr}
    (a1 : PySem.W.nsIn K mainGlobals "is_ratio" = some (some (.ref f1))) (l1 : K.lookup f1 = some ⟨oc1, od1, .func (PySem.W.fnOf "is_ratio" "is_ratio" (defArgs (topS 11)) (defBody (topS 11)) (defScope (topS 11)) .none kV1 dc1 pm1 an1 (.ref cg1) ct1), sl1⟩) (cc1 : PySem.W.codeIn K (.ref cg1) "is_ratio" = true) (k1 : PySem.W.keepIn K (.ref f1) = true)
    {er1 : Value} {dr1 : Option Addr} {vr1 : Array Value} {sr1 : Array (Option Value)} (r1 : K.lookup cg1 = some ⟨er1, dr1, .fields vr1, sr1⟩) (s1 : vr1[11]? = some (.ref pg1)) (u1 : K.lookup pg1 = none)
    {f2 : Addr} {od2 an2 : Option Addr} {sl2 : Array (Option Value)} {oc2 kV2 dc2 pm2 cd2 ct2 : Value}
    (a2 : PySem.W.nsIn K mainGlobals "ratio" = some (some (.ref f2))) (l2 : K.lookup f2 = some ⟨oc2, od2, .func (PySem.W.fnOf "ratio" "ratio" (defArgs (topS 12)) (defBody (topS 12)) (defScope (topS 12)) .none kV2 dc2 pm2 an2 cd2 ct2), sl2⟩) (cc2 : PySem.W.codeIn K cd2 "ratio" = true) (k2 : PySem.W.keepIn K (.ref f2) = true)
    {f3 : Addr} {od3 an3 : Option Addr} {sl3 : Array (Option Value)} {oc3 kV3 dc3 pm3 cd3 ct3 : Value}
    (a3 : PySem.W.nsIn K mainGlobals "less" = some (some (.ref f3))) (l3 : K.lookup f3 = some ⟨oc3, od3, .func (PySem.W.fnOf "less" "less" (defArgs (topS 13)) (defBody (topS 13)) (defScope (topS 13)) .none kV3 dc3 pm3 an3 cd3 ct3), sl3⟩) (cc3 : PySem.W.codeIn K cd3 "less" = true) (k3 : PySem.W.keepIn K (.ref f3) = true)
    {f4 : Addr} {od4 an4 : Option Addr} {sl4 : Array (Option Value)} {oc4 kV4 dc4 pm4 cd4 ct4 : Value}
    (a4 : PySem.W.nsIn K mainGlobals "floor_of" = some (some (.ref f4))) (l4 : K.lookup f4 = some ⟨oc4, od4, .func (PySem.W.fnOf "floor_of" "floor_of" (defArgs (topS 14)) (defBody (topS 14)) (defScope (topS 14)) .none kV4 dc4 pm4 an4 cd4 ct4), sl4⟩) (cc4 : PySem.W.codeIn K cd4 "floor_of" = true) (k4 : PySem.W.keepIn K (.ref f4) = true)
    {f5 : Addr} {od5 an5 : Option Addr} {sl5 : Array (Option Value)} {oc5 kV5 dc5 pm5 cd5 ct5 : Value}
    (a5 : PySem.W.nsIn K mainGlobals "ceil_of" = some (some (.ref f5))) (l5 : K.lookup f5 = some ⟨oc5, od5, .func (PySem.W.fnOf "ceil_of" "ceil_of" (defArgs (topS 15)) (defBody (topS 15)) (defScope (topS 15)) .none kV5 dc5 pm5 an5 cd5 ct5), sl5⟩) (cc5 : PySem.W.codeIn K cd5 "ceil_of" = true) (k5 : PySem.W.keepIn K (.ref f5) = true)
    {f6 : Addr} {od6 an6 : Option Addr} {sl6 : Array (Option Value)} {oc6 kV6 dc6 pm6 ct6 : Value} {cg6 pg6 : Addr}
    (a6 : PySem.W.nsIn K mainGlobals "are_integers" = some (some (.ref f6))) (l6 : K.lookup f6 = some ⟨oc6, od6, .func (PySem.W.fnOf "are_integers" "are_integers" (defArgs (topS 19)) (defBody (topS 19)) (defScope (topS 19)) .none kV6 dc6 pm6 an6 (.ref cg6) ct6), sl6⟩) (cc6 : PySem.W.codeIn K (.ref cg6) "are_integers" = true) (k6 : PySem.W.keepIn K (.ref f6) = true)
    {er6 : Value} {dr6 : Option Addr} {vr6 : Array Value} {sr6 : Array (Option Value)} (r6 : K.lookup cg6 = some ⟨er6, dr6, .fields vr6, sr6⟩) (s6 : vr6[11]? = some (.ref pg6)) (u6 : K.lookup pg6 = none)
    {f7 : Addr} {od7 an7 : Option Addr} {sl7 : Array (Option Value)} {oc7 kV7 dc7 pm7 ct7 : Value} {cg7 pg7 : Addr}
    (a7 : PySem.W.nsIn K mainGlobals "is_job" = some (some (.ref f7))) (l7 : K.lookup f7 = some ⟨oc7, od7, .func (PySem.W.fnOf "is_job" "is_job" (defArgs (topS 20)) (defBody (topS 20)) (defScope (topS 20)) .none kV7 dc7 pm7 an7 (.ref cg7) ct7), sl7⟩) (cc7 : PySem.W.codeIn K (.ref cg7) "is_job" = true) (k7 : PySem.W.keepIn K (.ref f7) = true)
    {er7 : Value} {dr7 : Option Addr} {vr7 : Array Value} {sr7 : Array (Option Value)} (r7 : K.lookup cg7 = some ⟨er7, dr7, .fields vr7, sr7⟩) (s7 : vr7[11]? = some (.ref pg7)) (u7 : K.lookup pg7 = none)
    {f8 : Addr} {od8 an8 : Option Addr} {sl8 : Array (Option Value)} {oc8 kV8 dc8 pm8 ct8 : Value} {cg8 pg8 : Addr}
    (a8 : PySem.W.nsIn K mainGlobals "is_dealing" = some (some (.ref f8))) (l8 : K.lookup f8 = some ⟨oc8, od8, .func (PySem.W.fnOf "is_dealing" "is_dealing" (defArgs (topS 21)) (defBody (topS 21)) (defScope (topS 21)) .none kV8 dc8 pm8 an8 (.ref cg8) ct8), sl8⟩) (cc8 : PySem.W.codeIn K (.ref cg8) "is_dealing" = true) (k8 : PySem.W.keepIn K (.ref f8) = true)
    {er8 : Value} {dr8 : Option Addr} {vr8 : Array Value} {sr8 : Array (Option Value)} (r8 : K.lookup cg8 = some ⟨er8, dr8, .fields vr8, sr8⟩) (s8 : vr8[11]? = some (.ref pg8)) (u8 : K.lookup pg8 = none)
    {f9 : Addr} {od9 an9 : Option Addr} {sl9 : Array (Option Value)} {oc9 kV9 dc9 pm9 cd9 ct9 : Value}
    (a9 : PySem.W.nsIn K mainGlobals "is_level" = some (some (.ref f9))) (l9 : K.lookup f9 = some ⟨oc9, od9, .func (PySem.W.fnOf "is_level" "is_level" (defArgs (topS 22)) (defBody (topS 22)) (defScope (topS 22)) .none kV9 dc9 pm9 an9 cd9 ct9), sl9⟩) (cc9 : PySem.W.codeIn K cd9 "is_level" = true) (k9 : PySem.W.keepIn K (.ref f9) = true)
    {f10 : Addr} {od10 an10 : Option Addr} {sl10 : Array (Option Value)} {oc10 kV10 dc10 pm10 cd10 ct10 : Value}
    (a10 : PySem.W.nsIn K mainGlobals "part_at" = some (some (.ref f10))) (l10 : K.lookup f10 = some ⟨oc10, od10, .func (PySem.W.fnOf "part_at" "part_at" (defArgs (topS 23)) (defBody (topS 23)) (defScope (topS 23)) .none kV10 dc10 pm10 an10 cd10 ct10), sl10⟩) (cc10 : PySem.W.codeIn K cd10 "part_at" = true) (k10 : PySem.W.keepIn K (.ref f10) = true)
    {f11 : Addr} {od11 an11 : Option Addr} {sl11 : Array (Option Value)} {oc11 kV11 dc11 pm11 cd11 ct11 : Value}
    (a11 : PySem.W.nsIn K mainGlobals "most_at" = some (some (.ref f11))) (l11 : K.lookup f11 = some ⟨oc11, od11, .func (PySem.W.fnOf "most_at" "most_at" (defArgs (topS 24)) (defBody (topS 24)) (defScope (topS 24)) .none kV11 dc11 pm11 an11 cd11 ct11), sl11⟩) (cc11 : PySem.W.codeIn K cd11 "most_at" = true) (k11 : PySem.W.keepIn K (.ref f11) = true)
    {f12 : Addr} {od12 an12 : Option Addr} {sl12 : Array (Option Value)} {oc12 kV12 dc12 pm12 cd12 ct12 : Value}
    (a12 : PySem.W.nsIn K mainGlobals "parts_at" = some (some (.ref f12))) (l12 : K.lookup f12 = some ⟨oc12, od12, .func (PySem.W.fnOf "parts_at" "parts_at" (defArgs (topS 25)) (defBody (topS 25)) (defScope (topS 25)) .none kV12 dc12 pm12 an12 cd12 ct12), sl12⟩) (cc12 : PySem.W.codeIn K cd12 "parts_at" = true) (k12 : PySem.W.keepIn K (.ref f12) = true)
    {f13 : Addr} {od13 an13 : Option Addr} {sl13 : Array (Option Value)} {oc13 kV13 dc13 pm13 cd13 ct13 : Value}
    (a13 : PySem.W.nsIn K mainGlobals "first_level" = some (some (.ref f13))) (l13 : K.lookup f13 = some ⟨oc13, od13, .func (PySem.W.fnOf "first_level" "first_level" (defArgs (topS 26)) (defBody (topS 26)) (defScope (topS 26)) .none kV13 dc13 pm13 an13 cd13 ct13), sl13⟩) (cc13 : PySem.W.codeIn K cd13 "first_level" = true) (k13 : PySem.W.keepIn K (.ref f13) = true)
    {f14 : Addr} {od14 an14 : Option Addr} {sl14 : Array (Option Value)} {oc14 kV14 dc14 pm14 cd14 ct14 : Value}
    (a14 : PySem.W.nsIn K mainGlobals "dealt" = some (some (.ref f14))) (l14 : K.lookup f14 = some ⟨oc14, od14, .func (PySem.W.fnOf "dealt" "dealt" (defArgs (topS 27)) (defBody (topS 27)) (defScope (topS 27)) .none kV14 dc14 pm14 an14 cd14 ct14), sl14⟩) (cc14 : PySem.W.codeIn K cd14 "dealt" = true) (k14 : PySem.W.keepIn K (.ref f14) = true)
    {f15 : Addr} {od15 an15 : Option Addr} {sl15 : Array (Option Value)} {oc15 kV15 dc15 pm15 cd15 ct15 : Value}
    (a15 : PySem.W.nsIn K mainGlobals "_law_box" = some (some (.ref f15))) (l15 : K.lookup f15 = some ⟨oc15, od15, .func (PySem.W.fnOf "_law_box" "_law_box" (defArgs (topS 29)) (defBody (topS 29)) (defScope (topS 29)) .none kV15 dc15 pm15 an15 cd15 ct15), sl15⟩) (cc15 : PySem.W.codeIn K cd15 "_law_box" = true) (k15 : PySem.W.keepIn K (.ref f15) = true)
    {f16 : Addr} {od16 an16 : Option Addr} {sl16 : Array (Option Value)} {oc16 kV16 dc16 pm16 cd16 ct16 : Value}
    (a16 : PySem.W.nsIn K mainGlobals "_law_load" = some (some (.ref f16))) (l16 : K.lookup f16 = some ⟨oc16, od16, .func (PySem.W.fnOf "_law_load" "_law_load" (defArgs (topS 30)) (defBody (topS 30)) (defScope (topS 30)) .none kV16 dc16 pm16 an16 cd16 ct16), sl16⟩) (cc16 : PySem.W.codeIn K cd16 "_law_load" = true) (k16 : PySem.W.keepIn K (.ref f16) = true)
    {f17 : Addr} {od17 an17 : Option Addr} {sl17 : Array (Option Value)} {oc17 kV17 dc17 pm17 cd17 ct17 : Value}
    (a17 : PySem.W.nsIn K mainGlobals "_law_draw" = some (some (.ref f17))) (l17 : K.lookup f17 = some ⟨oc17, od17, .func (PySem.W.fnOf "_law_draw" "_law_draw" (defArgs (topS 31)) (defBody (topS 31)) (defScope (topS 31)) .none kV17 dc17 pm17 an17 cd17 ct17), sl17⟩) (cc17 : PySem.W.codeIn K cd17 "_law_draw" = true) (k17 : PySem.W.keepIn K (.ref f17) = true)
    {f18 : Addr} {od18 an18 : Option Addr} {sl18 : Array (Option Value)} {oc18 kV18 dc18 pm18 cd18 ct18 : Value}
    (a18 : PySem.W.nsIn K mainGlobals "_law_same" = some (some (.ref f18))) (l18 : K.lookup f18 = some ⟨oc18, od18, .func (PySem.W.fnOf "_law_same" "_law_same" (defArgs (topS 32)) (defBody (topS 32)) (defScope (topS 32)) .none kV18 dc18 pm18 an18 cd18 ct18), sl18⟩) (cc18 : PySem.W.codeIn K cd18 "_law_same" = true) (k18 : PySem.W.keepIn K (.ref f18) = true)
    {f19 : Addr} {od19 an19 : Option Addr} {sl19 : Array (Option Value)} {oc19 kV19 dc19 pm19 cd19 ct19 : Value}
    (a19 : PySem.W.nsIn K mainGlobals "_law_bent" = some (some (.ref f19))) (l19 : K.lookup f19 = some ⟨oc19, od19, .func (PySem.W.fnOf "_law_bent" "_law_bent" (defArgs (topS 33)) (defBody (topS 33)) (defScope (topS 33)) .none kV19 dc19 pm19 an19 cd19 ct19), sl19⟩) (cc19 : PySem.W.codeIn K cd19 "_law_bent" = true) (k19 : PySem.W.keepIn K (.ref f19) = true)
    {f20 : Addr} {od20 an20 : Option Addr} {sl20 : Array (Option Value)} {oc20 kV20 dc20 pm20 cd20 ct20 : Value}
    (a20 : PySem.W.nsIn K mainGlobals "_law_common" = some (some (.ref f20))) (l20 : K.lookup f20 = some ⟨oc20, od20, .func (PySem.W.fnOf "_law_common" "_law_common" (defArgs (topS 34)) (defBody (topS 34)) (defScope (topS 34)) .none kV20 dc20 pm20 an20 cd20 ct20), sl20⟩) (cc20 : PySem.W.codeIn K cd20 "_law_common" = true) (k20 : PySem.W.keepIn K (.ref f20) = true)
    {f21 : Addr} {od21 an21 : Option Addr} {sl21 : Array (Option Value)} {oc21 kV21 dc21 pm21 cd21 ct21 : Value}
    (a21 : PySem.W.nsIn K mainGlobals "_law_whole" = some (some (.ref f21))) (l21 : K.lookup f21 = some ⟨oc21, od21, .func (PySem.W.fnOf "_law_whole" "_law_whole" (defArgs (topS 35)) (defBody (topS 35)) (defScope (topS 35)) .none kV21 dc21 pm21 an21 cd21 ct21), sl21⟩) (cc21 : PySem.W.codeIn K cd21 "_law_whole" = true) (k21 : PySem.W.keepIn K (.ref f21) = true)
    {f22 : Addr} {od22 an22 : Option Addr} {sl22 : Array (Option Value)} {oc22 kV22 dc22 pm22 cd22 ct22 : Value}
    (a22 : PySem.W.nsIn K mainGlobals "_law_row" = some (some (.ref f22))) (l22 : K.lookup f22 = some ⟨oc22, od22, .func (PySem.W.fnOf "_law_row" "_law_row" (defArgs (topS 36)) (defBody (topS 36)) (defScope (topS 36)) .none kV22 dc22 pm22 an22 cd22 ct22), sl22⟩) (cc22 : PySem.W.codeIn K cd22 "_law_row" = true) (k22 : PySem.W.keepIn K (.ref f22) = true)
    {f23 : Addr} {od23 an23 : Option Addr} {sl23 : Array (Option Value)} {oc23 kV23 dc23 pm23 cd23 ct23 : Value}
    (a23 : PySem.W.nsIn K mainGlobals "_law_job_due" = some (some (.ref f23))) (l23 : K.lookup f23 = some ⟨oc23, od23, .func (PySem.W.fnOf "_law_job_due" "_law_job_due" (defArgs (topS 37)) (defBody (topS 37)) (defScope (topS 37)) .none kV23 dc23 pm23 an23 cd23 ct23), sl23⟩) (cc23 : PySem.W.codeIn K cd23 "_law_job_due" = true) (k23 : PySem.W.keepIn K (.ref f23) = true)
    {f24 : Addr} {od24 an24 : Option Addr} {sl24 : Array (Option Value)} {oc24 kV24 dc24 pm24 cd24 ct24 : Value}
    (a24 : PySem.W.nsIn K mainGlobals "_law_dealing_due" = some (some (.ref f24))) (l24 : K.lookup f24 = some ⟨oc24, od24, .func (PySem.W.fnOf "_law_dealing_due" "_law_dealing_due" (defArgs (topS 38)) (defBody (topS 38)) (defScope (topS 38)) .none kV24 dc24 pm24 an24 cd24 ct24), sl24⟩) (cc24 : PySem.W.codeIn K cd24 "_law_dealing_due" = true) (k24 : PySem.W.keepIn K (.ref f24) = true)
    {f25 : Addr} {od25 an25 : Option Addr} {sl25 : Array (Option Value)} {oc25 kV25 dc25 pm25 cd25 ct25 : Value}
    (a25 : PySem.W.nsIn K mainGlobals "_law_level_due" = some (some (.ref f25))) (l25 : K.lookup f25 = some ⟨oc25, od25, .func (PySem.W.fnOf "_law_level_due" "_law_level_due" (defArgs (topS 39)) (defBody (topS 39)) (defScope (topS 39)) .none kV25 dc25 pm25 an25 cd25 ct25), sl25⟩) (cc25 : PySem.W.codeIn K cd25 "_law_level_due" = true) (k25 : PySem.W.keepIn K (.ref f25) = true)
    {f26 : Addr} {od26 an26 : Option Addr} {sl26 : Array (Option Value)} {oc26 kV26 dc26 pm26 cd26 ct26 : Value}
    (a26 : PySem.W.nsIn K mainGlobals "_law_job" = some (some (.ref f26))) (l26 : K.lookup f26 = some ⟨oc26, od26, .func (PySem.W.fnOf "_law_job" "_law_job" (defArgs (topS 40)) (defBody (topS 40)) (defScope (topS 40)) .none kV26 dc26 pm26 an26 cd26 ct26), sl26⟩) (cc26 : PySem.W.codeIn K cd26 "_law_job" = true) (k26 : PySem.W.keepIn K (.ref f26) = true)
    {f27 : Addr} {od27 an27 : Option Addr} {sl27 : Array (Option Value)} {oc27 kV27 dc27 pm27 cd27 ct27 : Value}
    (a27 : PySem.W.nsIn K mainGlobals "_law_refused" = some (some (.ref f27))) (l27 : K.lookup f27 = some ⟨oc27, od27, .func (PySem.W.fnOf "_law_refused" "_law_refused" (defArgs (topS 41)) (defBody (topS 41)) (defScope (topS 41)) .none kV27 dc27 pm27 an27 cd27 ct27), sl27⟩) (cc27 : PySem.W.codeIn K cd27 "_law_refused" = true) (k27 : PySem.W.keepIn K (.ref f27) = true)
    {f28 : Addr} {od28 an28 : Option Addr} {sl28 : Array (Option Value)} {oc28 kV28 dc28 pm28 cd28 ct28 : Value}
    (a28 : PySem.W.nsIn K mainGlobals "_law_fine" = some (some (.ref f28))) (l28 : K.lookup f28 = some ⟨oc28, od28, .func (PySem.W.fnOf "_law_fine" "_law_fine" (defArgs (topS 42)) (defBody (topS 42)) (defScope (topS 42)) .none kV28 dc28 pm28 an28 cd28 ct28), sl28⟩) (cc28 : PySem.W.codeIn K cd28 "_law_fine" = true) (k28 : PySem.W.keepIn K (.ref f28) = true)
    {f29 : Addr} {od29 an29 : Option Addr} {sl29 : Array (Option Value)} {oc29 kV29 dc29 pm29 cd29 ct29 : Value}
    (a29 : PySem.W.nsIn K mainGlobals "_law_dealings" = some (some (.ref f29))) (l29 : K.lookup f29 = some ⟨oc29, od29, .func (PySem.W.fnOf "_law_dealings" "_law_dealings" (defArgs (topS 43)) (defBody (topS 43)) (defScope (topS 43)) .none kV29 dc29 pm29 an29 cd29 ct29), sl29⟩) (cc29 : PySem.W.codeIn K cd29 "_law_dealings" = true) (k29 : PySem.W.keepIn K (.ref f29) = true)
    {f30 : Addr} {od30 an30 : Option Addr} {sl30 : Array (Option Value)} {oc30 kV30 dc30 pm30 cd30 ct30 : Value}
    (a30 : PySem.W.nsIn K mainGlobals "_law_squares" = some (some (.ref f30))) (l30 : K.lookup f30 = some ⟨oc30, od30, .func (PySem.W.fnOf "_law_squares" "_law_squares" (defArgs (topS 44)) (defBody (topS 44)) (defScope (topS 44)) .none kV30 dc30 pm30 an30 cd30 ct30), sl30⟩) (cc30 : PySem.W.codeIn K cd30 "_law_squares" = true) (k30 : PySem.W.keepIn K (.ref f30) = true)
    {f31 : Addr} {od31 an31 : Option Addr} {sl31 : Array (Option Value)} {oc31 kV31 dc31 pm31 cd31 ct31 : Value}
    (a31 : PySem.W.nsIn K mainGlobals "_law_small_fine" = some (some (.ref f31))) (l31 : K.lookup f31 = some ⟨oc31, od31, .func (PySem.W.fnOf "_law_small_fine" "_law_small_fine" (defArgs (topS 45)) (defBody (topS 45)) (defScope (topS 45)) .none kV31 dc31 pm31 an31 cd31 ct31), sl31⟩) (cc31 : PySem.W.codeIn K cd31 "_law_small_fine" = true) (k31 : PySem.W.keepIn K (.ref f31) = true)
    {f32 : Addr} {od32 an32 : Option Addr} {sl32 : Array (Option Value)} {oc32 kV32 dc32 pm32 cd32 ct32 : Value}
    (a32 : PySem.W.nsIn K mainGlobals "law" = some (some (.ref f32))) (l32 : K.lookup f32 = some ⟨oc32, od32, .func (PySem.W.fnOf "law" "law" (defArgs (topS 46)) (defBody (topS 46)) (defScope (topS 46)) .none kV32 dc32 pm32 an32 cd32 ct32), sl32⟩) (cc32 : PySem.W.codeIn K cd32 "law" = true) (k32 : PySem.W.keepIn K (.ref f32) = true)
    {t_MAX_SUM : Tok} (x_MAX_SUM : PySem.W.nsIn K mainGlobals "MAX_SUM" = some (some (.int 1000000000 t_MAX_SUM)))
    {t_MAX_CLAIMS : Tok} (x_MAX_CLAIMS : PySem.W.nsIn K mainGlobals "MAX_CLAIMS" = some (some (.int 24 t_MAX_CLAIMS)))
    (x_gcd : PySem.W.nsIn K mainGlobals "gcd" = some (some (.builtin "math.gcd")))
    (z_isinstance : PySem.W.nsIn K mainGlobals "isinstance" = some none)
    (z_len : PySem.W.nsIn K mainGlobals "len" = some none)
    (z_all : PySem.W.nsIn K mainGlobals "all" = some none)
    (z_any : PySem.W.nsIn K mainGlobals "any" = some none)
    (z_sum : PySem.W.nsIn K mainGlobals "sum" = some none)
    (z_min : PySem.W.nsIn K mainGlobals "min" = some none)
    (z_max : PySem.W.nsIn K mainGlobals "max" = some none)
    (z_abs : PySem.W.nsIn K mainGlobals "abs" = some none)
    (z_sorted : PySem.W.nsIn K mainGlobals "sorted" = some none)
    (z_tuple : PySem.W.nsIn K mainGlobals "tuple" = some none)
    (z_list : PySem.W.nsIn K mainGlobals "list" = some none)
    (z_int : PySem.W.nsIn K mainGlobals "int" = some none)
    (z_bool : PySem.W.nsIn K mainGlobals "bool" = some none)
    (z_str : PySem.W.nsIn K mainGlobals "str" = some none)
    (z_range : PySem.W.nsIn K mainGlobals "range" = some none)
    (z_zip : PySem.W.nsIn K mainGlobals "zip" = some none)
    {eC e1 e2 e3 e4 : Addr} (w_neC : PySem.W.nsIn K mainGlobals "NoAnswer" = some (some (.ref eC))) (w_ne1 : PySem.W.nsIn K mainGlobals "BadText" = some (some (.ref e1))) (w_ne2 : PySem.W.nsIn K mainGlobals "NotAllowed" = some (some (.ref e2))) (w_ne3 : PySem.W.nsIn K mainGlobals "NotPossible" = some (some (.ref e3))) (w_ne4 : PySem.W.nsIn K mainGlobals "TooMany" = some (some (.ref e4))) (w_q : PySem.W.excIn K eC [.type "ValueError", .type "Exception", .type "BaseException", .type "object"] "ValueError.__new__" = true) (w_k : PySem.W.keepIn K (.ref eC) = true) (w_sb : PySem.W.subIn K (.ref eC) (.type "BaseException") = some true) (w_ty : PySem.W.typeIn K (.ref eC) = some (.type "type")) (w_hg : PySem.W.findIn K (.ref eC) "__getattribute__" = some (some (.builtin "BaseException.__getattribute__"))) (w_hk : PySem.W.findIn K (.ref eC) "__getattr__" = some none) (w_hd : PySem.W.hasDictIn K eC = true) (w_ha : PySem.W.findIn K (.ref eC) "__class__" = some (some (.builtin "object.__class__"))) (w_hn : PySem.W.specialIn K (.builtin "object.__class__") "__get__" = some (some (.builtin "getset_descriptor.__get__"))) (w_ht : PySem.W.takesIn K (.builtin "object.__class__") = some true) (w_hm : PySem.W.mroIn K eC (.type "object") = some true) (w_ss : PySem.W.subIn K (.ref eC) (.ref eC) = some true) (w_no : PySem.W.kitAny K (.ref eC) [.ref e1, .ref e2, .ref e3, .ref e4] = some false) :
    LamX.LawAtS l w K (fun _ _ _ _ _ _ => False) 9 63 "script" mg fa h := by
  have e := hfa.symm.trans (PySem.W.mg_of X G a32)
  cases e
  have MG : Mg mg := ⟨PySem.W.mg_none_of X G z_isinstance, PySem.W.mg_none_of X G z_len, PySem.W.mg_none_of X G z_all, PySem.W.mg_none_of X G z_any, PySem.W.mg_none_of X G z_sum, PySem.W.mg_none_of X G z_min, PySem.W.mg_none_of X G z_max, PySem.W.mg_none_of X G z_abs, PySem.W.mg_none_of X G z_sorted, PySem.W.mg_none_of X G z_tuple, PySem.W.mg_none_of X G z_list, PySem.W.mg_none_of X G z_int, PySem.W.mg_none_of X G z_bool, PySem.W.mg_none_of X G z_str, PySem.W.mg_none_of X G z_range, PySem.W.mg_none_of X G z_zip⟩
  have hT1 := tb _ _ _ _ q1 (tabIn_of a1 l1 rfl r1 s1)
  have hT6 := tb _ _ _ _ q6 (tabIn_of a6 l6 rfl r6 s6)
  have hT7 := tb _ _ _ _ q7 (tabIn_of a7 l7 rfl r7 s7)
  have hT8 := tb _ _ _ _ q8 (tabIn_of a8 l8 rfl r8 s8)
  have inP : ∀ {p : Addr × Addr} {R : Addr × Addr → Prop}, R (cg1, pg1) → R (cg6, pg6) → R (cg7, pg7) → R (cg8, pg8) → p ∈ ([(cg1, pg1), (cg6, pg6), (cg7, pg7), (cg8, pg8)] : List (Addr × Addr)) → R p := by
    intro p R h1 h6 h7 h8 hp
    simp only [List.mem_cons, List.not_mem_nil, or_false] at hp
    rcases hp with rfl | rfl | rfl | rfl
    · exact h1
    · exact h6
    · exact h7
    · exact h8
  have F0 := fun_mk (st := topS 9) l0 cc0 k0
  have b0 := F0.binds (ps := ["value", "least", "most"]) fun _ _ _ _ _ _ us hl => match us, hl with | [_, _, _], _ => rfl
  have F1 := fun_mk (st := topS 11) l1 cc1 k1
  have b1 := F1.binds (ps := ["value"]) fun _ _ _ _ _ _ us hl => match us, hl with | [_], _ => rfl
  have F2 := fun_mk (st := topS 12) l2 cc2 k2
  have b2 := F2.binds (ps := ["p", "q"]) fun _ _ _ _ _ _ us hl => match us, hl with | [_, _], _ => rfl
  have F3 := fun_mk (st := topS 13) l3 cc3 k3
  have b3 := F3.binds (ps := ["a", "b"]) fun _ _ _ _ _ _ us hl => match us, hl with | [_, _], _ => rfl
  have F4 := fun_mk (st := topS 14) l4 cc4 k4
  have b4 := F4.binds (ps := ["a"]) fun _ _ _ _ _ _ us hl => match us, hl with | [_], _ => rfl
  have F5 := fun_mk (st := topS 15) l5 cc5 k5
  have b5 := F5.binds (ps := ["a"]) fun _ _ _ _ _ _ us hl => match us, hl with | [_], _ => rfl
  have F6 := fun_mk (st := topS 19) l6 cc6 k6
  have b6 := F6.binds (ps := ["value", "least"]) fun _ _ _ _ _ _ us hl => match us, hl with | [_, _], _ => rfl
  have F7 := fun_mk (st := topS 20) l7 cc7 k7
  have b7 := F7.binds (ps := ["value"]) fun _ _ _ _ _ _ us hl => match us, hl with | [_], _ => rfl
  have F8 := fun_mk (st := topS 21) l8 cc8 k8
  have b8 := F8.binds (ps := ["job", "value"]) fun _ _ _ _ _ _ us hl => match us, hl with | [_, _], _ => rfl
  have F9 := fun_mk (st := topS 22) l9 cc9 k9
  have b9 := F9.binds (ps := ["job", "dealing", "value"]) fun _ _ _ _ _ _ us hl => match us, hl with | [_, _, _], _ => rfl
  have F10 := fun_mk (st := topS 23) l10 cc10 k10
  have b10 := F10.binds (ps := ["level", "weight", "low", "high"]) fun _ _ _ _ _ _ us hl => match us, hl with | [_, _, _, _], _ => rfl
  have F11 := fun_mk (st := topS 24) l11 cc11 k11
  have b11 := F11.binds (ps := ["level", "weight", "low", "high"]) fun _ _ _ _ _ _ us hl => match us, hl with | [_, _, _, _], _ => rfl
  have F12 := fun_mk (st := topS 25) l12 cc12 k12
  have b12 := F12.binds (ps := ["job", "level", "part"]) fun _ _ _ _ _ _ us hl => match us, hl with | [_, _, _], _ => rfl
  have F13 := fun_mk (st := topS 26) l13 cc13 k13
  have b13 := F13.binds (ps := ["job"]) fun _ _ _ _ _ _ us hl => match us, hl with | [_], _ => rfl
  have F14 := fun_mk (st := topS 27) l14 cc14 k14
  have b14 := F14.binds (ps := ["job"]) fun _ _ _ _ _ _ us hl => match us, hl with | [_], _ => rfl
  have F15 := fun_mk (st := topS 29) l15 cc15 k15
  have b15 := F15.binds (ps := ["script"]) fun _ _ _ _ _ _ us hl => match us, hl with | [_], _ => rfl
  have F16 := fun_mk (st := topS 30) l16 cc16 k16
  have b16 := F16.binds (ps := ["box"]) fun _ _ _ _ _ _ us hl => match us, hl with | [_], _ => rfl
  have F17 := fun_mk (st := topS 31) l17 cc17 k17
  have b17 := F17.binds (ps := ["box", "many"]) fun _ _ _ _ _ _ us hl => match us, hl with | [_, _], _ => rfl
  have F18 := fun_mk (st := topS 32) l18 cc18 k18
  have b18 := F18.binds (ps := ["a", "b"]) fun _ _ _ _ _ _ us hl => match us, hl with | [_, _], _ => rfl
  have F19 := fun_mk (st := topS 33) l19 cc19 k19
  have b19 := F19.binds (ps := ["box", "value"]) fun _ _ _ _ _ _ us hl => match us, hl with | [_, _], _ => rfl
  have F20 := fun_mk (st := topS 34) l20 cc20 k20
  have b20 := F20.binds (ps := ["a", "b"]) fun _ _ _ _ _ _ us hl => match us, hl with | [_, _], _ => rfl
  have F21 := fun_mk (st := topS 35) l21 cc21 k21
  have b21 := F21.binds (ps := ["value", "low", "high"]) fun _ _ _ _ _ _ us hl => match us, hl with | [_, _, _], _ => rfl
  have F22 := fun_mk (st := topS 36) l22 cc22 k22
  have b22 := F22.binds (ps := ["value", "least"]) fun _ _ _ _ _ _ us hl => match us, hl with | [_, _], _ => rfl
  have F23 := fun_mk (st := topS 37) l23 cc23 k23
  have b23 := F23.binds (ps := ["value"]) fun _ _ _ _ _ _ us hl => match us, hl with | [_], _ => rfl
  have F24 := fun_mk (st := topS 38) l24 cc24 k24
  have b24 := F24.binds (ps := ["job", "value"]) fun _ _ _ _ _ _ us hl => match us, hl with | [_, _], _ => rfl
  have F25 := fun_mk (st := topS 39) l25 cc25 k25
  have b25 := F25.binds (ps := ["job", "dealing", "value"]) fun _ _ _ _ _ _ us hl => match us, hl with | [_, _, _], _ => rfl
  have F26 := fun_mk (st := topS 40) l26 cc26 k26
  have b26 := F26.binds (ps := ["box", "many", "top"]) fun _ _ _ _ _ _ us hl => match us, hl with | [_, _, _], _ => rfl
  have F27 := fun_mk (st := topS 41) l27 cc27 k27
  have b27 := F27.binds (ps := ["job"]) fun _ _ _ _ _ _ us hl => match us, hl with | [_], _ => rfl
  have F28 := fun_mk (st := topS 42) l28 cc28 k28
  have b28 := F28.binds (ps := ["job"]) fun _ _ _ _ _ _ us hl => match us, hl with | [_], _ => rfl
  have F29 := fun_mk (st := topS 43) l29 cc29 k29
  have b29 := F29.binds (ps := ["job"]) fun _ _ _ _ _ _ us hl => match us, hl with | [_], _ => rfl
  have F30 := fun_mk (st := topS 44) l30 cc30 k30
  have b30 := F30.binds (ps := ["job", "told"]) fun _ _ _ _ _ _ us hl => match us, hl with | [_, _], _ => rfl
  have F31 := fun_mk (st := topS 45) l31 cc31 k31
  have b31 := F31.binds (ps := ["box"]) fun _ _ _ _ _ _ us hl => match us, hl with | [_], _ => rfl
  have F32 := fun_mk (st := topS 46) l32 cc32 k32
  have b32 := F32.binds (ps := ["script"]) fun _ _ _ _ _ _ us hl => match us, hl with | [_], _ => rfl
  refine ⟨PySem.W.fnOf "law" "law" (defArgs (topS 46)) (defBody (topS 46)) (defScope (topS 46)) .none kV32 dc32 pm32 an32 cd32 ct32, [(cg1, pg1), (cg6, pg6), (cg7, pg7), (cg8, pg8)], spLaw K ([(cg1, pg1), (cg6, pg6), (cg7, pg7), (cg8, pg8)].map fun p : Addr × Addr => p.2), fun p hp => ?_, fun p hp => ?_, fun p hp => ?_, fun s v => .of_eq rfl, fun H a ns _ _ hH hS => ⟨a, ns, rfl, hS, fun P hP => ?_, fun _ => rfl⟩, fun base hK hN hTB => ?_⟩
  · exact inP (R := fun p => h.get? p.2 = some { cls := .none, data := .fields #[] }) hT1.2 hT6.2 hT7.2 hT8.2 hp
  · exact inP (R := fun p => K.lookup p.2 = none) u1 u6 u7 u8 hp
  · exact inP (R := fun p => PySem.W.CodeHd h p.1 p.2) hT1.1 hT6.1 hT7.1 hT8.1 hp
  · obtain ⟨p, hp, rfl⟩ := List.mem_map.mp hP
    exact ⟨#[], hH p hp, tabNil⟩
  · have tabs_in : ∀ p ∈ ([(cg1, pg1), (cg6, pg6), (cg7, pg7), (cg8, pg8)] : List (Addr × Addr)), p.2 ∈ ([(cg1, pg1), (cg6, pg6), (cg7, pg7), (cg8, pg8)].map fun p : Addr × Addr => p.2) := fun p hp => List.mem_map_of_mem hp
    have m1 : (cg1, pg1) ∈ ([(cg1, pg1), (cg6, pg6), (cg7, pg7), (cg8, pg8)] : List (Addr × Addr)) := by simp
    have T1 : TabB base mg cg1 pg1 := ⟨(hTB _ m1).code, (hTB _ m1).bm, (hTB _ m1).gP⟩
    have m6 : (cg6, pg6) ∈ ([(cg1, pg1), (cg6, pg6), (cg7, pg7), (cg8, pg8)] : List (Addr × Addr)) := by simp
    have T6 : TabB base mg cg6 pg6 := ⟨(hTB _ m6).code, (hTB _ m6).bm, (hTB _ m6).gP⟩
    have m7 : (cg7, pg7) ∈ ([(cg1, pg1), (cg6, pg6), (cg7, pg7), (cg8, pg8)] : List (Addr × Addr)) := by simp
    have T7 : TabB base mg cg7 pg7 := ⟨(hTB _ m7).code, (hTB _ m7).bm, (hTB _ m7).gP⟩
    have m8 : (cg8, pg8) ∈ ([(cg1, pg1), (cg6, pg6), (cg7, pg7), (cg8, pg8)] : List (Addr × Addr)) := by simp
    have T8 : TabB base mg cg8 pg8 := ⟨(hTB _ m8).code, (hTB _ m8).bm, (hTB _ m8).gP⟩
    have c_MAX_SUM := PySem.W.mg_of X G x_MAX_SUM
    have c_MAX_CLAIMS := PySem.W.mg_of X G x_MAX_CLAIMS
    have m_gcd := PySem.W.mg_of X G x_gcd
    have XT : ExcT K mg eC e1 e2 e3 e4 := ⟨w_q, PySem.W.mg_of X G w_neC, w_k, w_sb, w_ty, ⟨w_hg, w_hk, w_sb, w_hd, w_ha, w_hn, w_ht, w_hm⟩, PySem.W.exm_ref w_sb w_hd w_ty w_ss, PySem.W.mg_of X G w_ne1, PySem.W.mg_of X G w_ne2, PySem.W.mg_of X G w_ne3, PySem.W.mg_of X G w_ne4, w_no⟩
    have f_is_number : Cal l.prog w K mg base 1 "is_number" (SpP K ([(cg1, pg1), (cg6, pg6), (cg7, pg7), (cg8, pg8)].map fun p : Addr × Addr => p.2) (c3 kNum)) := ⟨_, _, _, ok_is_number F0 MG , PySem.W.mg_of X G a0, k0, b0⟩
    have f_is_ratio : Cal l.prog w K mg base 2 "is_ratio" (SpP K ([(cg1, pg1), (cg6, pg6), (cg7, pg7), (cg8, pg8)].map fun p : Addr × Addr => p.2) (c1 kIsRatio)) := ⟨_, _, _, ok_is_ratio F1 MG m_gcd rfl T1 (tabs_in _ m1), PySem.W.mg_of X G a1, k1, b1⟩
    have f_ratio : Cal l.prog w K mg base 1 "ratio" (SpP K ([(cg1, pg1), (cg6, pg6), (cg7, pg7), (cg8, pg8)].map fun p : Addr × Addr => p.2) (c2 kRatio)) := ⟨_, _, _, ok_ratio F2 MG m_gcd, PySem.W.mg_of X G a2, k2, b2⟩
    have f_less : Cal l.prog w K mg base 1 "less" (SpP K ([(cg1, pg1), (cg6, pg6), (cg7, pg7), (cg8, pg8)].map fun p : Addr × Addr => p.2) (c2 kLess)) := ⟨_, _, _, ok_less F3 MG , PySem.W.mg_of X G a3, k3, b3⟩
    have f_floor_of : Cal l.prog w K mg base 1 "floor_of" (SpP K ([(cg1, pg1), (cg6, pg6), (cg7, pg7), (cg8, pg8)].map fun p : Addr × Addr => p.2) (c1 kFloor)) := ⟨_, _, _, ok_floor_of F4 MG , PySem.W.mg_of X G a4, k4, b4⟩
    have f_ceil_of : Cal l.prog w K mg base 1 "ceil_of" (SpP K ([(cg1, pg1), (cg6, pg6), (cg7, pg7), (cg8, pg8)].map fun p : Addr × Addr => p.2) (c1 kCeil)) := ⟨_, _, _, ok_ceil_of F5 MG , PySem.W.mg_of X G a5, k5, b5⟩
    have f_are_integers : Cal l.prog w K mg base 3 "are_integers" (SpP K ([(cg1, pg1), (cg6, pg6), (cg7, pg7), (cg8, pg8)].map fun p : Addr × Addr => p.2) (c2 kInts)) := ⟨_, _, _, ok_are_integers F6 MG c_MAX_CLAIMS c_MAX_SUM f_is_number rfl T6 (tabs_in _ m6), PySem.W.mg_of X G a6, k6, b6⟩
    have f_is_job : Cal l.prog w K mg base 4 "is_job" (SpP K ([(cg1, pg1), (cg6, pg6), (cg7, pg7), (cg8, pg8)].map fun p : Addr × Addr => p.2) (c1 kIsJob)) := ⟨_, _, _, ok_is_job F7 MG c_MAX_SUM f_are_integers f_is_number rfl T7 (tabs_in _ m7), PySem.W.mg_of X G a7, k7, b7⟩
    have f_is_dealing : Cal l.prog w K mg base 3 "is_dealing" (SpP K ([(cg1, pg1), (cg6, pg6), (cg7, pg7), (cg8, pg8)].map fun p : Addr × Addr => p.2) (c2 kIsDeal)) := ⟨_, _, _, ok_is_dealing F8 MG f_is_number rfl T8 (tabs_in _ m8), PySem.W.mg_of X G a8, k8, b8⟩
    have f_is_level : Cal l.prog w K mg base 3 "is_level" (SpP K ([(cg1, pg1), (cg6, pg6), (cg7, pg7), (cg8, pg8)].map fun p : Addr × Addr => p.2) (c3 kIsLevel)) := ⟨_, _, _, ok_is_level F9 MG f_is_ratio f_less f_ratio, PySem.W.mg_of X G a9, k9, b9⟩
    have f_part_at : Cal l.prog w K mg base 2 "part_at" (SpP K ([(cg1, pg1), (cg6, pg6), (cg7, pg7), (cg8, pg8)].map fun p : Addr × Addr => p.2) (c4 kPart)) := ⟨_, _, _, ok_part_at F10 MG f_ceil_of f_ratio, PySem.W.mg_of X G a10, k10, b10⟩
    have f_most_at : Cal l.prog w K mg base 2 "most_at" (SpP K ([(cg1, pg1), (cg6, pg6), (cg7, pg7), (cg8, pg8)].map fun p : Addr × Addr => p.2) (c4 kMost)) := ⟨_, _, _, ok_most_at F11 MG f_floor_of f_ratio, PySem.W.mg_of X G a11, k11, b11⟩
    have f_parts_at : Cal l.prog w K mg base 3 "parts_at" (SpP K ([(cg1, pg1), (cg6, pg6), (cg7, pg7), (cg8, pg8)].map fun p : Addr × Addr => p.2) (c3 (kPartsAt l.prog w K mg base ([(cg1, pg1), (cg6, pg6), (cg7, pg7), (cg8, pg8)].map fun p : Addr × Addr => p.2)))) := ⟨_, _, _, ok_parts_at F12 MG , PySem.W.mg_of X G a12, k12, b12⟩
    have f_first_level : Cal l.prog w K mg base 4 "first_level" (SpP K ([(cg1, pg1), (cg6, pg6), (cg7, pg7), (cg8, pg8)].map fun p : Addr × Addr => p.2) (c1 kFirstL)) := ⟨_, _, _, ok_first_level F13 MG f_less f_most_at f_parts_at f_ratio, PySem.W.mg_of X G a13, k13, b13⟩
    have fX_dealt : CalX l.prog w K mg base 5 "dealt" (SpX K ([(cg1, pg1), (cg6, pg6), (cg7, pg7), (cg8, pg8)].map fun p : Addr × Addr => p.2) eC (c1 kDealt) xDealt) := ⟨_, _, _, ok_dealt F14 MG XT f_first_level f_most_at f_part_at f_parts_at, PySem.W.mg_of X G a14, k14, b14⟩
    have f_dealt : Cal l.prog w K mg base 5 "dealt" (SpP K ([(cg1, pg1), (cg6, pg6), (cg7, pg7), (cg8, pg8)].map fun p : Addr × Addr => p.2) (c1 kDealt)) := fX_dealt.cal
    have f__law_box : Cal l.prog w K mg base 1 "_law_box" (spBox K) := ⟨_, _, _, ok__law_box F15 MG , PySem.W.mg_of X G a15, k15, b15⟩
    have f__law_load : Cal l.prog w K mg base 1 "_law_load" (SpB K ([(cg1, pg1), (cg6, pg6), (cg7, pg7), (cg8, pg8)].map fun p : Addr × Addr => p.2) (c0 kLoad)) := ⟨_, _, _, ok__law_load F16 MG , PySem.W.mg_of X G a16, k16, b16⟩
    have f__law_draw : Cal l.prog w K mg base 2 "_law_draw" (SpB K ([(cg1, pg1), (cg6, pg6), (cg7, pg7), (cg8, pg8)].map fun p : Addr × Addr => p.2) (c1 kDraw)) := ⟨_, _, _, ok__law_draw F17 MG f__law_load, PySem.W.mg_of X G a17, k17, b17⟩
    have f__law_same : Cal l.prog w K mg base 3 "_law_same" (SpP K ([(cg1, pg1), (cg6, pg6), (cg7, pg7), (cg8, pg8)].map fun p : Addr × Addr => p.2) (c2 (kSame 2))) := ⟨_, _, _, ok__law_same (tabs := [(cg1, pg1), (cg6, pg6), (cg7, pg7), (cg8, pg8)].map fun p : Addr × Addr => p.2) F18 MG (PySem.W.mg_of X G a18) b18  2, PySem.W.mg_of X G a18, k18, b18⟩
    have f__law_bent : Cal l.prog w K mg base 5 "_law_bent" (SpB K ([(cg1, pg1), (cg6, pg6), (cg7, pg7), (cg8, pg8)].map fun p : Addr × Addr => p.2) (c1 (kBent 2))) := ⟨_, _, _, ok__law_bent (tabs := [(cg1, pg1), (cg6, pg6), (cg7, pg7), (cg8, pg8)].map fun p : Addr × Addr => p.2) F19 MG (PySem.W.mg_of X G a19) b19 f__law_draw 2, PySem.W.mg_of X G a19, k19, b19⟩
    have f__law_common : Cal l.prog w K mg base 1 "_law_common" (SpP K ([(cg1, pg1), (cg6, pg6), (cg7, pg7), (cg8, pg8)].map fun p : Addr × Addr => p.2) (c2 kCommon)) := ⟨_, _, _, ok__law_common F20 MG , PySem.W.mg_of X G a20, k20, b20⟩
    have f__law_whole : Cal l.prog w K mg base 1 "_law_whole" (SpP K ([(cg1, pg1), (cg6, pg6), (cg7, pg7), (cg8, pg8)].map fun p : Addr × Addr => p.2) (c3 kNum)) := ⟨_, _, _, ok__law_whole F21 MG , PySem.W.mg_of X G a21, k21, b21⟩
    have f__law_row : Cal l.prog w K mg base 2 "_law_row" (SpP K ([(cg1, pg1), (cg6, pg6), (cg7, pg7), (cg8, pg8)].map fun p : Addr × Addr => p.2) (c2 kInts)) := ⟨_, _, _, ok__law_row F22 MG f__law_whole, PySem.W.mg_of X G a22, k22, b22⟩
    have f__law_job_due : Cal l.prog w K mg base 3 "_law_job_due" (SpP K ([(cg1, pg1), (cg6, pg6), (cg7, pg7), (cg8, pg8)].map fun p : Addr × Addr => p.2) (c1 kIsJob)) := ⟨_, _, _, ok__law_job_due F23 MG f__law_row f__law_whole, PySem.W.mg_of X G a23, k23, b23⟩
    have f__law_dealing_due : Cal l.prog w K mg base 2 "_law_dealing_due" (SpP K ([(cg1, pg1), (cg6, pg6), (cg7, pg7), (cg8, pg8)].map fun p : Addr × Addr => p.2) (c2 kIsDeal)) := ⟨_, _, _, ok__law_dealing_due F24 MG f__law_whole, PySem.W.mg_of X G a24, k24, b24⟩
    have f__law_level_due : Cal l.prog w K mg base 2 "_law_level_due" (SpP K ([(cg1, pg1), (cg6, pg6), (cg7, pg7), (cg8, pg8)].map fun p : Addr × Addr => p.2) (c3 kIsLevel)) := ⟨_, _, _, ok__law_level_due F25 MG f__law_common, PySem.W.mg_of X G a25, k25, b25⟩
    have f__law_job : Cal l.prog w K mg base 3 "_law_job" (SpB K ([(cg1, pg1), (cg6, pg6), (cg7, pg7), (cg8, pg8)].map fun p : Addr × Addr => p.2) (c2 kJob)) := ⟨_, _, _, ok__law_job F26 MG f__law_draw, PySem.W.mg_of X G a26, k26, b26⟩
    have f__law_refused : Cal l.prog w K mg base 6 "_law_refused" (SpP K ([(cg1, pg1), (cg6, pg6), (cg7, pg7), (cg8, pg8)].map fun p : Addr × Addr => p.2) (c1 kRefused)) := ⟨_, _, _, ok__law_refused F27 MG fX_dealt XT, PySem.W.mg_of X G a27, k27, b27⟩
    have f__law_fine : Cal l.prog w K mg base 7 "_law_fine" (SpP K ([(cg1, pg1), (cg6, pg6), (cg7, pg7), (cg8, pg8)].map fun p : Addr × Addr => p.2) (c1 kFine82)) := ⟨_, _, _, ok__law_fine F28 MG f__law_dealing_due f__law_level_due f__law_refused f_dealt, PySem.W.mg_of X G a28, k28, b28⟩
    have f__law_dealings : Cal l.prog w K mg base 1 "_law_dealings" (SpP K ([(cg1, pg1), (cg6, pg6), (cg7, pg7), (cg8, pg8)].map fun p : Addr × Addr => p.2) (c1 kDealings)) := ⟨_, _, _, ok__law_dealings F29 MG , PySem.W.mg_of X G a29, k29, b29⟩
    have f__law_squares : Cal l.prog w K mg base 1 "_law_squares" (SpP K ([(cg1, pg1), (cg6, pg6), (cg7, pg7), (cg8, pg8)].map fun p : Addr × Addr => p.2) (c2 kSquares)) := ⟨_, _, _, ok__law_squares F30 MG , PySem.W.mg_of X G a30, k30, b30⟩
    have f__law_small_fine : Cal l.prog w K mg base 8 "_law_small_fine" (SpB K ([(cg1, pg1), (cg6, pg6), (cg7, pg7), (cg8, pg8)].map fun p : Addr × Addr => p.2) (c0 kSmall)) := ⟨_, _, _, ok__law_small_fine F31 MG f__law_dealings f__law_draw f__law_fine f__law_job f__law_level_due f__law_refused f__law_same f__law_squares f_dealt f_is_level, PySem.W.mg_of X G a31, k31, b31⟩
    exact ok_law F32 MG f__law_bent f__law_box f__law_dealing_due f__law_draw f__law_fine f__law_job f__law_job_due f__law_same f__law_small_fine f_dealt f_is_dealing f_is_job
end DL
open PySem PySem.W PyProof.Rows
set_option maxHeartbeats 0 in
theorem PySem.Challenge.cw_backtohand_k82_whole_dealings_and_levels_holds : PySem.Challenge.rw_backtohand_k82_whole_dealings_and_levels.Holds := by
  w_on; o_law; k_head; (case hw => w_witness2)
  k_fill
  refine DL.walk_T (l := PySem.Challenge.rw_backtohand_k82_whole_dealings_and_levels) (n := 63) (k := 9) (x := "script") (CX := fun _ _ _ _ _ _ _ => False) rfl (by decide) rfl ⟨rfl, by decide, by decide⟩ (fun w h Y => PySem.W.kIn_of Y) ?F (fun _ _ _ _ _ h => h)
  case F =>
    intro w mg fa h Y KX G hmg tb
    refine' DL.all_mk KX G hmg tb ?q1 ?q6 ?q7 ?q8 ?a0 ?l0 ?cc0 ?k0 ?a1 ?l1 ?cc1 ?k1 ?r1 ?s1 ?u1 ?a2 ?l2 ?cc2 ?k2 ?a3 ?l3 ?cc3 ?k3 ?a4 ?l4 ?cc4 ?k4 ?a5 ?l5 ?cc5 ?k5 ?a6 ?l6 ?cc6 ?k6 ?r6 ?s6 ?u6 ?a7 ?l7 ?cc7 ?k7 ?r7 ?s7 ?u7 ?a8 ?l8 ?cc8 ?k8 ?r8 ?s8 ?u8 ?a9 ?l9 ?cc9 ?k9 ?a10 ?l10 ?cc10 ?k10 ?a11 ?l11 ?cc11 ?k11 ?a12 ?l12 ?cc12 ?k12 ?a13 ?l13 ?cc13 ?k13 ?a14 ?l14 ?cc14 ?k14 ?a15 ?l15 ?cc15 ?k15 ?a16 ?l16 ?cc16 ?k16 ?a17 ?l17 ?cc17 ?k17 ?a18 ?l18 ?cc18 ?k18 ?a19 ?l19 ?cc19 ?k19 ?a20 ?l20 ?cc20 ?k20 ?a21 ?l21 ?cc21 ?k21 ?a22 ?l22 ?cc22 ?k22 ?a23 ?l23 ?cc23 ?k23 ?a24 ?l24 ?cc24 ?k24 ?a25 ?l25 ?cc25 ?k25 ?a26 ?l26 ?cc26 ?k26 ?a27 ?l27 ?cc27 ?k27 ?a28 ?l28 ?cc28 ?k28 ?a29 ?l29 ?cc29 ?k29 ?a30 ?l30 ?cc30 ?k30 ?a31 ?l31 ?cc31 ?k31 ?a32 ?l32 ?cc32 ?k32 ?x_MAX_SUM ?x_MAX_CLAIMS ?x_gcd ?z_isinstance ?z_len ?z_all ?z_any ?z_sum ?z_min ?z_max ?z_abs ?z_sorted ?z_tuple ?z_list ?z_int ?z_bool ?z_str ?z_range ?z_zip ?w_neC ?w_ne1 ?w_ne2 ?w_ne3 ?w_ne4 ?w_q ?w_k ?w_sb ?w_ty ?w_hg ?w_hk ?w_hd ?w_ha ?w_hn ?w_ht ?w_hm ?w_ss ?w_no
    (case q1 => exact rfl)
    (case q6 => exact rfl)
    (case q7 => exact rfl)
    (case q8 => exact rfl)
    (case a0 => k_is)
    (case l0 => k_is)
    (case cc0 => k_is)
    (case k0 => k_is)
    (case a1 => k_is)
    (case l1 => k_is)
    (case cc1 => k_is)
    (case k1 => k_is)
    (case r1 => k_is)
    (case s1 => rfl)
    (case u1 => first | exact rfl | kernel_rfl)
    (case a2 => k_is)
    (case l2 => k_is)
    (case cc2 => k_is)
    (case k2 => k_is)
    (case a3 => k_is)
    (case l3 => k_is)
    (case cc3 => k_is)
    (case k3 => k_is)
    (case a4 => k_is)
    (case l4 => k_is)
    (case cc4 => k_is)
    (case k4 => k_is)
    (case a5 => k_is)
    (case l5 => k_is)
    (case cc5 => k_is)
    (case k5 => k_is)
    (case a6 => k_is)
    (case l6 => k_is)
    (case cc6 => k_is)
    (case k6 => k_is)
    (case r6 => k_is)
    (case s6 => rfl)
    (case u6 => first | exact rfl | kernel_rfl)
    (case a7 => k_is)
    (case l7 => k_is)
    (case cc7 => k_is)
    (case k7 => k_is)
    (case r7 => k_is)
    (case s7 => rfl)
    (case u7 => first | exact rfl | kernel_rfl)
    (case a8 => k_is)
    (case l8 => k_is)
    (case cc8 => k_is)
    (case k8 => k_is)
    (case r8 => k_is)
    (case s8 => rfl)
    (case u8 => first | exact rfl | kernel_rfl)
    (case a9 => k_is)
    (case l9 => k_is)
    (case cc9 => k_is)
    (case k9 => k_is)
    (case a10 => k_is)
    (case l10 => k_is)
    (case cc10 => k_is)
    (case k10 => k_is)
    (case a11 => k_is)
    (case l11 => k_is)
    (case cc11 => k_is)
    (case k11 => k_is)
    (case a12 => k_is)
    (case l12 => k_is)
    (case cc12 => k_is)
    (case k12 => k_is)
    (case a13 => k_is)
    (case l13 => k_is)
    (case cc13 => k_is)
    (case k13 => k_is)
    (case a14 => k_is)
    (case l14 => k_is)
    (case cc14 => k_is)
    (case k14 => k_is)
    (case a15 => k_is)
    (case l15 => k_is)
    (case cc15 => k_is)
    (case k15 => k_is)
    (case a16 => k_is)
    (case l16 => k_is)
    (case cc16 => k_is)
    (case k16 => k_is)
    (case a17 => k_is)
    (case l17 => k_is)
    (case cc17 => k_is)
    (case k17 => k_is)
    (case a18 => k_is)
    (case l18 => k_is)
    (case cc18 => k_is)
    (case k18 => k_is)
    (case a19 => k_is)
    (case l19 => k_is)
    (case cc19 => k_is)
    (case k19 => k_is)
    (case a20 => k_is)
    (case l20 => k_is)
    (case cc20 => k_is)
    (case k20 => k_is)
    (case a21 => k_is)
    (case l21 => k_is)
    (case cc21 => k_is)
    (case k21 => k_is)
    (case a22 => k_is)
    (case l22 => k_is)
    (case cc22 => k_is)
    (case k22 => k_is)
    (case a23 => k_is)
    (case l23 => k_is)
    (case cc23 => k_is)
    (case k23 => k_is)
    (case a24 => k_is)
    (case l24 => k_is)
    (case cc24 => k_is)
    (case k24 => k_is)
    (case a25 => k_is)
    (case l25 => k_is)
    (case cc25 => k_is)
    (case k25 => k_is)
    (case a26 => k_is)
    (case l26 => k_is)
    (case cc26 => k_is)
    (case k26 => k_is)
    (case a27 => k_is)
    (case l27 => k_is)
    (case cc27 => k_is)
    (case k27 => k_is)
    (case a28 => k_is)
    (case l28 => k_is)
    (case cc28 => k_is)
    (case k28 => k_is)
    (case a29 => k_is)
    (case l29 => k_is)
    (case cc29 => k_is)
    (case k29 => k_is)
    (case a30 => k_is)
    (case l30 => k_is)
    (case cc30 => k_is)
    (case k30 => k_is)
    (case a31 => k_is)
    (case l31 => k_is)
    (case cc31 => k_is)
    (case k31 => k_is)
    (case a32 => k_is)
    (case l32 => k_is)
    (case cc32 => k_is)
    (case k32 => k_is)
    (case x_MAX_SUM => k_is)
    (case x_MAX_CLAIMS => k_is)
    (case x_gcd => k_is)
    (case z_isinstance => k_is)
    (case z_len => k_is)
    (case z_all => k_is)
    (case z_any => k_is)
    (case z_sum => k_is)
    (case z_min => k_is)
    (case z_max => k_is)
    (case z_abs => k_is)
    (case z_sorted => k_is)
    (case z_tuple => k_is)
    (case z_list => k_is)
    (case z_int => k_is)
    (case z_bool => k_is)
    (case z_str => k_is)
    (case z_range => k_is)
    (case z_zip => k_is)
    (case w_neC => first | k_is | rfl | kernel_rfl)
    (case w_ne1 => first | k_is | rfl | kernel_rfl)
    (case w_ne2 => first | k_is | rfl | kernel_rfl)
    (case w_ne3 => first | k_is | rfl | kernel_rfl)
    (case w_ne4 => first | k_is | rfl | kernel_rfl)
    (case w_q => first | k_is | rfl | kernel_rfl)
    (case w_k => first | k_is | rfl | kernel_rfl)
    (case w_sb => first | k_is | rfl | kernel_rfl)
    (case w_ty => first | k_is | rfl | kernel_rfl)
    (case w_hg => first | k_is | rfl | kernel_rfl)
    (case w_hk => first | k_is | rfl | kernel_rfl)
    (case w_hd => first | k_is | rfl | kernel_rfl)
    (case w_ha => first | k_is | rfl | kernel_rfl)
    (case w_hn => first | k_is | rfl | kernel_rfl)
    (case w_ht => first | k_is | rfl | kernel_rfl)
    (case w_hm => first | k_is | rfl | kernel_rfl)
    (case w_ss => first | k_is | rfl | kernel_rfl)
    (case w_no => first | k_is | rfl | kernel_rfl)
