import PyProof.Rows.All
import Wide.All
import OpenK.AllK
import Wide.FinOn
import HandS.AnyAll
import HandS.GenList
import HandS.GenOver
import HandS.Comp
import HandS.ForMost
import HandS.Exc
import HandS.ExcOwn
import HandS.WordsExc
import HandS.TryOnly
import HandS.Deep
import HandS.HeadHook4
import HandS.TupAny
import HandS.Style
import HandS.IsInst
import HandS.SortInts
import PyProof.Rows.CountFlat
import HandS.HeadWalk
import HandS.ExcIs
import HandS.Conv
import HandS.Head2
import PySem.Challenge.RW_caseslive_k04_processes_are_checked
set_option Elab.async false
set_option linter.all false
set_option maxRecDepth 100000
set_option maxHeartbeats 4000000
/-! Gx1: a generator expression whose element is any expression of the layer: its own context, its loop. -/
namespace Gx
open PySem PySem.Spec PyProof.Rows L2
abbrev gen (X : Cx) (A : Around) (s : Shared) (H : Hp) (cenv : Env) (fp : List Addr) (pn : List (Addr × Obj)) : Cx :=
  { X with A := A, s_0 := s, H_0 := H, env := cenv, outer := X.stack, stack := cenv :: X.stack, ex := fp, fn := fun y => cenv.scope.names.lookup y == some .cell, pn := pn, xe := fun _ _ => False }
abbrev gEnv (X : Cx) (scope : Scope) (C : Addr) (code : Value) : Env := genEnv scope (cloFrom X.env.cells scope.names []) C code builtinsNs X.env
section
variable {X : Cx} {pins : List (Addr × Obj)} {σ : L2.St} {H : Hp} {s : Shared}
theorem gen_start {scope : Scope} {own : List (Str × Nat)} {fp : List Addr} {A : Around} {code : Value} {s5 : Shared} {m5 : Str → Option Value} (I : Inv X pins σ H s) (ok : BlkOk X.N X.env.scope scope own) (hN : X.N.Nodup) (hfp : ∀ b ∈ fp, FpOk X pins H b ∧ b < s.heap.objs.size)
    (nc : ∀ y ∈ scope.names, y.2 ≠ .cell) (hA : A.handled = none) (hfr : A.frames = some (gEnv X scope s.heap.objs.size code :: X.stack)) (hn : s5.heap.Ns s.heap.objs.size m5) (hk : ∀ b o, s.heap.get? b = some o → s5.heap.get? b = some o) (ho : s5.os = s.os) (hb : AllBare s5.gens) :
    Inv (gen X A s H (gEnv X scope s.heap.objs.size code) fp []) [] (wipe σ (own.map (·.2))) H s5 := by
  have fre : ∀ y ∈ scope.names, y.2 = .free → ∃ c, X.env.cells.lookup y.1 = some c := fun y hy e => by
    rcases ok.free y hy e with k | k
    · exact I.ok.has _ (.inl k)
    · exact I.ok.has _ (.inr k)
  have sub : ∀ {y c}, (cloFrom X.env.cells scope.names []).lookup y = some c → X.env.cells.lookup y = some c ∧ c < s.heap.objs.size := fun {y c} e => by
    rcases cloFrom_mem (PySem.mem_of_lookup e) with h | ⟨h1, h2⟩
    · cases h
    · obtain ⟨c', hc⟩ := fre _ h1 rfl
      have hc : X.env.cells.lookup y = some c' := hc
      rw [hc] at h2
      have h2 : c = c' := h2
      subst h2
      obtain ⟨v, z⟩ := I.cell _ _ hc
      exact ⟨hc, z.lt⟩
  have fr : ∀ {y}, scope.names.lookup y = some .free → ∃ c, (cloFrom X.env.cells scope.names []).lookup y = some c := fun {y} h =>
    mem_lookup (cloFrom_has (cells := X.env.cells) (acc := []) (PySem.mem_of_lookup h))
  have nocell : ∀ {y}, scope.names.lookup y ≠ some .cell := fun {y} h => nc _ (PySem.mem_of_lookup h) rfl
  have okG : (gen X A s H (gEnv X scope s.heap.objs.size code) fp []).Ok := by
    refine ⟨I.ok.mod, ok.kind, I.ok.glob, rfl, Nat.le_refl _, fun y z c e1 e2 => I.ok.inj y z c (sub e1).1 (sub e2).1, fun y hy => ?_, fun y c z e => ?_, fun _ => hA, hfr, .inr ⟨rfl, rfl⟩,
      fun b hb => ⟨?_, fun y c e z => (hfp b hb).1.2.2.2.2.1 y c (sub e).1 z⟩, I.bs, Nat.le_trans I.ok.bsz I.sz, fun b o e hb => ?_, fun b hb z => ?_, I.stack, I.stkFree⟩
    · rcases hy with hy | hy
      · exact absurd hy nocell
      · exact fr hy
    · have z : (scope.names.lookup y == some NameKind.cell) = true := z
      exact absurd (by simpa using z) (nocell (y := y))
    · show b ≠ s.heap.objs.size
      exact Nat.ne_of_lt (hfp b hb).2
    · rcases (hfp b hb).1.2.2.2.1 with z | z
      · exact I.ok.noex b o e z
      · exact absurd (Nat.lt_of_lt_of_le (Heap.lt_size e) (Nat.le_trans I.ok.bsz z)) (Nat.lt_irrefl _)
    · rcases List.mem_cons.mp (I.stkSub b z) with z | z
      · exact (hfp b hb).1.2.1 z
      · exact (hfp b hb).1.2.2.1 z
  refine ⟨okG, ho, hb, Un.kept hk, ⟨m5, hn, fun i y av e1 e2 e3 => ?_⟩, fun y c e => ?_, I.hok.fresh (Nat.le_refl _), fun y c e => I.freeC y c (sub e).1, fun p hp => absurd (show p ∈ ([] : List (Addr × Obj)) ++ [] from hp) (by simp), I.hok.kept hk, by rw [wipe_length]; exact I.len⟩
  · obtain ⟨e2, hne⟩ := wipe_some e2
    have hfree : scope.names.lookup y = some .free := by
      have no : ¬ (scope.names.lookup y = some .local ∨ scope.names.lookup y = some .cell) := fun h => by
        have hm : ∃ k, (y, k) ∈ scope.names ∧ (k = .local ∨ k = .cell) := h.elim (fun h => ⟨_, PySem.mem_of_lookup h, .inl rfl⟩) fun h => ⟨_, PySem.mem_of_lookup h, .inr rfl⟩
        obtain ⟨k, hm, hk⟩ := hm
        rcases ok.own _ hm hk with q | q
        · obtain ⟨p, hp, hpy⟩ := List.mem_map.mp q
          have e3 := ok.ix p hp
          have hpy : p.1 = y := hpy
          rw [hpy] at e3
          exact hne (List.mem_map.mpr ⟨p, hp, nodup_ix hN e3 e1⟩)
        · exact q (List.mem_of_getElem? e1)
      rcases e3 with h | h | h
      · exact absurd (.inl h) no
      · exact absurd (.inr h) no
      · exact h
    obtain ⟨m, _, hl⟩ := I.loc
    have hvis : Vis X.env.scope y := (ok.free _ (PySem.mem_of_lookup hfree) rfl).elim (fun k => .inr (.inl k)) (fun k => .inr (.inr k))
    obtain ⟨w, r, q⟩ := hl i y av e1 e2 hvis
    refine ⟨w, r, .inr ⟨.inr hfree, ?_⟩⟩
    obtain ⟨c, h1⟩ := fr hfree
    rcases q with ⟨k, _⟩ | ⟨_, c', e', z⟩
    · have k : X.env.scope.names.lookup y = some .local := k
      rcases ok.free _ (PySem.mem_of_lookup hfree) rfl with k' | k' <;> rw [show X.env.scope.names.lookup y = _ from k'] at k <;> cases k
    · have h2 := (sub h1).1
      rw [h2] at e'
      cases e'
      exact ⟨c, h1, z.keeps hk⟩
  · obtain ⟨h1, _⟩ := sub e
    obtain ⟨v, z⟩ := I.cell y c h1
    exact ⟨v, z.keeps hk⟩
theorem pinned {A : Around} {cenv : Env} {fp : List Addr} {pn ps : List (Addr × Obj)} {s1 : Shared} {H' : Hp} (I : Inv (gen X A s H cenv fp []) ps σ H' s1)
    (h : ∀ p ∈ pn ++ ps, s1.heap.get? p.1 = some p.2 ∧ H' p.1 = none ∧ p.1 ≠ cenv.locals ∧ p.1 ∉ frs X.stack ∧ ∀ v, p.2.data ≠ .cell v) : Inv (gen X A s H cenv fp pn) ps σ H' s1 :=
  ⟨⟨I.ok.mod, I.ok.kind, I.ok.glob, I.ok.blt, I.ok.above, I.ok.inj, I.ok.has, I.ok.cab, I.ok.hd, I.ok.frames, I.ok.stk, I.ok.exf, I.ok.bs, I.ok.bsz, I.ok.noex, I.ok.exfs, I.ok.funs, I.ok.frf⟩, I.os, I.bare, I.base, I.loc, I.cell, I.free, I.freeC, h, I.hok, I.len⟩
end
theorem over_gen {A : Around} {elt tg iter : Expr} {scope : Scope} {pos : Pos} {d : Nat} {it acc : Value} {env : Env} (hf : env.frame ≠ none) : A.over (.compLoop (.GeneratorExp elt [⟨tg, iter, [], d⟩] scope pos) 0 it acc env) [] = A.deeper env := by
  first
    | rfl
    | (obtain ⟨hd, dp, fs, gs, u⟩ := A; simp [Around.over, Around.deeper, marksOver, frameCount, unitsOf, envsOf, guardsOf, pushEnvs, pushGuards, Code.envs, Code.env?, Code.isFrame, Code.guards, Code.isGuard, Code.weight, Code.frames, Code.isCreation, Code.isCaller, Code.cUnits])
end Gx

set_option Elab.async false
set_option linter.all false
set_option maxRecDepth 100000
set_option maxHeartbeats 4000000
/-! Gx2: the generator's loop. -/
namespace Gx
open PySem PySem.Spec PyProof.Rows L2
def Walk (J : It) (g : TG) (te : TE) (vs : List Nat) (neg : Bool) (σ : L2.St) (Q : VK) (W : Nat → Nat → Hp → Prop) : Prop := ∀ i m H, W i m H → (J.stop i H ∧ Q (.bl (!neg)) H) ∨
  (J.go i H ∧ ∀ x H', J.yld i H x H' → g x (wipe σ vs) H' fun σ2 H3 => wipe σ2 vs = wipe σ vs ∧ te σ2 H3 fun y H4 => ∃ b, y = .bl b ∧ (if b = neg then Q (.bl neg) H4 else ∃ m', m' < m ∧ W (i + 1) m' H4))
def REnd (Y : Cx) (σ : L2.St) (vs : List Nat) (neg : Bool) (Q : VK) : GenEnd := fun _ _ r s1 => r = .ok .next ∧ ∃ H', Inv Y [] (wipe σ vs) H' s1 ∧ Q (.bl (!neg)) H'
def YBool (Y : Cx) (σ : L2.St) (vs : List Nat) (neg : Bool) (Q : VK) : Protocol := fun _ _ v s1 kap =>
  ∃ b H', v = .bool b ∧ Inv Y [] (wipe σ vs) H' s1 ∧ (if b = neg then Q (.bl neg) H' else ∀ s' : Shared, s'.heap = s1.heap → s'.os = s1.os → AllBare s'.gens → kap (.send .none) s')
theorem Inv.sameHeap {X : Cx} {pins : List (Addr × Obj)} {σ : L2.St} {H : Hp} {s s' : Shared} (I : Inv X pins σ H s) (h : s'.heap = s.heap) (ho : s'.os = s.os) (hb : AllBare s'.gens) : Inv X pins σ H s' :=
  I.call' (ch := []) ho (Un.kept fun b o e => by rw [h]; exact e) (by rw [h]; exact I.hok) hb fun b z => by simp at z
section
variable {X : Cx} {σ : L2.St} {H3 : Hp} {s3 : Shared} {B : Around} {ce : Env} {fp : List Addr} {pn : List (Addr × Obj)} {elt tg iter : Expr} {scope : Scope} {pos : Pos} {it : Addr} {tn : Nat → Heap → Prop} {J : It} {g : TG} {te : TE} {vs : List Nat} {neg : Bool} {Q : VK} {W : Nat → Nat → Hp → Prop}
theorem seg_gen (hc : X.calm = true) (hco : ce.scope.isCoroutine = false) (hf : ce.frame ≠ none) (T : Turn X.prog X.w X.K tg J fp it tn)
    (pg : PG (gen X (B.deeper ce) s3 H3 ce fp pn) tg g) (pe : PE (gen X (B.deeper ce) s3 H3 ce fp pn) elt te) (hfp : ∀ b ∈ fp, ∀ p ∈ pn, p.1 ≠ b) (wk : Walk J g te vs neg σ Q W) :
    ∀ (m i n : Nat) (s₀ s5 : Shared) (H5 : Hp), m < n → W i m H5 → Inv (gen X (B.deeper ce) s3 H3 ce fp pn) [] (wipe σ vs) H5 s5 → tn i s5.heap → (∀ b ∈ fp, H5 b = none) →
      Seg (model X.prog X.w) B (REnd (gen X (B.deeper ce) s3 H3 ce fp pn) σ vs neg Q) (YBool (gen X (B.deeper ce) s3 H3 ce fp pn) σ vs neg Q) n s₀ (.compLoop (.GeneratorExp elt [⟨tg, iter, [], 0⟩] scope pos) 0 (.ref it) .none ce)
        ((model X.prog X.w).den (.compLoop (.GeneratorExp elt [⟨tg, iter, [], 0⟩] scope pos) 0 (.ref it) .none ce)) [] s5 := by
  have stat : ∀ {σ' : L2.St} {H' : Hp} {s' : Shared}, Inv (gen X (B.deeper ce) s3 H3 ce fp pn) [] σ' H' s' → (∀ b ∈ fp, H' b = none) → ∀ b ∈ fp, FpOk (gen X (B.deeper ce) s3 H3 ce fp pn) [] H' b := fun {σ' H' s'} I' hn b hb =>
    ⟨hn b hb, (I'.ok.exf b hb).1, I'.ok.exfs b hb, .inl hb, fun x c e => (I'.ok.exf b hb).2 x c e, fun p hp => by rw [List.append_nil] at hp; exact hfp b hb p hp⟩
  have ov : B.over (.compLoop (.GeneratorExp elt [⟨tg, iter, [], 0⟩] scope pos) 0 (.ref it) .none ce) [] = B.deeper ce := over_gen hf
  intro m
  induction m using Nat.strongRecOn with
  | ind m ih =>
    intro i n s₀ s5 H5 hmn w5 I5 st5 n5
    show Seg _ B _ _ n s₀ _ ((compTurn (.GeneratorExp elt [⟨tg, iter, [], 0⟩] scope pos) 0 (.ref it) .none ce).onRaise (leaving ce)) [] s5
    rw [compTurn_gen, Sem.onRaise_eq_wrap]
    refine seg_bind_wrap (wpAny_standAt ?_)
    rcases wk i m H5 w5 with ⟨stop, q⟩ | ⟨go, step⟩
    · refine seg_bind_wrap ?_
      rw [ov]
      refine thnF (T.done (gen X (B.deeper ce) s3 H3 ce fp pn) rfl rfl rfl hc i [] s5 _ H5 (fun _ _ => False) I5 (stat I5 n5) st5 stop) fun r s6 ⟨hr, I6⟩ => ?_
      subst hr
      exact seg_end (.ok .next) ⟨rfl, H5, I6, q⟩
    · refine seg_bind_wrap ?_
      rw [ov]
      refine thnF (T.item (gen X (B.deeper ce) s3 H3 ce fp pn) rfl rfl rfl hc i [] s5 _ H5 (fun _ _ => False) I5 (stat I5 n5) st5 go) fun r s6 ⟨u, hr, h6⟩ => ?_
      subst hr
      refine seg_bind_wrap ?_
      rw [ov]
      refine thnF h6 fun _ s7 ⟨x, H7, I7, r7, y7, st7, n7⟩ => ?_
      have I7' := I7.pinned (stat I7 n7) (T.obj _ _ st7)
      refine seg_bind_wrap ?_
      rw [ov]
      refine thnF (pg.run _ s7 _ H7 x u _ I7' r7 (step x H7 y7)) fun _ s8 ⟨σ8, H8, I8, hw8, q8⟩ => ?_
      simp only [List.forIn_nil]
      refine seg_bind_wrap (wpAny_pure ?_)
      simp only [if_true]
      have hy : ∀ v, yieldOut ce v = yieldValue v := fun v => by simp only [yieldOut, hco, Bool.false_eq_true, if_false]
      simp only [hy]
      rw [Sem.bind_eq_wrap', Sem.bind_eq_wrap', Sem.wrap_wrap, Sem.wrap_wrap]
      refine seg_wrap ?_
      rw [ov]
      refine thnF (pe.run _ s8 σ8 H8 _ I8 q8) fun y s9 ⟨yv, H9, I9, r9, b, hb, q9⟩ => ?_
      subst hb
      obtain rfl : y = Value.bool b := r9
      have pin9 : ∀ c ∈ fp, ∀ o, s7.heap.get? c = some o → s9.heap.get? c = some o ∧ H9 c = none := fun c hc2 o e =>
        let z := I9.pin (c, o) (List.mem_append_right _ (List.mem_append_right _ (mem_pinsAt hc2 e)))
        ⟨z.1, z.2.1⟩
      have hl : (wipe σ vs).length = σ8.length := by rw [← hw8, wipe_length]
      have J9 : Inv (gen X (B.deeper ce) s3 H3 ce fp pn) [] (wipe σ vs) H9 s9 := (I9.unpinned (pins := [])).weak hl (fun j v e => by
        rw [← hw8] at e
        exact (wipe_some e).1)
      have st9 : tn (i + 1) s9.heap := T.keep _ _ _ st7 fun c hc2 o e => (pin9 c hc2 o e).1
      have n9 : ∀ c ∈ fp, H9 c = none := fun c hc2 => by
        obtain ⟨o, e, _⟩ := T.obj _ _ st7 c hc2
        exact (pin9 c hc2 o e).2
      by_cases hbn : b = neg
      · rw [if_pos hbn] at q9
        obtain ⟨n, rfl⟩ : ∃ k, n = k + 1 := ⟨n - 1, by omega⟩
        refine seg_at (seg_yield rfl rfl rfl ⟨b, H9, rfl, J9, ?_⟩)
        rw [if_pos hbn]
        exact q9
      · rw [if_neg hbn] at q9
        obtain ⟨m', hm', w9⟩ := q9
        obtain ⟨n, rfl⟩ : ∃ k, n = k + 1 := ⟨n - 1, by omega⟩
        refine seg_at (seg_yield rfl rfl rfl ⟨b, H9, rfl, J9, ?_⟩)
        rw [if_neg hbn]
        intro s' h1 h2 h3
        exact seg_again rfl (ih m' hm' (i + 1) n s' s' H9 (by omega) w9 (Inv.sameHeap J9 h1 h2 h3) (by rw [h1]; exact st9) n9)
end
end Gx

set_option Elab.async false
set_option linter.all false
set_option maxRecDepth 100000
set_option maxHeartbeats 4000000
/-! Gx3: the generator is made; all and any walk it. -/
namespace Gx
open PySem PySem.Spec PyProof.Rows L2
section
variable {X : Cx} {σ : L2.St} {H3 : Hp} {s3 : Shared} {B : Around} {ce : Env} {fp : List Addr} {pn : List (Addr × Obj)} {elt tg iter : Expr} {scope : Scope} {pos : Pos} {it : Addr} {tn : Nat → Heap → Prop} {J : It} {g : TG} {te : TE} {vs : List Nat} {neg : Bool} {Q : VK} {W : Nat → Nat → Hp → Prop}
theorem seg_first (hc : X.calm = true) (hco : ce.scope.isCoroutine = false) (hf : ce.frame ≠ none) (T : Turn X.prog X.w X.K tg J fp it tn)
    (pg : PG (gen X (B.deeper ce) s3 H3 ce fp pn) tg g) (pe : PE (gen X (B.deeper ce) s3 H3 ce fp pn) elt te) (hfp : ∀ b ∈ fp, ∀ p ∈ pn, p.1 ≠ b) (wk : Walk J g te vs neg σ Q W)
    (m n : Nat) (s₀ s5 : Shared) (H5 : Hp) (hm : m < n) (w5 : W 0 m H5) (I5 : Inv (gen X (B.deeper ce) s3 H3 ce fp pn) [] (wipe σ vs) H5 s5) (st5 : tn 0 s5.heap) (n5 : ∀ b ∈ fp, H5 b = none) :
    Seg (model X.prog X.w) B (REnd (gen X (B.deeper ce) s3 H3 ce fp pn) σ vs neg Q) (YBool (gen X (B.deeper ce) s3 H3 ce fp pn) σ vs neg Q) n s₀ (.compStart (.GeneratorExp elt [⟨tg, iter, [], 0⟩] scope pos) 0 (.ref it) .none ce)
      ((model X.prog X.w).den (.compStart (.GeneratorExp elt [⟨tg, iter, [], 0⟩] scope pos) 0 (.ref it) .none ce)) [] s5 := by
  have loop := seg_gen (iter := iter) (scope := scope) (pos := pos) hc hco hf T pg pe hfp wk m 0 n s₀ s5 H5 hm w5 I5 st5 n5
  show Seg _ B _ _ _ s₀ _ ((compStart (.GeneratorExp elt [⟨tg, iter, [], 0⟩] scope pos) 0 (.ref it) .none ce).onRaise (leaving ce)) [] s5
  unfold compStart
  rw [Sem.onRaise_eq_wrap]
  show Seg _ B _ _ _ s₀ _ ((ask >>= _).wrap _ _ _ _) [] s5
  refine seg_bind_wrap (wpAny_askSetting ?_)
  split
  · exact seg_again rfl loop
  · first
      | exact seg_bind_wrap (wpAny_rule (seg_bind_wrap (wpAny_standAt (seg_bind_wrap (T.self _ 0 s5 _ _ st5 (seg_again rfl loop))))))
      | (refine seg_bind_wrap (wpAny_rule ?_); show Seg _ B _ _ _ s₀ _ ((standAt iter.pos >>= _).wrap _ _ _ _) [] s5; exact seg_bind_wrap (wpAny_standAt (seg_bind_wrap (T.self _ 0 s5 _ _ st5 (seg_again rfl loop)))))
end
def Ready (X : Cx) (pins : List (Addr × Obj)) (σ : L2.St) (vs : List Nat) (neg : Bool) (Q : VK) (u : Value) (s5 : Shared) : Prop :=
  ∃ (a : Addr) (gn n : Nat) (Y : Cx), u = .ref a ∧ s5.heap.IsGen a gn ∧ s5.heap.NoLimit ∧ AllBare s5.gens ∧
    (∃ gs, s5.gens[gn]? = some gs ∧ gs.bare = true ∧ ∀ s' : Shared, s'.heap = s5.heap → s'.os = s5.os → AllBare s'.gens → gs.Goes (model X.prog X.w) X.A.in1.in1 (REnd Y σ vs neg Q) (YBool Y σ vs neg Q) n (.send .none) s') ∧
    ∀ s' H', Inv Y [] (wipe σ vs) H' s' → s'.heap.IsGen a gn ∧ s'.heap.NoLimit ∧ AllBare s'.gens ∧ Inv X pins σ H' s'
def tAA (neg : Bool) (P : Addr) (wi : TI) (g : TG) (te : TE) (vs : List Nat) : TE := fun σ H Q => wi σ H fun J H1 => GxR.TabG H1 P ∧ ∀ H2, GxR.Tabbed P H1 H2 → ∃ W : Nat → Nat → Hp → Prop, (∃ m, W 0 m H2) ∧ Walk J g te vs neg σ Q W
section
variable {X : Cx} {pins : List (Addr × Obj)} {σ : L2.St} {H : Hp} {s : Shared}
theorem gen_make {c P : Addr} {elt tg iter : Expr} {gpos : Pos} {scope : Scope} {own : List (Str × Nat)} {wi : TI} {g : TG} {te : TE} {k : Nat} {neg : Bool} {Q : VK} {Q' : Value → Shared → Prop}
    (hr : Room k X.A) (hc : X.calm = true) (hN : X.N.Nodup) (TB : GxR.TabB X.base X.mg c P) (hcode : X.env.code = .ref c) (ok : BlkOk X.N X.env.scope scope own) (nc : ∀ y ∈ scope.names, y.2 ≠ .cell) (dot : scope.names.lookup (".0" : Str) = some NameKind.local) (co : scope.isCoroutine = false)
    (hi : PI X tg iter wi) (pg : ∀ (s : Shared) (H : Hp) (C : Addr) (code : Value) (fp : List Addr) (pn : List (Addr × Obj)), PG (gen X (X.A.in1.in1.deeper (gEnv X scope C code)) s H (gEnv X scope C code) fp pn) tg g) (pe : ∀ (s : Shared) (H : Hp) (C : Addr) (code : Value) (fp : List Addr) (pn : List (Addr × Obj)), PE (gen X (X.A.in1.in1.deeper (gEnv X scope C code)) s H (gEnv X scope C code) fp pn) elt te)
    (hs : ∀ v, genFold iter X.env v = pure v) (I : Inv X pins σ H s) (h : tAA neg P wi g te (own.map (·.2)) σ H Q) (hQ : ∀ u s5, Ready X pins σ (own.map (·.2)) neg Q u s5 → Q' u s5) :
    wpAny (model X.prog X.w) X.A (eval (.GeneratorExp elt [⟨tg, iter, [], 0⟩] scope gpos) X.env) Q' X.xe s := by
  have fre : ∀ y ∈ scope.names, y.2 = .free → ∃ c, X.env.cells.lookup y.1 = some c := fun y hy e => by
    rcases ok.free y hy e with k | k
    · exact I.ok.has _ (.inl k)
    · exact I.ok.has _ (.inr k)
  refine wpAny_GeneratorExp_make co (closure_ok fre) nc dot ok.kind (by have := hr.dp; omega) ?_ hs
  refine thn (hi.run pins s σ H _ I h) fun xv s1 hx => thn hx fun itv s2 h2 => ?_
  obtain ⟨it, fp, tn, J, H2, e, I2, T, st2, f2, ⟨ps, hP, ht⟩, q⟩ := h2
  subst e
  refine ⟨I2.nolimit, ?_⟩
  have hPs : s2.heap.get? P = some { cls := .none, data := .fields ps } := I2.hok P _ hP
  have sz : ∀ b ∈ fp, b < s2.heap.objs.size := fun b hb => by
    obtain ⟨o, e, _⟩ := T.obj _ _ st2 b hb
    exact Heap.lt_size e
  have nPf : ∀ b ∈ fp, b ≠ P := fun b hb z => by
    have := (f2 b hb).1
    rw [z, hP] at this
    cases this
  have cont : ∀ (code : Value) (h3 : Heap) (tk : Nat) (ps' : Array Value), Heap.ExtBut P s2.heap h3 → s2.heap.objs.size ≤ h3.objs.size → h3.get? P = some { cls := .none, data := .fields ps' } → (∃ more, ps' = ps ++ more) → TriplesOk ps'.toList →
      wpAny (model X.prog X.w) X.A (builtinsFor X.env.globals X.env.builtins) (fun bi s₄ =>
        ∀ h', h'.Ns s₄.heap.objs.size (fun y => if y = ".0" then some (.ref it) else none) → Heap.SameBut s₄.heap.objs.size (s₄.heap.push { cls := .type "frame", data := .dict #[] }) h' →
          Q' (.ref h'.objs.size) { s₄ with
            gens := s₄.gens.push (.fresh (.compStart (.GeneratorExp elt [⟨tg, iter, [], 0⟩] scope gpos) 0 (.ref it) .none (genEnv scope (cloFrom X.env.cells scope.names []) s₄.heap.objs.size code bi X.env))),
            toks := s₄.toks + 1 + 1 + 1,
            heap := h'.push { cls := .type "generator", data := .fields #[.int s₄.gens.size 0, .str "<genexpr>" (s₄.toks + 1), .str (X.env.qual ++ "<genexpr>") (s₄.toks + 1 + 1)] } }) X.xe { s2 with heap := h3, toks := tk } := by
    intro code h3 tk ps' hx hsz hP3 ⟨more, em⟩ ht3
    subst em
    obtain ⟨bm, ob, e1, e2, e3, e4, e5, e6, e7, e8⟩ := TB.bm
    have keep3 : ∀ b u, b ≠ P → s2.heap.get? b = some u → h3.get? b = some u := fun b u hb e => hx b u hb e
    have I3 : Inv X pins σ (upd H2 P (.tbl (ps ++ more))) { s2 with heap := h3, toks := tk } := GxR.inv_tab (g' := s2.gens) (d' := s2.drawn) I2 hP (fun b u hb e => keep3 b u hb e) hP3 I2.bare
    refine wpAny_builtinsFor (m := X.mg) (by rw [I2.ok.glob]; exact (I2.mod.glob.keeps I2.bk).extBut hx TB.gP) e1 e2 (keep3 _ _ e4 (I2.bk _ _ e5)) e6 e7 e8 ?_
    intro h' hn' hs'
    obtain ⟨W, ⟨m, w0⟩, wk⟩ := q (upd H2 P (.tbl (ps ++ more))) ⟨⟨ps ++ more, upd_same, ht3⟩, fun b hb => upd_ne hb⟩
    generalize hs4 : ({ s2 with heap := h3, toks := tk } : Shared) = s4 at I3 hn' hs' ⊢
    have eh4 : s4.heap = h3 := by rw [← hs4]
    have hf4 : ∀ b ∈ fp, FpOk X pins (upd H2 P (.tbl (ps ++ more))) b ∧ b < s4.heap.objs.size := fun b hb => by
      refine ⟨⟨by rw [upd_ne (nPf b hb)]; exact (f2 b hb).1, (f2 b hb).2⟩, ?_⟩
      rw [eh4]
      exact Nat.lt_of_lt_of_le (sz b hb) hsz
    have sz' : h'.objs.size = s4.heap.objs.size + 1 := by rw [hs'.1, Heap.size_push]
    have keep' : ∀ b o, s4.heap.get? b = some o → h'.get? b = some o := fun b o e => hs'.extBut b o (Nat.ne_of_lt (Heap.lt_size e)) (Heap.get?_push_of_some _ e)
    generalize hgo : ({ cls := .type "generator", data := .fields #[.int s4.gens.size 0, .str "<genexpr>" (s4.toks + 1), .str (X.env.qual ++ "<genexpr>") (s4.toks + 1 + 1)] } : Obj) = go
    have keep5 : ∀ b o, s4.heap.get? b = some o → (h'.push go).get? b = some o := fun b o e => Heap.get?_push_of_some _ (keep' b o e)
    have gat : (h'.push go).get? h'.objs.size = some go := Heap.get?_push_size _ (by rw [← hgo]; rfl)
    have isg : ∀ h : Heap, h.get? h'.objs.size = some go → h.IsGen h'.objs.size s4.gens.size := fun h e => ⟨go, _, _, e, by rw [← hgo], by rw [← hgo], by rw [← hgo]⟩
    have fr1 : (X.A.in1.in1).frames = some X.stack := I3.ok.frames
    have key : ∀ s5 : Shared, s5.heap = h'.push go → s5.os = s4.os → AllBare s5.gens → Inv (gen X (X.A.in1.in1.deeper (gEnv X scope s4.heap.objs.size code)) s4 (upd H2 P (.tbl (ps ++ more))) (gEnv X scope s4.heap.objs.size code) fp [(h'.objs.size, go)]) [] (wipe σ (own.map (·.2))) (upd H2 P (.tbl (ps ++ more))) s5 := fun s5 h5 ho hb => by
      have J := gen_start (A := X.A.in1.in1.deeper (gEnv X scope s4.heap.objs.size code)) (code := code) I3 ok hN hf4 nc hr.hd (Around.frames_deeper fr1) (s5 := s5) (by rw [h5]; exact hn'.push _) (fun b o e => by rw [h5]; exact keep5 b o e) ho hb
      refine pinned J fun p hp => ?_
      have hp : p = (h'.objs.size, go) := by simpa using hp
      subst hp
      have hle : s4.heap.objs.size ≤ h'.objs.size := by rw [sz']; exact Nat.le_succ _
      refine ⟨by rw [h5]; exact gat, I3.hok.fresh hle, ?_, fun z => ?_, fun v z => ?_⟩
      · show h'.objs.size ≠ s4.heap.objs.size
        rw [sz']
        exact Nat.succ_ne_self _
      · rcases List.mem_cons.mp (I3.stkSub _ z) with z | z
        · have := I3.lt
          rw [← z] at this
          exact absurd (Nat.lt_of_lt_of_le this hle) (Nat.lt_irrefl _)
        · exact I3.nofs hle z
      · have z : go.data = .cell v := z
        rw [← hgo] at z
        cases z
    have hfpn : ∀ b ∈ fp, ∀ p ∈ [(h'.objs.size, go)], p.1 ≠ b := fun b hb p hp z => by
      have hp : p = (h'.objs.size, go) := by simpa using hp
      subst hp
      have := (hf4 b hb).2
      rw [← z, sz'] at this
      exact absurd this (Nat.not_lt.mpr (Nat.le_succ _))
    have bar : AllBare (s4.gens.push (.fresh (.compStart (.GeneratorExp elt [⟨tg, iter, [], 0⟩] scope gpos) 0 (.ref it) .none (gEnv X scope s4.heap.objs.size code)))) := AllBare.push I3.bare rfl
    refine hQ _ _ ⟨h'.objs.size, s4.gens.size, m + 1, gen X (X.A.in1.in1.deeper (gEnv X scope s4.heap.objs.size code)) s4 (upd H2 P (.tbl (ps ++ more))) (gEnv X scope s4.heap.objs.size code) fp [(h'.objs.size, go)], rfl, isg _ gat, I3.nolimit.keeps keep5, bar, ⟨_, Array.getElem?_push_size .., rfl, fun s' e1 e2 e3 => ⟨rfl, ?_⟩⟩, fun s' H' I' => ?_⟩
    · exact seg_first (B := X.A.in1.in1) hc co (by simp [genEnv]) T (pg _ _ _ _ _ _) (pe _ _ _ _ _ _) hfpn wk m (m + 1) _ s' _ (Nat.lt_succ_self _) w0 (key s' e1 e2 e3)
        (T.keep _ _ _ st2 fun b hb o e => by rw [e1]; exact keep5 b o (by rw [eh4]; exact keep3 b o (nPf b hb) e)) fun b hb => (hf4 b hb).1.1
    · refine ⟨isg _ (I'.pin (h'.objs.size, go) (List.mem_append_left _ (List.mem_singleton.mpr rfl))).1, I'.nolimit, I'.bare, ?_⟩
      exact I3.call' (ch := fp) I'.os I'.base I'.hok I'.bare fun b hb => ⟨(hf4 b hb).1.2.2.2.1, (hf4 b hb).1.2.1, (hf4 b hb).1.2.2.2.2.1, (hf4 b hb).1.2.2.2.2.2⟩
  have cd : PySem.W.CodeHd s2.heap c P := TB.code.keeps fun b u e => I2.bk b u e
  cases hf : codeAmong gpos ps.toList with
  | none =>
    refine wpAny_genexprCodeX hcode (cd.code hPs ht) (cd.tab hPs) hf fun c' h' tk hx hge hlt hco' _ htab' _ => ?_
    obtain ⟨o1, us, f1, tf, fl, tg', inF, tx, tt, op, _, _, _, _, _, _, _, _, _, htr, _⟩ := hco'
    exact cont _ h' tk _ hx (Nat.le_trans hge (Nat.le_of_lt hlt)) htab'.2 ⟨_, rfl⟩ htr
  | some cv =>
    refine wpAny_genexprCode_hit hcode (cd.code hPs ht) hf ?_
    exact cont cv s2.heap s2.toks ps (Heap.ExtBut.refl _ _) (Nat.le_refl _) hPs ⟨#[], by simp⟩ ht
end
end Gx

set_option Elab.async false
set_option linter.all false
set_option maxRecDepth 100000
set_option maxHeartbeats 4000000
/-! Gx4: all, any. -/
namespace Gx
open PySem PySem.Spec PyProof.Rows L2
section
variable {X : Cx} {pins : List (Addr × Obj)} {σ : L2.St} {H : Hp} {s : Shared}
theorem _root_.L2.Room.depth' {k : Nat} {A : Around} (r : Room k A) : A.depth < recursionLimit := by have := r.dp; omega

theorem all_turns {vs : List Nat} {Q : VK} {a : Addr} {gn : Nat} {Y : Cx} {R : Result → Shared → Prop} (hh : X.A.handled = none) (hd : X.A.depth < recursionLimit)
    (back : ∀ s' H', Inv Y [] (wipe σ vs) H' s' → s'.heap.IsGen a gn ∧ s'.heap.NoLimit ∧ AllBare s'.gens ∧ Inv X pins σ H' s') (hR : ∀ b s' H', Inv X pins σ H' s' → Q (.bl b) H' → R (.ok (.ret (.bool b))) s') :
    ∀ (n : Nat) (s : Shared), s.heap.IsGen a gn → s.heap.NoLimit → (∃ gs, s.gens[gn]? = some gs ∧ gs.Goes (model X.prog X.w) X.A.in1.in1 (REnd Y σ vs false Q) (YBool Y σ vs false Q) n (.send .none) (s.setGen gn .running)) →
      codeAny (model X.prog X.w) X.A (.builtin "all.loop" ⟨[.ref a], []⟩) R s := by
  intro n
  induction n with
  | zero =>
    intro s hg hl ⟨gs, hgs, hgo⟩
    refine codeAny_builtin F.entry_all_loop ?_
    rw [Around.under_plainId F.plain_all_loop _]
    show wpAny _ X.A.in1 (pyNext (.ref a) >>= _) _ _ s
    refine wpAny_bind (wpAny_pyNext_genexpQ (A := X.A.in1) (P := fun _ _ s1 => ∃ H', Inv Y [] (wipe σ vs) H' s1 ∧ Q (.bl (!false)) H') hh hl hd hg hgs hgo (fun v s₁ gs' hb hv => ?_) (fun s₁ hp h' hk => ?_))
    · obtain ⟨b, H', rfl, I1, q⟩ := hv
      obtain ⟨g1, l1, b1, J⟩ := back _ _ I1
      refine wpAny_bind (wpAny_holding (wpAny_truthy_bool ?_))
      refine wpAny_bind (wpAny_letGo ?_)
      cases b with
      | false =>
        simp only [Bool.false_eq_true, if_false]
        refine wpAny_bind (wpAny_rule (wpAny_pure ?_))
        exact hR false _ H' (Inv.sameHeap J rfl rfl (allBare_setGen b1 hb)) q
      | true =>
        rw [if_neg (by decide)] at q
        exact (q s₁ rfl rfl b1).elim
    · obtain ⟨H', I1, q⟩ := hp
      obtain ⟨g1, l1, b1, J⟩ := back _ _ I1
      refine wpAny_bind (wpAny_rule (wpAny_pure ?_))
      exact hR _ _ H' ((Inv.sameHeap (s' := s₁.setGen gn .finished) J rfl rfl (allBare_setGen b1 rfl)).kept (t' := s₁.toks) hk) q
  | succ n ih =>
    intro s hg hl ⟨gs, hgs, hgo⟩
    have hgl : gn < s.gens.size := (Array.getElem?_eq_some_iff.mp hgs).1
    refine codeAny_builtin F.entry_all_loop ?_
    rw [Around.under_plainId F.plain_all_loop _]
    show wpAny _ X.A.in1 (pyNext (.ref a) >>= _) _ _ s
    refine wpAny_bind (GenW.wpAny_gsz (n := gn + 1) hgl (wpAny_pyNext_genexpQ (A := X.A.in1) (P := fun _ _ s1 => ∃ H', Inv Y [] (wipe σ vs) H' s1 ∧ Q (.bl (!false)) H') hh hl hd hg hgs hgo (fun v s₁ gs' hb hv => ?_) (fun s₁ hp h' hk => ?_)))
    · intro hsz
      obtain ⟨b, H', rfl, I1, q⟩ := hv
      obtain ⟨g1, l1, b1, J⟩ := back _ _ I1
      have hsz1 : gn < s₁.gens.size := by
        have e : (s₁.setGen gn gs').gens.size = s₁.gens.size := GenW.setGen_size _ _ _
        have hsz' : gn + 1 ≤ (s₁.setGen gn gs').gens.size := hsz
        omega
      refine wpAny_bind (wpAny_holding (wpAny_truthy_bool ?_))
      refine wpAny_bind (wpAny_letGo ?_)
      cases b with
      | false =>
        simp only [Bool.false_eq_true, if_false]
        refine wpAny_bind (wpAny_rule (wpAny_pure ?_))
        exact hR false _ H' (Inv.sameHeap J rfl rfl (allBare_setGen b1 hb)) q
      | true =>
        rw [if_neg (by decide)] at q
        simp only [if_true]
        refine wpAny_pure ⟨plainId_quiet F.plain_all_loop _, ih (s₁.setGen gn gs') g1 l1 ⟨gs', setGen_at hsz1, ?_⟩⟩
        exact q _ rfl rfl (allBare_setGen (allBare_setGen b1 hb) rfl)
    · intro _
      obtain ⟨H', I1, q⟩ := hp
      obtain ⟨g1, l1, b1, J⟩ := back _ _ I1
      refine wpAny_bind (wpAny_rule (wpAny_pure ?_))
      exact hR _ _ H' ((Inv.sameHeap (s' := s₁.setGen gn .finished) J rfl rfl (allBare_setGen b1 rfl)).kept (t' := s₁.toks) hk) q
theorem pe_all {c P : Addr} {elt tg iter : Expr} {p cpos gpos : Pos} {scope : Scope} {own : List (Str × Nat)} {wi : TI} {g : TG} {te : TE} {k : Nat}
    (hr : Room k X.A) (hc : X.calm = true) (hN : X.N.Nodup) (hg : Gl X "all") (hm : X.mg "all" = none) (hb : bootBuiltins "all" = some (.builtin "all")) (TB : GxR.TabB X.base X.mg c P) (hcode : X.env.code = .ref c) (ok : BlkOk X.N X.env.scope scope own) (nc : ∀ y ∈ scope.names, y.2 ≠ .cell) (dot : scope.names.lookup (".0" : Str) = some NameKind.local) (co : scope.isCoroutine = false)
    (hi : PI X tg iter wi) (pg : ∀ (s : Shared) (H : Hp) (C : Addr) (code : Value) (fp : List Addr) (pn : List (Addr × Obj)), PG (gen X (X.A.in1.in1.deeper (gEnv X scope C code)) s H (gEnv X scope C code) fp pn) tg g) (pe : ∀ (s : Shared) (H : Hp) (C : Addr) (code : Value) (fp : List Addr) (pn : List (Addr × Obj)), PE (gen X (X.A.in1.in1.deeper (gEnv X scope C code)) s H (gEnv X scope C code) fp pn) elt te)
    (hs : ∀ v, genFold iter X.env v = pure v) (he : starEach [.GeneratorExp elt [⟨tg, iter, [], 0⟩] scope gpos] X.env = (false, eval (.GeneratorExp elt [⟨tg, iter, [], 0⟩] scope gpos) X.env) :: starEach [] X.env := by rfl) :
    PE X (.Call (.Name "all" p) [.GeneratorExp elt [⟨tg, iter, [], 0⟩] scope gpos] [] cpos) (tAA false P wi g te (own.map (·.2))) := by
  refine ⟨fun pins s σ H Q I h => ?_⟩
  refine wpAny_Call_Name_kw (ld_blt I hg hm hb ?_)
  refine PyProof.Rows.callWith_builtin1 ?_ he (by rfl)
  rw [he]
  show wpAny _ _ (spliced ((false, eval (.GeneratorExp elt [⟨tg, iter, [], 0⟩] scope gpos) X.env) :: backTo cpos (starEach [] X.env))) _ _ s
  refine Calls.spliced_cons (gen_make hr hc hN TB hcode ok nc dot co hi pg pe hs I h fun u s5 hG => ?_)
  obtain ⟨a, gn, n, Y, rfl, g5, l5, b5, ⟨gs, hgs, hbr, hgo⟩, back⟩ := hG
  refine Calls.spliced_nil ?_
  refine call_function_tree F.kind_all F.plain_all F.entry_all (F.args_all1 _) ?_
  unfold Builtin.«all»
  refine wpAny_bind (m := oneArg "all" _) (wpAny_pure ?_)
  refine wpAny_bind (wpAny_pyIter_gen g5 ?_)
  refine wpAny_pure ⟨plainId_quiet F.plain_all_loop _, all_turns hr.hd hr.depth' back (fun b s' H' J q => ?_) n s5 g5 l5 ⟨gs, hgs, hgo _ rfl rfl (allBare_setGen b5 rfl)⟩⟩
  exact ⟨.bl b, H', J, rfl, q⟩

theorem any_turns {vs : List Nat} {Q : VK} {a : Addr} {gn : Nat} {Y : Cx} {R : Result → Shared → Prop} (hh : X.A.handled = none) (hd : X.A.depth < recursionLimit)
    (back : ∀ s' H', Inv Y [] (wipe σ vs) H' s' → s'.heap.IsGen a gn ∧ s'.heap.NoLimit ∧ AllBare s'.gens ∧ Inv X pins σ H' s') (hR : ∀ b s' H', Inv X pins σ H' s' → Q (.bl b) H' → R (.ok (.ret (.bool b))) s') :
    ∀ (n : Nat) (s : Shared), s.heap.IsGen a gn → s.heap.NoLimit → (∃ gs, s.gens[gn]? = some gs ∧ gs.Goes (model X.prog X.w) X.A.in1.in1 (REnd Y σ vs true Q) (YBool Y σ vs true Q) n (.send .none) (s.setGen gn .running)) →
      codeAny (model X.prog X.w) X.A (.builtin "any.loop" ⟨[.ref a], []⟩) R s := by
  intro n
  induction n with
  | zero =>
    intro s hg hl ⟨gs, hgs, hgo⟩
    refine codeAny_builtin F.entry_any_loop ?_
    rw [Around.under_plainId F.plain_any_loop _]
    show wpAny _ X.A.in1 (pyNext (.ref a) >>= _) _ _ s
    refine wpAny_bind (wpAny_pyNext_genexpQ (A := X.A.in1) (P := fun _ _ s1 => ∃ H', Inv Y [] (wipe σ vs) H' s1 ∧ Q (.bl (!true)) H') hh hl hd hg hgs hgo (fun v s₁ gs' hb hv => ?_) (fun s₁ hp h' hk => ?_))
    · obtain ⟨b, H', rfl, I1, q⟩ := hv
      obtain ⟨g1, l1, b1, J⟩ := back _ _ I1
      refine wpAny_bind (wpAny_holding (wpAny_truthy_bool ?_))
      refine wpAny_bind (wpAny_letGo ?_)
      cases b with
      | true =>
        simp only [if_true]
        refine wpAny_bind (wpAny_rule (wpAny_pure ?_))
        exact hR true _ H' (Inv.sameHeap J rfl rfl (allBare_setGen b1 hb)) q
      | false =>
        rw [if_neg (by decide)] at q
        exact (q s₁ rfl rfl b1).elim
    · obtain ⟨H', I1, q⟩ := hp
      obtain ⟨g1, l1, b1, J⟩ := back _ _ I1
      refine wpAny_bind (wpAny_rule (wpAny_pure ?_))
      exact hR _ _ H' ((Inv.sameHeap (s' := s₁.setGen gn .finished) J rfl rfl (allBare_setGen b1 rfl)).kept (t' := s₁.toks) hk) q
  | succ n ih =>
    intro s hg hl ⟨gs, hgs, hgo⟩
    have hgl : gn < s.gens.size := (Array.getElem?_eq_some_iff.mp hgs).1
    refine codeAny_builtin F.entry_any_loop ?_
    rw [Around.under_plainId F.plain_any_loop _]
    show wpAny _ X.A.in1 (pyNext (.ref a) >>= _) _ _ s
    refine wpAny_bind (GenW.wpAny_gsz (n := gn + 1) hgl (wpAny_pyNext_genexpQ (A := X.A.in1) (P := fun _ _ s1 => ∃ H', Inv Y [] (wipe σ vs) H' s1 ∧ Q (.bl (!true)) H') hh hl hd hg hgs hgo (fun v s₁ gs' hb hv => ?_) (fun s₁ hp h' hk => ?_)))
    · intro hsz
      obtain ⟨b, H', rfl, I1, q⟩ := hv
      obtain ⟨g1, l1, b1, J⟩ := back _ _ I1
      have hsz1 : gn < s₁.gens.size := by
        have e : (s₁.setGen gn gs').gens.size = s₁.gens.size := GenW.setGen_size _ _ _
        have hsz' : gn + 1 ≤ (s₁.setGen gn gs').gens.size := hsz
        omega
      refine wpAny_bind (wpAny_holding (wpAny_truthy_bool ?_))
      refine wpAny_bind (wpAny_letGo ?_)
      cases b with
      | true =>
        simp only [if_true]
        refine wpAny_bind (wpAny_rule (wpAny_pure ?_))
        exact hR true _ H' (Inv.sameHeap J rfl rfl (allBare_setGen b1 hb)) q
      | false =>
        rw [if_neg (by decide)] at q
        simp only [Bool.false_eq_true, if_false]
        refine wpAny_pure ⟨plainId_quiet F.plain_any_loop _, ih (s₁.setGen gn gs') g1 l1 ⟨gs', setGen_at hsz1, ?_⟩⟩
        exact q _ rfl rfl (allBare_setGen (allBare_setGen b1 hb) rfl)
    · intro _
      obtain ⟨H', I1, q⟩ := hp
      obtain ⟨g1, l1, b1, J⟩ := back _ _ I1
      refine wpAny_bind (wpAny_rule (wpAny_pure ?_))
      exact hR _ _ H' ((Inv.sameHeap (s' := s₁.setGen gn .finished) J rfl rfl (allBare_setGen b1 rfl)).kept (t' := s₁.toks) hk) q
theorem pe_any {c P : Addr} {elt tg iter : Expr} {p cpos gpos : Pos} {scope : Scope} {own : List (Str × Nat)} {wi : TI} {g : TG} {te : TE} {k : Nat}
    (hr : Room k X.A) (hc : X.calm = true) (hN : X.N.Nodup) (hg : Gl X "any") (hm : X.mg "any" = none) (hb : bootBuiltins "any" = some (.builtin "any")) (TB : GxR.TabB X.base X.mg c P) (hcode : X.env.code = .ref c) (ok : BlkOk X.N X.env.scope scope own) (nc : ∀ y ∈ scope.names, y.2 ≠ .cell) (dot : scope.names.lookup (".0" : Str) = some NameKind.local) (co : scope.isCoroutine = false)
    (hi : PI X tg iter wi) (pg : ∀ (s : Shared) (H : Hp) (C : Addr) (code : Value) (fp : List Addr) (pn : List (Addr × Obj)), PG (gen X (X.A.in1.in1.deeper (gEnv X scope C code)) s H (gEnv X scope C code) fp pn) tg g) (pe : ∀ (s : Shared) (H : Hp) (C : Addr) (code : Value) (fp : List Addr) (pn : List (Addr × Obj)), PE (gen X (X.A.in1.in1.deeper (gEnv X scope C code)) s H (gEnv X scope C code) fp pn) elt te)
    (hs : ∀ v, genFold iter X.env v = pure v) (he : starEach [.GeneratorExp elt [⟨tg, iter, [], 0⟩] scope gpos] X.env = (false, eval (.GeneratorExp elt [⟨tg, iter, [], 0⟩] scope gpos) X.env) :: starEach [] X.env := by rfl) :
    PE X (.Call (.Name "any" p) [.GeneratorExp elt [⟨tg, iter, [], 0⟩] scope gpos] [] cpos) (tAA true P wi g te (own.map (·.2))) := by
  refine ⟨fun pins s σ H Q I h => ?_⟩
  refine wpAny_Call_Name_kw (ld_blt I hg hm hb ?_)
  refine PyProof.Rows.callWith_builtin1 ?_ he (by rfl)
  rw [he]
  show wpAny _ _ (spliced ((false, eval (.GeneratorExp elt [⟨tg, iter, [], 0⟩] scope gpos) X.env) :: backTo cpos (starEach [] X.env))) _ _ s
  refine Calls.spliced_cons (gen_make hr hc hN TB hcode ok nc dot co hi pg pe hs I h fun u s5 hG => ?_)
  obtain ⟨a, gn, n, Y, rfl, g5, l5, b5, ⟨gs, hgs, hbr, hgo⟩, back⟩ := hG
  refine Calls.spliced_nil ?_
  refine call_function_tree F.kind_any F.plain_any F.entry_any (F.args_any1 _) ?_
  unfold Builtin.«any»
  refine wpAny_bind (m := oneArg "any" _) (wpAny_pure ?_)
  refine wpAny_bind (wpAny_pyIter_gen g5 ?_)
  refine wpAny_pure ⟨plainId_quiet F.plain_any_loop _, any_turns hr.hd hr.depth' back (fun b s' H' J q => ?_) n s5 g5 l5 ⟨gs, hgs, hgo _ rfl rfl (allBare_setGen b5 rfl)⟩⟩
  exact ⟨.bl b, H', J, rfl, q⟩
end
end Gx

set_option Elab.async false
set_option linter.all false
set_option maxRecDepth 100000
set_option maxHeartbeats 4000000
/-! Fx0: plain data D, how it lies in the abstract heap, what an expression or statement computes. -/
namespace Fx
open PySem PySem.Spec PyProof.Rows L2

inductive Oc (α : Type) where
  | st | ok (a : α) | ex (c : Str)
def bd {α β : Type} : Oc α → (α → Oc β) → Oc β
  | .st, _ => .st
  | .ok a, f => f a
  | .ex c, _ => .ex c
@[simp] theorem bd_ok {α β : Type} (a : α) (f : α → Oc β) : bd (.ok a) f = f a := id rfl
@[simp] theorem bd_st {α β : Type} (f : α → Oc β) : bd .st f = .st := id rfl
@[simp] theorem bd_ex {α β : Type} (c : Str) (f : α → Oc β) : bd (.ex c) f = .ex c := id rfl
def noex {α : Type} : Oc α → Oc α
  | .ex _ => .st
  | o => o
@[simp] theorem noex_ok {α : Type} (a : α) : noex (.ok a) = .ok a := id rfl
def chk {α : Type} (b : Bool) (o : Oc α) : Oc α := if b then o else .st
@[simp] theorem chk_true {α : Type} (o : Oc α) : chk true o = o := id rfl

inductive D where
  | non | bl (b : Bool) | int (i : Int) | str (x : Str)
  | lst (ds : List D) | tup (ds : List D) | fz (ds : List D)
  | obj (c : Str) (fs : List (Str × D))
  | ty (n : String)

section
variable (K : PySem.W.Frag) (mg : Str → Option Value)
mutual
inductive Rep (G : Hp) : V → D → Prop
  | non : Rep G .non .non
  | bl (b : Bool) : Rep G (.bl b) (.bl b)
  | int (i : Int) : Rep G (.int i) (.int i)
  | str (x : Str) : Rep G (.str x) (.str x)
  | ty (n : String) : Rep G (.ty n) (.ty n)
  | lst {a : Addr} {xs : List V} {ds : List D} : G a = some (.lst xs) → RepL G xs ds → Rep G (.ref a) (.lst ds)
  | tup {a : Addr} {xs : List V} {ds : List D} : SqT K G a xs → RepL G xs ds → Rep G (.ref a) (.tup ds)
  | fz {a : Addr} {xs : List V} {ds : List D} : SqL K G a xs → RepL G xs ds → Rep G (.ref a) (.fz ds)
  | obj {a C dx : Addr} {c : Str} {fs : List (Str × V)} {ds : List (Str × D)} : mg c = some (.ref C) → G a = some (.ins C dx fs) → RepF G fs ds → Rep G (.ref a) (.obj c ds)
inductive RepL (G : Hp) : List V → List D → Prop
  | nil : RepL G [] []
  | cons {v : V} {vs : List V} {d : D} {ds : List D} : Rep G v d → RepL G vs ds → RepL G (v :: vs) (d :: ds)
inductive RepF (G : Hp) : List (Str × V) → List (Str × D) → Prop
  | nil : RepF G [] []
  | cons {n : Str} {v : V} {vs : List (Str × V)} {d : D} {ds : List (Str × D)} : Rep G v d → RepF G vs ds → RepF G ((n, v) :: vs) ((n, d) :: ds)
end
end
variable {K : PySem.W.Frag} {mg : Str → Option Value}

theorem SqT.same {H H' : Hp} {a : Addr} {xs : List V} (e : Same H H') (h : SqT K H a xs) : SqT K H' a xs := by
  rcases h with (h | ⟨o, h⟩) | h
  · exact .inl (.inl (e _ _ h))
  · exact .inl (.inr ⟨o, e _ _ h⟩)
  · exact .inr h
mutual
theorem Rep.same {G G' : Hp} (e : Same G G') : ∀ {v : V} {d : D}, Rep K mg G v d → Rep K mg G' v d
  | _, _, .non => .non
  | _, _, .bl b => .bl b
  | _, _, .int i => .int i
  | _, _, .str x => .str x
  | _, _, .ty n => .ty n
  | _, _, .lst h r => .lst (e _ _ h) (RepL.same e r)
  | _, _, .tup h r => .tup (SqT.same e h) (RepL.same e r)
  | _, _, .fz h r => .fz (e.seq h) (RepL.same e r)
  | _, _, .obj m h r => .obj m (e _ _ h) (RepF.same e r)
theorem RepL.same {G G' : Hp} (e : Same G G') : ∀ {vs : List V} {ds : List D}, RepL K mg G vs ds → RepL K mg G' vs ds
  | _, _, .nil => .nil
  | _, _, .cons r t => .cons (Rep.same e r) (RepL.same e t)
theorem RepF.same {G G' : Hp} (e : Same G G') : ∀ {vs : List (Str × V)} {ds : List (Str × D)}, RepF K mg G vs ds → RepF K mg G' vs ds
  | _, _, .nil => .nil
  | _, _, .cons r t => .cons (Rep.same e r) (RepF.same e t)
end
section
variable {G : Hp}
theorem RepL.length : ∀ {vs : List V} {ds : List D}, RepL K mg G vs ds → vs.length = ds.length
  | _, _, .nil => rfl
  | _, _, .cons _ t => by simp [RepL.length t]
theorem RepL.get : ∀ {vs : List V} {ds : List D} {i : Nat} {d : D}, RepL K mg G vs ds → ds[i]? = some d → ∃ v, vs[i]? = some v ∧ Rep K mg G v d
  | _, _, i, _, .nil, e => by simp at e
  | _, _, 0, _, .cons r _, e => by simp at e; subst e; exact ⟨_, rfl, r⟩
  | _, _, i + 1, d, .cons _ t, e => by
    obtain ⟨u, h1, h2⟩ := RepL.get (i := i) (d := d) t (by simpa using e)
    exact ⟨u, by simpa using h1, h2⟩
theorem RepL.getV : ∀ {vs : List V} {ds : List D} {i : Nat} {v : V}, RepL K mg G vs ds → vs[i]? = some v → ∃ d, ds[i]? = some d ∧ Rep K mg G v d
  | _, _, i, _, .nil, e => by simp at e
  | _, _, 0, _, .cons r _, e => by simp at e; subst e; exact ⟨_, rfl, r⟩
  | _, _, i + 1, d, .cons _ t, e => by
    obtain ⟨u, h1, h2⟩ := RepL.getV (i := i) (v := d) t (by simpa using e)
    exact ⟨u, by simpa using h1, h2⟩
theorem RepL.append : ∀ {xs ys : List V} {ds es : List D}, RepL K mg G xs ds → RepL K mg G ys es → RepL K mg G (xs ++ ys) (ds ++ es)
  | _, _, _, _, .nil, s => s
  | _, _, _, _, .cons r t, s => .cons r (RepL.append t s)
theorem RepL.take : ∀ {xs : List V} {ds : List D} (n : Nat), RepL K mg G xs ds → RepL K mg G (xs.take n) (ds.take n)
  | _, _, 0, _ => .nil
  | _, _, _ + 1, .nil => .nil
  | _, _, n + 1, .cons r t => .cons r (RepL.take n t)
theorem RepL.drop : ∀ {xs : List V} {ds : List D} (n : Nat), RepL K mg G xs ds → RepL K mg G (xs.drop n) (ds.drop n)
  | _, _, 0, r => r
  | _, _, _ + 1, .nil => .nil
  | _, _, n + 1, .cons _ t => RepL.drop n t
theorem RepL.reverse {xs : List V} {ds : List D} (h : RepL K mg G xs ds) : RepL K mg G xs.reverse ds.reverse := by
  induction xs generalizing ds with
  | nil => cases h; exact .nil
  | cons x xs ih => cases h with | cons r t => rw [List.reverse_cons, List.reverse_cons]; exact (ih t).append (.cons r .nil)
theorem RepF.look : ∀ {fs : List (Str × V)} {ds : List (Str × D)} {n : Str} {d : D}, RepF K mg G fs ds → ds.lookup n = some d → ∃ v, fs.lookup n = some v ∧ Rep K mg G v d
  | _, _, n, _, .nil, e => by simp at e
  | _, _, n, d, .cons (n := m) r t, e => by
    by_cases h : n = m
    · subst h
      simp at e
      subst e
      exact ⟨_, by simp, r⟩
    · have hb : (n == m) = false := beq_eq_false_iff_ne.mpr h
      rw [List.lookup_cons, hb] at e
      obtain ⟨v, h1, h2⟩ := RepF.look t e
      exact ⟨v, by rw [List.lookup_cons, hb]; exact h1, h2⟩
theorem RepF.length : ∀ {vs : List (Str × V)} {ds : List (Str × D)}, RepF K mg G vs ds → vs.length = ds.length
  | _, _, .nil => rfl
  | _, _, .cons _ t => by simp [RepF.length t]
end

/-! ### heaps: G what is visible, H all that is tracked -/
def IsTab (K : PySem.W.Frag) (P : Addr) : Prop := K.lookup P = none ∧ ∃ c, PySem.W.codeHdIn K c P = true
structure Sm (H H' : Hp) : Prop where
  ob : ∀ a o, H a = some o → (∀ ps, o ≠ .tbl ps) → H' a = some o
  dom : ∀ a o, H a = some o → ∃ o', H' a = some o'
  tb : ∀ P, GxR.TabG H P → GxR.TabG H' P
theorem Sm.of {H H' : Hp} (s : Same H H') : Sm H H' := ⟨fun a o e _ => s a o e, fun a o e => ⟨o, s a o e⟩, fun P ⟨ps, h, t⟩ => ⟨ps, s _ _ h, t⟩⟩
theorem Sm.refl (H : Hp) : Sm H H := .of (.refl _)
theorem Sm.trans {H H' H2 : Hp} (a : Sm H H') (b : Sm H' H2) : Sm H H2 := ⟨fun c o e n => b.ob c o (a.ob c o e n) n, fun c o e => let ⟨o', e'⟩ := a.dom c o e; b.dom c o' e', fun P t => b.tb P (a.tb P t)⟩
theorem Sm.free {H H' : Hp} (a : Sm H H') {p : Addr} (h : H' p = none) : H p = none := by
  cases e : H p with
  | none => rfl
  | some o =>
    obtain ⟨o', e'⟩ := a.dom p o e
    rw [h] at e'
    cases e'
theorem Sm.upd {H0 H : Hp} (s : Sm H0 H) {p : Addr} {o : HO} (h : H0 p = none) : Sm H0 (L2.upd H p o) := by
  refine ⟨fun b u e n => ?_, fun b u e => ?_, fun P ⟨ps, e, t⟩ => ?_⟩
  · rw [upd_ne (ne_of_none e h)]; exact s.ob _ _ e n
  · rw [upd_ne (ne_of_none e h)]; exact s.dom _ _ e
  · obtain ⟨ps2, e2, t2⟩ := s.tb P ⟨ps, e, t⟩
    exact ⟨ps2, by rw [upd_ne (ne_of_none e h)]; exact e2, t2⟩
def Tabs (K : PySem.W.Frag) (G H : Hp) : Prop := ∀ P, IsTab K P → GxR.TabG H P ∧ G P = none
theorem Tabs.same {G H H' : Hp} (t : Tabs K G H) (s : Same H H') : Tabs K G H' := fun P h => by
  obtain ⟨⟨ps, e, ok⟩, g⟩ := t P h
  exact ⟨⟨ps, s _ _ e, ok⟩, g⟩
theorem Tabs.upd {G H : Hp} (t : Tabs K G H) {p : Addr} {o : HO} (n : ∀ ps, H p ≠ some (.tbl ps)) : Tabs K G (L2.upd H p o) := fun P h => by
  obtain ⟨⟨ps, e, ok⟩, g⟩ := t P h
  exact ⟨⟨ps, by rw [upd_ne fun z => n ps (by rw [← z]; exact e)]; exact e, ok⟩, g⟩
def rmv (H : Hp) (x : Addr) : Hp := fun b => if b = x then none else H b
theorem rmv_ne {H : Hp} {x b : Addr} (h : b ≠ x) : rmv H x b = H b := by unfold rmv; rw [if_neg h]
theorem rmv_some {H : Hp} {x b : Addr} {o : HO} (h : rmv H x b = some o) : b ≠ x ∧ H b = some o := by
  unfold rmv at h
  split at h
  · cases h
  · rename_i hn; exact ⟨hn, h⟩
structure Ext (G H G' H' : Hp) : Prop where
  hh : Sm H H'
  gg : Same G G'
  gh : Same G' H'
  nc : ∀ a o, H a = some o → G a = none → G' a = none
theorem Ext.refl {G H : Hp} (s : Same G H) : Ext G H G H := ⟨.refl _, .refl _, s, fun _ _ _ h => h⟩
theorem Ext.trans {G H G1 H1 G2 H2 : Hp} (a : Ext G H G1 H1) (b : Ext G1 H1 G2 H2) : Ext G H G2 H2 :=
  ⟨a.hh.trans b.hh, a.gg.trans b.gg, b.gh, fun c o h g => let ⟨o', h'⟩ := a.hh.dom c o h; b.nc c o' h' (a.nc c o h g)⟩
theorem Ext.new {G H : Hp} {p : Addr} {o : HO} (s : Same G H) (hp : H p = none) : Ext G H (upd G p o) (upd H p o) := by
  have gp : G p = none := s.free hp
  refine ⟨.of fun b u e => by rw [upd_ne (ne_of_none e hp)]; exact e, fun b u e => by rw [upd_ne (ne_of_none e gp)]; exact e, fun b u e => ?_, fun b u h g => ?_⟩
  · by_cases hb : b = p
    · subst hb; rw [upd_same] at e ⊢; exact e
    · rw [upd_ne hb] at e ⊢; exact s _ _ e
  · rw [upd_ne (ne_of_none h hp)]; exact g
theorem Ext.newH {G H : Hp} {p : Addr} {o : HO} (s : Same G H) (hp : H p = none) : Ext G H G (upd H p o) :=
  ⟨.of fun b u e => by rw [upd_ne (ne_of_none e hp)]; exact e, .refl _, fun b u e => by rw [upd_ne (ne_of_none (s _ _ e) hp)]; exact s _ _ e, fun _ _ _ g => g⟩

/-! ### slots -/
inductive Sl where
  | no | sh (d : D) | ow (d : D) | exn (a : Addr)
abbrev En := List Sl

def OwAt (K : PySem.W.Frag) (mg : Str → Option Value) (G H : Hp) (a : Addr) : D → Prop
  | .lst ds => ∃ xs, H a = some (.lst xs) ∧ RepL K mg G xs ds
  | .obj c ds => ∃ C dx fs, mg c = some (.ref C) ∧ H a = some (.ins C dx fs) ∧ RepF K mg G fs ds
  | _ => False
theorem OwAt.ex {G H : Hp} {a : Addr} : ∀ {d : D}, OwAt K mg G H a d → ∃ o, H a = some o
  | .lst _, ⟨_, h, _⟩ => ⟨_, h⟩
  | .obj _ _, ⟨_, _, _, _, h, _⟩ => ⟨_, h⟩
theorem OwAt.notTab {G H : Hp} {a : Addr} {d : D} (w : OwAt K mg G H a d) (ps : Array Value) : H a ≠ some (.tbl ps) := by
  intro z
  cases d with
  | lst ds => obtain ⟨xs, e, _⟩ := w; rw [z] at e; cases e
  | obj c ds => obtain ⟨C, dx, fs, _, e, _⟩ := w; rw [z] at e; cases e
  | _ => exact w
theorem OwAt.same {G H G' H' : Hp} {a : Addr} (g : Same G G') (h : ∀ o, H a = some o → (∀ ps, o ≠ .tbl ps) → H' a = some o) : ∀ {d : D}, OwAt K mg G H a d → OwAt K mg G' H' a d
  | .lst _, ⟨xs, e, r⟩ => ⟨xs, h _ e (fun _ z => by cases z), r.same g⟩
  | .obj _ _, ⟨C, dx, fs, m, e, r⟩ => ⟨C, dx, fs, m, h _ e (fun _ z => by cases z), r.same g⟩
theorem OwAt.rep {G H G' : Hp} {a : Addr} (g : Same G G') (h : ∀ o, H a = .some o → G' a = .some o) : ∀ {d : D}, OwAt K mg G H a d → Rep K mg G' (.ref a) d
  | .lst _, ⟨xs, e, r⟩ => .lst (h _ e) (r.same g)
  | .obj _ _, ⟨C, dx, fs, m, e, r⟩ => .obj m (h _ e) (r.same g)

def SlOk (K : PySem.W.Frag) (mg : Str → Option Value) (G H : Hp) (o : Option V) : Sl → Prop
  | .no => True
  | .exn a => o = some (.ref a)
  | .sh d => ∃ v, o = some v ∧ Rep K mg G v d
  | .ow d => ∃ a, o = some (.ref a) ∧ G a = none ∧ OwAt K mg G H a d

structure Rel (K : PySem.W.Frag) (mg : Str → Option Value) (G H : Hp) (ρ : En) (σ : L2.St) : Prop where
  sub : Same G H
  tabs : Tabs K G H
  len : σ.length = ρ.length
  at_ : ∀ (i : Nat) (s : Sl) (o : Option V), ρ[i]? = some s → σ[i]? = some o → SlOk K mg G H o s
  apart : ∀ (i j : Nat) (a : Addr) (d e : D), ρ[i]? = some (.ow d) → ρ[j]? = some (.ow e) → σ[i]? = some (some (.ref a)) → σ[j]? = some (some (.ref a)) → i = j

theorem SlOk.ext {G H G' H' : Hp} {o : Option V} (x : Ext G H G' H') : ∀ {s : Sl}, SlOk K mg G H o s → SlOk K mg G' H' o s
  | .no, _ => trivial
  | .exn _, h => h
  | .sh d, ⟨v, e, r⟩ => ⟨v, e, r.same x.gg⟩
  | .ow d, ⟨a, e, g, r⟩ => by
    obtain ⟨u, hu⟩ := r.ex
    exact ⟨a, e, x.nc a u hu g, r.same x.gg fun o q n => x.hh.ob _ _ q n⟩
theorem Tabs.ext {G H G' H' : Hp} (t : Tabs K G H) (x : Ext G H G' H') : Tabs K G' H' := fun P h => by
  obtain ⟨⟨ps, e, ok⟩, g⟩ := t P h
  exact ⟨x.hh.tb P ⟨ps, e, ok⟩, x.nc P _ e g⟩
theorem Rel.ext {G H G' H' : Hp} {ρ : En} {σ : L2.St} (R : Rel K mg G H ρ σ) (x : Ext G H G' H') : Rel K mg G' H' ρ σ :=
  ⟨x.gh, R.tabs.ext x, R.len, fun i s o h1 h2 => (R.at_ i s o h1 h2).ext x, R.apart⟩
theorem Rel.get {G H : Hp} {ρ : En} {σ : L2.St} (R : Rel K mg G H ρ σ) {i : Nat} {s : Sl} (h : ρ[i]? = some s) : ∃ o, σ[i]? = some o ∧ SlOk K mg G H o s := by
  have hi : i < ρ.length := (List.getElem?_eq_some_iff.mp h).1
  have hs : i < σ.length := by rw [R.len]; exact hi
  exact ⟨σ[i], List.getElem?_eq_getElem hs, R.at_ i s _ h (List.getElem?_eq_getElem hs)⟩
theorem Rel.set {G H : Hp} {ρ : En} {σ : L2.St} (R : Rel K mg G H ρ σ) (i : Nat) {v : V} {d : D} (r : Rep K mg G v d) : Rel K mg G H (ρ.set i (.sh d)) (σ.set i (some v)) := by
  refine ⟨R.sub, R.tabs, by simp [R.len], fun j s o h1 h2 => ?_, fun j k a d' e' h1 h2 h3 h4 => ?_⟩
  · by_cases hj : i = j
    · subst hj
      have hi : i < (ρ.set i (.sh d)).length := (List.getElem?_eq_some_iff.mp h1).1
      have hr : i < ρ.length := by simpa using hi
      rw [List.getElem?_set_self hr] at h1
      rw [List.getElem?_set_self (by rw [R.len]; exact hr)] at h2
      cases h1; cases h2
      exact ⟨v, rfl, r⟩
    · rw [List.getElem?_set_ne hj] at h1 h2
      exact R.at_ j s o h1 h2
  · have nj : ∀ {m : Nat} {y : D}, (ρ.set i (.sh d))[m]? = some (.ow y) → i ≠ m := fun {m y} h e => by
      subst e
      have hi : i < (ρ.set i (.sh d)).length := (List.getElem?_eq_some_iff.mp h).1
      rw [List.getElem?_set_self (by simpa using hi)] at h
      cases h
    have n1 := nj h1
    have n2 := nj h2
    rw [List.getElem?_set_ne n1] at h1 h3
    rw [List.getElem?_set_ne n2] at h2 h4
    exact R.apart j k a d' e' h1 h2 h3 h4
theorem Rel.setO {G H : Hp} {ρ : En} {σ : L2.St} (R : Rel K mg G H ρ σ) (i : Nat) {p : Addr} {d : D} (g : G p = none) (r : OwAt K mg G H p d)
    (new : ∀ (j : Nat) (e : D), ρ[j]? = some (.ow e) → σ[j]? ≠ some (some (.ref p))) : Rel K mg G H (ρ.set i (.ow d)) (σ.set i (some (.ref p))) := by
  refine ⟨R.sub, R.tabs, by simp [R.len], fun j s o h1 h2 => ?_, fun j k a d' e' h1 h2 h3 h4 => ?_⟩
  · by_cases hj : i = j
    · subst hj
      have hi : i < (ρ.set i (.ow d)).length := (List.getElem?_eq_some_iff.mp h1).1
      have hr : i < ρ.length := by simpa using hi
      rw [List.getElem?_set_self hr] at h1
      rw [List.getElem?_set_self (by rw [R.len]; exact hr)] at h2
      cases h1; cases h2
      exact ⟨p, rfl, g, r⟩
    · rw [List.getElem?_set_ne hj] at h1 h2
      exact R.at_ j s o h1 h2
  · by_cases hj : i = j
    · by_cases hk : i = k
      · exact hj.symm.trans hk
      · subst hj
        have hi : i < σ.length := by simpa using (List.getElem?_eq_some_iff.mp h3).1
        rw [List.getElem?_set_self hi] at h3
        cases h3
        rw [List.getElem?_set_ne hk] at h2 h4
        exact absurd h4 (new k e' h2)
    · by_cases hk : i = k
      · subst hk
        have hi : i < σ.length := by simpa using (List.getElem?_eq_some_iff.mp h4).1
        rw [List.getElem?_set_self hi] at h4
        cases h4
        rw [List.getElem?_set_ne hj] at h1 h3
        exact absurd h3 (new j d' h1)
      · rw [List.getElem?_set_ne hj] at h1 h3
        rw [List.getElem?_set_ne hk] at h2 h4
        exact R.apart j k a d' e' h1 h2 h3 h4
theorem Rel.clear {G H : Hp} {ρ : En} {σ : L2.St} (R : Rel K mg G H ρ σ) (i : Nat) : Rel K mg G H (ρ.set i .no) (σ.set i none) := by
  refine ⟨R.sub, R.tabs, by simp [R.len], fun j s o h1 h2 => ?_, fun j k a d' e' h1 h2 h3 h4 => ?_⟩
  · by_cases hj : i = j
    · subst hj
      have hi : i < (ρ.set i .no).length := (List.getElem?_eq_some_iff.mp h1).1
      have hr : i < ρ.length := by simpa using hi
      rw [List.getElem?_set_self hr] at h1
      cases h1
      trivial
    · rw [List.getElem?_set_ne hj] at h1 h2
      exact R.at_ j s o h1 h2
  · have nj : ∀ {m : Nat} {y : D}, (ρ.set i .no)[m]? = some (.ow y) → i ≠ m := fun {m y} h e => by
      subst e
      have hi : i < (ρ.set i .no).length := (List.getElem?_eq_some_iff.mp h).1
      rw [List.getElem?_set_self (by simpa using hi)] at h
      cases h
    have n1 := nj h1
    have n2 := nj h2
    rw [List.getElem?_set_ne n1] at h1 h3
    rw [List.getElem?_set_ne n2] at h2 h4
    exact R.apart j k a d' e' h1 h2 h3 h4
def freeze (i : Nat) (ρ : En) : En := match ρ[i]? with
  | some (.ow d) => ρ.set i (.sh d)
  | _ => ρ
theorem Rel.freeze {G H : Hp} {ρ : En} {σ : L2.St} (R : Rel K mg G H ρ σ) (i : Nat) {d : D} (h : ρ[i]? = some (.ow d)) :
    ∃ a G', σ[i]? = some (some (.ref a)) ∧ G a = none ∧ (∃ o, H a = some o ∧ G' = upd G a o) ∧ Rep K mg G' (.ref a) d ∧ Rel K mg G' H (ρ.set i (.sh d)) σ := by
  obtain ⟨o, ho, a, rfl, ga, ow⟩ := R.get h
  obtain ⟨u, hu⟩ := ow.ex
  have gg : Same G (upd G a u) := fun b x e => by rw [upd_ne (ne_of_none e ga)]; exact e
  have gh : Same (upd G a u) H := fun b x e => by
    by_cases hb : b = a
    · subst hb; rw [upd_same] at e; rw [hu]; exact e
    · rw [upd_ne hb] at e; exact R.sub _ _ e
  have rp : Rep K mg (upd G a u) (.ref a) d := ow.rep gg fun o q => by rw [hu] at q; cases q; exact upd_same
  refine ⟨a, upd G a u, ho, ga, ⟨u, hu, rfl⟩, rp, ⟨gh, fun P hP => ⟨(R.tabs P hP).1, by
    obtain ⟨⟨ps, e, _⟩, g0⟩ := R.tabs P hP
    rw [upd_ne fun z => ow.notTab ps (by rw [← z]; exact e)]
    exact g0⟩, by simp [R.len], fun j s o' h1 h2 => ?_, fun j k b d' e' h1 h2 h3 h4 => ?_⟩⟩
  · by_cases hj : i = j
    · subst hj
      rw [List.getElem?_set_self (List.getElem?_eq_some_iff.mp h).1] at h1
      cases h1
      rw [ho] at h2; cases h2
      exact ⟨_, rfl, rp⟩
    · rw [List.getElem?_set_ne hj] at h1
      have q := R.at_ j s o' h1 h2
      cases s with
      | no => trivial
      | exn _ => exact q
      | sh d' => obtain ⟨v, e, r⟩ := q; exact ⟨v, e, r.same gg⟩
      | ow d' =>
        obtain ⟨b, e, gb, r⟩ := q
        subst e
        refine ⟨b, rfl, ?_, r.same gg fun o q _ => q⟩
        rw [upd_ne fun z => hj (R.apart i j a d d' h h1 ho (by rw [h2, z]))]
        exact gb
  · have nj : ∀ {m : Nat} {y : D}, (ρ.set i (.sh d))[m]? = some (.ow y) → i ≠ m := fun {m y} h e => by
      subst e
      have hi : i < (ρ.set i (.sh d)).length := (List.getElem?_eq_some_iff.mp h).1
      rw [List.getElem?_set_self (by simpa using hi)] at h
      cases h
    have n1 := nj h1
    have n2 := nj h2
    rw [List.getElem?_set_ne n1] at h1
    rw [List.getElem?_set_ne n2] at h2
    exact R.apart j k b d' e' h1 h2 h3 h4

/-! ### what an expression computes -/
def PostE (K : PySem.W.Frag) (mg : Str → Option Value) (W : XK) (G H : Hp) (Q : VK) : Oc D → Prop
  | .st => False
  | .ok d => ∀ v G' H', Ext G H G' H' → Rep K mg G' v d → Q v H'
  | .ex c => ∀ C G' H', Ext G H G' H' → mg c = some (.ref C) → W (.ref C) none H'
def tE (K : PySem.W.Frag) (mg : Str → Option Value) (W : WX) (f : En → Oc D) : TE := fun σ H Q => ∃ G ρ, Rel K mg G H ρ σ ∧ PostE K mg (fun c d H' => W c d σ H') G H Q (f ρ)
def PostQ (K : PySem.W.Frag) (mg : Str → Option Value) (W : XK) (G H : Hp) (Q : VK) : Oc D → Prop
  | .st => False
  | .ok d => ∀ v G' H', Ext G H G' H' → (Rep K mg G' v d ∨ ∃ a, v = .ref a ∧ G' a = none ∧ OwAt K mg G' H' a d) → Q v H'
  | .ex c => ∀ C G' H', Ext G H G' H' → mg c = some (.ref C) → W (.ref C) none H'
def tQ (K : PySem.W.Frag) (mg : Str → Option Value) (W : WX) (f : En → Oc D) : TE := fun σ H Q => ∃ G ρ, Rel K mg G H ρ σ ∧ PostQ K mg (fun c d H' => W c d σ H') G H Q (f ρ)
def PostF (K : PySem.W.Frag) (mg : Str → Option Value) (W : XK) (G H : Hp) (Q : VK) : Oc D → Prop
  | .st => False
  | .ok d => ∀ a G' H', Ext G H G' H' → H a = none → G' a = none → OwAt K mg G' H' a d → Q (.ref a) H'
  | .ex c => ∀ C G' H', Ext G H G' H' → mg c = some (.ref C) → W (.ref C) none H'
def tF (K : PySem.W.Frag) (mg : Str → Option Value) (W : WX) (f : En → Oc D) : TE := fun σ H Q => ∃ G ρ, Rel K mg G H ρ σ ∧ PostF K mg (fun c d H' => W c d σ H') G H Q (f ρ)
def PostA (K : PySem.W.Frag) (mg : Str → Option Value) (W : XK) (G H : Hp) (Q : List V → Hp → Prop) : Oc (List D) → Prop
  | .st => False
  | .ok ds => ∀ vs G' H', Ext G H G' H' → RepL K mg G' vs ds → Q vs H'
  | .ex c => ∀ C G' H', Ext G H G' H' → mg c = some (.ref C) → W (.ref C) none H'
def tA (K : PySem.W.Frag) (mg : Str → Option Value) (W : WX) (f : En → Oc (List D)) : TA := fun σ H Q => ∃ G ρ, Rel K mg G H ρ σ ∧ PostA K mg (fun c d H' => W c d σ H') G H Q (f ρ)
def PostT (K : PySem.W.Frag) (mg : Str → Option Value) (W : XK) (G H : Hp) (Q : Bool → Hp → Prop) : Oc Bool → Prop
  | .st => False
  | .ok b => ∀ G' H', Ext G H G' H' → Q b H'
  | .ex c => ∀ C G' H', Ext G H G' H' → mg c = some (.ref C) → W (.ref C) none H'
def tT (K : PySem.W.Frag) (mg : Str → Option Value) (W : WX) (f : En → Oc Bool) : TT := fun σ H Q => ∃ G ρ, Rel K mg G H ρ σ ∧ PostT K mg (fun c d H' => W c d σ H') G H Q (f ρ)

theorem PostE.imp {W : XK} {G H G1 H1 : Hp} {Q Q' : VK} {o : Oc D} (x : Ext G H G1 H1) (h : PostE K mg W G H Q o) (q : ∀ v H, Q v H → Q' v H) : PostE K mg W G1 H1 Q' o := by
  cases o with
  | st => exact h
  | ok d => exact fun v G' H' e r => q _ _ (h v G' H' (x.trans e) r)
  | ex c => exact fun C G' H' e m => h C G' H' (x.trans e) m

abbrev SE (X : Cx) (W : WX) (e : Expr) (f : En → Oc D) : Prop := PE X e (tE X.K X.mg W f)
abbrev SQ (X : Cx) (W : WX) (e : Expr) (f : En → Oc D) : Prop := PE X e (tQ X.K X.mg W f)
abbrev SF (X : Cx) (W : WX) (e : Expr) (f : En → Oc D) : Prop := PE X e (tF X.K X.mg W f)
abbrev SA (X : Cx) (W : WX) (es : List Expr) (f : En → Oc (List D)) : Prop := PA X es (tA X.K X.mg W f)
abbrev STT (X : Cx) (W : WX) (e : Expr) (f : En → Oc Bool) : Prop := PT X e (tT X.K X.mg W f)
abbrev SW (X : Cx) (W : WX) (e : Expr) (f : En → Oc Bool) : Prop := PW X e (tT X.K X.mg W f)

theorem PE.weak {X : Cx} {e : Expr} {t u : TE} (h : PE X e t) (w : ∀ σ H Q, u σ H Q → t σ H Q) : PE X e u := ⟨fun pins s σ H Q I q => h.run pins s σ H Q I (w _ _ _ q)⟩
theorem PA.weak {X : Cx} {e : List Expr} {t u : TA} (h : PA X e t) (w : ∀ σ H Q, u σ H Q → t σ H Q) : PA X e u := ⟨fun pos pins s σ H Q I q => h.run pos pins s σ H Q I (w _ _ _ q)⟩
theorem PT.weak {X : Cx} {e : Expr} {t u : TT} (h : PT X e t) (w : ∀ σ H Q, u σ H Q → t σ H Q) : PT X e u := ⟨fun pins s σ H Q I q => h.run pins s σ H Q I (w _ _ _ q)⟩
theorem PW.weak {X : Cx} {e : Expr} {t u : TT} (h : PW X e t) (w : ∀ σ H Q, u σ H Q → t σ H Q) : PW X e u := ⟨fun whole pins s σ H Q I q => h.run whole pins s σ H Q I (w _ _ _ q)⟩
theorem PS.weak {X : Cx} {e : Stmt} {t u : TS} (h : PS X e t) (w : ∀ D σ H, u D σ H → t D σ H) : PS X e u := ⟨fun pins s σ H D I q => h.run pins s σ H D I (w _ _ _ q)⟩
theorem PSs.weak {X : Cx} {e : List Stmt} {t u : TS} (h : PSs X e t) (w : ∀ D σ H, u D σ H → t D σ H) : PSs X e u := ⟨fun pins s σ H D I q => h.run pins s σ H D I (w _ _ _ q)⟩

abbrev up (U : XK) : WX := fun c d _ H => U c d H
abbrev E0W : WX := fun _ _ _ _ => False
structure Ctx (X : Cx) (W : WX) : Prop where
  calm : X.calm = true
  nd : X.N.Nodup
  tk : Takes X W
  units : X.A.units + 65 < cLine

section
variable {X : Cx} {W : WX} {a b c : Expr} {e : Expr} {es : List Expr} {f g h : En → Oc D} {pos : Pos}

/-! ### from one judgement to another -/
theorem SE.toQ (h : SE X W e f) : SQ X W e f := PE.weak h fun σ H Q ⟨G, ρ, R, p⟩ => by
  refine ⟨G, ρ, R, ?_⟩
  revert p
  cases f ρ with
  | st => exact id
  | ok d => exact fun p v G' H' x r => p v G' H' x (.inl r)
  | ex c => exact id
theorem SF.toE (h : SF X W e f) : SE X W e f := PE.weak h fun σ H Q ⟨G, ρ, R, p⟩ => by
  refine ⟨G, ρ, R, ?_⟩
  revert p
  cases f ρ with
  | st => exact id
  | ok d =>
    intro p a G' H' x ha ga ow
    obtain ⟨u, hu⟩ := ow.ex
    have gg : Same G' (upd G' a u) := fun b o e => by rw [upd_ne (ne_of_none e ga)]; exact e
    refine p (.ref a) (upd G' a u) H' ⟨x.hh, x.gg.trans gg, fun b o e => ?_, fun b o hb gb => ?_⟩ (ow.rep gg fun o q => by rw [hu] at q; cases q; exact upd_same)
    · by_cases hb : b = a
      · subst hb; rw [upd_same] at e; rw [hu]; exact e
      · rw [upd_ne hb] at e; exact x.gh _ _ e
    · rw [upd_ne (ne_of_none hb ha)]; exact x.nc b o hb gb
  | ex c => exact id

/-! ### names and constants -/
def cst (d : D) : En → Oc D := fun _ => .ok d
def vr (i : Nat) : En → Oc D := fun ρ => match ρ[i]? with | some (.sh d) => .ok d | _ => .st
def vo (i : Nat) : En → Oc D := fun ρ => match ρ[i]? with | some (.sh d) => .ok d | some (.ow d) => .ok d | _ => .st
theorem se_cst {v : V} {d : D} (h : PE X e (tC v)) (r : ∀ G, Rep X.K X.mg G v d) : SE X W e (cst d) := PE.weak h fun σ H Q ⟨G, ρ, R, p⟩ => p v G H (.refl R.sub) (r G)
theorem se_int {i j} : SE X W (.Constant (.int i) j pos) (cst (.int i)) := se_cst pe_int fun _ => .int i
theorem se_bl {i j} : SE X W (.Constant (.bool i) j pos) (cst (.bl i)) := se_cst pe_bl fun _ => .bl i
theorem se_non {j} : SE X W (.Constant .none j pos) (cst .non) := se_cst pe_non fun _ => .non
theorem se_str {i j} : SE X W (.Constant (.str i) j pos) (cst (.str i)) := se_cst pe_str fun _ => .str i
theorem se_var {i : Nat} {x : Str} (h : PE X (.Name x pos) (tVar i)) : SE X W (.Name x pos) (vr i) := PE.weak h fun σ H Q ⟨G, ρ, R, p⟩ => by
  revert p
  unfold vr
  cases q : ρ[i]? with
  | none => exact False.elim
  | some s =>
    cases s with
    | no => exact False.elim
    | exn _ => exact False.elim
    | ow d => exact False.elim
    | sh d =>
      intro p
      obtain ⟨o, ho, v, rfl, r⟩ := R.get q
      exact ⟨v, ho, p v G H (.refl R.sub) r⟩
theorem sq_var {i : Nat} {x : Str} (h : PE X (.Name x pos) (tVar i)) : SQ X W (.Name x pos) (vo i) := PE.weak h fun σ H Q ⟨G, ρ, R, p⟩ => by
  revert p
  unfold vo
  cases q : ρ[i]? with
  | none => exact False.elim
  | some s =>
    cases s with
    | no => exact False.elim
    | exn _ => exact False.elim
    | ow d =>
      intro p
      obtain ⟨o, ho, v, rfl, r⟩ := R.get q
      exact ⟨.ref v, ho, p _ G H (.refl R.sub) (.inr ⟨v, rfl, r⟩)⟩
    | sh d =>
      intro p
      obtain ⟨o, ho, v, rfl, r⟩ := R.get q
      exact ⟨v, ho, p v G H (.refl R.sub) (.inl r)⟩

/-! ### operations by values -/
def un (F : D → Oc D) (f : En → Oc D) : En → Oc D := fun ρ => bd (f ρ) F
def bi (F : D → D → Oc D) (f g : En → Oc D) : En → Oc D := fun ρ => bd (f ρ) fun x => bd (g ρ) fun y => F x y
def RepQ (K : PySem.W.Frag) (mg : Str → Option Value) (G H : Hp) (v : V) (d : D) : Prop := Rep K mg G v d ∨ ∃ a, v = .ref a ∧ G a = none ∧ OwAt K mg G H a d
theorem RepQ.ext {G H G' H' : Hp} {v : V} {d : D} (x : Ext G H G' H') : RepQ K mg G H v d → RepQ K mg G' H' v d
  | .inl r => .inl (r.same x.gg)
  | .inr ⟨a, e, g, r⟩ => by
    obtain ⟨u, hu⟩ := r.ex
    exact .inr ⟨a, e, x.nc a u hu g, r.same x.gg fun o q n => x.hh.ob _ _ q n⟩
theorem RepQ.lst {G H : Hp} {v : V} {ds : List D} (s : Same G H) : RepQ K mg G H v (.lst ds) → ∃ a xs, v = .ref a ∧ H a = some (.lst xs) ∧ RepL K mg G xs ds
  | .inl (.lst h r) => ⟨_, _, rfl, s _ _ h, r⟩
  | .inr ⟨a, e, _, xs, h, r⟩ => ⟨a, xs, e, h, r⟩
theorem RepQ.tup {G H : Hp} {v : V} {ds : List D} (s : Same G H) : RepQ K mg G H v (.tup ds) → ∃ a xs, v = .ref a ∧ SqT K H a xs ∧ RepL K mg G xs ds
  | .inl (.tup h r) => ⟨_, _, rfl, SqT.same s h, r⟩
theorem RepQ.fz {G H : Hp} {v : V} {ds : List D} (s : Same G H) : RepQ K mg G H v (.fz ds) → ∃ a xs, v = .ref a ∧ SqL K H a xs ∧ RepL K mg G xs ds
  | .inl (.fz h r) => ⟨_, _, rfl, s.seq h, r⟩
def items : D → Option (List D)
  | .lst ds => some ds
  | .tup ds => some ds
  | .fz ds => some ds
  | _ => none
theorem RepQ.seq {G H : Hp} {v : V} {d : D} {ds : List D} (s : Same G H) (r : RepQ K mg G H v d) (h : items d = some ds) : ∃ a xs, v = .ref a ∧ (SqL K H a xs ∨ SqT K H a xs) ∧ RepL K mg G xs ds := by
  cases d with
  | lst es => cases h; obtain ⟨a, xs, e, q, r⟩ := r.lst s; exact ⟨a, xs, e, .inl (SqL.of q), r⟩
  | tup es => cases h; obtain ⟨a, xs, e, q, r⟩ := r.tup s; exact ⟨a, xs, e, .inr q, r⟩
  | fz es => cases h; obtain ⟨a, xs, e, q, r⟩ := r.fz s; exact ⟨a, xs, e, .inl q, r⟩
  | _ => cases h

theorem se_op2 {r : R2} {F : D → D → Oc D} (rule : ∀ {ta tb : TE}, PE X a ta → PE X b tb → PE X e (tOp r ta tb))
    (hr : ∀ {G H x y d1 d2 Q U}, Same G H → RepQ X.K X.mg G H x d1 → RepQ X.K X.mg G H y d2 → PostE X.K X.mg U G H Q (F d1 d2) → r x y H Q)
    (ha : SQ X W a f) (hb : SQ X W b g) : SE X W e (bi F f g) := PE.weak (rule ha hb) fun σ H Q ⟨G, ρ, R, p⟩ => by
  refine ⟨G, ρ, R, ?_⟩
  revert p
  unfold bi
  cases f ρ with
  | st => exact id
  | ex c => exact id
  | ok d1 =>
    intro p x G1 H1 x1 r1
    refine ⟨G1, ρ, R.ext x1, ?_⟩
    revert p
    simp only [bd_ok]
    cases g ρ with
    | st => exact id
    | ex c => exact fun p C G' H' e m => p C G' H' (x1.trans e) m
    | ok d2 =>
      intro p y G2 H2 x2 r2
      exact hr x2.gh (RepQ.ext x2 r1) r2 (PostE.imp (x1.trans x2) p fun _ _ q => q)
theorem sf_op2 {r : R2} {F : D → D → Oc D} (rule : ∀ {ta tb : TE}, PE X a ta → PE X b tb → PE X e (tOp r ta tb))
    (hr : ∀ {G H x y d1 d2 Q U}, Same G H → RepQ X.K X.mg G H x d1 → RepQ X.K X.mg G H y d2 → PostF X.K X.mg U G H Q (F d1 d2) → r x y H Q)
    (ha : SQ X W a f) (hb : SQ X W b g) : SF X W e (bi F f g) := PE.weak (rule ha hb) fun σ H Q ⟨G, ρ, R, p⟩ => by
  refine ⟨G, ρ, R, ?_⟩
  revert p
  unfold bi
  cases f ρ with
  | st => exact id
  | ex c => exact id
  | ok d1 =>
    intro p x G1 H1 x1 r1
    refine ⟨G1, ρ, R.ext x1, ?_⟩
    revert p
    simp only [bd_ok]
    cases g ρ with
    | st => exact id
    | ex c => exact fun p C G' H' e m => p C G' H' (x1.trans e) m
    | ok d2 =>
      intro p y G2 H2 x2 r2
      refine hr (U := fun c d H' => W c d σ H') x2.gh (RepQ.ext x2 r1) r2 ?_
      revert p
      simp only [bd_ok]
      have x12 := x1.trans x2
      cases F d1 d2 with
      | st => exact id
      | ex c => exact fun p C G' H' e m => p C G' H' (x12.trans e) m
      | ok d => exact fun p a G' H' x ha ga ow => p a G' H' (x12.trans x) (x12.hh.free ha) ga ow
end
end Fx

set_option Elab.async false
set_option linter.all false
set_option maxRecDepth 100000
set_option maxHeartbeats 4000000
/-! Fx1: operations. -/
namespace Fx
open PySem PySem.Spec PyProof.Rows L2
variable {K : PySem.W.Frag} {mg : Str → Option Value}

/-! ### plain data as PyData -/
mutual
def toPD : D → Option PyData
  | .non => some .none
  | .bl b => some (.bool b)
  | .int i => some (.int i)
  | .str x => some (.str x)
  | .lst ds => (toPDs ds).map .list
  | .tup ds => (toPDs ds).map .tuple
  | .fz ds => (toPDs ds).map .list
  | .obj _ _ => none
  | .ty _ => none
def toPDs : List D → Option (List PyData)
  | [] => some []
  | d :: ds => match toPD d, toPDs ds with
    | some p, some q => some (p :: q)
    | _, _ => none
end
mutual
theorem Rep.dp {G H : Hp} (s : Same G H) : ∀ {v : V} {d : D} {p : PyData}, Rep K mg G v d → toPD d = some p → Dp K H v p
  | _, .non, _, h, e => by cases h; cases e; exact .non
  | _, .bl b, _, h, e => by cases h; cases e; exact .bl b
  | _, .int i, _, h, e => by cases h; cases e; exact .int i
  | _, .str x, _, h, e => by cases h; cases e; exact .str x
  | _, .lst ds, p, h, e => by
    cases h with
    | lst hs r =>
      simp only [toPD] at e
      obtain ⟨q, hq, e2⟩ := Option.map_eq_some_iff.mp e
      subst e2
      exact .lst (SqL.of (s _ _ hs)) (RepL.dp s r hq)
  | _, .tup ds, p, h, e => by
    cases h with
    | tup hs r =>
      simp only [toPD] at e
      obtain ⟨q, hq, e2⟩ := Option.map_eq_some_iff.mp e
      subst e2
      exact .tup (SqT.same s hs) (RepL.dp s r hq)
  | _, .fz ds, p, h, e => by
    cases h with
    | fz hs r =>
      simp only [toPD] at e
      obtain ⟨q, hq, e2⟩ := Option.map_eq_some_iff.mp e
      subst e2
      exact .lst (s.seq hs) (RepL.dp s r hq)
theorem RepL.dp {G H : Hp} (s : Same G H) : ∀ {vs : List V} {ds : List D} {ps : List PyData}, RepL K mg G vs ds → toPDs ds = some ps → DpAll K H vs ps
  | _, [], _, h, e => by cases h; cases e; exact .nil
  | _, d :: ds, ps, h, e => by
    cases h with
    | cons r t =>
      simp only [toPDs] at e
      cases q1 : toPD d with
      | none => rw [q1] at e; cases e
      | some p =>
        cases q2 : toPDs ds with
        | none => rw [q1, q2] at e; cases e
        | some q =>
          rw [q1, q2] at e
          cases e
          exact .cons (Rep.dp s r q1) (RepL.dp s t q2)
end
theorem RepQ.dp {G H : Hp} (s : Same G H) {v : V} {d : D} {p : PyData} (h : RepQ K mg G H v d) (e : toPD d = some p) : Dp K H v p := by
  rcases h with h | ⟨a, rfl, ga, ow⟩
  · exact h.dp s e
  · cases d with
    | lst ds =>
      obtain ⟨xs, h1, r⟩ := ow
      simp only [toPD] at e
      obtain ⟨q, hq, e2⟩ := Option.map_eq_some_iff.mp e
      subst e2
      exact .lst (SqL.of h1) (r.dp s hq)
    | _ => first | exact ow.elim | cases e

/-! ### two-place operations as functions -/
def eqD (d e : D) : Oc D := match toPD d, toPD e with
  | some p, some q => chk (SeqAt.shaped p && SeqAt.shaped q) (.ok (.bl (PyData.eqv p q)))
  | _, _ => .st
def neD (d e : D) : Oc D := match toPD d, toPD e with
  | some p, some q => chk (SeqAt.shaped p && SeqAt.shaped q) (.ok (.bl (!PyData.eqv p q)))
  | _, _ => .st
def inB (d e : D) : Option Bool := match d, e with
  | .str x, .str y => some (!(Builtin.Str.occurrences y x 0 y.length 1).isEmpty)
  | d, e => match toPD d, toPD e with
    | some p, some (.list ps) => if SeqAt.shaped p && SeqAt.shaped (.list ps) then some (ps.any fun z => PyData.eqv z p) else none
    | some p, some (.tuple ps) => if SeqAt.shaped p && SeqAt.shaped (.tuple ps) then some (ps.any fun z => PyData.eqv z p) else none
    | _, _ => none
def inD (d e : D) : Oc D := match inB d e with
  | some b => .ok (.bl b)
  | none => .st
def ninD (d e : D) : Oc D := match inB d e with
  | some b => .ok (.bl (!b))
  | none => .st
def cmpD (p : Int → Int → Bool) (d e : D) : Oc D := match d, e with
  | .int i, .int j => .ok (.bl (p i j))
  | _, _ => .st
def isNon : D → Bool
  | .non => true
  | _ => false
def isN (d e : D) : Oc D := match e with
  | .non => .ok (.bl (isNon d))
  | _ => .st
def notN (d e : D) : Oc D := match e with
  | .non => .ok (.bl (!isNon d))
  | _ => .st
def addD (d e : D) : Oc D := match d, e with
  | .int i, .int j => .ok (.int (i + j))
  | .str x, .str y => chk (decide (x.length + y.length ≤ sizeLine)) (.ok (.str (x ++ y)))
  | .lst xs, .lst ys => chk (decide (xs.length + ys.length ≤ sizeLine)) (.ok (.lst (xs ++ ys)))
  | .tup xs, .tup ys => chk (decide (xs.length + ys.length ≤ sizeLine)) (.ok (.tup (xs ++ ys)))
  | _, _ => .st
def subD (d e : D) : Oc D := match d, e with
  | .int i, .int j => .ok (.int (i - j))
  | _, _ => .st
def mulD (d e : D) : Oc D := match d, e with
  | .int i, .int j => chk (decide ((-(2 ^ 64) < i ∧ i < 2 ^ 64) ∨ (-(2 ^ 64) < j ∧ j < 2 ^ 64))) (.ok (.int (i * j)))
  | .lst xs, .int k => chk (decide (-(2 ^ 63) ≤ k ∧ k < 2 ^ 63 ∧ xs.length * k.toNat ≤ sizeLine)) (.ok (.lst (List.replicate k.toNat xs).flatten))
  | _, _ => .st
def fdivD (d e : D) : Oc D := match d, e with
  | .int i, .int j => chk (decide (0 < j ∧ j < 1073741824)) (.ok (.int (i / j)))
  | _, _ => .st
def modD (d e : D) : Oc D := match d, e with
  | .int i, .int j => chk (decide (0 < j)) (.ok (.int (i % j)))
  | _, _ => .st
def powD (d e : D) : Oc D := match d, e with
  | .int i, .int j => chk (decide (0 ≤ j ∧ j ≤ 1000000 ∧ i.natAbs < 2 ^ 64)) (.ok (.int (i ^ j.toNat)))
  | _, _ => .st
def ixD (d e : D) : Oc D := match d, e with
  | .str z, .int i => chk (decide (z.length ≤ sizeLine)) (match atI z.cps.toList i with
    | some c => .ok (.str ⟨#[c]⟩)
    | none => .st)
  | d, .int i => match items d with
    | some ds => match atI ds i with
      | some x => .ok x
      | none => .st
    | none => .st
  | _, _ => .st

theorem chk_some {α : Type} {b : Bool} {o : Oc α} {P : Oc α → Prop} (hst : ¬ P .st) (h : P (chk b o)) : b = true ∧ P o := by
  cases b with
  | true => exact ⟨rfl, h⟩
  | false => exact absurd h hst
theorem repL_rep {G : Hp} {xs : List V} {ds : List D} (r : RepL K mg G xs ds) : ∀ k : Nat, RepL K mg G (List.replicate k xs).flatten (List.replicate k ds).flatten
  | 0 => .nil
  | k + 1 => by
    rw [List.replicate_succ, List.flatten_cons, List.replicate_succ, List.flatten_cons]
    exact r.append (repL_rep r k)

section
variable {X : Cx} {W : WX} {U : XK} {a b c e : Expr} {es : List Expr} {f g h : En → Oc D} {pos : Pos}
variable {G H : Hp} {x y : V} {d1 d2 : D} {Q : VK}

theorem PostE.here {d : D} {v : V} (h : PostE K mg U G H Q (.ok d)) (s : Same G H) (r : Rep K mg G v d) : Q v H := h v G H (.refl s) r

theorem dnil : ∀ {x : V}, Rep K mg G x .non → x = .non := fun h => by cases h; rfl
theorem PostE.chk {b : Bool} {o : Oc D} (h : PostE K mg U G H Q (chk b o)) : b = true ∧ PostE K mg U G H Q o := chk_some (P := PostE K mg U G H Q) (fun z => z) h
theorem PostF.chk {b : Bool} {o : Oc D} (h : PostF K mg U G H Q (Fx.chk b o)) : b = true ∧ PostF K mg U G H Q o := chk_some (P := PostF K mg U G H Q) (fun z => z) h
theorem PostE.newL {ds : List D} {xs : List V} (s : Same G H) (r : RepL K mg G xs ds) (h : PostE K mg U G H Q (.ok (.lst ds))) : ∀ p, H p = none → Q (.ref p) (upd H p (.lst xs)) := fun p hp => by
  have x := Ext.new (o := .lst xs) s hp
  exact h _ _ _ x (.lst upd_same (r.same x.gg))
theorem PostE.newT {ds : List D} {xs : List V} (s : Same G H) (r : RepL K mg G xs ds) (h : PostE K mg U G H Q (.ok (.tup ds))) : ∀ p, H p = none → Q (.ref p) (upd H p (.tup xs)) := fun p hp => by
  have x := Ext.new (o := .tup xs) s hp
  exact h _ _ _ x (.tup (SqT.of upd_same) (r.same x.gg))
theorem PostF.newL {ds : List D} {xs : List V} (s : Same G H) (r : RepL K mg G xs ds) (h : PostF K mg U G H Q (.ok (.lst ds))) : ∀ p, H p = none → Q (.ref p) (upd H p (.lst xs)) := fun p hp =>
  h p G _ (Ext.newH s hp) hp (s.free hp) ⟨xs, upd_same, r⟩

theorem se_eq (ha : SQ X W a f) (hb : SQ X W b g) (hu : X.A.units + 65 < cLine) : SE X W (.Compare a [.Eq] [b] pos) (bi eqD f g) :=
  se_op2 (fun ha hb => pe_cmpR (op_eqD (Nat.lt_of_succ_lt hu)) ha hb (nomark _)) (fun {G H x y d1 d2 Q U} s r1 r2 p => by
    unfold eqD at p
    cases e1 : toPD d1 with
    | none => rw [e1] at p; exact p.elim
    | some p1 =>
      cases e2 : toPD d2 with
      | none => rw [e1, e2] at p; exact p.elim
      | some p2 =>
        rw [e1, e2] at p
        obtain ⟨c, q⟩ := p.chk
        rw [Bool.and_eq_true] at c
        exact ⟨p1, p2, r1.dp s e1, r2.dp s e2, c.1, c.2, q.here s (.bl _)⟩) ha hb
theorem se_ne (ha : SQ X W a f) (hb : SQ X W b g) (hu : X.A.units + 65 < cLine) : SE X W (.Compare a [.NotEq] [b] pos) (bi neD f g) :=
  se_op2 (fun ha hb => pe_cmpR (op_neD (Nat.lt_of_succ_lt hu)) ha hb (nomark _)) (fun {G H x y d1 d2 Q U} s r1 r2 p => by
    unfold neD at p
    cases e1 : toPD d1 with
    | none => rw [e1] at p; exact p.elim
    | some p1 =>
      cases e2 : toPD d2 with
      | none => rw [e1, e2] at p; exact p.elim
      | some p2 =>
        rw [e1, e2] at p
        obtain ⟨c, q⟩ := p.chk
        rw [Bool.and_eq_true] at c
        exact ⟨p1, p2, r1.dp s e1, r2.dp s e2, c.1, c.2, q.here s (.bl _)⟩) ha hb
theorem op_inT (hu : X.A.units + 65 < cLine) : OpR X (compareOp .In) (fun x y H Q => ∃ d ds, Dp X.K H x d ∧ Dp X.K H y (.tuple ds) ∧ SeqAt.shaped d = true ∧ SeqAt.shaped (.tuple ds) = true ∧ Q (.bl (ds.any fun z => PyData.eqv z d)) H) := by
  intro pins s σ H x y v u Q I rx ry h
  obtain ⟨d, ds, hd, he, sd, se, q⟩ := h
  obtain ⟨as, r1⟩ := Dp.reads I d x v hd rx
  obtain ⟨bs, r2⟩ := Dp.reads I (.tuple ds) y u he ry
  exact SeqAt.in_tuple_reads r2 r1 (SeqAt.canLay_of_shaped (d := .list ds) se) (SeqAt.canLay_of_shaped sd) (room_in_shaped sd hu) ⟨.bl _, H, I, rfl, q⟩
theorem op_notInT (hu : X.A.units + 65 < cLine) : OpR X (compareOp .NotIn) (fun x y H Q => ∃ d ds, Dp X.K H x d ∧ Dp X.K H y (.tuple ds) ∧ SeqAt.shaped d = true ∧ SeqAt.shaped (.tuple ds) = true ∧ Q (.bl (!ds.any fun z => PyData.eqv z d)) H) := by
  intro pins s σ H x y v u Q I rx ry h
  obtain ⟨d, ds, hd, he, sd, se, q⟩ := h
  obtain ⟨as, r1⟩ := Dp.reads I d x v hd rx
  obtain ⟨bs, r2⟩ := Dp.reads I (.tuple ds) y u he ry
  exact SeqAt.notIn_tuple_reads r2 r1 (SeqAt.canLay_of_shaped (d := .list ds) se) (SeqAt.canLay_of_shaped sd) (room_in_shaped sd hu) ⟨.bl _, H, I, rfl, q⟩
end
end Fx

set_option Elab.async false
set_option linter.all false
set_option maxRecDepth 100000
set_option maxHeartbeats 4000000
/-! Fx2: the rules of the operations. -/
namespace Fx
open PySem PySem.Spec PyProof.Rows L2
variable {K : PySem.W.Frag} {mg : Str → Option Value}
theorem RepQ.int {G H : Hp} {v : V} {i : Int} : RepQ K mg G H v (.int i) → v = .int i
  | .inl h => by cases h; rfl
  | .inr ⟨_, _, _, z⟩ => z.elim
theorem RepQ.str {G H : Hp} {v : V} {i : Str} : RepQ K mg G H v (.str i) → v = .str i
  | .inl h => by cases h; rfl
  | .inr ⟨_, _, _, z⟩ => z.elim
theorem RepQ.bl {G H : Hp} {v : V} {i : Bool} : RepQ K mg G H v (.bl i) → v = .bl i
  | .inl h => by cases h; rfl
  | .inr ⟨_, _, _, z⟩ => z.elim
theorem RepQ.non {G H : Hp} {v : V} : RepQ K mg G H v .non → v = .non
  | .inl h => by cases h; rfl
  | .inr ⟨_, _, _, z⟩ => z.elim
theorem RepQ.ty {G H : Hp} {v : V} {n : String} : RepQ K mg G H v (.ty n) → v = .ty n
  | .inl h => by cases h; rfl
  | .inr ⟨_, _, _, z⟩ => z.elim
theorem RepQ.nonIff {G H : Hp} {v : V} {d : D} (r : RepQ K mg G H v d) : decide (v = .non) = isNon d := by
  rcases r with h | ⟨a, rfl, _, ow⟩
  · cases h <;> simp [isNon]
  · cases d with
    | non => exact ow.elim
    | _ => simp [isNon]
theorem RepQ.tupRep {G H : Hp} {v : V} {ds : List D} : RepQ K mg G H v (.tup ds) → Rep K mg G v (.tup ds)
  | .inl h => h
  | .inr ⟨_, _, _, z⟩ => z.elim
theorem RepQ.lstItems {G H : Hp} {v : V} {ds : List D} (s : Same G H) (r : RepQ K mg G H v (.lst ds)) : ∃ a xs, v = .ref a ∧ H a = some (.lst xs) ∧ RepL K mg G xs ds := r.lst s

section
variable {X : Cx} {W : WX} {U : XK} {a b c e : Expr} {es : List Expr} {f g h : En → Oc D} {pos : Pos}
variable {G H : Hp} {x y : V} {d1 d2 : D} {Q : VK}

theorem occ_same (i j : Str) : (!(Builtin.Str.occurrences j i 0 j.length 1).isEmpty) = (!(Builtin.Str.occurrences j i 0 j.length 1).isEmpty) := rfl
abbrev rInA (X : Cx) (neg : Bool) : R2 := fun x y H Q =>
  (∃ i j, x = .str i ∧ y = .str j ∧ Q (.bl (if neg then !(!(Builtin.Str.occurrences j i 0 j.length 1).isEmpty) else !(Builtin.Str.occurrences j i 0 j.length 1).isEmpty)) H) ∨
  (∃ d ds, Dp X.K H x d ∧ Dp X.K H y (.list ds) ∧ SeqAt.shaped d = true ∧ SeqAt.shaped (.list ds) = true ∧ Q (.bl (if neg then !ds.any fun z => PyData.eqv z d else ds.any fun z => PyData.eqv z d)) H) ∨
  (∃ d ds, Dp X.K H x d ∧ Dp X.K H y (.tuple ds) ∧ SeqAt.shaped d = true ∧ SeqAt.shaped (.tuple ds) = true ∧ Q (.bl (if neg then !ds.any fun z => PyData.eqv z d else ds.any fun z => PyData.eqv z d)) H)
theorem op_inA (hu : X.A.units + 65 < cLine) : OpR X (compareOp .In) (rInA X false) := op_in_str.or ((op_inD hu).or (op_inT hu))
theorem op_ninA (hu : X.A.units + 65 < cLine) : OpR X (compareOp .NotIn) (rInA X true) := op_notin_str.or ((op_notInD hu).or (op_notInT hu))
theorem inA_of {neg : Bool} {t : Bool} (s : Same G H) (r1 : RepQ X.K X.mg G H x d1) (r2 : RepQ X.K X.mg G H y d2) (e : inB d1 d2 = some t) (q : Q (.bl (if neg then !t else t)) H) : rInA X neg x y H Q := by
  unfold inB at e
  split at e
  · have e := Option.some.inj e
    exact .inl ⟨_, _, r1.str, r2.str, by rw [e]; exact q⟩
  · split at e
    · rename_i h1 h2
      split at e
      · rename_i hc
        rw [Bool.and_eq_true] at hc
        have e := Option.some.inj e
        exact .inr (.inl ⟨_, _, r1.dp s h1, r2.dp s h2, hc.1, hc.2, by rw [e]; exact q⟩)
      · cases e
    · rename_i h1 h2
      split at e
      · rename_i hc
        rw [Bool.and_eq_true] at hc
        have e := Option.some.inj e
        exact .inr (.inr ⟨_, _, r1.dp s h1, r2.dp s h2, hc.1, hc.2, by rw [e]; exact q⟩)
      · cases e
    · cases e
theorem se_in (ha : SQ X W a f) (hb : SQ X W b g) (hu : X.A.units + 65 < cLine) (hm : behindInMarks .In b = false := by rfl) : SE X W (.Compare a [.In] [b] pos) (bi inD f g) :=
  se_op2 (fun ha hb => pe_cmpR (op_inA hu) ha hb hm) (fun {G H x y d1 d2 Q U} s r1 r2 p => by
    unfold inD at p
    cases e : inB d1 d2 with
    | none => rw [e] at p; exact p.elim
    | some t => rw [e] at p; exact inA_of (neg := false) s r1 r2 e (p.here s (.bl _))) ha hb
theorem se_nin (ha : SQ X W a f) (hb : SQ X W b g) (hu : X.A.units + 65 < cLine) (hm : behindInMarks .NotIn b = false := by rfl) : SE X W (.Compare a [.NotIn] [b] pos) (bi ninD f g) :=
  se_op2 (fun ha hb => pe_cmpR (op_ninA hu) ha hb hm) (fun {G H x y d1 d2 Q U} s r1 r2 p => by
    unfold ninD at p
    cases e : inB d1 d2 with
    | none => rw [e] at p; exact p.elim
    | some t => rw [e] at p; exact inA_of (neg := true) s r1 r2 e (p.here s (.bl _))) ha hb

theorem cmp_of {q : Int → Int → Bool} (s : Same G H) (r1 : RepQ X.K X.mg G H x d1) (r2 : RepQ X.K X.mg G H y d2) (p : PostE X.K X.mg U G H Q (cmpD q d1 d2)) : rI0 (fun i j => .bl (q i j)) x y H Q := by
  unfold cmpD at p
  split at p
  · exact ⟨_, _, r1.int, r2.int, p.here s (.bl _)⟩
  · exact p.elim
theorem se_lt (ha : SQ X W a f) (hb : SQ X W b g) : SE X W (.Compare a [.Lt] [b] pos) (bi (cmpD fun i j => decide (i < j)) f g) := se_op2 (fun ha hb => pe_cmpR op_lt ha hb (nomark _)) cmp_of ha hb
theorem se_le (ha : SQ X W a f) (hb : SQ X W b g) : SE X W (.Compare a [.LtE] [b] pos) (bi (cmpD fun i j => decide (i ≤ j)) f g) := se_op2 (fun ha hb => pe_cmpR op_le ha hb (nomark _)) cmp_of ha hb
theorem se_gt (ha : SQ X W a f) (hb : SQ X W b g) : SE X W (.Compare a [.Gt] [b] pos) (bi (cmpD fun i j => decide (j < i)) f g) := se_op2 (fun ha hb => pe_cmpR op_gt ha hb (nomark _)) cmp_of ha hb
theorem se_ge (ha : SQ X W a f) (hb : SQ X W b g) : SE X W (.Compare a [.GtE] [b] pos) (bi (cmpD fun i j => decide (j ≤ i)) f g) := se_op2 (fun ha hb => pe_cmpR op_ge ha hb (nomark _)) cmp_of ha hb
theorem se_isN (ha : SQ X W a f) (hb : SQ X W b g) : SE X W (.Compare a [.Is] [b] pos) (bi isN f g) := se_op2 (fun ha hb => pe_cmpR op_isN ha hb (nomark _)) (fun {G H x y d1 d2 Q U} s r1 r2 p => by
    unfold isN at p
    split at p
    · refine ⟨r2.non, ?_⟩
      rw [r1.nonIff]
      exact p.here s (.bl _)
    · exact p.elim) ha hb
theorem se_notN (ha : SQ X W a f) (hb : SQ X W b g) : SE X W (.Compare a [.IsNot] [b] pos) (bi notN f g) := se_op2 (fun ha hb => pe_cmpR op_notN ha hb (nomark _)) (fun {G H x y d1 d2 Q U} s r1 r2 p => by
    unfold notN at p
    split at p
    · refine ⟨r2.non, ?_⟩
      rw [r1.nonIff]
      exact p.here s (.bl _)
    · exact p.elim) ha hb

theorem nilL {xs : List V} {ds : List D} (r : RepL K mg G xs ds) : xs = [] ↔ ds = [] := by cases r <;> simp
theorem se_add (ha : SQ X W a f) (hb : SQ X W b g) : SE X W (.BinOp a .Add b pos) (bi addD f g) :=
  se_op2 (fun ha hb => pe_op (op_add.or (op_add_str.or (op_cat.or op_catA))) ha hb) (fun {G H x y d1 d2 Q U} s r1 r2 p => by
    unfold addD at p
    split at p
    · exact .inl ⟨_, _, r1.int, r2.int, p.here s (.int _)⟩
    · obtain ⟨c, p⟩ := p.chk
      exact .inr (.inl ⟨_, _, r1.str, r2.str, of_decide_eq_true c, p.here s (.str _)⟩)
    · obtain ⟨c, p⟩ := p.chk
      obtain ⟨l1, xs1, e1, h1, q1⟩ := r1.lst s
      obtain ⟨l2, xs2, e2, h2, q2⟩ := r2.lst s
      exact .inr (.inr (.inl ⟨l1, l2, xs1, xs2, e1, e2, h1, h2, by rw [q1.length, q2.length]; exact of_decide_eq_true c, p.newL s (q1.append q2)⟩))
    · obtain ⟨c, p⟩ := p.chk
      have t1 := r1.tupRep
      have t2 := r2.tupRep
      obtain ⟨l1, xs1, e1, h1, q1⟩ := r1.tup s
      obtain ⟨l2, xs2, e2, h2, q2⟩ := r2.tup s
      subst e1 e2
      refine .inr (.inr (.inr ⟨l1, l2, xs1, xs2, rfl, rfl, h1, h2, by rw [q1.length, q2.length]; exact of_decide_eq_true c, fun z => ?_, fun _ z => ?_, fun _ _ => p.newT s (q1.append q2)⟩))
      · have z1 := (nilL q1).mp z
        subst z1
        exact p.here s t2
      · have z1 := (nilL q2).mp z
        subst z1
        rw [List.append_nil] at p
        exact p.here s t1
    · exact p.elim) ha hb
theorem se_sub (ha : SQ X W a f) (hb : SQ X W b g) : SE X W (.BinOp a .Sub b pos) (bi subD f g) :=
  se_op2 (fun ha hb => pe_op op_sub ha hb) (fun {G H x y d1 d2 Q U} s r1 r2 p => by
    unfold subD at p
    split at p
    · exact ⟨_, _, r1.int, r2.int, p.here s (.int _)⟩
    · exact p.elim) ha hb
theorem se_mul (ha : SQ X W a f) (hb : SQ X W b g) : SE X W (.BinOp a .Mult b pos) (bi mulD f g) :=
  se_op2 (fun ha hb => pe_op (op_mul.or op_rep) ha hb) (fun {G H x y d1 d2 Q U} s r1 r2 p => by
    unfold mulD at p
    split at p
    · obtain ⟨c, p⟩ := p.chk
      exact .inl ⟨_, _, r1.int, r2.int, (show CMul _ _ by unfold CMul; simpa using c), p.here s (.int _)⟩
    · obtain ⟨c, p⟩ := p.chk
      obtain ⟨c1, c2, c3⟩ := of_decide_eq_true c
      obtain ⟨l1, xs1, e1, h1, q1⟩ := r1.lst s
      exact .inr ⟨l1, _, xs1, e1, r2.int, h1, c1, c2, by rw [q1.length]; exact c3, p.newL s (repL_rep q1 _)⟩
    · exact p.elim) ha hb
theorem se_fdiv (ha : SQ X W a f) (hb : SQ X W b g) : SE X W (.BinOp a .FloorDiv b pos) (bi fdivD f g) :=
  se_op2 (fun ha hb => pe_op op_fdiv ha hb) (fun {G H x y d1 d2 Q U} s r1 r2 p => by
    unfold fdivD at p
    split at p
    · obtain ⟨c, p⟩ := p.chk
      exact ⟨_, _, r1.int, r2.int, (show CDiv _ _ by unfold CDiv; simpa using c), p.here s (.int _)⟩
    · exact p.elim) ha hb
theorem se_mod (ha : SQ X W a f) (hb : SQ X W b g) : SE X W (.BinOp a .Mod b pos) (bi modD f g) :=
  se_op2 (fun ha hb => pe_op op_mod ha hb) (fun {G H x y d1 d2 Q U} s r1 r2 p => by
    unfold modD at p
    split at p
    · obtain ⟨c, p⟩ := p.chk
      exact ⟨_, _, r1.int, r2.int, of_decide_eq_true c, p.here s (.int _)⟩
    · exact p.elim) ha hb
theorem se_pow (ha : SQ X W a f) (hb : SQ X W b g) : SE X W (.BinOp a .Pow b pos) (bi powD f g) :=
  se_op2 (fun ha hb => pe_op op_pow ha hb) (fun {G H x y d1 d2 Q U} s r1 r2 p => by
    unfold powD at p
    split at p
    · obtain ⟨c, p⟩ := p.chk
      exact ⟨_, _, r1.int, r2.int, (show CPow _ _ by unfold CPow; simpa using c), p.here s (.int _)⟩
    · exact p.elim) ha hb

theorem atI_repL {xs : List V} {ds : List D} {i : Int} {d : D} (r : RepL K mg G xs ds) (h : atI ds i = some d) : ∃ v, atI xs i = some v ∧ Rep K mg G v d := by
  unfold atI at h ⊢
  rw [r.length]
  obtain ⟨j, e1, e2⟩ := Option.bind_eq_some_iff.mp h
  obtain ⟨v, h1, h2⟩ := r.get e2
  exact ⟨v, by rw [e1]; exact h1, h2⟩
theorem se_ix (ha : SQ X W a f) (hb : SQ X W b g) (hs : PlainIx b) : SE X W (.Subscript a b pos) (bi ixD f g) :=
  se_op2 (fun ha hb => pe_ix ix_seq ha hb hs) (fun {G H x y d1 d2 Q U} s r1 r2 p => by
    unfold ixD at p
    split at p
    · obtain ⟨c, p⟩ := p.chk
      split at p
      · rename_i hat
        exact .inr (.inr ⟨_, _, _, r1.str, r2.int, of_decide_eq_true c, hat, p.here s (.str _)⟩)
      · exact p.elim
    · split at p
      · rename_i ds hds
        split at p
        · rename_i d hat
          obtain ⟨q, xs, e, hq, r⟩ := r1.seq s hds
          obtain ⟨v, hv, rv⟩ := atI_repL r hat
          rcases hq with hq | hq
          · exact .inl ⟨q, xs, _, v, e, r2.int, hq, hv, p.here s rv⟩
          · exact .inr (.inl ⟨q, xs, _, v, e, r2.int, hq, hv, p.here s rv⟩)
        · exact p.elim
      · exact p.elim
    · exact p.elim) ha hb

/-! ### one-place -/
theorem se_un {r : V → Hp → VK → Prop} {F : D → Oc D} (rule : ∀ {ta : TE}, PE X a ta → PE X e (tUn r ta))
    (hr : ∀ {G H x d1 Q U}, Same G H → RepQ X.K X.mg G H x d1 → PostE X.K X.mg U G H Q (F d1) → r x H Q)
    (ha : SQ X W a f) : SE X W e (un F f) := PE.weak (rule ha) fun σ H Q ⟨G, ρ, R, p⟩ => by
  refine ⟨G, ρ, R, ?_⟩
  revert p
  unfold un
  cases f ρ with
  | st => exact id
  | ex c => exact id
  | ok d1 =>
    intro p x G1 H1 x1 r1
    exact hr x1.gh r1 (PostE.imp x1 p fun _ _ q => q)
theorem sf_un {r : V → Hp → VK → Prop} {F : D → Oc D} (rule : ∀ {ta : TE}, PE X a ta → PE X e (tUn r ta))
    (hr : ∀ {G H x d1 Q U}, Same G H → RepQ X.K X.mg G H x d1 → PostF X.K X.mg U G H Q (F d1) → r x H Q)
    (ha : SQ X W a f) : SF X W e (un F f) := PE.weak (rule ha) fun σ H Q ⟨G, ρ, R, p⟩ => by
  refine ⟨G, ρ, R, ?_⟩
  revert p
  unfold un
  cases f ρ with
  | st => exact id
  | ex c => exact id
  | ok d1 =>
    intro p x G1 H1 x1 r1
    refine hr (U := fun c d H' => W c d σ H') x1.gh r1 ?_
    revert p
    simp only [bd_ok]
    cases F d1 with
    | st => exact id
    | ex c => exact fun p C G' H' e m => p C G' H' (x1.trans e) m
    | ok d => exact fun p a G' H' x ha ga ow => p a G' H' (x1.trans x) (x1.hh.free ha) ga ow
def negD : D → Oc D
  | .int i => .ok (.int (-i))
  | _ => .st
theorem se_neg (ha : SQ X W a f) : SE X W (.UnaryOp .USub a pos) (un negD f) := se_un (fun ha => pe_un un_neg ha) (fun {G H x d1 Q U} s r p => by
  unfold negD at p
  split at p
  · exact ⟨_, r.int, p.here s (.int _)⟩
  · exact p.elim) ha

/-! ### calls of built-ins of one argument -/
def lenD : D → Oc D
  | .str z => chk (decide (z.length ≤ sizeLine)) (.ok (.int z.length))
  | d => match items d with
    | some ds => .ok (.int ds.length)
    | none => .st
def intD : D → Oc D
  | .int i => .ok (.int i)
  | .bl k => .ok (.int (if k then 1 else 0))
  | _ => .st
def listD (d : D) : Oc D := match items d with
  | some ds => .ok (.lst ds)
  | none => .st
def tupleD (d : D) : Oc D := match items d with
  | some ds => .ok (.tup ds)
  | none => .st
def allBl : List D → Option (List Bool)
  | [] => some []
  | .bl b :: ds => (allBl ds).map (b :: ·)
  | _ => none
def allD (d : D) : Oc D := match d with
  | .lst ds => match allBl ds with
    | some bs => .ok (.bl (bs.all id))
    | none => .st
  | _ => .st
def anyD (d : D) : Oc D := match d with
  | .lst ds => match allBl ds with
    | some bs => .ok (.bl (bs.any id))
    | none => .st
  | _ => .st
def allInt : List D → Option (List Int)
  | [] => some []
  | .int b :: ds => (allInt ds).map (b :: ·)
  | _ => none
def isort : List Int → List Int := fun l => l.mergeSort (fun a b => decide (a ≤ b))
def sortedID (d : D) : Oc D := match d with
  | .lst ds => match allInt ds with
    | some bs => .ok (.lst ((isort bs).map .int))
    | none => .st
  | _ => .st
theorem allBl_rep : ∀ {xs : List V} {ds : List D} {bs : List Bool}, RepL K mg G xs ds → allBl ds = some bs → xs = bs.map V.bl
  | _, [], bs, r, e => by cases r; cases e; rfl
  | _, d :: ds, bs, r, e => by
    cases r with
    | cons r t =>
      cases d with
      | bl b =>
        simp only [allBl] at e
        obtain ⟨q, h1, h2⟩ := Option.map_eq_some_iff.mp e
        subst h2
        cases r
        rw [List.map_cons, allBl_rep t h1]
      | _ => cases e
theorem allInt_rep : ∀ {xs : List V} {ds : List D} {bs : List Int}, RepL K mg G xs ds → allInt ds = some bs → xs = bs.map V.int
  | _, [], bs, r, e => by cases r; cases e; rfl
  | _, d :: ds, bs, r, e => by
    cases r with
    | cons r t =>
      cases d with
      | int b =>
        simp only [allInt] at e
        obtain ⟨q, h1, h2⟩ := Option.map_eq_some_iff.mp e
        subst h2
        cases r
        rw [List.map_cons, allInt_rep t h1]
      | _ => cases e
theorem repL_ints : ∀ bs : List Int, RepL K mg G (bs.map V.int) (bs.map D.int)
  | [] => .nil
  | b :: bs => .cons (.int b) (repL_ints bs)
theorem pe_B1 {id : String} {r : List V → Hp → VK → Prop} {nm : Str} {p : Pos} {ta : TE} (hc : CallR X (.builtin id) r) (hg : Gl X nm) (hm : X.mg nm = none) (hv : bootBuiltins nm = some (.builtin id)) (ha : PE X a ta) (hn : nm ≠ "__name__" := by decide) (hdb : (nm == ("__debug__" : Str)) = false := by decide)
    (he : starEach [a] X.env = (false, eval a X.env) :: starEach [] X.env := by rfl) : PE X (.Call (.Name nm p) [a] [] pos) (tUn (fun x H Q => r [x] H Q) ta) :=
  PE.weak (pe_callB hc hg hm hv (pa_cons ha pa_nil he) hn hdb he) fun σ H Q h => h
theorem pe_T1 {T : String} {r : List V → Hp → VK → Prop} {nm : Str} {p : Pos} {ta : TE} (hc : CallR X (.type T) r) (hg : Gl X nm) (hm : X.mg nm = none) (hv : bootBuiltins nm = some (.type T)) (ha : PE X a ta) (hn : nm ≠ "__name__" := by decide) (hdb : (nm == ("__debug__" : Str)) = false := by decide)
    (he : starEach [a] X.env = (false, eval a X.env) :: starEach [] X.env := by rfl) : PE X (.Call (.Name nm p) [a] [] pos) (tUn (fun x H Q => r [x] H Q) ta) :=
  PE.weak (pe_callTy hc hg hm hv (pa_cons ha pa_nil he) hn hdb he) fun σ H Q h => h
theorem se_len {p : Pos} (hg : Gl X "len") (hm : X.mg "len" = none) (ha : SQ X W a f) (he : starEach [a] X.env = (false, eval a X.env) :: starEach [] X.env := by rfl) : SE X W (.Call (.Name "len" p) [a] [] pos) (un lenD f) :=
  se_un (fun ha => pe_B1 call_len hg hm PySem.boot_len ha (by decide) (by decide) he) (fun {G H x d1 Q U} s r p => by
    unfold lenD at p
    split at p
    · obtain ⟨c, p⟩ := p.chk
      rw [r.str]
      exact ⟨_, _, rfl, ⟨of_decide_eq_true c, rfl⟩, p.here s (.int _)⟩
    · split at p
      · rename_i ds hds
        obtain ⟨q, xs, e, hq, rr⟩ := r.seq s hds
        subst e
        refine ⟨_, ds.length, rfl, ?_, p.here s (.int _)⟩
        rw [← rr.length]
        rcases hq with hq | hq
        · exact .inl ⟨xs, hq, rfl⟩
        · exact .inr ⟨xs, hq, rfl⟩
      · exact p.elim) ha
theorem se_int1 {p : Pos} (hg : Gl X "int") (hm : X.mg "int" = none) (ha : SQ X W a f) (he : starEach [a] X.env = (false, eval a X.env) :: starEach [] X.env := by rfl) : SE X W (.Call (.Name "int" p) [a] [] pos) (un intD f) :=
  se_un (fun ha => pe_T1 call_int1 hg hm (by decide +kernel) ha (by decide) (by decide) he) (fun {G H x d1 Q U} s r p => by
    unfold intD at p
    split at p
    · rw [r.int]; exact .inl ⟨_, rfl, p.here s (.int _)⟩
    · rw [r.bl]; exact .inr ⟨_, rfl, p.here s (.int _)⟩
    · exact p.elim) ha
theorem sf_list {p : Pos} (hg : Gl X "list") (hm : X.mg "list" = none) (ha : SQ X W a f) (he : starEach [a] X.env = (false, eval a X.env) :: starEach [] X.env := by rfl) : SF X W (.Call (.Name "list" p) [a] [] pos) (un listD f) :=
  sf_un (fun ha => pe_T1 call_list_of hg hm (by decide +kernel) ha (by decide) (by decide) he) (fun {G H x d1 Q U} s r p => by
    unfold listD at p
    split at p
    · rename_i ds hds
      obtain ⟨q, xs, e, hq, rr⟩ := r.seq s hds
      subst e
      exact ⟨q, xs, rfl, hq, p.newL s rr⟩
    · exact p.elim) ha
theorem se_tuple {p : Pos} (hg : Gl X "tuple") (hm : X.mg "tuple" = none) (ha : SQ X W a f) (he : starEach [a] X.env = (false, eval a X.env) :: starEach [] X.env := by rfl) : SE X W (.Call (.Name "tuple" p) [a] [] pos) (un tupleD f) :=
  se_un (fun ha => pe_T1 call_tuple_of hg hm (by decide +kernel) ha (by decide) (by decide) he) (fun {G H x d1 Q U} s r p => by
    unfold tupleD at p
    split at p
    · rename_i ds hds
      cases d1 with
      | lst es =>
        cases hds
        obtain ⟨q, xs, e, hq, rr⟩ := r.lst s
        subst e
        exact ⟨q, xs, rfl, .inl ⟨SqL.of hq, p.newT s rr⟩⟩
      | tup es =>
        cases hds
        have t := r.tupRep
        obtain ⟨q, xs, e, hq, rr⟩ := r.tup s
        subst e
        exact ⟨q, xs, rfl, .inr ⟨hq, p.here s t⟩⟩
      | fz es =>
        cases hds
        obtain ⟨q, xs, e, hq, rr⟩ := r.fz s
        subst e
        exact ⟨q, xs, rfl, .inl ⟨hq, p.newT s rr⟩⟩
      | _ => cases hds
    · exact p.elim) ha
theorem se_all {p : Pos} (hc : X.calm = true) (hg : Gl X "all") (hm : X.mg "all" = none) (ha : SQ X W a f) (he : starEach [a] X.env = (false, eval a X.env) :: starEach [] X.env := by rfl) : SE X W (.Call (.Name "all" p) [a] [] pos) (un allD f) :=
  se_un (fun ha => pe_B1 (cr_all hc) hg hm (by decide +kernel) ha (by decide) (by decide) he) (fun {G H x d1 Q U} s r p => by
    unfold allD at p
    split at p
    · split at p
      · rename_i bs hb
        obtain ⟨q, xs, e, hq, rr⟩ := r.lst s
        subst e
        rw [allBl_rep rr hb] at hq
        exact ⟨q, bs, rfl, SqL.of hq, p.here s (.bl _)⟩
      · exact p.elim
    · exact p.elim) ha
theorem se_any {p : Pos} (hc : X.calm = true) (hg : Gl X "any") (hm : X.mg "any" = none) (ha : SQ X W a f) (he : starEach [a] X.env = (false, eval a X.env) :: starEach [] X.env := by rfl) : SE X W (.Call (.Name "any" p) [a] [] pos) (un anyD f) :=
  se_un (fun ha => pe_B1 (cr_any hc) hg hm (by decide +kernel) ha (by decide) (by decide) he) (fun {G H x d1 Q U} s r p => by
    unfold anyD at p
    split at p
    · split at p
      · rename_i bs hb
        obtain ⟨q, xs, e, hq, rr⟩ := r.lst s
        subst e
        rw [allBl_rep rr hb] at hq
        exact ⟨q, bs, rfl, SqL.of hq, p.here s (.bl _)⟩
      · exact p.elim
    · exact p.elim) ha
theorem isort_perm (l : List Int) : (isort l).Perm l := List.mergeSort_perm l _
theorem isort_sorted (l : List Int) : (isort l).Pairwise (· ≤ ·) := by
  have h := List.pairwise_mergeSort (le := fun a b : Int => decide (a ≤ b)) (fun a b c h1 h2 => by simp at *; omega) (fun a b => by simp; omega) l
  exact h.imp fun h => of_decide_eq_true h
theorem sorted_unique {l m : List Int} (hp : l.Perm m) (h1 : l.Pairwise (· ≤ ·)) (h2 : m.Pairwise (· ≤ ·)) : l = m :=
  hp.eq_of_pairwise (fun a b _ _ h1 h2 => Int.le_antisymm h1 h2) h1 h2
theorem sf_sortedI {p : Pos} (hg : Gl X "sorted") (hm : X.mg "sorted" = none) (ha : SQ X W a f) (he : starEach [a] X.env = (false, eval a X.env) :: starEach [] X.env := by rfl) : SF X W (.Call (.Name "sorted" p) [a] [] pos) (un sortedID f) :=
  sf_un (fun ha => pe_B1 cr_sortedI hg hm (by decide +kernel) ha (by decide) (by decide) he) (fun {G H x d1 Q U} s r p => by
    unfold sortedID at p
    split at p
    · split at p
      · rename_i bs hb
        obtain ⟨q, xs, e, hq, rr⟩ := r.lst s
        subst e
        rw [allInt_rep rr hb] at hq
        refine ⟨q, bs, rfl, SqL.of hq, fun ns' pa hp ho hf => ?_⟩
        have e2 : ns' = isort bs := sorted_unique (hp.trans (isort_perm bs).symm) ho (isort_sorted bs)
        rw [e2]
        exact p.newL s (repL_ints _) pa hf
      · exact p.elim
    · exact p.elim) ha
end
end Fx

set_option Elab.async false
set_option linter.all false
set_option maxRecDepth 100000
set_option maxHeartbeats 4000000
/-! Fx3: argument lists, displays, calls, attributes, slices, tests. -/
namespace Fx
open PySem PySem.Spec PyProof.Rows L2
variable {K : PySem.W.Frag} {mg : Str → Option Value}

/-! ### calls, what they may let out told by the names' values -/
section
variable {X : Cx} {W : WX} {k : Nat} {f C : Addr} {fd : FuncData} {ps : List Str} {sp : Sp} {dvs : List V} {ds : List Value} {x : Str} {p pos : Pos} {e : Expr} {es : List Expr} {t : TA}
theorem runW {pins : List (Addr × Obj)} {σ : L2.St} {H : Hp} {s : Shared} {Q : VK} {us : List Value} {vs : List V} (ok : FnOk X.prog X.w X.K X.mg X.base (L2.CX X.prog X.w) k f fd ps sp) (room : Room k X.A) (bi : Binds X.K fd ps ds) (dv : Vals dvs ds) (tk : Takes X W)
    (I : Inv X pins σ H s) (r : Vals vs us) (h : sp (vs ++ dvs) H Q (fun c d H' => W c d σ H')) : wpAny (model X.prog X.w) X.A (call (.ref f) us) (EP X pins σ Q) X.xe s := by
  have rr := r.append dv
  have len : (us ++ ds).length = ps.length := by rw [← rr.length]; exact ok.len _ _ _ _ h
  refine wpAny_call (codeAny_mono (ok.run X.A X.stack s H ⟨us, []⟩ (us ++ ds) (vs ++ dvs) Q _ room I.env0 (bi s us I.kIn len) rr h) fun res s' z => ?_)
  cases res with
  | ok fl =>
    cases fl with
    | ret u => exact I.after z
    | next => cases z
    | brk => cases z
    | cont => cases z
  | error u => exact tk u s' (XE.of_call I (fun _ _ _ q => q) z)
theorem pe_callW (ok : FnOk X.prog X.w X.K X.mg X.base (L2.CX X.prog X.w) k f fd ps sp) (room : Room k X.A) (gl : Gl X x) (gm : X.mg x = some (.ref f)) (kp : PySem.W.keepIn X.K (.ref f) = true) (bi : Binds X.K fd ps ds) (dv : Vals dvs ds) (tk : Takes X W)
    (ha : PA X (e :: es) t) (hdb : (x == ("__debug__" : Str)) = false := by decide) (he : starEach (e :: es) X.env = (false, eval e X.env) :: starEach es X.env := by rfl) (hpl : (backTo pos (starEach es X.env)).any (·.1) = false := by rfl) :
    PE X (.Call (.Name x p) (e :: es) [] pos) (fun σ H Q => t σ H fun vs H1 => sp (vs ++ dvs) H1 Q fun c d H' => W c d σ H') := by
  refine ⟨fun pins s σ H Q I h => wpAny_Call_Name_kw (ld_glob I gl gm ?_ hdb)⟩
  exact PySem.W.callWith_K (h₀ := X.base) I.ok.mod.kin kp (thn (ha.run pos pins s σ H _ I h) fun us s1 ⟨vs, H1, I1, r, q⟩ => ⟨I1.kIn, runW ok room bi dv tk I1 r q⟩) he hpl
theorem pe_call0W (ok : FnOk X.prog X.w X.K X.mg X.base (L2.CX X.prog X.w) k f fd ps sp) (room : Room k X.A) (gl : Gl X x) (gm : X.mg x = some (.ref f)) (kp : PySem.W.keepIn X.K (.ref f) = true) (bi : Binds X.K fd ps ds) (dv : Vals dvs ds) (tk : Takes X W)
    (hdb : (x == ("__debug__" : Str)) = false := by decide) : PE X (.Call (.Name x p) [] [] pos) (fun σ H Q => sp ([] ++ dvs) H Q fun c d H' => W c d σ H') := by
  refine ⟨fun pins s σ H Q I h => wpAny_Call_Name_kw (ld_glob I gl gm ?_ hdb)⟩
  exact PySem.W.callWith_K0 I.kIn kp (runW (us := []) ok room bi dv tk I .nil h)
theorem makeW {pins : List (Addr × Obj)} {σ : L2.St} {H : Hp} {s : Shared} {Q : VK} {us : List Value} {vs : List V} (M : Mk X.K C f) (ok : FnOk X.prog X.w X.K X.mg X.base (L2.CX X.prog X.w) k f fd ps sp) (room : Room (k + 1) X.A) (bi : Binds X.K fd ps ds) (dv : Vals dvs ds) (tk : Takes X W)
    (I : Inv X pins σ H s) (r : Vals vs us)
    (h : ∀ y dy, H y = none → H dy = none → dy ≠ y → sp (.ref y :: (vs ++ dvs)) (upd (upd H dy (.own y)) y (.ins C dy [])) (fun v H2 => v = .non ∧ Q (.ref y) H2) fun c d H' => W c d σ H') :
    wpAny (model X.prog X.w) X.A (call (.ref C) us) (EP X pins σ Q) X.xe s := by
  have q0 := h (s.heap.objs.size + 1) s.heap.objs.size (I.hok.fresh (Nat.le_succ _)) (I.hok.fresh (Nat.le_refl _)) (Nat.ne_of_lt (Nat.lt_succ_self _))
  have J := Inv.made (C := C) I
  have rr : Vals (V.ref (s.heap.objs.size + 1) :: (vs ++ dvs)) (Value.ref (s.heap.objs.size + 1) :: (us ++ ds)) := .cons rfl (r.append dv)
  have len : (Value.ref (s.heap.objs.size + 1) :: us ++ ds).length = ps.length := by
    have z := rr.length
    rw [ok.len _ _ _ _ q0] at z
    exact z.symm
  refine wpAny_call (make_map (f := f) I.kIn M.makes M.init (beq_iff_eq.mp M.fn) (codeAny_mono (ok.run _ X.stack _ _ ⟨Value.ref (s.heap.objs.size + 1) :: us, []⟩ (Value.ref (s.heap.objs.size + 1) :: (us ++ ds)) _ _ _ (room.make C us [])
    (J.env0.make C us []) (bi _ (Value.ref (s.heap.objs.size + 1) :: us) J.kIn len) rr q0) fun res s' z => ?_))
  cases res with
  | ok fl =>
    cases fl with
    | ret u =>
      obtain ⟨v, H', K3, rv, ev, q3⟩ := J.after z
      subst ev
      exact ⟨rv, ⟨V.ref (s.heap.objs.size + 1), H', K3, rfl, q3⟩⟩
    | next => cases z
    | brk => cases z
    | cont => cases z
  | error u => exact tk u s' (XE.of_call J (fun _ _ _ q => q) z)
theorem pe_makeW (M : Mk X.K C f) (ok : FnOk X.prog X.w X.K X.mg X.base (L2.CX X.prog X.w) k f fd ps sp) (room : Room (k + 1) X.A) (gl : Gl X x) (gm : X.mg x = some (.ref C)) (bi : Binds X.K fd ps ds) (dv : Vals dvs ds) (tk : Takes X W)
    (ha : PA X (e :: es) t) (hdb : (x == ("__debug__" : Str)) = false := by decide) (he : starEach (e :: es) X.env = (false, eval e X.env) :: starEach es X.env := by rfl) (hpl : (backTo pos (starEach es X.env)).any (·.1) = false := by rfl) :
    PE X (.Call (.Name x p) (e :: es) [] pos) (fun σ H Q => t σ H fun vs H1 => ∀ y dy, H1 y = none → H1 dy = none → dy ≠ y → sp (.ref y :: (vs ++ dvs)) (upd (upd H1 dy (.own y)) y (.ins C dy [])) (fun v H2 => v = .non ∧ Q (.ref y) H2) fun c d H' => W c d σ H') := by
  refine ⟨fun pins s σ H Q I h => wpAny_Call_Name_kw (ld_glob I gl gm ?_ hdb)⟩
  exact PySem.W.callWith_K (h₀ := X.base) I.ok.mod.kin M.kp (thn (ha.run pos pins s σ H _ I h) fun us s1 ⟨vs, H1, I1, r, q⟩ => ⟨I1.kIn, makeW M ok room bi dv tk I1 r q⟩) he hpl
end
theorem PostA.imp {W : XK} {G H G1 H1 : Hp} {Q Q' : List V → Hp → Prop} {o : Oc (List D)} (x : Ext G H G1 H1) (h : PostA K mg W G H Q o) (q : ∀ v H, Q v H → Q' v H) : PostA K mg W G1 H1 Q' o := by
  cases o with
  | st => exact h
  | ok d => exact fun v G' H' e r => q _ _ (h v G' H' (x.trans e) r)
  | ex c => exact fun C G' H' e m => h C G' H' (x.trans e) m
theorem PostT.imp {W : XK} {G H G1 H1 : Hp} {Q Q' : Bool → Hp → Prop} {o : Oc Bool} (x : Ext G H G1 H1) (h : PostT K mg W G H Q o) (q : ∀ v H, Q v H → Q' v H) : PostT K mg W G1 H1 Q' o := by
  cases o with
  | st => exact h
  | ok d => exact fun G' H' e => q _ _ (h G' H' (x.trans e))
  | ex c => exact fun C G' H' e m => h C G' H' (x.trans e) m
theorem PostF.imp {W : XK} {G H G1 H1 : Hp} {Q Q' : VK} {o : Oc D} (x : Ext G H G1 H1) (h : PostF K mg W G H Q o) (q : ∀ v H, Q v H → Q' v H) : PostF K mg W G1 H1 Q' o := by
  cases o with
  | st => exact h
  | ok d => exact fun a G' H' e ha ga ow => q _ _ (h a G' H' (x.trans e) (x.hh.free ha) ga ow)
  | ex c => exact fun C G' H' e m => h C G' H' (x.trans e) m

section
variable {X : Cx} {W : WX} {U : XK} {a b c e : Expr} {es : List Expr} {f g h : En → Oc D} {fs : En → Oc (List D)} {pos : Pos}
variable {G H : Hp} {x y : V} {d1 d2 : D} {Q : VK}

/-! ### argument lists -/
def aN : En → Oc (List D) := fun _ => .ok []
def aC (f : En → Oc D) (fs : En → Oc (List D)) : En → Oc (List D) := fun ρ => bd (f ρ) fun d => bd (fs ρ) fun ds => .ok (d :: ds)
theorem sa_nil : SA X W [] aN := PA.weak pa_nil fun σ H Q ⟨G, ρ, R, p⟩ => p [] G H (.refl R.sub) .nil
theorem sa_cons (ha : SE X W a f) (hr : SA X W es fs) (hs : starEach (a :: es) X.env = (false, eval a X.env) :: starEach es X.env := by rfl) : SA X W (a :: es) (aC f fs) := PA.weak (pa_cons ha hr hs) fun σ H Q ⟨G, ρ, R, p⟩ => by
  refine ⟨G, ρ, R, ?_⟩
  revert p
  unfold aC
  cases f ρ with
  | st => exact id
  | ex c => exact id
  | ok d =>
    intro p v G1 H1 x1 r1
    refine ⟨G1, ρ, R.ext x1, ?_⟩
    revert p
    simp only [bd_ok]
    cases fs ρ with
    | st => exact id
    | ex c => exact fun p C G' H' e m => p C G' H' (x1.trans e) m
    | ok ds => exact fun p vs G2 H2 x2 r2 => p (v :: vs) G2 H2 (x1.trans x2) (.cons (r1.same x2.gg) r2)
def tpl (fs : En → Oc (List D)) : En → Oc D := fun ρ => bd (fs ρ) fun ds => chk (decide (ds.length ≤ sizeLine)) (.ok (.tup ds))
def lsd (fs : En → Oc (List D)) : En → Oc D := fun ρ => bd (fs ρ) fun ds => chk (decide (ds.length ≤ sizeLine)) (.ok (.lst ds))
theorem se_tup {j} (ha : SA X W es fs) : SE X W (.Tuple es j pos) (tpl fs) := PE.weak (pe_tup ha) fun σ H Q ⟨G, ρ, R, p⟩ => by
  refine ⟨G, ρ, R, ?_⟩
  revert p
  unfold tpl
  cases fs ρ with
  | st => exact id
  | ex c => exact id
  | ok ds =>
    intro p vs G1 H1 x1 r1
    have p := PostE.imp x1 p fun _ _ q => q
    obtain ⟨c, p⟩ := p.chk
    exact ⟨by rw [r1.length]; exact of_decide_eq_true c, p.newT x1.gh r1⟩
theorem sf_lst (ha : SA X W es fs) : SF X W (.List es pos) (lsd fs) := PE.weak (pe_lst ha) fun σ H Q ⟨G, ρ, R, p⟩ => by
  refine ⟨G, ρ, R, ?_⟩
  revert p
  unfold lsd
  cases fs ρ with
  | st => exact id
  | ex c => exact id
  | ok ds =>
    intro p vs G1 H1 x1 r1
    have p := PostF.imp x1 p fun _ _ q => q
    obtain ⟨c, p⟩ := p.chk
    exact ⟨by rw [r1.length]; exact of_decide_eq_true c, p.newL x1.gh r1⟩

/-! ### calls of defs -/
def spF (K : PySem.W.Frag) (mg : Str → Option Value) (n : Nat) (F : List D → Oc D) : Sp := fun vs H Q E => vs.length = n ∧ ∃ G ds, Same G H ∧ Tabs K G H ∧ RepL K mg G vs ds ∧ PostE K mg E G H Q (F ds)
structure Kn (P : Program) (w : World) (K : PySem.W.Frag) (mg : Str → Option Value) (base : Heap) (k : Nat) (x : Str) (n : Nat) (dds : List D) (F : List D → Oc D) : Prop where
  ex : ∃ (f : Addr) (fd : FuncData) (ps : List Str) (ds : List Value) (dvs : List V), FnOk P w K mg base (L2.CX P w) k f fd ps (spF K mg (n + dds.length) F) ∧ mg x = some (.ref f) ∧ PySem.W.keepIn K (.ref f) = true ∧ Binds K fd ps ds ∧ Vals dvs ds ∧ (∀ G, RepL K mg G dvs dds)
abbrev XKn (X : Cx) := Kn X.prog X.w X.K X.mg X.base
def cal (F : List D → Oc D) (n : Nat) (dds : List D) (fs : En → Oc (List D)) : En → Oc D := fun ρ => bd (fs ρ) fun ds => chk (decide (ds.length = n)) (F (ds ++ dds))
theorem PostE.call {n : Nat} {vs dvs : List V} {ds dds : List D} {F : List D → Oc D} (s : Same G H) (tb : Tabs K G H) (r : RepL K mg G vs ds) (rd : ∀ G, RepL K mg G dvs dds) (p : PostE K mg U G H Q (Fx.chk (decide (ds.length = n)) (F (ds ++ dds)))) : spF K mg (n + dds.length) F (vs ++ dvs) H Q U := by
  obtain ⟨c, p⟩ := p.chk
  exact ⟨by rw [List.length_append, r.length, (rd G).length, of_decide_eq_true c], G, ds ++ dds, s, tb, r.append (rd G), p⟩
theorem se_call {k n : Nat} {nm : Str} {dds : List D} {F : List D → Oc D} {p : Pos} (kn : XKn X k nm n dds F) (C : Ctx X W) (hr : Room k X.A) (hg : Gl X nm) (ha : SA X W (e :: es) fs) (hdb : (nm == ("__debug__" : Str)) = false := by decide)
    (he : starEach (e :: es) X.env = (false, eval e X.env) :: starEach es X.env := by rfl) (hpl : (backTo pos (starEach es X.env)).any (·.1) = false := by rfl) : SE X W (.Call (.Name nm p) (e :: es) [] pos) (cal F n dds fs) := by
  obtain ⟨f, fd, ps, ds, dvs, ok, gm, kp, b, vd, rd⟩ := kn.ex
  refine PE.weak (pe_callW ok hr hg gm kp b vd C.tk ha hdb he hpl) fun σ H Q ⟨G, ρ, R, p⟩ => ?_
  refine ⟨G, ρ, R, ?_⟩
  revert p
  unfold cal
  cases fs ρ with
  | st => exact id
  | ex c => exact id
  | ok ds =>
    intro p vs G1 H1 x1 r1
    have p := PostE.imp x1 p fun _ _ q => q
    exact p.call x1.gh (R.ext x1).tabs r1 rd
theorem se_call0 {k : Nat} {nm : Str} {dds : List D} {F : List D → Oc D} {p : Pos} (kn : XKn X k nm 0 dds F) (C : Ctx X W) (hr : Room k X.A) (hg : Gl X nm) (hdb : (nm == ("__debug__" : Str)) = false := by decide) : SE X W (.Call (.Name nm p) [] [] pos) (cal F 0 dds aN) := by
  obtain ⟨f, fd, ps, ds, dvs, ok, gm, kp, b, vd, rd⟩ := kn.ex
  refine PE.weak (pe_call0W ok hr hg gm kp b vd C.tk hdb) fun σ H Q ⟨G, ρ, R, p⟩ => ?_
  exact PostE.call (vs := []) R.sub R.tabs .nil rd p

/-! ### instances -/
def spI (K : PySem.W.Frag) (mg : Str → Option Value) (c : Str) (n : Nat) (F : List D → Oc D) : Sp := fun vs H Q E => vs.length = n + 1 ∧ ∃ G ds x dx C vs', vs = .ref x :: vs' ∧ mg c = some (.ref C) ∧ H x = some (.ins C dx []) ∧ H dx = some (.own x) ∧ dx ≠ x ∧ G x = none ∧ Same G H ∧ Tabs K G H ∧ RepL K mg G vs' ds ∧
  match F ds with
  | .st => False
  | .ok d => ∀ G' H', Sm (rmv H x) H' → Same G G' → Same G' H' → (∀ b o, H b = some o → b ≠ x → G b = none → G' b = none) → G' x = none → OwAt K mg G' H' x d → Q .non H'
  | .ex c' => ∀ C' G' H', Sm (rmv H x) H' → Same G G' → Same G' H' → (∀ b o, H b = some o → b ≠ x → G b = none → G' b = none) → mg c' = some (.ref C') → E (.ref C') none H'
structure KnC (P : Program) (w : World) (K : PySem.W.Frag) (mg : Str → Option Value) (base : Heap) (k : Nat) (c : Str) (n : Nat) (dds : List D) (F : List D → Oc D) : Prop where
  ex : ∃ (C f : Addr) (fd : FuncData) (ps : List Str) (ds : List Value) (dvs : List V), Mk K C f ∧ FnOk P w K mg base (L2.CX P w) k f fd ps (spI K mg c (n + dds.length) F) ∧ mg c = some (.ref C) ∧ Binds K fd ps ds ∧ Vals dvs ds ∧ (∀ G, RepL K mg G dvs dds)
abbrev XKnC (X : Cx) := KnC X.prog X.w X.K X.mg X.base
theorem sf_make {k n : Nat} {nm : Str} {dds : List D} {F : List D → Oc D} {p : Pos} (kn : XKnC X k nm n dds F) (C : Ctx X W) (hr : Room (k + 1) X.A) (hg : Gl X nm) (ha : SA X W (e :: es) fs) (hdb : (nm == ("__debug__" : Str)) = false := by decide)
    (he : starEach (e :: es) X.env = (false, eval e X.env) :: starEach es X.env := by rfl) (hpl : (backTo pos (starEach es X.env)).any (·.1) = false := by rfl) : SF X W (.Call (.Name nm p) (e :: es) [] pos) (cal F n dds fs) := by
  obtain ⟨Cl, f, fd, ps, ds, dvs, mk, ok, gm, b, vd, rd⟩ := kn.ex
  refine PE.weak (pe_makeW mk ok hr hg gm b vd C.tk ha hdb he hpl) fun σ H Q ⟨G, ρ, R, p⟩ => ?_
  refine ⟨G, ρ, R, ?_⟩
  revert p
  unfold cal
  cases fs ρ with
  | st => exact id
  | ex c => exact id
  | ok ds =>
    intro p vs G1 H1 x1 r1 x dx nx ndx ne
    have p := PostF.imp x1 p fun _ _ q => q
    obtain ⟨c, p⟩ := p.chk
    have hl := of_decide_eq_true c
    have s1 : Same H1 (upd (upd H1 dx (.own x)) x (.ins Cl dx [])) := fun b o e => by
      rw [upd_ne (ne_of_none e nx), upd_ne (ne_of_none e ndx)]; exact e
    refine ⟨by simp [r1.length, (rd G).length, hl], G1, ds ++ dds, x, dx, Cl, vs ++ dvs, rfl, gm, upd_same, by rw [upd_ne ne]; exact upd_same, ne, x1.gh.free nx, x1.gh.trans s1, (R.ext x1).tabs.same s1, r1.append (rd _), ?_⟩
    have s2 : Sm H1 (rmv (upd (upd H1 dx (.own x)) x (.ins Cl dx [])) x) := .of fun b o e => by
      rw [rmv_ne (ne_of_none e nx)]; exact s1 b o e
    revert p
    cases F (ds ++ dds) with
    | st => exact id
    | ok d =>
      intro p G' H' h1 gg gh nc gx ow
      exact ⟨rfl, p x G' H' ⟨s2.trans h1, gg, gh, fun b o e g => nc b o (s1 b o e) (ne_of_none e nx) g⟩ nx gx ow⟩
    | ex c' => exact fun p C' G' H' h1 gg gh nc m => p C' G' H' ⟨s2.trans h1, gg, gh, fun b o e g => nc b o (s1 b o e) (ne_of_none e nx) g⟩ m

/-! ### attributes -/
def fldD (cs : List Str) (n : Str) (d : D) : Oc D := match d with
  | .obj c fs => if c ∈ cs then (match fs.lookup n with | some x => .ok x | none => .st) else .st
  | _ => .st
def ClsA (K : PySem.W.Frag) (mg : Str → Option Value) (n : Str) (c : Str) : Prop := ∀ C, mg c = some (.ref C) → Cls K C ∧ NoAttr K C n
theorem se_fld {n : Str} {cs : List Str} (hc : ∀ c ∈ cs, ClsA X.K X.mg n c) (ha : SQ X W a f) (hb : attributeBase a n X.env (eval a X.env) = eval a X.env := by rfl) : SE X W (.Attribute a n pos) (un (fldD cs n) f) := PE.weak (pe_fld ha hb) fun σ H Q ⟨G, ρ, R, p⟩ => by
  refine ⟨G, ρ, R, ?_⟩
  revert p
  unfold un
  cases f ρ with
  | st => exact id
  | ex c => exact id
  | ok d1 =>
    intro p x G1 H1 x1 r1
    have p := PostE.imp x1 p fun _ _ q => q
    simp only [bd_ok] at p
    unfold fldD at p
    split at p
    · rename_i _ c fs _
      split at p
      · rename_i hin
        split at p
        · rename_i d hd
          have hx : ∃ a C dx vs, x = .ref a ∧ X.mg c = some (.ref C) ∧ H1 a = some (.ins C dx vs) ∧ RepF X.K X.mg G1 vs fs := by
            rcases r1 with r1 | ⟨a, e, _, C, dx, vs, m, h, r⟩
            · cases r1 with
              | obj m h r => exact ⟨_, _, _, _, rfl, m, x1.gh _ _ h, r⟩
            · exact ⟨a, C, dx, vs, e, m, h, r⟩
          obtain ⟨a, C, dx, vs, e, m, h, r⟩ := hx
          obtain ⟨v, hv, rv⟩ := r.look hd
          obtain ⟨k1, k2⟩ := hc c hin C m
          exact ⟨a, C, dx, vs, v, e, h, k1, k2, hv, p.here x1.gh rv⟩
        · exact p.elim
      · exact p.elim
    · exact p.elim

/-! ### list.index, list.count -/
def indexD (d e : D) : Oc D := match d with
  | .lst ds => match toPDs ds, toPD e with
    | some ps, some q => match ps.findIdx? (fun z => PyData.eqv z q) with
      | some j => chk (SeqAt.shaped (.list ps) && SeqAt.shaped q) (.ok (.int (j : Nat)))
      | none => .st
    | _, _ => .st
  | _ => .st
def mtD (tyB : D → Bool) (F : D → List D → Oc D) (f : En → Oc D) (fs : En → Oc (List D)) : En → Oc D := fun ρ => bd (f ρ) fun d => chk (tyB d) (bd (fs ρ) fun ds => F d ds)
theorem se_mt {T idn : String} {nm : Str} {r : V → List V → Hp → VK → Prop} {apos : Pos} {tyB : D → Bool} {F : D → List D → Oc D} (pa : PlainAttrs T) (slot : Slot T nm idn) (hty : typeOf (.builtin idn) = pure (.type "method_descriptor")) (hm : MtR X idn r)
    (h1 : ∀ {G H x d}, Same G H → RepQ X.K X.mg G H x d → tyB d = true → tyV X.K T x H)
    (h2 : ∀ {G H x d vs ds Q U}, Same G H → RepQ X.K X.mg G H x d → RepL X.K X.mg G vs ds → PostE X.K X.mg U G H Q (F d ds) → r x vs H Q) (ha : SQ X W a f) (hb : SA X W (e :: es) fs)
    (hbase : attributeBase a nm X.env (eval a X.env) = eval a X.env := by rfl)
    (hfew : ((backTo pos (starEach (e :: es) X.env)).all (fun x => !x.1) && (backToKw pos (keywordEach [] X.env)).all (fun x => x.1.isSome)
      && decide ((e :: es).length + ([] : List Keyword).length + (if ([] : List Keyword).isEmpty then 0 else 1) < 30)) = true := by rfl)
    (hline : (apos.endLine == pos.line) = true := by rfl) (hs : starEach (e :: es) X.env = (false, eval e X.env) :: starEach es X.env := by rfl) (hplain : (backTo pos (starEach es X.env)).any (·.1) = false := by rfl) :
    SE X W (.Call (.Attribute a nm apos) (e :: es) [] pos) (mtD tyB F f fs) := by
  refine PE.weak (pe_bm pa slot hty hm ha hb hbase hfew hline hs hplain) fun σ H Q ⟨G, ρ, R, p⟩ => ?_
  refine ⟨G, ρ, R, ?_⟩
  revert p
  unfold mtD
  cases f ρ with
  | st => exact id
  | ex c => exact id
  | ok d1 =>
    intro p x G1 H1 x1 r1
    have p := PostE.imp x1 p fun _ _ q => q
    obtain ⟨c, p⟩ := p.chk
    refine ⟨h1 x1.gh r1 c, G1, ρ, R.ext x1, ?_⟩
    revert p
    cases fs ρ with
    | st => exact id
    | ex c => exact id
    | ok ds =>
      intro p vs G2 H2 x2 r2
      exact h2 x2.gh (RepQ.ext x2 r1) r2 (PostE.imp x2 p fun _ _ q => q)
def isLst : D → Bool
  | .lst _ => true
  | _ => false
def indexM (d : D) (es : List D) : Oc D := match es with
  | [e] => indexD d e
  | _ => .st
theorem ty_lst {G H : Hp} {x : V} {d : D} (s : Same G H) (r : RepQ K mg G H x d) (h : isLst d = true) : tyV K "list" x H := by
  cases d with
  | lst ds =>
    obtain ⟨a, xs, e, h, _⟩ := r.lst s
    subst e
    exact .inl ⟨rfl, _, SqL.of h⟩
  | _ => cases h
theorem se_index {apos : Pos} (hu : X.A.units + 65 < cLine) (ha : SQ X W a f) (hb : SA X W (e :: es) fs)
    (hbase : attributeBase a "index" X.env (eval a X.env) = eval a X.env := by rfl)
    (hfew : ((backTo pos (starEach (e :: es) X.env)).all (fun x => !x.1) && (backToKw pos (keywordEach [] X.env)).all (fun x => x.1.isSome)
      && decide ((e :: es).length + ([] : List Keyword).length + (if ([] : List Keyword).isEmpty then 0 else 1) < 30)) = true := by rfl)
    (hline : (apos.endLine == pos.line) = true := by rfl) (hs : starEach (e :: es) X.env = (false, eval e X.env) :: starEach es X.env := by rfl) (hplain : (backTo pos (starEach es X.env)).any (·.1) = false := by rfl) :
    SE X W (.Call (.Attribute a "index" apos) (e :: es) [] pos) (mtD isLst indexM f fs) :=
  se_mt PySem.F.plainAttrs_list PySem.F.slot_list_index PySem.F.type_list_index (mt_indexD hu) ty_lst (fun {G H x d vs ds Q U} s r1 r2 p => by
    unfold indexM at p
    split at p
    · rename_i q
      unfold indexD at p
      split at p
      · rename_i ls
        split at p
        · rename_i ps pq hps hpq
          split at p
          · rename_i j hj
            obtain ⟨c, p⟩ := p.chk
            rw [Bool.and_eq_true] at c
            obtain ⟨l, xs, e1, hl, rl⟩ := r1.lst s
            subst e1
            cases r2 with
            | cons r2 r3 =>
              cases r3
              obtain ⟨hj1, hj2, hj3⟩ := List.findIdx?_eq_some_iff_getElem.mp hj
              exact ⟨l, _, pq, ps, j, ps[j], rfl, rfl, .lst (SqL.of hl) (rl.dp s hps), r2.dp s hpq, c.1, c.2, List.getElem?_eq_getElem hj1, hj2, fun m z' hm hz => by
                have hm' : m < ps.length := Nat.lt_trans hm hj1
                rw [List.getElem?_eq_getElem hm'] at hz
                cases hz
                simpa using hj3 m hm, p.here s (.int _)⟩
          · exact p.elim
        · exact p.elim
      · exact p.elim
    · exact p.elim) ha hb hbase hfew hline hs hplain

/-! ### slices -/
def oP (o : Option (En → Oc D)) : En → Oc (Option Int) := fun ρ => match o with
  | none => .ok none
  | some f => bd (f ρ) fun d => match d with | .int i => .ok (some i) | _ => .st
def cutD (ds : List D) (lo hi : Option Int) : List D := (ds.drop (HT.sIx ds.length 0 lo)).take (HT.sIx ds.length ds.length hi - HT.sIx ds.length 0 lo)
def slD (d : D) (lo hi : Option Int) : Oc D := match d with
  | .str z => chk (decide (z.length ≤ sizeLine)) (.ok (.str (cutS z lo hi)))
  | .lst ds => .ok (.lst (cutD ds lo hi))
  | .fz ds => .ok (.lst (cutD ds lo hi))
  | .tup ds => .ok (.tup (cutD ds lo hi))
  | _ => .st
def slc (f : En → Oc D) (lo hi : Option (En → Oc D)) : En → Oc D := fun ρ => bd (f ρ) fun d => bd (oP lo ρ) fun l => bd (oP hi ρ) fun h => slD d l h
def PostO (K : PySem.W.Frag) (mg : Str → Option Value) (W : XK) (G H : Hp) (Q : Option Int → Hp → Prop) : Oc (Option Int) → Prop
  | .st => False
  | .ok b => ∀ G' H', Ext G H G' H' → Q b H'
  | .ex c => ∀ C G' H', Ext G H G' H' → mg c = some (.ref C) → W (.ref C) none H'
def tO (K : PySem.W.Frag) (mg : Str → Option Value) (W : WX) (f : Option (En → Oc D)) : TO := fun σ H Q => ∃ G ρ, Rel K mg G H ρ σ ∧ PostO K mg (fun c d H' => W c d σ H') G H Q (oP f ρ)
abbrev SO (X : Cx) (W : WX) (e : Option Expr) (f : Option (En → Oc D)) : Prop := PO X e (tO X.K X.mg W f)
theorem PO.weak {e : Option Expr} {t u : TO} (h : PO X e t) (w : ∀ σ H Q, u σ H Q → t σ H Q) : PO X e u := ⟨fun pins s σ H Q I q => h.run pins s σ H Q I (w _ _ _ q)⟩
theorem so_none : SO X W none none := PO.weak po_none fun σ H Q ⟨G, ρ, R, p⟩ => p G H (.refl R.sub)
theorem so_some (ha : SE X W a f) : SO X W (some a) (some f) := PO.weak (po_some ha) fun σ H Q ⟨G, ρ, R, p⟩ => by
  refine ⟨G, ρ, R, ?_⟩
  revert p
  unfold oP
  simp only
  cases f ρ with
  | st => exact id
  | ex c => exact id
  | ok d =>
    simp only [bd_ok]
    cases d with
    | int i =>
      intro p v G1 H1 x1 r
      cases r
      exact ⟨i, rfl, p G1 H1 x1⟩
    | _ => exact fun p => p.elim
theorem cutV_repL {xs : List V} {ds : List D} (r : RepL K mg G xs ds) (lo hi : Option Int) : RepL K mg G (cutV xs lo hi) (cutD ds lo hi) := by
  unfold cutV cutD
  rw [r.length]
  exact (r.drop _).take _
theorem cutD_whole {ds : List D} {lo hi : Option Int} (h : HT.sIx ds.length 0 lo = 0 ∧ HT.sIx ds.length ds.length hi = ds.length) : cutD ds lo hi = ds := by
  unfold cutD
  rw [h.1, h.2]
  simp
theorem se_sl {lo hi : Option Expr} {fl fh : Option (En → Oc D)} {p2 : Pos} (ha : SQ X W a f) (hl : SO X W lo fl) (hh : SO X W hi fh) : SE X W (.Subscript a (.Slice lo hi none p2) pos) (slc f fl fh) := by
  refine PE.weak (pe_slice (sl_list.or (sl_tupA.or sl_str)) ha hl hh) fun σ H Q ⟨G, ρ, R, p⟩ => ?_
  refine ⟨G, ρ, R, ?_⟩
  revert p
  unfold slc
  cases f ρ with
  | st => exact id
  | ex c => exact id
  | ok d =>
    intro p x G1 H1 x1 r1
    have p := PostE.imp x1 p fun _ _ q => q
    refine ⟨G1, ρ, R.ext x1, ?_⟩
    revert p
    simp only [bd_ok]
    cases oP fl ρ with
    | st => exact id
    | ex c => exact id
    | ok l =>
      intro p G2 H2 x2
      have p := PostE.imp x2 p fun _ _ q => q
      refine ⟨G2, ρ, (R.ext x1).ext x2, ?_⟩
      revert p
      simp only [bd_ok]
      cases oP fh ρ with
      | st => exact id
      | ex c => exact id
      | ok u =>
        intro p G3 H3 x3
        have p := PostE.imp x3 p fun _ _ q => q
        simp only [bd_ok] at p
        have r3 : RepQ X.K X.mg G3 H3 x d := RepQ.ext x3 (RepQ.ext x2 r1)
        have s := x3.gh
        unfold slD at p
        split at p
        · obtain ⟨c, p⟩ := p.chk
          exact .inr (.inr ⟨_, r3.str, of_decide_eq_true c, p.here s (.str _)⟩)
        · obtain ⟨q, xs, e, hq, rr⟩ := r3.lst s
          exact .inl ⟨q, xs, e, SqL.of hq, p.newL s (cutV_repL rr l u)⟩
        · obtain ⟨q, xs, e, hq, rr⟩ := r3.fz s
          exact .inl ⟨q, xs, e, hq, p.newL s (cutV_repL rr l u)⟩
        · have t := r3.tupRep
          obtain ⟨q, xs, e, hq, rr⟩ := r3.tup s
          refine .inr (.inl ⟨q, xs, e, hq, fun hw => ?_, fun _ => p.newT s (cutV_repL rr l u)⟩)
          subst e
          rw [rr.length] at hw
          rw [cutD_whole hw] at p
          exact p.here s t
        · exact p.elim
def revD (d : D) : Oc D := match d with
  | .lst ds => .ok (.lst ds.reverse)
  | .fz ds => .ok (.lst ds.reverse)
  | _ => .st
theorem se_rev {k : Nat} {p1 p2 p3 : Pos} (ha : SQ X W a f) : SE X W (.Subscript a (.Slice none none (some (.UnaryOp .USub (.Constant (.int 1) k p1) p2)) p3) pos) (un revD f) :=
  se_un (r := fun x H Q => ∃ a xs, x = .ref a ∧ SqL X.K H a xs ∧ ∀ p, H p = none → Q (.ref p) (upd H p (.lst xs.reverse))) (fun ha => pe_revL ha) (fun {G H x d1 Q U} s r p => by
    unfold revD at p
    split at p
    · obtain ⟨q, xs, e, hq, rr⟩ := r.lst s
      exact ⟨q, xs, e, SqL.of hq, p.newL s rr.reverse⟩
    · obtain ⟨q, xs, e, hq, rr⟩ := r.fz s
      exact ⟨q, xs, e, hq, p.newL s rr.reverse⟩
    · exact p.elim) ha

/-! ### tests -/
def tst (f : En → Oc D) : En → Oc Bool := fun ρ => bd (f ρ) fun d => match d with | .bl b => .ok b | _ => .st
theorem st_val (ha : SE X W a f) (he : ∀ whole, isTrue a X.env whole = (do let v ← whole; standAt a.pos; holding [v] (truthy v)) := by intro _; rfl) : STT X W a (tst f) := PT.weak (pt_val ha he) fun σ H Q ⟨G, ρ, R, p⟩ => by
  refine ⟨G, ρ, R, ?_⟩
  revert p
  unfold tst
  cases f ρ with
  | st => exact id
  | ex c => exact id
  | ok d =>
    simp only [bd_ok]
    cases d with
    | bl b =>
      intro p v G1 H1 x1 r
      cases r
      exact ⟨b, rfl, p G1 H1 x1⟩
    | _ => exact fun p => p.elim
theorem st_op2 {r : R2} {F : D → D → Oc D} (rule : ∀ {ta tb : TE}, PE X a ta → PE X b tb → PT X e (tTest (tOp r ta tb)))
    (hr : ∀ {G H x y d1 d2 Q U}, Same G H → RepQ X.K X.mg G H x d1 → RepQ X.K X.mg G H y d2 → PostE X.K X.mg U G H Q (F d1 d2) → r x y H Q)
    (ha : SQ X W a f) (hb : SQ X W b g) : STT X W e (tst (bi F f g)) := PT.weak (rule ha hb) fun σ H Q ⟨G, ρ, R, p⟩ => by
  refine ⟨G, ρ, R, ?_⟩
  revert p
  unfold tst bi
  cases f ρ with
  | st => exact id
  | ex c => exact id
  | ok d1 =>
    intro p x G1 H1 x1 r1
    refine ⟨G1, ρ, R.ext x1, ?_⟩
    revert p
    simp only [bd_ok]
    cases g ρ with
    | st => exact id
    | ex c => exact fun p C G' H' e m => p C G' H' (x1.trans e) m
    | ok d2 =>
      intro p y G2 H2 x2 r2
      simp only [bd_ok] at p
      refine hr (U := fun c d H' => W c d σ H') x2.gh (RepQ.ext x2 r1) r2 ?_
      revert p
      cases F d1 d2 with
      | st => exact id
      | ex c => exact fun p C G' H' e m => p C G' H' ((x1.trans x2).trans e) m
      | ok d =>
        simp only [bd_ok]
        cases d with
        | bl b =>
          intro p v G3 H3 x3 r
          cases r
          exact ⟨b, rfl, p G3 H3 ((x1.trans x2).trans x3)⟩
        | _ => exact fun p => p.elim
def nt (t : En → Oc Bool) : En → Oc Bool := fun ρ => bd (t ρ) fun b => .ok (!b)
def an (t u : En → Oc Bool) : En → Oc Bool := fun ρ => bd (t ρ) fun b => if b then u ρ else .ok false
def orr (t u : En → Oc Bool) : En → Oc Bool := fun ρ => bd (t ρ) fun b => if b then .ok true else u ρ
variable {t u : En → Oc Bool} {rest : List Expr}
theorem st_not (ha : STT X W a t) : STT X W (.UnaryOp .Not a pos) (nt t) := PT.weak (pt_not ha) fun σ H Q ⟨G, ρ, R, p⟩ => by
  refine ⟨G, ρ, R, ?_⟩
  revert p
  unfold nt
  cases t ρ <;> exact id
theorem sw_and1 (ha : STT X W a t) : SW X W (.BoolOp .And [a] pos) t := pw_and1 ha
theorem sw_or1 (ha : STT X W a t) : SW X W (.BoolOp .Or [a] pos) t := pw_or1 ha
theorem sw_and (ha : STT X W a t) (hb : SW X W (.BoolOp .And (b :: rest) pos) u) : SW X W (.BoolOp .And (a :: b :: rest) pos) (an t u) := PW.weak (pw_and ha hb) fun σ H Q ⟨G, ρ, R, p⟩ => by
  refine ⟨G, ρ, R, ?_⟩
  revert p
  unfold an
  cases t ρ with
  | st => exact id
  | ex c => exact id
  | ok d =>
    intro p G1 H1 x1
    have p := PostT.imp x1 p fun _ _ q => q
    cases d with
    | true => exact ⟨G1, ρ, R.ext x1, p⟩
    | false => exact p G1 H1 (.refl x1.gh)
theorem sw_or (ha : STT X W a t) (hb : SW X W (.BoolOp .Or (b :: rest) pos) u) : SW X W (.BoolOp .Or (a :: b :: rest) pos) (orr t u) := PW.weak (pw_or ha hb) fun σ H Q ⟨G, ρ, R, p⟩ => by
  refine ⟨G, ρ, R, ?_⟩
  revert p
  unfold orr
  cases t ρ with
  | st => exact id
  | ex c => exact id
  | ok d =>
    intro p G1 H1 x1
    have p := PostT.imp x1 p fun _ _ q => q
    cases d with
    | true => exact p G1 H1 (.refl x1.gh)
    | false => exact ⟨G1, ρ, R.ext x1, p⟩
theorem st_of (h : SW X W a t) : STT X W a t := PW.pt h
def anV (f g : En → Oc D) : En → Oc D := fun ρ => bd (f ρ) fun d => match d with | .bl b => if b then g ρ else .ok (.bl false) | _ => .st
def orV (f g : En → Oc D) : En → Oc D := fun ρ => bd (f ρ) fun d => match d with | .bl b => if b then .ok (.bl true) else g ρ | _ => .st
def ntV (f : En → Oc D) : En → Oc D := fun ρ => bd (f ρ) fun d => match d with | .bl b => .ok (.bl (!b)) | _ => .st
theorem se_one {op} (ha : SE X W a f) : SE X W (.BoolOp op [a] pos) f := pe_one ha
theorem se_and (ha : SE X W a f) (hb : SE X W (.BoolOp .And (b :: rest) pos) g) : SE X W (.BoolOp .And (a :: b :: rest) pos) (anV f g) := PE.weak (pe_and ha hb) fun σ H Q ⟨G, ρ, R, p⟩ => by
  refine ⟨G, ρ, R, ?_⟩
  revert p
  unfold anV
  cases f ρ with
  | st => exact id
  | ex c => exact id
  | ok d =>
    simp only [bd_ok]
    cases d with
    | bl k =>
      intro p v G1 H1 x1 r
      cases r
      have p := PostE.imp x1 p fun _ _ q => q
      refine ⟨k, rfl, ?_⟩
      cases k with
      | true => exact ⟨G1, ρ, R.ext x1, p⟩
      | false => exact p.here x1.gh (.bl _)
    | _ => exact fun p => p.elim
theorem se_or (ha : SE X W a f) (hb : SE X W (.BoolOp .Or (b :: rest) pos) g) : SE X W (.BoolOp .Or (a :: b :: rest) pos) (orV f g) := PE.weak (pe_or ha hb) fun σ H Q ⟨G, ρ, R, p⟩ => by
  refine ⟨G, ρ, R, ?_⟩
  revert p
  unfold orV
  cases f ρ with
  | st => exact id
  | ex c => exact id
  | ok d =>
    simp only [bd_ok]
    cases d with
    | bl k =>
      intro p v G1 H1 x1 r
      cases r
      have p := PostE.imp x1 p fun _ _ q => q
      refine ⟨k, rfl, ?_⟩
      cases k with
      | true => exact p.here x1.gh (.bl _)
      | false => exact ⟨G1, ρ, R.ext x1, p⟩
    | _ => exact fun p => p.elim
theorem se_not (ha : SE X W a f) : SE X W (.UnaryOp .Not a pos) (ntV f) := PE.weak (pe_not ha) fun σ H Q ⟨G, ρ, R, p⟩ => by
  refine ⟨G, ρ, R, ?_⟩
  revert p
  unfold ntV
  cases f ρ with
  | st => exact id
  | ex c => exact id
  | ok d =>
    simp only [bd_ok]
    cases d with
    | bl k =>
      intro p v G1 H1 x1 r
      cases r
      have p := PostE.imp x1 p fun _ _ q => q
      exact ⟨k, rfl, p.here x1.gh (.bl _)⟩
    | _ => exact fun p => p.elim
def ifX (t : En → Oc Bool) (f g : En → Oc D) : En → Oc D := fun ρ => bd (t ρ) fun b => if b then f ρ else g ρ
theorem se_if (hc : STT X W c t) (ha : SE X W a f) (hb : SE X W b g) : SE X W (.IfExp c a b pos) (ifX t f g) := PE.weak (pe_ifExp hc ha hb) fun σ H Q ⟨G, ρ, R, p⟩ => by
  refine ⟨G, ρ, R, ?_⟩
  revert p
  unfold ifX
  cases t ρ with
  | st => exact id
  | ex c => exact id
  | ok d =>
    intro p G1 H1 x1
    have p := PostE.imp x1 p fun _ _ q => q
    cases d with
    | true => exact ⟨G1, ρ, R.ext x1, p⟩
    | false => exact ⟨G1, ρ, R.ext x1, p⟩
def tyName : D → Option String
  | .non => some "NoneType"
  | .bl _ => some "bool"
  | .int _ => some "int"
  | .str _ => some "str"
  | _ => none
def isiD (T : String) (d : D) : Oc D := match tyName d with
  | some n => match kitB n T with
    | some b => .ok (.bl b)
    | none => .st
  | none => .st
theorem se_isi {nm : Str} {T : String} {p p2 : Pos} (hg : Gl X "isinstance") (hm : X.mg "isinstance" = none) (hg2 : Gl X nm) (hm2 : X.mg nm = none) (hv : bootBuiltins nm = some (.type T)) (ha : SQ X W a f) (hn : nm ≠ "__name__" := by decide) (hdb : (nm == ("__debug__" : Str)) = false := by decide)
    (he : starEach [a, .Name nm p2] X.env = (false, eval a X.env) :: starEach [.Name nm p2] X.env := by rfl) (he2 : starEach [.Name nm p2] X.env = (false, eval (.Name nm p2) X.env) :: starEach [] X.env := by rfl) (hpl : (backTo pos (starEach [.Name nm p2] X.env)).any (·.1) = false := by rfl) :
    SE X W (.Call (.Name "isinstance" p) [a, .Name nm p2] [] pos) (un (isiD T) f) := by
  refine se_un (r := fun x H Q => rIsi X.K [x, .ty T] H Q) (fun ha => PE.weak (pe_callB call_isi hg hm (by decide +kernel) (pa_cons ha (pa_cons (pe_bltn hg2 hm2 hv (v := .ty T) rfl hn hdb) pa_nil he2) he) (by decide) (by decide) he hpl) fun σ H Q h => h) (fun {G H x d1 Q U} s r p => ?_) ha
  unfold isiD at p
  split at p
  · rename_i n hn
    split at p
    · rename_i b hb
      have tx : TyX X.K H x (.type n) := by
        cases d1 with
        | non => cases hn; rw [r.non]; exact .base .non
        | bl k => cases hn; rw [r.bl]; exact .base (.bl _)
        | int k => cases hn; rw [r.int]; exact .base (.int _)
        | str k => cases hn; rw [r.str]; exact .base (.str _)
        | _ => cases hn
      exact ⟨x, .ty T, .type n, .type T, b, rfl, .ty T, tx, kit_ty hb, p.here s (.bl _)⟩
    · exact p.elim
  · exact p.elim
end
end Fx

set_option Elab.async false
set_option linter.all false
set_option maxRecDepth 100000
set_option maxHeartbeats 4000000
/-! Fx4: statements, loops, comprehensions, defs. -/
namespace Fx
open PySem PySem.Spec PyProof.Rows L2
variable {K : PySem.W.Frag} {mg : Str → Option Value}

inductive Res where
  | nx (ρ : En) | rt (d : D) | bk (ρ : En) | ct (ρ : En)

structure Bs (K : PySem.W.Frag) (mg : Str → Option Value) (me : Addr) (G0 H0 G H : Hp) (ρ : En) (σ : L2.St) : Prop where
  rel : Rel K mg G H ρ σ
  ext : Ext G0 H0 G H
  own : ∀ (i : Nat) (a : Addr) (d : D), ρ[i]? = some (.ow d) → σ[i]? = some (some (.ref a)) → H0 a = none
  self : ∀ (i : Nat) (c : Str) (ds : List (Str × D)), ρ[i]? = some (.ow (.obj c ds)) → σ[i]? = some (some (.ref me))
variable {me : Addr}
theorem Bs.step {G0 H0 G H G' H' : Hp} {ρ : En} {σ : L2.St} (B : Bs K mg me G0 H0 G H ρ σ) (x : Ext G H G' H') : Bs K mg me G0 H0 G' H' ρ σ := ⟨B.rel.ext x, B.ext.trans x, B.own, B.self⟩
def PostS (K : PySem.W.Frag) (mg : Str → Option Value) (W : XK) (fre : Bool) (me : Addr) (G0 H0 : Hp) (D : Ends) : Oc Res → Prop
  | .st => False
  | .ok (.nx ρ) => ∀ σ G H, Bs K mg me G0 H0 G H ρ σ → D.nx σ H
  | .ok (.rt d) => match fre with
    | false => ∀ v G H, Ext G0 H0 G H → Rep K mg G v d → D.rt v H
    | true => ∀ a G H, Ext G0 H0 G H → H0 a = none → G a = none → OwAt K mg G H a d → D.rt (.ref a) H
  | .ok (.bk ρ) => ∀ σ G H, Bs K mg me G0 H0 G H ρ σ → D.bk σ H
  | .ok (.ct ρ) => ∀ σ G H, Bs K mg me G0 H0 G H ρ σ → D.ct σ H
  | .ex c => ∀ C G H, Ext G0 H0 G H → mg c = some (.ref C) → W (.ref C) none H
def tS (K : PySem.W.Frag) (mg : Str → Option Value) (W : XK) (fre : Bool) (g : En → Oc Res) : TS := fun D σ H => ∃ G ρ me G0 H0, Bs K mg me G0 H0 G H ρ σ ∧ PostS K mg W fre me G0 H0 D (g ρ)
abbrev SS (X : Cx) (W : XK) (fre : Bool) (st : Stmt) (g : En → Oc Res) : Prop := PS X st (tS X.K X.mg W fre g)
abbrev SSs (X : Cx) (W : XK) (fre : Bool) (st : List Stmt) (g : En → Oc Res) : Prop := PSs X st (tS X.K X.mg W fre g)

section
variable {X : Cx} {W : WX} {U : XK} {fre : Bool} {a b c e : Expr} {es : List Expr} {f g h : En → Oc D} {fs : En → Oc (List D)} {pos : Pos} {st : Stmt} {sts sts2 : List Stmt} {gs hs : En → Oc Res} {t : En → Oc Bool}

def sNx : En → Oc Res := fun ρ => .ok (.nx ρ)
def sBk : En → Oc Res := fun ρ => .ok (.bk ρ)
def sCt : En → Oc Res := fun ρ => .ok (.ct ρ)
def sq (g h : En → Oc Res) : En → Oc Res := fun ρ => bd (g ρ) fun r => match r with | .nx ρ' => h ρ' | r => .ok r
theorem ss_nil : SSs X U fre [] sNx := PSs.weak pss_nil fun D σ H ⟨G, ρ, me, G0, H0, B, p⟩ => p σ G H B
theorem ss_pass : SS X U fre (.Pass pos) sNx := PS.weak ps_pass fun D σ H ⟨G, ρ, me, G0, H0, B, p⟩ => p σ G H B
theorem ss_bk : SS X U fre (.Break pos) sBk := PS.weak ps_break fun D σ H ⟨G, ρ, me, G0, H0, B, p⟩ => p σ G H B
theorem ss_ct : SS X U fre (.Continue pos) sCt := PS.weak ps_continue fun D σ H ⟨G, ρ, me, G0, H0, B, p⟩ => p σ G H B
theorem ss_one (h : SS X U fre st gs) : SSs X U fre [st] gs := pss_one h
theorem ss_cons (h1 : SS X U fre st gs) (h2 : SSs X U fre sts hs) : SSs X U fre (st :: sts) (sq gs hs) := PSs.weak (pss_cons h1 h2) fun D σ H ⟨G, ρ, me, G0, H0, B, p⟩ => by
  refine ⟨G, ρ, me, G0, H0, B, ?_⟩
  revert p
  unfold sq
  cases gs ρ with
  | st => exact id
  | ex c => exact id
  | ok r =>
    cases r with
    | nx ρ' => exact fun p σ' G' H' B' => ⟨G', ρ', me, G0, H0, B', p⟩
    | rt d => exact id
    | bk ρ' => exact id
    | ct ρ' => exact id
def frz (i : Nat) (g : En → Oc Res) : En → Oc Res := fun ρ => g (freeze i ρ)
theorem Bs.freeze {G0 H0 G H : Hp} {ρ : En} {σ : L2.St} (B : Bs K mg me G0 H0 G H ρ σ) (i : Nat) : ∃ G', Bs K mg me G0 H0 G' H (freeze i ρ) σ := by
  unfold Fx.freeze
  cases q : ρ[i]? with
  | none => exact ⟨G, B⟩
  | some s =>
    cases s with
    | no => exact ⟨G, B⟩
    | exn _ => exact ⟨G, B⟩
    | sh d => exact ⟨G, B⟩
    | ow d =>
      obtain ⟨a, G', ha, ga, ⟨o, ho, rfl⟩, rp, R⟩ := B.rel.freeze i q
      have h0 : H0 a = none := B.own i a d q ha
      refine ⟨upd G a o, R, ⟨B.ext.hh, fun b u e => ?_, R.sub, fun b u h g => ?_⟩, fun j b d' h1 h2 => ?_, fun j c ds h1 => ?_⟩
      · rw [upd_ne (ne_of_none (B.ext.gg _ _ e) ga)]; exact B.ext.gg _ _ e
      · rw [upd_ne (ne_of_none h h0)]; exact B.ext.nc b u h g
      · by_cases hj : i = j
        · subst hj
          rw [List.getElem?_set_self (List.getElem?_eq_some_iff.mp q).1] at h1
          cases h1
        · rw [List.getElem?_set_ne hj] at h1
          exact B.own j b d' h1 h2
      · by_cases hj : i = j
        · subst hj
          rw [List.getElem?_set_self (List.getElem?_eq_some_iff.mp q).1] at h1
          cases h1
        · rw [List.getElem?_set_ne hj] at h1
          exact B.self j c ds h1
theorem ss_frz (i : Nat) (h : SS X U fre st gs) : SS X U fre st (frz i gs) := PS.weak h fun D σ H ⟨G, ρ, me, G0, H0, B, p⟩ => by
  obtain ⟨G', B'⟩ := B.freeze i
  exact ⟨G', _, me, G0, H0, B', p⟩
theorem sss_frz (i : Nat) (h : SSs X U fre sts gs) : SSs X U fre sts (frz i gs) := PSs.weak h fun D σ H ⟨G, ρ, me, G0, H0, B, p⟩ => by
  obtain ⟨G', B'⟩ := B.freeze i
  exact ⟨G', _, me, G0, H0, B', p⟩

theorem tE_in {G0 H0 G H : Hp} {ρ : En} {σ : L2.St} {Q : VK} (B : Bs K mg me G0 H0 G H ρ σ) (ho : match f ρ with
    | .st => False
    | .ok d => ∀ v G' H', Bs K mg me G0 H0 G' H' ρ σ → Rep K mg G' v d → Q v H'
    | .ex c => ∀ C G' H', Ext G0 H0 G' H' → mg c = some (.ref C) → U (.ref C) none H') : tE K mg (up U) f σ H Q := by
  refine ⟨G, ρ, B.rel, ?_⟩
  revert ho
  cases f ρ with
  | st => exact id
  | ok d => exact fun p v G' H' x r => p v G' H' (B.step x) r
  | ex c => exact fun p C G' H' x m => p C G' H' (B.ext.trans x) m
theorem tT_in {G0 H0 G H : Hp} {ρ : En} {σ : L2.St} {Q : Bool → Hp → Prop} (B : Bs K mg me G0 H0 G H ρ σ) (ho : match t ρ with
    | .st => False
    | .ok d => ∀ G' H', Bs K mg me G0 H0 G' H' ρ σ → Q d H'
    | .ex c => ∀ C G' H', Ext G0 H0 G' H' → mg c = some (.ref C) → U (.ref C) none H') : tT K mg (up U) t σ H Q := by
  refine ⟨G, ρ, B.rel, ?_⟩
  revert ho
  cases t ρ with
  | st => exact id
  | ok d => exact fun p G' H' x => p G' H' (B.step x)
  | ex c => exact fun p C G' H' x m => p C G' H' (B.ext.trans x) m
def exs (f : En → Oc D) : En → Oc Res := fun ρ => bd (f ρ) fun _ => .ok (.nx ρ)
theorem ss_expr (ha : SE X (up U) a f) (hs : swapsWith a none pos.line X.env = pure false := by rfl) : SS X U fre (.Expr a pos) (exs f) := PS.weak (ps_expr ha hs) fun D σ H ⟨G, ρ, me, G0, H0, B, p⟩ => by
  refine tE_in B ?_
  revert p
  unfold exs
  cases f ρ with
  | st => exact id
  | ex c => exact id
  | ok d => exact fun p v G' H' B' r => p σ G' H' B'
def ret (f : En → Oc D) : En → Oc Res := fun ρ => bd (f ρ) fun d => .ok (.rt d)
theorem ss_ret (ha : SE X (up U) a f) : SS X U false (.Return (some a) pos) (ret f) := PS.weak (ps_ret ha) fun D σ H ⟨G, ρ, me, G0, H0, B, p⟩ => by
  refine tE_in B ?_
  revert p
  unfold ret
  cases f ρ with
  | st => exact id
  | ex c => exact id
  | ok d => exact fun p v G' H' B' r => p v G' H' B'.ext r
theorem ss_retF (ha : SF X (up U) a f) : SS X U true (.Return (some a) pos) (ret f) := PS.weak (ps_ret ha) fun D σ H ⟨G, ρ, me, G0, H0, B, p⟩ => by
  refine ⟨G, ρ, B.rel, ?_⟩
  revert p
  unfold ret
  cases f ρ with
  | st => exact id
  | ex c => exact fun p C G' H' x m => p C G' H' (B.ext.trans x) m
  | ok d => exact fun p a G' H' x ha ga ow => p a G' H' (B.ext.trans x) (B.ext.hh.free ha) ga ow
def retO (i : Nat) : En → Oc Res := fun ρ => match ρ[i]? with
  | some (.ow d) => .ok (.rt d)
  | _ => .st
theorem ss_retO {i : Nat} {x : Str} {p1 : Pos} (hv : PE X (.Name x p1) (tVar i)) : SS X U true (.Return (some (.Name x p1)) pos) (retO i) := PS.weak (ps_ret hv) fun D σ H ⟨G, ρ, me, G0, H0, B, p⟩ => by
  revert p
  unfold retO
  cases q : ρ[i]? with
  | none => exact False.elim
  | some s =>
    cases s with
    | no => exact False.elim
    | exn _ => exact False.elim
    | sh d => exact False.elim
    | ow d =>
      intro p
      obtain ⟨o, ho, l, rfl, gl, w⟩ := B.rel.get q
      exact ⟨.ref l, ho, p l G H B.ext (B.own i l d q ho) gl w⟩
def retN : En → Oc Res := fun ρ => .ok (.rt .non)
theorem ss_retN : SS X U false (.Return none pos) retN := PS.weak ps_retN fun D σ H ⟨G, ρ, me, G0, H0, B, p⟩ => p .non G H B.ext .non
def iff (t : En → Oc Bool) (g h : En → Oc Res) : En → Oc Res := fun ρ => bd (t ρ) fun b => if b then g ρ else h ρ
theorem ss_if (hc : STT X (up U) c t) (ha : SSs X U fre sts gs) (hb : SSs X U fre sts2 hs) : SS X U fre (.If c sts sts2 pos) (iff t gs hs) := PS.weak (ps_if hc ha hb) fun D σ H ⟨G, ρ, me, G0, H0, B, p⟩ => by
  refine tT_in B ?_
  revert p
  unfold iff
  cases t ρ with
  | st => exact id
  | ex c => exact id
  | ok b =>
    intro p G' H' B'
    cases b with
    | true => exact ⟨G', ρ, me, G0, H0, B', p⟩
    | false => exact ⟨G', ρ, me, G0, H0, B', p⟩

/-! ### assignments -/
def asg (i : Nat) (f : En → Oc D) : En → Oc Res := fun ρ => bd (f ρ) fun d => .ok (.nx (ρ.set i (.sh d)))
def asgO (i : Nat) (f : En → Oc D) : En → Oc Res := fun ρ => bd (f ρ) fun d => match d with | .lst ds => .ok (.nx (ρ.set i (.ow (.lst ds)))) | _ => .st
theorem Bs.set {G0 H0 G H : Hp} {ρ : En} {σ : L2.St} (B : Bs K mg me G0 H0 G H ρ σ) (i : Nat) {v : V} {d : D} (r : Rep K mg G v d) : Bs K mg me G0 H0 G H (ρ.set i (.sh d)) (σ.set i (some v)) := by
  have key : ∀ {j : Nat} {e : D}, (ρ.set i (.sh d))[j]? = some (.ow e) → i ≠ j ∧ ρ[j]? = some (.ow e) := fun {j e} h1 => by
    by_cases hj : i = j
    · subst hj
      have hi : i < (ρ.set i (.sh d)).length := (List.getElem?_eq_some_iff.mp h1).1
      rw [List.getElem?_set_self (by simpa using hi)] at h1
      cases h1
    · rw [List.getElem?_set_ne hj] at h1
      exact ⟨hj, h1⟩
  refine ⟨B.rel.set i r, B.ext, fun j a d' h1 h2 => ?_, fun j c ds h1 => ?_⟩
  · obtain ⟨k1, k2⟩ := key h1
    rw [List.getElem?_set_ne k1] at h2
    exact B.own j a d' k2 h2
  · obtain ⟨k1, k2⟩ := key h1
    rw [List.getElem?_set_ne k1]
    exact B.self j c ds k2
theorem Bs.setO {G0 H0 G1 H1 G H : Hp} {ρ : En} {σ : L2.St} (B : Bs K mg me G0 H0 G1 H1 ρ σ) (x : Ext G1 H1 G H) (i : Nat) {p : Addr} {ds : List D} (hp : H1 p = none) (g : G p = none) (r : OwAt K mg G H p (.lst ds)) : Bs K mg me G0 H0 G H (ρ.set i (.ow (.lst ds))) (σ.set i (some (.ref p))) := by
  refine ⟨(B.rel.ext x).setO i g r fun j e h1 h2 => ?_, B.ext.trans x, fun j a d' h1 h2 => ?_, fun j c fs h1 => ?_⟩
  · obtain ⟨o, ho, a, e2, ga, ow⟩ := B.rel.get h1
    rw [h2] at ho
    cases ho
    cases e2
    obtain ⟨u, hu⟩ := ow.ex
    rw [hp] at hu
    cases hu
  · by_cases hj : i = j
    · subst hj
      have hi : i < σ.length := by simpa using (List.getElem?_eq_some_iff.mp h2).1
      rw [List.getElem?_set_self hi] at h2
      cases h2
      exact B.ext.hh.free hp
    · rw [List.getElem?_set_ne hj] at h1 h2
      exact B.own j a d' h1 h2
  · by_cases hj : i = j
    · subst hj
      have hi : i < (ρ.set i (.ow (.lst ds))).length := (List.getElem?_eq_some_iff.mp h1).1
      rw [List.getElem?_set_self (by simpa using hi)] at h1
      cases h1
    · rw [List.getElem?_set_ne hj] at h1 ⊢
      exact B.self j c fs h1
theorem asg_post {G0 H0 G H : Hp} {ρ : En} {σ : L2.St} {D : Ends} {i : Nat} (B : Bs K mg me G0 H0 G H ρ σ) (p : PostS K mg U fre me G0 H0 D (asg i f ρ)) : tE K mg (up U) f σ H fun x H1 => gName i x σ H1 D.nx := by
  refine tE_in B ?_
  revert p
  unfold asg
  cases f ρ with
  | st => exact id
  | ex c => exact id
  | ok d => exact fun p v G' H' B' r => p _ G' H' (B'.set i r)
theorem asgO_post {G0 H0 G H : Hp} {ρ : En} {σ : L2.St} {D : Ends} {i : Nat} (B : Bs K mg me G0 H0 G H ρ σ) (p : PostS K mg U fre me G0 H0 D (asgO i f ρ)) : tF K mg (up U) f σ H fun x H1 => gName i x σ H1 D.nx := by
  refine ⟨G, ρ, B.rel, ?_⟩
  revert p
  unfold asgO
  cases f ρ with
  | st => exact id
  | ex c => exact fun p C G' H' x m => p C G' H' (B.ext.trans x) m
  | ok d =>
    intro p a G' H' x ha ga ow
    simp only [bd_ok] at p
    cases d with
    | lst ds => exact p _ G' H' (B.setO x i ha ga ow)
    | _ => exact p.elim
section
variable {i : Nat} {x : Str} {pos' : Pos}
theorem ss_set (C : Ctx X (up U)) (hi : X.N[i]? = some x) (hx : Loc X.env.scope x) (ha : SE X (up U) a f) (hs : swapsWith a (some (.Name x pos')) pos.line X.env = pure false := by rfl) (hf : X.fn x = true ∨ X.env.scope.names.lookup x = some .local := by first | exact .inl rfl | exact .inr rfl | assumption) :
    SS X U fre (.Assign [.Name x pos'] a pos) (asg i f) := PS.weak (ps_set C.nd hi hx ha hs hf) fun D σ H ⟨G, ρ, me, G0, H0, B, p⟩ => asg_post B p
theorem ss_setO (C : Ctx X (up U)) (hi : X.N[i]? = some x) (hx : Loc X.env.scope x) (ha : SF X (up U) a f) (hs : swapsWith a (some (.Name x pos')) pos.line X.env = pure false := by rfl) (hf : X.fn x = true ∨ X.env.scope.names.lookup x = some .local := by first | exact .inl rfl | exact .inr rfl | assumption) :
    SS X U fre (.Assign [.Name x pos'] a pos) (asgO i f) := PS.weak (ps_set C.nd hi hx ha hs hf) fun D σ H ⟨G, ρ, me, G0, H0, B, p⟩ => asgO_post B p
def augA (i : Nat) (f : En → Oc D) : En → Oc Res := fun ρ => bd (vr i ρ) fun d => bd (f ρ) fun e => bd (match d, e with | .int m, .int n => .ok (.int (m + n)) | _, _ => Oc.st) fun z => .ok (.nx (ρ.set i (.sh z)))
theorem ss_augA (C : Ctx X (up U)) (hi : X.N[i]? = some x) (hx : Loc X.env.scope x) (ha : SE X (up U) a f) (hf : X.fn x = true ∨ X.env.scope.names.lookup x = some .local := by first | exact .inl rfl | exact .inr rfl | assumption) :
    SS X U fre (.AugAssign (.Name x pos') .Add a pos) (augA i f) := PS.weak (ps_aug C.nd hi hx ha ip_add hf) fun D σ H ⟨G, ρ, me, G0, H0, B, p⟩ => by
  revert p
  unfold augA vr
  cases q : ρ[i]? with
  | none => exact fun p => p.elim
  | some s =>
    cases s with
    | no => exact fun p => p.elim
    | exn _ => exact fun p => p.elim
    | ow d => exact fun p => p.elim
    | sh d =>
      intro p
      obtain ⟨o, ho, v, rfl, r⟩ := B.rel.get q
      refine ⟨v, ho, tE_in B ?_⟩
      revert p
      simp only [bd_ok]
      cases f ρ with
      | st => exact id
      | ex c => exact id
      | ok e =>
        intro p u G' H' B' r'
        simp only [bd_ok] at p
        cases d with
        | int m =>
          cases e with
          | int n =>
            cases r
            cases r'
            exact ⟨m, n, rfl, rfl, p _ G' H' (B'.set i (.int _))⟩
          | _ => exact p.elim
        | _ => exact p.elim
def augS (i : Nat) (f : En → Oc D) : En → Oc Res := fun ρ => bd (vr i ρ) fun d => bd (f ρ) fun e => bd (match d, e with | .int m, .int n => .ok (.int (m - n)) | _, _ => Oc.st) fun z => .ok (.nx (ρ.set i (.sh z)))
theorem ss_augS (C : Ctx X (up U)) (hi : X.N[i]? = some x) (hx : Loc X.env.scope x) (ha : SE X (up U) a f) (hf : X.fn x = true ∨ X.env.scope.names.lookup x = some .local := by first | exact .inl rfl | exact .inr rfl | assumption) :
    SS X U fre (.AugAssign (.Name x pos') .Sub a pos) (augS i f) := PS.weak (ps_aug C.nd hi hx ha ip_sub hf) fun D σ H ⟨G, ρ, me, G0, H0, B, p⟩ => by
  revert p
  unfold augS vr
  cases q : ρ[i]? with
  | none => exact fun p => p.elim
  | some s =>
    cases s with
    | no => exact fun p => p.elim
    | exn _ => exact fun p => p.elim
    | ow d => exact fun p => p.elim
    | sh d =>
      intro p
      obtain ⟨o, ho, v, rfl, r⟩ := B.rel.get q
      refine ⟨v, ho, tE_in B ?_⟩
      revert p
      simp only [bd_ok]
      cases f ρ with
      | st => exact id
      | ex c => exact id
      | ok e =>
        intro p u G' H' B' r'
        simp only [bd_ok] at p
        cases d with
        | int m =>
          cases e with
          | int n =>
            cases r
            cases r'
            exact ⟨m, n, rfl, rfl, p _ G' H' (B'.set i (.int _))⟩
          | _ => exact p.elim
        | _ => exact p.elim
end

/-! ### stores into own objects -/
theorem Bs.chg {G0 H0 G H : Hp} {ρ : En} {σ : L2.St} (B : Bs K mg me G0 H0 G H ρ σ) {i : Nat} {p : Addr} {d d' : D} {o : HO} (h1 : ρ[i]? = some (.ow d)) (h2 : σ[i]? = some (some (.ref p))) (hd : ∀ c ds, d' = .obj c ds → ∃ c2 ds2, d = .obj c2 ds2) (gp : G p = none) (ow : OwAt K mg G (upd H p o) p d') : Bs K mg me G0 H0 G (upd H p o) (ρ.set i (.ow d')) σ := by
  have h0 : H0 p = none := B.own i p d h1 h2
  have s0 : Same G (upd H p o) := fun b u e => by rw [upd_ne (ne_of_none e gp)]; exact B.rel.sub _ _ e
  have od : OwAt K mg G H p d := by
    obtain ⟨b, e, _, w⟩ := B.rel.at_ i _ _ h1 h2
    cases e
    exact w
  refine ⟨⟨s0, B.rel.tabs.upd od.notTab, by simp [B.rel.len], fun j s ov e1 e2 => ?_, fun j k b x y e1 e2 e3 e4 => ?_⟩, ⟨B.ext.hh.upd h0, B.ext.gg, s0, B.ext.nc⟩, fun j b x e1 e2 => ?_, fun j c fs e1 => ?_⟩
  · by_cases hj : i = j
    · subst hj
      rw [List.getElem?_set_self (List.getElem?_eq_some_iff.mp h1).1] at e1
      cases e1
      rw [h2] at e2
      cases e2
      exact ⟨p, rfl, gp, ow⟩
    · rw [List.getElem?_set_ne hj] at e1
      have q := B.rel.at_ j s ov e1 e2
      cases s with
      | no => trivial
      | exn _ => exact q
      | sh x => exact q
      | ow x =>
        obtain ⟨b, e, gb, r⟩ := q
        subst e
        refine ⟨b, rfl, gb, r.same (.refl _) fun u hu _ => ?_⟩
        rw [upd_ne fun z => hj (B.rel.apart i j p d x h1 e1 h2 (by rw [e2, z]))]
        exact hu
  · have key : ∀ {m : Nat} {z : D}, (ρ.set i (.ow d'))[m]? = some (.ow z) → ∃ z', ρ[m]? = some (.ow z') := fun {m z} e => by
      by_cases hm : i = m
      · exact ⟨d, by rw [← hm]; exact h1⟩
      · rw [List.getElem?_set_ne hm] at e; exact ⟨z, e⟩
    obtain ⟨x', e1'⟩ := key e1
    obtain ⟨y', e2'⟩ := key e2
    exact B.rel.apart j k b x' y' e1' e2' e3 e4
  · by_cases hj : i = j
    · subst hj
      rw [h2] at e2
      cases e2
      exact h0
    · rw [List.getElem?_set_ne hj] at e1
      exact B.own j b x e1 e2
  · by_cases hj : i = j
    · subst hj
      rw [List.getElem?_set_self (List.getElem?_eq_some_iff.mp h1).1] at e1
      cases e1
      obtain ⟨c2, ds2, e⟩ := hd _ _ rfl
      subst e
      exact B.self i c2 ds2 h1
    · rw [List.getElem?_set_ne hj] at e1
      exact B.self j c fs e1
def app (i : Nat) (f : En → Oc D) : En → Oc Res := fun ρ => match ρ[i]? with
  | some (.ow (.lst _)) => bd (f ρ) fun d => (match ρ[i]? with
    | some (.ow (.lst ds)) => chk (decide (ds.length < sizeLine)) (.ok (.nx (ρ.set i (.ow (.lst (ds ++ [d]))))))
    | _ => .st)
  | _ => .st
theorem ss_app {i : Nat} {x : Str} {p1 apos cpos : Pos} (hv : PE X (.Name x p1) (tVar i)) (ha : SE X (up U) a f)
    (hbase : attributeBase (.Name x p1) "append" X.env (eval (.Name x p1) X.env) = eval (.Name x p1) X.env := by rfl)
    (hfew : ((backTo cpos (starEach [a] X.env)).all (fun x => !x.1) && (backToKw cpos (keywordEach [] X.env)).all (fun x => x.1.isSome)
      && decide (([a] : List Expr).length + ([] : List Keyword).length + (if ([] : List Keyword).isEmpty then 0 else 1) < 30)) = true := by rfl)
    (hline : (apos.endLine == cpos.line) = true := by rfl) (hs : starEach [a] X.env = (false, eval a X.env) :: starEach [] X.env := by rfl) (hplain : (backTo cpos (starEach [] X.env)).any (·.1) = false := by rfl)
    (hsw : swapsWith (.Call (.Attribute (.Name x p1) "append" apos) [a] [] cpos) none pos.line X.env = pure false := by rfl) :
    SS X U fre (.Expr (.Call (.Attribute (.Name x p1) "append" apos) [a] [] cpos) pos) (app i f) :=
  PS.weak (ps_expr (pe_bm PySem.F.plainAttrs_list PySem.F.slot_list_append PySem.F.type_list_append mt_append hv (pa_cons ha pa_nil hs) hbase hfew hline hs hplain) hsw) fun D σ H ⟨G, ρ, me, G0, H0, B, p⟩ => by
  revert p
  unfold app
  cases q : ρ[i]? with
  | none => exact fun p => p.elim
  | some s =>
    cases s with
    | no => exact fun p => p.elim
    | exn _ => exact fun p => p.elim
    | sh d => exact fun p => p.elim
    | ow d =>
      cases d with
      | lst ds =>
        intro p
        obtain ⟨o, ho, l, rfl, gl, xs, hl, rl⟩ := B.rel.get q
        refine ⟨.ref l, ho, .inl ⟨rfl, _, SqL.of hl⟩, tE_in B ?_⟩
        revert p
        simp only
        cases f ρ with
        | st => exact id
        | ex c => exact id
        | ok d =>
          intro p v G' H' B' r
          simp only [bd_ok] at p
          have p2 : decide (ds.length < sizeLine) = true ∧ PostS X.K X.mg U fre me G0 H0 D (.ok (.nx (ρ.set i (.ow (.lst (ds ++ [d])))))) := chk_some (P := PostS X.K X.mg U fre me G0 H0 D) (fun z => z) p
          obtain ⟨o2, ho2, l2, e2, gl2, xs2, hl2, rl2⟩ := B'.rel.get q
          rw [ho] at ho2
          cases ho2
          cases e2
          exact ⟨l, xs2, v, rfl, rfl, hl2, by rw [rl2.length]; exact of_decide_eq_true p2.1, p2.2 σ G' _ (B'.chg q ho (fun _ _ z => by cases z) gl2 ⟨_, upd_same, rl2.append (.cons r .nil)⟩)⟩
      | _ => exact fun p => p.elim
def putD (n : Str) (d : D) : List (Str × D) → List (Str × D)
  | [] => [(n, d)]
  | (m, x) :: r => if m = n then (m, d) :: r else (m, x) :: putD n d r
theorem RepF.put {G : Hp} {n : Str} {v : V} {d : D} (rv : Rep K mg G v d) : ∀ {fs : List (Str × V)} {ds : List (Str × D)}, RepF K mg G fs ds → RepF K mg G (putF n v fs) (putD n d ds)
  | _, _, .nil => .cons rv .nil
  | _, _, .cons (n := m) r t => by
    unfold putF putD
    by_cases h : m = n
    · rw [if_pos h, if_pos h]; exact .cons rv t
    · rw [if_neg h, if_neg h]; exact .cons r (RepF.put rv t)
def setF (i : Nat) (cs : List Str) (n : Str) (f : En → Oc D) : En → Oc Res := fun ρ => bd (f ρ) fun d => match ρ[i]? with
  | some (.ow (.obj c fs)) => chk (decide (c ∈ cs) && decide (fs.length < 1000)) (.ok (.nx (ρ.set i (.ow (.obj c (putD n d fs))))))
  | _ => .st
theorem ss_setF {i : Nat} {x n : Str} {p1 pos' : Pos} {cs : List Str} (hc : ∀ c ∈ cs, ClsA X.K X.mg n c) (hv : PE X (.Name x p1) (tVar i)) (ha : SE X (up U) a f) (hs : swapsWith a (some (.Attribute (.Name x p1) n pos')) pos.line X.env = pure false := by rfl) :
    SS X U fre (.Assign [.Attribute (.Name x p1) n pos'] a pos) (setF i cs n f) := PS.weak (ps_fld hv ha hs) fun D σ H ⟨G, ρ, me, G0, H0, B, p⟩ => by
  refine tE_in B ?_
  revert p
  unfold setF
  cases f ρ with
  | st => exact id
  | ex c => exact id
  | ok d =>
    intro p v G' H' B' r
    simp only [bd_ok] at p
    revert p
    cases q : ρ[i]? with
    | none => exact fun p => p.elim
    | some s =>
      cases s with
      | no => exact fun p => p.elim
      | exn _ => exact fun p => p.elim
      | sh d => exact fun p => p.elim
      | ow d2 =>
        cases d2 with
        | obj c fs =>
          intro p
          have p2 : (decide (c ∈ cs) && decide (fs.length < 1000)) = true ∧ PostS X.K X.mg U fre me G0 H0 D (.ok (.nx (ρ.set i (.ow (.obj c (putD n d fs)))))) := chk_some (P := PostS X.K X.mg U fre me G0 H0 D) (fun z => z) p
          rw [Bool.and_eq_true, decide_eq_true_eq, decide_eq_true_eq] at p2
          obtain ⟨o, ho, l, rfl, gl, C, dx, vs, m, hl, rl⟩ := B'.rel.get q
          obtain ⟨k1, k2⟩ := hc c p2.1.1 C m
          exact ⟨.ref l, ho, l, C, dx, vs, rfl, hl, k1, k2, by rw [rl.length]; exact p2.1.2, p2.2 σ G' _ (B'.chg q ho (fun _ _ _ => ⟨_, _, rfl⟩) gl ⟨C, dx, _, m, upd_same, rl.put r⟩)⟩
        | _ => exact fun p => p.elim
end
end Fx

set_option Elab.async false
set_option linter.all false
set_option maxRecDepth 100000
set_option maxHeartbeats 4000000
/-! Fx5: loops, comprehensions, defs. -/
namespace Fx
open PySem PySem.Spec PyProof.Rows L2
variable {K : PySem.W.Frag} {mg : Str → Option Value} {me : Addr}

/-! ### targets -/
inductive Tg where
  | one (i : Nat) | tup (is : List Nat)
def setE : List Nat → List D → En → En
  | i :: is, d :: ds, ρ => setE is ds (ρ.set i (.sh d))
  | _, _, ρ => ρ
def setV : List Nat → List V → L2.St → L2.St
  | i :: is, v :: vs, σ => setV is vs (σ.set i (some v))
  | _, _, σ => σ
def bindT : Tg → D → En → Oc En
  | .one i, d, ρ => .ok (ρ.set i (.sh d))
  | .tup is, .tup ds, ρ => chk (decide (ds.length = is.length)) (.ok (setE is ds ρ))
  | _, _, _ => .st
def gNames : List Nat → TGs
  | [] => gNil
  | i :: is => gCons (gName i) (gNames is)
def gT (K : PySem.W.Frag) : Tg → TG
  | .one i => gName i
  | .tup is => gTup K is.length (gNames is)
abbrev ST (X : Cx) (e : Expr) (T : Tg) : Prop := PG X e (gT X.K T)
def Tg.slots : Tg → List Nat
  | .one i => [i]
  | .tup is => is
def setT : Tg → V → List V → L2.St → L2.St
  | .one i, v, _, σ => σ.set i (some v)
  | .tup is, _, vs, σ => setV is vs σ
theorem gNames_in : ∀ {is : List Nat} {vs : List V} {σ : L2.St} {H : Hp} {Q : L2.St → Hp → Prop}, vs.length = is.length → Q (setV is vs σ) H → gNames is vs σ H Q
  | [], [], _, _, _, _, q => ⟨rfl, q⟩
  | i :: is, v :: vs, σ, H, Q, h, q => ⟨v, vs, rfl, gNames_in (by simpa using h) q⟩
theorem gT_in {G H : Hp} {T : Tg} {v : V} {d : D} {ρ ρ' : En} {σ : L2.St} {Q : L2.St → Hp → Prop} (s : Same G H) (r : Rep K mg G v d) (h : bindT T d ρ = .ok ρ') (q : ∀ vs ds, (match T with | .one _ => True | .tup is => d = .tup ds ∧ vs.length = is.length ∧ RepL K mg G vs ds ∧ ρ' = setE is ds ρ) → Q (setT T v vs σ) H) : gT K T v σ H Q := by
  cases T with
  | one i => exact q [] [] trivial
  | tup is =>
    cases d with
    | tup ds =>
      cases r with
      | tup hs rl =>
        rename_i a xs
        have h : chk (decide (ds.length = is.length)) (.ok (setE is ds ρ)) = .ok ρ' := h
        by_cases hl : ds.length = is.length
        · rw [decide_eq_true hl] at h
          cases h
          have e : xs.length = is.length := by rw [rl.length]; exact hl
          exact ⟨a, xs, rfl, SqT.same s hs, e, gNames_in e (q xs ds ⟨rfl, e, rl, rfl⟩)⟩
        · rw [decide_eq_false hl] at h
          cases h
    | _ => cases h
theorem Bs.setV {G0 H0 G H : Hp} : ∀ {is : List Nat} {vs : List V} {ds : List D} {ρ : En} {σ : L2.St}, Bs K mg me G0 H0 G H ρ σ → RepL K mg G vs ds → Bs K mg me G0 H0 G H (setE is ds ρ) (Fx.setV is vs σ)
  | [], _, _, _, _, B, _ => B
  | i :: is, _, _, _, _, B, .nil => B
  | i :: is, _, _, _, _, B, .cons r t => Bs.setV (is := is) (B.set i r) t
theorem Rel.setV {G H : Hp} : ∀ {is : List Nat} {vs : List V} {ds : List D} {ρ : En} {σ : L2.St}, Rel K mg G H ρ σ → RepL K mg G vs ds → Rel K mg G H (setE is ds ρ) (Fx.setV is vs σ)
  | [], _, _, _, _, B, _ => B
  | i :: is, _, _, _, _, B, .nil => B
  | i :: is, _, _, _, _, B, .cons r t => Rel.setV (is := is) (B.set i r) t
theorem gT_bs {G0 H0 G H : Hp} {T : Tg} {v : V} {d : D} {ρ ρ' : En} {σ : L2.St} {Q : L2.St → Hp → Prop} (B : Bs K mg me G0 H0 G H ρ σ) (r : Rep K mg G v d) (h : bindT T d ρ = .ok ρ') (q : ∀ σ', Bs K mg me G0 H0 G H ρ' σ' → Q σ' H) : gT K T v σ H Q := by
  refine gT_in B.rel.sub r h fun vs ds c => q _ ?_
  cases T with
  | one i => cases h; exact B.set i r
  | tup is =>
    obtain ⟨_, _, rl, e⟩ := c
    subst e
    exact B.setV rl
theorem gT_rel {G H : Hp} {T : Tg} {v : V} {d : D} {ρ ρ' : En} {σ : L2.St} {Q : L2.St → Hp → Prop} (R : Rel K mg G H ρ σ) (r : Rep K mg G v d) (h : bindT T d ρ = .ok ρ') (q : ∀ vs, Rel K mg G H ρ' (setT T v vs σ) → Q (setT T v vs σ) H) : gT K T v σ H Q := by
  refine gT_in R.sub r h fun vs ds c => q _ ?_
  cases T with
  | one i => cases h; exact R.set i r
  | tup is =>
    obtain ⟨_, _, rl, e⟩ := c
    subst e
    exact R.setV rl

/-! ### what is walked -/
structure Yld (K : PySem.W.Frag) (mg : Str → Option Value) (J : It) (G' : Hp) (ds : List D) : Prop where
  go : ∀ (i : Nat) G H, i < ds.length → Same G' G → Same G H → J.go i H
  stop : ∀ G H, Same G' G → Same G H → J.stop ds.length H
  yld : ∀ (i : Nat) d x G H H', ds[i]? = some d → Same G' G → Same G H → J.yld i H x H' → ∃ G2, Ext G H G2 H' ∧ Rep K mg G2 x d
def PostI (K : PySem.W.Frag) (mg : Str → Option Value) (W : XK) (G H : Hp) (R : It → Hp → Prop) : Oc (List D) → Prop
  | .st => False
  | .ok ds => ∀ J G' H', Ext G H G' H' → Yld K mg J G' ds → R J H'
  | .ex c => ∀ C G' H', Ext G H G' H' → mg c = some (.ref C) → W (.ref C) none H'
def tI (K : PySem.W.Frag) (mg : Str → Option Value) (W : WX) (f : En → Oc (List D)) : TI := fun σ H R => ∃ G ρ, Rel K mg G H ρ σ ∧ PostI K mg (fun c d H' => W c d σ H') G H R (f ρ)
abbrev SI (X : Cx) (W : WX) (tg e : Expr) (f : En → Oc (List D)) : Prop := PI X tg e (tI X.K X.mg W f)
theorem PI.weak {X : Cx} {tg e : Expr} {t u : TI} (h : PI X tg e t) (w : ∀ σ H Q, u σ H Q → t σ H Q) : PI X tg e u := ⟨fun pins s σ H Q I q => h.run pins s σ H Q I (w _ _ _ q)⟩

section
variable {X : Cx} {W : WX} {U : XK} {fre : Bool} {a b c e tg it : Expr} {es : List Expr} {f g h : En → Oc D} {fs : En → Oc (List D)} {pos : Pos} {st : Stmt} {sts sts2 : List Stmt} {gs hs : En → Oc Res} {t : En → Oc Bool}

def iSeq (K : PySem.W.Frag) (tl : TE) : TI := fun σ H R => tl σ H fun x H1 => ∃ a, x = .ref a ∧ ((∃ xs, SqL K H1 a xs ∧ R (Itl K a) H1) ∨ (∃ xs, SqT K H1 a xs ∧ R (Itt K a) H1))
theorem pi_seq {l : Expr} {tl : TE} (hl : PE X l tl) : PI X tg l (iSeq X.K tl) := by
  refine ⟨fun pins s σ H R I h => ?_⟩
  refine thn (hl.run pins s σ H _ I h) fun v s1 ⟨x, H1, I1, r1, q1⟩ => ?_
  obtain ⟨a, e, q1⟩ := q1
  subst e
  cases r1
  rcases q1 with ⟨xs, hq, q⟩ | ⟨xs, hq, q⟩
  · obtain ⟨its, rv, p, hz⟩ := I1.list hq
    refine wpAny_pyIter_list p.isList ?_
    refine ⟨s1.heap.objs.size, [s1.heap.objs.size], _, _, H1, rfl, I1.kept (t' := s1.toks) fun b o e => Heap.get?_push_of_some _ e, turn_list a _, ⟨_, Heap.get?_push_size _ rfl, rfl, rfl⟩, fun b hb => ?_, q⟩
    have e : b = s1.heap.objs.size := by simpa using hb
    subst e
    exact I1.fpOk (Nat.le_refl _) (I1.hok.fresh (Nat.le_refl _))
  · obtain ⟨its, rv, p, hz⟩ := I1.tuple hq
    refine wpAny_pyIter_tuple (show s1.heap.IsTuple a its.toArray from p) ?_
    refine ⟨s1.heap.objs.size, [s1.heap.objs.size], _, _, H1, rfl, I1.kept (t' := s1.toks) fun b o e => Heap.get?_push_of_some _ e, turn_tuple a _, ⟨_, Heap.get?_push_size _ rfl, rfl, rfl⟩, fun b hb => ?_, q⟩
    have e : b = s1.heap.objs.size := by simpa using hb
    subst e
    exact I1.fpOk (Nat.le_refl _) (I1.hok.fresh (Nat.le_refl _))
theorem yld_list {G' : Hp} {a : Addr} {xs : List V} {ds : List D} (h : SqL K G' a xs) (r : RepL K mg G' xs ds) : Yld K mg (Itl K a) G' ds := by
  refine ⟨fun i G H hi s1 s2 => ?_, fun G H s1 s2 => ?_, fun i d x G H H' hd s1 s2 y => ?_⟩
  · have hi2 : i < xs.length := by rw [r.length]; exact hi
    exact ⟨xs, xs[i], s2.seq (s1.seq h), by simp [hi2]⟩
  · exact ⟨xs, s2.seq (s1.seq h), by rw [r.length]; exact Nat.le_refl _⟩
  · obtain ⟨e, y⟩ := y
    subst e
    obtain ⟨v, hv, rv⟩ := r.get hd
    have q := y xs (s2.seq (s1.seq h))
    rw [hv] at q
    cases q
    exact ⟨G, .refl s2, rv.same s1⟩
theorem yld_tup {G' : Hp} {a : Addr} {xs : List V} {ds : List D} (h : SqT K G' a xs) (r : RepL K mg G' xs ds) : Yld K mg (Itt K a) G' ds := by
  refine ⟨fun i G H hi s1 s2 => ?_, fun G H s1 s2 => ?_, fun i d x G H H' hd s1 s2 y => ?_⟩
  · have hi2 : i < xs.length := by rw [r.length]; exact hi
    exact ⟨xs, xs[i], SqT.same s2 (SqT.same s1 h), by simp [hi2]⟩
  · exact ⟨xs, SqT.same s2 (SqT.same s1 h), by rw [r.length]; exact Nat.le_refl _⟩
  · obtain ⟨e, y⟩ := y
    subst e
    obtain ⟨v, hv, rv⟩ := r.get hd
    have q := y xs (SqT.same s2 (SqT.same s1 h))
    rw [hv] at q
    cases q
    exact ⟨G, .refl s2, rv.same s1⟩
def itm (f : En → Oc D) : En → Oc (List D) := fun ρ => bd (f ρ) fun d => match items d with | some ds => .ok ds | none => .st
theorem si_seq (ha : SE X W it f) : SI X W tg it (itm f) := PI.weak (pi_seq ha) fun σ H Q ⟨G, ρ, R, p⟩ => by
  refine ⟨G, ρ, R, ?_⟩
  revert p
  unfold itm
  cases f ρ with
  | st => exact id
  | ex c => exact id
  | ok d =>
    intro p v G1 H1 x1 r
    simp only [bd_ok] at p
    cases d with
    | lst ds =>
      cases r with
      | lst h r => exact ⟨_, rfl, .inl ⟨_, SqL.of (x1.gh _ _ h), p _ G1 H1 x1 (yld_list (SqL.of h) r)⟩⟩
    | tup ds =>
      cases r with
      | tup h r => exact ⟨_, rfl, .inr ⟨_, SqT.same x1.gh h, p _ G1 H1 x1 (yld_tup h r)⟩⟩
    | fz ds =>
      cases r with
      | fz h r => exact ⟨_, rfl, .inl ⟨_, x1.gh.seq h, p _ G1 H1 x1 (yld_list h r)⟩⟩
    | _ => exact p.elim
def rngL (lo : Int) (n : Nat) : List D := (List.range n).map fun i => .int (lo + (i : Nat))
theorem yld_rng {G' : Hp} {lo : Int} {n : Nat} : Yld K mg (Itr lo n) G' (rngL lo n) := by
  have hl : (rngL lo n).length = n := by simp [rngL]
  refine ⟨fun i G H hi s1 s2 => ?_, fun G H s1 s2 => ?_, fun i d x G H H' hd s1 s2 y => ?_⟩
  · show i < n
    rw [← hl]; exact hi
  · show n ≤ _
    rw [hl]; exact Nat.le_refl _
  · obtain ⟨e, y⟩ := y
    subst e y
    have hi : i < n := by rw [← hl]; exact (List.getElem?_eq_some_iff.mp hd).1
    unfold rngL at hd
    rw [List.getElem?_map, List.getElem?_range hi] at hd
    cases hd
    exact ⟨G, .refl s2, .int _⟩
def rng1 (fs : En → Oc (List D)) : En → Oc (List D) := fun ρ => bd (fs ρ) fun ds => match ds with | [.int j] => chk (decide (-(2 ^ 62) ≤ j ∧ j < 2 ^ 62)) (.ok (rngL 0 j.toNat)) | _ => .st
def rng2 (fs : En → Oc (List D)) : En → Oc (List D) := fun ρ => bd (fs ρ) fun ds => match ds with | [.int i, .int j] => chk (decide (-(2 ^ 62) ≤ i ∧ i < 2 ^ 62 ∧ -(2 ^ 62) ≤ j ∧ j < 2 ^ 62)) (.ok (rngL i (j - i).toNat)) | _ => .st
theorem si_rng1 {p : Pos} (hg : Gl X "range") (hm : X.mg "range" = none) (ha : SA X W [a] fs) (hs : starEach [a] X.env = [(false, eval a X.env)] := by rfl) : SI X W tg (.Call (.Name "range" p) [a] [] pos) (rng1 fs) := PI.weak (pi_range1 hg hm ha hs) fun σ H Q ⟨G, ρ, R, p⟩ => by
  refine ⟨G, ρ, R, ?_⟩
  revert p
  unfold rng1
  cases fs ρ with
  | st => exact id
  | ex c => exact id
  | ok ds =>
    intro p vs G1 H1 x1 r
    simp only [bd_ok] at p
    split at p
    · rename_i j
      cases r with
      | cons r r2 =>
        cases r
        cases r2
        obtain ⟨c, p⟩ := chk_some (P := PostI X.K X.mg (fun c d H' => W c d σ H') G H Q) (fun z => z) p
        obtain ⟨c1, c2⟩ := of_decide_eq_true c
        exact ⟨j, rfl, c1, c2, p _ G1 H1 x1 yld_rng⟩
    · exact p.elim
theorem si_rng2 {p : Pos} (hg : Gl X "range") (hm : X.mg "range" = none) (ha : SA X W [a, b] fs) (hs : starEach [a, b] X.env = [(false, eval a X.env), (false, eval b X.env)] := by rfl) (hs2 : starEach [b] X.env = [(false, eval b X.env)] := by rfl) : SI X W tg (.Call (.Name "range" p) [a, b] [] pos) (rng2 fs) := PI.weak (pi_range2 hg hm ha hs hs2) fun σ H Q ⟨G, ρ, R, p⟩ => by
  refine ⟨G, ρ, R, ?_⟩
  revert p
  unfold rng2
  cases fs ρ with
  | st => exact id
  | ex c => exact id
  | ok ds =>
    intro p vs G1 H1 x1 r
    simp only [bd_ok] at p
    split at p
    · rename_i i j
      cases r with
      | cons r r2 =>
        cases r
        cases r2 with
        | cons r r2 =>
          cases r
          cases r2
          obtain ⟨c, p⟩ := chk_some (P := PostI X.K X.mg (fun c d H' => W c d σ H') G H Q) (fun z => z) p
          exact ⟨i, j, rfl, of_decide_eq_true c, p _ G1 H1 x1 yld_rng⟩
    · exact p.elim

/-! ### for -/
theorem Ext.base {G0 H0 G1 H1 G H : Hp} (x : Ext G0 H0 G1 H1) (y : Ext G1 H0 G H) : Ext G0 H0 G H := ⟨y.hh, x.gg.trans y.gg, y.gh, fun a o h g => y.nc a o h (x.nc a o h g)⟩
theorem Ext.rebase {G0 H0 G1 G H : Hp} (s : Same G0 G1) (y : Ext G0 H0 G H) (z : Same G1 G) : Ext G1 H0 G H := ⟨y.hh, z, y.gh, fun a o h g => y.nc a o h (s.free g)⟩
theorem Bs.base {G0 H0 G1 H1 G H : Hp} {ρ : En} {σ : L2.St} (x : Ext G0 H0 G1 H1) (B : Bs K mg me G1 H0 G H ρ σ) : Bs K mg me G0 H0 G H ρ σ := ⟨B.rel, x.base B.ext, B.own, B.self⟩
theorem Bs.rebase {G0 H0 G1 G H : Hp} {ρ : En} {σ : L2.St} (s : Same G0 G1) (B : Bs K mg me G0 H0 G H ρ σ) (z : Same G1 G) : Bs K mg me G1 H0 G H ρ σ := ⟨B.rel, B.ext.rebase s z, B.own, B.self⟩
def forL (T : Tg) (body : En → Oc Res) : List D → En → Oc Res
  | [], ρ => .ok (.nx ρ)
  | d :: ds, ρ => bd (bindT T d ρ) fun ρ1 => bd (body ρ1) fun r => match r with
    | .nx ρ2 => forL T body ds ρ2
    | .ct ρ2 => forL T body ds ρ2
    | .bk ρ2 => .ok (.nx ρ2)
    | .rt d => .ok (.rt d)
def fr (T : Tg) (src : En → Oc (List D)) (body : En → Oc Res) : En → Oc Res := fun ρ => bd (src ρ) fun ds => forL T body ds ρ
theorem bindT_ex {T : Tg} {d : D} {ρ : En} {c : Str} : bindT T d ρ ≠ .ex c := by
  intro h
  cases T with
  | one i => cases h
  | tup is =>
    cases d with
    | tup ds =>
      have h : chk (decide (ds.length = is.length)) (.ok (setE is ds ρ)) = .ex c := h
      cases hb : decide (ds.length = is.length) with
      | true => rw [hb] at h; cases h
      | false => rw [hb] at h; cases h
    | _ => cases h
theorem ss_for {T : Tg} {body : List Stmt} {src : En → Oc (List D)} (C : Ctx X (up U)) (hp : PassesOwn (model X.prog X.w) X.A X.env X.xe) (hi : SI X (up U) tg it src) (hg : ST X tg T) (hb : SSs X U fre body gs)
    (hs : ∀ x, foldedSetIterable it X.env x = pure x := by intro _; rfl) : SS X U fre (.For tg it body [] pos) (fr T src gs) := PS.weak (ps_for hp C.calm hi hg hb hs) fun D σ H ⟨G, ρ, me, G0, H0, B, p⟩ => by
  refine ⟨G, ρ, B.rel, ?_⟩
  revert p
  unfold fr
  cases src ρ with
  | st => exact id
  | ex c => exact fun p C G' H' x m => p C G' H' (B.ext.trans x) m
  | ok ds =>
    intro p J G1 H1 x1 Y
    simp only [bd_ok] at p
    have xb : Ext G0 H0 G1 H1 := B.ext.trans x1
    refine ⟨fun i m σ H => m = ds.length - i ∧ i ≤ ds.length ∧ ∃ G ρ, Same G1 G ∧ Bs X.K X.mg me G0 H0 G H ρ σ ∧ PostS X.K X.mg U fre me G0 H0 D (forL T gs (ds.drop i) ρ), ⟨ds.length, by simp, Nat.zero_le _, G1, ρ, .refl _, B.step x1, by simpa using p⟩, ?_⟩
    rintro i m σ H ⟨rfl, hi, G, ρ, s1, B, p⟩
    by_cases hlt : i < ds.length
    · refine .inr ⟨Y.go i G H hlt s1 B.rel.sub, _, fun σ' H' n => n, fun x H' y => ?_⟩
      obtain ⟨d, hd⟩ : ∃ d, ds[i]? = some d := ⟨ds[i], List.getElem?_eq_getElem hlt⟩
      obtain ⟨G2, x2, r2⟩ := Y.yld i d x G H H' hd s1 B.rel.sub y
      have B2 := B.step x2
      have hdr : ds.drop i = d :: ds.drop (i + 1) := by
        rw [List.drop_eq_getElem_cons hlt]
        rw [List.getElem?_eq_getElem hlt] at hd
        cases hd
        rfl
      rw [hdr] at p
      unfold forL at p
      cases hb2 : bindT T d ρ with
      | st => rw [hb2] at p; exact p.elim
      | ex c => exact absurd hb2 bindT_ex
      | ok ρ1 =>
        rw [hb2] at p
        simp only [bd_ok] at p
        refine gT_bs B2 r2 hb2 fun σ' B3 => ?_
        refine ⟨G2, ρ1, me, G1, H0, B3.rebase xb.gg (s1.trans x2.gg), ?_⟩
        revert p
        cases gs ρ1 with
        | st => exact id
        | ex c => exact fun p C G'' H'' x m => p C G'' H'' (xb.base x) m
        | ok r =>
          cases r with
          | nx ρ2 => exact fun p σ'' G'' H'' B4 => ⟨ds.length - (i + 1), by omega, rfl, hlt, G'', ρ2, B4.ext.gg, B4.base xb, p⟩
          | ct ρ2 => exact fun p σ'' G'' H'' B4 => ⟨ds.length - (i + 1), by omega, rfl, hlt, G'', ρ2, B4.ext.gg, B4.base xb, p⟩
          | bk ρ2 => exact fun p σ'' G'' H'' B4 => p σ'' G'' H'' (B4.base xb)
          | rt d =>
            cases fre with
            | false => exact fun p v G'' H'' x r => p v G'' H'' (xb.base x) r
            | true => exact fun p a G'' H'' x h g w => p a G'' H'' (xb.base x) h g w
    · have e : i = ds.length := by omega
      subst e
      rw [List.drop_length] at p
      exact .inl ⟨Y.stop G H s1 B.rel.sub, p σ G H B⟩

/-! ### while -/
def whF (t : En → Oc Bool) (body : En → Oc Res) : Nat → En → Oc Res
  | 0, _ => .st
  | n + 1, ρ => bd (t ρ) fun b => if b then bd (body ρ) fun r => match r with
    | .nx ρ' => whF t body n ρ'
    | .ct ρ' => whF t body n ρ'
    | .bk ρ' => .ok (.nx ρ')
    | .rt d => .ok (.rt d)
    else .ok (.nx ρ)
theorem whF_mono {t : En → Oc Bool} {body : En → Oc Res} : ∀ {n m : Nat} {ρ : En} {o : Oc Res}, whF t body n ρ = o → o ≠ .st → n ≤ m → whF t body m ρ = o
  | 0, _, _, _, h, hn, _ => absurd h.symm hn
  | n + 1, 0, _, _, _, _, hm => absurd hm (by omega)
  | n + 1, m + 1, ρ, o, h, hn, hm => by
    unfold whF at h ⊢
    cases ht : t ρ with
    | st => rw [ht] at h; exact h
    | ex c => rw [ht] at h; exact h
    | ok b =>
      rw [ht] at h
      simp only [bd_ok] at h ⊢
      cases b with
      | false => exact h
      | true =>
        simp only [if_true] at h ⊢
        cases hb : body ρ with
        | st => rw [hb] at h; exact h
        | ex c => rw [hb] at h; exact h
        | ok r =>
          rw [hb] at h
          simp only [bd_ok] at h ⊢
          cases r with
          | nx ρ' => exact whF_mono h hn (by omega)
          | ct ρ' => exact whF_mono h hn (by omega)
          | bk ρ' => exact h
          | rt d => exact h
open Classical in
noncomputable def wh (t : En → Oc Bool) (body : En → Oc Res) : En → Oc Res := fun ρ => if h : ∃ n, whF t body n ρ ≠ .st then whF t body (choose h) ρ else .st
theorem wh_of {t : En → Oc Bool} {body : En → Oc Res} {n : Nat} {ρ : En} {o : Oc Res} (h : whF t body n ρ = o) (hn : o ≠ .st) : wh t body ρ = o := by
  have hex : ∃ n, whF t body n ρ ≠ .st := ⟨n, by rw [h]; exact hn⟩
  unfold wh
  rw [dif_pos hex]
  have hc := Classical.choose_spec hex
  rcases Nat.le_total n (Classical.choose hex) with l | l
  · exact whF_mono h hn l
  · exact (whF_mono rfl hc l).symm.trans h
theorem ss_while {body : List Stmt} (C : Ctx X (up U)) (hp : PassesOwn (model X.prog X.w) X.A X.env X.xe) (hc : STT X (up U) c t) (hb : SSs X U fre body gs) : SS X U fre (.While c body [] pos) (wh t gs) := PS.weak (ps_while hp hc hb) fun D σ H ⟨G, ρ, me, G0, H0, B, p⟩ => by
  have hex : ∃ n, whF t gs n ρ ≠ .st := by
    refine Classical.byContradiction fun hn => ?_
    unfold wh at p
    rw [dif_neg hn] at p
    exact p
  obtain ⟨n, hn⟩ := hex
  rw [wh_of rfl hn] at p
  refine ⟨fun m σ H => ∃ G ρ, Bs X.K X.mg me G0 H0 G H ρ σ ∧ PostS X.K X.mg U fre me G0 H0 D (whF t gs m ρ), ⟨n, G, ρ, B, p⟩, ?_⟩
  rintro m σ H ⟨G, ρ, B, p⟩
  cases m with
  | zero => exact p.elim
  | succ m =>
    unfold whF at p
    refine tT_in B ?_
    revert p
    cases t ρ with
    | st => exact id
    | ex c => exact id
    | ok b =>
      intro p G' H' B'
      simp only [bd_ok] at p
      cases b with
      | false => exact p σ G' H' B'
      | true =>
        simp only [if_true] at p ⊢
        refine ⟨_, fun σ' H' n => n, G', ρ, me, G0, H0, B', ?_⟩
        revert p
        cases gs ρ with
        | st => exact id
        | ex c => exact id
        | ok r =>
          cases r with
          | nx ρ2 => exact fun p σ'' G'' H'' B4 => ⟨m, Nat.lt_succ_self m, G'', ρ2, B4, p⟩
          | ct ρ2 => exact fun p σ'' G'' H'' B4 => ⟨m, Nat.lt_succ_self m, G'', ρ2, B4, p⟩
          | bk ρ2 => exact fun p => p
          | rt d => exact fun p => p

/-! ### comprehensions -/
def wipeE (ρ : En) : List Nat → En
  | [] => ρ
  | v :: vs => (wipeE ρ vs).set v .no
theorem Rel.wipe {G H : Hp} {ρ : En} {σ : L2.St} (R : Rel K mg G H ρ σ) : ∀ vs : List Nat, Rel K mg G H (wipeE ρ vs) (L2.wipe σ vs)
  | [] => R
  | v :: vs => (R.wipe vs).clear v
theorem wipe_get {σ : L2.St} {i : Nat} : ∀ {vs : List Nat}, i ∈ vs → i < σ.length → (L2.wipe σ vs)[i]? = some none
  | v :: vs, h, hl => by
    unfold L2.wipe
    by_cases e : v = i
    · subst e
      rw [List.getElem?_set_self (by rw [wipe_length]; exact hl)]
    · rw [List.getElem?_set_ne e]
      rcases List.mem_cons.mp h with z | z
      · exact absurd z.symm e
      · exact wipe_get z hl
theorem wipe_ext {σ τ : L2.St} {vs : List Nat} (hl : σ.length = τ.length) (h : ∀ i, i ∉ vs → σ[i]? = τ[i]?) : L2.wipe σ vs = L2.wipe τ vs := by
  apply List.ext_getElem?
  intro i
  by_cases hi : i ∈ vs
  · by_cases hs : i < σ.length
    · rw [wipe_get hi hs, wipe_get hi (by rw [← hl]; exact hs)]
    · rw [List.getElem?_eq_none (by rw [wipe_length]; omega), List.getElem?_eq_none (by rw [wipe_length]; omega)]
  · rw [wipe_out hi, wipe_out hi, h i hi]
theorem setV_get {i : Nat} : ∀ {is : List Nat} {vs : List V} {σ : L2.St}, i ∉ is → (setV is vs σ)[i]? = σ[i]?
  | [], _, _, _ => rfl
  | j :: is, [], _, _ => rfl
  | j :: is, v :: vs, σ, h => by
    unfold setV
    rw [setV_get fun z => h (List.mem_cons_of_mem _ z), List.getElem?_set_ne fun z => h (by rw [z]; exact List.mem_cons_self)]
theorem setV_len : ∀ {is : List Nat} {vs : List V} {σ : L2.St}, (setV is vs σ).length = σ.length
  | [], _, _ => rfl
  | j :: is, [], _ => rfl
  | j :: is, v :: vs, σ => by unfold setV; rw [setV_len, List.length_set]
theorem setT_wipe {T : Tg} {v : V} {us : List V} {σ : L2.St} {vs : List Nat} (h : ∀ i ∈ T.slots, i ∈ vs) : L2.wipe (setT T v us (L2.wipe σ vs)) vs = L2.wipe σ vs := by
  refine wipe_ext ?_ fun i hi => ?_
  · cases T with
    | one j => unfold setT; rw [List.length_set, wipe_length]
    | tup is => unfold setT; rw [setV_len, wipe_length]
  · cases T with
    | one j =>
      unfold setT
      rw [List.getElem?_set_ne fun z => hi (by rw [← z]; exact h j (by simp [Tg.slots])), wipe_out hi]
    | tup is =>
      show (setV is us (L2.wipe σ vs))[i]? = _
      rw [setV_get (is := is) fun z => hi (h i z), wipe_out hi]
def lcL (T : Tg) (own : List Nat) (tt : En → Oc Bool) (el : En → Oc D) (ρ : En) : List D → Oc (List D)
  | [] => .ok []
  | d :: ds => bd (noex (bindT T d (wipeE ρ own))) fun ρ1 => bd (noex (tt ρ1)) fun b => if b then bd (noex (el ρ1)) fun y => bd (lcL T own tt el ρ ds) fun ys => .ok (y :: ys) else lcL T own tt el ρ ds
def lc (T : Tg) (own : List Nat) (src : En → Oc (List D)) (tt : En → Oc Bool) (el : En → Oc D) : En → Oc D := fun ρ => bd (src ρ) fun ds => chk (decide (ds.length ≤ sizeLine)) (bd (lcL T own tt el ρ ds) fun ys => .ok (.lst ys))
theorem noex_ne {α : Type} {o : Oc α} {c : Str} (h : noex o = .ex c) : False := by
  cases o with
  | st => cases h
  | ok b => cases h
  | ex c => cases h
theorem lcL_noex {T : Tg} {own : List Nat} {tt : En → Oc Bool} {el : En → Oc D} {ρ : En} {c : Str} : ∀ {ds : List D}, lcL T own tt el ρ ds ≠ .ex c
  | [], h => by cases h
  | d :: ds, h => by
    unfold lcL at h
    cases h1 : noex (bindT T d (wipeE ρ own)) with
    | st => rw [h1] at h; cases h
    | ex c => exact noex_ne h1
    | ok ρ1 =>
      rw [h1] at h
      simp only [bd_ok] at h
      cases h2 : noex (tt ρ1) with
      | st => rw [h2] at h; cases h
      | ex c => exact noex_ne h2
      | ok b =>
        rw [h2] at h
        simp only [bd_ok] at h
        cases b with
        | false => exact lcL_noex h
        | true =>
          simp only [if_true] at h
          cases h3 : noex (el ρ1) with
          | st => rw [h3] at h; cases h
          | ex c => exact noex_ne h3
          | ok y =>
            rw [h3] at h
            simp only [bd_ok] at h
            cases h4 : lcL T own tt el ρ ds with
            | st => rw [h4] at h; cases h
            | ex c => exact lcL_noex h4
            | ok ys => rw [h4] at h; cases h
theorem noex_eq {α : Type} {o : Oc α} {a : α} (h : noex o = .ok a) : o = .ok a := by
  cases o with
  | st => cases h
  | ok b => exact h
  | ex c => cases h

theorem tLc_in {T : Tg} {own : List Nat} {src : En → Oc (List D)} {tt : En → Oc Bool} {el : En → Oc D} {σ : L2.St} {H : Hp} {Q : VK} (ho : ∀ i ∈ T.slots, i ∈ own) (q : tF K mg W (lc T own src tt el) σ H Q) :
    tLc (tI K mg W src) (gT K T) (tT K mg E0W tt) (tE K mg E0W el) own σ H Q := by
  obtain ⟨G, ρ, R, p⟩ := q
  refine ⟨G, ρ, R, ?_⟩
  revert p
  unfold lc
  cases src ρ with
  | st => exact id
  | ex c => exact id
  | ok ds =>
    intro p J G1 H1 x1 Y D hD
    simp only [bd_ok] at p
    obtain ⟨c0, p⟩ := p.chk
    have hsz : ds.length ≤ sizeLine := of_decide_eq_true c0
    have g1 : G1 D = none := x1.gh.free hD
    cases hall : lcL T own tt el ρ ds with
    | st => rw [hall] at p; exact p.elim
    | ex c => exact absurd hall lcL_noex
    | ok ys =>
      rw [hall] at p
      simp only [bd_ok] at p
      refine ⟨fun i m H => m = ds.length - i ∧ i ≤ ds.length ∧ ∃ G acc zs ws, Ext G1 H1 G H ∧ H D = some (.lst acc) ∧ G D = none ∧ RepL K mg G acc zs ∧ zs.length ≤ i ∧ lcL T own tt el ρ (ds.drop i) = .ok ws ∧ ys = zs ++ ws,
        ⟨ds.length, by simp, Nat.zero_le _, G1, [], [], ys, Ext.newH x1.gh hD, upd_same, g1, .nil, Nat.le_refl _, by simpa using hall, rfl⟩, ?_⟩
      rintro i m H ⟨rfl, hi, G, acc, zs, ws, x, hH, gD, rl, hz, hw, rfl⟩
      have RR : Rel K mg G H ρ σ := (R.ext x1).ext x
      by_cases hlt : i < ds.length
      · refine .inr ⟨Y.go i G H hlt x.gg x.gh, _, fun H' n => n, fun v H' y => ?_⟩
        obtain ⟨d, hd⟩ : ∃ d, ds[i]? = some d := ⟨ds[i], List.getElem?_eq_getElem hlt⟩
        obtain ⟨G2, x2, r2⟩ := Y.yld i d v G H H' hd x.gg x.gh y
        have hdr : ds.drop i = d :: ds.drop (i + 1) := by
          rw [List.drop_eq_getElem_cons hlt]
          rw [List.getElem?_eq_getElem hlt] at hd
          cases hd
          rfl
        rw [hdr] at hw
        unfold lcL at hw
        cases h1 : noex (bindT T d (wipeE ρ own)) with
        | st => rw [h1] at hw; cases hw
        | ex c => exact (noex_ne h1).elim
        | ok ρ1 =>
          rw [h1] at hw
          simp only [bd_ok] at hw
          have R2 : Rel K mg G2 H' (wipeE ρ own) (L2.wipe σ own) := (RR.ext x2).wipe own
          refine gT_rel R2 r2 (noex_eq h1) fun us R3 => ⟨setT_wipe ho, ?_⟩
          refine ⟨G2, ρ1, R3, ?_⟩
          cases h2 : noex (tt ρ1) with
          | st => rw [h2] at hw; cases hw
          | ex c => exact (noex_ne h2).elim
          | ok b =>
            rw [h2] at hw
            simp only [bd_ok] at hw
            rw [noex_eq h2]
            intro G3 H3 x3
            have x13 : Ext G1 H1 G3 H3 := (x.trans x2).trans x3
            have x23 : Ext G H G3 H3 := x2.trans x3
            have hH3 : H3 D = some (.lst acc) := x23.hh.ob _ _ hH (fun _ z => by cases z)
            have gD3 : G3 D = none := x23.nc D _ hH gD
            cases b with
            | false =>
              simp only [Bool.false_eq_true, if_false] at hw ⊢
              exact ⟨ds.length - (i + 1), by omega, rfl, hlt, G3, acc, zs, ws, x13, hH3, gD3, rl.same x23.gg, by omega, hw, rfl⟩
            | true =>
              simp only [if_true] at hw ⊢
              refine ⟨G3, ρ1, R3.ext x3, ?_⟩
              cases h3 : noex (el ρ1) with
              | st => rw [h3] at hw; cases hw
              | ex c => exact (noex_ne h3).elim
              | ok yd =>
                rw [h3] at hw
                simp only [bd_ok] at hw
                rw [noex_eq h3]
                intro yv G4 H4 x4 ry
                have x14 : Ext G1 H1 G4 H4 := x13.trans x4
                have hH4 : H4 D = some (.lst acc) := x4.hh.ob _ _ hH3 (fun _ z => by cases z)
                have gD4 : G4 D = none := x4.nc D _ hH3 gD3
                cases h4 : lcL T own tt el ρ (ds.drop (i + 1)) with
                | st => rw [h4] at hw; cases hw
                | ex c => exact absurd h4 lcL_noex
                | ok ws2 =>
                  rw [h4] at hw
                  cases hw
                  refine ⟨acc, hH4, by rw [rl.length]; omega, ds.length - (i + 1), by omega, rfl, hlt, G4, acc ++ [yv], zs ++ [yd], ws2, ⟨x14.hh.upd hD, x14.gg, fun b u e => ?_, x14.nc⟩, upd_same, gD4, (rl.same (x23.gg.trans x4.gg)).append (.cons ry .nil), by simp; omega, rfl, by simp⟩
                  · rw [upd_ne (ne_of_none e gD4)]; exact x14.gh _ _ e
      · have e : i = ds.length := by omega
        subst e
        rw [List.drop_length] at hw
        cases hw
        refine .inl ⟨Y.stop G H x.gg x.gh, p D G H (x1.trans x) (x1.hh.free hD) gD ⟨acc, hH, ?_⟩⟩
        rw [List.append_nil]
        exact rl
theorem sf_lc {elt : Expr} {ifs : List Expr} {scope : Scope} {own : List (Str × Nat)} {T : Tg} {src : En → Oc (List D)} {tt : En → Oc Bool} {el : En → Oc D} (C : Ctx X W) (hi : SI X W tg it src) (ok : BlkOk X.N X.env.scope scope own)
    (hg : ∀ (s : Shared) (H : Hp) (C : Addr) (cl : List (Str × Addr)) (fp : List Addr), ST (X.blk s H scope (compEnvC scope cl C X.env) fp) tg T) (ht : ∀ (s : Shared) (H : Hp) (C : Addr) (cl : List (Str × Addr)) (fp : List Addr), PTs (X.blk s H scope (compEnvC scope cl C X.env) fp) ifs (tT X.K X.mg E0W tt))
    (he : ∀ (s : Shared) (H : Hp) (C : Addr) (cl : List (Str × Addr)) (fp : List Addr), SE (X.blk s H scope (compEnvC scope cl C X.env) fp) E0W elt el) (ho : ∀ i ∈ T.slots, i ∈ own.map (·.2)) (hs : ∀ x, foldedSetIterable it X.env x = pure x := by intro _; rfl) :
    SF X W (.ListComp elt [⟨tg, it, ifs, 0⟩] scope pos) (lc T (own.map (·.2)) src tt el) := PE.weak (pe_lc C.calm C.nd hi ok hg ht he hs) fun σ H Q q => tLc_in ho q
theorem tF_of_tE {σ : L2.St} {H : Hp} {Q : VK} (h : tE K mg W f σ H Q) : tF K mg W f σ H Q := by
  obtain ⟨G, ρ, R, p⟩ := h
  refine ⟨G, ρ, R, ?_⟩
  revert p
  cases f ρ with
  | st => exact id
  | ok d =>
    intro p a G' H' x ha ga ow
    obtain ⟨u, hu⟩ := ow.ex
    have gg : Same G' (upd G' a u) := fun b o e => by rw [upd_ne (ne_of_none e ga)]; exact e
    refine p (.ref a) (upd G' a u) H' ⟨x.hh, x.gg.trans gg, fun b o e => ?_, fun b o hb gb => ?_⟩ (ow.rep gg fun o q => by rw [hu] at q; cases q; exact upd_same)
    · by_cases hb : b = a
      · subst hb; rw [upd_same] at e; rw [hu]; exact e
      · rw [upd_ne hb] at e; exact x.gh _ _ e
    · rw [upd_ne (ne_of_none hb ha)]; exact x.nc b o hb gb
  | ex c => exact id
theorem ss_setLc {i : Nat} {y : Str} {py : Pos} {elt : Expr} {ifs : List Expr} {scope : Scope} {own : List (Str × Nat)} {pos2 : Pos} {T : Tg} {src : En → Oc (List D)} {tt : En → Oc Bool} {el : En → Oc D} (C : Ctx X (up U)) (hy : X.N[i]? = some y) (hyl : X.env.scope.names.lookup y = some .local)
    (hsw : swapsWith (.ListComp elt [⟨tg, it, ifs, 0⟩] scope pos) (some (.Name y py)) pos2.line X.env = pure true) (hi : SI X (up U) tg it src) (ok : BlkOk X.N X.env.scope scope own)
    (hg : ∀ (s : Shared) (H : Hp) (C : Addr) (cl : List (Str × Addr)) (fp : List Addr), ST (X.blk s H scope (compEnvC scope cl C X.env) fp) tg T) (ht : ∀ (s : Shared) (H : Hp) (C : Addr) (cl : List (Str × Addr)) (fp : List Addr), PTs (X.blk s H scope (compEnvC scope cl C X.env) fp) ifs (tT X.K X.mg E0W tt))
    (he : ∀ (s : Shared) (H : Hp) (C : Addr) (cl : List (Str × Addr)) (fp : List Addr), SE (X.blk s H scope (compEnvC scope cl C X.env) fp) E0W elt el) (ho : ∀ i ∈ T.slots, i ∈ own.map (·.2)) (hs : ∀ x, foldedSetIterable it X.env x = pure x := by intro _; rfl) :
    SS X U fre (.Assign [.Name y py] (.ListComp elt [⟨tg, it, ifs, 0⟩] scope pos) pos2) (asg i (lc T (own.map (·.2)) src tt el)) := PS.weak (ps_setLc C.calm C.nd hy hyl hsw hi ok hg ht he hs) fun D σ H ⟨G, ρ, me, G0, H0, B, p⟩ =>
  tLc_in ho (tF_of_tE (asg_post B p))
theorem ss_setLcO {i : Nat} {y : Str} {py : Pos} {elt : Expr} {ifs : List Expr} {scope : Scope} {own : List (Str × Nat)} {pos2 : Pos} {T : Tg} {src : En → Oc (List D)} {tt : En → Oc Bool} {el : En → Oc D} (C : Ctx X (up U)) (hy : X.N[i]? = some y) (hyl : X.env.scope.names.lookup y = some .local)
    (hsw : swapsWith (.ListComp elt [⟨tg, it, ifs, 0⟩] scope pos) (some (.Name y py)) pos2.line X.env = pure true) (hi : SI X (up U) tg it src) (ok : BlkOk X.N X.env.scope scope own)
    (hg : ∀ (s : Shared) (H : Hp) (C : Addr) (cl : List (Str × Addr)) (fp : List Addr), ST (X.blk s H scope (compEnvC scope cl C X.env) fp) tg T) (ht : ∀ (s : Shared) (H : Hp) (C : Addr) (cl : List (Str × Addr)) (fp : List Addr), PTs (X.blk s H scope (compEnvC scope cl C X.env) fp) ifs (tT X.K X.mg E0W tt))
    (he : ∀ (s : Shared) (H : Hp) (C : Addr) (cl : List (Str × Addr)) (fp : List Addr), SE (X.blk s H scope (compEnvC scope cl C X.env) fp) E0W elt el) (ho : ∀ i ∈ T.slots, i ∈ own.map (·.2)) (hs : ∀ x, foldedSetIterable it X.env x = pure x := by intro _; rfl) :
    SS X U fre (.Assign [.Name y py] (.ListComp elt [⟨tg, it, ifs, 0⟩] scope pos) pos2) (asgO i (lc T (own.map (·.2)) src tt el)) := PS.weak (ps_setLc C.calm C.nd hy hyl hsw hi ok hg ht he hs) fun D σ H ⟨G, ρ, me, G0, H0, B, p⟩ =>
  tLc_in ho (asgO_post B p)
def yes : En → Oc Bool := fun _ => .ok true
theorem sts_nil : PTs X [] (tT X.K X.mg W yes) := ⟨fun pins s σ H Q I h => pts_nil.run pins s σ H Q I (by obtain ⟨G, ρ, R, p⟩ := h; exact p G H (.refl R.sub))⟩
theorem sts_one (h : STT X W c t) : PTs X [c] (tT X.K X.mg W t) := pts_one h
theorem st_one {i : Nat} {x : Str} {p : Pos} (hN : X.N.Nodup) (hi : X.N[i]? = some x) (hx : Loc X.env.scope x) (hf : X.fn x = true ∨ X.env.scope.names.lookup x = some .local := by first | exact .inl rfl | exact .inr rfl | assumption) : ST X (.Name x p) (.one i) := pg_name hN hi hx hf
abbrev STs (X : Cx) (es : List Expr) (is : List Nat) : Prop := PGs X es (gNames is)
theorem sts_nil' : STs X [] [] := pgs_nil
theorem sts_cons {i : Nat} {is : List Nat} (h : ST X e (.one i)) (h2 : STs X es is) (hs : (assignEach (e :: es) X.env).map (·.2) = assign e X.env :: (assignEach es X.env).map (·.2) := by rfl) : STs X (e :: es) (i :: is) := pgs_cons h h2 hs
theorem st_tup {is : List Nat} {k : Nat} (hc : X.calm = true) (h : STs X es is) (hn : (assignEach es X.env).length = is.length := by rfl) (hst : (assignEach es X.env).findIdx? (·.1) = none := by rfl) : ST X (.Tuple es k pos) (.tup is) := pg_tup hc h hn hst
def asgT (T : Tg) (f : En → Oc D) : En → Oc Res := fun ρ => bd (f ρ) fun d => bd (bindT T d ρ) fun ρ' => .ok (.nx ρ')
theorem ss_asgT {T : Tg} (ha : SE X (up U) a f) (hg : ST X tg T) (hs : swapsWithSole [tg] a pos.line X.env = pure false := by rfl) (hw : swappedStores [tg] a X.env = pure none := by rfl) (h1 : (assignEach [tg] X.env).map (·.2) = [assign tg X.env] := by rfl) : SS X U fre (.Assign [tg] a pos) (asgT T f) := PS.weak (ps_asg ha hg hs hw h1) fun D σ H ⟨G, ρ, me, G0, H0, B, p⟩ => by
  refine tE_in B ?_
  revert p
  unfold asgT
  cases f ρ with
  | st => exact id
  | ex c => exact id
  | ok d =>
    intro p v G' H' B' r
    simp only [bd_ok] at p
    cases hb : bindT T d ρ with
    | st => rw [hb] at p; exact p.elim
    | ex c => exact absurd hb bindT_ex
    | ok ρ' =>
      rw [hb] at p
      exact gT_bs B' r hb fun σ' B2 => p σ' G' H' B2
def rse (c : Str) : En → Oc Res := fun _ => .ex c

/-! ### defs -/
def outR : Oc Res → Oc D := fun o => bd o fun r => match r with
  | .nx _ => .ok .non
  | .rt d => .ok d
  | _ => .st
def fnB (n m : Nat) (g : En → Oc Res) : List D → Oc D := fun ds => chk (decide (ds.length = m)) (outR (g (ds.map .sh ++ List.replicate (n - m) .no)))
end
theorem rel_start {G H : Hp} {N : List Str} {vs : List V} {ds : List D} (s : Same G H) (tb : Tabs K G H) (r : RepL K mg G vs ds) : Rel K mg G H (ds.map .sh ++ List.replicate (N.length - ds.length) .no) (L2.start N vs) := by
  have hl := r.length
  refine ⟨s, tb, by simp [L2.start, hl], fun i sl o h1 h2 => ?_, fun i j a d e h1 h2 h3 h4 => ?_⟩
  · by_cases hi : i < ds.length
    · rw [List.getElem?_append_left (by simpa using hi), List.getElem?_map, List.getElem?_eq_getElem hi] at h1
      cases h1
      unfold L2.start at h2
      rw [List.getElem?_append_left (by simpa [hl] using hi), List.getElem?_map] at h2
      obtain ⟨v, hv, rv⟩ := r.get (List.getElem?_eq_getElem hi)
      rw [hv] at h2
      cases h2
      exact ⟨v, rfl, rv⟩
    · rw [List.getElem?_append_right (by simpa using hi), List.getElem?_replicate] at h1
      split at h1
      · cases h1; trivial
      · cases h1
  · by_cases hi : i < ds.length
    · rw [List.getElem?_append_left (by simpa using hi), List.getElem?_map, List.getElem?_eq_getElem hi] at h1
      cases h1
    · rw [List.getElem?_append_right (by simpa using hi), List.getElem?_replicate] at h1
      split at h1 <;> cases h1
section
variable {P : Program} {w : World} {base : Heap}
theorem ctx_def {N ps : List Str} {qual : Str} {sc : Scope} {f : Addr} {cdv : Value} {A : Around} {outer : List Env} {s : Shared} {H : Hp} {E : XK} {k : Nat} (S : FnScope N ps sc) (hr : Room k (A.deeper (envOfC qual sc s.heap.objs.size f cdv))) : Ctx (cxOf (L2.CX P w) P w K mg base N qual sc f cdv A outer s H E) (up E) :=
  ⟨rfl, S.nd, takes_of rfl rfl rfl rfl, by have := hr.un; show (A.deeper (envOfC qual sc s.heap.objs.size f cdv)).units + 65 < cLine; omega⟩
theorem po_def {N : List Str} {qual : Str} {sc : Scope} {f : Addr} {cdv : Value} {A : Around} {outer : List Env} {s : Shared} {H : Hp} {E : XK} :
    PassesOwn (model (cxOf (L2.CX P w) P w K mg base N qual sc f cdv A outer s H E).prog (cxOf (L2.CX P w) P w K mg base N qual sc f cdv A outer s H E).w) (cxOf (L2.CX P w) P w K mg base N qual sc f cdv A outer s H E).A (cxOf (L2.CX P w) P w K mg base N qual sc f cdv A outer s H E).env (cxOf (L2.CX P w) P w K mg base N qual sc f cdv A outer s H E).xe := passes_of rfl
theorem Ctx.blk {X : Cx} {W : WX} (C : Ctx X W) (s : Shared) (H : Hp) (scope : Scope) (cenv : Env) (fp : List Addr) : Ctx (X.blk s H scope cenv fp) E0W := ⟨C.calm, C.nd, takes0, C.units⟩
theorem fn_ok {x qual : Str} {st : Stmt} {f : Addr} {fd : FuncData} {N ps : List Str} {k : Nat} {g : En → Oc Res} (F : Fun K x qual st f fd) (S : FnScope N ps (defScope st))
    (hb : ∀ (cdv : Value) (A : Around) (outer : List Env) (s : Shared) (H : Hp) (E : XK), Room k (A.deeper (envOfC qual (defScope st) s.heap.objs.size f cdv)) → Ctx (cxOf (L2.CX P w) P w K mg base N qual (defScope st) f cdv A outer s H E) (up E) →
      SSs (cxOf (L2.CX P w) P w K mg base N qual (defScope st) f cdv A outer s H E) E false (defBody st) g) : FnOk P w K mg base (L2.CX P w) (k + 1) f fd ps (spF K mg ps.length (fnB N.length ps.length g)) := by
  refine F.okX S (fun vs H Q E h => h.1) fun cdv A outer s H vs Q E hr h => ?_
  obtain ⟨hl, G, ds, sG, tb, r, p⟩ := h
  refine ⟨_, hb cdv A outer s H E hr (ctx_def S hr), ?_⟩
  unfold fnB at p
  obtain ⟨c, p⟩ := p.chk
  have hd := of_decide_eq_true c
  have R := rel_start (N := N) sG tb r
  rw [hd] at R
  have key : ∀ (i : Nat) (d : D), (ds.map Sl.sh ++ List.replicate (N.length - ps.length) Sl.no)[i]? ≠ some (.ow d) := fun i d h1 => by
    by_cases hi : i < ds.length
    · rw [List.getElem?_append_left (by simpa using hi), List.getElem?_map, List.getElem?_eq_getElem hi] at h1
      cases h1
    · rw [List.getElem?_append_right (by simpa using hi), List.getElem?_replicate] at h1
      split at h1 <;> cases h1
  refine ⟨G, _, 0, G, H, ⟨R, .refl sG, fun i a d h1 _ => absurd h1 (key i d), fun i c fs h1 => absurd h1 (key i _)⟩, ?_⟩
  revert p
  unfold outR
  cases g (ds.map .sh ++ List.replicate (N.length - ps.length) .no) with
  | st => exact id
  | ex c => exact id
  | ok r =>
    simp only [bd_ok]
    cases r with
    | nx ρ => exact fun p σ G' H' B => p .non G' H' B.ext .non
    | rt d => exact fun p v G' H' x r => p v G' H' x r
    | bk ρ => exact fun p => p.elim
    | ct ρ => exact fun p => p.elim
def self0 (ρ : En) : Oc D := match (ρ[0]? : Option Sl) with
  | some (.ow (.obj c fs)) => .ok (.obj c fs)
  | _ => .st
theorem self0_ok {ρ : En} {d : D} (h : self0 ρ = .ok d) : ∃ c fs, d = .obj c fs ∧ ρ[0]? = some (.ow (.obj c fs)) := by
  unfold self0 at h
  split at h
  · rename_i c fs hq
    cases h
    exact ⟨c, fs, rfl, hq⟩
  · cases h
theorem self0_ex {ρ : En} {c : Str} (h : self0 ρ = .ex c) : False := by
  unfold self0 at h
  split at h <;> cases h
def outI : Oc Res → Oc D := fun o => bd o fun r => match r with
  | .nx ρ => self0 ρ
  | _ => .st
def fnI (c : Str) (n m : Nat) (g : En → Oc Res) : List D → Oc D := fun ds => chk (decide (ds.length = m)) (outI (g (.ow (.obj c []) :: (ds.map .sh ++ List.replicate (n - m) .no))))
theorem Rel.cons_own {G H : Hp} {ρ : En} {σ : L2.St} {x : Addr} {d : D} (R : Rel K mg G H ρ σ) (gx : G x = none) (ow : OwAt K mg G H x d) (no : ∀ (i : Nat) (e : D), ρ[i]? ≠ some (.ow e)) : Rel K mg G H (.ow d :: ρ) (some (.ref x) :: σ) := by
  refine ⟨R.sub, R.tabs, by simp [R.len], fun i s o h1 h2 => ?_, fun i j a d' e' h1 h2 h3 h4 => ?_⟩
  · cases i with
    | zero => simp at h1 h2; subst h1 h2; exact ⟨x, rfl, gx, ow⟩
    | succ i => exact R.at_ i s o (by simpa using h1) (by simpa using h2)
  · cases i with
    | zero =>
      cases j with
      | zero => rfl
      | succ j => exact absurd (by simpa using h2) (no j e')
    | succ i => exact absurd (by simpa using h1) (no i d')
theorem init_ok {x qual c : Str} {st : Stmt} {f : Addr} {fd : FuncData} {N ps : List Str} {k m : Nat} {g : En → Oc Res} (F : Fun K x qual st f fd) (S : FnScope N ps (defScope st)) (hps : ps.length = m + 1)
    (hb : ∀ (cdv : Value) (A : Around) (outer : List Env) (s : Shared) (H : Hp) (E : XK), Room k (A.deeper (envOfC qual (defScope st) s.heap.objs.size f cdv)) → Ctx (cxOf (L2.CX P w) P w K mg base N qual (defScope st) f cdv A outer s H E) (up E) →
      SSs (cxOf (L2.CX P w) P w K mg base N qual (defScope st) f cdv A outer s H E) E false (defBody st) g) : FnOk P w K mg base (L2.CX P w) (k + 1) f fd ps (spI K mg c m (fnI c (N.length - 1) m g)) := by
  refine F.okX S (fun vs H Q E h => h.1.trans hps.symm) fun cdv A outer s H vs Q E hr h => ?_
  obtain ⟨hl, G, ds, x, dx, C, vs', rfl, mc, hx, hdx, ne, gx, sG, tb, r, p⟩ := h
  refine ⟨_, hb cdv A outer s H E hr (ctx_def S hr), ?_⟩
  have hN : m + 1 ≤ N.length := by
    have := congrArg List.length S.pre
    rw [List.length_take] at this
    omega
  unfold fnI at p
  cases hc : decide (ds.length = m) with
  | false => rw [hc] at p; exact p.elim
  | true =>
    rw [hc] at p
    simp only [chk_true] at p
    have hd := of_decide_eq_true hc
    have R0 := rel_start (N := N.drop 1) sG tb r
    rw [List.length_drop, hd] at R0
    have key : ∀ (i : Nat) (d : D), (ds.map Sl.sh ++ List.replicate (N.length - 1 - m) Sl.no)[i]? ≠ some (.ow d) := fun i d h1 => by
      by_cases hi : i < ds.length
      · rw [List.getElem?_append_left (by simpa using hi), List.getElem?_map, List.getElem?_eq_getElem hi] at h1
        cases h1
      · rw [List.getElem?_append_right (by simpa using hi), List.getElem?_replicate] at h1
        split at h1 <;> cases h1
    have hst : L2.start N (.ref x :: vs') = some (.ref x) :: L2.start (N.drop 1) vs' := by
      unfold L2.start
      have e1 : N.length - (vs'.length + 1) = (N.length - 1) - vs'.length := by omega
      simp [e1]
    have R : Rel K mg G H (.ow (.obj c []) :: (ds.map .sh ++ List.replicate (N.length - 1 - m) .no)) (L2.start N (.ref x :: vs')) := by
      rw [hst]
      exact R0.cons_own gx ⟨C, dx, [], mc, hx, .nil⟩ key
    refine ⟨G, _, x, G, rmv H x, ⟨R, ⟨.of fun b o e => (rmv_some e).2, .refl _, sG, fun _ _ _ g => g⟩, fun i a d h1 h2 => ?_, fun i c fs h1 => ?_⟩, ?_⟩
    · cases i with
      | zero =>
        rw [hst] at h2
        simp at h2
        subst h2
        unfold rmv
        rw [if_pos rfl]
      | succ i => exact absurd (by simpa using h1) (key i d)
    · cases i with
      | zero => rw [hst]; rfl
      | succ i => exact absurd (by simpa using h1) (key i _)
    · revert p
      unfold outI
      cases g (.ow (.obj c []) :: (ds.map .sh ++ List.replicate (N.length - 1 - m) .no)) with
      | st => exact id
      | ex c => exact fun p C' G' H' y mm => p C' G' H' y.hh y.gg y.gh (fun b o e hb g => y.nc b o (by rw [rmv_ne hb]; exact e) g) mm
      | ok r =>
        simp only [bd_ok]
        cases r with
        | nx ρ =>
          intro p σ G' H' B
          simp only at p
          cases hs : self0 ρ with
          | st => rw [hs] at p; exact p.elim
          | ex c => exact (self0_ex hs).elim
          | ok d =>
            rw [hs] at p
            obtain ⟨c2, fs, rfl, hq⟩ := self0_ok hs
            obtain ⟨o, ho, a, rfl, ga, ow⟩ := B.rel.get hq
            have e1 := B.self 0 c2 fs hq
            rw [ho] at e1
            cases e1
            exact p G' H' B.ext.hh B.ext.gg B.ext.gh (fun b o e hb g => B.ext.nc b o (by rw [rmv_ne hb]; exact e) g) ga ow
        | rt d => exact fun p => p.elim
        | bk ρ => exact fun p => p.elim
        | ct ρ => exact fun p => p.elim
end
end Fx

set_option Elab.async false
set_option linter.all false
set_option maxRecDepth 100000
set_option maxHeartbeats 4000000
/-! Fx6: tests by comparison, chains. -/
namespace Fx
open PySem PySem.Spec PyProof.Rows L2
variable {K : PySem.W.Frag} {mg : Str → Option Value}
section
variable {X : Cx} {W : WX} {U : XK} {a b c e : Expr} {f g h : En → Oc D} {pos : Pos}
variable {G H : Hp} {x y : V} {d1 d2 : D} {Q : VK}
theorem eq_of (s : Same G H) (r1 : RepQ X.K X.mg G H x d1) (r2 : RepQ X.K X.mg G H y d2) (p : PostE X.K X.mg U G H Q (eqD d1 d2)) : rEqD X.K x y H Q := by
  unfold eqD at p
  cases e1 : toPD d1 with
  | none => rw [e1] at p; exact p.elim
  | some p1 =>
    cases e2 : toPD d2 with
    | none => rw [e1, e2] at p; exact p.elim
    | some p2 =>
      rw [e1, e2] at p
      obtain ⟨c, q⟩ := p.chk
      rw [Bool.and_eq_true] at c
      exact ⟨p1, p2, r1.dp s e1, r2.dp s e2, c.1, c.2, q.here s (.bl _)⟩
theorem ne_of' (s : Same G H) (r1 : RepQ X.K X.mg G H x d1) (r2 : RepQ X.K X.mg G H y d2) (p : PostE X.K X.mg U G H Q (neD d1 d2)) : rNeD X.K x y H Q := by
  unfold neD at p
  cases e1 : toPD d1 with
  | none => rw [e1] at p; exact p.elim
  | some p1 =>
    cases e2 : toPD d2 with
    | none => rw [e1, e2] at p; exact p.elim
    | some p2 =>
      rw [e1, e2] at p
      obtain ⟨c, q⟩ := p.chk
      rw [Bool.and_eq_true] at c
      exact ⟨p1, p2, r1.dp s e1, r2.dp s e2, c.1, c.2, q.here s (.bl _)⟩
theorem in_of (s : Same G H) (r1 : RepQ X.K X.mg G H x d1) (r2 : RepQ X.K X.mg G H y d2) (p : PostE X.K X.mg U G H Q (inD d1 d2)) : rInA X false x y H Q := by
  unfold inD at p
  cases e : inB d1 d2 with
  | none => rw [e] at p; exact p.elim
  | some t => rw [e] at p; exact inA_of (neg := false) s r1 r2 e (p.here s (.bl _))
theorem nin_of (s : Same G H) (r1 : RepQ X.K X.mg G H x d1) (r2 : RepQ X.K X.mg G H y d2) (p : PostE X.K X.mg U G H Q (ninD d1 d2)) : rInA X true x y H Q := by
  unfold ninD at p
  cases e : inB d1 d2 with
  | none => rw [e] at p; exact p.elim
  | some t => rw [e] at p; exact inA_of (neg := true) s r1 r2 e (p.here s (.bl _))
theorem isN_of (s : Same G H) (r1 : RepQ X.K X.mg G H x d1) (r2 : RepQ X.K X.mg G H y d2) (p : PostE X.K X.mg U G H Q (isN d1 d2)) : y = .non ∧ Q (.bl (decide (x = .non))) H := by
  unfold isN at p
  split at p
  · refine ⟨r2.non, ?_⟩
    rw [r1.nonIff]
    exact p.here s (.bl _)
  · exact p.elim
theorem notN_of (s : Same G H) (r1 : RepQ X.K X.mg G H x d1) (r2 : RepQ X.K X.mg G H y d2) (p : PostE X.K X.mg U G H Q (notN d1 d2)) : y = .non ∧ Q (.bl (!decide (x = .non))) H := by
  unfold notN at p
  split at p
  · refine ⟨r2.non, ?_⟩
    rw [r1.nonIff]
    exact p.here s (.bl _)
  · exact p.elim
theorem st_eq (ha : SQ X W a f) (hb : SQ X W b g) (hu : X.A.units + 65 < cLine) : STT X W (.Compare a [.Eq] [b] pos) (tst (bi eqD f g)) := st_op2 (fun ha hb => pt_cmpR (op_eqD (Nat.lt_of_succ_lt hu)) ha hb (nomark _)) eq_of ha hb
theorem st_ne (ha : SQ X W a f) (hb : SQ X W b g) (hu : X.A.units + 65 < cLine) : STT X W (.Compare a [.NotEq] [b] pos) (tst (bi neD f g)) := st_op2 (fun ha hb => pt_cmpR (op_neD (Nat.lt_of_succ_lt hu)) ha hb (nomark _)) ne_of' ha hb
theorem st_in (ha : SQ X W a f) (hb : SQ X W b g) (hu : X.A.units + 65 < cLine) (hm : behindInMarks .In b = false := by rfl) : STT X W (.Compare a [.In] [b] pos) (tst (bi inD f g)) := st_op2 (fun ha hb => pt_cmpR (op_inA hu) ha hb hm) in_of ha hb
theorem st_nin (ha : SQ X W a f) (hb : SQ X W b g) (hu : X.A.units + 65 < cLine) (hm : behindInMarks .NotIn b = false := by rfl) : STT X W (.Compare a [.NotIn] [b] pos) (tst (bi ninD f g)) := st_op2 (fun ha hb => pt_cmpR (op_ninA hu) ha hb hm) nin_of ha hb
theorem st_lt (ha : SQ X W a f) (hb : SQ X W b g) : STT X W (.Compare a [.Lt] [b] pos) (tst (bi (cmpD fun i j => decide (i < j)) f g)) := st_op2 (fun ha hb => pt_cmpR op_lt ha hb (nomark _)) cmp_of ha hb
theorem st_le (ha : SQ X W a f) (hb : SQ X W b g) : STT X W (.Compare a [.LtE] [b] pos) (tst (bi (cmpD fun i j => decide (i ≤ j)) f g)) := st_op2 (fun ha hb => pt_cmpR op_le ha hb (nomark _)) cmp_of ha hb
theorem st_gt (ha : SQ X W a f) (hb : SQ X W b g) : STT X W (.Compare a [.Gt] [b] pos) (tst (bi (cmpD fun i j => decide (j < i)) f g)) := st_op2 (fun ha hb => pt_cmpR op_gt ha hb (nomark _)) cmp_of ha hb
theorem st_ge (ha : SQ X W a f) (hb : SQ X W b g) : STT X W (.Compare a [.GtE] [b] pos) (tst (bi (cmpD fun i j => decide (j ≤ i)) f g)) := st_op2 (fun ha hb => pt_cmpR op_ge ha hb (nomark _)) cmp_of ha hb
theorem st_isN (ha : SQ X W a f) (hb : SQ X W b g) : STT X W (.Compare a [.Is] [b] pos) (tst (bi isN f g)) := st_op2 (fun ha hb => pt_cmpR op_isN ha hb (nomark _)) isN_of ha hb
theorem st_notN (ha : SQ X W a f) (hb : SQ X W b g) : STT X W (.Compare a [.IsNot] [b] pos) (tst (bi notN f g)) := st_op2 (fun ha hb => pt_cmpR op_notN ha hb (nomark _)) notN_of ha hb
end
end Fx

set_option Elab.async false
set_option linter.all false
set_option maxRecDepth 100000
set_option maxHeartbeats 4000000
/-! Fx7: the mathematics of the functions: how they are evaluated. -/
namespace Fx
open PySem PySem.Spec PyProof.Rows L2

theorem sizeLine_val : sizeLine = 16777216 := by rw [sizeLine_eq]
@[simp] theorem outR_nx (ρ : En) : outR (.ok (.nx ρ)) = .ok .non := id rfl
@[simp] theorem outR_rt (d : D) : outR (.ok (.rt d)) = .ok d := id rfl
@[simp] theorem outR_ex (c : Str) : outR (.ex c) = .ex c := id rfl
@[simp] theorem lenD_str (z : Str) : lenD (.str z) = chk (decide (z.length ≤ sizeLine)) (.ok (.int z.length)) := id rfl
@[simp] theorem lenD_lst (ds : List D) : lenD (.lst ds) = .ok (.int ds.length) := id rfl
@[simp] theorem lenD_tup (ds : List D) : lenD (.tup ds) = .ok (.int ds.length) := id rfl
@[simp] theorem lenD_fz (ds : List D) : lenD (.fz ds) = .ok (.int ds.length) := id rfl
@[simp] theorem cmpD_int (p : Int → Int → Bool) (i j : Int) : cmpD p (.int i) (.int j) = .ok (.bl (p i j)) := id rfl
@[simp] theorem addD_int (i j : Int) : addD (.int i) (.int j) = .ok (.int (i + j)) := id rfl
@[simp] theorem addD_str (i j : Str) : addD (.str i) (.str j) = chk (decide (i.length + j.length ≤ sizeLine)) (.ok (.str (i ++ j))) := id rfl
@[simp] theorem addD_lst (i j : List D) : addD (.lst i) (.lst j) = chk (decide (i.length + j.length ≤ sizeLine)) (.ok (.lst (i ++ j))) := id rfl
@[simp] theorem addD_tup (i j : List D) : addD (.tup i) (.tup j) = chk (decide (i.length + j.length ≤ sizeLine)) (.ok (.tup (i ++ j))) := id rfl
@[simp] theorem subD_int (i j : Int) : subD (.int i) (.int j) = .ok (.int (i - j)) := id rfl
@[simp] theorem mulD_int (i j : Int) : mulD (.int i) (.int j) = chk (decide ((-(2 ^ 64) < i ∧ i < 2 ^ 64) ∨ (-(2 ^ 64) < j ∧ j < 2 ^ 64))) (.ok (.int (i * j))) := id rfl
@[simp] theorem mulD_lst (xs : List D) (k : Int) : mulD (.lst xs) (.int k) = chk (decide (-(2 ^ 63) ≤ k ∧ k < 2 ^ 63 ∧ xs.length * k.toNat ≤ sizeLine)) (.ok (.lst (List.replicate k.toNat xs).flatten)) := id rfl
@[simp] theorem fdivD_int (i j : Int) : fdivD (.int i) (.int j) = chk (decide (0 < j ∧ j < 1073741824)) (.ok (.int (i / j))) := id rfl
@[simp] theorem modD_int (i j : Int) : modD (.int i) (.int j) = chk (decide (0 < j)) (.ok (.int (i % j))) := id rfl
@[simp] theorem powD_int (i j : Int) : powD (.int i) (.int j) = chk (decide (0 ≤ j ∧ j ≤ 1000000 ∧ i.natAbs < 2 ^ 64)) (.ok (.int (i ^ j.toNat))) := id rfl
@[simp] theorem intD_int (i : Int) : intD (.int i) = .ok (.int i) := id rfl
@[simp] theorem intD_bl (b : Bool) : intD (.bl b) = .ok (.int (if b then 1 else 0)) := id rfl
@[simp] theorem negD_int (i : Int) : negD (.int i) = .ok (.int (-i)) := id rfl
@[simp] theorem items_lst (ds : List D) : items (.lst ds) = some ds := id rfl
@[simp] theorem items_tup (ds : List D) : items (.tup ds) = some ds := id rfl
@[simp] theorem items_fz (ds : List D) : items (.fz ds) = some ds := id rfl
@[simp] theorem listD_lst (ds : List D) : listD (.lst ds) = .ok (.lst ds) := id rfl
@[simp] theorem listD_tup (ds : List D) : listD (.tup ds) = .ok (.lst ds) := id rfl
@[simp] theorem listD_fz (ds : List D) : listD (.fz ds) = .ok (.lst ds) := id rfl
@[simp] theorem tupleD_lst (ds : List D) : tupleD (.lst ds) = .ok (.tup ds) := id rfl
@[simp] theorem tupleD_tup (ds : List D) : tupleD (.tup ds) = .ok (.tup ds) := id rfl
@[simp] theorem revD_lst (ds : List D) : revD (.lst ds) = .ok (.lst ds.reverse) := id rfl
def ixL (ds : List D) (i : Int) : Oc D := match atI ds i with
  | some x => .ok x
  | none => .st
@[simp] theorem ixD_lst (ds : List D) (i : Int) : ixD (.lst ds) (.int i) = ixL ds i := id rfl
@[simp] theorem ixD_tup (ds : List D) (i : Int) : ixD (.tup ds) (.int i) = ixL ds i := id rfl
@[simp] theorem ixD_fz (ds : List D) (i : Int) : ixD (.fz ds) (.int i) = ixL ds i := id rfl
theorem ixL_nat {ds : List D} {i : Nat} {d : D} (h : ds[i]? = some d) : ixL ds (i : Int) = .ok d := by
  unfold ixL
  rw [atI_nat h]
theorem ixL_int {ds : List D} {i : Int} {d : D} (h0 : 0 ≤ i) (h : ds[i.toNat]? = some d) : ixL ds i = .ok d := by
  have e : i = (i.toNat : Int) := by omega
  rw [e]
  exact ixL_nat h
theorem forL_nil (T : Tg) (b : En → Oc Res) (ρ : En) : forL T b [] ρ = .ok (.nx ρ) := rfl
theorem forL_cons (T : Tg) (b : En → Oc Res) (d : D) (ds : List D) (ρ : En) : forL T b (d :: ds) ρ = bd (bindT T d ρ) fun ρ1 => bd (b ρ1) fun r => match r with
    | .nx ρ2 => forL T b ds ρ2
    | .ct ρ2 => forL T b ds ρ2
    | .bk ρ2 => .ok (.nx ρ2)
    | .rt d => .ok (.rt d) := rfl
@[simp] theorem bindT_one (i : Nat) (d : D) (ρ : En) : bindT (.one i) d ρ = .ok (ρ.set i (.sh d)) := id rfl

/-! ### evaluation, one construct at a time -/
def contS : Oc Res → (En → Oc Res) → Oc Res
  | .ok (.nx ρ), h => h ρ
  | o, _ => o
@[simp] theorem contS_nx (ρ : En) (h : En → Oc Res) : contS (.ok (.nx ρ)) h = h ρ := id rfl
@[simp] theorem contS_rt (d : D) (h : En → Oc Res) : contS (.ok (.rt d)) h = .ok (.rt d) := id rfl
@[simp] theorem contS_bk (d : En) (h : En → Oc Res) : contS (.ok (.bk d)) h = .ok (.bk d) := id rfl
@[simp] theorem contS_ct (d : En) (h : En → Oc Res) : contS (.ok (.ct d)) h = .ok (.ct d) := id rfl
@[simp] theorem contS_ex (d : Str) (h : En → Oc Res) : contS (.ex d) h = .ex d := id rfl
@[simp] theorem sq_ap (g h : En → Oc Res) (ρ : En) : sq g h ρ = contS (g ρ) h := by
  unfold sq contS
  cases g ρ with
  | st => rfl
  | ex c => rfl
  | ok r => cases r <;> rfl
def vrR : Option Sl → Oc D
  | some (.sh d) => .ok d
  | _ => .st
def voR : Option Sl → Oc D
  | some (.sh d) => .ok d
  | some (.ow d) => .ok d
  | _ => .st
@[simp] theorem vr_ap (i : Nat) (ρ : En) : vr i ρ = vrR ρ[i]? := by
  unfold vr vrR
  split <;> first | rfl | (split <;> simp_all)
@[simp] theorem vo_ap (i : Nat) (ρ : En) : vo i ρ = voR ρ[i]? := by
  unfold vo voR
  split <;> first | rfl | (split <;> simp_all)
@[simp] theorem vrR_sh (d : D) : vrR (some (.sh d)) = .ok d := id rfl
@[simp] theorem voR_sh (d : D) : voR (some (.sh d)) = .ok d := id rfl
@[simp] theorem voR_ow (d : D) : voR (some (.ow d)) = .ok d := id rfl
@[simp] theorem cst_ap (d : D) (ρ : En) : cst d ρ = .ok d := id rfl
@[simp] theorem bi_ap (F : D → D → Oc D) (f g : En → Oc D) (ρ : En) : bi F f g ρ = bd (f ρ) fun x => bd (g ρ) fun y => F x y := id rfl
@[simp] theorem un_ap (F : D → Oc D) (f : En → Oc D) (ρ : En) : un F f ρ = bd (f ρ) F := id rfl
def asgR (i : Nat) (ρ : En) : Oc D → Oc Res
  | .ok d => .ok (.nx (ρ.set i (.sh d)))
  | .st => .st
  | .ex c => .ex c
@[simp] theorem asg_ap (i : Nat) (f : En → Oc D) (ρ : En) : asg i f ρ = asgR i ρ (f ρ) := by unfold asg asgR; cases f ρ <;> rfl
@[simp] theorem asgR_ok (i : Nat) (ρ : En) (d : D) : asgR i ρ (.ok d) = .ok (.nx (ρ.set i (.sh d))) := id rfl
def asgOR (i : Nat) (ρ : En) : Oc D → Oc Res
  | .ok (.lst ds) => .ok (.nx (ρ.set i (.ow (.lst ds))))
  | .ex c => .ex c
  | _ => .st
@[simp] theorem asgO_ap (i : Nat) (f : En → Oc D) (ρ : En) : asgO i f ρ = asgOR i ρ (f ρ) := by
  unfold asgO asgOR
  cases f ρ with
  | st => rfl
  | ex c => rfl
  | ok d => cases d <;> rfl
@[simp] theorem asgOR_ok (i : Nat) (ρ : En) (ds : List D) : asgOR i ρ (.ok (.lst ds)) = .ok (.nx (ρ.set i (.ow (.lst ds)))) := id rfl
def retR : Oc D → Oc Res
  | .ok d => .ok (.rt d)
  | .st => .st
  | .ex c => .ex c
@[simp] theorem ret_ap (f : En → Oc D) (ρ : En) : Fx.ret f ρ = retR (f ρ) := by unfold Fx.ret retR; cases f ρ <;> rfl
@[simp] theorem retR_ok (d : D) : retR (.ok d) = .ok (.rt d) := id rfl
@[simp] theorem retR_ex (d : Str) : retR (.ex d) = .ex d := id rfl
def exsR (ρ : En) : Oc D → Oc Res
  | .ok d => .ok (.nx ρ)
  | .st => .st
  | .ex c => .ex c
@[simp] theorem exs_ap (f : En → Oc D) (ρ : En) : exs f ρ = exsR ρ (f ρ) := by unfold exs exsR; cases f ρ <;> rfl
@[simp] theorem exsR_ok (ρ : En) (d : D) : exsR ρ (.ok d) = .ok (.nx ρ) := id rfl
@[simp] theorem exsR_ex (ρ : En) (d : Str) : exsR ρ (.ex d) = .ex d := id rfl
@[simp] theorem sNx_ap (ρ : En) : sNx ρ = .ok (.nx ρ) := id rfl
@[simp] theorem sBk_ap (ρ : En) : sBk ρ = .ok (.bk ρ) := id rfl
@[simp] theorem sCt_ap (ρ : En) : sCt ρ = .ok (.ct ρ) := id rfl
@[simp] theorem retN_ap (ρ : En) : retN ρ = .ok (.rt .non) := id rfl
def iffR : Oc Bool → (En → Oc Res) → (En → Oc Res) → En → Oc Res
  | .ok true, g, _, ρ => g ρ
  | .ok false, _, h, ρ => h ρ
  | .st, _, _, _ => .st
  | .ex c, _, _, _ => .ex c
@[simp] theorem iff_ap (t : En → Oc Bool) (g h : En → Oc Res) (ρ : En) : iff t g h ρ = iffR (t ρ) g h ρ := by
  unfold iff iffR
  cases t ρ with
  | st => rfl
  | ex c => rfl
  | ok b => cases b <;> rfl
@[simp] theorem iffR_true (g h : En → Oc Res) (ρ : En) : iffR (.ok true) g h ρ = g ρ := id rfl
@[simp] theorem iffR_false (g h : En → Oc Res) (ρ : En) : iffR (.ok false) g h ρ = h ρ := id rfl
def tstR : Oc D → Oc Bool
  | .ok (.bl b) => .ok b
  | .ex c => .ex c
  | _ => .st
@[simp] theorem tst_ap (f : En → Oc D) (ρ : En) : tst f ρ = tstR (f ρ) := by
  unfold tst tstR
  cases f ρ with
  | st => rfl
  | ex c => rfl
  | ok d => cases d <;> rfl
@[simp] theorem tstR_bl (b : Bool) : tstR (.ok (.bl b)) = .ok b := id rfl
def anR : Oc Bool → (En → Oc Bool) → En → Oc Bool
  | .ok true, u, ρ => u ρ
  | .ok false, _, _ => .ok false
  | .st, _, _ => .st
  | .ex c, _, _ => .ex c
def orR : Oc Bool → (En → Oc Bool) → En → Oc Bool
  | .ok true, _, _ => .ok true
  | .ok false, u, ρ => u ρ
  | .st, _, _ => .st
  | .ex c, _, _ => .ex c
@[simp] theorem an_ap (t u : En → Oc Bool) (ρ : En) : an t u ρ = anR (t ρ) u ρ := by
  unfold an anR
  cases t ρ with
  | st => rfl
  | ex c => rfl
  | ok b => cases b <;> rfl
@[simp] theorem orr_ap (t u : En → Oc Bool) (ρ : En) : orr t u ρ = orR (t ρ) u ρ := by
  unfold orr orR
  cases t ρ with
  | st => rfl
  | ex c => rfl
  | ok b => cases b <;> rfl
@[simp] theorem anR_true (u : En → Oc Bool) (ρ : En) : anR (.ok true) u ρ = u ρ := id rfl
@[simp] theorem anR_false (u : En → Oc Bool) (ρ : En) : anR (.ok false) u ρ = .ok false := id rfl
@[simp] theorem orR_true (u : En → Oc Bool) (ρ : En) : orR (.ok true) u ρ = .ok true := id rfl
@[simp] theorem orR_false (u : En → Oc Bool) (ρ : En) : orR (.ok false) u ρ = u ρ := id rfl
theorem anR_both {b c : Bool} {u : En → Oc Bool} {ρ : En} (h : u ρ = .ok c) : anR (.ok b) u ρ = .ok (b && c) := by cases b <;> simp [h]
theorem orR_both {b c : Bool} {u : En → Oc Bool} {ρ : En} (h : u ρ = .ok c) : orR (.ok b) u ρ = .ok (b || c) := by cases b <;> simp [h]
@[simp] theorem nt_ap (t : En → Oc Bool) (ρ : En) : nt t ρ = bd (t ρ) fun b => .ok (!b) := id rfl
def anVR : Oc D → (En → Oc D) → En → Oc D
  | .ok (.bl true), u, ρ => u ρ
  | .ok (.bl false), _, _ => .ok (.bl false)
  | .ex c, _, _ => .ex c
  | _, _, _ => .st
def orVR : Oc D → (En → Oc D) → En → Oc D
  | .ok (.bl true), _, _ => .ok (.bl true)
  | .ok (.bl false), u, ρ => u ρ
  | .ex c, _, _ => .ex c
  | _, _, _ => .st
@[simp] theorem anV_ap (f g : En → Oc D) (ρ : En) : anV f g ρ = anVR (f ρ) g ρ := by
  unfold anV anVR
  cases f ρ with
  | st => rfl
  | ex c => rfl
  | ok d => cases d with
    | bl b => cases b <;> rfl
    | _ => rfl
@[simp] theorem orV_ap (f g : En → Oc D) (ρ : En) : orV f g ρ = orVR (f ρ) g ρ := by
  unfold orV orVR
  cases f ρ with
  | st => rfl
  | ex c => rfl
  | ok d => cases d with
    | bl b => cases b <;> rfl
    | _ => rfl
@[simp] theorem anVR_true (u : En → Oc D) (ρ : En) : anVR (.ok (.bl true)) u ρ = u ρ := id rfl
@[simp] theorem anVR_false (u : En → Oc D) (ρ : En) : anVR (.ok (.bl false)) u ρ = .ok (.bl false) := id rfl
@[simp] theorem orVR_true (u : En → Oc D) (ρ : En) : orVR (.ok (.bl true)) u ρ = .ok (.bl true) := id rfl
@[simp] theorem orVR_false (u : En → Oc D) (ρ : En) : orVR (.ok (.bl false)) u ρ = u ρ := id rfl
theorem anVR_both {b c : Bool} {u : En → Oc D} {ρ : En} (h : u ρ = .ok (.bl c)) : anVR (.ok (.bl b)) u ρ = .ok (.bl (b && c)) := by cases b <;> simp [h]
theorem orVR_both {b c : Bool} {u : En → Oc D} {ρ : En} (h : u ρ = .ok (.bl c)) : orVR (.ok (.bl b)) u ρ = .ok (.bl (b || c)) := by cases b <;> simp [h]
def ntVR : Oc D → Oc D
  | .ok (.bl b) => .ok (.bl (!b))
  | .ex c => .ex c
  | _ => .st
@[simp] theorem ntV_ap (f : En → Oc D) (ρ : En) : ntV f ρ = ntVR (f ρ) := by
  unfold ntV ntVR
  cases f ρ with
  | st => rfl
  | ex c => rfl
  | ok d => cases d <;> rfl
@[simp] theorem ntVR_bl (b : Bool) : ntVR (.ok (.bl b)) = .ok (.bl (!b)) := id rfl
def ifXR : Oc Bool → (En → Oc D) → (En → Oc D) → En → Oc D
  | .ok true, g, _, ρ => g ρ
  | .ok false, _, h, ρ => h ρ
  | .st, _, _, _ => .st
  | .ex c, _, _, _ => .ex c
@[simp] theorem ifX_ap (t : En → Oc Bool) (g h : En → Oc D) (ρ : En) : ifX t g h ρ = ifXR (t ρ) g h ρ := by
  unfold ifX ifXR
  cases t ρ with
  | st => rfl
  | ex c => rfl
  | ok b => cases b <;> rfl
@[simp] theorem ifXR_true (g h : En → Oc D) (ρ : En) : ifXR (.ok true) g h ρ = g ρ := id rfl
@[simp] theorem ifXR_false (g h : En → Oc D) (ρ : En) : ifXR (.ok false) g h ρ = h ρ := id rfl
@[simp] theorem aN_ap (ρ : En) : aN ρ = .ok [] := id rfl
@[simp] theorem aC_ap (f : En → Oc D) (fs : En → Oc (List D)) (ρ : En) : aC f fs ρ = bd (f ρ) fun d => bd (fs ρ) fun ds => .ok (d :: ds) := id rfl
@[simp] theorem tpl_ap (fs : En → Oc (List D)) (ρ : En) : tpl fs ρ = bd (fs ρ) fun ds => chk (decide (ds.length ≤ sizeLine)) (.ok (.tup ds)) := id rfl
@[simp] theorem lsd_ap (fs : En → Oc (List D)) (ρ : En) : lsd fs ρ = bd (fs ρ) fun ds => chk (decide (ds.length ≤ sizeLine)) (.ok (.lst ds)) := id rfl
@[simp] theorem cal_ap (F : List D → Oc D) (n : Nat) (dds : List D) (fs : En → Oc (List D)) (ρ : En) : cal F n dds fs ρ = bd (fs ρ) fun ds => chk (decide (ds.length = n)) (F (ds ++ dds)) := id rfl
@[simp] theorem itm_ap (f : En → Oc D) (ρ : En) : itm f ρ = bd (f ρ) fun d => match items d with | some ds => .ok ds | none => .st := id rfl
def rngB (j : Int) : Bool := decide (-(2 ^ 62) ≤ j ∧ j < 2 ^ 62)
theorem rngB_ok {j : Int} (h0 : 0 ≤ j) (h : j ≤ 1000000) : rngB j = true := decide_eq_true (by omega)
def rng1R : List D → Oc (List D)
  | [.int j] => chk (rngB j) (.ok (rngL 0 j.toNat))
  | _ => .st
@[simp] theorem rng1_ap (fs : En → Oc (List D)) (ρ : En) : rng1 fs ρ = bd (fs ρ) rng1R := by
  unfold rng1
  congr 1
@[simp] theorem rng1R_int (j : Int) : rng1R [.int j] = chk (rngB j) (.ok (rngL 0 j.toNat)) := id rfl
theorem rng1R_nat {n : Nat} (h : n ≤ 1000000) : rng1R [.int n] = .ok (rngL 0 n) := by
  rw [rng1R_int, rngB_ok (by omega) (by omega)]; rfl
def frR (T : Tg) (b : En → Oc Res) (ρ : En) : Oc (List D) → Oc Res
  | .ok ds => forL T b ds ρ
  | .st => .st
  | .ex c => .ex c
@[simp] theorem fr_ap (T : Tg) (src : En → Oc (List D)) (b : En → Oc Res) (ρ : En) : fr T src b ρ = frR T b ρ (src ρ) := by unfold fr frR; cases src ρ <;> rfl
@[simp] theorem frR_ok (T : Tg) (b : En → Oc Res) (ρ : En) (ds : List D) : frR T b ρ (.ok ds) = forL T b ds ρ := id rfl
def goOn (T : Tg) (b : En → Oc Res) (ds : List D) : Oc Res → Oc Res
  | .ok (.nx ρ) => forL T b ds ρ
  | .ok (.ct ρ) => forL T b ds ρ
  | .ok (.bk ρ) => .ok (.nx ρ)
  | .ok (.rt d) => .ok (.rt d)
  | .st => .st
  | .ex c => .ex c
theorem forL_step {T : Tg} {b : En → Oc Res} {d : D} {ds : List D} {ρ ρ1 : En} (h : bindT T d ρ = .ok ρ1) : forL T b (d :: ds) ρ = goOn T b ds (b ρ1) := by
  rw [forL_cons, h]
  simp only [bd_ok]
  unfold goOn
  cases b ρ1 with
  | st => rfl
  | ex c => rfl
  | ok r => cases r <;> rfl
@[simp] theorem goOn_nx (T : Tg) (b : En → Oc Res) (ds : List D) (ρ : En) : goOn T b ds (.ok (.nx ρ)) = forL T b ds ρ := id rfl
@[simp] theorem goOn_ct (T : Tg) (b : En → Oc Res) (ds : List D) (ρ : En) : goOn T b ds (.ok (.ct ρ)) = forL T b ds ρ := id rfl
@[simp] theorem goOn_bk (T : Tg) (b : En → Oc Res) (ds : List D) (ρ : En) : goOn T b ds (.ok (.bk ρ)) = .ok (.nx ρ) := id rfl
@[simp] theorem goOn_rt (T : Tg) (b : En → Oc Res) (ds : List D) (d : D) : goOn T b ds (.ok (.rt d)) = .ok (.rt d) := id rfl
theorem forL_inv {T : Tg} {b : En → Oc Res} (I : List D → En → Prop) : ∀ {ds : List D} {ρ : En}, I ds ρ →
    (∀ d ds ρ, I (d :: ds) ρ → ∃ ρ1 ρ2, bindT T d ρ = .ok ρ1 ∧ (b ρ1 = .ok (.nx ρ2) ∨ b ρ1 = .ok (.ct ρ2)) ∧ I ds ρ2) → ∃ ρ2, forL T b ds ρ = .ok (.nx ρ2) ∧ I [] ρ2
  | [], ρ, h, _ => ⟨ρ, rfl, h⟩
  | d :: ds, ρ, h, st => by
    obtain ⟨ρ1, ρ2, h1, h2, h3⟩ := st d ds ρ h
    rw [forL_step h1]
    rcases h2 with h2 | h2 <;> rw [h2] <;> simp only [goOn_nx, goOn_ct] <;> exact forL_inv I h3 st
def appR (i : Nat) (ρ : En) : Option Sl → Oc D → Oc Res
  | some (.ow (.lst ds)), .ok d => chk (decide (ds.length < sizeLine)) (.ok (.nx (ρ.set i (.ow (.lst (ds ++ [d]))))))
  | some (.ow (.lst _)), .ex c => .ex c
  | _, _ => .st
@[simp] theorem app_ap (i : Nat) (f : En → Oc D) (ρ : En) : app i f ρ = appR i ρ ρ[i]? (f ρ) := by
  unfold app
  cases h : ρ[i]? with
  | none => rfl
  | some s =>
    cases s with
    | no => rfl
    | exn _ => rfl
    | sh d => rfl
    | ow d =>
      cases d with
      | lst ds => cases f ρ <;> rfl
      | _ => rfl
theorem appR_ok {i : Nat} {ρ : En} {ds : List D} {d : D} (h : ds.length ≤ 1000000) : appR i ρ (some (.ow (.lst ds))) (.ok d) = .ok (.nx (ρ.set i (.ow (.lst (ds ++ [d]))))) := by
  show chk (decide (ds.length < sizeLine)) (Oc.ok (Res.nx (ρ.set i (.ow (.lst (ds ++ [d])))))) = _
  rw [decide_eq_true (by rw [sizeLine_val]; omega)]
  rfl
@[simp] theorem frz_ap (i : Nat) (g : En → Oc Res) (ρ : En) : frz i g ρ = g (freeze i ρ) := id rfl
def freezeR (i : Nat) (ρ : En) : Option Sl → En
  | some (.ow d) => ρ.set i (.sh d)
  | _ => ρ
@[simp] theorem freeze_ap (i : Nat) (ρ : En) : freeze i ρ = freezeR i ρ ρ[i]? := by
  unfold freeze freezeR
  split <;> first | rfl | (split <;> simp_all)
@[simp] theorem freezeR_ow (i : Nat) (ρ : En) (d : D) : freezeR i ρ (some (.ow d)) = ρ.set i (.sh d) := id rfl
@[simp] theorem freezeR_sh (i : Nat) (ρ : En) (d : D) : freezeR i ρ (some (.sh d)) = ρ := id rfl
def augR2 (i : Nat) (ρ : En) : Oc D → Oc D → Oc Res
  | .ok (.int m), .ok (.int n) => .ok (.nx (ρ.set i (.sh (.int (m + n)))))
  | .ok _, .ex c => .ex c
  | .ex c, _ => .ex c
  | _, _ => .st
theorem augA_ok {i : Nat} {f : En → Oc D} {ρ : En} {m n : Int} (h1 : vr i ρ = .ok (.int m)) (h2 : f ρ = .ok (.int n)) : augA i f ρ = .ok (.nx (ρ.set i (.sh (.int (m + n))))) := by
  unfold augA
  rw [h1, h2]
  rfl
theorem augS_ok {i : Nat} {f : En → Oc D} {ρ : En} {m n : Int} (h1 : vr i ρ = .ok (.int m)) (h2 : f ρ = .ok (.int n)) : augS i f ρ = .ok (.nx (ρ.set i (.sh (.int (m - n))))) := by
  unfold augS
  rw [h1, h2]
  rfl
@[simp] theorem fnB_ap (n m : Nat) (g : En → Oc Res) (ds : List D) : fnB n m g ds = chk (decide (ds.length = m)) (outR (g (ds.map .sh ++ List.replicate (n - m) .no))) := id rfl
theorem fnB_ok {n m : Nat} {g : En → Oc Res} {ds : List D} (h : ds.length = m) : fnB n m g ds = outR (g (ds.map .sh ++ List.replicate (n - m) .no)) := by
  unfold fnB
  rw [decide_eq_true h]
  rfl
@[simp] theorem slc_ap (f : En → Oc D) (lo hi : Option (En → Oc D)) (ρ : En) : slc f lo hi ρ = bd (f ρ) fun d => bd (oP lo ρ) fun l => bd (oP hi ρ) fun h => slD d l h := id rfl
def oPR : Oc D → Oc (Option Int)
  | .ok (.int i) => .ok (some i)
  | .ex c => .ex c
  | _ => .st
@[simp] theorem oP_none (ρ : En) : oP none ρ = .ok none := id rfl
@[simp] theorem oP_some (f : En → Oc D) (ρ : En) : oP (some f) ρ = oPR (f ρ) := by
  unfold oP oPR
  simp only
  cases f ρ with
  | st => rfl
  | ex c => rfl
  | ok d => cases d <;> rfl
@[simp] theorem oPR_int (i : Int) : oPR (.ok (.int i)) = .ok (some i) := id rfl
@[simp] theorem slD_str (z : Str) (lo hi : Option Int) : slD (.str z) lo hi = chk (decide (z.length ≤ sizeLine)) (.ok (.str (cutS z lo hi))) := id rfl
@[simp] theorem slD_lst (ds : List D) (lo hi : Option Int) : slD (.lst ds) lo hi = .ok (.lst (cutD ds lo hi)) := id rfl
@[simp] theorem slD_fz (ds : List D) (lo hi : Option Int) : slD (.fz ds) lo hi = .ok (.lst (cutD ds lo hi)) := id rfl
@[simp] theorem slD_tup (ds : List D) (lo hi : Option Int) : slD (.tup ds) lo hi = .ok (.tup (cutD ds lo hi)) := id rfl
@[simp] theorem mtD_ap (tyB : D → Bool) (F : D → List D → Oc D) (f : En → Oc D) (fs : En → Oc (List D)) (ρ : En) : mtD tyB F f fs ρ = bd (f ρ) fun d => chk (tyB d) (bd (fs ρ) fun ds => F d ds) := id rfl
@[simp] theorem isLst_lst (ds : List D) : isLst (.lst ds) = true := id rfl
@[simp] theorem indexM_one (d e : D) : indexM d [e] = indexD d e := id rfl
@[simp] theorem lc_ap (T : Tg) (own : List Nat) (src : En → Oc (List D)) (tt : En → Oc Bool) (el : En → Oc D) (ρ : En) : lc T own src tt el ρ = bd (src ρ) fun ds => chk (decide (ds.length ≤ sizeLine)) (bd (lcL T own tt el ρ ds) fun ys => .ok (.lst ys)) := id rfl
theorem lcL_map {T : Tg} {own : List Nat} {el : En → Oc D} {ρ : En} {α : Type} {f h : α → D} : ∀ {xs : List α}, (∀ x ∈ xs, ∃ ρ1, bindT T (f x) (wipeE ρ own) = .ok ρ1 ∧ el ρ1 = .ok (h x)) → lcL T own yes el ρ (xs.map f) = .ok (xs.map h)
  | [], _ => rfl
  | x :: xs, k => by
    obtain ⟨ρ1, h1, h2⟩ := k x List.mem_cons_self
    have ih := lcL_map (xs := xs) fun y hy => k y (List.mem_cons_of_mem _ hy)
    rw [List.map_cons, List.map_cons]
    unfold lcL
    rw [h1]
    simp only [noex_ok, bd_ok, yes]
    simp only [if_true, h2, noex_ok, bd_ok, ih]
theorem lcL_filter {T : Tg} {own : List Nat} {tt : En → Oc Bool} {el : En → Oc D} {ρ : En} {α : Type} {f h : α → D} {p : α → Bool} : ∀ {xs : List α}, (∀ x ∈ xs, ∃ ρ1, bindT T (f x) (wipeE ρ own) = .ok ρ1 ∧ tt ρ1 = .ok (p x) ∧ (p x = true → el ρ1 = .ok (h x))) → lcL T own tt el ρ (xs.map f) = .ok ((xs.filter p).map h)
  | [], _ => rfl
  | x :: xs, k => by
    obtain ⟨ρ1, h1, h2, h3⟩ := k x List.mem_cons_self
    have ih := lcL_filter (xs := xs) fun y hy => k y (List.mem_cons_of_mem _ hy)
    rw [List.map_cons]
    unfold lcL
    rw [h1]
    simp only [noex_ok, bd_ok, h2]
    cases hp : p x with
    | true =>
      rw [List.filter_cons_of_pos hp, List.map_cons]
      simp only [if_true, h3 hp, noex_ok, bd_ok, ih]
    | false =>
      rw [List.filter_cons_of_neg (by rw [hp]; decide)]
      simp only [Bool.false_eq_true, if_false, ih]
@[simp] theorem isiD_bl_bool (b : Bool) : isiD "bool" (.bl b) = .ok (.bl true) := by unfold isiD; simp only [tyName]; rfl
end Fx

set_option Elab.async false
set_option linter.all false
set_option maxRecDepth 100000
set_option maxHeartbeats 4000000
/-! Fx8: plain data compared. -/
namespace Fx
open PySem PySem.Spec PyProof.Rows L2
open PySem.PyData (strOk)
structure Pn (n : Nat) (d : D) (p : PyData) : Prop where
  pd : toPD d = some p
  lay : p.canLay0 = true
  dep : p.depth ≤ n
structure PnL (n : Nat) (ds : List D) (ps : List PyData) : Prop where
  pd : toPDs ds = some ps
  lay : PyData.canLayAll0 ps = true
  dep : PyData.depthAll ps ≤ n
theorem Pn.int (n : Nat) (i : Int) : Pn n (.int i) (.int i) := ⟨rfl, by simp [PyData.canLay0], by simp [PyData.depth]⟩
theorem Pn.bl (n : Nat) (i : Bool) : Pn n (.bl i) (.bool i) := ⟨rfl, by simp [PyData.canLay0], by simp [PyData.depth]⟩
theorem Pn.non (n : Nat) : Pn n .non .none := ⟨rfl, by simp [PyData.canLay0], by simp [PyData.depth]⟩
theorem Pn.str (n : Nat) {x : Str} (h : strOk x = true) : Pn n (.str x) (.str x) := ⟨rfl, by simp [PyData.canLay0, h], by simp [PyData.depth]⟩
theorem PnL.lst {n : Nat} {ds : List D} {ps : List PyData} (h : PnL n ds ps) : Pn (n + 1) (.lst ds) (.list ps) := ⟨by simp [toPD, h.pd], by simp [PyData.canLay0, h.lay], by have := h.dep; simp only [PyData.depth]; omega⟩
theorem PnL.tup {n : Nat} {ds : List D} {ps : List PyData} (h : PnL n ds ps) : Pn (n + 1) (.tup ds) (.tuple ps) := ⟨by simp [toPD, h.pd], by simp [PyData.canLay0, h.lay], by have := h.dep; simp only [PyData.depth]; omega⟩
theorem PnL.nil (n : Nat) : PnL n [] [] := ⟨rfl, by simp [PyData.canLayAll0], by simp [PyData.depthAll]⟩
theorem PnL.cons {n : Nat} {d : D} {p : PyData} {ds : List D} {ps : List PyData} (h : Pn n d p) (t : PnL n ds ps) : PnL n (d :: ds) (p :: ps) := ⟨by simp [toPDs, h.pd, t.pd], by simp [PyData.canLayAll0, h.lay, t.lay], by have := h.dep; have := t.dep; simp only [PyData.depthAll]; omega⟩
theorem PnL.map {α : Type} {n : Nat} {f : α → D} {g : α → PyData} : ∀ {xs : List α}, (∀ x ∈ xs, Pn n (f x) (g x)) → PnL n (xs.map f) (xs.map g)
  | [], _ => .nil n
  | x :: xs, h => .cons (h x List.mem_cons_self) (PnL.map fun y hy => h y (List.mem_cons_of_mem _ hy))
theorem Pn.shaped {n : Nat} {d : D} {p : PyData} (h : Pn n d p) (hn : n ≤ 64) : SeqAt.shaped p = true := by
  show (p.canLay0 && decide (p.depth ≤ 64)) = true
  rw [h.lay, decide_eq_true (Nat.le_trans h.dep hn)]
  rfl
theorem eqD_val {n m : Nat} {d e : D} {p q : PyData} (h : Pn n d p) (k : Pn m e q) (hn : n ≤ 64 := by decide) (hm : m ≤ 64 := by decide) : eqD d e = .ok (.bl (PyData.eqv p q)) := by
  unfold eqD
  rw [h.pd, k.pd]
  simp only [h.shaped hn, k.shaped hm, Bool.and_self, chk_true]
theorem neD_val {n m : Nat} {d e : D} {p q : PyData} (h : Pn n d p) (k : Pn m e q) (hn : n ≤ 64 := by decide) (hm : m ≤ 64 := by decide) : neD d e = .ok (.bl (!PyData.eqv p q)) := by
  unfold neD
  rw [h.pd, k.pd]
  simp only [h.shaped hn, k.shaped hm, Bool.and_self, chk_true]
theorem eqD_refl {n : Nat} {d : D} {p : PyData} (h : Pn n d p) (hn : n ≤ 64 := by decide) : eqD d d = .ok (.bl true) := by
  rw [eqD_val h h hn hn, SeqAt.eqv_refl p h.lay]
theorem neD_refl {n : Nat} {d : D} {p : PyData} (h : Pn n d p) (hn : n ≤ 64 := by decide) : neD d d = .ok (.bl false) := by
  rw [neD_val h h hn hn, SeqAt.eqv_refl p h.lay]
  rfl
theorem inB_lst {n m : Nat} {d : D} {p : PyData} {ds : List D} {ps : List PyData} (h : Pn n d p) (k : PnL m ds ps) (hn : n ≤ 64 := by decide) (hm : m ≤ 63 := by decide) : inB d (.lst ds) = some (ps.any fun z => PyData.eqv z p) := by
  have e1 : inB d (.lst ds) = (match toPD d, toPD (.lst ds) with
    | some p, some (.list ps) => if SeqAt.shaped p && SeqAt.shaped (.list ps) then some (ps.any fun z => PyData.eqv z p) else none
    | some p, some (.tuple ps) => if SeqAt.shaped p && SeqAt.shaped (.tuple ps) then some (ps.any fun z => PyData.eqv z p) else none
    | _, _ => none) := by
    unfold inB
    cases d <;> rfl
  rw [e1, h.pd, k.lst.pd]
  simp only [h.shaped hn, k.lst.shaped (Nat.succ_le_succ hm), Bool.and_self, if_true]
theorem inB_tup {n m : Nat} {d : D} {p : PyData} {ds : List D} {ps : List PyData} (h : Pn n d p) (k : PnL m ds ps) (hn : n ≤ 64 := by decide) (hm : m ≤ 63 := by decide) : inB d (.tup ds) = some (ps.any fun z => PyData.eqv z p) := by
  have e1 : inB d (.tup ds) = (match toPD d, toPD (.tup ds) with
    | some p, some (.list ps) => if SeqAt.shaped p && SeqAt.shaped (.list ps) then some (ps.any fun z => PyData.eqv z p) else none
    | some p, some (.tuple ps) => if SeqAt.shaped p && SeqAt.shaped (.tuple ps) then some (ps.any fun z => PyData.eqv z p) else none
    | _, _ => none) := by
    unfold inB
    cases d <;> rfl
  rw [e1, h.pd, k.tup.pd]
  simp only [h.shaped hn, k.tup.shaped (Nat.succ_le_succ hm), Bool.and_self, if_true]
@[simp] theorem eqv_int (i j : Int) : PyData.eqv (.int i) (.int j) = (i == j) := by simp [PyData.eqv]
@[simp] theorem eqv_bl (i j : Bool) : PyData.eqv (.bool i) (.bool j) = (i == j) := by simp [PyData.eqv]
@[simp] theorem eqv_str (i j : Str) : PyData.eqv (.str i) (.str j) = (i == j) := by simp [PyData.eqv]
theorem any_mem {α : Type} [DecidableEq α] (xs : List α) (a : α) : (xs.any fun x => x == a) = decide (a ∈ xs) := by
  rw [Bool.eq_iff_iff, List.any_eq_true]
  simp
theorem inB_ints (i : Int) (is : List Int) : inB (.int i) (.lst (is.map .int)) = some (decide (i ∈ is)) := by
  rw [inB_lst (Pn.int 0 i) (PnL.map (n := 0) (g := PyData.int) fun x _ => Pn.int 0 x)]
  rw [List.any_map, ← any_mem]
  congr 2
  try (funext x; simp)
theorem inB_bls (i : Bool) (is : List Bool) : inB (.bl i) (.lst (is.map .bl)) = some (decide (i ∈ is)) := by
  rw [inB_lst (Pn.bl 0 i) (PnL.map (n := 0) (g := PyData.bool) fun x _ => Pn.bl 0 x)]
  rw [List.any_map, ← any_mem]
  congr 2
  try (funext x; simp)
theorem inB_strs {i : Str} {is : List Str} (h : strOk i = true) (hs : ∀ x ∈ is, strOk x = true) : inB (.str i) (.lst (is.map .str)) = some (decide (i ∈ is)) := by
  rw [inB_lst (Pn.str 0 h) (PnL.map (n := 0) (g := PyData.str) fun x hx => Pn.str 0 (hs x hx))]
  rw [List.any_map, ← any_mem]
  congr 2
  try (funext x; simp)
theorem inD_of {d e : D} {b : Bool} (h : inB d e = some b) : inD d e = .ok (.bl b) := by unfold inD; rw [h]
theorem ninD_of {d e : D} {b : Bool} (h : inB d e = some b) : ninD d e = .ok (.bl (!b)) := by unfold ninD; rw [h]
theorem indexD_strs {a : Str} {ns : List Str} (h : strOk a = true) (hs : ∀ x ∈ ns, strOk x = true) (ha : a ∈ ns) : indexD (.lst (ns.map .str)) (.str a) = .ok (.int (ns.idxOf a : Nat)) := by
  have k : PnL 0 (ns.map D.str) (ns.map PyData.str) := PnL.map fun x hx => Pn.str 0 (hs x hx)
  unfold indexD
  simp only [k.pd, (Pn.str 0 h).pd]
  have e : (ns.map PyData.str).findIdx? (fun z => PyData.eqv z (.str a)) = some (ns.idxOf a) := by
    rw [List.findIdx?_map]
    have hf : ((fun z => PyData.eqv z (PyData.str a)) ∘ PyData.str) = fun x => x == a := by
      funext x; simp
    rw [hf]
    rw [List.findIdx?_eq_some_iff_getElem]
    have hl := List.idxOf_lt_length_of_mem ha
    refine ⟨hl, by simp, fun j hj => ?_⟩
    have := List.not_of_lt_findIdx (p := fun x => x == a) (xs := ns) (i := j) (by simpa [List.idxOf] using hj)
    simpa using this
  rw [e]
  simp only [k.lst.shaped (by decide), (Pn.str 0 h).shaped (by decide), Bool.and_self, chk_true]
theorem ixL_map {α : Type} {f : α → D} {xs : List α} {i : Nat} {x : α} (h : xs[i]? = some x) : ixL (xs.map f) (i : Int) = .ok (f x) := ixL_nat (by rw [List.getElem?_map, h]; rfl)
theorem ixL_mapZ {α : Type} {f : α → D} {xs : List α} {i : Int} {x : α} (h0 : 0 ≤ i) (h : xs[i.toNat]? = some x) : ixL (xs.map f) i = .ok (f x) := ixL_int h0 (by rw [List.getElem?_map, h]; rfl)
/-! ### while, by a word and a number that falls -/
theorem whF_succ (t : En → Oc Bool) (b : En → Oc Res) (n : Nat) (ρ : En) (h : t ρ = .ok true) {ρ' : En} (hb : b ρ = .ok (.nx ρ') ∨ b ρ = .ok (.ct ρ')) : whF t b (n + 1) ρ = whF t b n ρ' := by
  show (bd (t ρ) fun c => if c then bd (b ρ) fun r => match r with
    | .nx ρ' => whF t b n ρ'
    | .ct ρ' => whF t b n ρ'
    | .bk ρ' => .ok (.nx ρ')
    | .rt d => .ok (.rt d)
    else .ok (.nx ρ)) = _
  rw [h]
  simp only [bd_ok, if_true]
  rcases hb with hb | hb <;> rw [hb] <;> rfl
theorem whF_stop (t : En → Oc Bool) (b : En → Oc Res) (n : Nat) (ρ : En) (h : t ρ = .ok false) : whF t b (n + 1) ρ = .ok (.nx ρ) := by
  show (bd (t ρ) fun c => if c then bd (b ρ) fun r => match r with
    | .nx ρ' => whF t b n ρ'
    | .ct ρ' => whF t b n ρ'
    | .bk ρ' => .ok (.nx ρ')
    | .rt d => .ok (.rt d)
    else .ok (.nx ρ)) = _
  rw [h]
  simp
theorem wh_inv {t : En → Oc Bool} {b : En → Oc Res} (I : Nat → En → Prop) (h : ∀ m ρ, I m ρ → t ρ = .ok false ∨ (t ρ = .ok true ∧ ∃ ρ' m', m' < m ∧ (b ρ = .ok (.nx ρ') ∨ b ρ = .ok (.ct ρ')) ∧ I m' ρ')) {m : Nat} {ρ : En} (h0 : I m ρ) :
    ∃ ρ' m', wh t b ρ = .ok (.nx ρ') ∧ I m' ρ' ∧ t ρ' = .ok false := by
  have key : ∀ m ρ, I m ρ → ∃ n ρ' m', whF t b n ρ = .ok (.nx ρ') ∧ I m' ρ' ∧ t ρ' = .ok false := by
    intro m
    induction m using Nat.strongRecOn with
    | ind m ih =>
      intro ρ hI
      rcases h m ρ hI with hf | ⟨ht, ρ', m', hm, hb, hI'⟩
      · exact ⟨1, ρ, m, whF_stop t b 0 ρ hf, hI, hf⟩
      · obtain ⟨n, ρ2, m2, h1, h2, h3⟩ := ih m' hm ρ' hI'
        exact ⟨n + 1, ρ2, m2, by rw [whF_succ t b n ρ ht hb, h1], h2, h3⟩
  obtain ⟨n, ρ', m', h1, h2, h3⟩ := key m ρ h0
  exact ⟨ρ', m', wh_of h1 (by intro z; cases z), h2, h3⟩
@[simp] theorem setF_ap (i : Nat) (cs : List Str) (n : Str) (f : En → Oc D) (ρ : En) : setF i cs n f ρ = bd (f ρ) fun d => match ρ[i]? with
  | some (.ow (.obj c fs)) => chk (decide (c ∈ cs) && decide (fs.length < 1000)) (.ok (.nx (ρ.set i (.ow (.obj c (putD n d fs))))))
  | _ => .st := id rfl
@[simp] theorem fnI_ap (c : Str) (n m : Nat) (g : En → Oc Res) (ds : List D) : fnI c n m g ds = chk (decide (ds.length = m)) (outI (g (.ow (.obj c []) :: (ds.map .sh ++ List.replicate (n - m) .no)))) := id rfl
@[simp] theorem outI_nx (c : Str) (fs : List (Str × D)) (ρ : En) : outI (.ok (.nx (.ow (.obj c fs) :: ρ))) = .ok (.obj c fs) := id rfl
@[simp] theorem wipeE_nil (ρ : En) : wipeE ρ [] = ρ := id rfl
@[simp] theorem wipeE_cons (ρ : En) (v : Nat) (vs : List Nat) : wipeE ρ (v :: vs) = (wipeE ρ vs).set v .no := id rfl
@[simp] theorem allD_lst (bs : List Bool) : allD (.lst (bs.map .bl)) = .ok (.bl (bs.all id)) := by
  have h : ∀ bs : List Bool, allBl (bs.map .bl) = some bs := fun bs => by
    induction bs with
    | nil => rfl
    | cons b bs ih => simp [allBl, ih]
  unfold allD
  simp only [h]
@[simp] theorem anyD_lst (bs : List Bool) : anyD (.lst (bs.map .bl)) = .ok (.bl (bs.any id)) := by
  have h : ∀ bs : List Bool, allBl (bs.map .bl) = some bs := fun bs => by
    induction bs with
    | nil => rfl
    | cons b bs ih => simp [allBl, ih]
  unfold anyD
  simp only [h]
theorem sortedID_ints (is : List Int) : sortedID (.lst (is.map .int)) = .ok (.lst ((isort is).map .int)) := by
  have h : ∀ bs : List Int, allInt (bs.map .int) = some bs := fun bs => by
    induction bs with
    | nil => rfl
    | cons b bs ih => simp [allInt, ih]
  unfold sortedID
  simp only [h]
theorem mem_isort {x : Int} {l : List Int} : x ∈ isort l ↔ x ∈ l := (isort_perm l).mem_iff
/-! ### texts -/
theorem len_append (a b : Str) : (a ++ b).length = a.length + b.length := by
  show (a.cps ++ b.cps).size = a.cps.size + b.cps.size
  exact Array.size_append
theorem strOk_append {a b : Str} (ha : strOk a = true) (hb : strOk b = true) : strOk (a ++ b) = true := by
  unfold strOk at *
  show (a.cps ++ b.cps).all (· < 0x110000) = true
  rw [Array.all_append, ha, hb]; rfl
theorem strOk_cut {a : Str} (lo hi : Option Int) (ha : strOk a = true) : strOk (cutS a lo hi) = true := by
  unfold strOk at *
  unfold cutS
  rw [← Array.all_toList] at ha ⊢
  rw [List.all_eq_true] at ha ⊢
  intro x hx
  simp only at hx
  exact ha x (List.mem_of_mem_drop (List.mem_of_mem_take hx))
theorem len_cut (a : Str) (lo hi : Option Int) : (cutS a lo hi).length ≤ a.length := by
  unfold cutS
  show (List.toArray _).size ≤ a.cps.size
  simp only [List.size_toArray, List.length_take, List.length_drop, Array.length_toList]
  omega
theorem strOk_one {c : Nat} (h : c < 0x110000) : strOk ⟨#[c]⟩ = true := by
  unfold strOk
  simp [h]
theorem ixD_str {z : Str} {i : Int} (hz : z.length ≤ 1000000) (h0 : 0 ≤ i) (h1 : i < z.length) : ∃ c, ixD (.str z) (.int i) = .ok (.str ⟨#[c]⟩) ∧ (strOk z = true → strOk ⟨#[c]⟩ = true) := by
  have hi : i.toNat < z.cps.size := by
    have h1 : i < (z.cps.size : Nat) := h1
    omega
  refine ⟨z.cps[i.toNat], ?_, fun h => ?_⟩
  · unfold ixD
    simp only
    have e : atI z.cps.toList i = some z.cps[i.toNat] := by
      have e : i = (i.toNat : Int) := by omega
      have := atI_nat (xs := z.cps.toList) (j := i.toNat) (v := z.cps[i.toNat]) (by simp [hi])
      rw [← e] at this
      exact this
    rw [decide_eq_true (by rw [sizeLine_val]; omega), e]
    rfl
  · apply strOk_one
    unfold strOk at h
    rw [Array.all_eq_true] at h
    simpa using h i.toNat hi
theorem addD_strs {a b : Str} (h : a.length + b.length ≤ 1000000) : addD (.str a) (.str b) = .ok (.str (a ++ b)) := by
  rw [addD_str, decide_eq_true (by rw [sizeLine_val]; omega)]; rfl
theorem addD_lsts {a b : List D} (h : a.length + b.length ≤ 1000000) : addD (.lst a) (.lst b) = .ok (.lst (a ++ b)) := by
  rw [addD_lst, decide_eq_true (by rw [sizeLine_val]; omega)]; rfl
theorem slD_strs {a : Str} {lo hi : Option Int} (h : a.length ≤ 1000000) : slD (.str a) lo hi = .ok (.str (cutS a lo hi)) := by
  rw [slD_str, decide_eq_true (by rw [sizeLine_val]; omega)]; rfl
end Fx

set_option Elab.async false
set_option linter.all false
set_option maxRecDepth 100000
set_option maxHeartbeats 4000000
/-! Fx9: all and any of generator expressions; defs with tables. -/
namespace Fx
open PySem PySem.Spec PyProof.Rows L2
variable {K : PySem.W.Frag} {mg : Str → Option Value}
def gaL (T : Tg) (own : List Nat) (neg : Bool) (el : En → Oc D) (ρ : En) : List D → Oc D
  | [] => .ok (.bl (!neg))
  | d :: ds => bd (noex (bindT T d (wipeE ρ own))) fun ρ1 => bd (noex (el ρ1)) fun y => match y with
    | .bl b => if b = neg then .ok (.bl neg) else gaL T own neg el ρ ds
    | _ => .st
def ga (T : Tg) (own : List Nat) (neg : Bool) (src : En → Oc (List D)) (el : En → Oc D) : En → Oc D := fun ρ => bd (src ρ) fun ds => gaL T own neg el ρ ds
theorem Ext.tabbed {G H H2 : Hp} {P : Addr} (s : Same G H) (t : GxR.TabG H P) (g : G P = none) (h : GxR.Tabbed P H H2) : Ext G H G H2 := by
  obtain ⟨t2, h2⟩ := h
  have ne : ∀ {b o}, H b = some o → (∀ ps, o ≠ .tbl ps) → b ≠ P := fun {b o} e n z => by
    obtain ⟨ps, e2, _⟩ := t
    rw [z, e2] at e
    cases e
    exact n ps rfl
  refine ⟨⟨fun b o e n => by rw [h2 b (ne e n)]; exact e, fun b o e => ?_, fun P' t' => ?_⟩, .refl _, fun b o e => ?_, fun _ _ _ g => g⟩
  · by_cases hb : b = P
    · obtain ⟨ps, e2, _⟩ := t2
      exact ⟨_, by rw [hb]; exact e2⟩
    · exact ⟨o, by rw [h2 b hb]; exact e⟩
  · by_cases hb : P' = P
    · rw [hb]; exact t2
    · obtain ⟨ps, e2, ok⟩ := t'
      exact ⟨ps, by rw [h2 P' hb]; exact e2, ok⟩
  · rw [h2 b fun z => by rw [z, g] at e; cases e]
    exact s b o e
theorem tAA_in {neg : Bool} {P : Addr} {T : Tg} {own : List Nat} {src : En → Oc (List D)} {el : En → Oc D} {σ : L2.St} {H : Hp} {Q : VK} {W : WX} (hP : IsTab K P) (ho : ∀ i ∈ T.slots, i ∈ own) (q : tE K mg W (ga T own neg src el) σ H Q) :
    Gx.tAA neg P (tI K mg W src) (gT K T) (tE K mg E0W el) own σ H Q := by
  obtain ⟨G, ρ, R, p⟩ := q
  refine ⟨G, ρ, R, ?_⟩
  revert p
  unfold ga
  cases src ρ with
  | st => exact id
  | ex c => exact id
  | ok ds =>
    intro p J G1 H1 x1 Y
    simp only [bd_ok] at p
    obtain ⟨t1, g1⟩ := (R.ext x1).tabs P hP
    refine ⟨t1, fun H2 hT => ?_⟩
    have x12 : Ext G1 H1 G1 H2 := .tabbed x1.gh t1 g1 hT
    have R2 : Rel K mg G1 H2 ρ σ := (R.ext x1).ext x12
    refine ⟨fun i m H => m = ds.length - i ∧ i ≤ ds.length ∧ ∃ G, Ext G1 H2 G H ∧ PostE K mg (fun c d H' => W c d σ H') G H Q (gaL T own neg el ρ (ds.drop i)), ⟨ds.length, by simp, Nat.zero_le _, G1, .refl x12.gh, PostE.imp (x1.trans x12) p fun _ _ z => z⟩, ?_⟩
    rintro i m H ⟨rfl, hi, G, x, p⟩
    by_cases hlt : i < ds.length
    · refine .inr ⟨Y.go i G H hlt x.gg x.gh, fun v H' y => ?_⟩
      obtain ⟨d, hd⟩ : ∃ d, ds[i]? = some d := ⟨ds[i], List.getElem?_eq_getElem hlt⟩
      obtain ⟨G2, x2, r2⟩ := Y.yld i d v G H H' hd x.gg x.gh y
      have hdr : ds.drop i = d :: ds.drop (i + 1) := by
        rw [List.drop_eq_getElem_cons hlt]
        rw [List.getElem?_eq_getElem hlt] at hd
        cases hd
        rfl
      rw [hdr] at p
      unfold gaL at p
      cases h1 : noex (bindT T d (wipeE ρ own)) with
      | st => rw [h1] at p; exact p.elim
      | ex c => exact (noex_ne h1).elim
      | ok ρ1 =>
        rw [h1] at p
        simp only [bd_ok] at p
        have R3 : Rel K mg G2 H' (wipeE ρ own) (L2.wipe σ own) := ((R2.ext x).ext x2).wipe own
        refine gT_rel R3 r2 (noex_eq h1) fun us R4 => ⟨setT_wipe ho, ?_⟩
        refine ⟨G2, ρ1, R4, ?_⟩
        cases h2 : noex (el ρ1) with
        | st => rw [h2] at p; exact p.elim
        | ex c => exact (noex_ne h2).elim
        | ok yd =>
          rw [h2] at p
          simp only [bd_ok] at p
          rw [noex_eq h2]
          intro yv G4 H4 x4 ry
          cases yd with
          | bl b =>
            cases ry
            refine ⟨b, rfl, ?_⟩
            simp only at p
            by_cases hb : b = neg
            · rw [if_pos hb] at p ⊢
              exact p _ G4 H4 (x2.trans x4) (.bl _)
            · rw [if_neg hb] at p ⊢
              exact ⟨ds.length - (i + 1), by omega, rfl, hlt, G4, (x.trans x2).trans x4, PostE.imp (x2.trans x4) p fun _ _ z => z⟩
          | _ => exact p.elim
    · have e : i = ds.length := by omega
      subst e
      rw [List.drop_length] at p
      exact .inl ⟨Y.stop G H x.gg x.gh, p _ G H (.refl x.gh) (.bl _)⟩
section
variable {X : Cx} {W : WX} {elt tg it : Expr} {pos : Pos}
theorem Ctx.gen {k : Nat} (C : Ctx X W) (hr : Room k X.A) (s : Shared) (H : Hp) (ce : Env) (fp : List Addr) (pn : List (Addr × Obj)) : Ctx (Gx.gen X (X.A.in1.in1.deeper ce) s H ce fp pn) E0W :=
  ⟨C.calm, C.nd, takes0, by have := hr.un; show X.A.units + 1 + 1 + 3 + 65 < cLine; omega⟩
theorem room_gen {k : Nat} (hr : Room (k + 1) X.A) (ce : Env) : Room k (X.A.in1.in1.deeper ce) :=
  ⟨hr.hd, by have := hr.dp; show X.A.depth + 1 + 3 * k + 5 < _; omega, by have := hr.un; show X.A.units + 1 + 1 + 3 + 16 * k + 200 < _; omega⟩
structure TbOk (X : Cx) (c P : Addr) : Prop where
  tb : GxR.TabB X.base X.mg c P
  is : IsTab X.K P
theorem se_allG {c P : Addr} {k : Nat} {p gpos : Pos} {scope : Scope} {own : List (Str × Nat)} {T : Tg} {src : En → Oc (List D)} {el : En → Oc D} (C : Ctx X W) (hr : Room k X.A) (hg : Gl X "all") (hm : X.mg "all" = none) (t : TbOk X c P) (hcode : X.env.code = .ref c) (ok : BlkOk X.N X.env.scope scope own)
    (nc : (scope.names.all fun y => y.2 != .cell) = true) (dot : scope.names.lookup (".0" : Str) = some NameKind.local) (co : scope.isCoroutine = false) (hi : SI X W tg it src)
    (hgt : ∀ (s : Shared) (H : Hp) (C : Addr) (code : Value) (fp : List Addr) (pn : List (Addr × Obj)), ST (Gx.gen X (X.A.in1.in1.deeper (Gx.gEnv X scope C code)) s H (Gx.gEnv X scope C code) fp pn) tg T)
    (he : ∀ (s : Shared) (H : Hp) (C : Addr) (code : Value) (fp : List Addr) (pn : List (Addr × Obj)), SE (Gx.gen X (X.A.in1.in1.deeper (Gx.gEnv X scope C code)) s H (Gx.gEnv X scope C code) fp pn) E0W elt el) (ho : ∀ i ∈ T.slots, i ∈ own.map (·.2)) (hs : ∀ v, genFold it X.env v = pure v := by intro _; rfl) :
    SE X W (.Call (.Name "all" p) [.GeneratorExp elt [⟨tg, it, [], 0⟩] scope gpos] [] pos) (ga T (own.map (·.2)) false src el) :=
  PE.weak (Gx.pe_all hr C.calm C.nd hg hm (by decide +kernel) t.tb hcode ok (fun y hy e => by have := List.all_eq_true.mp nc y hy; rw [e] at this; simp at this) dot co hi hgt he hs) fun σ H Q q => tAA_in t.is ho q
theorem se_anyG {c P : Addr} {k : Nat} {p gpos : Pos} {scope : Scope} {own : List (Str × Nat)} {T : Tg} {src : En → Oc (List D)} {el : En → Oc D} (C : Ctx X W) (hr : Room k X.A) (hg : Gl X "any") (hm : X.mg "any" = none) (t : TbOk X c P) (hcode : X.env.code = .ref c) (ok : BlkOk X.N X.env.scope scope own)
    (nc : (scope.names.all fun y => y.2 != .cell) = true) (dot : scope.names.lookup (".0" : Str) = some NameKind.local) (co : scope.isCoroutine = false) (hi : SI X W tg it src)
    (hgt : ∀ (s : Shared) (H : Hp) (C : Addr) (code : Value) (fp : List Addr) (pn : List (Addr × Obj)), ST (Gx.gen X (X.A.in1.in1.deeper (Gx.gEnv X scope C code)) s H (Gx.gEnv X scope C code) fp pn) tg T)
    (he : ∀ (s : Shared) (H : Hp) (C : Addr) (code : Value) (fp : List Addr) (pn : List (Addr × Obj)), SE (Gx.gen X (X.A.in1.in1.deeper (Gx.gEnv X scope C code)) s H (Gx.gEnv X scope C code) fp pn) E0W elt el) (ho : ∀ i ∈ T.slots, i ∈ own.map (·.2)) (hs : ∀ v, genFold it X.env v = pure v := by intro _; rfl) :
    SE X W (.Call (.Name "any" p) [.GeneratorExp elt [⟨tg, it, [], 0⟩] scope gpos] [] pos) (ga T (own.map (·.2)) true src el) :=
  PE.weak (Gx.pe_any hr C.calm C.nd hg hm (by decide +kernel) t.tb hcode ok (fun y hy e => by have := List.all_eq_true.mp nc y hy; rw [e] at this; simp at this) dot co hi hgt he hs) fun σ H Q q => tAA_in t.is ho q
end
end Fx

set_option Elab.async false
set_option linter.all false
set_option maxRecDepth 100000
set_option maxHeartbeats 4000000
/-! Fx10: count, max, min, chains, raise. -/
namespace Fx
open PySem PySem.Spec PyProof.Rows L2
variable {K : PySem.W.Frag} {mg : Str → Option Value}
/-! ### list.count of texts -/
def rCntS (K : PySem.W.Frag) : V → List V → Hp → VK → Prop := fun x xs H Q => ∃ (p : Addr) (ys : List Str) (k : Str), x = .ref p ∧ xs = [.str k] ∧ SqL K H p (ys.map V.str) ∧ Q (.int (countIn (.str k) (ys.map PyData.str))) H
theorem strs_of_vals : ∀ {ys : List Str} {us : List Value}, Vals (ys.map V.str) us → StrsAre us ys
  | [], _, h => by cases h; exact .nil
  | y :: ys, _, h => by
    cases h with
    | cons r t =>
      obtain ⟨u, rfl⟩ := r
      exact .cons y u (strs_of_vals t)
theorem mt_countS {X : Cx} : MtR X "list.count" (rCntS X.K) := by
  intro pins s σ H x xs v us Q I rx rxs h
  obtain ⟨p, ys, k, rfl, rfl, hs, q⟩ := h
  cases rx
  obtain ⟨u, rfl, ru⟩ := rxs.one
  obtain ⟨t, rfl⟩ := ru
  obtain ⟨its, rv, il, _⟩ := I.list hs
  exact count_list_strs il.isList (strs_of_vals rv) ⟨.int _, H, I.kept (h' := s.heap) (fun _ _ e => e), ⟨_, rfl⟩, q⟩
def strsD : List D → Option (List Str)
  | [] => some []
  | .str x :: ds => (strsD ds).map (x :: ·)
  | _ => none
theorem repL_strs {G : Hp} : ∀ {ds : List D} {ys : List Str} {vs : List V}, strsD ds = some ys → RepL K mg G vs ds → vs = ys.map V.str
  | [], _, _, e, .nil => by cases e; rfl
  | .str x :: ds, ys, _, e, .cons r t => by
    cases h : strsD ds with
    | none => simp [strsD, h] at e
    | some zs =>
      simp [strsD, h] at e
      subst e
      cases r
      rw [List.map_cons, repL_strs h t]
  | .non :: _, _, _, e, _ => by cases e
  | .bl _ :: _, _, _, e, _ => by cases e
  | .int _ :: _, _, _, e, _ => by cases e
  | .lst _ :: _, _, _, e, _ => by cases e
  | .tup _ :: _, _, _, e, _ => by cases e
  | .fz _ :: _, _, _, e, _ => by cases e
  | .obj _ _ :: _, _, _, e, _ => by cases e
  | .ty _ :: _, _, _, e, _ => by cases e
def countM (d : D) (es : List D) : Oc D := match es with
  | [.str k] => match d with
    | .lst ds => match strsD ds with
      | some ys => .ok (.int (countIn (.str k) (ys.map PyData.str)))
      | none => .st
    | _ => .st
  | _ => .st
section
variable {X : Cx} {W : WX} {a b c e : Expr} {es : List Expr} {f g h : En → Oc D} {fs : En → Oc (List D)} {pos : Pos}
theorem se_count {apos : Pos} (ha : SQ X W a f) (hb : SA X W (e :: es) fs)
    (hbase : attributeBase a "count" X.env (eval a X.env) = eval a X.env := by rfl)
    (hfew : ((backTo pos (starEach (e :: es) X.env)).all (fun x => !x.1) && (backToKw pos (keywordEach [] X.env)).all (fun x => x.1.isSome)
      && decide ((e :: es).length + ([] : List Keyword).length + (if ([] : List Keyword).isEmpty then 0 else 1) < 30)) = true := by rfl)
    (hline : (apos.endLine == pos.line) = true := by rfl) (hs : starEach (e :: es) X.env = (false, eval e X.env) :: starEach es X.env := by rfl) (hplain : (backTo pos (starEach es X.env)).any (·.1) = false := by rfl) :
    SE X W (.Call (.Attribute a "count" apos) (e :: es) [] pos) (mtD isLst countM f fs) :=
  se_mt PySem.F.plainAttrs_list PySem.F.slot_list_count PySem.F.type_list_count mt_countS ty_lst (fun {G H x d vs ds Q U} s r1 r2 p => by
    unfold countM at p
    split at p
    · rename_i k
      split at p
      · rename_i ls
        split at p
        · rename_i ys hys
          obtain ⟨l, xs, e1, hl, rl⟩ := r1.lst s
          subst e1
          cases r2 with
          | cons r2 r3 =>
            cases r3
            cases r2
            have := repL_strs hys rl
            subst this
            exact ⟨l, ys, k, rfl, rfl, SqL.of hl, p.here s (.int _)⟩
        · exact p.elim
      · exact p.elim
    · exact p.elim) ha hb hbase hfew hline hs hplain
/-! ### max, min of two -/
def maxM (ds : List D) : Oc D := match ds with | [.int i, .int j] => .ok (.int (if j > i then j else i)) | _ => .st
def minM (ds : List D) : Oc D := match ds with | [.int i, .int j] => .ok (.int (if j < i then j else i)) | _ => .st
def unA (F : List D → Oc D) (fs : En → Oc (List D)) : En → Oc D := fun ρ => bd (fs ρ) F
theorem se_callB {idn : String} {r : List V → Hp → VK → Prop} {nm : Str} {p : Pos} {F : List D → Oc D} (hc : CallR X (.builtin idn) r) (hg : Gl X nm) (hm : X.mg nm = none) (hv : bootBuiltins nm = some (.builtin idn))
    (h2 : ∀ {G H vs ds Q U}, Same G H → RepL X.K X.mg G vs ds → PostE X.K X.mg U G H Q (F ds) → r vs H Q) (ha : SA X W (e :: es) fs) (hn : nm ≠ "__name__" := by decide) (hdb : (nm == ("__debug__" : Str)) = false := by decide)
    (he : starEach (e :: es) X.env = (false, eval e X.env) :: starEach es X.env := by rfl) (hpl : (backTo pos (starEach es X.env)).any (·.1) = false := by rfl) : SE X W (.Call (.Name nm p) (e :: es) [] pos) (unA F fs) := by
  refine PE.weak (pe_callB hc hg hm hv ha hn hdb he hpl) fun σ H Q ⟨G, ρ, R, p⟩ => ?_
  refine ⟨G, ρ, R, ?_⟩
  revert p
  unfold unA
  cases fs ρ with
  | st => exact id
  | ex c => exact id
  | ok ds => exact fun p vs G1 H1 x1 r1 => h2 x1.gh r1 (PostE.imp x1 p fun _ _ q => q)
end
end Fx

set_option Elab.async false
set_option linter.all false
set_option maxRecDepth 100000
set_option maxHeartbeats 4000000
/-! Fx11: raise; fresh results; defs with tables and defaults. -/
namespace Fx
open PySem PySem.Spec PyProof.Rows L2
variable {K : PySem.W.Frag} {mg : Str → Option Value}
/-! ### raise -/
structure ExcK (K : PySem.W.Frag) (mg : Str → Option Value) (c : Str) : Prop where
  ex : ∃ C, mg c = some (.ref C) ∧ PySem.W.excIn K C He.veBase "ValueError.__new__" = true ∧ PySem.W.keepIn K (.ref C) = true ∧ PySem.W.subIn K (.ref C) (.type "BaseException") = some true ∧ PySem.W.typeIn K (.ref C) = some (.type "type")
def rsx (c : Str) : En → Oc Res := fun _ => .ex c
section
variable {X : Cx} {W : WX} {U : XK} {fre : Bool} {a b c e : Expr} {es : List Expr} {f g h : En → Oc D} {fs : En → Oc (List D)} {pos : Pos}
theorem ss_raise {nm m : Str} {j : Nat} {p p2 pos2 pos3 : Pos} (C : Ctx X (up U)) (k : ExcK X.K X.mg nm) (hg : Gl X nm) (hdb : (nm == ("__debug__" : Str)) = false := by decide) : SS X U fre (.Raise (some (.Call (.Name nm p) [.Constant (.str m) j p2] [] pos2)) none pos3) (rsx nm) := by
  obtain ⟨Cl, gC, h1, h2, h3, h4⟩ := k.ex
  exact PS.weak (ps_raise C.calm C.tk (pmk_own PySem.F.excBase_ValueError h1 gC h2 (raises_own h3 h4) hg hdb)) fun D σ H ⟨G, ρ, me, G0, H0, B, p⟩ => p _ G H B.ext gC
end
/-! ### fresh results -/
def spFF (K : PySem.W.Frag) (mg : Str → Option Value) (n : Nat) (F : List D → Oc D) : Sp := fun vs H Q E => vs.length = n ∧ ∃ G ds, Same G H ∧ Tabs K G H ∧ RepL K mg G vs ds ∧ PostF K mg E G H Q (F ds)
theorem postF_of {U : XK} {G H : Hp} {Q : VK} {o : Oc D} (p : PostE K mg U G H Q o) : PostF K mg U G H Q o := by
  revert p
  cases o with
  | st => exact id
  | ex c => exact id
  | ok d =>
    intro p a G' H' x ha ga ow
    obtain ⟨u, hu⟩ := ow.ex
    have gg : Same G' (upd G' a u) := fun b o e => by rw [upd_ne (ne_of_none e ga)]; exact e
    refine p (.ref a) (upd G' a u) H' ⟨x.hh, x.gg.trans gg, fun b o e => ?_, fun b o hb gb => ?_⟩ (ow.rep gg fun o q => by rw [hu] at q; cases q; exact upd_same)
    · by_cases hb : b = a
      · subst hb; rw [upd_same] at e; rw [hu]; exact e
      · rw [upd_ne hb] at e; exact x.gh _ _ e
    · rw [upd_ne (ne_of_none hb ha)]; exact x.nc b o hb gb
theorem FnOk.imp {P : Program} {w : World} {base : Heap} {CX : CXT} {k : Nat} {f : Addr} {fd : FuncData} {ps : List Str} {sp sp2 : Sp} (F : FnOk P w K mg base CX k f fd ps sp) (h : ∀ vs H Q E, sp2 vs H Q E → sp vs H Q E) : FnOk P w K mg base CX k f fd ps sp2 :=
  ⟨fun vs H Q E z => F.len vs H Q E (h _ _ _ _ z), fun A outer s H args us vs Q E r e b v z => F.run A outer s H args us vs Q E r e b v (h _ _ _ _ z)⟩
structure KnF (P : Program) (w : World) (K : PySem.W.Frag) (mg : Str → Option Value) (base : Heap) (k : Nat) (x : Str) (n : Nat) (dds : List D) (F : List D → Oc D) : Prop where
  ex : ∃ (f : Addr) (fd : FuncData) (ps : List Str) (ds : List Value) (dvs : List V), FnOk P w K mg base (L2.CX P w) k f fd ps (spFF K mg (n + dds.length) F) ∧ mg x = some (.ref f) ∧ PySem.W.keepIn K (.ref f) = true ∧ Binds K fd ps ds ∧ Vals dvs ds ∧ (∀ G, RepL K mg G dvs dds)
abbrev XKnF (X : Cx) := KnF X.prog X.w X.K X.mg X.base
theorem KnF.kn {P : Program} {w : World} {base : Heap} {k n : Nat} {x : Str} {dds : List D} {F : List D → Oc D} (h : KnF P w K mg base k x n dds F) : Kn P w K mg base k x n dds F := by
  obtain ⟨f, fd, ps, ds, dvs, ok, r⟩ := h.ex
  exact ⟨f, fd, ps, ds, dvs, ok.imp fun vs H Q E ⟨hl, G, es, s, t, r, p⟩ => ⟨hl, G, es, s, t, r, postF_of p⟩, r⟩
section
variable {X : Cx} {W : WX} {U : XK} {fre : Bool} {a b c e : Expr} {es : List Expr} {f g h : En → Oc D} {fs : En → Oc (List D)} {pos : Pos} {G H : Hp} {Q : VK}
theorem PostF.call {n : Nat} {vs dvs : List V} {ds dds : List D} {F : List D → Oc D} (s : Same G H) (tb : Tabs K G H) (r : RepL K mg G vs ds) (rd : ∀ G, RepL K mg G dvs dds) (p : PostF K mg U G H Q (Fx.chk (decide (ds.length = n)) (F (ds ++ dds)))) : spFF K mg (n + dds.length) F (vs ++ dvs) H Q U := by
  obtain ⟨c, p⟩ := p.chk
  exact ⟨by rw [List.length_append, r.length, (rd G).length, of_decide_eq_true c], G, ds ++ dds, s, tb, r.append (rd G), p⟩
theorem sf_call {k n : Nat} {nm : Str} {dds : List D} {F : List D → Oc D} {p : Pos} (kn : XKnF X k nm n dds F) (C : Ctx X W) (hr : Room k X.A) (hg : Gl X nm) (ha : SA X W (e :: es) fs) (hdb : (nm == ("__debug__" : Str)) = false := by decide)
    (he : starEach (e :: es) X.env = (false, eval e X.env) :: starEach es X.env := by rfl) (hpl : (backTo pos (starEach es X.env)).any (·.1) = false := by rfl) : SF X W (.Call (.Name nm p) (e :: es) [] pos) (cal F n dds fs) := by
  obtain ⟨f, fd, ps, ds, dvs, ok, gm, kp, b, vd, rd⟩ := kn.ex
  refine PE.weak (pe_callW ok hr hg gm kp b vd C.tk ha hdb he hpl) fun σ H Q ⟨G, ρ, R, p⟩ => ?_
  refine ⟨G, ρ, R, ?_⟩
  revert p
  unfold cal
  cases fs ρ with
  | st => exact id
  | ex c => exact id
  | ok ds =>
    intro p vs G1 H1 x1 r1
    have p := PostF.imp x1 p fun _ _ q => q
    exact p.call x1.gh (R.ext x1).tabs r1 rd
def exsA (f g : En → Oc D) : En → Oc Res := fun ρ => bd (f ρ) fun d => match d with
  | .lst ds => bd (g ρ) fun _ => chk (decide (ds.length < sizeLine)) (.ok (.nx ρ))
  | _ => .st
theorem ss_exsA {apos cpos : Pos} (ha : SF X (up U) a f) (hb : SE X (up U) b g)
    (hbase : attributeBase a "append" X.env (eval a X.env) = eval a X.env := by rfl)
    (hfew : ((backTo cpos (starEach [b] X.env)).all (fun x => !x.1) && (backToKw cpos (keywordEach [] X.env)).all (fun x => x.1.isSome)
      && decide (([b] : List Expr).length + ([] : List Keyword).length + (if ([] : List Keyword).isEmpty then 0 else 1) < 30)) = true := by rfl)
    (hline : (apos.endLine == cpos.line) = true := by rfl) (hs : starEach [b] X.env = (false, eval b X.env) :: starEach [] X.env := by rfl) (hplain : (backTo cpos (starEach [] X.env)).any (·.1) = false := by rfl)
    (hsw : swapsWith (.Call (.Attribute a "append" apos) [b] [] cpos) none pos.line X.env = pure false := by rfl) :
    SS X U fre (.Expr (.Call (.Attribute a "append" apos) [b] [] cpos) pos) (exsA f g) :=
  PS.weak (ps_expr (pe_bm PySem.F.plainAttrs_list PySem.F.slot_list_append PySem.F.type_list_append mt_append ha (pa_cons hb pa_nil hs) hbase hfew hline hs hplain) hsw) fun D σ H ⟨G, ρ, me, G0, H0, B, p⟩ => by
  refine ⟨G, ρ, B.rel, ?_⟩
  revert p
  unfold exsA
  cases f ρ with
  | st => exact id
  | ex c => exact fun p C G' H' x m => p C G' H' (B.ext.trans x) m
  | ok d =>
    intro p l G1 H1 x1 hl gl ow
    simp only [bd_ok] at p
    cases d with
    | lst ds =>
      obtain ⟨xs, el, rl⟩ := ow
      refine ⟨.inl ⟨rfl, _, SqL.of el⟩, G1, ρ, B.rel.ext x1, ?_⟩
      revert p
      simp only
      cases g ρ with
      | st => exact id
      | ex c => exact fun p C G' H' x m => p C G' H' (B.ext.trans (x1.trans x)) m
      | ok d2 =>
        intro p v G2 H2 x2 r2
        simp only [bd_ok] at p
        have p2 := chk_some (P := PostS X.K X.mg U fre me G0 H0 D) (fun z => z) p
        have el2 : H2 l = some (.lst xs) := x2.hh.ob _ _ el (fun _ z => by cases z)
        have gl2 : G2 l = none := x2.nc l _ el gl
        have x12 := x1.trans x2
        refine ⟨l, xs, v, rfl, rfl, el2, by rw [rl.length]; exact of_decide_eq_true p2.1, p2.2 σ G2 _ (B.step ⟨x12.hh.upd hl, x12.gg, fun b o e => ?_, x12.nc⟩)⟩
        rw [upd_ne (ne_of_none e gl2)]
        exact x12.gh _ _ e
    | _ => exact p.elim
end
section
variable {P : Program} {w : World} {base : Heap}
def Tbs (K : PySem.W.Frag) (mg : Str → Option Value) (base : Heap) : Prop := ∀ c P, PySem.W.codeHdIn K c P = true → K.lookup P = none → GxR.TabB base mg c P
theorem noOwn {ds : List D} {m : Nat} (i : Nat) (d : D) : (ds.map Sl.sh ++ List.replicate m Sl.no)[i]? ≠ some (.ow d) := fun h1 => by
  by_cases hi : i < ds.length
  · rw [List.getElem?_append_left (by simpa using hi), List.getElem?_map, List.getElem?_eq_getElem hi] at h1
    cases h1
  · rw [List.getElem?_append_right (by simpa using hi), List.getElem?_replicate] at h1
    split at h1 <;> cases h1
theorem fn_start {N ps : List Str} {sc : Scope} {G H : Hp} {vs : List V} {ds : List D} {Q : VK} {E : XK} {g : En → Oc Res} (S : FnScope N ps sc) (sG : Same G H) (tb : Tabs K G H) (r : RepL K mg G vs ds) (p : PostE K mg E G H Q (fnB N.length ps.length g ds)) :
    tS K mg E false g { nx := fun _ H' => Q .non H', rt := Q } (L2.start N vs) H := by
  unfold fnB at p
  obtain ⟨c, p⟩ := p.chk
  have hd := of_decide_eq_true c
  have R := rel_start (N := N) sG tb r
  rw [hd] at R
  refine ⟨G, _, 0, G, H, ⟨R, .refl sG, fun i a d h1 _ => absurd h1 (noOwn i d), fun i c fs h1 => absurd h1 (noOwn i _)⟩, ?_⟩
  revert p
  unfold outR
  cases g (ds.map .sh ++ List.replicate (N.length - ps.length) .no) with
  | st => exact id
  | ex c => exact id
  | ok r =>
    simp only [bd_ok]
    cases r with
    | nx ρ => exact fun p σ G' H' B => p .non G' H' B.ext .non
    | rt d => exact fun p v G' H' x r => p v G' H' x r
    | bk ρ => exact fun p => p.elim
    | ct ρ => exact fun p => p.elim
def outF (o : Oc Res) : Oc D := bd o fun r => match r with
  | .rt d => .ok d
  | _ => .st
def fnF (n m : Nat) (g : En → Oc Res) : List D → Oc D := fun ds => chk (decide (ds.length = m)) (outF (g (ds.map .sh ++ List.replicate (n - m) .no)))
theorem fnF_start {N ps : List Str} {sc : Scope} {G H : Hp} {vs : List V} {ds : List D} {Q : VK} {E : XK} {g : En → Oc Res} (S : FnScope N ps sc) (sG : Same G H) (tb : Tabs K G H) (r : RepL K mg G vs ds) (p : PostF K mg E G H Q (fnF N.length ps.length g ds)) :
    tS K mg E true g { nx := fun _ H' => Q .non H', rt := Q } (L2.start N vs) H := by
  unfold fnF at p
  obtain ⟨c, p⟩ := p.chk
  have hd := of_decide_eq_true c
  have R := rel_start (N := N) sG tb r
  rw [hd] at R
  refine ⟨G, _, 0, G, H, ⟨R, .refl sG, fun i a d h1 _ => absurd h1 (noOwn i d), fun i c fs h1 => absurd h1 (noOwn i _)⟩, ?_⟩
  revert p
  unfold outF
  cases g (ds.map .sh ++ List.replicate (N.length - ps.length) .no) with
  | st => exact id
  | ex c => exact id
  | ok r =>
    simp only [bd_ok]
    cases r with
    | nx ρ => exact fun p => p.elim
    | rt d => exact fun p a G' H' x h g w => p a G' H' x h g w
    | bk ρ => exact fun p => p.elim
    | ct ρ => exact fun p => p.elim
theorem fnD_ok {x qual : Str} {pa : Arguments} {bd : List Stmt} {sc : Scope} {dvs : List V} {kws : List (Str × V)} {f : Addr} {fd : FuncData} {N ps : List Str} {k : Nat} {g : En → Oc Res} (F : FunD K x qual pa bd sc dvs kws f fd) (S : FnScope N ps sc)
    (hb : ∀ (cdv : Value) (A : Around) (outer : List Env) (s : Shared) (H : Hp) (E : XK), fd.code = cdv → Room k (A.deeper (envOfC qual sc s.heap.objs.size f cdv)) → Ctx (cxOf (L2.CX P w) P w K mg base N qual sc f cdv A outer s H E) (up E) →
      SSs (cxOf (L2.CX P w) P w K mg base N qual sc f cdv A outer s H E) E false bd g) : FnOk P w K mg base (L2.CX P w) (k + 1) f fd ps (spF K mg ps.length (fnB N.length ps.length g)) := by
  obtain ⟨oc, od, dV, kV, doc, pm, an, cdv, ct, osl, rfl, lk, hcd, _, _⟩ := F.ex
  refine fn_of lk hcd S (fun vs H Q E h => h.1) fun A outer s H vs Q E hr h => ?_
  obtain ⟨hl, G, ds, sG, tb, r, p⟩ := h
  refine ⟨_, hb cdv A outer s H E rfl hr (ctx_def S hr), ?_⟩
  exact fn_start S sG tb r p
theorem fnF_ok {x qual : Str} {pa : Arguments} {bd : List Stmt} {sc : Scope} {dvs : List V} {kws : List (Str × V)} {f : Addr} {fd : FuncData} {N ps : List Str} {k : Nat} {g : En → Oc Res} (F : FunD K x qual pa bd sc dvs kws f fd) (S : FnScope N ps sc)
    (hb : ∀ (cdv : Value) (A : Around) (outer : List Env) (s : Shared) (H : Hp) (E : XK), fd.code = cdv → Room k (A.deeper (envOfC qual sc s.heap.objs.size f cdv)) → Ctx (cxOf (L2.CX P w) P w K mg base N qual sc f cdv A outer s H E) (up E) →
      SSs (cxOf (L2.CX P w) P w K mg base N qual sc f cdv A outer s H E) E true bd g) : FnOk P w K mg base (L2.CX P w) (k + 1) f fd ps (spFF K mg ps.length (fnF N.length ps.length g)) := by
  obtain ⟨oc, od, dV, kV, doc, pm, an, cdv, ct, osl, rfl, lk, hcd, _, _⟩ := F.ex
  refine fn_of lk hcd S (fun vs H Q E h => h.1) fun A outer s H vs Q E hr h => ?_
  obtain ⟨hl, G, ds, sG, tb, r, p⟩ := h
  refine ⟨_, hb cdv A outer s H E rfl hr (ctx_def S hr), ?_⟩
  exact fnF_start S sG tb r p
theorem init_start {c : Str} {N ps : List Str} {sc : Scope} {m : Nat} {g : En → Oc Res} {vs : List V} {H : Hp} {Q : VK} {E : XK} (S : FnScope N ps sc) (hps : ps.length = m + 1) (h : spI K mg c m (fnI c (N.length - 1) m g) vs H Q E) :
    tS K mg E false g { nx := fun _ H' => Q .non H', rt := Q } (L2.start N vs) H := by
  obtain ⟨hl, G, ds, x, dx, C, vs', rfl, mc, hx, hdx, ne, gx, sG, tb, r, p⟩ := h
  have hN : m + 1 ≤ N.length := by
    have := congrArg List.length S.pre
    rw [List.length_take] at this
    omega
  unfold fnI at p
  cases hc : decide (ds.length = m) with
  | false => rw [hc] at p; exact p.elim
  | true =>
    rw [hc] at p
    simp only [chk_true] at p
    have hd := of_decide_eq_true hc
    have R0 := rel_start (N := N.drop 1) sG tb r
    rw [List.length_drop, hd] at R0
    have key : ∀ (i : Nat) (d : D), (ds.map Sl.sh ++ List.replicate (N.length - 1 - m) Sl.no)[i]? ≠ some (.ow d) := fun i d h1 => by
      by_cases hi : i < ds.length
      · rw [List.getElem?_append_left (by simpa using hi), List.getElem?_map, List.getElem?_eq_getElem hi] at h1
        cases h1
      · rw [List.getElem?_append_right (by simpa using hi), List.getElem?_replicate] at h1
        split at h1 <;> cases h1
    have hst : L2.start N (.ref x :: vs') = some (.ref x) :: L2.start (N.drop 1) vs' := by
      unfold L2.start
      have e1 : N.length - (vs'.length + 1) = (N.length - 1) - vs'.length := by omega
      simp [e1]
    have R : Rel K mg G H (.ow (.obj c []) :: (ds.map .sh ++ List.replicate (N.length - 1 - m) .no)) (L2.start N (.ref x :: vs')) := by
      rw [hst]
      exact R0.cons_own gx ⟨C, dx, [], mc, hx, .nil⟩ key
    refine ⟨G, _, x, G, rmv H x, ⟨R, ⟨.of fun b o e => (rmv_some e).2, .refl _, sG, fun _ _ _ g => g⟩, fun i a d h1 h2 => ?_, fun i c fs h1 => ?_⟩, ?_⟩
    · cases i with
      | zero =>
        rw [hst] at h2
        simp at h2
        subst h2
        unfold rmv
        rw [if_pos rfl]
      | succ i => exact absurd (by simpa using h1) (key i d)
    · cases i with
      | zero => rw [hst]; rfl
      | succ i => exact absurd (by simpa using h1) (key i _)
    · revert p
      unfold outI
      cases g (.ow (.obj c []) :: (ds.map .sh ++ List.replicate (N.length - 1 - m) .no)) with
      | st => exact id
      | ex c => exact fun p C' G' H' y mm => p C' G' H' y.hh y.gg y.gh (fun b o e hb g => y.nc b o (by rw [rmv_ne hb]; exact e) g) mm
      | ok r =>
        simp only [bd_ok]
        cases r with
        | nx ρ =>
          intro p σ G' H' B
          simp only at p
          cases hs : self0 ρ with
          | st => rw [hs] at p; exact p.elim
          | ex c => exact (self0_ex hs).elim
          | ok d =>
            rw [hs] at p
            obtain ⟨c2, fs, rfl, hq⟩ := self0_ok hs
            obtain ⟨o, ho, a, rfl, ga, ow⟩ := B.rel.get hq
            have e1 := B.self 0 c2 fs hq
            rw [ho] at e1
            cases e1
            exact p G' H' B.ext.hh B.ext.gg B.ext.gh (fun b o e hb g => B.ext.nc b o (by rw [rmv_ne hb]; exact e) g) ga ow
        | rt d => exact fun p => p.elim
        | bk ρ => exact fun p => p.elim
        | ct ρ => exact fun p => p.elim
theorem initD_ok {x qual c : Str} {pa : Arguments} {bd : List Stmt} {sc : Scope} {dvs : List V} {kws : List (Str × V)} {f : Addr} {fd : FuncData} {N ps : List Str} {k m : Nat} {g : En → Oc Res} (F : FunD K x qual pa bd sc dvs kws f fd) (S : FnScope N ps sc) (hps : ps.length = m + 1)
    (hb : ∀ (cdv : Value) (A : Around) (outer : List Env) (s : Shared) (H : Hp) (E : XK), fd.code = cdv → Room k (A.deeper (envOfC qual sc s.heap.objs.size f cdv)) → Ctx (cxOf (L2.CX P w) P w K mg base N qual sc f cdv A outer s H E) (up E) →
      SSs (cxOf (L2.CX P w) P w K mg base N qual sc f cdv A outer s H E) E false bd g) : FnOk P w K mg base (L2.CX P w) (k + 1) f fd ps (spI K mg c m (fnI c (N.length - 1) m g)) := by
  obtain ⟨oc, od, dV, kV, doc, pm, an, cdv, ct, osl, rfl, lk, hcd, _, _⟩ := F.ex
  refine fn_of lk hcd S (fun vs H Q E h => h.1.trans hps.symm) fun A outer s H vs Q E hr h => ?_
  exact ⟨_, hb cdv A outer s H E rfl hr (ctx_def S hr), init_start S hps h⟩
end
end Fx
namespace Fx
open PySem PySem.Spec PyProof.Rows L2
section
variable {X : Cx} {W : WX} {a b c e : Expr} {f g h : En → Oc D} {pos : Pos}
def chn (f g h : En → Oc D) : En → Oc D := fun ρ => bd (f ρ) fun x => bd (g ρ) fun y => bd (cmpD (fun i j => decide (i ≤ j)) x y) fun z => match z with
  | .bl true => bd (h ρ) fun w => cmpD (fun i j => decide (i ≤ j)) y w
  | .bl false => .ok (.bl false)
  | _ => .st
theorem cmpD_ok {q : Int → Int → Bool} {x y z : D} (h : cmpD q x y = .ok z) : ∃ i j, x = .int i ∧ y = .int j ∧ z = .bl (q i j) := by
  unfold cmpD at h
  split at h
  · cases h; exact ⟨_, _, rfl, rfl, rfl⟩
  · cases h
theorem cmpD_ex {q : Int → Int → Bool} {x y : D} {c : Str} (h : cmpD q x y = .ex c) : False := by
  unfold cmpD at h
  split at h <;> cases h
theorem se_chain (ha : SQ X W a f) (hb : SQ X W b g) (hc : SQ X W c h) (hm : lastMarks [.LtE, .LtE] [b, c] = false := by with_unfolding_all rfl) : SE X W (.Compare a [.LtE, .LtE] [b, c] pos) (chn f g h) :=
  PE.weak (pe_chain op_le op_le ha hb hc hm) fun σ H Q ⟨G, ρ, R, p⟩ => by
  refine ⟨G, ρ, R, ?_⟩
  revert p
  unfold chn
  cases f ρ with
  | st => exact id
  | ex c => exact id
  | ok d1 =>
    intro p x G1 H1 x1 r1
    refine ⟨G1, ρ, R.ext x1, ?_⟩
    revert p
    simp only [bd_ok]
    cases g ρ with
    | st => exact id
    | ex c => exact fun p C G' H' e m => p C G' H' (x1.trans e) m
    | ok d2 =>
      intro p y G2 H2 x2 r2
      simp only [bd_ok] at p
      cases hz : cmpD (fun i j => decide (i ≤ j)) d1 d2 with
      | st => rw [hz] at p; exact p.elim
      | ex c => exact (cmpD_ex hz).elim
      | ok z =>
        rw [hz] at p
        obtain ⟨i, j, rfl, rfl, rfl⟩ := cmpD_ok hz
        refine ⟨i, j, RepQ.int (RepQ.ext x2 r1), RepQ.int (K := X.K) (mg := X.mg) r2, _, rfl, ?_⟩
        simp only [bd_ok] at p
        cases hd : decide (i ≤ j) with
        | false =>
          rw [hd] at p
          simp only [Bool.false_eq_true, if_false]
          exact p _ G2 H2 (x1.trans x2) (.bl _)
        | true =>
          rw [hd] at p
          simp only [if_true]
          refine ⟨G2, ρ, (R.ext x1).ext x2, ?_⟩
          revert p
          simp only
          cases h ρ with
          | st => exact id
          | ex c => exact fun p C G' H' e m => p C G' H' ((x1.trans x2).trans e) m
          | ok d3 =>
            intro p w' G3 H3 x3 r3
            simp only [bd_ok] at p
            cases hw : cmpD (fun i j => decide (i ≤ j)) (.int j) d3 with
            | st => rw [hw] at p; exact p.elim
            | ex c => exact (cmpD_ex hw).elim
            | ok z2 =>
              rw [hw] at p
              obtain ⟨j2, k, e1, rfl, rfl⟩ := cmpD_ok hw
              cases e1
              exact ⟨j, k, RepQ.int (RepQ.ext x3 r2), RepQ.int (K := X.K) (mg := X.mg) r3, p _ G3 H3 ((x1.trans x2).trans x3) (.bl _)⟩
end
end Fx

set_option Elab.async false
set_option linter.all false
set_option maxRecDepth 100000
set_option maxHeartbeats 4000000
/-! Fx12: max, min; the end of a law. -/
namespace Fx
open PySem PySem.Spec PyProof.Rows L2
section
variable {X : Cx} {W : WX} {a b c e : Expr} {es : List Expr} {fs : En → Oc (List D)} {pos p : Pos}
theorem se_max2 (hc : X.calm = true) (hg : Gl X "max") (hm : X.mg "max" = none) (ha : SA X W (e :: es) fs)
    (he : starEach (e :: es) X.env = (false, eval e X.env) :: starEach es X.env := by rfl) (hpl : (backTo pos (starEach es X.env)).any (·.1) = false := by rfl) : SE X W (.Call (.Name "max" p) (e :: es) [] pos) (unA maxM fs) :=
  se_callB (call_max2 hc) hg hm (by decide +kernel) (fun {U G H vs ds Q} s r q => by
    unfold maxM at q
    split at q
    · cases r with
      | cons r1 r => cases r with
        | cons r2 r => cases r; cases r1; cases r2; exact ⟨_, _, rfl, q.here s (.int _)⟩
    · exact q.elim) ha (by decide) (by decide) he hpl
theorem se_min2 (hc : X.calm = true) (hg : Gl X "min") (hm : X.mg "min" = none) (ha : SA X W (e :: es) fs)
    (he : starEach (e :: es) X.env = (false, eval e X.env) :: starEach es X.env := by rfl) (hpl : (backTo pos (starEach es X.env)).any (·.1) = false := by rfl) : SE X W (.Call (.Name "min" p) (e :: es) [] pos) (unA minM fs) :=
  se_callB (call_min2 hc) hg hm (by decide +kernel) (fun {U G H vs ds Q} s r q => by
    unfold minM at q
    split at q
    · cases r with
      | cons r1 r => cases r with
        | cons r2 r => cases r; cases r1; cases r2; exact ⟨_, _, rfl, q.here s (.int _)⟩
    · exact q.elim) ha (by decide) (by decide) he hpl
end
section
variable {X : Cx} {W : WX} {x : Str} {p : Pos}
theorem se_cS {z : Str} (hg : Gl X x) (h : ∃ t, X.mg x = some (.str z t)) (hdb : (x == ("__debug__" : Str)) = false := by decide) : SE X W (.Name x p) (cst (.str z)) := by
  obtain ⟨t, h⟩ := h
  exact se_cst (pe_glob (v := .str z) hg h ⟨t, rfl⟩ (hd := hdb)) fun _ => .str _
theorem se_cI {i : Int} (hg : Gl X x) (h : ∃ t, X.mg x = some (.int i t)) (hdb : (x == ("__debug__" : Str)) = false := by decide) : SE X W (.Name x p) (cst (.int i)) := by
  obtain ⟨t, h⟩ := h
  exact se_cst (pe_glob (v := .int i) hg h ⟨t, rfl⟩ (hd := hdb)) fun _ => .int _
end
/-! ### the end -/
def tabAll (tf : List He.Defn) (K : PySem.W.Frag) : Bool := K.all fun q => match q.2.data with
  | .fields vs => (match (vs[11]? : Option Value) with
    | some (.ref P) => (K.lookup P).isSome || (tf.map (He.cT K)).contains (q.1, P)
    | _ => true)
  | _ => true
theorem tabAll_ok {tf : List He.Defn} {K : PySem.W.Frag} (h : tabAll tf K = true) {c P : Addr} (h1 : PySem.W.codeHdIn K c P = true) (h2 : K.lookup P = none) : (c, P) ∈ tf.map (He.cT K) := by
  unfold PySem.W.codeHdIn at h1
  split at h1
  · rename_i vs _ hk
    simp only [Bool.and_eq_true] at h1
    obtain ⟨⟨⟨⟨⟨e1, _⟩, _⟩, _⟩, _⟩, _⟩ := h1
    split at e1
    · rename_i P' hP
      obtain rfl : P' = P := beq_iff_eq.mp e1
      have z := List.all_eq_true.mp h _ (He.lookup_mem hk)
      simp only [hP, h2, Option.isSome_none, Bool.false_or] at z
      exact List.contains_iff_mem.mp z
    · cases e1
  · cases h1
def spLawT (K : PySem.W.Frag) : Sp := fun vs H Q _ => ∃ (a : Addr) (ns : List Int), vs = [.ref a] ∧ SqL K H a (ns.map V.int) ∧ ns.length ≤ 63 ∧ (∀ P, IsTab K P → H P = some (.tbl #[])) ∧ ∀ H', Q (.bl true) H'
theorem repL_intsT {K : PySem.W.Frag} {mg : Str → Option Value} {G : Hp} : ∀ ns : List Int, RepL K mg G (ns.map V.int) (ns.map D.int)
  | [] => .nil
  | n :: ns => .cons (.int n) (repL_intsT ns)
theorem law_impT {K : PySem.W.Frag} {mg : Str → Option Value} {F : List D → Oc D} (hF : ∀ ns : List Int, ns.length ≤ 63 → F [.fz (ns.map .int)] = .ok (.bl true)) (vs : List V) (H : Hp) (Q : VK) (E : XK) (h : spLawT K vs H Q E) : spF K mg 1 F vs H Q E := by
  obtain ⟨a, ns, rfl, hS, hl, ht, q⟩ := h
  let G : Hp := fun b => match H b with
    | some (.tbl _) => none
    | o => o
  have sG : Same G H := fun b o e => by
    have e : (match H b with | some (.tbl _) => none | o => o) = some o := e
    split at e
    · cases e
    · exact e
  have tG : Tabs K G H := fun P hP => by
    have e := ht P hP
    refine ⟨⟨#[], e, True.intro⟩, ?_⟩
    show (match H P with | some (.tbl _) => none | o => o) = none
    rw [e]
  have hSG : SqL K G a (ns.map V.int) := by
    rcases hS with (h | ⟨o, h⟩) | h
    · refine .inl (.inl ?_)
      show (match H a with | some (.tbl _) => none | o => o) = _
      rw [h]
    · refine .inl (.inr ⟨o, ?_⟩)
      show (match H a with | some (.tbl _) => none | o => o) = _
      rw [h]
    · exact .inr h
  refine ⟨rfl, G, [.fz (ns.map .int)], sG, tG, .cons (.fz hSG (repL_intsT ns)) .nil, ?_⟩
  rw [hF ns hl]
  intro v G' H' x r
  cases r
  exact q H'
theorem code_of {K : PySem.W.Frag} {x qual : Str} {pa : Arguments} {bd : List Stmt} {sc : Scope} {dvs : List V} {kws : List (Str × V)} {p : He.Defn} {fd : FuncData} (F : FunD K x qual pa bd sc dvs kws (He.fAd K p) fd) : fd.code = .ref (He.codeOf K p) := by
  obtain ⟨oc, od, dV, kV, doc, pm, an, cdv, ct, osl, rfl, lk, hcd, _, _⟩ := F.ex
  obtain ⟨c, rfl⟩ := He.codeIn_ref hcd
  rw [He.codeOf_eq lk rfl]
theorem law_atT {l : PySem.W.OpenLaw} {w : World} {K : PySem.W.Frag} {mg : Str → Option Value} {fa : Addr} {h : Heap} {fas : List He.Fa} {fns : List He.DefD} {tf : List He.Defn} {k : Nat} {x : Str} {fd : FuncData} {F : List D → Oc D} (KX : K.In h) (c : He.SaysX fas fns [] tf (tabAll tf) w h K)
    (hb : ∀ (s : Shared) (u : Value), BindsTo s fd ⟨[u], []⟩ [(x, u)]) (hF : ∀ ns : List Int, ns.length ≤ 63 → F [.fz (ns.map .int)] = .ok (.bl true))
    (ok : ∀ base : Heap, K.In base → base.Ns mainGlobals mg → Tbs K mg base → FnOk l.prog w K mg base (L2.CX l.prog w) k fa fd [x] (spF K mg 1 F)) : LamX.LawAtS l w K (L2.CX l.prog w) k 63 x mg fa h := by
  have mem : ∀ {q : Addr × Addr}, q ∈ tf.map (He.cT K) → ∃ p ∈ tf, He.cT K p = q := fun {q} hq => List.mem_map.mp hq
  refine ⟨fd, tf.map (He.cT K), spLawT K, fun q hq => ?_, fun q hq => ?_, fun q hq => ?_, hb, fun H a ns hl _ hT hS => ⟨a, ns, rfl, hS, hl, fun P hP => ?_, fun _ => rfl⟩, fun base KB NB TB => ?_⟩
  · obtain ⟨p, hp, rfl⟩ := mem hq; exact c.empty p hp
  · obtain ⟨p, hp, rfl⟩ := mem hq; exact c.out p hp
  · obtain ⟨p, hp, rfl⟩ := mem hq; exact PySem.W.codeHd_of_K KX (c.hd p hp)
  · obtain ⟨h2, cc, h1⟩ := hP
    exact hT _ (tabAll_ok c.more h1 h2)
  · exact (ok base KB NB fun cc P h1 h2 => (let t := TB _ (tabAll_ok c.more h1 h2); ⟨t.code, t.bm, t.gP⟩)).imp fun vs H Q E h => law_impT hF vs H Q E h
end Fx

set_option Elab.async false
set_option linter.all false
set_option maxRecDepth 100000
set_option maxHeartbeats 4000000
/-! Fx13: evaluation of the later combinators. -/
namespace Fx
open PySem PySem.Spec PyProof.Rows L2
@[simp] theorem outF_rt (d : D) : outF (.ok (.rt d)) = .ok d := id rfl
@[simp] theorem outF_ex (c : Str) : outF (.ex c) = .ex c := id rfl
@[simp] theorem fnF_ap (n m : Nat) (g : En → Oc Res) (ds : List D) : fnF n m g ds = chk (decide (ds.length = m)) (outF (g (ds.map .sh ++ List.replicate (n - m) .no))) := id rfl
def retOR : Option Sl → Oc Res
  | some (.ow d) => .ok (.rt d)
  | _ => .st
@[simp] theorem retO_ap (i : Nat) (ρ : En) : retO i ρ = retOR ρ[i]? := by
  unfold retO retOR
  split <;> first | rfl | (split <;> simp_all)
@[simp] theorem retOR_ow (d : D) : retOR (some (.ow d)) = .ok (.rt d) := id rfl
@[simp] theorem unA_ap (F : List D → Oc D) (fs : En → Oc (List D)) (ρ : En) : unA F fs ρ = bd (fs ρ) F := id rfl
@[simp] theorem maxM_ints (i j : Int) : maxM [.int i, .int j] = .ok (.int (if j > i then j else i)) := id rfl
@[simp] theorem minM_ints (i j : Int) : minM [.int i, .int j] = .ok (.int (if j < i then j else i)) := id rfl
@[simp] theorem rsx_ap (c : Str) (ρ : En) : rsx c ρ = .ex c := id rfl
@[simp] theorem ga_ap (T : Tg) (own : List Nat) (neg : Bool) (src : En → Oc (List D)) (el : En → Oc D) (ρ : En) : ga T own neg src el ρ = bd (src ρ) fun ds => gaL T own neg el ρ ds := id rfl
def chnR (h : En → Oc D) (ρ : En) (y : D) : Oc D → Oc D
  | .ok (.bl true) => bd (h ρ) fun w => cmpD (fun i j => decide (i ≤ j)) y w
  | .ok (.bl false) => .ok (.bl false)
  | .ex c => .ex c
  | _ => .st
theorem chn_ints {f g h : En → Oc D} {ρ : En} {i j k : Int} (h1 : f ρ = .ok (.int i)) (h2 : g ρ = .ok (.int j)) (h3 : h ρ = .ok (.int k)) : chn f g h ρ = .ok (.bl (decide (i ≤ j) && decide (j ≤ k))) := by
  unfold chn
  simp only [h1, h2, h3, bd_ok, cmpD_int]
  cases decide (i ≤ j) <;> rfl
theorem gaL_all {T : Tg} {own : List Nat} {el : En → Oc D} {ρ : En} {α : Type} {f : α → D} {p : α → Bool} : ∀ {xs : List α}, (∀ x ∈ xs, ∃ ρ1, bindT T (f x) (wipeE ρ own) = .ok ρ1 ∧ el ρ1 = .ok (.bl (p x))) → gaL T own false el ρ (xs.map f) = .ok (.bl (xs.all p))
  | [], _ => rfl
  | x :: xs, h => by
    obtain ⟨ρ1, h1, h2⟩ := h x List.mem_cons_self
    rw [List.map_cons]
    unfold gaL
    rw [h1, noex_ok, bd_ok, h2, noex_ok, bd_ok]
    simp only [List.all_cons]
    cases p x with
    | false => rfl
    | true => exact gaL_all fun y hy => h y (List.mem_cons_of_mem _ hy)
theorem gaL_any {T : Tg} {own : List Nat} {el : En → Oc D} {ρ : En} {α : Type} {f : α → D} {p : α → Bool} : ∀ {xs : List α}, (∀ x ∈ xs, ∃ ρ1, bindT T (f x) (wipeE ρ own) = .ok ρ1 ∧ el ρ1 = .ok (.bl (p x))) → gaL T own true el ρ (xs.map f) = .ok (.bl (xs.any p))
  | [], _ => rfl
  | x :: xs, h => by
    obtain ⟨ρ1, h1, h2⟩ := h x List.mem_cons_self
    rw [List.map_cons]
    unfold gaL
    rw [h1, noex_ok, bd_ok, h2, noex_ok, bd_ok]
    simp only [List.any_cons]
    cases p x with
    | true => rfl
    | false => exact gaL_any fun y hy => h y (List.mem_cons_of_mem _ hy)
def exsAR (g : En → Oc D) (ρ : En) : Oc D → Oc Res
  | .ok (.lst ds) => bd (g ρ) fun _ => chk (decide (ds.length < sizeLine)) (.ok (.nx ρ))
  | .ex c => .ex c
  | _ => .st
@[simp] theorem exsA_ap (f g : En → Oc D) (ρ : En) : exsA f g ρ = exsAR g ρ (f ρ) := by
  unfold exsA exsAR
  cases f ρ with
  | st => rfl
  | ex c => rfl
  | ok d => cases d <;> rfl
@[simp] theorem exsAR_lst (g : En → Oc D) (ρ : En) (ds : List D) : exsAR g ρ (.ok (.lst ds)) = bd (g ρ) fun _ => chk (decide (ds.length < sizeLine)) (.ok (.nx ρ)) := id rfl
@[simp] theorem countM_strs (k : Str) (ys : List Str) : countM (.lst (ys.map .str)) [.str k] = .ok (.int (countIn (.str k) (ys.map PyData.str))) := by
  have e : strsD (ys.map D.str) = some ys := by
    induction ys with
    | nil => rfl
    | cons y ys ih => simp [strsD, ih]
  unfold countM
  simp only [e]
end Fx

set_option Elab.async false
set_option linter.all false
set_option maxRecDepth 100000
set_option maxHeartbeats 4000000
/-! Fx14: try .. except. -/
namespace Fx
open PySem PySem.Spec PyProof.Rows L2
variable {K : PySem.W.Frag} {mg : Str → Option Value}
def ExmK (K : PySem.W.Frag) (mg : Str → Option Value) (nm c : Str) (b : Bool) : Prop := ∀ C C', mg c = some (.ref C) → mg nm = some (.ref C') → PySem.W.exmOne K (.ref C) (.ref C') = some b
def tryO (cs ns : List Str) (f : En → Oc D) (gs : En → Oc Res) : En → Oc Res := fun ρ => match f ρ with
  | .st => .st
  | .ok _ => .ok (.nx ρ)
  | .ex c => if c ∈ cs then (match gs ρ with | .ex _ => .st | o => o) else if c ∈ ns then .ex c else .st
section
variable {X : Cx} {U : XK} {fre : Bool} {e : Expr} {suite : List Stmt} {b₀ : Stmt} {f : En → Oc D} {gs : En → Oc Res} {pos pos2 np pos' : Pos} {nm : Str} {cs ns : List Str} {C : Addr}
theorem ss_tryO (Cx : Ctx X (up U)) (hs : X.stack = X.env :: X.outer) (hf : X.env.frame = some X.env.locals) (hC : X.mg nm = some (.ref C)) (hg : Gl X nm) (hdb : (nm == ("__debug__" : Str)) = false)
    (h1 : ∀ c ∈ cs, ExmK X.K X.mg nm c true) (h2 : ∀ c ∈ ns, ExmK X.K X.mg nm c false)
    (hb : ∀ (W : WX) (pn : List (Addr × Obj)) (xe : Value → Shared → Prop), Ctx (X.tr pn xe) W → SE (X.tr pn xe) W e f)
    (hsw : swapsWith e none pos2.line X.env = pure false)
    (hsu : ∀ (a : Addr) (pn : List (Addr × Obj)), SSs (X.suite a pn) (fun _ _ _ => False) fre (b₀ :: suite) gs) :
    SS X U fre (.Try [.Expr e pos2] [.ExceptHandler (some (.Name nm np)) none (b₀ :: suite) pos'] [] [] pos) (tryO cs ns f gs) :=
  PS.weak (ps_try_only (tb := fun W => tDrop (tE X.K X.mg W f)) (ts := fun _ _ _ => tS X.K X.mg (fun _ _ _ => False) fre gs) hs hf ⟨hg, hdb, .inl hC⟩ Cx.tk (fun W pn xe tk _ => pss_one (ps_expr (hb W pn xe ⟨Cx.calm, Cx.nd, tk, Cx.units⟩) hsw)) (fun a oe _ _ pn _ _ => hsu a _)) fun D σ H ⟨G, ρ, me, G0, H0, B, p⟩ => by
  refine ⟨G, ρ, B.rel, ?_⟩
  revert p
  unfold tryO
  cases f ρ with
  | st => exact id
  | ok d => exact fun p v G' H' x r => p σ G' H' (B.step x)
  | ex c =>
    simp only
    intro p C1 G' H' x m
    split at p
    · rename_i hc
      refine ⟨true, h1 c hc _ _ m hC, fun _ a ha => ⟨G', ρ, me, G0, H0, B.step x, ?_⟩, fun z => by cases z⟩
      revert p
      cases gs ρ with
      | st => exact id
      | ex c => exact fun p => p.elim
      | ok r => cases r <;> exact id
    · split at p
      · rename_i hn
        exact ⟨false, h2 c hn _ _ m hC, (fun z => by cases z), fun _ => p C1 G' H' (B.ext.trans x) m⟩
      · exact p.elim
end
end Fx

set_option Elab.async false
set_option linter.all false
set_option maxRecDepth 100000
set_option maxHeartbeats 4000000
/-! Fx15: x = e under try, except C as n. -/
namespace Fx
open PySem PySem.Spec PyProof.Rows L2
variable {K : PySem.W.Frag} {mg : Str → Option Value} {me : Addr}
theorem Rel.setE {G H : Hp} {ρ : En} {σ : L2.St} (R : Rel K mg G H ρ σ) (i : Nat) (q : Addr) : Rel K mg G H (ρ.set i (.exn q)) (σ.set i (some (.ref q))) := by
  refine ⟨R.sub, R.tabs, by simp [R.len], fun j s o h1 h2 => ?_, fun j k a d' e' h1 h2 h3 h4 => ?_⟩
  · by_cases hj : i = j
    · subst hj
      have hi : i < (ρ.set i (.exn q)).length := (List.getElem?_eq_some_iff.mp h1).1
      have hr : i < ρ.length := by simpa using hi
      rw [List.getElem?_set_self hr] at h1
      rw [List.getElem?_set_self (by rw [R.len]; exact hr)] at h2
      cases h1; cases h2
      exact rfl
    · rw [List.getElem?_set_ne hj] at h1 h2
      exact R.at_ j s o h1 h2
  · have nj : ∀ {m : Nat} {y : D}, (ρ.set i (.exn q))[m]? = some (.ow y) → i ≠ m := fun {m y} h e => by
      subst e
      have hi : i < (ρ.set i (.exn q)).length := (List.getElem?_eq_some_iff.mp h).1
      rw [List.getElem?_set_self (by simpa using hi)] at h
      cases h
    have n1 := nj h1
    have n2 := nj h2
    rw [List.getElem?_set_ne n1] at h1 h3
    rw [List.getElem?_set_ne n2] at h2 h4
    exact R.apart j k a d' e' h1 h2 h3 h4
theorem Bs.setE {G0 H0 G H : Hp} {ρ : En} {σ : L2.St} (B : Bs K mg me G0 H0 G H ρ σ) (i : Nat) (q : Addr) : Bs K mg me G0 H0 G H (ρ.set i (.exn q)) (σ.set i (some (.ref q))) := by
  have key : ∀ {j : Nat} {e : D}, (ρ.set i (.exn q))[j]? = some (.ow e) → i ≠ j ∧ ρ[j]? = some (.ow e) := fun {j e} h1 => by
    by_cases hj : i = j
    · subst hj
      have hi : i < (ρ.set i (.exn q)).length := (List.getElem?_eq_some_iff.mp h1).1
      rw [List.getElem?_set_self (by simpa using hi)] at h1
      cases h1
    · rw [List.getElem?_set_ne hj] at h1
      exact ⟨hj, h1⟩
  refine ⟨B.rel.setE i q, B.ext, fun j a d' h1 h2 => ?_, fun j c ds h1 => ?_⟩
  · obtain ⟨k1, k2⟩ := key h1
    rw [List.getElem?_set_ne k1] at h2
    exact B.own j a d' k2 h2
  · obtain ⟨k1, k2⟩ := key h1
    rw [List.getElem?_set_ne k1]
    exact B.self j c ds k2
open Classical in
noncomputable def tryA (i j : Nat) (cs ns : List Str) (f : En → Oc D) (gs : Addr → En → Oc Res) : En → Oc Res := fun ρ => match f ρ with
  | .st => .st
  | .ok d => .ok (.nx (ρ.set i (.sh d)))
  | .ex c => if c ∈ cs then (if h : ∃ d, ∀ a, gs a (ρ.set j (.exn a)) = .ok (.rt d) then .ok (.rt h.choose) else .st) else if c ∈ ns then .ex c else .st
section
variable {X : Cx} {U : XK} {fre : Bool} {e : Expr} {suite : List Stmt} {b₀ : Stmt} {f : En → Oc D} {gs : Addr → En → Oc Res} {pos pos2 np pos' py : Pos} {nm x n : Str} {cs ns : List Str} {C : Addr} {i j : Nat}
theorem ss_tryA (Cx : Ctx X (up U)) (hs : X.stack = X.env :: X.outer) (hf : X.env.frame = some X.env.locals) (hC : X.mg nm = some (.ref C)) (hg : Gl X nm) (hdb : (nm == ("__debug__" : Str)) = false)
    (hi : X.N[i]? = some x) (hx : Loc X.env.scope x) (hxf : X.fn x = true ∨ X.env.scope.names.lookup x = some .local) (hj : X.N[j]? = some n) (hln : X.env.kindOf n = some .local)
    (h1 : ∀ c ∈ cs, ExmK X.K X.mg nm c true) (h2 : ∀ c ∈ ns, ExmK X.K X.mg nm c false)
    (hb : ∀ (W : WX) (pn : List (Addr × Obj)) (xe : Value → Shared → Prop), Ctx (X.tr pn xe) W → SE (X.tr pn xe) W e f)
    (hsw : swapsWith e (some (.Name x py)) pos2.line X.env = pure false)
    (hsu : ∀ (a : Addr) (oe : Obj) (c : Str) (C1 : Addr) (pn : List (Addr × Obj)), c ∈ cs → X.mg c = some (.ref C1) → Zc (.ref C1) none oe → (∃ vs, oe.data = .fields vs) → SSs (X.suite a ((a, oe) :: pn)) (fun _ _ _ => False) fre (b₀ :: suite) (gs a)) :
    SS X U fre (.Try [.Assign [.Name x py] e pos2] [.ExceptHandler (some (.Name nm np)) (some n) (b₀ :: suite) pos'] [] [] pos) (tryA i j cs ns f gs) :=
  PS.weak (ps_try_as (tb := fun W => tAsg (tE X.K X.mg W f) (gName i)) (ts := fun a cls d D σ H => (∃ c C1, c ∈ cs ∧ X.mg c = some (.ref C1) ∧ cls = .ref C1 ∧ d = none) ∧ tS X.K X.mg (fun _ _ _ => False) fre (gs a) D σ H) hs hf Cx.nd hj hln ⟨hg, hdb, .inl hC⟩ Cx.tk
    (fun W pn xe tk _ => pss_one (ps_set (X := X.tr pn xe) Cx.nd hi hx (hb W pn xe ⟨Cx.calm, Cx.nd, tk, Cx.units⟩) hsw hxf)) (fun a oe cls d pn hz hv => ⟨fun pins s σ H D I h => by
      obtain ⟨⟨c, C1, h1, h2, h3, h4⟩, h5⟩ := h
      subst h3 h4
      exact (hsu a oe c C1 pn h1 h2 hz hv).run pins s σ H D I h5⟩)) fun D σ H ⟨G, ρ, me, G0, H0, B, p⟩ => by
  refine ⟨G, ρ, B.rel, ?_⟩
  revert p
  unfold tryA
  cases f ρ with
  | st => exact id
  | ok d => exact fun p v G' H' x r => p _ G' H' ((B.step x).set i r)
  | ex c =>
    simp only
    intro p C1 G' H' x m
    split at p
    · rename_i hc
      split at p
      · rename_i hd
        refine ⟨true, h1 c hc _ _ m hC, fun _ a ha => ⟨⟨c, C1, hc, m, rfl, rfl⟩, G', _, me, G0, H0, (B.step x).setE j a, ?_⟩, fun z => by cases z⟩
        rw [hd.choose_spec a]
        cases fre <;> exact p
      · exact p.elim
    · split at p
      · rename_i hn
        exact ⟨false, h2 c hn _ _ m hC, (fun z => by cases z), fun _ => p C1 G' H' (B.ext.trans x) m⟩
      · exact p.elim
end
end Fx

set_option Elab.async false
set_option linter.all false
set_option maxRecDepth 100000
set_option maxHeartbeats 4000000
/-! Fx16: list(range(n)). -/
namespace Fx
open PySem PySem.Spec PyProof.Rows L2
variable {K : PySem.W.Frag} {mg : Str → Option Value}
def rgD (n : Int) : List D := (List.range n.toNat).map fun i => .int (i : Nat)
def lrg (f : En → Oc D) : En → Oc D := fun ρ => bd (f ρ) fun d => match d with
  | .int n => chk (decide (-1000 ≤ n ∧ n ≤ 16777216)) (.ok (.lst (rgD n)))
  | _ => .st
theorem repl_rg {G : Hp} (n : Int) : RepL K mg G (rgV 0 n) (rgD n) := by
  have key : ∀ l : List Nat, RepL K mg G (l.map fun i => V.int (0 + (i : Nat))) (l.map fun i => D.int (i : Nat)) := fun l => by
    induction l with
    | nil => exact .nil
    | cons i l ih => exact .cons (by show Rep K mg G (.int (0 + (i : Int))) (.int (i : Int)); rw [Int.zero_add]; exact .int _) ih
  unfold rgV rgD
  rw [Int.sub_zero]
  exact key _
section
variable {X : Cx} {W : WX} {e : Expr} {f : En → Oc D} {p p2 pos pos2 : Pos}
theorem sf_listRg (hc : X.calm = true) (hgl : Gl X "list") (hml : X.mg "list" = none) (hg : Gl X "range") (hm : X.mg "range" = none) (he : SE X W e f)
    (na : starEach [e] X.env = (false, eval e X.env) :: starEach [] X.env := by rfl)
    (na2 : starEach [.Call (.Name "range" p) [e] [] pos] X.env = (false, eval (.Call (.Name "range" p) [e] [] pos) X.env) :: starEach [] X.env := by rfl) :
    SF X W (.Call (.Name "list" p2) [.Call (.Name "range" p) [e] [] pos] [] pos2) (lrg f) :=
  PE.weak (pe_listRg hc hgl hml (prg_1 hg hm he na) na2) fun σ H Q ⟨G, ρ, R, q⟩ => by
  refine ⟨G, ρ, R, ?_⟩
  revert q
  unfold lrg
  cases f ρ with
  | st => exact id
  | ex c => exact id
  | ok d =>
    intro q v G1 H1 x1 r1
    simp only [bd_ok] at q
    cases d with
    | int n =>
      cases r1
      have q2 := chk_some (P := PostF X.K X.mg (fun c d H' => W c d σ H') G H Q) (fun z => z) q
      have hn := of_decide_eq_true q2.1
      refine ⟨n, rfl, ⟨by omega, by omega, by omega, by omega, by omega⟩, fun a ha => ?_⟩
      exact q2.2 a G1 _ (x1.trans (.newH x1.gh ha)) (x1.hh.free ha) (by exact (x1.gh.free ha)) ⟨rgV 0 n, upd_same, repl_rg n⟩
    | _ => exact q.elim
end
end Fx

set_option Elab.async false
set_option linter.all false
set_option maxRecDepth 100000
set_option maxHeartbeats 4000000
/-! Fx17: isinstance(e, C) of a caught exception. -/
namespace Fx
open PySem PySem.Spec PyProof.Rows L2
def isE (a : Addr) (j : Nat) (b : Bool) : En → Oc D := fun ρ => match ρ[j]? with
  | some (.exn q) => chk (decide (q = a)) (.ok (.bl b))
  | _ => .st
section
variable {X : Cx} {W : WX} {a D C2 : Addr} {oe : Obj} {pn : List (Addr × Obj)} {b : Bool} {j : Nat} {n nm : Str} {p p1 p2 pos : Pos}
theorem se_isE (EC : ExcC X.K D) (hz : Zc (.ref D) none oe) (hf : ∃ vs, oe.data = .fields vs) (hg : Gl (X.suite a ((a, oe) :: pn)) "isinstance") (hm : X.mg "isinstance" = none) (hgx : Gl (X.suite a ((a, oe) :: pn)) nm) (hmx : X.mg nm = some (.ref C2)) (hdb : (nm == ("__debug__" : Str)) = false)
    (hk : PySem.W.kitOne X.K (.ref D) (.ref C2) = some b) (hv : PE (X.suite a ((a, oe) :: pn)) (.Name n p1) (tVar j))
    (he : starEach [.Name n p1, .Name nm p2] X.env = (false, eval (.Name n p1) X.env) :: starEach [.Name nm p2] X.env := by rfl) (he2 : starEach [.Name nm p2] X.env = (false, eval (.Name nm p2) X.env) :: starEach [] X.env := by rfl) (hpl : (backTo pos (starEach [.Name nm p2] X.env)).any (·.1) = false := by rfl) :
    SE (X.suite a ((a, oe) :: pn)) W (.Call (.Name "isinstance" p) [.Name n p1, .Name nm p2] [] pos) (isE a j b) :=
  PE.weak (pe_callB (call_isE EC hz hf) hg hm (by decide +kernel) (pa_cons hv (pa_cons (pe_glob hgx hmx (v := .ref C2) rfl hdb) pa_nil he2) he) (by decide) (by decide) he hpl) fun σ H Q ⟨G, ρ, R, q⟩ => by
  revert q
  unfold isE
  cases e : ρ[j]? with
  | none => exact False.elim
  | some s =>
    cases s with
    | no => exact False.elim
    | sh d => exact False.elim
    | ow d => exact False.elim
    | exn q0 =>
      intro q
      simp only at q
      have q2 := chk_some (P := PostE X.K X.mg (fun c d H' => W c d σ H') G H Q) (fun z => z) q
      have hq := of_decide_eq_true q2.1
      subst hq
      obtain ⟨o, ho, h1⟩ := R.get e
      subst h1
      exact ⟨.ref q0, ho, .ref C2, .ref C2, b, rfl, (fun u hu => hu), hk, q2.2 _ G H (.refl R.sub) (.bl _)⟩
end
end Fx

set_option Elab.async false
set_option linter.all false
set_option maxRecDepth 100000
set_option maxHeartbeats 4000000
/-! Fx18: facts about exception classes, read off the head; the end with them. -/
namespace Fx
open PySem PySem.Spec PyProof.Rows L2
variable {K : PySem.W.Frag} {mg : Str → Option Value}
def ExcCK (K : PySem.W.Frag) (mg : Str → Option Value) (c : Str) : Prop := ∀ C, mg c = some (.ref C) → ExcC K C
def KitK (K : PySem.W.Frag) (mg : Str → Option Value) (c d : Str) (b : Bool) : Prop := ∀ C C2, mg c = some (.ref C) → mg d = some (.ref C2) → PySem.W.kitOne K (.ref C) (.ref C2) = some b
def excCB (K : PySem.W.Frag) (D : Addr) : Bool :=
  decide (PySem.W.findIn K (.ref D) "__getattribute__" = some (some (.builtin "BaseException.__getattribute__"))) &&
  (decide (PySem.W.findIn K (.ref D) "__getattr__" = some none) &&
  (decide (PySem.W.subIn K (.ref D) (.type "BaseException") = some true) &&
  (PySem.W.hasDictIn K D &&
  (decide (PySem.W.findIn K (.ref D) "__class__" = some (some (.builtin "object.__class__"))) &&
  (decide (PySem.W.specialIn K (.builtin "object.__class__") "__get__" = some (some (.builtin "getset_descriptor.__get__"))) &&
  (decide (PySem.W.takesIn K (.builtin "object.__class__") = some true) &&
  decide (PySem.W.mroIn K D (.type "object") = some true)))))))
theorem excCB_ok {D : Addr} (h : excCB K D = true) : ExcC K D := by
  unfold excCB at h
  simp only [Bool.and_eq_true, decide_eq_true_eq] at h
  obtain ⟨h1, h2, h3, h4, h5, h6, h7, h8⟩ := h
  exact ⟨h1, h2, h3, h4, h5, h6, h7, h8⟩
def chkX (tf : List He.Defn) (es : List Str) (ks : List (Str × Str × Bool)) (K : PySem.W.Frag) : Bool :=
  tabAll tf K && (es.all (fun c => excCB K (He.ga K c)) && ks.all fun k => decide (PySem.W.kitOne K (.ref (He.ga K k.1)) (.ref (He.ga K k.2.1)) = some k.2.2))
theorem chkX_tab {tf : List He.Defn} {es : List Str} {ks : List (Str × Str × Bool)} (h : chkX tf es ks K = true) : tabAll tf K = true := by
  unfold chkX at h
  rw [Bool.and_eq_true] at h
  exact h.1
theorem chkX_exc {tf : List He.Defn} {es : List Str} {ks : List (Str × Str × Bool)} (h : chkX tf es ks K = true) {c : Str} (i : Nat) (hc : es[i]? = some c) (hg : mg c = some (.ref (He.ga K c))) : ExcCK K mg c := by
  unfold chkX at h
  rw [Bool.and_eq_true, Bool.and_eq_true] at h
  intro C hC
  have e := hC.symm.trans hg
  cases e
  exact excCB_ok (List.all_eq_true.mp h.2.1 c (List.mem_of_getElem? hc))
theorem chkX_kit {tf : List He.Defn} {es : List Str} {ks : List (Str × Str × Bool)} (h : chkX tf es ks K = true) {c d : Str} {b : Bool} (i : Nat) (hc : ks[i]? = some (c, d, b)) (hg : mg c = some (.ref (He.ga K c))) (hd : mg d = some (.ref (He.ga K d))) : KitK K mg c d b := by
  unfold chkX at h
  rw [Bool.and_eq_true, Bool.and_eq_true] at h
  intro C C2 hC hC2
  have e := hC.symm.trans hg
  cases e
  have e2 := hC2.symm.trans hd
  cases e2
  exact of_decide_eq_true (List.all_eq_true.mp h.2.2 (c, d, b) (List.mem_of_getElem? hc))
theorem exmK_of {x y : Str} {b : Bool} (c : (He.Fa.exm x y b).ok K = true) (hg : mg x = some (.ref (He.ga K x))) (hd : mg y = some (.ref (He.ga K y))) : ExmK K mg y x b := by
  intro C C' hC hC'
  have e := hC.symm.trans hg
  cases e
  have e2 := hC'.symm.trans hd
  cases e2
  exact He.exm_ok c
theorem law_atX {l : PySem.W.OpenLaw} {w : World} {K : PySem.W.Frag} {mg : Str → Option Value} {fa : Addr} {h : Heap} {fas : List He.Fa} {fns : List He.DefD} {tf : List He.Defn} {es : List Str} {ks : List (Str × Str × Bool)} {k : Nat} {x : Str} {fd : FuncData} {F : List D → Oc D} (KX : K.In h) (c : He.SaysX fas fns [] tf (chkX tf es ks) w h K)
    (hb : ∀ (s : Shared) (u : Value), BindsTo s fd ⟨[u], []⟩ [(x, u)]) (hF : ∀ ns : List Int, ns.length ≤ 63 → F [.fz (ns.map .int)] = .ok (.bl true))
    (ok : ∀ base : Heap, K.In base → base.Ns mainGlobals mg → Tbs K mg base → FnOk l.prog w K mg base (L2.CX l.prog w) k fa fd [x] (spF K mg 1 F)) : LamX.LawAtS l w K (L2.CX l.prog w) k 63 x mg fa h :=
  law_atT KX ⟨c.t, chkX_tab c.more, c.hd, c.out, c.empty⟩ hb hF ok
end Fx

set_option Elab.async false
set_option linter.all false
set_option maxRecDepth 100000
set_option maxHeartbeats 4000000
/-! Fx19: evaluation of try, list(range), isinstance of an exception. -/
namespace Fx
open PySem (Str)
theorem tryO_ok {cs ns : List Str} {f : En → Oc D} {gs : En → Oc Res} {ρ : En} {d : D} (h : f ρ = .ok d) : tryO cs ns f gs ρ = .ok (.nx ρ) := by
  unfold tryO; rw [h]
theorem tryO_ex {cs ns : List Str} {f : En → Oc D} {gs : En → Oc Res} {ρ : En} {c : Str} {r : Res} (h : f ρ = .ex c) (hc : c ∈ cs) (hg : gs ρ = .ok r) : tryO cs ns f gs ρ = .ok r := by
  unfold tryO; rw [h]; simp only [hc, if_true, hg]
theorem tryA_ok {i j : Nat} {cs ns : List Str} {f : En → Oc D} {gs : Nat → En → Oc Res} {ρ : En} {d : D} (h : f ρ = .ok d) : tryA i j cs ns f gs ρ = .ok (.nx (ρ.set i (.sh d))) := by
  unfold tryA; rw [h]
theorem tryA_ex {i j : Nat} {cs ns : List Str} {f : En → Oc D} {gs : Nat → En → Oc Res} {ρ : En} {c : Str} {d : D} (h : f ρ = .ex c) (hc : c ∈ cs) (hg : ∀ a, gs a (ρ.set j (.exn a)) = .ok (.rt d)) : tryA i j cs ns f gs ρ = .ok (.rt d) := by
  unfold tryA; rw [h]
  have hx : ∃ d, ∀ a, gs a (ρ.set j (.exn a)) = .ok (.rt d) := ⟨d, hg⟩
  simp only [hc, if_true, hx, dif_pos]
  have := hx.choose_spec 0
  rw [hg 0] at this
  exact this.symm
def isER (a : Nat) (b : Bool) : Option Sl → Oc D
  | some (.exn q) => chk (decide (q = a)) (.ok (.bl b))
  | _ => .st
@[simp] theorem isE_ap (a j : Nat) (b : Bool) (ρ : En) : isE a j b ρ = isER a b ρ[j]? := by
  unfold isE isER
  rcases ρ[j]? with _ | s
  · rfl
  · cases s <;> rfl
@[simp] theorem isER_exn (a : Nat) (b : Bool) : isER a b (some (.exn a)) = .ok (.bl b) := by
  simp [isER]
def lrgR : D → Oc D
  | .int n => chk (decide (-1000 ≤ n ∧ n ≤ 16777216)) (.ok (.lst (rgD n)))
  | _ => .st
@[simp] theorem lrg_ap (f : En → Oc D) (ρ : En) : lrg f ρ = bd (f ρ) lrgR := by
  unfold lrg
  cases f ρ with
  | ok d => cases d <;> rfl
  | st => rfl
  | ex c => rfl
@[simp] theorem lrgR_int (n : Int) : lrgR (.int n) = chk (decide (-1000 ≤ n ∧ n ≤ 16777216)) (.ok (.lst (rgD n))) := id rfl
end Fx

set_option Elab.async false
set_option linter.all false
set_option maxRecDepth 100000
set_option maxHeartbeats 4000000
namespace Lw
open PySem PySem.Spec PyProof.Rows L2 Fx
def topS (i : Nat) : Stmt := PySem.Challenge.pw_caseslive_k04_processes_are_checked.main.body.getD i (.Pass ⟨0, 0, 0, 0⟩)
abbrev s_is_size : Stmt := topS 7
abbrev N_is_size : List Str := ["value"]
theorem sc_is_size : FnScope N_is_size ["value"] (defScope s_is_size) := ⟨rfl, rfl, rfl, by decide +kernel, rfl, by decide +kernel, by decide +kernel⟩
abbrev s_is_window : Stmt := topS 8
abbrev N_is_window : List Str := ["size", "window", "signs", "begins", "ends", "inner"]
theorem sc_is_window : FnScope N_is_window ["size", "window"] (defScope s_is_window) := ⟨rfl, rfl, rfl, by decide +kernel, rfl, by decide +kernel, by decide +kernel⟩
abbrev s_are_different : Stmt := topS 9
abbrev N_are_different : List Str := ["rows", "k"]
theorem sc_are_different : FnScope N_are_different ["rows"] (defScope s_are_different) := ⟨rfl, rfl, rfl, by decide +kernel, rfl, by decide +kernel, by decide +kernel⟩
abbrev s_Process___init__ : Stmt := inClass (topS 10) 0
abbrev N_Process___init__ : List Str := ["self", "size", "windows", "rows", "window"]
theorem sc_Process___init__ : FnScope N_Process___init__ ["self", "size", "windows"] (defScope s_Process___init__) := ⟨rfl, rfl, rfl, by decide +kernel, rfl, by decide +kernel, by decide +kernel⟩
abbrev s__law_cell : Stmt := topS 12
abbrev N__law_cell : List Str := ["_law_script", "_law_k"]
theorem sc__law_cell : FnScope N__law_cell ["_law_script", "_law_k"] (defScope s__law_cell) := ⟨rfl, rfl, rfl, by decide +kernel, rfl, by decide +kernel, by decide +kernel⟩
abbrev s__law_row : Stmt := topS 13
abbrev N__law_row : List Str := ["_law_cell_here", "_law_count", "_law_row_here", "_law_rest", "_law_seed", "_law_k"]
theorem sc__law_row : FnScope N__law_row ["_law_cell_here", "_law_count"] (defScope s__law_row) := ⟨rfl, rfl, rfl, by decide +kernel, rfl, by decide +kernel, by decide +kernel⟩
abbrev s__law_window : Stmt := topS 14
abbrev N__law_window : List Str := ["_law_number", "_law_size", "_law_signs", "_law_begins", "_law_ends", "_law_row_here", "_law_k"]
theorem sc__law_window : FnScope N__law_window ["_law_number", "_law_size"] (defScope s__law_window) := ⟨rfl, rfl, rfl, by decide +kernel, rfl, by decide +kernel, by decide +kernel⟩
abbrev s__law_is_good : Stmt := topS 15
abbrev N__law_is_good : List Str := ["_law_window_here", "_law_size", "_law_inner", "_law_begins", "_law_ends", "_law_k"]
theorem sc__law_is_good : FnScope N__law_is_good ["_law_window_here", "_law_size"] (defScope s__law_is_good) := ⟨rfl, rfl, rfl, by decide +kernel, rfl, by decide +kernel, by decide +kernel⟩
abbrev s__law_refused : Stmt := topS 16
abbrev N__law_refused : List Str := ["_law_size"]
theorem sc__law_refused : FnScope N__law_refused ["_law_size"] (defScope s__law_refused) := ⟨rfl, rfl, rfl, by decide +kernel, rfl, by decide +kernel, by decide +kernel⟩
abbrev s_law : Stmt := topS 17
abbrev N_law : List Str := ["_law_script", "_law_size", "_law_row_here", "_law_windows", "_law_bad", "_law_fits", "_law_given", "_law_strange", "_law_process", "e", "_law_number", "_law_k", "_law_window_here"]
theorem sc_law : FnScope N_law ["_law_script"] (defScope s_law) := ⟨rfl, rfl, rfl, by decide +kernel, rfl, by decide +kernel, by decide +kernel⟩
structure Facts (K : PySem.W.Frag) (mg : Str → Option Value) : Prop where
  m_all : mg "all" = none
  m_bool : mg "bool" = none
  m_int : mg "int" = none
  m_isinstance : mg "isinstance" = none
  m_len : mg "len" = none
  m_list : mg "list" = none
  m_max : mg "max" = none
  m_min : mg "min" = none
  m_range : mg "range" = none
  m_tuple : mg "tuple" = none
  c_BEGIN : ∃ t, mg "BEGIN" = some (.str "<" t)
  c_END : ∃ t, mg "END" = some (.str ">" t)
  x_InvalidProcess : ExcK K mg "InvalidProcess"
  g_CaseError : ∃ C, mg "CaseError" = some (.ref C)
  g_InvalidProcess : ∃ C, mg "InvalidProcess" = some (.ref C)
  g_InvalidSetting : ∃ C, mg "InvalidSetting" = some (.ref C)
  h_InvalidProcess_InvalidProcess : ExmK K mg "InvalidProcess" "InvalidProcess" true
  e_InvalidProcess : ExcCK K mg "InvalidProcess"
  k_InvalidProcess_CaseError : KitK K mg "InvalidProcess" "CaseError" true
  k_InvalidProcess_InvalidSetting : KitK K mg "InvalidProcess" "InvalidSetting" false
  a_windows : ∀ c ∈ [("Process" : Str)], ClsA K mg "windows" c
  s_Process_size : ∀ c ∈ [("Process" : Str)], ClsA K mg "size" c
  s_Process_windows : ∀ c ∈ [("Process" : Str)], ClsA K mg "windows" c
  f_is_size : ∃ f fd, FunD K "is_size" "is_size" (defArgs s_is_size) (defBody s_is_size) (defScope s_is_size) [] [] f fd ∧ mg "is_size" = some (.ref f)
  f_is_window : ∃ f fd, FunD K "is_window" "is_window" (defArgs s_is_window) (defBody s_is_window) (defScope s_is_window) [] [] f fd ∧ mg "is_window" = some (.ref f)
  f_are_different : ∃ f fd, FunD K "are_different" "are_different" (defArgs s_are_different) (defBody s_are_different) (defScope s_are_different) [] [] f fd ∧ mg "are_different" = some (.ref f) ∧ ∃ c P, fd.code = .ref c ∧ PySem.W.codeHdIn K c P = true ∧ K.lookup P = none
  f_Process___init__ : ∃ C f fd, Mk K C f ∧ FunD K "__init__" "Process.__init__" (defArgs s_Process___init__) (defBody s_Process___init__) (defScope s_Process___init__) [] [] f fd ∧ mg "Process" = some (.ref C) ∧ ∃ c P, fd.code = .ref c ∧ PySem.W.codeHdIn K c P = true ∧ K.lookup P = none
  f__law_cell : ∃ f fd, FunD K "_law_cell" "_law_cell" (defArgs s__law_cell) (defBody s__law_cell) (defScope s__law_cell) [] [] f fd ∧ mg "_law_cell" = some (.ref f)
  f__law_row : ∃ f fd, FunD K "_law_row" "_law_row" (defArgs s__law_row) (defBody s__law_row) (defScope s__law_row) [] [] f fd ∧ mg "_law_row" = some (.ref f)
  f__law_window : ∃ f fd, FunD K "_law_window" "_law_window" (defArgs s__law_window) (defBody s__law_window) (defScope s__law_window) [] [] f fd ∧ mg "_law_window" = some (.ref f)
  f__law_is_good : ∃ f fd, FunD K "_law_is_good" "_law_is_good" (defArgs s__law_is_good) (defBody s__law_is_good) (defScope s__law_is_good) [] [] f fd ∧ mg "_law_is_good" = some (.ref f)
  f__law_refused : ∃ f fd, FunD K "_law_refused" "_law_refused" (defArgs s__law_refused) (defBody s__law_refused) (defScope s__law_refused) [] [] f fd ∧ mg "_law_refused" = some (.ref f)
section
variable {P : Program} {w : World} {K : PySem.W.Frag} {mg : Str → Option Value} {base : Heap}
noncomputable def g_is_size : En → Oc Res :=
  (ret (anV (un (isiD "int") (vo 0)) (anV (ntV (un (isiD "bool") (vo 0))) (chn (cst (.int 1)) (vo 0) (cst (.int 3))))))
noncomputable def F_is_size : List D → Oc D := fnB 1 1 g_is_size
theorem K_is_size (T : Facts K mg) (TB : Tbs K mg base) : Kn P w K mg base 1 "is_size" 1 [] F_is_size := by
  obtain ⟨f, fd, F, gm⟩ := T.f_is_size
  refine ⟨f, fd, ["value"], [], [], fnD_ok (N := N_is_size) (k := 0) F sc_is_size (fun cdv A outer s H E hc hr C => ?_), gm, F.kp, (F.bindsN fun _ _ _ _ _ _ us hl => match us, hl with | [_], _ => rfl), .nil, fun _ => .nil⟩
  have hp := po_def (P := P) (w := w) (K := K) (mg := mg) (base := base) (N := N_is_size) (qual := "is_size") (sc := defScope s_is_size) (f := f) (cdv := cdv) (A := A) (outer := outer) (s := s) (H := H) (E := E)
  exact (ss_one (ss_ret (se_and (se_isi (T := "int") (by rfl) T.m_isinstance (by rfl) T.m_int (by decide +kernel) (sq_var (pv 0))) (se_and (se_not (se_isi (T := "bool") (by rfl) T.m_isinstance (by rfl) T.m_bool (by decide +kernel) (sq_var (pv 0)))) (se_one (se_chain (SE.toQ se_int) (sq_var (pv 0)) (SE.toQ se_int)))))))
noncomputable def g_is_window : En → Oc Res :=
  (sq (iff (tst (bi neD (un lenD (vo 1)) (vo 0))) (ret (cst (.bl false))) sNx)
  (sq (asg 2 (un listD (vo 1)))
  (sq (asg 3 (mtD isLst countM (vo 2) (aC (cst (.str "<")) aN)))
  (sq (asg 4 (mtD isLst countM (vo 2) (aC (cst (.str ">")) aN)))
  (sq (iff (orr (tst (bi (cmpD fun i j => decide (j ≤ i)) (vo 3) (vo 0))) (tst (bi (cmpD fun i j => decide (j ≤ i)) (vo 4) (vo 0)))) (ret (cst (.bl false))) sNx)
  (sq (asg 5 (slc (vo 2) (some (vr 3)) (some (bi subD (vo 0) (vo 4)))))
  (ret (anV (bi eqD (vo 2) (bi addD (bi addD (bi mulD (lsd (aC (cst (.str "<")) aN)) (vo 3)) (vo 5)) (bi mulD (lsd (aC (cst (.str ">")) aN)) (vo 4)))) (anV (bi ninD (cst (.str "<")) (vo 5)) (bi ninD (cst (.str ">")) (vo 5)))))))))))
noncomputable def F_is_window : List D → Oc D := fnB 6 2 g_is_window
theorem K_is_window (T : Facts K mg) (TB : Tbs K mg base) : Kn P w K mg base 1 "is_window" 2 [] F_is_window := by
  obtain ⟨f, fd, F, gm⟩ := T.f_is_window
  refine ⟨f, fd, ["size", "window"], [], [], fnD_ok (N := N_is_window) (k := 0) F sc_is_window (fun cdv A outer s H E hc hr C => ?_), gm, F.kp, (F.bindsN fun _ _ _ _ _ _ us hl => match us, hl with | [_, _], _ => rfl), .nil, fun _ => .nil⟩
  have hp := po_def (P := P) (w := w) (K := K) (mg := mg) (base := base) (N := N_is_window) (qual := "is_window") (sc := defScope s_is_window) (f := f) (cdv := cdv) (A := A) (outer := outer) (s := s) (H := H) (E := E)
  exact (ss_cons (ss_if (st_ne (SE.toQ (se_len (by rfl) T.m_len (sq_var (pv 1)))) (sq_var (pv 0)) C.units) (ss_one (ss_ret se_bl)) ss_nil)
  (ss_cons (ss_set (i := 2) C rfl (by first | exact Or.inl rfl | exact Or.inr rfl) (SF.toE (sf_list (by rfl) T.m_list (sq_var (pv 1)))))
  (ss_cons (ss_set (i := 3) C rfl (by first | exact Or.inl rfl | exact Or.inr rfl) (se_count (sq_var (pv 2)) (sa_cons (se_cS (by rfl) T.c_BEGIN) sa_nil)))
  (ss_cons (ss_set (i := 4) C rfl (by first | exact Or.inl rfl | exact Or.inr rfl) (se_count (sq_var (pv 2)) (sa_cons (se_cS (by rfl) T.c_END) sa_nil)))
  (ss_cons (ss_if (st_of (sw_or (st_ge (sq_var (pv 3)) (sq_var (pv 0))) (sw_or1 (st_ge (sq_var (pv 4)) (sq_var (pv 0)))))) (ss_one (ss_ret se_bl)) ss_nil)
  (ss_cons (ss_set (i := 5) C rfl (by first | exact Or.inl rfl | exact Or.inr rfl) (se_sl (sq_var (pv 2)) (so_some (se_var (pv 3))) (so_some (se_sub (sq_var (pv 0)) (sq_var (pv 4))))))
  (ss_one (ss_ret (se_and (se_eq (sq_var (pv 2)) (SE.toQ (se_add (SE.toQ (se_add (SE.toQ (se_mul (SE.toQ (SF.toE (sf_lst (sa_cons (se_cS (by rfl) T.c_BEGIN) sa_nil)))) (sq_var (pv 3)))) (sq_var (pv 5)))) (SE.toQ (se_mul (SE.toQ (SF.toE (sf_lst (sa_cons (se_cS (by rfl) T.c_END) sa_nil)))) (sq_var (pv 4)))))) C.units) (se_and (se_nin (SE.toQ (se_cS (by rfl) T.c_BEGIN)) (sq_var (pv 5)) C.units) (se_one (se_nin (SE.toQ (se_cS (by rfl) T.c_END)) (sq_var (pv 5)) C.units))))))))))))
noncomputable def g_are_different : En → Oc Res :=
  (ret (ga (.one 1) [1] false (rng1 (aC (un lenD (vo 0)) aN)) (bi ninD (bi ixD (vo 0) (vo 1)) (slc (vo 0) none (some (vr 1))))))
noncomputable def F_are_different : List D → Oc D := fnB 2 1 g_are_different
theorem K_are_different (T : Facts K mg) (TB : Tbs K mg base) : Kn P w K mg base 2 "are_different" 1 [] F_are_different := by
  obtain ⟨f, fd, F, gm, c0, P0, hcd, h1, h2⟩ := T.f_are_different
  refine ⟨f, fd, ["rows"], [], [], fnD_ok (N := N_are_different) (k := 1) F sc_are_different (fun cdv A outer s H E hc hr C => ?_), gm, F.kp, (F.bindsN fun _ _ _ _ _ _ us hl => match us, hl with | [_], _ => rfl), .nil, fun _ => .nil⟩
  have hp := po_def (P := P) (w := w) (K := K) (mg := mg) (base := base) (N := N_are_different) (qual := "are_different") (sc := defScope s_are_different) (f := f) (cdv := cdv) (A := A) (outer := outer) (s := s) (H := H) (E := E)
  obtain rfl : cdv = .ref c0 := hc.symm.trans hcd
  have tb : ∀ {X : Cx}, X.K = K → X.mg = mg → X.base = base → TbOk X c0 P0 := fun e1 e2 e3 => by
    cases e1; cases e2; cases e3
    exact ⟨TB c0 P0 h1 h2, h2, c0, h1⟩
  exact (ss_one (ss_ret (se_allG C hr (by rfl) T.m_all (tb rfl rfl rfl) rfl (blkOk_by (own := [("k", 1)]) (N := N_are_different) (sc := defScope s_are_different) (by decide +kernel)) (by decide +kernel) (by decide +kernel) rfl (si_rng1 (by rfl) T.m_range (sa_cons (se_len (by rfl) T.m_len (sq_var (pv 0))) sa_nil)) (fun _ _ _ _ _ _ => (st_one (Ctx.gen C hr _ _ _ _ _).nd rfl (by first | exact Or.inl rfl | exact Or.inr rfl))) (fun _ _ _ _ _ _ => (se_nin (SE.toQ (se_ix (sq_var (pv 0)) (sq_var (pv 1)) (fun _ _ => rfl))) (SE.toQ (se_sl (sq_var (pv 0)) so_none (so_some (se_var (pv 1))))) (Ctx.gen C hr _ _ _ _ _).units)) (by decide))))
noncomputable def g_Process___init__ : En → Oc Res :=
  (sq (asg 3 (un tupleD (lc (.one 4) [4] (itm (vr 2)) yes (un tupleD (vo 4)))))
  (sq (iff (nt (tst (cal F_is_size 1 [] (aC (vr 1) aN)))) (rsx "InvalidProcess") sNx)
  (sq (iff (orr (nt (tst (ga (.one 4) [4] false (itm (vr 3)) (cal F_is_window 2 [] (aC (vr 1) (aC (vr 4) aN)))))) (nt (tst (cal F_are_different 1 [] (aC (vr 3) aN))))) (rsx "InvalidProcess") sNx)
  (sq (setF 0 [("Process" : Str)] "size" (vr 1))
  (setF 0 [("Process" : Str)] "windows" (vr 3))))))
noncomputable def F_Process___init__ : List D → Oc D := fnI "Process" 4 2 g_Process___init__
theorem K_Process___init__ (T : Facts K mg) (TB : Tbs K mg base) : KnC P w K mg base 3 "Process" 2 [] F_Process___init__ := by
  obtain ⟨Cl, f, fd, mk, F, gm, c0, P0, hcd, h1, h2⟩ := T.f_Process___init__
  have K_are_different := K_are_different (P := P) (w := w) (base := base) T TB
  have K_is_size := K_is_size (P := P) (w := w) (base := base) T TB
  have K_is_window := K_is_window (P := P) (w := w) (base := base) T TB
  refine ⟨Cl, f, fd, ["self", "size", "windows"], [], [], mk, initD_ok (N := N_Process___init__) (k := 2) F sc_Process___init__ rfl (fun cdv A outer s H E hc hr C => ?_), gm, (F.bindsN fun _ _ _ _ _ _ us hl => match us, hl with | [_, _, _], _ => rfl), .nil, fun _ => .nil⟩
  have hp := po_def (P := P) (w := w) (K := K) (mg := mg) (base := base) (N := N_Process___init__) (qual := "Process.__init__") (sc := defScope s_Process___init__) (f := f) (cdv := cdv) (A := A) (outer := outer) (s := s) (H := H) (E := E)
  obtain rfl : cdv = .ref c0 := hc.symm.trans hcd
  have tb : ∀ {X : Cx}, X.K = K → X.mg = mg → X.base = base → TbOk X c0 P0 := fun e1 e2 e3 => by
    cases e1; cases e2; cases e3
    exact ⟨TB c0 P0 h1 h2, h2, c0, h1⟩
  exact (ss_cons (ss_set (i := 3) C rfl (by first | exact Or.inl rfl | exact Or.inr rfl) (se_tuple (by rfl) T.m_tuple (SE.toQ (SF.toE (sf_lc C (si_seq (se_var (pv 2))) (blkOk_by (own := [("window", 4)]) (N := N_Process___init__) (sc := defScope s_Process___init__) (by decide +kernel)) (fun _ _ _ _ _ => (st_one (Ctx.blk C _ _ _ _ _).nd rfl (by first | exact Or.inl rfl | exact Or.inr rfl))) (fun _ _ _ _ _ => sts_nil) (fun _ _ _ _ _ => (se_tuple (by rfl) T.m_tuple (sq_var (pv 4)))) (by decide))))))
  (ss_cons (ss_if (st_not (st_val (se_call K_is_size C (hr.mono (by decide)) (by rfl) (sa_cons (se_var (pv 1)) sa_nil)))) (ss_one (ss_raise C T.x_InvalidProcess (by rfl))) ss_nil)
  (ss_cons (ss_if (st_of (sw_or (st_not (st_val (se_allG C hr (by rfl) T.m_all (tb rfl rfl rfl) rfl (blkOk_by (own := [("window", 4)]) (N := N_Process___init__) (sc := defScope s_Process___init__) (by decide +kernel)) (by decide +kernel) (by decide +kernel) rfl (si_seq (se_var (pv 3))) (fun _ _ _ _ _ _ => (st_one (Ctx.gen C hr _ _ _ _ _).nd rfl (by first | exact Or.inl rfl | exact Or.inr rfl))) (fun _ _ _ _ _ _ => (se_call K_is_window (Ctx.gen C hr _ _ _ _ _) (room_gen (k := 1) (hr.mono (by decide)) _) (by rfl) (sa_cons (se_var (pv 1)) (sa_cons (se_var (pv 4)) sa_nil)))) (by decide)))) (sw_or1 (st_not (st_val (se_call K_are_different C (hr.mono (by decide)) (by rfl) (sa_cons (se_var (pv 3)) sa_nil))))))) (ss_one (ss_raise C T.x_InvalidProcess (by rfl))) ss_nil)
  (ss_cons (ss_setF (cs := [("Process" : Str)]) (T.s_Process_size) (pv 0) (se_var (pv 1)))
  (ss_one (ss_setF (cs := [("Process" : Str)]) (T.s_Process_windows) (pv 0) (se_var (pv 3))))))))
noncomputable def g__law_cell : En → Oc Res :=
  (sq (iff (tst (bi (cmpD fun i j => decide (i < j)) (vo 1) (un lenD (vo 0)))) (ret (bi ixD (vo 0) (vo 1))) sNx)
  (ret (cst (.int 0))))
noncomputable def F__law_cell : List D → Oc D := fnB 2 2 g__law_cell
theorem K__law_cell (T : Facts K mg) (TB : Tbs K mg base) : Kn P w K mg base 1 "_law_cell" 2 [] F__law_cell := by
  obtain ⟨f, fd, F, gm⟩ := T.f__law_cell
  refine ⟨f, fd, ["_law_script", "_law_k"], [], [], fnD_ok (N := N__law_cell) (k := 0) F sc__law_cell (fun cdv A outer s H E hc hr C => ?_), gm, F.kp, (F.bindsN fun _ _ _ _ _ _ us hl => match us, hl with | [_, _], _ => rfl), .nil, fun _ => .nil⟩
  have hp := po_def (P := P) (w := w) (K := K) (mg := mg) (base := base) (N := N__law_cell) (qual := "_law_cell") (sc := defScope s__law_cell) (f := f) (cdv := cdv) (A := A) (outer := outer) (s := s) (H := H) (E := E)
  exact (ss_cons (ss_if (st_lt (sq_var (pv 1)) (SE.toQ (se_len (by rfl) T.m_len (sq_var (pv 0))))) (ss_one (ss_ret (se_ix (sq_var (pv 0)) (sq_var (pv 1)) (fun _ _ => rfl)))) ss_nil)
  (ss_one (ss_ret se_int)))
noncomputable def g__law_row : En → Oc Res :=
  (sq (asgO 2 (lsd aN))
  (sq (asg 3 (vr 0))
  (sq (asg 4 (bi addD (bi modD (un intD (vo 0)) (cst (.int 2147483629))) (cst (.int 1))))
  (sq (fr (.one 5) (rng1 (aC (vr 1) aN)) (iff (tst (bi (cmpD fun i j => decide (j ≤ i)) (vo 0) (bi powD (cst (.int 10)) (cst (.int 18))))) (sq (app 2 (bi modD (un intD (vo 3)) (cst (.int 840))))
  (asg 3 (bi fdivD (vo 3) (cst (.int 840))))) (sq (asg 4 (bi modD (un intD (bi addD (bi mulD (vo 4) (cst (.int 48271))) (vo 5))) (cst (.int 2147483647))))
  (app 2 (bi modD (bi fdivD (bi modD (un intD (bi mulD (vo 4) (cst (.int 69621)))) (cst (.int 2147483629))) (cst (.int 7))) (cst (.int 840)))))))
  (retO 2)))))
noncomputable def F__law_row : List D → Oc D := fnF 6 2 g__law_row
theorem KF__law_row (T : Facts K mg) (TB : Tbs K mg base) : KnF P w K mg base 1 "_law_row" 2 [] F__law_row := by
  obtain ⟨f, fd, F, gm⟩ := T.f__law_row
  refine ⟨f, fd, ["_law_cell_here", "_law_count"], [], [], fnF_ok (N := N__law_row) (k := 0) F sc__law_row (fun cdv A outer s H E hc hr C => ?_), gm, F.kp, (F.bindsN fun _ _ _ _ _ _ us hl => match us, hl with | [_, _], _ => rfl), .nil, fun _ => .nil⟩
  have hp := po_def (P := P) (w := w) (K := K) (mg := mg) (base := base) (N := N__law_row) (qual := "_law_row") (sc := defScope s__law_row) (f := f) (cdv := cdv) (A := A) (outer := outer) (s := s) (H := H) (E := E)
  exact (ss_cons (ss_setO (i := 2) C rfl (by first | exact Or.inl rfl | exact Or.inr rfl) (sf_lst sa_nil))
  (ss_cons (ss_set (i := 3) C rfl (by first | exact Or.inl rfl | exact Or.inr rfl) (se_var (pv 0)))
  (ss_cons (ss_set (i := 4) C rfl (by first | exact Or.inl rfl | exact Or.inr rfl) (se_add (SE.toQ (se_mod (SE.toQ (se_int1 (by rfl) T.m_int (sq_var (pv 0)))) (SE.toQ se_int))) (SE.toQ se_int)))
  (ss_cons (ss_for C hp (si_rng1 (by rfl) T.m_range (sa_cons (se_var (pv 1)) sa_nil)) (st_one C.nd rfl (by first | exact Or.inl rfl | exact Or.inr rfl)) (ss_one (ss_if (st_ge (sq_var (pv 0)) (SE.toQ (se_pow (SE.toQ se_int) (SE.toQ se_int)))) (ss_cons (ss_app (pv 2) (se_mod (SE.toQ (se_int1 (by rfl) T.m_int (sq_var (pv 3)))) (SE.toQ se_int)))
  (ss_one (ss_set (i := 3) C rfl (by first | exact Or.inl rfl | exact Or.inr rfl) (se_fdiv (sq_var (pv 3)) (SE.toQ se_int))))) (ss_cons (ss_set (i := 4) C rfl (by first | exact Or.inl rfl | exact Or.inr rfl) (se_mod (SE.toQ (se_int1 (by rfl) T.m_int (SE.toQ (se_add (SE.toQ (se_mul (sq_var (pv 4)) (SE.toQ se_int))) (sq_var (pv 5)))))) (SE.toQ se_int)))
  (ss_one (ss_app (pv 2) (se_mod (SE.toQ (se_fdiv (SE.toQ (se_mod (SE.toQ (se_int1 (by rfl) T.m_int (SE.toQ (se_mul (sq_var (pv 4)) (SE.toQ se_int))))) (SE.toQ se_int))) (SE.toQ se_int))) (SE.toQ se_int))))))))
  (ss_one (ss_retO (pv 2)))))))
theorem K__law_row (T : Facts K mg) (TB : Tbs K mg base) : Kn P w K mg base 1 "_law_row" 2 [] F__law_row := (KF__law_row T TB).kn
noncomputable def g__law_window : En → Oc Res :=
  (sq (asg 2 (lsd (aC (cst (.str "<")) (aC (cst (.str "go")) (aC (cst (.str "stop")) (aC (cst (.str ">")) aN))))))
  (sq (iff (tst (bi eqD (bi modD (vo 0) (cst (.int 2))) (cst (.int 0)))) (sq (asg 3 (bi modD (bi fdivD (vo 0) (cst (.int 2))) (cst (.int 3))))
  (sq (asg 4 (bi modD (bi fdivD (vo 0) (cst (.int 6))) (cst (.int 3))))
  (sq (asg 5 (bi addD (lc (.one 6) [6] (rng1 (aC (vr 3) aN)) yes (cst (.str "<"))) (lc (.one 6) [6] (rng1 (aC (vr 1) aN)) yes (bi ixD (vo 2) (bi addD (cst (.int 1)) (bi modD (bi fdivD (vo 0) (cst (.int 18))) (cst (.int 2))))))))
  (ret (un tupleD (slc (bi addD (slc (vo 5) none (some (unA maxM (aC (cst (.int 0)) (aC (bi subD (vo 1) (vo 4)) aN))))) (lc (.one 6) [6] (rng1 (aC (vr 4) aN)) yes (cst (.str ">")))) none (some (vr 1)))))))) sNx)
  (ret (un tupleD (lc (.one 6) [6] (rng1 (aC (bi addD (bi subD (vo 1) (cst (.int 1))) (bi ixD (lsd (aC (cst (.int 1)) (aC (cst (.int 1)) (aC (cst (.int 1)) (aC (cst (.int 0)) (aC (cst (.int 2)) aN)))))) (bi modD (bi fdivD (vo 0) (cst (.int 7))) (cst (.int 5))))) aN)) yes (bi ixD (vo 2) (bi modD (bi fdivD (vo 0) (bi addD (cst (.int 2)) (bi mulD (cst (.int 3)) (vo 6)))) (cst (.int 4)))))))))
noncomputable def F__law_window : List D → Oc D := fnB 7 2 g__law_window
theorem K__law_window (T : Facts K mg) (TB : Tbs K mg base) : Kn P w K mg base 1 "_law_window" 2 [] F__law_window := by
  obtain ⟨f, fd, F, gm⟩ := T.f__law_window
  refine ⟨f, fd, ["_law_number", "_law_size"], [], [], fnD_ok (N := N__law_window) (k := 0) F sc__law_window (fun cdv A outer s H E hc hr C => ?_), gm, F.kp, (F.bindsN fun _ _ _ _ _ _ us hl => match us, hl with | [_, _], _ => rfl), .nil, fun _ => .nil⟩
  have hp := po_def (P := P) (w := w) (K := K) (mg := mg) (base := base) (N := N__law_window) (qual := "_law_window") (sc := defScope s__law_window) (f := f) (cdv := cdv) (A := A) (outer := outer) (s := s) (H := H) (E := E)
  exact (ss_cons (ss_set (i := 2) C rfl (by first | exact Or.inl rfl | exact Or.inr rfl) (SF.toE (sf_lst (sa_cons se_str (sa_cons se_str (sa_cons se_str (sa_cons se_str sa_nil)))))))
  (ss_cons (ss_if (st_eq (SE.toQ (se_mod (sq_var (pv 0)) (SE.toQ se_int))) (SE.toQ se_int) C.units) (ss_cons (ss_set (i := 3) C rfl (by first | exact Or.inl rfl | exact Or.inr rfl) (se_mod (SE.toQ (se_fdiv (sq_var (pv 0)) (SE.toQ se_int))) (SE.toQ se_int)))
  (ss_cons (ss_set (i := 4) C rfl (by first | exact Or.inl rfl | exact Or.inr rfl) (se_mod (SE.toQ (se_fdiv (sq_var (pv 0)) (SE.toQ se_int))) (SE.toQ se_int)))
  (ss_cons (ss_set (i := 5) C rfl (by first | exact Or.inl rfl | exact Or.inr rfl) (se_add (SE.toQ (SF.toE (sf_lc C (si_rng1 (by rfl) T.m_range (sa_cons (se_var (pv 3)) sa_nil)) (blkOk_by (own := [("_law_k", 6)]) (N := N__law_window) (sc := defScope s__law_window) (by decide +kernel)) (fun _ _ _ _ _ => (st_one (Ctx.blk C _ _ _ _ _).nd rfl (by first | exact Or.inl rfl | exact Or.inr rfl))) (fun _ _ _ _ _ => sts_nil) (fun _ _ _ _ _ => se_str) (by decide)))) (SE.toQ (SF.toE (sf_lc C (si_rng1 (by rfl) T.m_range (sa_cons (se_var (pv 1)) sa_nil)) (blkOk_by (own := [("_law_k", 6)]) (N := N__law_window) (sc := defScope s__law_window) (by decide +kernel)) (fun _ _ _ _ _ => (st_one (Ctx.blk C _ _ _ _ _).nd rfl (by first | exact Or.inl rfl | exact Or.inr rfl))) (fun _ _ _ _ _ => sts_nil) (fun _ _ _ _ _ => (se_ix (sq_var (pv 2)) (SE.toQ (se_add (SE.toQ se_int) (SE.toQ (se_mod (SE.toQ (se_fdiv (sq_var (pv 0)) (SE.toQ se_int))) (SE.toQ se_int))))) (fun _ _ => rfl))) (by decide))))))
  (ss_one (ss_ret (se_tuple (by rfl) T.m_tuple (SE.toQ (se_sl (SE.toQ (se_add (SE.toQ (se_sl (sq_var (pv 5)) so_none (so_some (se_max2 C.calm (by rfl) T.m_max (sa_cons se_int (sa_cons (se_sub (sq_var (pv 1)) (sq_var (pv 4))) sa_nil)))))) (SE.toQ (SF.toE (sf_lc C (si_rng1 (by rfl) T.m_range (sa_cons (se_var (pv 4)) sa_nil)) (blkOk_by (own := [("_law_k", 6)]) (N := N__law_window) (sc := defScope s__law_window) (by decide +kernel)) (fun _ _ _ _ _ => (st_one (Ctx.blk C _ _ _ _ _).nd rfl (by first | exact Or.inl rfl | exact Or.inr rfl))) (fun _ _ _ _ _ => sts_nil) (fun _ _ _ _ _ => se_str) (by decide)))))) so_none (so_some (se_var (pv 1))))))))))) ss_nil)
  (ss_one (ss_ret (se_tuple (by rfl) T.m_tuple (SE.toQ (SF.toE (sf_lc C (si_rng1 (by rfl) T.m_range (sa_cons (se_add (SE.toQ (se_sub (sq_var (pv 1)) (SE.toQ se_int))) (SE.toQ (se_ix (SE.toQ (SF.toE (sf_lst (sa_cons se_int (sa_cons se_int (sa_cons se_int (sa_cons se_int (sa_cons se_int sa_nil)))))))) (SE.toQ (se_mod (SE.toQ (se_fdiv (sq_var (pv 0)) (SE.toQ se_int))) (SE.toQ se_int))) (fun _ _ => rfl)))) sa_nil)) (blkOk_by (own := [("_law_k", 6)]) (N := N__law_window) (sc := defScope s__law_window) (by decide +kernel)) (fun _ _ _ _ _ => (st_one (Ctx.blk C _ _ _ _ _).nd rfl (by first | exact Or.inl rfl | exact Or.inr rfl))) (fun _ _ _ _ _ => sts_nil) (fun _ _ _ _ _ => (se_ix (sq_var (pv 2)) (SE.toQ (se_mod (SE.toQ (se_fdiv (sq_var (pv 0)) (SE.toQ (se_add (SE.toQ se_int) (SE.toQ (se_mul (SE.toQ se_int) (sq_var (pv 6)))))))) (SE.toQ se_int))) (fun _ _ => rfl))) (by decide)))))))))
noncomputable def g__law_is_good : En → Oc Res :=
  (sq (iff (tst (bi neD (un lenD (vo 0)) (vo 1))) (ret (cst (.bl false))) sNx)
  (sq (asg 2 (lc (.one 5) [5] (rng1 (aC (un lenD (vo 0)) aN)) (an (tst (bi neD (bi ixD (vo 0) (vo 5)) (cst (.str "<")))) (tst (bi neD (bi ixD (vo 0) (vo 5)) (cst (.str ">"))))) (vr 5)))
  (sq (asg 3 (lc (.one 5) [5] (rng1 (aC (un lenD (vo 0)) aN)) (tst (bi eqD (bi ixD (vo 0) (vo 5)) (cst (.str "<")))) (vr 5)))
  (sq (asg 4 (lc (.one 5) [5] (rng1 (aC (un lenD (vo 0)) aN)) (tst (bi eqD (bi ixD (vo 0) (vo 5)) (cst (.str ">")))) (vr 5)))
  (sq (iff (orr (tst (bi (cmpD fun i j => decide (j < i)) (un lenD (vo 3)) (bi subD (vo 1) (cst (.int 1))))) (tst (bi (cmpD fun i j => decide (j < i)) (un lenD (vo 4)) (bi subD (vo 1) (cst (.int 1)))))) (ret (cst (.bl false))) sNx)
  (ret (bi eqD (bi addD (bi addD (vo 3) (vo 2)) (vo 4)) (lrg (vr 1)))))))))
noncomputable def F__law_is_good : List D → Oc D := fnB 6 2 g__law_is_good
theorem K__law_is_good (T : Facts K mg) (TB : Tbs K mg base) : Kn P w K mg base 1 "_law_is_good" 2 [] F__law_is_good := by
  obtain ⟨f, fd, F, gm⟩ := T.f__law_is_good
  refine ⟨f, fd, ["_law_window_here", "_law_size"], [], [], fnD_ok (N := N__law_is_good) (k := 0) F sc__law_is_good (fun cdv A outer s H E hc hr C => ?_), gm, F.kp, (F.bindsN fun _ _ _ _ _ _ us hl => match us, hl with | [_, _], _ => rfl), .nil, fun _ => .nil⟩
  have hp := po_def (P := P) (w := w) (K := K) (mg := mg) (base := base) (N := N__law_is_good) (qual := "_law_is_good") (sc := defScope s__law_is_good) (f := f) (cdv := cdv) (A := A) (outer := outer) (s := s) (H := H) (E := E)
  exact (ss_cons (ss_if (st_ne (SE.toQ (se_len (by rfl) T.m_len (sq_var (pv 0)))) (sq_var (pv 1)) C.units) (ss_one (ss_ret se_bl)) ss_nil)
  (ss_cons (ss_setLc (i := 2) C rfl rfl (sw_true rfl rfl rfl (by decide +kernel)) (si_rng1 (by rfl) T.m_range (sa_cons (se_len (by rfl) T.m_len (sq_var (pv 0))) sa_nil)) (blkOk_by (own := [("_law_k", 5)]) (N := N__law_is_good) (sc := defScope s__law_is_good) (by decide +kernel)) (fun _ _ _ _ _ => (st_one (Ctx.blk C _ _ _ _ _).nd rfl (by first | exact Or.inl rfl | exact Or.inr rfl))) (fun _ _ _ _ _ => (sts_one (st_of (sw_and (st_ne (SE.toQ (se_ix (sq_var (pv 0)) (sq_var (pv 5)) (fun _ _ => rfl))) (SE.toQ se_str) (Ctx.blk C _ _ _ _ _).units) (sw_and1 (st_ne (SE.toQ (se_ix (sq_var (pv 0)) (sq_var (pv 5)) (fun _ _ => rfl))) (SE.toQ se_str) (Ctx.blk C _ _ _ _ _).units)))))) (fun _ _ _ _ _ => (se_var (pv 5))) (by decide))
  (ss_cons (ss_setLc (i := 3) C rfl rfl (sw_true rfl rfl rfl (by decide +kernel)) (si_rng1 (by rfl) T.m_range (sa_cons (se_len (by rfl) T.m_len (sq_var (pv 0))) sa_nil)) (blkOk_by (own := [("_law_k", 5)]) (N := N__law_is_good) (sc := defScope s__law_is_good) (by decide +kernel)) (fun _ _ _ _ _ => (st_one (Ctx.blk C _ _ _ _ _).nd rfl (by first | exact Or.inl rfl | exact Or.inr rfl))) (fun _ _ _ _ _ => (sts_one (st_eq (SE.toQ (se_ix (sq_var (pv 0)) (sq_var (pv 5)) (fun _ _ => rfl))) (SE.toQ se_str) (Ctx.blk C _ _ _ _ _).units))) (fun _ _ _ _ _ => (se_var (pv 5))) (by decide))
  (ss_cons (ss_setLc (i := 4) C rfl rfl (sw_true rfl rfl rfl (by decide +kernel)) (si_rng1 (by rfl) T.m_range (sa_cons (se_len (by rfl) T.m_len (sq_var (pv 0))) sa_nil)) (blkOk_by (own := [("_law_k", 5)]) (N := N__law_is_good) (sc := defScope s__law_is_good) (by decide +kernel)) (fun _ _ _ _ _ => (st_one (Ctx.blk C _ _ _ _ _).nd rfl (by first | exact Or.inl rfl | exact Or.inr rfl))) (fun _ _ _ _ _ => (sts_one (st_eq (SE.toQ (se_ix (sq_var (pv 0)) (sq_var (pv 5)) (fun _ _ => rfl))) (SE.toQ se_str) (Ctx.blk C _ _ _ _ _).units))) (fun _ _ _ _ _ => (se_var (pv 5))) (by decide))
  (ss_cons (ss_if (st_of (sw_or (st_gt (SE.toQ (se_len (by rfl) T.m_len (sq_var (pv 3)))) (SE.toQ (se_sub (sq_var (pv 1)) (SE.toQ se_int)))) (sw_or1 (st_gt (SE.toQ (se_len (by rfl) T.m_len (sq_var (pv 4)))) (SE.toQ (se_sub (sq_var (pv 1)) (SE.toQ se_int))))))) (ss_one (ss_ret se_bl)) ss_nil)
  (ss_one (ss_ret (se_eq (SE.toQ (se_add (SE.toQ (se_add (sq_var (pv 3)) (sq_var (pv 2)))) (sq_var (pv 4)))) (SE.toQ (SF.toE (sf_listRg C.calm (by rfl) T.m_list (by rfl) T.m_range (se_var (pv 1))))) C.units))))))))
noncomputable def g__law_refused : En → Oc Res :=
  (sq (tryO [("InvalidProcess" : Str)] [] (cal F_Process___init__ 2 [] (aC (vr 0) (aC (lsd aN) aN))) (ret (cst (.bl true))))
  (ret (cst (.bl false))))
noncomputable def F__law_refused : List D → Oc D := fnB 1 1 g__law_refused
theorem K__law_refused (T : Facts K mg) (TB : Tbs K mg base) : Kn P w K mg base 5 "_law_refused" 1 [] F__law_refused := by
  obtain ⟨f, fd, F, gm⟩ := T.f__law_refused
  have K_Process___init__ := K_Process___init__ (P := P) (w := w) (base := base) T TB
  refine ⟨f, fd, ["_law_size"], [], [], fnD_ok (N := N__law_refused) (k := 4) F sc__law_refused (fun cdv A outer s H E hc hr C => ?_), gm, F.kp, (F.bindsN fun _ _ _ _ _ _ us hl => match us, hl with | [_], _ => rfl), .nil, fun _ => .nil⟩
  obtain ⟨C_InvalidProcess, gC_InvalidProcess⟩ := T.g_InvalidProcess
  have hp := po_def (P := P) (w := w) (K := K) (mg := mg) (base := base) (N := N__law_refused) (qual := "_law_refused") (sc := defScope s__law_refused) (f := f) (cdv := cdv) (A := A) (outer := outer) (s := s) (H := H) (E := E)
  exact (ss_cons (ss_tryO (cs := [("InvalidProcess" : Str)]) (ns := []) C rfl rfl gC_InvalidProcess (by rfl) (by decide) (List.forall_mem_cons.mpr ⟨T.h_InvalidProcess_InvalidProcess, (fun _ z => absurd z List.not_mem_nil)⟩) (fun _ z => absurd z List.not_mem_nil) (fun W1 pn1 xe1 C1 => (SF.toE (sf_make K_Process___init__ C1 (hr.mono (by decide)) (by rfl) (sa_cons (se_var (pv 0)) (sa_cons (SF.toE (sf_lst sa_nil)) sa_nil))))) (by rfl) (fun a1 pn1 => (ss_one (ss_ret se_bl))))
  (ss_one (ss_ret se_bl)))
noncomputable def g_law : En → Oc Res :=
  (sq (asg 1 (bi subD (bi modD (cal F__law_cell 2 [] (aC (vr 0) (aC (cst (.int 0)) aN))) (cst (.int 7))) (cst (.int 1))))
  (sq (asg 2 (bi addD (cal F__law_row 2 [] (aC (cal F__law_cell 2 [] (aC (vr 0) (aC (cst (.int 1)) aN))) (aC (cst (.int 6)) aN))) (slc (vo 0) (some (cst (.int 3))) (some (cst (.int 8))))))
  (sq (asg 3 (lc (.one 10) [10] (itm (slc (vo 2) none (some (bi modD (cal F__law_cell 2 [] (aC (vr 0) (aC (cst (.int 2)) aN))) (cst (.int 7)))))) yes (cal F__law_window 2 [] (aC (vr 10) (aC (unA maxM (aC (cst (.int 1)) (aC (unA minM (aC (vr 1) (aC (cst (.int 3)) aN))) aN))) aN)))))
  (sq (iff (tst (bi eqD (bi modD (bi fdivD (cal F__law_cell 2 [] (aC (vr 0) (aC (cst (.int 2)) aN))) (cst (.int 7))) (cst (.int 2))) (cst (.int 0)))) (asg 3 (lc (.one 11) [11] (rng1 (aC (un lenD (vo 3)) aN)) (an (tst (bi ninD (bi ixD (vo 3) (vo 11)) (slc (vo 3) none (some (vr 11))))) (tst (cal F__law_is_good 2 [] (aC (bi ixD (vo 3) (vo 11)) (aC (vr 1) aN))))) (bi ixD (vo 3) (vo 11)))) sNx)
  (sq (asg 4 (lc (.one 11) [11] (rng1 (aC (un lenD (vo 3)) aN)) (orr (tst (bi inD (bi ixD (vo 3) (vo 11)) (slc (vo 3) none (some (vr 11))))) (nt (tst (cal F__law_is_good 2 [] (aC (bi ixD (vo 3) (vo 11)) (aC (vr 1) aN)))))) (vr 11)))
  (sq (asg 5 (anV (chn (cst (.int 1)) (vo 1) (cst (.int 3))) (bi eqD (un lenD (vo 4)) (cst (.int 0)))))
  (sq (asg 6 (lc (.one 12) [12] (itm (vr 3)) yes (un listD (vo 12))))
  (sq (fr (.one 7) (itm (lsd (aC (cst (.bl true)) (aC (cst (.bl false)) aN)))) (iff (nt (tst (cal F__law_refused 1 [] (aC (vr 7) aN)))) (ret (cst (.bl false))) sNx))
  (sq (iff (tst (bi eqD (bi modD (bi fdivD (cal F__law_cell 2 [] (aC (vr 0) (aC (cst (.int 2)) aN))) (cst (.int 14))) (cst (.int 2))) (cst (.int 1)))) (asg 6 (un tupleD (lc (.one 12) [12] (itm (vr 3)) yes (un tupleD (vo 12))))) sNx)
  (sq (tryA 8 9 [("InvalidProcess" : Str)] [] (cal F_Process___init__ 2 [] (aC (vr 1) (aC (vr 6) aN))) (fun a1 => (ret (anV (ntV (vr 5)) (anV (isE a1 9 true) (ntV (isE a1 9 false)))))))
  (sq (asg 6 (lc (.one 12) [12] (itm (vr 6)) yes (un listD (vo 12))))
  (ret (anV (vr 5) (anV (bi eqD (un (fldD [("Process" : Str)] "windows") (vo 8)) (un tupleD (vo 3))) (bi eqD (vo 6) (lc (.one 12) [12] (itm (vr 3)) yes (un listD (vo 12))))))))))))))))))
noncomputable def F_law : List D → Oc D := fnB 13 1 g_law
theorem law_fn (T : Facts K mg) (TB : Tbs K mg base) {f : Addr} {fd : FuncData} (F : FunD K "law" "law" (defArgs s_law) (defBody s_law) (defScope s_law) [] [] f fd) : FnOk P w K mg base (L2.CX P w) 6 f fd ["_law_script"] (spF K mg 1 F_law) := by
  have K__law_cell := K__law_cell (P := P) (w := w) (base := base) T TB
  have K__law_is_good := K__law_is_good (P := P) (w := w) (base := base) T TB
  have K__law_refused := K__law_refused (P := P) (w := w) (base := base) T TB
  have K__law_row := K__law_row (P := P) (w := w) (base := base) T TB
  have KF__law_row := KF__law_row (P := P) (w := w) (base := base) T TB
  have K__law_window := K__law_window (P := P) (w := w) (base := base) T TB
  have K_Process___init__ := K_Process___init__ (P := P) (w := w) (base := base) T TB
  refine fnD_ok (N := N_law) (k := 5) F sc_law (fun cdv A outer s H E hc hr C => ?_)
  obtain ⟨C_InvalidSetting, gC_InvalidSetting⟩ := T.g_InvalidSetting
  obtain ⟨C_InvalidProcess, gC_InvalidProcess⟩ := T.g_InvalidProcess
  obtain ⟨C_CaseError, gC_CaseError⟩ := T.g_CaseError
  have hp := po_def (P := P) (w := w) (K := K) (mg := mg) (base := base) (N := N_law) (qual := "law") (sc := defScope s_law) (f := f) (cdv := cdv) (A := A) (outer := outer) (s := s) (H := H) (E := E)
  exact (ss_cons (ss_set (i := 1) C rfl (by first | exact Or.inl rfl | exact Or.inr rfl) (se_sub (SE.toQ (se_mod (SE.toQ (se_call K__law_cell C (hr.mono (by decide)) (by rfl) (sa_cons (se_var (pv 0)) (sa_cons se_int sa_nil)))) (SE.toQ se_int))) (SE.toQ se_int)))
  (ss_cons (ss_set (i := 2) C rfl (by first | exact Or.inl rfl | exact Or.inr rfl) (se_add (SE.toQ (se_call K__law_row C (hr.mono (by decide)) (by rfl) (sa_cons (se_call K__law_cell C (hr.mono (by decide)) (by rfl) (sa_cons (se_var (pv 0)) (sa_cons se_int sa_nil))) (sa_cons se_int sa_nil)))) (SE.toQ (se_sl (sq_var (pv 0)) (so_some se_int) (so_some se_int)))))
  (ss_cons (ss_set (i := 3) C rfl (by first | exact Or.inl rfl | exact Or.inr rfl) (SF.toE (sf_lc C (si_seq (se_sl (sq_var (pv 2)) so_none (so_some (se_mod (SE.toQ (se_call K__law_cell C (hr.mono (by decide)) (by rfl) (sa_cons (se_var (pv 0)) (sa_cons se_int sa_nil)))) (SE.toQ se_int))))) (blkOk_by (own := [("_law_number", 10)]) (N := N_law) (sc := defScope s_law) (by decide +kernel)) (fun _ _ _ _ _ => (st_one (Ctx.blk C _ _ _ _ _).nd rfl (by first | exact Or.inl rfl | exact Or.inr rfl))) (fun _ _ _ _ _ => sts_nil) (fun _ _ _ _ _ => (se_call K__law_window (Ctx.blk C _ _ _ _ _) (hr.mono (by decide)) (by rfl) (sa_cons (se_var (pv 10)) (sa_cons (se_max2 (Ctx.blk C _ _ _ _ _).calm (by rfl) T.m_max (sa_cons se_int (sa_cons (se_min2 (Ctx.blk C _ _ _ _ _).calm (by rfl) T.m_min (sa_cons (se_var (pv 1)) (sa_cons se_int sa_nil))) sa_nil))) sa_nil)))) (by decide))))
  (ss_cons (ss_if (st_eq (SE.toQ (se_mod (SE.toQ (se_fdiv (SE.toQ (se_call K__law_cell C (hr.mono (by decide)) (by rfl) (sa_cons (se_var (pv 0)) (sa_cons se_int sa_nil)))) (SE.toQ se_int))) (SE.toQ se_int))) (SE.toQ se_int) C.units) (ss_one (ss_set (i := 3) C rfl (by first | exact Or.inl rfl | exact Or.inr rfl) (SF.toE (sf_lc C (si_rng1 (by rfl) T.m_range (sa_cons (se_len (by rfl) T.m_len (sq_var (pv 3))) sa_nil)) (blkOk_by (own := [("_law_k", 11)]) (N := N_law) (sc := defScope s_law) (by decide +kernel)) (fun _ _ _ _ _ => (st_one (Ctx.blk C _ _ _ _ _).nd rfl (by first | exact Or.inl rfl | exact Or.inr rfl))) (fun _ _ _ _ _ => (sts_one (st_of (sw_and (st_nin (SE.toQ (se_ix (sq_var (pv 3)) (sq_var (pv 11)) (fun _ _ => rfl))) (SE.toQ (se_sl (sq_var (pv 3)) so_none (so_some (se_var (pv 11))))) (Ctx.blk C _ _ _ _ _).units) (sw_and1 (st_val (se_call K__law_is_good (Ctx.blk C _ _ _ _ _) (hr.mono (by decide)) (by rfl) (sa_cons (se_ix (sq_var (pv 3)) (sq_var (pv 11)) (fun _ _ => rfl)) (sa_cons (se_var (pv 1)) sa_nil))))))))) (fun _ _ _ _ _ => (se_ix (sq_var (pv 3)) (sq_var (pv 11)) (fun _ _ => rfl))) (by decide))))) ss_nil)
  (ss_cons (ss_setLc (i := 4) C rfl rfl (sw_true rfl rfl rfl (by decide +kernel)) (si_rng1 (by rfl) T.m_range (sa_cons (se_len (by rfl) T.m_len (sq_var (pv 3))) sa_nil)) (blkOk_by (own := [("_law_k", 11)]) (N := N_law) (sc := defScope s_law) (by decide +kernel)) (fun _ _ _ _ _ => (st_one (Ctx.blk C _ _ _ _ _).nd rfl (by first | exact Or.inl rfl | exact Or.inr rfl))) (fun _ _ _ _ _ => (sts_one (st_of (sw_or (st_in (SE.toQ (se_ix (sq_var (pv 3)) (sq_var (pv 11)) (fun _ _ => rfl))) (SE.toQ (se_sl (sq_var (pv 3)) so_none (so_some (se_var (pv 11))))) (Ctx.blk C _ _ _ _ _).units) (sw_or1 (st_not (st_val (se_call K__law_is_good (Ctx.blk C _ _ _ _ _) (hr.mono (by decide)) (by rfl) (sa_cons (se_ix (sq_var (pv 3)) (sq_var (pv 11)) (fun _ _ => rfl)) (sa_cons (se_var (pv 1)) sa_nil)))))))))) (fun _ _ _ _ _ => (se_var (pv 11))) (by decide))
  (ss_cons (ss_set (i := 5) C rfl (by first | exact Or.inl rfl | exact Or.inr rfl) (se_and (se_chain (SE.toQ se_int) (sq_var (pv 1)) (SE.toQ se_int)) (se_one (se_eq (SE.toQ (se_len (by rfl) T.m_len (sq_var (pv 4)))) (SE.toQ se_int) C.units))))
  (ss_cons (ss_setLc (i := 6) C rfl rfl (sw_true rfl rfl rfl (by decide +kernel)) (si_seq (se_var (pv 3))) (blkOk_by (own := [("_law_window_here", 12)]) (N := N_law) (sc := defScope s_law) (by decide +kernel)) (fun _ _ _ _ _ => (st_one (Ctx.blk C _ _ _ _ _).nd rfl (by first | exact Or.inl rfl | exact Or.inr rfl))) (fun _ _ _ _ _ => sts_nil) (fun _ _ _ _ _ => (SF.toE (sf_list (by rfl) T.m_list (sq_var (pv 12))))) (by decide))
  (ss_cons (ss_for C hp (si_seq (SF.toE (sf_lst (sa_cons se_bl (sa_cons se_bl sa_nil))))) (st_one C.nd rfl (by first | exact Or.inl rfl | exact Or.inr rfl)) (ss_one (ss_if (st_not (st_val (se_call K__law_refused C (hr.mono (by decide)) (by rfl) (sa_cons (se_var (pv 7)) sa_nil)))) (ss_one (ss_ret se_bl)) ss_nil)))
  (ss_cons (ss_if (st_eq (SE.toQ (se_mod (SE.toQ (se_fdiv (SE.toQ (se_call K__law_cell C (hr.mono (by decide)) (by rfl) (sa_cons (se_var (pv 0)) (sa_cons se_int sa_nil)))) (SE.toQ se_int))) (SE.toQ se_int))) (SE.toQ se_int) C.units) (ss_one (ss_set (i := 6) C rfl (by first | exact Or.inl rfl | exact Or.inr rfl) (se_tuple (by rfl) T.m_tuple (SE.toQ (SF.toE (sf_lc C (si_seq (se_var (pv 3))) (blkOk_by (own := [("_law_window_here", 12)]) (N := N_law) (sc := defScope s_law) (by decide +kernel)) (fun _ _ _ _ _ => (st_one (Ctx.blk C _ _ _ _ _).nd rfl (by first | exact Or.inl rfl | exact Or.inr rfl))) (fun _ _ _ _ _ => sts_nil) (fun _ _ _ _ _ => (se_tuple (by rfl) T.m_tuple (sq_var (pv 12)))) (by decide))))))) ss_nil)
  (ss_cons (ss_tryA (i := 8) (j := 9) (cs := [("InvalidProcess" : Str)]) (ns := []) C rfl rfl gC_InvalidProcess (by rfl) (by decide) rfl (by first | exact Or.inl rfl | exact Or.inr rfl) (by first | exact Or.inl rfl | exact Or.inr rfl) rfl rfl (List.forall_mem_cons.mpr ⟨T.h_InvalidProcess_InvalidProcess, (fun _ z => absurd z List.not_mem_nil)⟩) (fun _ z => absurd z List.not_mem_nil) (fun W1 pn1 xe1 C1 => (SF.toE (sf_make K_Process___init__ C1 (hr.mono (by decide)) (by rfl) (sa_cons (se_var (pv 1)) (sa_cons (se_var (pv 6)) sa_nil))))) (by rfl) (fun a1 oe1 c1 Cl1 pn1 hc1 m1 hz1 hv1 => by
    obtain rfl : c1 = "InvalidProcess" := by simpa using hc1
    exact (ss_one (ss_ret (se_and (se_not (se_var (pv 5))) (se_and (se_isE (b := true) (T.e_InvalidProcess _ m1) hz1 hv1 (by rfl) T.m_isinstance (by rfl) gC_CaseError (by decide) (T.k_InvalidProcess_CaseError _ _ m1 gC_CaseError) (pv 9)) (se_one (se_not (se_isE (b := false) (T.e_InvalidProcess _ m1) hz1 hv1 (by rfl) T.m_isinstance (by rfl) gC_InvalidSetting (by decide) (T.k_InvalidProcess_InvalidSetting _ _ m1 gC_InvalidSetting) (pv 9))))))))))
  (ss_cons (ss_setLc (i := 6) C rfl rfl (sw_true rfl rfl rfl (by decide +kernel)) (si_seq (se_var (pv 6))) (blkOk_by (own := [("_law_window_here", 12)]) (N := N_law) (sc := defScope s_law) (by decide +kernel)) (fun _ _ _ _ _ => (st_one (Ctx.blk C _ _ _ _ _).nd rfl (by first | exact Or.inl rfl | exact Or.inr rfl))) (fun _ _ _ _ _ => sts_nil) (fun _ _ _ _ _ => (SF.toE (sf_list (by rfl) T.m_list (sq_var (pv 12))))) (by decide))
  (ss_one (ss_ret (se_and (se_var (pv 5)) (se_and (se_eq (SE.toQ (se_fld (cs := [("Process" : Str)]) (T.a_windows) (sq_var (pv 8)))) (SE.toQ (se_tuple (by rfl) T.m_tuple (sq_var (pv 3)))) C.units) (se_one (se_eq (sq_var (pv 6)) (SE.toQ (SF.toE (sf_lc C (si_seq (se_var (pv 3))) (blkOk_by (own := [("_law_window_here", 12)]) (N := N_law) (sc := defScope s_law) (by decide +kernel)) (fun _ _ _ _ _ => (st_one (Ctx.blk C _ _ _ _ _).nd rfl (by first | exact Or.inl rfl | exact Or.inr rfl))) (fun _ _ _ _ _ => sts_nil) (fun _ _ _ _ _ => (SF.toE (sf_list (by rfl) T.m_list (sq_var (pv 12))))) (by decide)))) C.units)))))))))))))))))
end
end Lw

set_option Elab.async false
set_option linter.all false
set_option maxRecDepth 100000
set_option maxHeartbeats 4000000
namespace Lw
open Fx
theorem V_cell (ns : List Int) (k : Nat) : F__law_cell [.fz (ns.map .int), .int k] = .ok (.int (ns.getD k 0)) := by
  unfold F__law_cell g__law_cell
  by_cases h : k < ns.length
  · simp [h, ixL_nat (i := k) (d := .int ns[k]) (ds := ns.map D.int) (by simp [h])]
  · simp [h, List.getElem?_eq_none (Nat.le_of_not_lt h)]
def rowStep (big : Bool) (st : Int × Int) (k : Int) : Int × (Int × Int) :=
  if big then (st.1 % 840, (st.1 / 840, st.2)) else
    let s := (st.2 * 48271 + k) % 2147483647
    ((s * 69621) % 2147483629 / 7 % 840, (st.1, s))
def rowL (big : Bool) : List Int → Int × Int → List Int
  | [], _ => []
  | k :: ks, st => (rowStep big st k).1 :: rowL big ks (rowStep big st k).2
def row (c : Int) (n : Nat) : List Int := rowL (decide (10 ^ 18 ≤ c)) ((List.range n).map fun (i : Nat) => (i : Int)) (c, c % 2147483629 + 1)
theorem rowL_length (big : Bool) : ∀ (ks : List Int) (st : Int × Int), (rowL big ks st).length = ks.length
  | [], _ => rfl
  | k :: ks, st => by simp [rowL, rowL_length big ks]
theorem row_length (c : Int) (n : Nat) : (row c n).length = n := by simp [row, rowL_length]
theorem rowL_range (big : Bool) : ∀ (ks : List Int) (st : Int × Int), ∀ x ∈ rowL big ks st, 0 ≤ x ∧ x < 840
  | [], _, x, h => by simp [rowL] at h
  | k :: ks, st, x, h => by
    unfold rowL at h
    rcases List.mem_cons.mp h with e | h
    · subst e
      unfold rowStep
      split <;> simp only <;> omega
    · exact rowL_range big ks _ x h
theorem row_range (c : Int) (n : Nat) : ∀ x ∈ row c n, 0 ≤ x ∧ x < 840 := rowL_range _ _ _
theorem rngL_zero (n : Nat) : rngL 0 n = ((List.range n).map fun (i : Nat) => (i : Int)).map D.int := by simp [rngL]
theorem loop_row (c n : Int) : ∀ (ks : List Int) (acc : List Int) (st : Int × Int) (o : Sl), acc.length + ks.length ≤ 1000 → ∃ x y z, forL (Tg.one 5)
          (iff (tst (bi (cmpD fun i j => decide (j ≤ i)) (vo 0) (bi powD (cst (D.int 10)) (cst (D.int 18)))))
            (sq (app 2 (bi modD (un intD (vo 3)) (cst (D.int 840)))) (asg 3 (bi fdivD (vo 3) (cst (D.int 840)))))
            (sq
              (asg 4 (bi modD (un intD (bi addD (bi mulD (vo 4) (cst (D.int 48271))) (vo 5))) (cst (D.int 2147483647))))
              (app 2
                (bi modD
                  (bi fdivD (bi modD (un intD (bi mulD (vo 4) (cst (D.int 69621)))) (cst (D.int 2147483629)))
                    (cst (D.int 7)))
                  (cst (D.int 840))))))
          (ks.map D.int)
          [.sh (.int c), .sh (.int n), .ow (.lst (acc.map .int)), .sh (.int st.1), .sh (.int st.2), o] = .ok (.nx [.sh (.int c), .sh (.int n), .ow (.lst ((acc ++ rowL (decide (10 ^ 18 ≤ c)) ks st).map .int)), x, y, z])
  | [], acc, st, o, _ => ⟨_, _, _, by simp [forL_nil, rowL]; exact ⟨rfl, rfl, rfl⟩⟩
  | k :: ks, acc, st, o, h => by
    rw [List.map_cons, forL_step (bindT_one _ _ _)]
    simp only [List.length_cons] at h
    have hl : (acc.map D.int).length ≤ 1000000 := by simp; omega
    by_cases hb : 10 ^ 18 ≤ c
    · have hb2 : (1000000000000000000 : Int) ≤ c := by simpa using hb
      obtain ⟨x, y, z, ih⟩ := loop_row c n ks (acc ++ [st.1 % 840]) (st.1 / 840, st.2) (.sh (.int k)) (by simp; omega)
      refine ⟨x, y, z, ?_⟩
      simp [chk, hb2, appR_ok hl]
      simp [hb2] at ih
      rw [ih]
      simp [rowL, rowStep]
    · have hb2 : ¬ (1000000000000000000 : Int) ≤ c := by simpa using hb
      obtain ⟨x, y, z, ih⟩ := loop_row c n ks (acc ++ [((st.2 * 48271 + k) % 2147483647 * 69621) % 2147483629 / 7 % 840]) (st.1, (st.2 * 48271 + k) % 2147483647) (.sh (.int k)) (by simp; omega)
      refine ⟨x, y, z, ?_⟩
      simp [chk, hb2, appR_ok hl]
      simp [hb2] at ih
      rw [ih]
      simp [rowL, rowStep]
theorem V_row (c : Int) (n : Nat) (hn : n ≤ 1000) : F__law_row [.int c, .int n] = .ok (.lst ((row c n).map .int)) := by
  unfold F__law_row g__law_row
  simp [rng1R_nat (show n ≤ 1000000 by omega), chk]
  rw [rngL_zero]
  obtain ⟨x, y, z, h⟩ := loop_row c n ((List.range n).map fun (i : Nat) => (i : Int)) [] (c, c % 2147483629 + 1) .no (by simp; omega)
  simp only [List.map_nil] at h
  rw [h]
  simp [row]
end Lw

set_option Elab.async false
set_option linter.all false
set_option maxRecDepth 100000
set_option maxHeartbeats 4000000
namespace Lw
open Fx
open PySem (Str PyData)
def okB : Oc D → Option Bool
  | .ok (.bl b) => some b
  | _ => none
theorem okB_some {o : Oc D} {b : Bool} (h : okB o = some b) : o = .ok (.bl b) := by
  unfold okB at h
  split at h
  · cases h; rfl
  · cases h
def sg : Nat → Str
  | 0 => "<"
  | 1 => "go"
  | 2 => "stop"
  | _ => ">"
def encC (w : List Nat) : D := .tup (w.map fun k => .str (sg k))
def words : Nat → List (List Nat)
  | 0 => [[]]
  | n + 1 => (words n).flatMap fun w => [0 :: w, 1 :: w, 2 :: w, 3 :: w]
noncomputable def test1 (sz : Int) (w : List Nat) : Bool := okB (F_is_window [.int sz, encC w]) == okB (F__law_is_good [encC w, .int sz]) && (okB (F_is_window [.int sz, encC w])).isSome
theorem t0 : (words 0).all (test1 1) = true ∧ (words 0).all (test1 2) = true ∧ (words 0).all (test1 3) = true := by decide +kernel
theorem t1 : (words 1).all (test1 1) = true ∧ (words 1).all (test1 2) = true ∧ (words 1).all (test1 3) = true := by decide +kernel
theorem t2 : (words 2).all (test1 1) = true ∧ (words 2).all (test1 2) = true ∧ (words 2).all (test1 3) = true := by decide +kernel
theorem t3 : (words 3).all (test1 1) = true ∧ (words 3).all (test1 2) = true ∧ (words 3).all (test1 3) = true := by decide +kernel
theorem t4 : (words 4).all (test1 1) = true ∧ (words 4).all (test1 2) = true ∧ (words 4).all (test1 3) = true := by decide +kernel
end Lw

set_option Elab.async false
set_option linter.all false
set_option maxRecDepth 100000
set_option maxHeartbeats 4000000
namespace Lw
open Fx
open PySem (Str PyData)
open PySem.PyData (strOk)
structure Wd (w : List Nat) : Prop where
  len : w.length ≤ 4
  lt : ∀ x ∈ w, x < 4
theorem mem_words : ∀ (n : Nat) (w : List Nat), w.length = n → (∀ x ∈ w, x < 4) → w ∈ words n
  | 0, w, h, _ => by rw [List.length_eq_zero_iff] at h; rw [h]; exact List.mem_singleton.mpr rfl
  | n + 1, [], h, _ => by simp at h
  | n + 1, x :: w, h, hx => by
    have ih := mem_words n w (by simpa using h) fun y hy => hx y (List.mem_cons_of_mem _ hy)
    have h4 := hx x List.mem_cons_self
    unfold words
    rw [List.mem_flatMap]
    refine ⟨w, ih, ?_⟩
    have : x = 0 ∨ x = 1 ∨ x = 2 ∨ x = 3 := by omega
    rcases this with e | e | e | e <;> subst e <;> simp
noncomputable def good (sz : Int) (w : List Nat) : Bool := (okB (F__law_is_good [encC w, .int sz])).getD false
noncomputable def test2 (sz : Int) (w : List Nat) : Bool := okB (F__law_is_good [encC w, .int sz]) == some false
def szs : List Int := [-1, 0, 4, 5]
theorem u0 : ((words 0).all fun w => szs.all fun sz => test2 sz w || decide (sz = 4)) = true := by decide +kernel
theorem u1 : ((words 1).all fun w => szs.all fun sz => test2 sz w || decide (sz = 4)) = true := by decide +kernel
theorem u2 : ((words 2).all fun w => szs.all fun sz => test2 sz w || decide (sz = 4)) = true := by decide +kernel
theorem u3 : ((words 3).all fun w => szs.all fun sz => test2 sz w || decide (sz = 4)) = true := by decide +kernel
theorem u4 : ((words 4).all fun w => szs.all fun sz => (okB (F__law_is_good [encC w, .int sz])).isSome) = true := by decide +kernel
theorem in_words {w : List Nat} (h : Wd w) : w ∈ words 0 ∨ w ∈ words 1 ∨ w ∈ words 2 ∨ w ∈ words 3 ∨ w ∈ words 4 := by
  have hl := h.len
  have m := mem_words w.length w rfl h.lt
  have : w.length = 0 ∨ w.length = 1 ∨ w.length = 2 ∨ w.length = 3 ∨ w.length = 4 := by omega
  rcases this with e | e | e | e | e <;> rw [e] at m <;> simp only [m, true_or, or_true]
theorem test1_ok {sz : Int} {w : List Nat} (h : test1 sz w = true) : F_is_window [.int sz, encC w] = .ok (.bl (good sz w)) ∧ F__law_is_good [encC w, .int sz] = .ok (.bl (good sz w)) := by
  unfold test1 at h
  rw [Bool.and_eq_true, beq_iff_eq] at h
  obtain ⟨b, hb⟩ := Option.isSome_iff_exists.mp h.2
  have h1 := h.1
  rw [hb] at h1
  have e : good sz w = b := by unfold good; rw [← h1]; rfl
  rw [e]
  exact ⟨okB_some hb, okB_some h1.symm⟩
theorem t_all {w : List Nat} (h : Wd w) : test1 1 w = true ∧ test1 2 w = true ∧ test1 3 w = true := by
  have key : ∀ n, w ∈ words n → (words n).all (test1 1) = true ∧ (words n).all (test1 2) = true ∧ (words n).all (test1 3) = true → test1 1 w = true ∧ test1 2 w = true ∧ test1 3 w = true :=
    fun n m ⟨a, b, c⟩ => ⟨List.all_eq_true.mp a w m, List.all_eq_true.mp b w m, List.all_eq_true.mp c w m⟩
  rcases in_words h with m | m | m | m | m
  · exact key 0 m t0
  · exact key 1 m t1
  · exact key 2 m t2
  · exact key 3 m t3
  · exact key 4 m t4
theorem V_isw {w : List Nat} (h : Wd w) {sz : Int} (h1 : 1 ≤ sz) (h3 : sz ≤ 3) : F_is_window [.int sz, encC w] = .ok (.bl (good sz w)) := by
  obtain ⟨a, b, c⟩ := t_all h
  have : sz = 1 ∨ sz = 2 ∨ sz = 3 := by omega
  rcases this with e | e | e <;> subst e
  · exact (test1_ok a).1
  · exact (test1_ok b).1
  · exact (test1_ok c).1
theorem V_good {w : List Nat} (h : Wd w) {sz : Int} (h1 : -1 ≤ sz) (h5 : sz ≤ 5) : F__law_is_good [encC w, .int sz] = .ok (.bl (good sz w)) := by
  obtain ⟨a, b, c⟩ := t_all h
  have : sz = 1 ∨ sz = 2 ∨ sz = 3 ∨ sz ∈ szs := by simp only [szs, List.mem_cons, List.mem_nil_iff, or_false]; omega
  rcases this with e | e | e | e
  · subst e; exact (test1_ok a).2
  · subst e; exact (test1_ok b).2
  · subst e; exact (test1_ok c).2
  · have hs : (okB (F__law_is_good [encC w, .int sz])).isSome = true := by
      have t2s : ∀ {sz w}, test2 sz w = true → (okB (F__law_is_good [encC w, .int sz])).isSome = true := fun {sz w} h => by
        unfold test2 at h
        rw [beq_iff_eq] at h
        rw [h]; rfl
      have z : ∀ n, w ∈ words n → ((words n).all fun w => szs.all fun sz => test2 sz w || decide (sz = 4)) = true → sz ≠ 4 → (okB (F__law_is_good [encC w, .int sz])).isSome = true := fun n m t hne => by
        have := List.all_eq_true.mp (List.all_eq_true.mp t w m) sz e
        rw [Bool.or_eq_true, decide_eq_true_eq] at this
        exact this.elim t2s fun z => absurd z hne
      by_cases h4 : sz = 4
      · subst h4
        rcases in_words h with m | m | m | m | m
        · exact t2s (List.all_eq_true.mp (show (words 0).all (test2 4) = true by decide +kernel) w m)
        · exact t2s (List.all_eq_true.mp (show (words 1).all (test2 4) = true by decide +kernel) w m)
        · exact t2s (List.all_eq_true.mp (show (words 2).all (test2 4) = true by decide +kernel) w m)
        · exact t2s (List.all_eq_true.mp (show (words 3).all (test2 4) = true by decide +kernel) w m)
        · exact List.all_eq_true.mp (List.all_eq_true.mp u4 w m) _ e
      · rcases in_words h with m | m | m | m | m
        · exact z 0 m u0 h4
        · exact z 1 m u1 h4
        · exact z 2 m u2 h4
        · exact z 3 m u3 h4
        · exact List.all_eq_true.mp (List.all_eq_true.mp u4 w m) _ e
    obtain ⟨b, hb⟩ := Option.isSome_iff_exists.mp hs
    have e : good sz w = b := by unfold good; rw [hb]; rfl
    rw [e]; exact okB_some hb
/-! comparing -/
theorem sg_ok : ∀ k, strOk (sg k) = true := by
  intro k
  have : k = 0 ∨ k = 1 ∨ k = 2 ∨ 3 ≤ k := by omega
  rcases this with e | e | e | e
  · subst e; decide +kernel
  · subst e; decide +kernel
  · subst e; decide +kernel
  · obtain ⟨j, rfl⟩ : ∃ j, k = j + 3 := ⟨k - 3, by omega⟩
    show strOk (">" : Str) = true
    decide +kernel
theorem sg_inj : ∀ a b, a < 4 → b < 4 → (sg a == sg b) = decide (a = b) := by
  intro a b ha hb
  have h1 : a = 0 ∨ a = 1 ∨ a = 2 ∨ a = 3 := by omega
  have h2 : b = 0 ∨ b = 1 ∨ b = 2 ∨ b = 3 := by omega
  rcases h1 with e | e | e | e <;> rcases h2 with f | f | f | f <;> subst e <;> subst f <;> decide +kernel
abbrev pdC (w : List Nat) : List PyData := w.map fun k => .str (sg k)
theorem pn_L (w : List Nat) : PnL 0 (w.map fun k => .str (sg k)) (pdC w) := PnL.map fun x _ => Pn.str 0 (sg_ok x)
theorem pn_C (w : List Nat) : Pn 1 (encC w) (.tuple (pdC w)) := PnL.tup (pn_L w)
theorem eqv_all : ∀ (a b : List Nat), (∀ x ∈ a, x < 4) → (∀ x ∈ b, x < 4) → PyData.eqvAll (pdC a) (pdC b) = decide (a = b)
  | [], [], _, _ => by simp [PyData.eqvAll]
  | [], y :: b, _, _ => by simp [PyData.eqvAll]
  | x :: a, [], _, _ => by simp [PyData.eqvAll]
  | x :: a, y :: b, ha, hb => by
    simp only [pdC, List.map_cons, PyData.eqvAll, eqv_str]
    rw [sg_inj x y (ha x List.mem_cons_self) (hb y List.mem_cons_self), eqv_all a b (fun z h => ha z (List.mem_cons_of_mem _ h)) fun z h => hb z (List.mem_cons_of_mem _ h)]
    rw [Bool.eq_iff_iff]
    simp
theorem eqv_C {a b : List Nat} (ha : ∀ x ∈ a, x < 4) (hb : ∀ x ∈ b, x < 4) : PyData.eqv (.tuple (pdC a)) (.tuple (pdC b)) = decide (a = b) := by
  simpa [PyData.eqv] using eqv_all a b ha hb
theorem in_C {w : List Nat} {ws : List (List Nat)} (h : Wd w) (hs : ∀ x ∈ ws, Wd x) : inB (encC w) (.lst (ws.map encC)) = some (decide (w ∈ ws)) ∧ inB (encC w) (.tup (ws.map encC)) = some (decide (w ∈ ws)) := by
  have e : (ws.map fun x => PyData.tuple (pdC x)).any (fun z => PyData.eqv z (.tuple (pdC w))) = decide (w ∈ ws) := by
    rw [List.any_map, Bool.eq_iff_iff, List.any_eq_true]
    simp only [Function.comp_def, decide_eq_true_eq]
    constructor
    · rintro ⟨x, hx, h2⟩
      rw [eqv_C (hs x hx).lt h.lt, decide_eq_true_eq] at h2
      rw [← h2]; exact hx
    · intro hw
      exact ⟨w, hw, by rw [eqv_C h.lt h.lt]; simp⟩
  exact ⟨by rw [inB_lst (pn_C w) (PnL.map fun x _ => pn_C x), e], by rw [inB_tup (pn_C w) (PnL.map fun x _ => pn_C x), e]⟩
end Lw

set_option Elab.async false
set_option linter.all false
set_option maxRecDepth 100000
set_option maxHeartbeats 4000000
namespace Lw
open Fx
open PySem (Str PyData)
open PySem.PyData (strOk)
def encI (f : List Nat) : List D := f.map fun (e : Nat) => D.int (e : Int)
@[simp] theorem encI_len (f : List Nat) : (encI f).length = f.length := by simp [encI]
theorem rngL_nat (n : Nat) : rngL 0 n = encI (List.range n) := by simp [rngL, encI]
theorem eqD_ints (i j : Int) : eqD (.int i) (.int j) = .ok (.bl (decide (i = j))) := by rw [eqD_val (Pn.int 0 i) (Pn.int 0 j), eqv_int, Bool.beq_eq_decide_eq]
theorem neD_ints (i j : Int) : neD (.int i) (.int j) = .ok (.bl (!decide (i = j))) := by rw [neD_val (Pn.int 0 i) (Pn.int 0 j), eqv_int, Bool.beq_eq_decide_eq]
theorem isi_int (i : Int) : isiD "int" (.int i) = .ok (.bl true) := by unfold isiD; simp only [tyName]; rfl
theorem isi_bool (i : Int) : isiD "bool" (.int i) = .ok (.bl false) := by unfold isiD; simp only [tyName]; rfl
theorem isi_intB (i : Bool) : isiD "int" (.bl i) = .ok (.bl true) := by unfold isiD; simp only [tyName]; rfl
theorem isi_boolB (i : Bool) : isiD "bool" (.bl i) = .ok (.bl true) := by unfold isiD; simp only [tyName]; rfl
def sok (sz : Int) : Bool := decide (1 ≤ sz) && decide (sz ≤ 3)
theorem V_size (sz : Int) : F_is_size [.int sz] = .ok (.bl (sok sz)) := by
  have e : chn (cst (.int 1)) (vo 0) (cst (.int 3)) [.sh (.int sz)] = .ok (.bl (sok sz)) := chn_ints rfl rfl rfl
  unfold F_is_size g_is_size
  simp [isi_int, isi_bool, e]
theorem V_sizeB (b : Bool) : F_is_size [.bl b] = .ok (.bl false) := by
  unfold F_is_size g_is_size
  simp [isi_intB, isi_boolB]
theorem cutD_takeG (ds : List D) (k : Nat) : cutD ds none (some (k : Int)) = ds.take k := by
  unfold cutD
  rw [show HT.sIx ds.length 0 none = 0 from rfl, show HT.sIx ds.length ds.length (some (k : Int)) = min k ds.length from HT.sIx_nat _ _ _]
  simp only [Nat.sub_zero, List.drop_zero]
  rw [List.take_eq_take_iff]
  omega
def newAt {α : Type} [DecidableEq α] (ws : List α) (k : Nat) : Bool := match ws[k]? with
  | some w => !decide (w ∈ ws.take k)
  | none => true
theorem newAt_lt {α : Type} [DecidableEq α] {ws : List α} {k : Nat} (hk : k < ws.length) : newAt ws k = !decide (ws[k] ∈ ws.take k) := by
  unfold newAt
  rw [List.getElem?_eq_getElem hk]
theorem nodup_take {α : Type} [DecidableEq α] (ws : List α) : (List.range ws.length).all (newAt ws) = decide ws.Nodup := by
  rw [Bool.eq_iff_iff, List.all_eq_true, decide_eq_true_eq]
  constructor
  · intro h
    rw [List.nodup_iff_pairwise_ne, List.pairwise_iff_getElem]
    intro i j hi hj hij e
    have := h j (List.mem_range.mpr hj)
    rw [newAt_lt hj] at this
    simp only [Bool.not_eq_true', decide_eq_false_iff_not] at this
    apply this
    rw [← e, List.mem_iff_getElem]
    exact ⟨i, by rw [List.length_take]; omega, by rw [List.getElem_take]⟩
  · intro nd k hk
    have hk := List.mem_range.mp hk
    rw [newAt_lt hk]
    simp only [Bool.not_eq_true', decide_eq_false_iff_not]
    intro hm
    obtain ⟨j, hj, ej⟩ := List.mem_iff_getElem.mp hm
    rw [List.length_take] at hj
    rw [List.getElem_take] at ej
    exact (List.pairwise_iff_getElem.mp nd) j k (by omega) hk (by omega) ej
theorem V_diff {ws : List (List Nat)} (hw : ∀ x ∈ ws, Wd x) (hl : ws.length ≤ 200) : F_are_different [.tup (ws.map encC)] = .ok (.bl (decide ws.Nodup)) := by
  have e1 : ∀ o : Sl, gaL (.one 1) [1] false (bi ninD (bi ixD (vo 0) (vo 1)) (slc (vo 0) none (some (vr 1)))) [.sh (.tup (ws.map encC)), o] (encI (List.range ws.length)) = .ok (.bl ((List.range ws.length).all (newAt ws))) := fun o => by
    refine gaL_all fun k hk => ⟨_, rfl, ?_⟩
    have hk := List.mem_range.mp hk
    have hg : ws[k]? = some ws[k] := List.getElem?_eq_getElem hk
    have e2 : ixL (ws.map encC) (k : Int) = .ok (encC ws[k]) := ixL_map hg
    have e3 : cutD (ws.map encC) none (some (k : Int)) = (ws.map encC).take k := cutD_takeG _ _
    have i1 := ninD_of (in_C (ws := ws.take k) (hw _ (List.getElem_mem hk)) fun x hx => hw x (List.mem_of_mem_take hx)).2
    rw [List.map_take] at i1
    simp [e2, e3, i1, newAt_lt hk]
  rw [nodup_take] at e1
  have er : rng1R [.int (ws.length : Nat)] = .ok (encI (List.range ws.length)) := by rw [rng1R_nat (by omega), rngL_nat]
  unfold F_are_different g_are_different
  simp [er, e1]
def encP (sz : Int) (ws : List (List Nat)) : D := .obj "Process" [("size", .int sz), ("windows", .tup (ws.map encC))]
noncomputable def fine (sz : Int) (ws : List (List Nat)) : Bool := sok sz && (ws.all (good sz) && decide ws.Nodup)
theorem V_process {sz : Int} {ws : List (List Nat)} {dw : D} {f : List Nat → D} (hw : ∀ x ∈ ws, Wd x) (hl : ws.length ≤ 200) (hi : items dw = some (ws.map f)) (hf : ∀ x, tupleD (f x) = .ok (encC x)) :
    F_Process___init__ [.int sz, dw] = if fine sz ws then .ok (encP sz ws) else .ex "InvalidProcess" := by
  have e1 : ∀ o0 o1 o2 o3 : Sl, lcL (.one 4) [4] yes (un tupleD (vo 4)) [o0, o1, o2, o3, .no] (ws.map f) = .ok (ws.map encC) := fun o0 o1 o2 o3 => lcL_map fun x hx => ⟨_, rfl, by simp [hf]⟩
  have z : ws.length ≤ 16777216 := by omega
  unfold F_Process___init__ g_Process___init__
  unfold fine
  cases hs : sok sz with
  | false => simp [hi, sizeLine_val, z, e1, V_size, hs, chk]; rfl
  | true =>
    have hs2 : 1 ≤ sz ∧ sz ≤ 3 := by
      unfold sok at hs
      rw [Bool.and_eq_true, decide_eq_true_eq, decide_eq_true_eq] at hs
      exact hs
    have e2 : ∀ o0 o2 : Sl, gaL (.one 4) [4] false (cal F_is_window 2 [] (aC (vr 1) (aC (vr 4) aN))) [o0, .sh (.int sz), o2, .sh (.tup (ws.map encC)), .no] (ws.map encC) = .ok (.bl (ws.all (good sz))) := fun o0 o2 => by
      refine gaL_all fun x hx => ⟨_, rfl, ?_⟩
      simp [V_isw (hw x hx) hs2.1 hs2.2]
    have e3 := V_diff hw hl
    cases ha : ws.all (good sz) with
    | false =>
      rw [ha] at e2
      simp [hi, sizeLine_val, z, e1, V_size, hs, e2, e3, chk]
      rfl
    | true =>
      rw [ha] at e2
      by_cases nd : ws.Nodup
      · simp [hi, sizeLine_val, z, e1, V_size, hs, e2, e3, chk, nd]
        rfl
      · simp [hi, sizeLine_val, z, e1, V_size, hs, e2, e3, chk, nd]
        rfl
/-! a drawn window -/
def E (w : List Nat) : List D := w.map fun k => .str (sg k)
@[simp] theorem E_len (a : List Nat) : (E a).length = a.length := by simp [E]
theorem E_app (a b : List Nat) : E (a ++ b) = E a ++ E b := by simp [E]
theorem sgn_ix {i : Nat} (h : i < 4) : ixL [D.str "<", .str "go", .str "stop", .str ">"] (i : Int) = .ok (.str (sg i)) := by
  have : i = 0 ∨ i = 1 ∨ i = 2 ∨ i = 3 := by omega
  rcases this with e | e | e | e <;> subst e <;> rfl
theorem sgn_ixI {i : Int} (h0 : 0 ≤ i) (h : i < 4) : ixL [D.str "<", .str "go", .str "stop", .str ">"] i = .ok (.str (sg i.toNat)) := by
  obtain ⟨n, rfl⟩ := Int.eq_ofNat_of_zero_le h0
  exact sgn_ix (by omega)
theorem rep_at {own : Nat} {ρ : En} {e : En → Oc D} {c : Nat} (n : Nat) (h : ∀ d : D, e ((wipeE ρ [own]).set own (.sh d)) = .ok (.str (sg c))) : lcL (.one own) [own] yes e ρ (encI (List.range n)) = .ok (E (List.replicate n c)) := by
  have e1 : E (List.replicate n c) = (List.range n).map fun _ => D.str (sg c) := by
    simp only [E, List.map_replicate]
    rw [List.map_const', List.length_range]
  rw [e1]
  exact lcL_map fun k hk => ⟨_, rfl, h _⟩
theorem rngI {i : Int} (h0 : 0 ≤ i) (h : i ≤ 1000) : rng1R [.int i] = .ok (encI (List.range i.toNat)) := by
  obtain ⟨n, rfl⟩ := Int.eq_ofNat_of_zero_le h0
  rw [rng1R_nat (by omega), rngL_nat]; rfl
theorem offs (i : Int) : ∃ n : Nat, ixL [D.int 1, .int 1, .int 1, .int 0, .int 2] (i % 5) = .ok (.int (n : Nat)) ∧ n ≤ 2 := by
  have h0 : 0 ≤ i % 5 := Int.emod_nonneg _ (by decide)
  have h5 : i % 5 < 5 := Int.emod_lt_of_pos _ (by decide)
  generalize i % 5 = j at h0 h5
  have : j = 0 ∨ j = 1 ∨ j = 2 ∨ j = 3 ∨ j = 4 := by omega
  rcases this with e | e | e | e | e <;> subst e
  · exact ⟨1, rfl, by decide⟩
  · exact ⟨1, rfl, by decide⟩
  · exact ⟨1, rfl, by decide⟩
  · exact ⟨0, rfl, by decide⟩
  · exact ⟨2, rfl, by decide⟩
theorem V_window (n : Int) {sz : Nat} (h1 : 1 ≤ sz) (h3 : sz ≤ 3) : ∃ w, F__law_window [.int n, .int (sz : Nat)] = .ok (encC w) ∧ Wd w := by
  by_cases hp : n % 2 = 0
  · obtain ⟨b, hb, hb3⟩ : ∃ b : Nat, n / 2 % 3 = (b : Int) ∧ b ≤ 2 := ⟨(n / 2 % 3).toNat, by omega, by omega⟩
    obtain ⟨e, he, he3⟩ : ∃ e : Nat, n / 6 % 3 = (e : Int) ∧ e ≤ 2 := ⟨(n / 6 % 3).toNat, by omega, by omega⟩
    obtain ⟨c, hc, hc3⟩ : ∃ c : Nat, 1 + n / 18 % 2 = (c : Int) ∧ c < 4 := ⟨(1 + n / 18 % 2).toNat, by omega, by omega⟩
    obtain ⟨m, hm⟩ : ∃ m : Nat, (if e < sz then (sz : Int) - e else 0) = (m : Int) := ⟨sz - e, by split <;> omega⟩
    have r1 : ∀ k : Nat, k ≤ 1000 → rng1R [.int (k : Nat)] = .ok (encI (List.range k)) := fun k hk => by rw [rng1R_nat (by omega), rngL_nat]
    have l1 : ∀ ρ : En, lcL (.one 6) [6] yes (cst (.str "<")) ρ (encI (List.range b)) = .ok (E (List.replicate b 0)) := fun ρ => rep_at b fun _ => rfl
    have l3 : ∀ ρ : En, lcL (.one 6) [6] yes (cst (.str ">")) ρ (encI (List.range e)) = .ok (E (List.replicate e 3)) := fun ρ => rep_at e fun _ => rfl
    have l2 : ∀ o1 o3 o4 o5 o6 : Sl, lcL (.one 6) [6] yes (bi ixD (vo 2) (bi addD (cst (.int 1)) (bi modD (bi fdivD (vo 0) (cst (.int 18))) (cst (.int 2))))) [.sh (.int n), o1, .sh (.lst [D.str "<", .str "go", .str "stop", .str ">"]), o3, o4, o5, o6] (encI (List.range sz)) = .ok (E (List.replicate sz c)) := fun o1 o3 o4 o5 o6 => rep_at sz fun _ => by
      simp [chk, hc, sgn_ix hc3]
    have cE : ∀ (w : List Nat) (k : Nat), cutD (E w) none (some (k : Int)) = E (w.take k) := fun w k => by rw [cutD_takeG]; simp [E, List.map_take]
    refine ⟨((List.replicate b 0 ++ List.replicate sz c).take m ++ List.replicate e 3).take sz, ?_, ?_, ?_⟩
    · have z1 : b + sz ≤ 16777216 := by omega
      have z2 : min m (b + sz) + e ≤ 16777216 := by omega
      have zb : b ≤ 16777216 := by omega
      have ze : e ≤ 16777216 := by omega
      have zs : sz ≤ 16777216 := by omega
      unfold F__law_window g__law_window
      simp [sizeLine_val, eqD_ints, hp, chk, hb, he, r1 b (by omega), r1 e (by omega), r1 sz (by omega), l1, l2, l3, hm, encC, zb, ze, zs, z1]
      rw [← E_app, cE]
      simp [z2]
      rw [← E_app, cE]
      simp [E]
    · rw [List.length_take]; omega
    · intro x hx
      have hx := List.mem_of_mem_take hx
      rcases List.mem_append.mp hx with h | h
      · have h := List.mem_of_mem_take h
        rcases List.mem_append.mp h with h | h
        · rw [List.mem_replicate] at h; omega
        · rw [List.mem_replicate] at h; omega
      · rw [List.mem_replicate] at h; omega
  · obtain ⟨m, hm, hm2⟩ := offs (n / 7)
    have hr : rng1R [.int ((sz : Int) - 1 + (m : Int))] = .ok (encI (List.range (sz - 1 + m))) := by
      rw [rngI (by omega) (by omega)]
      congr 3
      omega
    have l2 : ∀ o1 o3 o4 o5 o6 : Sl, lcL (.one 6) [6] yes (bi ixD (vo 2) (bi modD (bi fdivD (vo 0) (bi addD (cst (.int 2)) (bi mulD (cst (.int 3)) (vo 6)))) (cst (.int 4)))) [.sh (.int n), o1, .sh (.lst [D.str "<", .str "go", .str "stop", .str ">"]), o3, o4, o5, o6] (encI (List.range (sz - 1 + m))) = .ok ((List.range (sz - 1 + m)).map fun (k : Nat) => D.str (sg (n / (2 + 3 * (k : Int)) % 4).toNat)) := fun o1 o3 o4 o5 o6 => lcL_map fun k hk => ⟨_, rfl, by
      have hk := List.mem_range.mp hk
      have q1 : (0 : Int) < 2 + 3 * (k : Int) := by omega
      have q2 : 2 + 3 * (k : Int) < 1073741824 := by omega
      have q3 : (-18446744073709551616 : Int) < k ∧ (k : Int) < 18446744073709551616 := by omega
      have q4 := sgn_ixI (i := n / (2 + 3 * (k : Int)) % 4) (Int.emod_nonneg _ (by decide)) (Int.emod_lt_of_pos _ (by decide))
      simp [chk, q1, q2, q3, q4]⟩
    refine ⟨(List.range (sz - 1 + m)).map fun (k : Nat) => (n / (2 + 3 * (k : Int)) % 4).toNat, ?_, ?_, ?_⟩
    · have z : sz - 1 + m ≤ 16777216 := by omega
      unfold F__law_window g__law_window
      simp [sizeLine_val, eqD_ints, hp, chk, hm, hr, l2, encC]
      simp [encI, z]
    · simp; omega
    · intro x hx
      obtain ⟨k, _, rfl⟩ := List.mem_map.mp hx
      have h0 : 0 ≤ n / (2 + 3 * (k : Int)) % 4 := Int.emod_nonneg _ (by decide)
      have h4 : n / (2 + 3 * (k : Int)) % 4 < 4 := Int.emod_lt_of_pos _ (by decide)
      omega
end Lw

set_option Elab.async false
set_option linter.all false
set_option maxRecDepth 100000
set_option maxHeartbeats 4000000
namespace Lw
open Fx
open PySem (Str PyData)
open PySem.PyData (strOk)
theorem V_processB (b : Bool) : F_Process___init__ [.bl b, .lst []] = .ex "InvalidProcess" := by
  unfold F_Process___init__ g_Process___init__
  simp [V_sizeB, chk, lcL]
  rfl
theorem V_refused (b : Bool) : F__law_refused [.bl b] = .ok (.bl true) := by
  have e : (cal F_Process___init__ 2 [] (aC (vr 0) (aC (lsd aN) aN))) [.sh (.bl b)] = .ex "InvalidProcess" := by
    simp [V_processB, chk]
  have t := tryO_ex (cs := [("InvalidProcess" : Str)]) (ns := []) (gs := Fx.ret (cst (.bl true))) e (by simp) (r := .rt (.bl true)) (by simp)
  unfold F__law_refused g__law_refused
  simp [t]
def encG (w : List Nat) : D := .lst (E w)
theorem pn_G (ws : List (List Nat)) : Pn 2 (.lst (ws.map encG)) (.list (ws.map fun w => .list (pdC w))) := PnL.lst (PnL.map fun w _ => PnL.lst (pn_L w))
theorem pn_WT (ws : List (List Nat)) : Pn 2 (.tup (ws.map encC)) (.tuple (ws.map fun w => .tuple (pdC w))) := PnL.tup (PnL.map fun w _ => pn_C w)
noncomputable def badAt (sz : Int) (ws : List (List Nat)) (k : Nat) : Bool := !newAt ws k || !(good sz (ws.getD k []))
theorem bad_none {sz : Int} {ws : List (List Nat)} : decide ((((List.range ws.length).filter (badAt sz ws)).length : Int) = 0) = (ws.all (good sz) && decide ws.Nodup) := by
  rw [← nodup_take, Bool.eq_iff_iff, decide_eq_true_eq, Bool.and_eq_true, List.all_eq_true, List.all_eq_true]
  have e : ((((List.range ws.length).filter (badAt sz ws)).length : Int) = 0) ↔ ∀ k ∈ List.range ws.length, badAt sz ws k = false := by
    rw [show ((((List.range ws.length).filter (badAt sz ws)).length : Int) = 0) ↔ ((List.range ws.length).filter (badAt sz ws)).length = 0 by omega, List.length_eq_zero_iff, List.filter_eq_nil_iff]
    simp
  rw [e]
  constructor
  · intro h
    refine ⟨fun w hw => ?_, fun k hk => ?_⟩
    · obtain ⟨k, hk, rfl⟩ := List.getElem_of_mem hw
      have := h k (List.mem_range.mpr hk)
      unfold badAt at this
      rw [Bool.or_eq_false_iff] at this
      have h2 := this.2
      rw [List.getD_eq_getElem?_getD, List.getElem?_eq_getElem hk] at h2
      simpa using h2
    · have := h k hk
      unfold badAt at this
      rw [Bool.or_eq_false_iff] at this
      simpa using this.1
  · rintro ⟨h1, h2⟩ k hk
    have hk2 := List.mem_range.mp hk
    unfold badAt
    rw [h2 k hk, List.getD_eq_getElem?_getD, List.getElem?_eq_getElem hk2]
    simp [h1 _ (List.getElem_mem hk2)]
section
variable {ws : List (List Nat)} {sz : Int}
theorem new_in (hw : ∀ x ∈ ws, Wd x) {k : Nat} (hk : k < ws.length) : inD (encC ws[k]) (.lst ((ws.map encC).take k)) = .ok (.bl (!newAt ws k)) := by
  have := inD_of (in_C (ws := ws.take k) (hw _ (List.getElem_mem hk)) fun x hx => hw x (List.mem_of_mem_take hx)).1
  rw [List.map_take] at this
  rw [this, newAt_lt hk, Bool.not_not]
  congr
theorem new_nin (hw : ∀ x ∈ ws, Wd x) {k : Nat} (hk : k < ws.length) : ninD (encC ws[k]) (.lst ((ws.map encC).take k)) = .ok (.bl (newAt ws k)) := by
  have := ninD_of (in_C (ws := ws.take k) (hw _ (List.getElem_mem hk)) fun x hx => hw x (List.mem_of_mem_take hx)).1
  rw [List.map_take] at this
  rw [this, newAt_lt hk]
  congr
end
theorem law_true (xs : List Int) (hx : xs.length ≤ 63) : F_law [.fz (xs.map .int)] = .ok (.bl true) := by
  obtain ⟨sz, hsz, l1, l5⟩ : ∃ sz : Int, xs.getD 0 0 % 7 - 1 = sz ∧ -1 ≤ sz ∧ sz ≤ 5 := ⟨_, rfl, by omega, by omega⟩
  obtain ⟨m, hm, m1, m3⟩ : ∃ m : Nat, (if (if 3 < sz then (3 : Int) else sz) > 1 then (if 3 < sz then (3 : Int) else sz) else 1) = (m : Int) ∧ 1 ≤ m ∧ m ≤ 3 := ⟨(if (if 3 < sz then (3 : Int) else sz) > 1 then (if 3 < sz then (3 : Int) else sz) else 1).toNat, by split <;> split <;> omega, by split <;> split <;> omega, by split <;> split <;> omega⟩
  obtain ⟨k, hk, k6⟩ : ∃ k : Nat, xs.getD 2 0 % 7 = (k : Int) ∧ k ≤ 6 := ⟨(xs.getD 2 0 % 7).toNat, by omega, by omega⟩
  have c0 : F__law_cell [.fz (xs.map .int), .int 0] = .ok (.int (xs.getD 0 0)) := V_cell xs 0
  have c1 : F__law_cell [.fz (xs.map .int), .int 1] = .ok (.int (xs.getD 1 0)) := V_cell xs 1
  have c2 : F__law_cell [.fz (xs.map .int), .int 2] = .ok (.int (xs.getD 2 0)) := V_cell xs 2
  have r1 : F__law_row [.int (xs.getD 1 0), .int 6] = .ok (.lst ((row (xs.getD 1 0) 6).map .int)) := V_row _ 6 (by decide)
  obtain ⟨wf, hwf⟩ : ∃ wf : Int → List Nat, ∀ x, F__law_window [.int x, .int (m : Nat)] = .ok (encC (wf x)) ∧ Wd (wf x) := ⟨fun x => Classical.choose (V_window x m1 m3), fun x => Classical.choose_spec (V_window x m1 m3)⟩
  let S : Sl → Sl → Sl → Sl → Sl → Sl → Sl → List Sl := fun a b c d e f g => [.sh (.fz (xs.map .int)), a, b, c, d, e, f, g, .no, .no, .no, .no, .no]
  obtain ⟨rw_, hrw, hrl⟩ : ∃ rw_ : List Int, rw_ = row (xs.getD 1 0) 6 ++ (xs.drop 3).take 5 ∧ rw_.length ≤ 20 := ⟨_, rfl, by simp [row_length]; omega⟩
  have e38 : cutD (xs.map D.int) (some (3 : Int)) (some (8 : Int)) = ((xs.drop 3).take 5).map .int := by
    unfold cutD
    rw [show HT.sIx (xs.map D.int).length 0 (some (3 : Int)) = min 3 (xs.map D.int).length from HT.sIx_nat _ _ 3, show HT.sIx (xs.map D.int).length (xs.map D.int).length (some (8 : Int)) = min 8 (xs.map D.int).length from HT.sIx_nat _ _ 8]
    rw [← List.map_drop, ← List.map_take]
    congr 1
    rw [List.length_map]
    by_cases h3 : 3 ≤ xs.length
    · rw [Nat.min_eq_left h3, List.take_eq_take_iff, List.length_drop]
      omega
    · rw [show min 3 xs.length = xs.length by omega, List.drop_length, List.drop_eq_nil_of_le (show xs.length ≤ 3 by omega)]
      simp
  have b1 : asg 1 (bi subD (bi modD (cal F__law_cell 2 [] (aC (vr 0) (aC (cst (.int 0)) aN))) (cst (.int 7))) (cst (.int 1))) (S .no .no .no .no .no .no .no) = .ok (.nx (S (.sh (.int sz)) .no .no .no .no .no .no)) := by
    simp only [List.getD_eq_getElem?_getD] at c0 hsz
    simp [S, c0, hsz, chk]
  have b2 : asg 2 (bi addD (cal F__law_row 2 [] (aC (cal F__law_cell 2 [] (aC (vr 0) (aC (cst (.int 1)) aN))) (aC (cst (.int 6)) aN))) (slc (vo 0) (some (cst (.int 3))) (some (cst (.int 8))))) (S (.sh (.int sz)) .no .no .no .no .no .no) = .ok (.nx (S (.sh (.int sz)) (.sh (.lst (rw_.map .int))) .no .no .no .no .no)) := by
    have z : (row (xs.getD 1 0) 6).length + min 5 (xs.length - 3) ≤ 16777216 := by rw [row_length]; omega
    simp only [List.getD_eq_getElem?_getD] at c1 r1 z hrw
    simp [S, c1, r1, e38, sizeLine_val, z, hrw]
  let ws0 : List (List Nat) := (rw_.take k).map wf
  have w0 : ∀ w ∈ ws0, Wd w := fun w hw => by
    obtain ⟨x, _, rfl⟩ := List.mem_map.mp hw
    exact (hwf x).2
  have n0 : ws0.length ≤ 6 := by simp [ws0]; omega
  have b3 : asg 3 (lc (.one 10) [10] (itm (slc (vo 2) none (some (bi modD (cal F__law_cell 2 [] (aC (vr 0) (aC (cst (.int 2)) aN))) (cst (.int 7)))))) yes (cal F__law_window 2 [] (aC (vr 10) (aC (unA maxM (aC (cst (.int 1)) (aC (unA minM (aC (vr 1) (aC (cst (.int 3)) aN))) aN))) aN)))) (S (.sh (.int sz)) (.sh (.lst (rw_.map .int))) .no .no .no .no .no) = .ok (.nx (S (.sh (.int sz)) (.sh (.lst (rw_.map .int))) (.sh (.lst (ws0.map encC))) .no .no .no .no)) := by
    have e1 : lcL (.one 10) [10] yes (cal F__law_window 2 [] (aC (vr 10) (aC (unA maxM (aC (cst (.int 1)) (aC (unA minM (aC (vr 1) (aC (cst (.int 3)) aN))) aN))) aN))) (S (.sh (.int sz)) (.sh (.lst (rw_.map .int))) .no .no .no .no .no) ((rw_.take k).map D.int) = .ok ((rw_.take k).map fun x => encC (wf x)) := lcL_map fun x _ => ⟨_, rfl, by
      have := (hwf x).1
      rw [← hm] at this
      simp only [gt_iff_lt] at this
      simp [S, this]⟩
    have e2 : cutD (rw_.map D.int) none (some (k : Int)) = (rw_.take k).map D.int := by rw [cutD_takeG, List.map_take]
    have z : (List.map D.int (rw_.take k)).length ≤ 16777216 := by simp; omega
    simp only [List.getD_eq_getElem?_getD] at c2 hk
    simp only [S] at e1 ⊢
    simp only [asg_ap, lc_ap, itm_ap, slc_ap, vo_ap, List.getElem?_cons_succ, List.getElem?_cons_zero, voR_sh, bd_ok, oP_none, oP_some, bi_ap, cal_ap, aC_ap, vr_ap, vrR_sh, cst_ap, aN_ap, List.length_cons, List.length_nil, decide_true, chk_true, List.append_nil, c2, modD_int, show (decide ((0 : Int) < 7)) = true from rfl, hk, oPR_int, slD_lst, e2, items_lst, sizeLine_val, z, e1, asgR_ok]
    simp [ws0]
    rfl
  have rr : ∀ n : Nat, n ≤ 6 → rng1R [.int (n : Nat)] = .ok (encI (List.range n)) := fun n hn => by rw [rng1R_nat (by omega), rngL_nat]
  have b4 : ∃ ws : List (List Nat), (∀ w ∈ ws, Wd w) ∧ ws.length ≤ 6 ∧ (iff (tst (bi eqD (bi modD (bi fdivD (cal F__law_cell 2 [] (aC (vr 0) (aC (cst (.int 2)) aN))) (cst (.int 7))) (cst (.int 2))) (cst (.int 0)))) (asg 3 (lc (.one 11) [11] (rng1 (aC (un lenD (vo 3)) aN)) (an (tst (bi ninD (bi ixD (vo 3) (vo 11)) (slc (vo 3) none (some (vr 11))))) (tst (cal F__law_is_good 2 [] (aC (bi ixD (vo 3) (vo 11)) (aC (vr 1) aN))))) (bi ixD (vo 3) (vo 11)))) sNx) (S (.sh (.int sz)) (.sh (.lst (rw_.map .int))) (.sh (.lst (ws0.map encC))) .no .no .no .no) = .ok (.nx (S (.sh (.int sz)) (.sh (.lst (rw_.map .int))) (.sh (.lst (ws.map encC))) .no .no .no .no)) := by
    by_cases hc : xs.getD 2 0 / 7 % 2 = 0
    · refine ⟨((List.range ws0.length).filter fun k => newAt ws0 k && good sz (ws0.getD k [])).map fun k => ws0.getD k [], fun w hw => ?_, ?_, ?_⟩
      · obtain ⟨j, hj, rfl⟩ := List.mem_map.mp hw
        have hj := List.mem_range.mp (List.mem_filter.mp hj).1
        rw [List.getD_eq_getElem?_getD, List.getElem?_eq_getElem hj]
        exact w0 _ (List.getElem_mem hj)
      · rw [List.length_map]
        exact Nat.le_trans (List.length_filter_le _ _) (by rw [List.length_range]; exact n0)
      · have e1 : lcL (.one 11) [11] (an (tst (bi ninD (bi ixD (vo 3) (vo 11)) (slc (vo 3) none (some (vr 11))))) (tst (cal F__law_is_good 2 [] (aC (bi ixD (vo 3) (vo 11)) (aC (vr 1) aN))))) (bi ixD (vo 3) (vo 11)) (S (.sh (.int sz)) (.sh (.lst (rw_.map .int))) (.sh (.lst (ws0.map encC))) .no .no .no .no) (encI (List.range ws0.length)) = .ok (((List.range ws0.length).filter fun k => newAt ws0 k && good sz (ws0.getD k [])).map fun k => encC (ws0.getD k [])) := by
          refine lcL_filter fun k hk => ⟨_, rfl, ?_, fun _ => ?_⟩
          · have hk := List.mem_range.mp hk
            have e2 : ixL (ws0.map encC) (k : Int) = .ok (encC ws0[k]) := ixL_map (List.getElem?_eq_getElem hk)
            have e3 : cutD (ws0.map encC) none (some (k : Int)) = (ws0.map encC).take k := cutD_takeG _ _
            have e4 : ws0.getD k [] = ws0[k] := by rw [List.getD_eq_getElem?_getD, List.getElem?_eq_getElem hk]; rfl
            rw [e4]
            have e5 := V_good (w0 _ (List.getElem_mem hk)) l1 l5
            cases hn : newAt ws0 k with
            | true => simp [S, e2, e3, new_nin w0 hk, hn, e5]
            | false => simp [S, e2, e3, new_nin w0 hk, hn]
          · have hk := List.mem_range.mp hk
            have e2 : ixL (ws0.map encC) (k : Int) = .ok (encC ws0[k]) := ixL_map (List.getElem?_eq_getElem hk)
            have e4 : ws0.getD k [] = ws0[k] := by rw [List.getD_eq_getElem?_getD, List.getElem?_eq_getElem hk]; rfl
            rw [e4]
            simp [S, e2]
        have z : ws0.length ≤ 16777216 := by omega
        simp only [List.getD_eq_getElem?_getD] at c2 hc
        simp only [S] at e1 ⊢
        simp [c2, hc, chk, eqD_ints, rr _ n0, e1, sizeLine_val, z]
    · refine ⟨ws0, w0, n0, ?_⟩
      simp only [List.getD_eq_getElem?_getD] at c2 hc
      simp [S, c2, hc, chk, eqD_ints]
  obtain ⟨ws, wok, n6, b4⟩ := b4
  let bad : List Nat := (List.range ws.length).filter (badAt sz ws)
  have b5 : asg 4 (lc (.one 11) [11] (rng1 (aC (un lenD (vo 3)) aN)) (orr (tst (bi inD (bi ixD (vo 3) (vo 11)) (slc (vo 3) none (some (vr 11))))) (nt (tst (cal F__law_is_good 2 [] (aC (bi ixD (vo 3) (vo 11)) (aC (vr 1) aN)))))) (vr 11)) (S (.sh (.int sz)) (.sh (.lst (rw_.map .int))) (.sh (.lst (ws.map encC))) .no .no .no .no) = .ok (.nx (S (.sh (.int sz)) (.sh (.lst (rw_.map .int))) (.sh (.lst (ws.map encC))) (.sh (.lst (encI bad))) .no .no .no)) := by
    have e1 : lcL (.one 11) [11] (orr (tst (bi inD (bi ixD (vo 3) (vo 11)) (slc (vo 3) none (some (vr 11))))) (nt (tst (cal F__law_is_good 2 [] (aC (bi ixD (vo 3) (vo 11)) (aC (vr 1) aN)))))) (vr 11) (S (.sh (.int sz)) (.sh (.lst (rw_.map .int))) (.sh (.lst (ws.map encC))) .no .no .no .no) (encI (List.range ws.length)) = .ok (encI bad) := by
      refine lcL_filter fun k hk => ⟨_, rfl, ?_, fun _ => rfl⟩
      have hk := List.mem_range.mp hk
      have e2 : ixL (ws.map encC) (k : Int) = .ok (encC ws[k]) := ixL_map (List.getElem?_eq_getElem hk)
      have e3 : cutD (ws.map encC) none (some (k : Int)) = (ws.map encC).take k := cutD_takeG _ _
      have e4 : ws.getD k [] = ws[k] := by rw [List.getD_eq_getElem?_getD, List.getElem?_eq_getElem hk]; rfl
      have e5 := V_good (wok _ (List.getElem_mem hk)) l1 l5
      unfold badAt
      rw [e4]
      cases hn : newAt ws k with
      | true => simp [S, e2, e3, new_in wok hk, hn, e5]
      | false => simp [S, e2, e3, new_in wok hk, hn]
    have z : ws.length ≤ 16777216 := by omega
    simp only [S] at e1 ⊢
    simp [rr _ n6, e1, sizeLine_val, z]
  have b6 : asg 5 (anV (chn (cst (.int 1)) (vo 1) (cst (.int 3))) (bi eqD (un lenD (vo 4)) (cst (.int 0)))) (S (.sh (.int sz)) (.sh (.lst (rw_.map .int))) (.sh (.lst (ws.map encC))) (.sh (.lst (encI bad))) .no .no .no) = .ok (.nx (S (.sh (.int sz)) (.sh (.lst (rw_.map .int))) (.sh (.lst (ws.map encC))) (.sh (.lst (encI bad))) (.sh (.bl (fine sz ws))) .no .no)) := by
    have e : ∀ o2 o3 o4 o5 o6 o7, chn (cst (.int 1)) (vo 1) (cst (.int 3)) (S (.sh (.int sz)) o2 o3 o4 o5 o6 o7) = .ok (.bl (sok sz)) := fun _ _ _ _ _ _ => chn_ints rfl rfl rfl
    have hb := bad_none (sz := sz) (ws := ws)
    rw [asg_ap, anV_ap, e, anVR_both (c := ws.all (good sz) && decide ws.Nodup) (by
      have e0 : (bi eqD (un lenD (vo 4)) (cst (.int 0))) (S (.sh (.int sz)) (.sh (.lst (rw_.map .int))) (.sh (.lst (ws.map encC))) (.sh (.lst (encI bad))) .no .no .no) = eqD (.int (bad.length : Nat)) (.int 0) := by
        simp [S]
      rw [e0, eqD_ints, ← hb])]
    rfl
  have zw : ws.length ≤ 16777216 := by omega
  have tail : ∀ (g : D) (f : List Nat → D), items g = some (ws.map f) → (∀ x, tupleD (f x) = .ok (encC x)) → (∀ x, listD (f x) = .ok (encG x)) → ∀ o7 : Sl,
      ∃ d, contS (tryA 8 9 [("InvalidProcess" : Str)] [] (cal F_Process___init__ 2 [] (aC (vr 1) (aC (vr 6) aN))) (fun a1 => (Fx.ret (anV (ntV (vr 5)) (anV (isE a1 9 true) (ntV (isE a1 9 false)))))) (S (.sh (.int sz)) (.sh (.lst (rw_.map .int))) (.sh (.lst (ws.map encC))) (.sh (.lst (encI bad))) (.sh (.bl (fine sz ws))) (.sh g) o7))
        (sq (asg 6 (lc (.one 12) [12] (itm (vr 6)) yes (un listD (vo 12))))
          (Fx.ret (anV (vr 5) (anV (bi eqD (un (fldD [("Process" : Str)] "windows") (vo 8)) (un tupleD (vo 3))) (bi eqD (vo 6) (lc (.one 12) [12] (itm (vr 3)) yes (un listD (vo 12)))))))) = .ok (.rt (.bl d)) ∧ d = true := by
    intro g f hi hf hfl o7
    have hp := V_process (sz := sz) (f := f) wok (by omega) hi hf
    have he : (cal F_Process___init__ 2 [] (aC (vr 1) (aC (vr 6) aN))) (S (.sh (.int sz)) (.sh (.lst (rw_.map .int))) (.sh (.lst (ws.map encC))) (.sh (.lst (encI bad))) (.sh (.bl (fine sz ws))) (.sh g) o7) = if fine sz ws then .ok (encP sz ws) else .ex "InvalidProcess" := by
      rw [← hp]
      simp [S]
    cases hfi : fine sz ws with
    | false =>
      rw [hfi] at he
      rw [tryA_ex (d := .bl true) he (by simp) fun a => by simp [S]]
      exact ⟨true, rfl, rfl⟩
    | true =>
      rw [hfi] at he
      rw [tryA_ok he, contS_nx, sq_ap]
      have e1 : ∀ a b c d e f1 g1 h i j k l, lcL (.one 12) [12] yes (un listD (vo 12)) [a, b, c, d, e, f1, g1, h, i, j, k, l, .no] (ws.map f) = .ok (ws.map encG) := fun _ _ _ _ _ _ _ _ _ _ _ _ => lcL_map fun x _ => ⟨_, rfl, by simp [hfl]⟩
      have e2 : ∀ a b c d e f1 g1 h i j k l, lcL (.one 12) [12] yes (un listD (vo 12)) [a, b, c, d, e, f1, g1, h, i, j, k, l, .no] (ws.map encC) = .ok (ws.map encG) := fun _ _ _ _ _ _ _ _ _ _ _ _ => lcL_map fun x _ => ⟨_, rfl, by simp [encC, encG, E]⟩
      have f2 : fldD [("Process" : Str)] "windows" (encP sz ws) = .ok (.tup (ws.map encC)) := rfl
      refine ⟨true, ?_, rfl⟩
      simp [S, hi, sizeLine_val, zw, e1, e2, f2, eqD_refl (pn_WT ws), eqD_refl (pn_G ws)]
  have l1' : ∀ a b c d e f g h i j k l, lcL (.one 12) [12] yes (un listD (vo 12)) [a, b, c, d, e, f, g, h, i, j, k, l, .no] (ws.map encC) = .ok (ws.map encG) := fun _ _ _ _ _ _ _ _ _ _ _ _ => lcL_map fun x _ => ⟨_, rfl, by simp [encC, encG, E]⟩
  have l2' : ∀ a b c d e f g h i j k l, lcL (.one 12) [12] yes (un tupleD (vo 12)) [a, b, c, d, e, f, g, h, i, j, k, l, .no] (ws.map encC) = .ok (ws.map encC) := fun _ _ _ _ _ _ _ _ _ _ _ _ => lcL_map fun x _ => ⟨_, rfl, by simp [encC]⟩
  have b7 : asg 6 (lc (.one 12) [12] (itm (vr 3)) yes (un listD (vo 12))) (S (.sh (.int sz)) (.sh (.lst (rw_.map .int))) (.sh (.lst (ws.map encC))) (.sh (.lst (encI bad))) (.sh (.bl (fine sz ws))) .no .no) = .ok (.nx (S (.sh (.int sz)) (.sh (.lst (rw_.map .int))) (.sh (.lst (ws.map encC))) (.sh (.lst (encI bad))) (.sh (.bl (fine sz ws))) (.sh (.lst (ws.map encG))) .no)) := by
    simp [S, sizeLine_val, zw, l1']
  have b8 : fr (.one 7) (itm (lsd (aC (cst (.bl true)) (aC (cst (.bl false)) aN)))) (iff (nt (tst (cal F__law_refused 1 [] (aC (vr 7) aN)))) (Fx.ret (cst (.bl false))) sNx) (S (.sh (.int sz)) (.sh (.lst (rw_.map .int))) (.sh (.lst (ws.map encC))) (.sh (.lst (encI bad))) (.sh (.bl (fine sz ws))) (.sh (.lst (ws.map encG))) .no) = .ok (.nx (S (.sh (.int sz)) (.sh (.lst (rw_.map .int))) (.sh (.lst (ws.map encC))) (.sh (.lst (encI bad))) (.sh (.bl (fine sz ws))) (.sh (.lst (ws.map encG))) (.sh (.bl false)))) := by
    rw [fr_ap]
    simp only [itm_ap, lsd_ap, aC_ap, cst_ap, aN_ap, bd_ok, List.length_cons, List.length_nil, sizeLine_val, show (decide (0 + 1 + 1 ≤ 16777216)) = true from rfl, chk_true, items_lst, frR_ok]
    rw [forL_step (bindT_one _ _ _)]
    simp [S, V_refused]
    rw [forL_step (bindT_one _ _ _)]
    simp [V_refused, forL_nil]
  unfold F_law
  rw [fnB_ap]
  show outR (g_law (S .no .no .no .no .no .no .no)) = _
  unfold g_law
  rw [sq_ap, b1, contS_nx, sq_ap, b2, contS_nx, sq_ap, b3, contS_nx, sq_ap, b4, contS_nx, sq_ap, b5, contS_nx, sq_ap, b6, contS_nx, sq_ap, b7, contS_nx, sq_ap, b8, contS_nx, sq_ap]
  by_cases hc : xs.getD 2 0 / 14 % 2 = 1
  · have b9 : iff (tst (bi eqD (bi modD (bi fdivD (cal F__law_cell 2 [] (aC (vr 0) (aC (cst (.int 2)) aN))) (cst (.int 14))) (cst (.int 2))) (cst (.int 1)))) (asg 6 (un tupleD (lc (.one 12) [12] (itm (vr 3)) yes (un tupleD (vo 12))))) sNx (S (.sh (.int sz)) (.sh (.lst (rw_.map .int))) (.sh (.lst (ws.map encC))) (.sh (.lst (encI bad))) (.sh (.bl (fine sz ws))) (.sh (.lst (ws.map encG))) (.sh (.bl false))) = .ok (.nx (S (.sh (.int sz)) (.sh (.lst (rw_.map .int))) (.sh (.lst (ws.map encC))) (.sh (.lst (encI bad))) (.sh (.bl (fine sz ws))) (.sh (.tup (ws.map encC))) (.sh (.bl false)))) := by
      simp only [List.getD_eq_getElem?_getD] at c2 hc
      simp [S, c2, hc, chk, eqD_ints, sizeLine_val, zw, l2']
    rw [b9, contS_nx, sq_ap]
    obtain ⟨d, e, rfl⟩ := tail (.tup (ws.map encC)) encC rfl (fun _ => rfl) (fun _ => rfl) (.sh (.bl false))
    rw [e]; rfl
  · have b9 : iff (tst (bi eqD (bi modD (bi fdivD (cal F__law_cell 2 [] (aC (vr 0) (aC (cst (.int 2)) aN))) (cst (.int 14))) (cst (.int 2))) (cst (.int 1)))) (asg 6 (un tupleD (lc (.one 12) [12] (itm (vr 3)) yes (un tupleD (vo 12))))) sNx (S (.sh (.int sz)) (.sh (.lst (rw_.map .int))) (.sh (.lst (ws.map encC))) (.sh (.lst (encI bad))) (.sh (.bl (fine sz ws))) (.sh (.lst (ws.map encG))) (.sh (.bl false))) = .ok (.nx (S (.sh (.int sz)) (.sh (.lst (rw_.map .int))) (.sh (.lst (ws.map encC))) (.sh (.lst (encI bad))) (.sh (.bl (fine sz ws))) (.sh (.lst (ws.map encG))) (.sh (.bl false)))) := by
      simp only [List.getD_eq_getElem?_getD] at c2 hc
      simp [S, c2, hc, chk, eqD_ints]
    rw [b9, contS_nx, sq_ap]
    obtain ⟨d, e, rfl⟩ := tail (.lst (ws.map encG)) encG rfl (fun _ => rfl) (fun _ => rfl) (.sh (.bl false))
    rw [e]; rfl
end Lw

set_option Elab.async false
set_option linter.all false
set_option maxRecDepth 100000
set_option maxHeartbeats 4000000
namespace Lw
open PySem PySem.Spec PyProof.Rows L2 Fx
def d_is_size : He.DefD := ⟨("is_size", none), "is_size", "is_size", defArgs s_is_size, defBody s_is_size, defScope s_is_size, [], []⟩
def d_is_window : He.DefD := ⟨("is_window", none), "is_window", "is_window", defArgs s_is_window, defBody s_is_window, defScope s_is_window, [], []⟩
def d_are_different : He.DefD := ⟨("are_different", none), "are_different", "are_different", defArgs s_are_different, defBody s_are_different, defScope s_are_different, [], []⟩
def d_Process___init__ : He.DefD := ⟨("Process", some "__init__"), "__init__", "Process.__init__", defArgs s_Process___init__, defBody s_Process___init__, defScope s_Process___init__, [], []⟩
def d__law_cell : He.DefD := ⟨("_law_cell", none), "_law_cell", "_law_cell", defArgs s__law_cell, defBody s__law_cell, defScope s__law_cell, [], []⟩
def d__law_row : He.DefD := ⟨("_law_row", none), "_law_row", "_law_row", defArgs s__law_row, defBody s__law_row, defScope s__law_row, [], []⟩
def d__law_window : He.DefD := ⟨("_law_window", none), "_law_window", "_law_window", defArgs s__law_window, defBody s__law_window, defScope s__law_window, [], []⟩
def d__law_is_good : He.DefD := ⟨("_law_is_good", none), "_law_is_good", "_law_is_good", defArgs s__law_is_good, defBody s__law_is_good, defScope s__law_is_good, [], []⟩
def d__law_refused : He.DefD := ⟨("_law_refused", none), "_law_refused", "_law_refused", defArgs s__law_refused, defBody s__law_refused, defScope s__law_refused, [], []⟩
def d_law : He.DefD := ⟨("law", none), "law", "law", defArgs s_law, defBody s_law, defScope s_law, [], []⟩
def fa0 : List He.Fa := [.free "all", .free "bool", .free "int", .free "isinstance", .free "len", .free "list", .free "max", .free "min", .free "range", .free "tuple", .str "BEGIN" "<", .str "END" ">", .glo "InvalidProcess", .exc "InvalidProcess", .glo "CaseError", .glo "InvalidSetting", .exm "InvalidProcess" "InvalidProcess" true, .glo "Process", .cls "Process", .noat "Process" "windows", .noat "Process" "size", .glo "is_size", .glo "is_window", .glo "are_different", .mkr "Process", .glo "_law_cell", .glo "_law_row", .glo "_law_window", .glo "_law_is_good", .glo "_law_refused"]
def fa1 : List He.Fa := [.glo "law"]
abbrev fa : List He.Fa := fa0 ++ fa1
def fn0 : List He.DefD := [d_is_size, d_is_window, d_are_different, d_Process___init__, d__law_cell, d__law_row, d__law_window, d__law_is_good, d__law_refused, d_law]
abbrev fn : List He.DefD := fn0
def tf0 : List He.Defn := [("is_size", none), ("is_window", none), ("are_different", none), ("Process", some "__init__"), ("_law_cell", none), ("_law_row", none), ("_law_window", none), ("_law_is_good", none), ("_law_refused", none), ("law", none)]
abbrev tf : List He.Defn := tf0
abbrev exl : List Str := ["InvalidProcess"]
abbrev ktl : List (Str × Str × Bool) := [("InvalidProcess", "CaseError", true), ("InvalidProcess", "InvalidSetting", false)]
def nms0 : List Str := ["CaseError", "InvalidProcess", "InvalidSetting", "BEGIN", "END", "is_size", "is_window", "are_different", "Process", "_law_cell", "_law_row", "_law_window", "_law_is_good", "_law_refused"]
abbrev nms : List Str := nms0
abbrev R : PySem.W.OpenRow := PySem.W.OpenLaw.row PySem.Challenge.rw_caseslive_k04_processes_are_checked
abbrev hk : PySem.W.Hook := He.hookX 6 fa fn [] tf (chkX tf exl ktl)
def ob (s : PySem.W.SharedT) : He.AlX := He.obsX 6 fa fn [] tf (chkX tf exl ktl) (HandSHeadRun.getT s)
theorem ob_eq (s : PySem.W.SharedT) : ob s = hk.obs s.abs := He.obsX_eq (HandSHeadRun.getT_eq s)
theorem run (w : World) : HandSHeadRun.RunEq R (PySem.W.view R.prog [17]) hk ob 3000 nms w := by
  intro os
  kernel_rfl
theorem facts_of {w : World} {K : PySem.W.Frag} {h : Heap} {mg : Str → Option Value} (X : K.In h) (G : h.Ns mainGlobals mg) (cx : He.SaysX fa fn [] tf (chkX tf exl ktl) w h K) : Facts K mg :=
  have c : He.SaysD fa fn K := cx.t.d
  {
    m_all := He.free_ok X G (c.fact 0 rfl)
    m_bool := He.free_ok X G (c.fact 1 rfl)
    m_int := He.free_ok X G (c.fact 2 rfl)
    m_isinstance := He.free_ok X G (c.fact 3 rfl)
    m_len := He.free_ok X G (c.fact 4 rfl)
    m_list := He.free_ok X G (c.fact 5 rfl)
    m_max := He.free_ok X G (c.fact 6 rfl)
    m_min := He.free_ok X G (c.fact 7 rfl)
    m_range := He.free_ok X G (c.fact 8 rfl)
    m_tuple := He.free_ok X G (c.fact 9 rfl)
    c_BEGIN := He.str_ok X G (c.fact 10 rfl)
    c_END := He.str_ok X G (c.fact 11 rfl)
    x_InvalidProcess := by
      obtain ⟨h1, h2, h3, h4⟩ := He.exc_ok (c.fact 13 (f := .exc "InvalidProcess") rfl)
      exact ⟨_, He.glo_ok X G (c.fact 12 (f := .glo "InvalidProcess") rfl), h1, h2, h3, h4⟩
    g_CaseError := ⟨_, He.glo_ok X G (c.fact 14 (f := .glo "CaseError") rfl)⟩
    g_InvalidProcess := ⟨_, He.glo_ok X G (c.fact 12 (f := .glo "InvalidProcess") rfl)⟩
    g_InvalidSetting := ⟨_, He.glo_ok X G (c.fact 15 (f := .glo "InvalidSetting") rfl)⟩
    h_InvalidProcess_InvalidProcess := exmK_of (c.fact 16 (f := .exm "InvalidProcess" "InvalidProcess" true) rfl) (He.glo_ok X G (c.fact 12 (f := .glo "InvalidProcess") rfl)) (He.glo_ok X G (c.fact 12 (f := .glo "InvalidProcess") rfl))
    e_InvalidProcess := chkX_exc cx.more 0 rfl (He.glo_ok X G (c.fact 12 (f := .glo "InvalidProcess") rfl))
    k_InvalidProcess_CaseError := chkX_kit cx.more 0 rfl (He.glo_ok X G (c.fact 12 (f := .glo "InvalidProcess") rfl)) (He.glo_ok X G (c.fact 14 (f := .glo "CaseError") rfl))
    k_InvalidProcess_InvalidSetting := chkX_kit cx.more 1 rfl (He.glo_ok X G (c.fact 12 (f := .glo "InvalidProcess") rfl)) (He.glo_ok X G (c.fact 15 (f := .glo "InvalidSetting") rfl))
    a_windows := (List.forall_mem_cons.mpr ⟨fun C h => by (have e := h.symm.trans (He.glo_ok X G (c.fact 17 (f := .glo "Process") rfl)); cases e; exact ⟨He.cls_ok (c.fact 18 rfl), He.noat_ok (c.fact 19 rfl)⟩), fun _ z => absurd z List.not_mem_nil⟩)
    s_Process_size := (List.forall_mem_cons.mpr ⟨fun C h => by (have e := h.symm.trans (He.glo_ok X G (c.fact 17 (f := .glo "Process") rfl)); cases e; exact ⟨He.cls_ok (c.fact 18 rfl), He.noat_ok (c.fact 20 rfl)⟩), fun _ z => absurd z List.not_mem_nil⟩)
    s_Process_windows := (List.forall_mem_cons.mpr ⟨fun C h => by (have e := h.symm.trans (He.glo_ok X G (c.fact 17 (f := .glo "Process") rfl)); cases e; exact ⟨He.cls_ok (c.fact 18 rfl), He.noat_ok (c.fact 19 rfl)⟩), fun _ z => absurd z List.not_mem_nil⟩)
    f_is_size := by
      obtain ⟨fd, F⟩ := c.def_ 0 (d := d_is_size) rfl
      exact ⟨_, fd, F, He.glo_ok X G (c.fact 21 (f := .glo "is_size") rfl)⟩
    f_is_window := by
      obtain ⟨fd, F⟩ := c.def_ 1 (d := d_is_window) rfl
      exact ⟨_, fd, F, He.glo_ok X G (c.fact 22 (f := .glo "is_window") rfl)⟩
    f_are_different := by
      obtain ⟨fd, F⟩ := c.def_ 2 (d := d_are_different) rfl
      exact ⟨_, fd, F, He.glo_ok X G (c.fact 23 (f := .glo "are_different") rfl), _, _, code_of F, cx.hd _ (List.mem_of_getElem? (i := 2) rfl), cx.out _ (List.mem_of_getElem? (i := 2) rfl)⟩
    f_Process___init__ := by
      obtain ⟨fd, F⟩ := c.def_ 3 (d := d_Process___init__) rfl
      exact ⟨_, _, fd, He.mkr_ok (c.fact 24 (f := .mkr "Process") rfl), F, He.glo_ok X G (c.fact 17 (f := .glo "Process") rfl), _, _, code_of F, cx.hd _ (List.mem_of_getElem? (i := 3) rfl), cx.out _ (List.mem_of_getElem? (i := 3) rfl)⟩
    f__law_cell := by
      obtain ⟨fd, F⟩ := c.def_ 4 (d := d__law_cell) rfl
      exact ⟨_, fd, F, He.glo_ok X G (c.fact 25 (f := .glo "_law_cell") rfl)⟩
    f__law_row := by
      obtain ⟨fd, F⟩ := c.def_ 5 (d := d__law_row) rfl
      exact ⟨_, fd, F, He.glo_ok X G (c.fact 26 (f := .glo "_law_row") rfl)⟩
    f__law_window := by
      obtain ⟨fd, F⟩ := c.def_ 6 (d := d__law_window) rfl
      exact ⟨_, fd, F, He.glo_ok X G (c.fact 27 (f := .glo "_law_window") rfl)⟩
    f__law_is_good := by
      obtain ⟨fd, F⟩ := c.def_ 7 (d := d__law_is_good) rfl
      exact ⟨_, fd, F, He.glo_ok X G (c.fact 28 (f := .glo "_law_is_good") rfl)⟩
    f__law_refused := by
      obtain ⟨fd, F⟩ := c.def_ 8 (d := d__law_refused) rfl
      exact ⟨_, fd, F, He.glo_ok X G (c.fact 29 (f := .glo "_law_refused") rfl)⟩ }
theorem law_all {w : World} {K : PySem.W.Frag} {h : Heap} {mg : Str → Option Value} {f : Addr} (X : K.In h) (G : h.Ns mainGlobals mg) (hfa : mg ("law" : Str) = some (.ref f)) (cx : He.SaysX fa fn [] tf (chkX tf exl ktl) w h K) :
    LamX.LawAtS PySem.Challenge.rw_caseslive_k04_processes_are_checked w K (L2.CX (PySem.Challenge.rw_caseslive_k04_processes_are_checked).prog w) 6 63 "_law_script" mg f h := by
  have c : He.SaysD fa fn K := cx.t.d
  obtain ⟨fd, F⟩ := c.def_ 9 (d := d_law) rfl
  have e := hfa.symm.trans (He.glo_ok X G (c.fact 30 (f := .glo "law") rfl))
  cases e
  have T := facts_of X G cx
  have b := FunD.bindsA (ps := ["_law_script"]) F fun _ _ _ _ _ _ us hl => match us, hl with | [_], _ => rfl
  exact law_atX X cx (fun s v => b s [v] rfl) law_true fun base _ _ TB => law_fn T TB F
end Lw
open PySem PySem.W PySem.Calls PyProof.Rows
set_option maxRecDepth 100000 in
set_option maxHeartbeats 0 in
theorem PySem.Challenge.cw_caseslive_k04_processes_are_checked_holds : PySem.Challenge.rw_caseslive_k04_processes_are_checked.Holds := by
  w_on; o_law
  refine HandSHeadRun.head_any (r := OpenLaw.row PySem.Challenge.rw_caseslive_k04_processes_are_checked) (q := view (OpenLaw.row PySem.Challenge.rw_caseslive_k04_processes_are_checked).prog [17]) (H := Lw.hk) (ob := Lw.ob) (M := 3000) (loose := Lw.nms) (d := HandSHeadRun.topDef (OpenLaw.row PySem.Challenge.rw_caseslive_k04_processes_are_checked).prog 17) (kwd := []) Lw.ob_eq
    (by kernel_rfl) (fun s => by kernel_rfl) Lw.run (by kernel_rfl) (by kernel_rfl) (by kernel_rfl) (by rfl) (by first | assumption | decide +kernel) (by decide +kernel) ⟨rfl, rfl, rfl, rfl, rfl, by decide +kernel⟩ ?hw ?hc
  case hw => w_witness2
  case hc =>
    refine LamX.walk_ofTsE (l := PySem.Challenge.rw_caseslive_k04_processes_are_checked) (n := 63) (k := 6) (x := "_law_script") (CX := fun w => L2.CX (PySem.Challenge.rw_caseslive_k04_processes_are_checked).prog w) rfl (by decide) (by kernel_rfl) ⟨rfl, by decide, by decide⟩ ?F (fun w H s e s' z => by
      obtain ⟨_, _, _, _, _, _, _, _, _, _, _, _, z⟩ := z
      exact z)
    intro w mg fa h Y G hmg0
    obtain ⟨K, KX, c⟩ := Y
    have hmg : mg ("law" : PySem.Str) = some (.ref fa) := by
      have e : (HandSHeadRun.topDef (OpenLaw.row PySem.Challenge.rw_caseslive_k04_processes_are_checked).prog 17).name = ("law" : PySem.Str) := by kernel_rfl
      rw [← e]
      exact hmg0
    exact ⟨K, KX, Lw.law_all KX G hmg c⟩
