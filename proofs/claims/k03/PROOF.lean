import PyProof.Rows.All
import Wide.All
import OpenK.AllK
import Wide.FinOn
import HandS.AnyAll
import HandS.GenList
import HandS.GenOver
import HandS.Comp
import HandS.ForMost
import HandS.Exc
import HandS.ExcOwn
import HandS.WordsExc
import HandS.TryOnly
import HandS.Deep
import HandS.HeadHook4
import HandS.TupAny
import HandS.Style
import HandS.IsInst
import HandS.SortInts
import PyProof.Rows.CountFlat
import HandS.HeadWalk
import HandS.Head2
import PySem.Challenge.RW_caseslive_k03_windows
set_option Elab.async false
set_option linter.all false
set_option maxRecDepth 100000
set_option maxHeartbeats 4000000
/-! Gx1: a generator expression whose element is any expression of the layer: its own context, its loop. -/
namespace Gx
open PySem PySem.Spec PyProof.Rows L2
abbrev gen (X : Cx) (A : Around) (s : Shared) (H : Hp) (cenv : Env) (fp : List Addr) (pn : List (Addr × Obj)) : Cx :=
  { X with A := A, s_0 := s, H_0 := H, env := cenv, outer := X.stack, stack := cenv :: X.stack, ex := fp, fn := fun y => cenv.scope.names.lookup y == some .cell, pn := pn, xe := fun _ _ => False }
abbrev gEnv (X : Cx) (scope : Scope) (C : Addr) (code : Value) : Env := genEnv scope (cloFrom X.env.cells scope.names []) C code builtinsNs X.env
section
variable {X : Cx} {pins : List (Addr × Obj)} {σ : L2.St} {H : Hp} {s : Shared}
theorem gen_start {scope : Scope} {own : List (Str × Nat)} {fp : List Addr} {A : Around} {code : Value} {s5 : Shared} {m5 : Str → Option Value} (I : Inv X pins σ H s) (ok : BlkOk X.N X.env.scope scope own) (hN : X.N.Nodup) (hfp : ∀ b ∈ fp, FpOk X pins H b ∧ b < s.heap.objs.size)
    (nc : ∀ y ∈ scope.names, y.2 ≠ .cell) (hA : A.handled = none) (hfr : A.frames = some (gEnv X scope s.heap.objs.size code :: X.stack)) (hn : s5.heap.Ns s.heap.objs.size m5) (hk : ∀ b o, s.heap.get? b = some o → s5.heap.get? b = some o) (ho : s5.os = s.os) (hb : AllBare s5.gens) :
    Inv (gen X A s H (gEnv X scope s.heap.objs.size code) fp []) [] (wipe σ (own.map (·.2))) H s5 := by
  have fre : ∀ y ∈ scope.names, y.2 = .free → ∃ c, X.env.cells.lookup y.1 = some c := fun y hy e => by
    rcases ok.free y hy e with k | k
    · exact I.ok.has _ (.inl k)
    · exact I.ok.has _ (.inr k)
  have sub : ∀ {y c}, (cloFrom X.env.cells scope.names []).lookup y = some c → X.env.cells.lookup y = some c ∧ c < s.heap.objs.size := fun {y c} e => by
    rcases cloFrom_mem (PySem.mem_of_lookup e) with h | ⟨h1, h2⟩
    · cases h
    · obtain ⟨c', hc⟩ := fre _ h1 rfl
      have hc : X.env.cells.lookup y = some c' := hc
      rw [hc] at h2
      have h2 : c = c' := h2
      subst h2
      obtain ⟨v, z⟩ := I.cell _ _ hc
      exact ⟨hc, z.lt⟩
  have fr : ∀ {y}, scope.names.lookup y = some .free → ∃ c, (cloFrom X.env.cells scope.names []).lookup y = some c := fun {y} h =>
    mem_lookup (cloFrom_has (cells := X.env.cells) (acc := []) (PySem.mem_of_lookup h))
  have nocell : ∀ {y}, scope.names.lookup y ≠ some .cell := fun {y} h => nc _ (PySem.mem_of_lookup h) rfl
  have okG : (gen X A s H (gEnv X scope s.heap.objs.size code) fp []).Ok := by
    refine ⟨I.ok.mod, ok.kind, I.ok.glob, rfl, Nat.le_refl _, fun y z c e1 e2 => I.ok.inj y z c (sub e1).1 (sub e2).1, fun y hy => ?_, fun y c z e => ?_, fun _ => hA, hfr, .inr ⟨rfl, rfl⟩,
      fun b hb => ⟨?_, fun y c e z => (hfp b hb).1.2.2.2.2.1 y c (sub e).1 z⟩, I.bs, Nat.le_trans I.ok.bsz I.sz, fun b o e hb => ?_, fun b hb z => ?_, I.stack, I.stkFree⟩
    · rcases hy with hy | hy
      · exact absurd hy nocell
      · exact fr hy
    · have z : (scope.names.lookup y == some NameKind.cell) = true := z
      exact absurd (by simpa using z) (nocell (y := y))
    · show b ≠ s.heap.objs.size
      exact Nat.ne_of_lt (hfp b hb).2
    · rcases (hfp b hb).1.2.2.2.1 with z | z
      · exact I.ok.noex b o e z
      · exact absurd (Nat.lt_of_lt_of_le (Heap.lt_size e) (Nat.le_trans I.ok.bsz z)) (Nat.lt_irrefl _)
    · rcases List.mem_cons.mp (I.stkSub b z) with z | z
      · exact (hfp b hb).1.2.1 z
      · exact (hfp b hb).1.2.2.1 z
  refine ⟨okG, ho, hb, Un.kept hk, ⟨m5, hn, fun i y av e1 e2 e3 => ?_⟩, fun y c e => ?_, I.hok.fresh (Nat.le_refl _), fun y c e => I.freeC y c (sub e).1, fun p hp => absurd (show p ∈ ([] : List (Addr × Obj)) ++ [] from hp) (by simp), I.hok.kept hk, by rw [wipe_length]; exact I.len⟩
  · obtain ⟨e2, hne⟩ := wipe_some e2
    have hfree : scope.names.lookup y = some .free := by
      have no : ¬ (scope.names.lookup y = some .local ∨ scope.names.lookup y = some .cell) := fun h => by
        have hm : ∃ k, (y, k) ∈ scope.names ∧ (k = .local ∨ k = .cell) := h.elim (fun h => ⟨_, PySem.mem_of_lookup h, .inl rfl⟩) fun h => ⟨_, PySem.mem_of_lookup h, .inr rfl⟩
        obtain ⟨k, hm, hk⟩ := hm
        rcases ok.own _ hm hk with q | q
        · obtain ⟨p, hp, hpy⟩ := List.mem_map.mp q
          have e3 := ok.ix p hp
          have hpy : p.1 = y := hpy
          rw [hpy] at e3
          exact hne (List.mem_map.mpr ⟨p, hp, nodup_ix hN e3 e1⟩)
        · exact q (List.mem_of_getElem? e1)
      rcases e3 with h | h | h
      · exact absurd (.inl h) no
      · exact absurd (.inr h) no
      · exact h
    obtain ⟨m, _, hl⟩ := I.loc
    have hvis : Vis X.env.scope y := (ok.free _ (PySem.mem_of_lookup hfree) rfl).elim (fun k => .inr (.inl k)) (fun k => .inr (.inr k))
    obtain ⟨w, r, q⟩ := hl i y av e1 e2 hvis
    refine ⟨w, r, .inr ⟨.inr hfree, ?_⟩⟩
    obtain ⟨c, h1⟩ := fr hfree
    rcases q with ⟨k, _⟩ | ⟨_, c', e', z⟩
    · have k : X.env.scope.names.lookup y = some .local := k
      rcases ok.free _ (PySem.mem_of_lookup hfree) rfl with k' | k' <;> rw [show X.env.scope.names.lookup y = _ from k'] at k <;> cases k
    · have h2 := (sub h1).1
      rw [h2] at e'
      cases e'
      exact ⟨c, h1, z.keeps hk⟩
  · obtain ⟨h1, _⟩ := sub e
    obtain ⟨v, z⟩ := I.cell y c h1
    exact ⟨v, z.keeps hk⟩
theorem pinned {A : Around} {cenv : Env} {fp : List Addr} {pn ps : List (Addr × Obj)} {s1 : Shared} {H' : Hp} (I : Inv (gen X A s H cenv fp []) ps σ H' s1)
    (h : ∀ p ∈ pn ++ ps, s1.heap.get? p.1 = some p.2 ∧ H' p.1 = none ∧ p.1 ≠ cenv.locals ∧ p.1 ∉ frs X.stack ∧ ∀ v, p.2.data ≠ .cell v) : Inv (gen X A s H cenv fp pn) ps σ H' s1 :=
  ⟨⟨I.ok.mod, I.ok.kind, I.ok.glob, I.ok.blt, I.ok.above, I.ok.inj, I.ok.has, I.ok.cab, I.ok.hd, I.ok.frames, I.ok.stk, I.ok.exf, I.ok.bs, I.ok.bsz, I.ok.noex, I.ok.exfs, I.ok.funs, I.ok.frf⟩, I.os, I.bare, I.base, I.loc, I.cell, I.free, I.freeC, h, I.hok, I.len⟩
end
theorem over_gen {A : Around} {elt tg iter : Expr} {scope : Scope} {pos : Pos} {d : Nat} {it acc : Value} {env : Env} (hf : env.frame ≠ none) : A.over (.compLoop (.GeneratorExp elt [⟨tg, iter, [], d⟩] scope pos) 0 it acc env) [] = A.deeper env := by
  first
    | rfl
    | (obtain ⟨hd, dp, fs, gs, u⟩ := A; simp [Around.over, Around.deeper, marksOver, frameCount, unitsOf, envsOf, guardsOf, pushEnvs, pushGuards, Code.envs, Code.env?, Code.isFrame, Code.guards, Code.isGuard, Code.weight, Code.frames, Code.isCreation, Code.isCaller, Code.cUnits])
end Gx

set_option Elab.async false
set_option linter.all false
set_option maxRecDepth 100000
set_option maxHeartbeats 4000000
/-! Gx2: the generator's loop. -/
namespace Gx
open PySem PySem.Spec PyProof.Rows L2
def Walk (J : It) (g : TG) (te : TE) (vs : List Nat) (neg : Bool) (σ : L2.St) (Q : VK) (W : Nat → Nat → Hp → Prop) : Prop := ∀ i m H, W i m H → (J.stop i H ∧ Q (.bl (!neg)) H) ∨
  (J.go i H ∧ ∀ x H', J.yld i H x H' → g x (wipe σ vs) H' fun σ2 H3 => wipe σ2 vs = wipe σ vs ∧ te σ2 H3 fun y H4 => ∃ b, y = .bl b ∧ (if b = neg then Q (.bl neg) H4 else ∃ m', m' < m ∧ W (i + 1) m' H4))
def REnd (Y : Cx) (σ : L2.St) (vs : List Nat) (neg : Bool) (Q : VK) : GenEnd := fun _ _ r s1 => r = .ok .next ∧ ∃ H', Inv Y [] (wipe σ vs) H' s1 ∧ Q (.bl (!neg)) H'
def YBool (Y : Cx) (σ : L2.St) (vs : List Nat) (neg : Bool) (Q : VK) : Protocol := fun _ _ v s1 kap =>
  ∃ b H', v = .bool b ∧ Inv Y [] (wipe σ vs) H' s1 ∧ (if b = neg then Q (.bl neg) H' else ∀ s' : Shared, s'.heap = s1.heap → s'.os = s1.os → AllBare s'.gens → kap (.send .none) s')
theorem Inv.sameHeap {X : Cx} {pins : List (Addr × Obj)} {σ : L2.St} {H : Hp} {s s' : Shared} (I : Inv X pins σ H s) (h : s'.heap = s.heap) (ho : s'.os = s.os) (hb : AllBare s'.gens) : Inv X pins σ H s' :=
  I.call' (ch := []) ho (Un.kept fun b o e => by rw [h]; exact e) (by rw [h]; exact I.hok) hb fun b z => by simp at z
section
variable {X : Cx} {σ : L2.St} {H3 : Hp} {s3 : Shared} {B : Around} {ce : Env} {fp : List Addr} {pn : List (Addr × Obj)} {elt tg iter : Expr} {scope : Scope} {pos : Pos} {it : Addr} {tn : Nat → Heap → Prop} {J : It} {g : TG} {te : TE} {vs : List Nat} {neg : Bool} {Q : VK} {W : Nat → Nat → Hp → Prop}
theorem seg_gen (hc : X.calm = true) (hco : ce.scope.isCoroutine = false) (hf : ce.frame ≠ none) (T : Turn X.prog X.w X.K tg J fp it tn)
    (pg : PG (gen X (B.deeper ce) s3 H3 ce fp pn) tg g) (pe : PE (gen X (B.deeper ce) s3 H3 ce fp pn) elt te) (hfp : ∀ b ∈ fp, ∀ p ∈ pn, p.1 ≠ b) (wk : Walk J g te vs neg σ Q W) :
    ∀ (m i n : Nat) (s₀ s5 : Shared) (H5 : Hp), m < n → W i m H5 → Inv (gen X (B.deeper ce) s3 H3 ce fp pn) [] (wipe σ vs) H5 s5 → tn i s5.heap → (∀ b ∈ fp, H5 b = none) →
      Seg (model X.prog X.w) B (REnd (gen X (B.deeper ce) s3 H3 ce fp pn) σ vs neg Q) (YBool (gen X (B.deeper ce) s3 H3 ce fp pn) σ vs neg Q) n s₀ (.compLoop (.GeneratorExp elt [⟨tg, iter, [], 0⟩] scope pos) 0 (.ref it) .none ce)
        ((model X.prog X.w).den (.compLoop (.GeneratorExp elt [⟨tg, iter, [], 0⟩] scope pos) 0 (.ref it) .none ce)) [] s5 := by
  have stat : ∀ {σ' : L2.St} {H' : Hp} {s' : Shared}, Inv (gen X (B.deeper ce) s3 H3 ce fp pn) [] σ' H' s' → (∀ b ∈ fp, H' b = none) → ∀ b ∈ fp, FpOk (gen X (B.deeper ce) s3 H3 ce fp pn) [] H' b := fun {σ' H' s'} I' hn b hb =>
    ⟨hn b hb, (I'.ok.exf b hb).1, I'.ok.exfs b hb, .inl hb, fun x c e => (I'.ok.exf b hb).2 x c e, fun p hp => by rw [List.append_nil] at hp; exact hfp b hb p hp⟩
  have ov : B.over (.compLoop (.GeneratorExp elt [⟨tg, iter, [], 0⟩] scope pos) 0 (.ref it) .none ce) [] = B.deeper ce := over_gen hf
  intro m
  induction m using Nat.strongRecOn with
  | ind m ih =>
    intro i n s₀ s5 H5 hmn w5 I5 st5 n5
    show Seg _ B _ _ n s₀ _ ((compTurn (.GeneratorExp elt [⟨tg, iter, [], 0⟩] scope pos) 0 (.ref it) .none ce).onRaise (leaving ce)) [] s5
    rw [compTurn_gen, Sem.onRaise_eq_wrap]
    refine seg_bind_wrap (wpAny_standAt ?_)
    rcases wk i m H5 w5 with ⟨stop, q⟩ | ⟨go, step⟩
    · refine seg_bind_wrap ?_
      rw [ov]
      refine thnF (T.done (gen X (B.deeper ce) s3 H3 ce fp pn) rfl rfl rfl hc i [] s5 _ H5 (fun _ _ => False) I5 (stat I5 n5) st5 stop) fun r s6 ⟨hr, I6⟩ => ?_
      subst hr
      exact seg_end (.ok .next) ⟨rfl, H5, I6, q⟩
    · refine seg_bind_wrap ?_
      rw [ov]
      refine thnF (T.item (gen X (B.deeper ce) s3 H3 ce fp pn) rfl rfl rfl hc i [] s5 _ H5 (fun _ _ => False) I5 (stat I5 n5) st5 go) fun r s6 ⟨u, hr, h6⟩ => ?_
      subst hr
      refine seg_bind_wrap ?_
      rw [ov]
      refine thnF h6 fun _ s7 ⟨x, H7, I7, r7, y7, st7, n7⟩ => ?_
      have I7' := I7.pinned (stat I7 n7) (T.obj _ _ st7)
      refine seg_bind_wrap ?_
      rw [ov]
      refine thnF (pg.run _ s7 _ H7 x u _ I7' r7 (step x H7 y7)) fun _ s8 ⟨σ8, H8, I8, hw8, q8⟩ => ?_
      simp only [List.forIn_nil]
      refine seg_bind_wrap (wpAny_pure ?_)
      simp only [if_true]
      have hy : ∀ v, yieldOut ce v = yieldValue v := fun v => by simp only [yieldOut, hco, Bool.false_eq_true, if_false]
      simp only [hy]
      rw [Sem.bind_eq_wrap', Sem.bind_eq_wrap', Sem.wrap_wrap, Sem.wrap_wrap]
      refine seg_wrap ?_
      rw [ov]
      refine thnF (pe.run _ s8 σ8 H8 _ I8 q8) fun y s9 ⟨yv, H9, I9, r9, b, hb, q9⟩ => ?_
      subst hb
      obtain rfl : y = Value.bool b := r9
      have pin9 : ∀ c ∈ fp, ∀ o, s7.heap.get? c = some o → s9.heap.get? c = some o ∧ H9 c = none := fun c hc2 o e =>
        let z := I9.pin (c, o) (List.mem_append_right _ (List.mem_append_right _ (mem_pinsAt hc2 e)))
        ⟨z.1, z.2.1⟩
      have hl : (wipe σ vs).length = σ8.length := by rw [← hw8, wipe_length]
      have J9 : Inv (gen X (B.deeper ce) s3 H3 ce fp pn) [] (wipe σ vs) H9 s9 := (I9.unpinned (pins := [])).weak hl (fun j v e => by
        rw [← hw8] at e
        exact (wipe_some e).1)
      have st9 : tn (i + 1) s9.heap := T.keep _ _ _ st7 fun c hc2 o e => (pin9 c hc2 o e).1
      have n9 : ∀ c ∈ fp, H9 c = none := fun c hc2 => by
        obtain ⟨o, e, _⟩ := T.obj _ _ st7 c hc2
        exact (pin9 c hc2 o e).2
      by_cases hbn : b = neg
      · rw [if_pos hbn] at q9
        obtain ⟨n, rfl⟩ : ∃ k, n = k + 1 := ⟨n - 1, by omega⟩
        refine seg_at (seg_yield rfl rfl rfl ⟨b, H9, rfl, J9, ?_⟩)
        rw [if_pos hbn]
        exact q9
      · rw [if_neg hbn] at q9
        obtain ⟨m', hm', w9⟩ := q9
        obtain ⟨n, rfl⟩ : ∃ k, n = k + 1 := ⟨n - 1, by omega⟩
        refine seg_at (seg_yield rfl rfl rfl ⟨b, H9, rfl, J9, ?_⟩)
        rw [if_neg hbn]
        intro s' h1 h2 h3
        exact seg_again rfl (ih m' hm' (i + 1) n s' s' H9 (by omega) w9 (Inv.sameHeap J9 h1 h2 h3) (by rw [h1]; exact st9) n9)
end
end Gx

set_option Elab.async false
set_option linter.all false
set_option maxRecDepth 100000
set_option maxHeartbeats 4000000
/-! Gx3: the generator is made; all and any walk it. -/
namespace Gx
open PySem PySem.Spec PyProof.Rows L2
section
variable {X : Cx} {σ : L2.St} {H3 : Hp} {s3 : Shared} {B : Around} {ce : Env} {fp : List Addr} {pn : List (Addr × Obj)} {elt tg iter : Expr} {scope : Scope} {pos : Pos} {it : Addr} {tn : Nat → Heap → Prop} {J : It} {g : TG} {te : TE} {vs : List Nat} {neg : Bool} {Q : VK} {W : Nat → Nat → Hp → Prop}
theorem seg_first (hc : X.calm = true) (hco : ce.scope.isCoroutine = false) (hf : ce.frame ≠ none) (T : Turn X.prog X.w X.K tg J fp it tn)
    (pg : PG (gen X (B.deeper ce) s3 H3 ce fp pn) tg g) (pe : PE (gen X (B.deeper ce) s3 H3 ce fp pn) elt te) (hfp : ∀ b ∈ fp, ∀ p ∈ pn, p.1 ≠ b) (wk : Walk J g te vs neg σ Q W)
    (m n : Nat) (s₀ s5 : Shared) (H5 : Hp) (hm : m < n) (w5 : W 0 m H5) (I5 : Inv (gen X (B.deeper ce) s3 H3 ce fp pn) [] (wipe σ vs) H5 s5) (st5 : tn 0 s5.heap) (n5 : ∀ b ∈ fp, H5 b = none) :
    Seg (model X.prog X.w) B (REnd (gen X (B.deeper ce) s3 H3 ce fp pn) σ vs neg Q) (YBool (gen X (B.deeper ce) s3 H3 ce fp pn) σ vs neg Q) n s₀ (.compStart (.GeneratorExp elt [⟨tg, iter, [], 0⟩] scope pos) 0 (.ref it) .none ce)
      ((model X.prog X.w).den (.compStart (.GeneratorExp elt [⟨tg, iter, [], 0⟩] scope pos) 0 (.ref it) .none ce)) [] s5 := by
  have loop := seg_gen (iter := iter) (scope := scope) (pos := pos) hc hco hf T pg pe hfp wk m 0 n s₀ s5 H5 hm w5 I5 st5 n5
  show Seg _ B _ _ _ s₀ _ ((compStart (.GeneratorExp elt [⟨tg, iter, [], 0⟩] scope pos) 0 (.ref it) .none ce).onRaise (leaving ce)) [] s5
  unfold compStart
  rw [Sem.onRaise_eq_wrap]
  show Seg _ B _ _ _ s₀ _ ((ask >>= _).wrap _ _ _ _) [] s5
  refine seg_bind_wrap (wpAny_askSetting ?_)
  split
  · exact seg_again rfl loop
  · first
      | exact seg_bind_wrap (wpAny_rule (seg_bind_wrap (wpAny_standAt (seg_bind_wrap (T.self _ 0 s5 _ _ st5 (seg_again rfl loop))))))
      | (refine seg_bind_wrap (wpAny_rule ?_); show Seg _ B _ _ _ s₀ _ ((standAt iter.pos >>= _).wrap _ _ _ _) [] s5; exact seg_bind_wrap (wpAny_standAt (seg_bind_wrap (T.self _ 0 s5 _ _ st5 (seg_again rfl loop)))))
end
def Ready (X : Cx) (pins : List (Addr × Obj)) (σ : L2.St) (vs : List Nat) (neg : Bool) (Q : VK) (u : Value) (s5 : Shared) : Prop :=
  ∃ (a : Addr) (gn n : Nat) (Y : Cx), u = .ref a ∧ s5.heap.IsGen a gn ∧ s5.heap.NoLimit ∧ AllBare s5.gens ∧
    (∃ gs, s5.gens[gn]? = some gs ∧ gs.bare = true ∧ ∀ s' : Shared, s'.heap = s5.heap → s'.os = s5.os → AllBare s'.gens → gs.Goes (model X.prog X.w) X.A.in1.in1 (REnd Y σ vs neg Q) (YBool Y σ vs neg Q) n (.send .none) s') ∧
    ∀ s' H', Inv Y [] (wipe σ vs) H' s' → s'.heap.IsGen a gn ∧ s'.heap.NoLimit ∧ AllBare s'.gens ∧ Inv X pins σ H' s'
def tAA (neg : Bool) (P : Addr) (wi : TI) (g : TG) (te : TE) (vs : List Nat) : TE := fun σ H Q => wi σ H fun J H1 => GxR.TabG H1 P ∧ ∀ H2, GxR.Tabbed P H1 H2 → ∃ W : Nat → Nat → Hp → Prop, (∃ m, W 0 m H2) ∧ Walk J g te vs neg σ Q W
section
variable {X : Cx} {pins : List (Addr × Obj)} {σ : L2.St} {H : Hp} {s : Shared}
theorem gen_make {c P : Addr} {elt tg iter : Expr} {gpos : Pos} {scope : Scope} {own : List (Str × Nat)} {wi : TI} {g : TG} {te : TE} {k : Nat} {neg : Bool} {Q : VK} {Q' : Value → Shared → Prop}
    (hr : Room k X.A) (hc : X.calm = true) (hN : X.N.Nodup) (TB : GxR.TabB X.base X.mg c P) (hcode : X.env.code = .ref c) (ok : BlkOk X.N X.env.scope scope own) (nc : ∀ y ∈ scope.names, y.2 ≠ .cell) (dot : scope.names.lookup (".0" : Str) = some NameKind.local) (co : scope.isCoroutine = false)
    (hi : PI X tg iter wi) (pg : ∀ (s : Shared) (H : Hp) (C : Addr) (code : Value) (fp : List Addr) (pn : List (Addr × Obj)), PG (gen X (X.A.in1.in1.deeper (gEnv X scope C code)) s H (gEnv X scope C code) fp pn) tg g) (pe : ∀ (s : Shared) (H : Hp) (C : Addr) (code : Value) (fp : List Addr) (pn : List (Addr × Obj)), PE (gen X (X.A.in1.in1.deeper (gEnv X scope C code)) s H (gEnv X scope C code) fp pn) elt te)
    (hs : ∀ v, genFold iter X.env v = pure v) (I : Inv X pins σ H s) (h : tAA neg P wi g te (own.map (·.2)) σ H Q) (hQ : ∀ u s5, Ready X pins σ (own.map (·.2)) neg Q u s5 → Q' u s5) :
    wpAny (model X.prog X.w) X.A (eval (.GeneratorExp elt [⟨tg, iter, [], 0⟩] scope gpos) X.env) Q' X.xe s := by
  have fre : ∀ y ∈ scope.names, y.2 = .free → ∃ c, X.env.cells.lookup y.1 = some c := fun y hy e => by
    rcases ok.free y hy e with k | k
    · exact I.ok.has _ (.inl k)
    · exact I.ok.has _ (.inr k)
  refine wpAny_GeneratorExp_make co (closure_ok fre) nc dot ok.kind (by have := hr.dp; omega) ?_ hs
  refine thn (hi.run pins s σ H _ I h) fun xv s1 hx => thn hx fun itv s2 h2 => ?_
  obtain ⟨it, fp, tn, J, H2, e, I2, T, st2, f2, ⟨ps, hP, ht⟩, q⟩ := h2
  subst e
  refine ⟨I2.nolimit, ?_⟩
  have hPs : s2.heap.get? P = some { cls := .none, data := .fields ps } := I2.hok P _ hP
  have sz : ∀ b ∈ fp, b < s2.heap.objs.size := fun b hb => by
    obtain ⟨o, e, _⟩ := T.obj _ _ st2 b hb
    exact Heap.lt_size e
  have nPf : ∀ b ∈ fp, b ≠ P := fun b hb z => by
    have := (f2 b hb).1
    rw [z, hP] at this
    cases this
  have cont : ∀ (code : Value) (h3 : Heap) (tk : Nat) (ps' : Array Value), Heap.ExtBut P s2.heap h3 → s2.heap.objs.size ≤ h3.objs.size → h3.get? P = some { cls := .none, data := .fields ps' } → (∃ more, ps' = ps ++ more) → TriplesOk ps'.toList →
      wpAny (model X.prog X.w) X.A (builtinsFor X.env.globals X.env.builtins) (fun bi s₄ =>
        ∀ h', h'.Ns s₄.heap.objs.size (fun y => if y = ".0" then some (.ref it) else none) → Heap.SameBut s₄.heap.objs.size (s₄.heap.push { cls := .type "frame", data := .dict #[] }) h' →
          Q' (.ref h'.objs.size) { s₄ with
            gens := s₄.gens.push (.fresh (.compStart (.GeneratorExp elt [⟨tg, iter, [], 0⟩] scope gpos) 0 (.ref it) .none (genEnv scope (cloFrom X.env.cells scope.names []) s₄.heap.objs.size code bi X.env))),
            toks := s₄.toks + 1 + 1 + 1,
            heap := h'.push { cls := .type "generator", data := .fields #[.int s₄.gens.size 0, .str "<genexpr>" (s₄.toks + 1), .str (X.env.qual ++ "<genexpr>") (s₄.toks + 1 + 1)] } }) X.xe { s2 with heap := h3, toks := tk } := by
    intro code h3 tk ps' hx hsz hP3 ⟨more, em⟩ ht3
    subst em
    obtain ⟨bm, ob, e1, e2, e3, e4, e5, e6, e7, e8⟩ := TB.bm
    have keep3 : ∀ b u, b ≠ P → s2.heap.get? b = some u → h3.get? b = some u := fun b u hb e => hx b u hb e
    have I3 : Inv X pins σ (upd H2 P (.tbl (ps ++ more))) { s2 with heap := h3, toks := tk } := GxR.inv_tab (g' := s2.gens) (d' := s2.drawn) I2 hP (fun b u hb e => keep3 b u hb e) hP3 I2.bare
    refine wpAny_builtinsFor (m := X.mg) (by rw [I2.ok.glob]; exact (I2.mod.glob.keeps I2.bk).extBut hx TB.gP) e1 e2 (keep3 _ _ e4 (I2.bk _ _ e5)) e6 e7 e8 ?_
    intro h' hn' hs'
    obtain ⟨W, ⟨m, w0⟩, wk⟩ := q (upd H2 P (.tbl (ps ++ more))) ⟨⟨ps ++ more, upd_same, ht3⟩, fun b hb => upd_ne hb⟩
    generalize hs4 : ({ s2 with heap := h3, toks := tk } : Shared) = s4 at I3 hn' hs' ⊢
    have eh4 : s4.heap = h3 := by rw [← hs4]
    have hf4 : ∀ b ∈ fp, FpOk X pins (upd H2 P (.tbl (ps ++ more))) b ∧ b < s4.heap.objs.size := fun b hb => by
      refine ⟨⟨by rw [upd_ne (nPf b hb)]; exact (f2 b hb).1, (f2 b hb).2⟩, ?_⟩
      rw [eh4]
      exact Nat.lt_of_lt_of_le (sz b hb) hsz
    have sz' : h'.objs.size = s4.heap.objs.size + 1 := by rw [hs'.1, Heap.size_push]
    have keep' : ∀ b o, s4.heap.get? b = some o → h'.get? b = some o := fun b o e => hs'.extBut b o (Nat.ne_of_lt (Heap.lt_size e)) (Heap.get?_push_of_some _ e)
    generalize hgo : ({ cls := .type "generator", data := .fields #[.int s4.gens.size 0, .str "<genexpr>" (s4.toks + 1), .str (X.env.qual ++ "<genexpr>") (s4.toks + 1 + 1)] } : Obj) = go
    have keep5 : ∀ b o, s4.heap.get? b = some o → (h'.push go).get? b = some o := fun b o e => Heap.get?_push_of_some _ (keep' b o e)
    have gat : (h'.push go).get? h'.objs.size = some go := Heap.get?_push_size _ (by rw [← hgo]; rfl)
    have isg : ∀ h : Heap, h.get? h'.objs.size = some go → h.IsGen h'.objs.size s4.gens.size := fun h e => ⟨go, _, _, e, by rw [← hgo], by rw [← hgo], by rw [← hgo]⟩
    have fr1 : (X.A.in1.in1).frames = some X.stack := I3.ok.frames
    have key : ∀ s5 : Shared, s5.heap = h'.push go → s5.os = s4.os → AllBare s5.gens → Inv (gen X (X.A.in1.in1.deeper (gEnv X scope s4.heap.objs.size code)) s4 (upd H2 P (.tbl (ps ++ more))) (gEnv X scope s4.heap.objs.size code) fp [(h'.objs.size, go)]) [] (wipe σ (own.map (·.2))) (upd H2 P (.tbl (ps ++ more))) s5 := fun s5 h5 ho hb => by
      have J := gen_start (A := X.A.in1.in1.deeper (gEnv X scope s4.heap.objs.size code)) (code := code) I3 ok hN hf4 nc hr.hd (Around.frames_deeper fr1) (s5 := s5) (by rw [h5]; exact hn'.push _) (fun b o e => by rw [h5]; exact keep5 b o e) ho hb
      refine pinned J fun p hp => ?_
      have hp : p = (h'.objs.size, go) := by simpa using hp
      subst hp
      have hle : s4.heap.objs.size ≤ h'.objs.size := by rw [sz']; exact Nat.le_succ _
      refine ⟨by rw [h5]; exact gat, I3.hok.fresh hle, ?_, fun z => ?_, fun v z => ?_⟩
      · show h'.objs.size ≠ s4.heap.objs.size
        rw [sz']
        exact Nat.succ_ne_self _
      · rcases List.mem_cons.mp (I3.stkSub _ z) with z | z
        · have := I3.lt
          rw [← z] at this
          exact absurd (Nat.lt_of_lt_of_le this hle) (Nat.lt_irrefl _)
        · exact I3.nofs hle z
      · have z : go.data = .cell v := z
        rw [← hgo] at z
        cases z
    have hfpn : ∀ b ∈ fp, ∀ p ∈ [(h'.objs.size, go)], p.1 ≠ b := fun b hb p hp z => by
      have hp : p = (h'.objs.size, go) := by simpa using hp
      subst hp
      have := (hf4 b hb).2
      rw [← z, sz'] at this
      exact absurd this (Nat.not_lt.mpr (Nat.le_succ _))
    have bar : AllBare (s4.gens.push (.fresh (.compStart (.GeneratorExp elt [⟨tg, iter, [], 0⟩] scope gpos) 0 (.ref it) .none (gEnv X scope s4.heap.objs.size code)))) := AllBare.push I3.bare rfl
    refine hQ _ _ ⟨h'.objs.size, s4.gens.size, m + 1, gen X (X.A.in1.in1.deeper (gEnv X scope s4.heap.objs.size code)) s4 (upd H2 P (.tbl (ps ++ more))) (gEnv X scope s4.heap.objs.size code) fp [(h'.objs.size, go)], rfl, isg _ gat, I3.nolimit.keeps keep5, bar, ⟨_, Array.getElem?_push_size .., rfl, fun s' e1 e2 e3 => ⟨rfl, ?_⟩⟩, fun s' H' I' => ?_⟩
    · exact seg_first (B := X.A.in1.in1) hc co (by simp [genEnv]) T (pg _ _ _ _ _ _) (pe _ _ _ _ _ _) hfpn wk m (m + 1) _ s' _ (Nat.lt_succ_self _) w0 (key s' e1 e2 e3)
        (T.keep _ _ _ st2 fun b hb o e => by rw [e1]; exact keep5 b o (by rw [eh4]; exact keep3 b o (nPf b hb) e)) fun b hb => (hf4 b hb).1.1
    · refine ⟨isg _ (I'.pin (h'.objs.size, go) (List.mem_append_left _ (List.mem_singleton.mpr rfl))).1, I'.nolimit, I'.bare, ?_⟩
      exact I3.call' (ch := fp) I'.os I'.base I'.hok I'.bare fun b hb => ⟨(hf4 b hb).1.2.2.2.1, (hf4 b hb).1.2.1, (hf4 b hb).1.2.2.2.2.1, (hf4 b hb).1.2.2.2.2.2⟩
  have cd : PySem.W.CodeHd s2.heap c P := TB.code.keeps fun b u e => I2.bk b u e
  cases hf : codeAmong gpos ps.toList with
  | none =>
    refine wpAny_genexprCodeX hcode (cd.code hPs ht) (cd.tab hPs) hf fun c' h' tk hx hge hlt hco' _ htab' _ => ?_
    obtain ⟨o1, us, f1, tf, fl, tg', inF, tx, tt, op, _, _, _, _, _, _, _, _, _, htr, _⟩ := hco'
    exact cont _ h' tk _ hx (Nat.le_trans hge (Nat.le_of_lt hlt)) htab'.2 ⟨_, rfl⟩ htr
  | some cv =>
    refine wpAny_genexprCode_hit hcode (cd.code hPs ht) hf ?_
    exact cont cv s2.heap s2.toks ps (Heap.ExtBut.refl _ _) (Nat.le_refl _) hPs ⟨#[], by simp⟩ ht
end
end Gx

set_option Elab.async false
set_option linter.all false
set_option maxRecDepth 100000
set_option maxHeartbeats 4000000
/-! Gx4: all, any. -/
namespace Gx
open PySem PySem.Spec PyProof.Rows L2
section
variable {X : Cx} {pins : List (Addr × Obj)} {σ : L2.St} {H : Hp} {s : Shared}
theorem _root_.L2.Room.depth' {k : Nat} {A : Around} (r : Room k A) : A.depth < recursionLimit := by have := r.dp; omega

theorem all_turns {vs : List Nat} {Q : VK} {a : Addr} {gn : Nat} {Y : Cx} {R : Result → Shared → Prop} (hh : X.A.handled = none) (hd : X.A.depth < recursionLimit)
    (back : ∀ s' H', Inv Y [] (wipe σ vs) H' s' → s'.heap.IsGen a gn ∧ s'.heap.NoLimit ∧ AllBare s'.gens ∧ Inv X pins σ H' s') (hR : ∀ b s' H', Inv X pins σ H' s' → Q (.bl b) H' → R (.ok (.ret (.bool b))) s') :
    ∀ (n : Nat) (s : Shared), s.heap.IsGen a gn → s.heap.NoLimit → (∃ gs, s.gens[gn]? = some gs ∧ gs.Goes (model X.prog X.w) X.A.in1.in1 (REnd Y σ vs false Q) (YBool Y σ vs false Q) n (.send .none) (s.setGen gn .running)) →
      codeAny (model X.prog X.w) X.A (.builtin "all.loop" ⟨[.ref a], []⟩) R s := by
  intro n
  induction n with
  | zero =>
    intro s hg hl ⟨gs, hgs, hgo⟩
    refine codeAny_builtin F.entry_all_loop ?_
    rw [Around.under_plainId F.plain_all_loop _]
    show wpAny _ X.A.in1 (pyNext (.ref a) >>= _) _ _ s
    refine wpAny_bind (wpAny_pyNext_genexpQ (A := X.A.in1) (P := fun _ _ s1 => ∃ H', Inv Y [] (wipe σ vs) H' s1 ∧ Q (.bl (!false)) H') hh hl hd hg hgs hgo (fun v s₁ gs' hb hv => ?_) (fun s₁ hp h' hk => ?_))
    · obtain ⟨b, H', rfl, I1, q⟩ := hv
      obtain ⟨g1, l1, b1, J⟩ := back _ _ I1
      refine wpAny_bind (wpAny_holding (wpAny_truthy_bool ?_))
      refine wpAny_bind (wpAny_letGo ?_)
      cases b with
      | false =>
        simp only [Bool.false_eq_true, if_false]
        refine wpAny_bind (wpAny_rule (wpAny_pure ?_))
        exact hR false _ H' (Inv.sameHeap J rfl rfl (allBare_setGen b1 hb)) q
      | true =>
        rw [if_neg (by decide)] at q
        exact (q s₁ rfl rfl b1).elim
    · obtain ⟨H', I1, q⟩ := hp
      obtain ⟨g1, l1, b1, J⟩ := back _ _ I1
      refine wpAny_bind (wpAny_rule (wpAny_pure ?_))
      exact hR _ _ H' ((Inv.sameHeap (s' := s₁.setGen gn .finished) J rfl rfl (allBare_setGen b1 rfl)).kept (t' := s₁.toks) hk) q
  | succ n ih =>
    intro s hg hl ⟨gs, hgs, hgo⟩
    have hgl : gn < s.gens.size := (Array.getElem?_eq_some_iff.mp hgs).1
    refine codeAny_builtin F.entry_all_loop ?_
    rw [Around.under_plainId F.plain_all_loop _]
    show wpAny _ X.A.in1 (pyNext (.ref a) >>= _) _ _ s
    refine wpAny_bind (GenW.wpAny_gsz (n := gn + 1) hgl (wpAny_pyNext_genexpQ (A := X.A.in1) (P := fun _ _ s1 => ∃ H', Inv Y [] (wipe σ vs) H' s1 ∧ Q (.bl (!false)) H') hh hl hd hg hgs hgo (fun v s₁ gs' hb hv => ?_) (fun s₁ hp h' hk => ?_)))
    · intro hsz
      obtain ⟨b, H', rfl, I1, q⟩ := hv
      obtain ⟨g1, l1, b1, J⟩ := back _ _ I1
      have hsz1 : gn < s₁.gens.size := by
        have e : (s₁.setGen gn gs').gens.size = s₁.gens.size := GenW.setGen_size _ _ _
        have hsz' : gn + 1 ≤ (s₁.setGen gn gs').gens.size := hsz
        omega
      refine wpAny_bind (wpAny_holding (wpAny_truthy_bool ?_))
      refine wpAny_bind (wpAny_letGo ?_)
      cases b with
      | false =>
        simp only [Bool.false_eq_true, if_false]
        refine wpAny_bind (wpAny_rule (wpAny_pure ?_))
        exact hR false _ H' (Inv.sameHeap J rfl rfl (allBare_setGen b1 hb)) q
      | true =>
        rw [if_neg (by decide)] at q
        simp only [if_true]
        refine wpAny_pure ⟨plainId_quiet F.plain_all_loop _, ih (s₁.setGen gn gs') g1 l1 ⟨gs', setGen_at hsz1, ?_⟩⟩
        exact q _ rfl rfl (allBare_setGen (allBare_setGen b1 hb) rfl)
    · intro _
      obtain ⟨H', I1, q⟩ := hp
      obtain ⟨g1, l1, b1, J⟩ := back _ _ I1
      refine wpAny_bind (wpAny_rule (wpAny_pure ?_))
      exact hR _ _ H' ((Inv.sameHeap (s' := s₁.setGen gn .finished) J rfl rfl (allBare_setGen b1 rfl)).kept (t' := s₁.toks) hk) q
theorem pe_all {c P : Addr} {elt tg iter : Expr} {p cpos gpos : Pos} {scope : Scope} {own : List (Str × Nat)} {wi : TI} {g : TG} {te : TE} {k : Nat}
    (hr : Room k X.A) (hc : X.calm = true) (hN : X.N.Nodup) (hg : Gl X "all") (hm : X.mg "all" = none) (hb : bootBuiltins "all" = some (.builtin "all")) (TB : GxR.TabB X.base X.mg c P) (hcode : X.env.code = .ref c) (ok : BlkOk X.N X.env.scope scope own) (nc : ∀ y ∈ scope.names, y.2 ≠ .cell) (dot : scope.names.lookup (".0" : Str) = some NameKind.local) (co : scope.isCoroutine = false)
    (hi : PI X tg iter wi) (pg : ∀ (s : Shared) (H : Hp) (C : Addr) (code : Value) (fp : List Addr) (pn : List (Addr × Obj)), PG (gen X (X.A.in1.in1.deeper (gEnv X scope C code)) s H (gEnv X scope C code) fp pn) tg g) (pe : ∀ (s : Shared) (H : Hp) (C : Addr) (code : Value) (fp : List Addr) (pn : List (Addr × Obj)), PE (gen X (X.A.in1.in1.deeper (gEnv X scope C code)) s H (gEnv X scope C code) fp pn) elt te)
    (hs : ∀ v, genFold iter X.env v = pure v) (he : starEach [.GeneratorExp elt [⟨tg, iter, [], 0⟩] scope gpos] X.env = (false, eval (.GeneratorExp elt [⟨tg, iter, [], 0⟩] scope gpos) X.env) :: starEach [] X.env := by rfl) :
    PE X (.Call (.Name "all" p) [.GeneratorExp elt [⟨tg, iter, [], 0⟩] scope gpos] [] cpos) (tAA false P wi g te (own.map (·.2))) := by
  refine ⟨fun pins s σ H Q I h => ?_⟩
  refine wpAny_Call_Name_kw (ld_blt I hg hm hb ?_)
  refine PyProof.Rows.callWith_builtin1 ?_ he (by rfl)
  rw [he]
  show wpAny _ _ (spliced ((false, eval (.GeneratorExp elt [⟨tg, iter, [], 0⟩] scope gpos) X.env) :: backTo cpos (starEach [] X.env))) _ _ s
  refine Calls.spliced_cons (gen_make hr hc hN TB hcode ok nc dot co hi pg pe hs I h fun u s5 hG => ?_)
  obtain ⟨a, gn, n, Y, rfl, g5, l5, b5, ⟨gs, hgs, hbr, hgo⟩, back⟩ := hG
  refine Calls.spliced_nil ?_
  refine call_function_tree F.kind_all F.plain_all F.entry_all (F.args_all1 _) ?_
  unfold Builtin.«all»
  refine wpAny_bind (m := oneArg "all" _) (wpAny_pure ?_)
  refine wpAny_bind (wpAny_pyIter_gen g5 ?_)
  refine wpAny_pure ⟨plainId_quiet F.plain_all_loop _, all_turns hr.hd hr.depth' back (fun b s' H' J q => ?_) n s5 g5 l5 ⟨gs, hgs, hgo _ rfl rfl (allBare_setGen b5 rfl)⟩⟩
  exact ⟨.bl b, H', J, rfl, q⟩

theorem any_turns {vs : List Nat} {Q : VK} {a : Addr} {gn : Nat} {Y : Cx} {R : Result → Shared → Prop} (hh : X.A.handled = none) (hd : X.A.depth < recursionLimit)
    (back : ∀ s' H', Inv Y [] (wipe σ vs) H' s' → s'.heap.IsGen a gn ∧ s'.heap.NoLimit ∧ AllBare s'.gens ∧ Inv X pins σ H' s') (hR : ∀ b s' H', Inv X pins σ H' s' → Q (.bl b) H' → R (.ok (.ret (.bool b))) s') :
    ∀ (n : Nat) (s : Shared), s.heap.IsGen a gn → s.heap.NoLimit → (∃ gs, s.gens[gn]? = some gs ∧ gs.Goes (model X.prog X.w) X.A.in1.in1 (REnd Y σ vs true Q) (YBool Y σ vs true Q) n (.send .none) (s.setGen gn .running)) →
      codeAny (model X.prog X.w) X.A (.builtin "any.loop" ⟨[.ref a], []⟩) R s := by
  intro n
  induction n with
  | zero =>
    intro s hg hl ⟨gs, hgs, hgo⟩
    refine codeAny_builtin F.entry_any_loop ?_
    rw [Around.under_plainId F.plain_any_loop _]
    show wpAny _ X.A.in1 (pyNext (.ref a) >>= _) _ _ s
    refine wpAny_bind (wpAny_pyNext_genexpQ (A := X.A.in1) (P := fun _ _ s1 => ∃ H', Inv Y [] (wipe σ vs) H' s1 ∧ Q (.bl (!true)) H') hh hl hd hg hgs hgo (fun v s₁ gs' hb hv => ?_) (fun s₁ hp h' hk => ?_))
    · obtain ⟨b, H', rfl, I1, q⟩ := hv
      obtain ⟨g1, l1, b1, J⟩ := back _ _ I1
      refine wpAny_bind (wpAny_holding (wpAny_truthy_bool ?_))
      refine wpAny_bind (wpAny_letGo ?_)
      cases b with
      | true =>
        simp only [if_true]
        refine wpAny_bind (wpAny_rule (wpAny_pure ?_))
        exact hR true _ H' (Inv.sameHeap J rfl rfl (allBare_setGen b1 hb)) q
      | false =>
        rw [if_neg (by decide)] at q
        exact (q s₁ rfl rfl b1).elim
    · obtain ⟨H', I1, q⟩ := hp
      obtain ⟨g1, l1, b1, J⟩ := back _ _ I1
      refine wpAny_bind (wpAny_rule (wpAny_pure ?_))
      exact hR _ _ H' ((Inv.sameHeap (s' := s₁.setGen gn .finished) J rfl rfl (allBare_setGen b1 rfl)).kept (t' := s₁.toks) hk) q
  | succ n ih =>
    intro s hg hl ⟨gs, hgs, hgo⟩
    have hgl : gn < s.gens.size := (Array.getElem?_eq_some_iff.mp hgs).1
    refine codeAny_builtin F.entry_any_loop ?_
    rw [Around.under_plainId F.plain_any_loop _]
    show wpAny _ X.A.in1 (pyNext (.ref a) >>= _) _ _ s
    refine wpAny_bind (GenW.wpAny_gsz (n := gn + 1) hgl (wpAny_pyNext_genexpQ (A := X.A.in1) (P := fun _ _ s1 => ∃ H', Inv Y [] (wipe σ vs) H' s1 ∧ Q (.bl (!true)) H') hh hl hd hg hgs hgo (fun v s₁ gs' hb hv => ?_) (fun s₁ hp h' hk => ?_)))
    · intro hsz
      obtain ⟨b, H', rfl, I1, q⟩ := hv
      obtain ⟨g1, l1, b1, J⟩ := back _ _ I1
      have hsz1 : gn < s₁.gens.size := by
        have e : (s₁.setGen gn gs').gens.size = s₁.gens.size := GenW.setGen_size _ _ _
        have hsz' : gn + 1 ≤ (s₁.setGen gn gs').gens.size := hsz
        omega
      refine wpAny_bind (wpAny_holding (wpAny_truthy_bool ?_))
      refine wpAny_bind (wpAny_letGo ?_)
      cases b with
      | true =>
        simp only [if_true]
        refine wpAny_bind (wpAny_rule (wpAny_pure ?_))
        exact hR true _ H' (Inv.sameHeap J rfl rfl (allBare_setGen b1 hb)) q
      | false =>
        rw [if_neg (by decide)] at q
        simp only [Bool.false_eq_true, if_false]
        refine wpAny_pure ⟨plainId_quiet F.plain_any_loop _, ih (s₁.setGen gn gs') g1 l1 ⟨gs', setGen_at hsz1, ?_⟩⟩
        exact q _ rfl rfl (allBare_setGen (allBare_setGen b1 hb) rfl)
    · intro _
      obtain ⟨H', I1, q⟩ := hp
      obtain ⟨g1, l1, b1, J⟩ := back _ _ I1
      refine wpAny_bind (wpAny_rule (wpAny_pure ?_))
      exact hR _ _ H' ((Inv.sameHeap (s' := s₁.setGen gn .finished) J rfl rfl (allBare_setGen b1 rfl)).kept (t' := s₁.toks) hk) q
theorem pe_any {c P : Addr} {elt tg iter : Expr} {p cpos gpos : Pos} {scope : Scope} {own : List (Str × Nat)} {wi : TI} {g : TG} {te : TE} {k : Nat}
    (hr : Room k X.A) (hc : X.calm = true) (hN : X.N.Nodup) (hg : Gl X "any") (hm : X.mg "any" = none) (hb : bootBuiltins "any" = some (.builtin "any")) (TB : GxR.TabB X.base X.mg c P) (hcode : X.env.code = .ref c) (ok : BlkOk X.N X.env.scope scope own) (nc : ∀ y ∈ scope.names, y.2 ≠ .cell) (dot : scope.names.lookup (".0" : Str) = some NameKind.local) (co : scope.isCoroutine = false)
    (hi : PI X tg iter wi) (pg : ∀ (s : Shared) (H : Hp) (C : Addr) (code : Value) (fp : List Addr) (pn : List (Addr × Obj)), PG (gen X (X.A.in1.in1.deeper (gEnv X scope C code)) s H (gEnv X scope C code) fp pn) tg g) (pe : ∀ (s : Shared) (H : Hp) (C : Addr) (code : Value) (fp : List Addr) (pn : List (Addr × Obj)), PE (gen X (X.A.in1.in1.deeper (gEnv X scope C code)) s H (gEnv X scope C code) fp pn) elt te)
    (hs : ∀ v, genFold iter X.env v = pure v) (he : starEach [.GeneratorExp elt [⟨tg, iter, [], 0⟩] scope gpos] X.env = (false, eval (.GeneratorExp elt [⟨tg, iter, [], 0⟩] scope gpos) X.env) :: starEach [] X.env := by rfl) :
    PE X (.Call (.Name "any" p) [.GeneratorExp elt [⟨tg, iter, [], 0⟩] scope gpos] [] cpos) (tAA true P wi g te (own.map (·.2))) := by
  refine ⟨fun pins s σ H Q I h => ?_⟩
  refine wpAny_Call_Name_kw (ld_blt I hg hm hb ?_)
  refine PyProof.Rows.callWith_builtin1 ?_ he (by rfl)
  rw [he]
  show wpAny _ _ (spliced ((false, eval (.GeneratorExp elt [⟨tg, iter, [], 0⟩] scope gpos) X.env) :: backTo cpos (starEach [] X.env))) _ _ s
  refine Calls.spliced_cons (gen_make hr hc hN TB hcode ok nc dot co hi pg pe hs I h fun u s5 hG => ?_)
  obtain ⟨a, gn, n, Y, rfl, g5, l5, b5, ⟨gs, hgs, hbr, hgo⟩, back⟩ := hG
  refine Calls.spliced_nil ?_
  refine call_function_tree F.kind_any F.plain_any F.entry_any (F.args_any1 _) ?_
  unfold Builtin.«any»
  refine wpAny_bind (m := oneArg "any" _) (wpAny_pure ?_)
  refine wpAny_bind (wpAny_pyIter_gen g5 ?_)
  refine wpAny_pure ⟨plainId_quiet F.plain_any_loop _, any_turns hr.hd hr.depth' back (fun b s' H' J q => ?_) n s5 g5 l5 ⟨gs, hgs, hgo _ rfl rfl (allBare_setGen b5 rfl)⟩⟩
  exact ⟨.bl b, H', J, rfl, q⟩
end
end Gx

set_option Elab.async false
set_option linter.all false
set_option maxRecDepth 100000
set_option maxHeartbeats 4000000
/-! Fx0: plain data D, how it lies in the abstract heap, what an expression or statement computes. -/
namespace Fx
open PySem PySem.Spec PyProof.Rows L2

inductive Oc (α : Type) where
  | st | ok (a : α) | ex (c : Str)
def bd {α β : Type} : Oc α → (α → Oc β) → Oc β
  | .st, _ => .st
  | .ok a, f => f a
  | .ex c, _ => .ex c
@[simp] theorem bd_ok {α β : Type} (a : α) (f : α → Oc β) : bd (.ok a) f = f a := id rfl
@[simp] theorem bd_st {α β : Type} (f : α → Oc β) : bd .st f = .st := id rfl
@[simp] theorem bd_ex {α β : Type} (c : Str) (f : α → Oc β) : bd (.ex c) f = .ex c := id rfl
def noex {α : Type} : Oc α → Oc α
  | .ex _ => .st
  | o => o
@[simp] theorem noex_ok {α : Type} (a : α) : noex (.ok a) = .ok a := id rfl
def chk {α : Type} (b : Bool) (o : Oc α) : Oc α := if b then o else .st
@[simp] theorem chk_true {α : Type} (o : Oc α) : chk true o = o := id rfl

inductive D where
  | non | bl (b : Bool) | int (i : Int) | str (x : Str)
  | lst (ds : List D) | tup (ds : List D) | fz (ds : List D)
  | obj (c : Str) (fs : List (Str × D))
  | ty (n : String)

section
variable (K : PySem.W.Frag) (mg : Str → Option Value)
mutual
inductive Rep (G : Hp) : V → D → Prop
  | non : Rep G .non .non
  | bl (b : Bool) : Rep G (.bl b) (.bl b)
  | int (i : Int) : Rep G (.int i) (.int i)
  | str (x : Str) : Rep G (.str x) (.str x)
  | ty (n : String) : Rep G (.ty n) (.ty n)
  | lst {a : Addr} {xs : List V} {ds : List D} : G a = some (.lst xs) → RepL G xs ds → Rep G (.ref a) (.lst ds)
  | tup {a : Addr} {xs : List V} {ds : List D} : SqT K G a xs → RepL G xs ds → Rep G (.ref a) (.tup ds)
  | fz {a : Addr} {xs : List V} {ds : List D} : SqL K G a xs → RepL G xs ds → Rep G (.ref a) (.fz ds)
  | obj {a C dx : Addr} {c : Str} {fs : List (Str × V)} {ds : List (Str × D)} : mg c = some (.ref C) → G a = some (.ins C dx fs) → RepF G fs ds → Rep G (.ref a) (.obj c ds)
inductive RepL (G : Hp) : List V → List D → Prop
  | nil : RepL G [] []
  | cons {v : V} {vs : List V} {d : D} {ds : List D} : Rep G v d → RepL G vs ds → RepL G (v :: vs) (d :: ds)
inductive RepF (G : Hp) : List (Str × V) → List (Str × D) → Prop
  | nil : RepF G [] []
  | cons {n : Str} {v : V} {vs : List (Str × V)} {d : D} {ds : List (Str × D)} : Rep G v d → RepF G vs ds → RepF G ((n, v) :: vs) ((n, d) :: ds)
end
end
variable {K : PySem.W.Frag} {mg : Str → Option Value}

theorem SqT.same {H H' : Hp} {a : Addr} {xs : List V} (e : Same H H') (h : SqT K H a xs) : SqT K H' a xs := by
  rcases h with (h | ⟨o, h⟩) | h
  · exact .inl (.inl (e _ _ h))
  · exact .inl (.inr ⟨o, e _ _ h⟩)
  · exact .inr h
mutual
theorem Rep.same {G G' : Hp} (e : Same G G') : ∀ {v : V} {d : D}, Rep K mg G v d → Rep K mg G' v d
  | _, _, .non => .non
  | _, _, .bl b => .bl b
  | _, _, .int i => .int i
  | _, _, .str x => .str x
  | _, _, .ty n => .ty n
  | _, _, .lst h r => .lst (e _ _ h) (RepL.same e r)
  | _, _, .tup h r => .tup (SqT.same e h) (RepL.same e r)
  | _, _, .fz h r => .fz (e.seq h) (RepL.same e r)
  | _, _, .obj m h r => .obj m (e _ _ h) (RepF.same e r)
theorem RepL.same {G G' : Hp} (e : Same G G') : ∀ {vs : List V} {ds : List D}, RepL K mg G vs ds → RepL K mg G' vs ds
  | _, _, .nil => .nil
  | _, _, .cons r t => .cons (Rep.same e r) (RepL.same e t)
theorem RepF.same {G G' : Hp} (e : Same G G') : ∀ {vs : List (Str × V)} {ds : List (Str × D)}, RepF K mg G vs ds → RepF K mg G' vs ds
  | _, _, .nil => .nil
  | _, _, .cons r t => .cons (Rep.same e r) (RepF.same e t)
end
section
variable {G : Hp}
theorem RepL.length : ∀ {vs : List V} {ds : List D}, RepL K mg G vs ds → vs.length = ds.length
  | _, _, .nil => rfl
  | _, _, .cons _ t => by simp [RepL.length t]
theorem RepL.get : ∀ {vs : List V} {ds : List D} {i : Nat} {d : D}, RepL K mg G vs ds → ds[i]? = some d → ∃ v, vs[i]? = some v ∧ Rep K mg G v d
  | _, _, i, _, .nil, e => by simp at e
  | _, _, 0, _, .cons r _, e => by simp at e; subst e; exact ⟨_, rfl, r⟩
  | _, _, i + 1, d, .cons _ t, e => by
    obtain ⟨u, h1, h2⟩ := RepL.get (i := i) (d := d) t (by simpa using e)
    exact ⟨u, by simpa using h1, h2⟩
theorem RepL.getV : ∀ {vs : List V} {ds : List D} {i : Nat} {v : V}, RepL K mg G vs ds → vs[i]? = some v → ∃ d, ds[i]? = some d ∧ Rep K mg G v d
  | _, _, i, _, .nil, e => by simp at e
  | _, _, 0, _, .cons r _, e => by simp at e; subst e; exact ⟨_, rfl, r⟩
  | _, _, i + 1, d, .cons _ t, e => by
    obtain ⟨u, h1, h2⟩ := RepL.getV (i := i) (v := d) t (by simpa using e)
    exact ⟨u, by simpa using h1, h2⟩
theorem RepL.append : ∀ {xs ys : List V} {ds es : List D}, RepL K mg G xs ds → RepL K mg G ys es → RepL K mg G (xs ++ ys) (ds ++ es)
  | _, _, _, _, .nil, s => s
  | _, _, _, _, .cons r t, s => .cons r (RepL.append t s)
theorem RepL.take : ∀ {xs : List V} {ds : List D} (n : Nat), RepL K mg G xs ds → RepL K mg G (xs.take n) (ds.take n)
  | _, _, 0, _ => .nil
  | _, _, _ + 1, .nil => .nil
  | _, _, n + 1, .cons r t => .cons r (RepL.take n t)
theorem RepL.drop : ∀ {xs : List V} {ds : List D} (n : Nat), RepL K mg G xs ds → RepL K mg G (xs.drop n) (ds.drop n)
  | _, _, 0, r => r
  | _, _, _ + 1, .nil => .nil
  | _, _, n + 1, .cons _ t => RepL.drop n t
theorem RepL.reverse {xs : List V} {ds : List D} (h : RepL K mg G xs ds) : RepL K mg G xs.reverse ds.reverse := by
  induction xs generalizing ds with
  | nil => cases h; exact .nil
  | cons x xs ih => cases h with | cons r t => rw [List.reverse_cons, List.reverse_cons]; exact (ih t).append (.cons r .nil)
theorem RepF.look : ∀ {fs : List (Str × V)} {ds : List (Str × D)} {n : Str} {d : D}, RepF K mg G fs ds → ds.lookup n = some d → ∃ v, fs.lookup n = some v ∧ Rep K mg G v d
  | _, _, n, _, .nil, e => by simp at e
  | _, _, n, d, .cons (n := m) r t, e => by
    by_cases h : n = m
    · subst h
      simp at e
      subst e
      exact ⟨_, by simp, r⟩
    · have hb : (n == m) = false := beq_eq_false_iff_ne.mpr h
      rw [List.lookup_cons, hb] at e
      obtain ⟨v, h1, h2⟩ := RepF.look t e
      exact ⟨v, by rw [List.lookup_cons, hb]; exact h1, h2⟩
theorem RepF.length : ∀ {vs : List (Str × V)} {ds : List (Str × D)}, RepF K mg G vs ds → vs.length = ds.length
  | _, _, .nil => rfl
  | _, _, .cons _ t => by simp [RepF.length t]
end

/-! ### heaps: G what is visible, H all that is tracked -/
def IsTab (K : PySem.W.Frag) (P : Addr) : Prop := K.lookup P = none ∧ ∃ c, PySem.W.codeHdIn K c P = true
structure Sm (H H' : Hp) : Prop where
  ob : ∀ a o, H a = some o → (∀ ps, o ≠ .tbl ps) → H' a = some o
  dom : ∀ a o, H a = some o → ∃ o', H' a = some o'
  tb : ∀ P, GxR.TabG H P → GxR.TabG H' P
theorem Sm.of {H H' : Hp} (s : Same H H') : Sm H H' := ⟨fun a o e _ => s a o e, fun a o e => ⟨o, s a o e⟩, fun P ⟨ps, h, t⟩ => ⟨ps, s _ _ h, t⟩⟩
theorem Sm.refl (H : Hp) : Sm H H := .of (.refl _)
theorem Sm.trans {H H' H2 : Hp} (a : Sm H H') (b : Sm H' H2) : Sm H H2 := ⟨fun c o e n => b.ob c o (a.ob c o e n) n, fun c o e => let ⟨o', e'⟩ := a.dom c o e; b.dom c o' e', fun P t => b.tb P (a.tb P t)⟩
theorem Sm.free {H H' : Hp} (a : Sm H H') {p : Addr} (h : H' p = none) : H p = none := by
  cases e : H p with
  | none => rfl
  | some o =>
    obtain ⟨o', e'⟩ := a.dom p o e
    rw [h] at e'
    cases e'
theorem Sm.upd {H0 H : Hp} (s : Sm H0 H) {p : Addr} {o : HO} (h : H0 p = none) : Sm H0 (L2.upd H p o) := by
  refine ⟨fun b u e n => ?_, fun b u e => ?_, fun P ⟨ps, e, t⟩ => ?_⟩
  · rw [upd_ne (ne_of_none e h)]; exact s.ob _ _ e n
  · rw [upd_ne (ne_of_none e h)]; exact s.dom _ _ e
  · obtain ⟨ps2, e2, t2⟩ := s.tb P ⟨ps, e, t⟩
    exact ⟨ps2, by rw [upd_ne (ne_of_none e h)]; exact e2, t2⟩
def Tabs (K : PySem.W.Frag) (G H : Hp) : Prop := ∀ P, IsTab K P → GxR.TabG H P ∧ G P = none
theorem Tabs.same {G H H' : Hp} (t : Tabs K G H) (s : Same H H') : Tabs K G H' := fun P h => by
  obtain ⟨⟨ps, e, ok⟩, g⟩ := t P h
  exact ⟨⟨ps, s _ _ e, ok⟩, g⟩
theorem Tabs.upd {G H : Hp} (t : Tabs K G H) {p : Addr} {o : HO} (n : ∀ ps, H p ≠ some (.tbl ps)) : Tabs K G (L2.upd H p o) := fun P h => by
  obtain ⟨⟨ps, e, ok⟩, g⟩ := t P h
  exact ⟨⟨ps, by rw [upd_ne fun z => n ps (by rw [← z]; exact e)]; exact e, ok⟩, g⟩
def rmv (H : Hp) (x : Addr) : Hp := fun b => if b = x then none else H b
theorem rmv_ne {H : Hp} {x b : Addr} (h : b ≠ x) : rmv H x b = H b := by unfold rmv; rw [if_neg h]
theorem rmv_some {H : Hp} {x b : Addr} {o : HO} (h : rmv H x b = some o) : b ≠ x ∧ H b = some o := by
  unfold rmv at h
  split at h
  · cases h
  · rename_i hn; exact ⟨hn, h⟩
structure Ext (G H G' H' : Hp) : Prop where
  hh : Sm H H'
  gg : Same G G'
  gh : Same G' H'
  nc : ∀ a o, H a = some o → G a = none → G' a = none
theorem Ext.refl {G H : Hp} (s : Same G H) : Ext G H G H := ⟨.refl _, .refl _, s, fun _ _ _ h => h⟩
theorem Ext.trans {G H G1 H1 G2 H2 : Hp} (a : Ext G H G1 H1) (b : Ext G1 H1 G2 H2) : Ext G H G2 H2 :=
  ⟨a.hh.trans b.hh, a.gg.trans b.gg, b.gh, fun c o h g => let ⟨o', h'⟩ := a.hh.dom c o h; b.nc c o' h' (a.nc c o h g)⟩
theorem Ext.new {G H : Hp} {p : Addr} {o : HO} (s : Same G H) (hp : H p = none) : Ext G H (upd G p o) (upd H p o) := by
  have gp : G p = none := s.free hp
  refine ⟨.of fun b u e => by rw [upd_ne (ne_of_none e hp)]; exact e, fun b u e => by rw [upd_ne (ne_of_none e gp)]; exact e, fun b u e => ?_, fun b u h g => ?_⟩
  · by_cases hb : b = p
    · subst hb; rw [upd_same] at e ⊢; exact e
    · rw [upd_ne hb] at e ⊢; exact s _ _ e
  · rw [upd_ne (ne_of_none h hp)]; exact g
theorem Ext.newH {G H : Hp} {p : Addr} {o : HO} (s : Same G H) (hp : H p = none) : Ext G H G (upd H p o) :=
  ⟨.of fun b u e => by rw [upd_ne (ne_of_none e hp)]; exact e, .refl _, fun b u e => by rw [upd_ne (ne_of_none (s _ _ e) hp)]; exact s _ _ e, fun _ _ _ g => g⟩

/-! ### slots -/
inductive Sl where
  | no | sh (d : D) | ow (d : D)
abbrev En := List Sl

def OwAt (K : PySem.W.Frag) (mg : Str → Option Value) (G H : Hp) (a : Addr) : D → Prop
  | .lst ds => ∃ xs, H a = some (.lst xs) ∧ RepL K mg G xs ds
  | .obj c ds => ∃ C dx fs, mg c = some (.ref C) ∧ H a = some (.ins C dx fs) ∧ RepF K mg G fs ds
  | _ => False
theorem OwAt.ex {G H : Hp} {a : Addr} : ∀ {d : D}, OwAt K mg G H a d → ∃ o, H a = some o
  | .lst _, ⟨_, h, _⟩ => ⟨_, h⟩
  | .obj _ _, ⟨_, _, _, _, h, _⟩ => ⟨_, h⟩
theorem OwAt.notTab {G H : Hp} {a : Addr} {d : D} (w : OwAt K mg G H a d) (ps : Array Value) : H a ≠ some (.tbl ps) := by
  intro z
  cases d with
  | lst ds => obtain ⟨xs, e, _⟩ := w; rw [z] at e; cases e
  | obj c ds => obtain ⟨C, dx, fs, _, e, _⟩ := w; rw [z] at e; cases e
  | _ => exact w
theorem OwAt.same {G H G' H' : Hp} {a : Addr} (g : Same G G') (h : ∀ o, H a = some o → (∀ ps, o ≠ .tbl ps) → H' a = some o) : ∀ {d : D}, OwAt K mg G H a d → OwAt K mg G' H' a d
  | .lst _, ⟨xs, e, r⟩ => ⟨xs, h _ e (fun _ z => by cases z), r.same g⟩
  | .obj _ _, ⟨C, dx, fs, m, e, r⟩ => ⟨C, dx, fs, m, h _ e (fun _ z => by cases z), r.same g⟩
theorem OwAt.rep {G H G' : Hp} {a : Addr} (g : Same G G') (h : ∀ o, H a = .some o → G' a = .some o) : ∀ {d : D}, OwAt K mg G H a d → Rep K mg G' (.ref a) d
  | .lst _, ⟨xs, e, r⟩ => .lst (h _ e) (r.same g)
  | .obj _ _, ⟨C, dx, fs, m, e, r⟩ => .obj m (h _ e) (r.same g)

def SlOk (K : PySem.W.Frag) (mg : Str → Option Value) (G H : Hp) (o : Option V) : Sl → Prop
  | .no => True
  | .sh d => ∃ v, o = some v ∧ Rep K mg G v d
  | .ow d => ∃ a, o = some (.ref a) ∧ G a = none ∧ OwAt K mg G H a d

structure Rel (K : PySem.W.Frag) (mg : Str → Option Value) (G H : Hp) (ρ : En) (σ : L2.St) : Prop where
  sub : Same G H
  tabs : Tabs K G H
  len : σ.length = ρ.length
  at_ : ∀ (i : Nat) (s : Sl) (o : Option V), ρ[i]? = some s → σ[i]? = some o → SlOk K mg G H o s
  apart : ∀ (i j : Nat) (a : Addr) (d e : D), ρ[i]? = some (.ow d) → ρ[j]? = some (.ow e) → σ[i]? = some (some (.ref a)) → σ[j]? = some (some (.ref a)) → i = j

theorem SlOk.ext {G H G' H' : Hp} {o : Option V} (x : Ext G H G' H') : ∀ {s : Sl}, SlOk K mg G H o s → SlOk K mg G' H' o s
  | .no, _ => trivial
  | .sh d, ⟨v, e, r⟩ => ⟨v, e, r.same x.gg⟩
  | .ow d, ⟨a, e, g, r⟩ => by
    obtain ⟨u, hu⟩ := r.ex
    exact ⟨a, e, x.nc a u hu g, r.same x.gg fun o q n => x.hh.ob _ _ q n⟩
theorem Tabs.ext {G H G' H' : Hp} (t : Tabs K G H) (x : Ext G H G' H') : Tabs K G' H' := fun P h => by
  obtain ⟨⟨ps, e, ok⟩, g⟩ := t P h
  exact ⟨x.hh.tb P ⟨ps, e, ok⟩, x.nc P _ e g⟩
theorem Rel.ext {G H G' H' : Hp} {ρ : En} {σ : L2.St} (R : Rel K mg G H ρ σ) (x : Ext G H G' H') : Rel K mg G' H' ρ σ :=
  ⟨x.gh, R.tabs.ext x, R.len, fun i s o h1 h2 => (R.at_ i s o h1 h2).ext x, R.apart⟩
theorem Rel.get {G H : Hp} {ρ : En} {σ : L2.St} (R : Rel K mg G H ρ σ) {i : Nat} {s : Sl} (h : ρ[i]? = some s) : ∃ o, σ[i]? = some o ∧ SlOk K mg G H o s := by
  have hi : i < ρ.length := (List.getElem?_eq_some_iff.mp h).1
  have hs : i < σ.length := by rw [R.len]; exact hi
  exact ⟨σ[i], List.getElem?_eq_getElem hs, R.at_ i s _ h (List.getElem?_eq_getElem hs)⟩
theorem Rel.set {G H : Hp} {ρ : En} {σ : L2.St} (R : Rel K mg G H ρ σ) (i : Nat) {v : V} {d : D} (r : Rep K mg G v d) : Rel K mg G H (ρ.set i (.sh d)) (σ.set i (some v)) := by
  refine ⟨R.sub, R.tabs, by simp [R.len], fun j s o h1 h2 => ?_, fun j k a d' e' h1 h2 h3 h4 => ?_⟩
  · by_cases hj : i = j
    · subst hj
      have hi : i < (ρ.set i (.sh d)).length := (List.getElem?_eq_some_iff.mp h1).1
      have hr : i < ρ.length := by simpa using hi
      rw [List.getElem?_set_self hr] at h1
      rw [List.getElem?_set_self (by rw [R.len]; exact hr)] at h2
      cases h1; cases h2
      exact ⟨v, rfl, r⟩
    · rw [List.getElem?_set_ne hj] at h1 h2
      exact R.at_ j s o h1 h2
  · have nj : ∀ {m : Nat} {y : D}, (ρ.set i (.sh d))[m]? = some (.ow y) → i ≠ m := fun {m y} h e => by
      subst e
      have hi : i < (ρ.set i (.sh d)).length := (List.getElem?_eq_some_iff.mp h).1
      rw [List.getElem?_set_self (by simpa using hi)] at h
      cases h
    have n1 := nj h1
    have n2 := nj h2
    rw [List.getElem?_set_ne n1] at h1 h3
    rw [List.getElem?_set_ne n2] at h2 h4
    exact R.apart j k a d' e' h1 h2 h3 h4
theorem Rel.setO {G H : Hp} {ρ : En} {σ : L2.St} (R : Rel K mg G H ρ σ) (i : Nat) {p : Addr} {d : D} (g : G p = none) (r : OwAt K mg G H p d)
    (new : ∀ (j : Nat) (e : D), ρ[j]? = some (.ow e) → σ[j]? ≠ some (some (.ref p))) : Rel K mg G H (ρ.set i (.ow d)) (σ.set i (some (.ref p))) := by
  refine ⟨R.sub, R.tabs, by simp [R.len], fun j s o h1 h2 => ?_, fun j k a d' e' h1 h2 h3 h4 => ?_⟩
  · by_cases hj : i = j
    · subst hj
      have hi : i < (ρ.set i (.ow d)).length := (List.getElem?_eq_some_iff.mp h1).1
      have hr : i < ρ.length := by simpa using hi
      rw [List.getElem?_set_self hr] at h1
      rw [List.getElem?_set_self (by rw [R.len]; exact hr)] at h2
      cases h1; cases h2
      exact ⟨p, rfl, g, r⟩
    · rw [List.getElem?_set_ne hj] at h1 h2
      exact R.at_ j s o h1 h2
  · by_cases hj : i = j
    · by_cases hk : i = k
      · exact hj.symm.trans hk
      · subst hj
        have hi : i < σ.length := by simpa using (List.getElem?_eq_some_iff.mp h3).1
        rw [List.getElem?_set_self hi] at h3
        cases h3
        rw [List.getElem?_set_ne hk] at h2 h4
        exact absurd h4 (new k e' h2)
    · by_cases hk : i = k
      · subst hk
        have hi : i < σ.length := by simpa using (List.getElem?_eq_some_iff.mp h4).1
        rw [List.getElem?_set_self hi] at h4
        cases h4
        rw [List.getElem?_set_ne hj] at h1 h3
        exact absurd h3 (new j d' h1)
      · rw [List.getElem?_set_ne hj] at h1 h3
        rw [List.getElem?_set_ne hk] at h2 h4
        exact R.apart j k a d' e' h1 h2 h3 h4
theorem Rel.clear {G H : Hp} {ρ : En} {σ : L2.St} (R : Rel K mg G H ρ σ) (i : Nat) : Rel K mg G H (ρ.set i .no) (σ.set i none) := by
  refine ⟨R.sub, R.tabs, by simp [R.len], fun j s o h1 h2 => ?_, fun j k a d' e' h1 h2 h3 h4 => ?_⟩
  · by_cases hj : i = j
    · subst hj
      have hi : i < (ρ.set i .no).length := (List.getElem?_eq_some_iff.mp h1).1
      have hr : i < ρ.length := by simpa using hi
      rw [List.getElem?_set_self hr] at h1
      cases h1
      trivial
    · rw [List.getElem?_set_ne hj] at h1 h2
      exact R.at_ j s o h1 h2
  · have nj : ∀ {m : Nat} {y : D}, (ρ.set i .no)[m]? = some (.ow y) → i ≠ m := fun {m y} h e => by
      subst e
      have hi : i < (ρ.set i .no).length := (List.getElem?_eq_some_iff.mp h).1
      rw [List.getElem?_set_self (by simpa using hi)] at h
      cases h
    have n1 := nj h1
    have n2 := nj h2
    rw [List.getElem?_set_ne n1] at h1 h3
    rw [List.getElem?_set_ne n2] at h2 h4
    exact R.apart j k a d' e' h1 h2 h3 h4
def freeze (i : Nat) (ρ : En) : En := match ρ[i]? with
  | some (.ow d) => ρ.set i (.sh d)
  | _ => ρ
theorem Rel.freeze {G H : Hp} {ρ : En} {σ : L2.St} (R : Rel K mg G H ρ σ) (i : Nat) {d : D} (h : ρ[i]? = some (.ow d)) :
    ∃ a G', σ[i]? = some (some (.ref a)) ∧ G a = none ∧ (∃ o, H a = some o ∧ G' = upd G a o) ∧ Rep K mg G' (.ref a) d ∧ Rel K mg G' H (ρ.set i (.sh d)) σ := by
  obtain ⟨o, ho, a, rfl, ga, ow⟩ := R.get h
  obtain ⟨u, hu⟩ := ow.ex
  have gg : Same G (upd G a u) := fun b x e => by rw [upd_ne (ne_of_none e ga)]; exact e
  have gh : Same (upd G a u) H := fun b x e => by
    by_cases hb : b = a
    · subst hb; rw [upd_same] at e; rw [hu]; exact e
    · rw [upd_ne hb] at e; exact R.sub _ _ e
  have rp : Rep K mg (upd G a u) (.ref a) d := ow.rep gg fun o q => by rw [hu] at q; cases q; exact upd_same
  refine ⟨a, upd G a u, ho, ga, ⟨u, hu, rfl⟩, rp, ⟨gh, fun P hP => ⟨(R.tabs P hP).1, by
    obtain ⟨⟨ps, e, _⟩, g0⟩ := R.tabs P hP
    rw [upd_ne fun z => ow.notTab ps (by rw [← z]; exact e)]
    exact g0⟩, by simp [R.len], fun j s o' h1 h2 => ?_, fun j k b d' e' h1 h2 h3 h4 => ?_⟩⟩
  · by_cases hj : i = j
    · subst hj
      rw [List.getElem?_set_self (List.getElem?_eq_some_iff.mp h).1] at h1
      cases h1
      rw [ho] at h2; cases h2
      exact ⟨_, rfl, rp⟩
    · rw [List.getElem?_set_ne hj] at h1
      have q := R.at_ j s o' h1 h2
      cases s with
      | no => trivial
      | sh d' => obtain ⟨v, e, r⟩ := q; exact ⟨v, e, r.same gg⟩
      | ow d' =>
        obtain ⟨b, e, gb, r⟩ := q
        subst e
        refine ⟨b, rfl, ?_, r.same gg fun o q _ => q⟩
        rw [upd_ne fun z => hj (R.apart i j a d d' h h1 ho (by rw [h2, z]))]
        exact gb
  · have nj : ∀ {m : Nat} {y : D}, (ρ.set i (.sh d))[m]? = some (.ow y) → i ≠ m := fun {m y} h e => by
      subst e
      have hi : i < (ρ.set i (.sh d)).length := (List.getElem?_eq_some_iff.mp h).1
      rw [List.getElem?_set_self (by simpa using hi)] at h
      cases h
    have n1 := nj h1
    have n2 := nj h2
    rw [List.getElem?_set_ne n1] at h1
    rw [List.getElem?_set_ne n2] at h2
    exact R.apart j k b d' e' h1 h2 h3 h4

/-! ### what an expression computes -/
def PostE (K : PySem.W.Frag) (mg : Str → Option Value) (W : XK) (G H : Hp) (Q : VK) : Oc D → Prop
  | .st => False
  | .ok d => ∀ v G' H', Ext G H G' H' → Rep K mg G' v d → Q v H'
  | .ex c => ∀ C G' H', Ext G H G' H' → mg c = some (.ref C) → W (.ref C) none H'
def tE (K : PySem.W.Frag) (mg : Str → Option Value) (W : WX) (f : En → Oc D) : TE := fun σ H Q => ∃ G ρ, Rel K mg G H ρ σ ∧ PostE K mg (fun c d H' => W c d σ H') G H Q (f ρ)
def PostQ (K : PySem.W.Frag) (mg : Str → Option Value) (W : XK) (G H : Hp) (Q : VK) : Oc D → Prop
  | .st => False
  | .ok d => ∀ v G' H', Ext G H G' H' → (Rep K mg G' v d ∨ ∃ a, v = .ref a ∧ G' a = none ∧ OwAt K mg G' H' a d) → Q v H'
  | .ex c => ∀ C G' H', Ext G H G' H' → mg c = some (.ref C) → W (.ref C) none H'
def tQ (K : PySem.W.Frag) (mg : Str → Option Value) (W : WX) (f : En → Oc D) : TE := fun σ H Q => ∃ G ρ, Rel K mg G H ρ σ ∧ PostQ K mg (fun c d H' => W c d σ H') G H Q (f ρ)
def PostF (K : PySem.W.Frag) (mg : Str → Option Value) (W : XK) (G H : Hp) (Q : VK) : Oc D → Prop
  | .st => False
  | .ok d => ∀ a G' H', Ext G H G' H' → H a = none → G' a = none → OwAt K mg G' H' a d → Q (.ref a) H'
  | .ex c => ∀ C G' H', Ext G H G' H' → mg c = some (.ref C) → W (.ref C) none H'
def tF (K : PySem.W.Frag) (mg : Str → Option Value) (W : WX) (f : En → Oc D) : TE := fun σ H Q => ∃ G ρ, Rel K mg G H ρ σ ∧ PostF K mg (fun c d H' => W c d σ H') G H Q (f ρ)
def PostA (K : PySem.W.Frag) (mg : Str → Option Value) (W : XK) (G H : Hp) (Q : List V → Hp → Prop) : Oc (List D) → Prop
  | .st => False
  | .ok ds => ∀ vs G' H', Ext G H G' H' → RepL K mg G' vs ds → Q vs H'
  | .ex c => ∀ C G' H', Ext G H G' H' → mg c = some (.ref C) → W (.ref C) none H'
def tA (K : PySem.W.Frag) (mg : Str → Option Value) (W : WX) (f : En → Oc (List D)) : TA := fun σ H Q => ∃ G ρ, Rel K mg G H ρ σ ∧ PostA K mg (fun c d H' => W c d σ H') G H Q (f ρ)
def PostT (K : PySem.W.Frag) (mg : Str → Option Value) (W : XK) (G H : Hp) (Q : Bool → Hp → Prop) : Oc Bool → Prop
  | .st => False
  | .ok b => ∀ G' H', Ext G H G' H' → Q b H'
  | .ex c => ∀ C G' H', Ext G H G' H' → mg c = some (.ref C) → W (.ref C) none H'
def tT (K : PySem.W.Frag) (mg : Str → Option Value) (W : WX) (f : En → Oc Bool) : TT := fun σ H Q => ∃ G ρ, Rel K mg G H ρ σ ∧ PostT K mg (fun c d H' => W c d σ H') G H Q (f ρ)

theorem PostE.imp {W : XK} {G H G1 H1 : Hp} {Q Q' : VK} {o : Oc D} (x : Ext G H G1 H1) (h : PostE K mg W G H Q o) (q : ∀ v H, Q v H → Q' v H) : PostE K mg W G1 H1 Q' o := by
  cases o with
  | st => exact h
  | ok d => exact fun v G' H' e r => q _ _ (h v G' H' (x.trans e) r)
  | ex c => exact fun C G' H' e m => h C G' H' (x.trans e) m

abbrev SE (X : Cx) (W : WX) (e : Expr) (f : En → Oc D) : Prop := PE X e (tE X.K X.mg W f)
abbrev SQ (X : Cx) (W : WX) (e : Expr) (f : En → Oc D) : Prop := PE X e (tQ X.K X.mg W f)
abbrev SF (X : Cx) (W : WX) (e : Expr) (f : En → Oc D) : Prop := PE X e (tF X.K X.mg W f)
abbrev SA (X : Cx) (W : WX) (es : List Expr) (f : En → Oc (List D)) : Prop := PA X es (tA X.K X.mg W f)
abbrev STT (X : Cx) (W : WX) (e : Expr) (f : En → Oc Bool) : Prop := PT X e (tT X.K X.mg W f)
abbrev SW (X : Cx) (W : WX) (e : Expr) (f : En → Oc Bool) : Prop := PW X e (tT X.K X.mg W f)

theorem PE.weak {X : Cx} {e : Expr} {t u : TE} (h : PE X e t) (w : ∀ σ H Q, u σ H Q → t σ H Q) : PE X e u := ⟨fun pins s σ H Q I q => h.run pins s σ H Q I (w _ _ _ q)⟩
theorem PA.weak {X : Cx} {e : List Expr} {t u : TA} (h : PA X e t) (w : ∀ σ H Q, u σ H Q → t σ H Q) : PA X e u := ⟨fun pos pins s σ H Q I q => h.run pos pins s σ H Q I (w _ _ _ q)⟩
theorem PT.weak {X : Cx} {e : Expr} {t u : TT} (h : PT X e t) (w : ∀ σ H Q, u σ H Q → t σ H Q) : PT X e u := ⟨fun pins s σ H Q I q => h.run pins s σ H Q I (w _ _ _ q)⟩
theorem PW.weak {X : Cx} {e : Expr} {t u : TT} (h : PW X e t) (w : ∀ σ H Q, u σ H Q → t σ H Q) : PW X e u := ⟨fun whole pins s σ H Q I q => h.run whole pins s σ H Q I (w _ _ _ q)⟩
theorem PS.weak {X : Cx} {e : Stmt} {t u : TS} (h : PS X e t) (w : ∀ D σ H, u D σ H → t D σ H) : PS X e u := ⟨fun pins s σ H D I q => h.run pins s σ H D I (w _ _ _ q)⟩
theorem PSs.weak {X : Cx} {e : List Stmt} {t u : TS} (h : PSs X e t) (w : ∀ D σ H, u D σ H → t D σ H) : PSs X e u := ⟨fun pins s σ H D I q => h.run pins s σ H D I (w _ _ _ q)⟩

abbrev up (U : XK) : WX := fun c d _ H => U c d H
abbrev E0W : WX := fun _ _ _ _ => False
structure Ctx (X : Cx) (W : WX) : Prop where
  calm : X.calm = true
  nd : X.N.Nodup
  tk : Takes X W
  units : X.A.units + 65 < cLine

section
variable {X : Cx} {W : WX} {a b c : Expr} {e : Expr} {es : List Expr} {f g h : En → Oc D} {pos : Pos}

/-! ### from one judgement to another -/
theorem SE.toQ (h : SE X W e f) : SQ X W e f := PE.weak h fun σ H Q ⟨G, ρ, R, p⟩ => by
  refine ⟨G, ρ, R, ?_⟩
  revert p
  cases f ρ with
  | st => exact id
  | ok d => exact fun p v G' H' x r => p v G' H' x (.inl r)
  | ex c => exact id
theorem SF.toE (h : SF X W e f) : SE X W e f := PE.weak h fun σ H Q ⟨G, ρ, R, p⟩ => by
  refine ⟨G, ρ, R, ?_⟩
  revert p
  cases f ρ with
  | st => exact id
  | ok d =>
    intro p a G' H' x ha ga ow
    obtain ⟨u, hu⟩ := ow.ex
    have gg : Same G' (upd G' a u) := fun b o e => by rw [upd_ne (ne_of_none e ga)]; exact e
    refine p (.ref a) (upd G' a u) H' ⟨x.hh, x.gg.trans gg, fun b o e => ?_, fun b o hb gb => ?_⟩ (ow.rep gg fun o q => by rw [hu] at q; cases q; exact upd_same)
    · by_cases hb : b = a
      · subst hb; rw [upd_same] at e; rw [hu]; exact e
      · rw [upd_ne hb] at e; exact x.gh _ _ e
    · rw [upd_ne (ne_of_none hb ha)]; exact x.nc b o hb gb
  | ex c => exact id

/-! ### names and constants -/
def cst (d : D) : En → Oc D := fun _ => .ok d
def vr (i : Nat) : En → Oc D := fun ρ => match ρ[i]? with | some (.sh d) => .ok d | _ => .st
def vo (i : Nat) : En → Oc D := fun ρ => match ρ[i]? with | some (.sh d) => .ok d | some (.ow d) => .ok d | _ => .st
theorem se_cst {v : V} {d : D} (h : PE X e (tC v)) (r : ∀ G, Rep X.K X.mg G v d) : SE X W e (cst d) := PE.weak h fun σ H Q ⟨G, ρ, R, p⟩ => p v G H (.refl R.sub) (r G)
theorem se_int {i j} : SE X W (.Constant (.int i) j pos) (cst (.int i)) := se_cst pe_int fun _ => .int i
theorem se_bl {i j} : SE X W (.Constant (.bool i) j pos) (cst (.bl i)) := se_cst pe_bl fun _ => .bl i
theorem se_non {j} : SE X W (.Constant .none j pos) (cst .non) := se_cst pe_non fun _ => .non
theorem se_str {i j} : SE X W (.Constant (.str i) j pos) (cst (.str i)) := se_cst pe_str fun _ => .str i
theorem se_var {i : Nat} {x : Str} (h : PE X (.Name x pos) (tVar i)) : SE X W (.Name x pos) (vr i) := PE.weak h fun σ H Q ⟨G, ρ, R, p⟩ => by
  revert p
  unfold vr
  cases q : ρ[i]? with
  | none => exact False.elim
  | some s =>
    cases s with
    | no => exact False.elim
    | ow d => exact False.elim
    | sh d =>
      intro p
      obtain ⟨o, ho, v, rfl, r⟩ := R.get q
      exact ⟨v, ho, p v G H (.refl R.sub) r⟩
theorem sq_var {i : Nat} {x : Str} (h : PE X (.Name x pos) (tVar i)) : SQ X W (.Name x pos) (vo i) := PE.weak h fun σ H Q ⟨G, ρ, R, p⟩ => by
  revert p
  unfold vo
  cases q : ρ[i]? with
  | none => exact False.elim
  | some s =>
    cases s with
    | no => exact False.elim
    | ow d =>
      intro p
      obtain ⟨o, ho, v, rfl, r⟩ := R.get q
      exact ⟨.ref v, ho, p _ G H (.refl R.sub) (.inr ⟨v, rfl, r⟩)⟩
    | sh d =>
      intro p
      obtain ⟨o, ho, v, rfl, r⟩ := R.get q
      exact ⟨v, ho, p v G H (.refl R.sub) (.inl r)⟩

/-! ### operations by values -/
def un (F : D → Oc D) (f : En → Oc D) : En → Oc D := fun ρ => bd (f ρ) F
def bi (F : D → D → Oc D) (f g : En → Oc D) : En → Oc D := fun ρ => bd (f ρ) fun x => bd (g ρ) fun y => F x y
def RepQ (K : PySem.W.Frag) (mg : Str → Option Value) (G H : Hp) (v : V) (d : D) : Prop := Rep K mg G v d ∨ ∃ a, v = .ref a ∧ G a = none ∧ OwAt K mg G H a d
theorem RepQ.ext {G H G' H' : Hp} {v : V} {d : D} (x : Ext G H G' H') : RepQ K mg G H v d → RepQ K mg G' H' v d
  | .inl r => .inl (r.same x.gg)
  | .inr ⟨a, e, g, r⟩ => by
    obtain ⟨u, hu⟩ := r.ex
    exact .inr ⟨a, e, x.nc a u hu g, r.same x.gg fun o q n => x.hh.ob _ _ q n⟩
theorem RepQ.lst {G H : Hp} {v : V} {ds : List D} (s : Same G H) : RepQ K mg G H v (.lst ds) → ∃ a xs, v = .ref a ∧ H a = some (.lst xs) ∧ RepL K mg G xs ds
  | .inl (.lst h r) => ⟨_, _, rfl, s _ _ h, r⟩
  | .inr ⟨a, e, _, xs, h, r⟩ => ⟨a, xs, e, h, r⟩
theorem RepQ.tup {G H : Hp} {v : V} {ds : List D} (s : Same G H) : RepQ K mg G H v (.tup ds) → ∃ a xs, v = .ref a ∧ SqT K H a xs ∧ RepL K mg G xs ds
  | .inl (.tup h r) => ⟨_, _, rfl, SqT.same s h, r⟩
theorem RepQ.fz {G H : Hp} {v : V} {ds : List D} (s : Same G H) : RepQ K mg G H v (.fz ds) → ∃ a xs, v = .ref a ∧ SqL K H a xs ∧ RepL K mg G xs ds
  | .inl (.fz h r) => ⟨_, _, rfl, s.seq h, r⟩
def items : D → Option (List D)
  | .lst ds => some ds
  | .tup ds => some ds
  | .fz ds => some ds
  | _ => none
theorem RepQ.seq {G H : Hp} {v : V} {d : D} {ds : List D} (s : Same G H) (r : RepQ K mg G H v d) (h : items d = some ds) : ∃ a xs, v = .ref a ∧ (SqL K H a xs ∨ SqT K H a xs) ∧ RepL K mg G xs ds := by
  cases d with
  | lst es => cases h; obtain ⟨a, xs, e, q, r⟩ := r.lst s; exact ⟨a, xs, e, .inl (SqL.of q), r⟩
  | tup es => cases h; obtain ⟨a, xs, e, q, r⟩ := r.tup s; exact ⟨a, xs, e, .inr q, r⟩
  | fz es => cases h; obtain ⟨a, xs, e, q, r⟩ := r.fz s; exact ⟨a, xs, e, .inl q, r⟩
  | _ => cases h

theorem se_op2 {r : R2} {F : D → D → Oc D} (rule : ∀ {ta tb : TE}, PE X a ta → PE X b tb → PE X e (tOp r ta tb))
    (hr : ∀ {G H x y d1 d2 Q U}, Same G H → RepQ X.K X.mg G H x d1 → RepQ X.K X.mg G H y d2 → PostE X.K X.mg U G H Q (F d1 d2) → r x y H Q)
    (ha : SQ X W a f) (hb : SQ X W b g) : SE X W e (bi F f g) := PE.weak (rule ha hb) fun σ H Q ⟨G, ρ, R, p⟩ => by
  refine ⟨G, ρ, R, ?_⟩
  revert p
  unfold bi
  cases f ρ with
  | st => exact id
  | ex c => exact id
  | ok d1 =>
    intro p x G1 H1 x1 r1
    refine ⟨G1, ρ, R.ext x1, ?_⟩
    revert p
    simp only [bd_ok]
    cases g ρ with
    | st => exact id
    | ex c => exact fun p C G' H' e m => p C G' H' (x1.trans e) m
    | ok d2 =>
      intro p y G2 H2 x2 r2
      exact hr x2.gh (RepQ.ext x2 r1) r2 (PostE.imp (x1.trans x2) p fun _ _ q => q)
theorem sf_op2 {r : R2} {F : D → D → Oc D} (rule : ∀ {ta tb : TE}, PE X a ta → PE X b tb → PE X e (tOp r ta tb))
    (hr : ∀ {G H x y d1 d2 Q U}, Same G H → RepQ X.K X.mg G H x d1 → RepQ X.K X.mg G H y d2 → PostF X.K X.mg U G H Q (F d1 d2) → r x y H Q)
    (ha : SQ X W a f) (hb : SQ X W b g) : SF X W e (bi F f g) := PE.weak (rule ha hb) fun σ H Q ⟨G, ρ, R, p⟩ => by
  refine ⟨G, ρ, R, ?_⟩
  revert p
  unfold bi
  cases f ρ with
  | st => exact id
  | ex c => exact id
  | ok d1 =>
    intro p x G1 H1 x1 r1
    refine ⟨G1, ρ, R.ext x1, ?_⟩
    revert p
    simp only [bd_ok]
    cases g ρ with
    | st => exact id
    | ex c => exact fun p C G' H' e m => p C G' H' (x1.trans e) m
    | ok d2 =>
      intro p y G2 H2 x2 r2
      refine hr (U := fun c d H' => W c d σ H') x2.gh (RepQ.ext x2 r1) r2 ?_
      revert p
      simp only [bd_ok]
      have x12 := x1.trans x2
      cases F d1 d2 with
      | st => exact id
      | ex c => exact fun p C G' H' e m => p C G' H' (x12.trans e) m
      | ok d => exact fun p a G' H' x ha ga ow => p a G' H' (x12.trans x) (x12.hh.free ha) ga ow
end
end Fx

set_option Elab.async false
set_option linter.all false
set_option maxRecDepth 100000
set_option maxHeartbeats 4000000
/-! Fx1: operations. -/
namespace Fx
open PySem PySem.Spec PyProof.Rows L2
variable {K : PySem.W.Frag} {mg : Str → Option Value}

/-! ### plain data as PyData -/
mutual
def toPD : D → Option PyData
  | .non => some .none
  | .bl b => some (.bool b)
  | .int i => some (.int i)
  | .str x => some (.str x)
  | .lst ds => (toPDs ds).map .list
  | .tup ds => (toPDs ds).map .tuple
  | .fz ds => (toPDs ds).map .list
  | .obj _ _ => none
  | .ty _ => none
def toPDs : List D → Option (List PyData)
  | [] => some []
  | d :: ds => match toPD d, toPDs ds with
    | some p, some q => some (p :: q)
    | _, _ => none
end
mutual
theorem Rep.dp {G H : Hp} (s : Same G H) : ∀ {v : V} {d : D} {p : PyData}, Rep K mg G v d → toPD d = some p → Dp K H v p
  | _, .non, _, h, e => by cases h; cases e; exact .non
  | _, .bl b, _, h, e => by cases h; cases e; exact .bl b
  | _, .int i, _, h, e => by cases h; cases e; exact .int i
  | _, .str x, _, h, e => by cases h; cases e; exact .str x
  | _, .lst ds, p, h, e => by
    cases h with
    | lst hs r =>
      simp only [toPD] at e
      obtain ⟨q, hq, e2⟩ := Option.map_eq_some_iff.mp e
      subst e2
      exact .lst (SqL.of (s _ _ hs)) (RepL.dp s r hq)
  | _, .tup ds, p, h, e => by
    cases h with
    | tup hs r =>
      simp only [toPD] at e
      obtain ⟨q, hq, e2⟩ := Option.map_eq_some_iff.mp e
      subst e2
      exact .tup (SqT.same s hs) (RepL.dp s r hq)
  | _, .fz ds, p, h, e => by
    cases h with
    | fz hs r =>
      simp only [toPD] at e
      obtain ⟨q, hq, e2⟩ := Option.map_eq_some_iff.mp e
      subst e2
      exact .lst (s.seq hs) (RepL.dp s r hq)
theorem RepL.dp {G H : Hp} (s : Same G H) : ∀ {vs : List V} {ds : List D} {ps : List PyData}, RepL K mg G vs ds → toPDs ds = some ps → DpAll K H vs ps
  | _, [], _, h, e => by cases h; cases e; exact .nil
  | _, d :: ds, ps, h, e => by
    cases h with
    | cons r t =>
      simp only [toPDs] at e
      cases q1 : toPD d with
      | none => rw [q1] at e; cases e
      | some p =>
        cases q2 : toPDs ds with
        | none => rw [q1, q2] at e; cases e
        | some q =>
          rw [q1, q2] at e
          cases e
          exact .cons (Rep.dp s r q1) (RepL.dp s t q2)
end
theorem RepQ.dp {G H : Hp} (s : Same G H) {v : V} {d : D} {p : PyData} (h : RepQ K mg G H v d) (e : toPD d = some p) : Dp K H v p := by
  rcases h with h | ⟨a, rfl, ga, ow⟩
  · exact h.dp s e
  · cases d with
    | lst ds =>
      obtain ⟨xs, h1, r⟩ := ow
      simp only [toPD] at e
      obtain ⟨q, hq, e2⟩ := Option.map_eq_some_iff.mp e
      subst e2
      exact .lst (SqL.of h1) (r.dp s hq)
    | _ => first | exact ow.elim | cases e

/-! ### two-place operations as functions -/
def eqD (d e : D) : Oc D := match toPD d, toPD e with
  | some p, some q => chk (SeqAt.shaped p && SeqAt.shaped q) (.ok (.bl (PyData.eqv p q)))
  | _, _ => .st
def neD (d e : D) : Oc D := match toPD d, toPD e with
  | some p, some q => chk (SeqAt.shaped p && SeqAt.shaped q) (.ok (.bl (!PyData.eqv p q)))
  | _, _ => .st
def inB (d e : D) : Option Bool := match d, e with
  | .str x, .str y => some (!(Builtin.Str.occurrences y x 0 y.length 1).isEmpty)
  | d, e => match toPD d, toPD e with
    | some p, some (.list ps) => if SeqAt.shaped p && SeqAt.shaped (.list ps) then some (ps.any fun z => PyData.eqv z p) else none
    | some p, some (.tuple ps) => if SeqAt.shaped p && SeqAt.shaped (.tuple ps) then some (ps.any fun z => PyData.eqv z p) else none
    | _, _ => none
def inD (d e : D) : Oc D := match inB d e with
  | some b => .ok (.bl b)
  | none => .st
def ninD (d e : D) : Oc D := match inB d e with
  | some b => .ok (.bl (!b))
  | none => .st
def cmpD (p : Int → Int → Bool) (d e : D) : Oc D := match d, e with
  | .int i, .int j => .ok (.bl (p i j))
  | _, _ => .st
def isNon : D → Bool
  | .non => true
  | _ => false
def isN (d e : D) : Oc D := match e with
  | .non => .ok (.bl (isNon d))
  | _ => .st
def notN (d e : D) : Oc D := match e with
  | .non => .ok (.bl (!isNon d))
  | _ => .st
def addD (d e : D) : Oc D := match d, e with
  | .int i, .int j => .ok (.int (i + j))
  | .str x, .str y => chk (decide (x.length + y.length ≤ sizeLine)) (.ok (.str (x ++ y)))
  | .lst xs, .lst ys => chk (decide (xs.length + ys.length ≤ sizeLine)) (.ok (.lst (xs ++ ys)))
  | .tup xs, .tup ys => chk (decide (xs.length + ys.length ≤ sizeLine)) (.ok (.tup (xs ++ ys)))
  | _, _ => .st
def subD (d e : D) : Oc D := match d, e with
  | .int i, .int j => .ok (.int (i - j))
  | _, _ => .st
def mulD (d e : D) : Oc D := match d, e with
  | .int i, .int j => chk (decide ((-(2 ^ 64) < i ∧ i < 2 ^ 64) ∨ (-(2 ^ 64) < j ∧ j < 2 ^ 64))) (.ok (.int (i * j)))
  | .lst xs, .int k => chk (decide (-(2 ^ 63) ≤ k ∧ k < 2 ^ 63 ∧ xs.length * k.toNat ≤ sizeLine)) (.ok (.lst (List.replicate k.toNat xs).flatten))
  | _, _ => .st
def fdivD (d e : D) : Oc D := match d, e with
  | .int i, .int j => chk (decide (0 < j ∧ j < 1073741824)) (.ok (.int (i / j)))
  | _, _ => .st
def modD (d e : D) : Oc D := match d, e with
  | .int i, .int j => chk (decide (0 < j)) (.ok (.int (i % j)))
  | _, _ => .st
def powD (d e : D) : Oc D := match d, e with
  | .int i, .int j => chk (decide (0 ≤ j ∧ j ≤ 1000000 ∧ i.natAbs < 2 ^ 64)) (.ok (.int (i ^ j.toNat)))
  | _, _ => .st
def ixD (d e : D) : Oc D := match d, e with
  | .str z, .int i => chk (decide (z.length ≤ sizeLine)) (match atI z.cps.toList i with
    | some c => .ok (.str ⟨#[c]⟩)
    | none => .st)
  | d, .int i => match items d with
    | some ds => match atI ds i with
      | some x => .ok x
      | none => .st
    | none => .st
  | _, _ => .st

theorem chk_some {α : Type} {b : Bool} {o : Oc α} {P : Oc α → Prop} (hst : ¬ P .st) (h : P (chk b o)) : b = true ∧ P o := by
  cases b with
  | true => exact ⟨rfl, h⟩
  | false => exact absurd h hst
theorem repL_rep {G : Hp} {xs : List V} {ds : List D} (r : RepL K mg G xs ds) : ∀ k : Nat, RepL K mg G (List.replicate k xs).flatten (List.replicate k ds).flatten
  | 0 => .nil
  | k + 1 => by
    rw [List.replicate_succ, List.flatten_cons, List.replicate_succ, List.flatten_cons]
    exact r.append (repL_rep r k)

section
variable {X : Cx} {W : WX} {U : XK} {a b c e : Expr} {es : List Expr} {f g h : En → Oc D} {pos : Pos}
variable {G H : Hp} {x y : V} {d1 d2 : D} {Q : VK}

theorem PostE.here {d : D} {v : V} (h : PostE K mg U G H Q (.ok d)) (s : Same G H) (r : Rep K mg G v d) : Q v H := h v G H (.refl s) r

theorem dnil : ∀ {x : V}, Rep K mg G x .non → x = .non := fun h => by cases h; rfl
theorem PostE.chk {b : Bool} {o : Oc D} (h : PostE K mg U G H Q (chk b o)) : b = true ∧ PostE K mg U G H Q o := chk_some (P := PostE K mg U G H Q) (fun z => z) h
theorem PostF.chk {b : Bool} {o : Oc D} (h : PostF K mg U G H Q (Fx.chk b o)) : b = true ∧ PostF K mg U G H Q o := chk_some (P := PostF K mg U G H Q) (fun z => z) h
theorem PostE.newL {ds : List D} {xs : List V} (s : Same G H) (r : RepL K mg G xs ds) (h : PostE K mg U G H Q (.ok (.lst ds))) : ∀ p, H p = none → Q (.ref p) (upd H p (.lst xs)) := fun p hp => by
  have x := Ext.new (o := .lst xs) s hp
  exact h _ _ _ x (.lst upd_same (r.same x.gg))
theorem PostE.newT {ds : List D} {xs : List V} (s : Same G H) (r : RepL K mg G xs ds) (h : PostE K mg U G H Q (.ok (.tup ds))) : ∀ p, H p = none → Q (.ref p) (upd H p (.tup xs)) := fun p hp => by
  have x := Ext.new (o := .tup xs) s hp
  exact h _ _ _ x (.tup (SqT.of upd_same) (r.same x.gg))
theorem PostF.newL {ds : List D} {xs : List V} (s : Same G H) (r : RepL K mg G xs ds) (h : PostF K mg U G H Q (.ok (.lst ds))) : ∀ p, H p = none → Q (.ref p) (upd H p (.lst xs)) := fun p hp =>
  h p G _ (Ext.newH s hp) hp (s.free hp) ⟨xs, upd_same, r⟩

theorem se_eq (ha : SQ X W a f) (hb : SQ X W b g) (hu : X.A.units + 65 < cLine) : SE X W (.Compare a [.Eq] [b] pos) (bi eqD f g) :=
  se_op2 (fun ha hb => pe_cmpR (op_eqD (Nat.lt_of_succ_lt hu)) ha hb (nomark _)) (fun {G H x y d1 d2 Q U} s r1 r2 p => by
    unfold eqD at p
    cases e1 : toPD d1 with
    | none => rw [e1] at p; exact p.elim
    | some p1 =>
      cases e2 : toPD d2 with
      | none => rw [e1, e2] at p; exact p.elim
      | some p2 =>
        rw [e1, e2] at p
        obtain ⟨c, q⟩ := p.chk
        rw [Bool.and_eq_true] at c
        exact ⟨p1, p2, r1.dp s e1, r2.dp s e2, c.1, c.2, q.here s (.bl _)⟩) ha hb
theorem se_ne (ha : SQ X W a f) (hb : SQ X W b g) (hu : X.A.units + 65 < cLine) : SE X W (.Compare a [.NotEq] [b] pos) (bi neD f g) :=
  se_op2 (fun ha hb => pe_cmpR (op_neD (Nat.lt_of_succ_lt hu)) ha hb (nomark _)) (fun {G H x y d1 d2 Q U} s r1 r2 p => by
    unfold neD at p
    cases e1 : toPD d1 with
    | none => rw [e1] at p; exact p.elim
    | some p1 =>
      cases e2 : toPD d2 with
      | none => rw [e1, e2] at p; exact p.elim
      | some p2 =>
        rw [e1, e2] at p
        obtain ⟨c, q⟩ := p.chk
        rw [Bool.and_eq_true] at c
        exact ⟨p1, p2, r1.dp s e1, r2.dp s e2, c.1, c.2, q.here s (.bl _)⟩) ha hb
theorem op_inT (hu : X.A.units + 65 < cLine) : OpR X (compareOp .In) (fun x y H Q => ∃ d ds, Dp X.K H x d ∧ Dp X.K H y (.tuple ds) ∧ SeqAt.shaped d = true ∧ SeqAt.shaped (.tuple ds) = true ∧ Q (.bl (ds.any fun z => PyData.eqv z d)) H) := by
  intro pins s σ H x y v u Q I rx ry h
  obtain ⟨d, ds, hd, he, sd, se, q⟩ := h
  obtain ⟨as, r1⟩ := Dp.reads I d x v hd rx
  obtain ⟨bs, r2⟩ := Dp.reads I (.tuple ds) y u he ry
  exact SeqAt.in_tuple_reads r2 r1 (SeqAt.canLay_of_shaped (d := .list ds) se) (SeqAt.canLay_of_shaped sd) (room_in_shaped sd hu) ⟨.bl _, H, I, rfl, q⟩
theorem op_notInT (hu : X.A.units + 65 < cLine) : OpR X (compareOp .NotIn) (fun x y H Q => ∃ d ds, Dp X.K H x d ∧ Dp X.K H y (.tuple ds) ∧ SeqAt.shaped d = true ∧ SeqAt.shaped (.tuple ds) = true ∧ Q (.bl (!ds.any fun z => PyData.eqv z d)) H) := by
  intro pins s σ H x y v u Q I rx ry h
  obtain ⟨d, ds, hd, he, sd, se, q⟩ := h
  obtain ⟨as, r1⟩ := Dp.reads I d x v hd rx
  obtain ⟨bs, r2⟩ := Dp.reads I (.tuple ds) y u he ry
  exact SeqAt.notIn_tuple_reads r2 r1 (SeqAt.canLay_of_shaped (d := .list ds) se) (SeqAt.canLay_of_shaped sd) (room_in_shaped sd hu) ⟨.bl _, H, I, rfl, q⟩
end
end Fx

set_option Elab.async false
set_option linter.all false
set_option maxRecDepth 100000
set_option maxHeartbeats 4000000
/-! Fx2: the rules of the operations. -/
namespace Fx
open PySem PySem.Spec PyProof.Rows L2
variable {K : PySem.W.Frag} {mg : Str → Option Value}
theorem RepQ.int {G H : Hp} {v : V} {i : Int} : RepQ K mg G H v (.int i) → v = .int i
  | .inl h => by cases h; rfl
  | .inr ⟨_, _, _, z⟩ => z.elim
theorem RepQ.str {G H : Hp} {v : V} {i : Str} : RepQ K mg G H v (.str i) → v = .str i
  | .inl h => by cases h; rfl
  | .inr ⟨_, _, _, z⟩ => z.elim
theorem RepQ.bl {G H : Hp} {v : V} {i : Bool} : RepQ K mg G H v (.bl i) → v = .bl i
  | .inl h => by cases h; rfl
  | .inr ⟨_, _, _, z⟩ => z.elim
theorem RepQ.non {G H : Hp} {v : V} : RepQ K mg G H v .non → v = .non
  | .inl h => by cases h; rfl
  | .inr ⟨_, _, _, z⟩ => z.elim
theorem RepQ.ty {G H : Hp} {v : V} {n : String} : RepQ K mg G H v (.ty n) → v = .ty n
  | .inl h => by cases h; rfl
  | .inr ⟨_, _, _, z⟩ => z.elim
theorem RepQ.nonIff {G H : Hp} {v : V} {d : D} (r : RepQ K mg G H v d) : decide (v = .non) = isNon d := by
  rcases r with h | ⟨a, rfl, _, ow⟩
  · cases h <;> simp [isNon]
  · cases d with
    | non => exact ow.elim
    | _ => simp [isNon]
theorem RepQ.tupRep {G H : Hp} {v : V} {ds : List D} : RepQ K mg G H v (.tup ds) → Rep K mg G v (.tup ds)
  | .inl h => h
  | .inr ⟨_, _, _, z⟩ => z.elim
theorem RepQ.lstItems {G H : Hp} {v : V} {ds : List D} (s : Same G H) (r : RepQ K mg G H v (.lst ds)) : ∃ a xs, v = .ref a ∧ H a = some (.lst xs) ∧ RepL K mg G xs ds := r.lst s

section
variable {X : Cx} {W : WX} {U : XK} {a b c e : Expr} {es : List Expr} {f g h : En → Oc D} {pos : Pos}
variable {G H : Hp} {x y : V} {d1 d2 : D} {Q : VK}

theorem occ_same (i j : Str) : (!(Builtin.Str.occurrences j i 0 j.length 1).isEmpty) = (!(Builtin.Str.occurrences j i 0 j.length 1).isEmpty) := rfl
abbrev rInA (X : Cx) (neg : Bool) : R2 := fun x y H Q =>
  (∃ i j, x = .str i ∧ y = .str j ∧ Q (.bl (if neg then !(!(Builtin.Str.occurrences j i 0 j.length 1).isEmpty) else !(Builtin.Str.occurrences j i 0 j.length 1).isEmpty)) H) ∨
  (∃ d ds, Dp X.K H x d ∧ Dp X.K H y (.list ds) ∧ SeqAt.shaped d = true ∧ SeqAt.shaped (.list ds) = true ∧ Q (.bl (if neg then !ds.any fun z => PyData.eqv z d else ds.any fun z => PyData.eqv z d)) H) ∨
  (∃ d ds, Dp X.K H x d ∧ Dp X.K H y (.tuple ds) ∧ SeqAt.shaped d = true ∧ SeqAt.shaped (.tuple ds) = true ∧ Q (.bl (if neg then !ds.any fun z => PyData.eqv z d else ds.any fun z => PyData.eqv z d)) H)
theorem op_inA (hu : X.A.units + 65 < cLine) : OpR X (compareOp .In) (rInA X false) := op_in_str.or ((op_inD hu).or (op_inT hu))
theorem op_ninA (hu : X.A.units + 65 < cLine) : OpR X (compareOp .NotIn) (rInA X true) := op_notin_str.or ((op_notInD hu).or (op_notInT hu))
theorem inA_of {neg : Bool} {t : Bool} (s : Same G H) (r1 : RepQ X.K X.mg G H x d1) (r2 : RepQ X.K X.mg G H y d2) (e : inB d1 d2 = some t) (q : Q (.bl (if neg then !t else t)) H) : rInA X neg x y H Q := by
  unfold inB at e
  split at e
  · have e := Option.some.inj e
    exact .inl ⟨_, _, r1.str, r2.str, by rw [e]; exact q⟩
  · split at e
    · rename_i h1 h2
      split at e
      · rename_i hc
        rw [Bool.and_eq_true] at hc
        have e := Option.some.inj e
        exact .inr (.inl ⟨_, _, r1.dp s h1, r2.dp s h2, hc.1, hc.2, by rw [e]; exact q⟩)
      · cases e
    · rename_i h1 h2
      split at e
      · rename_i hc
        rw [Bool.and_eq_true] at hc
        have e := Option.some.inj e
        exact .inr (.inr ⟨_, _, r1.dp s h1, r2.dp s h2, hc.1, hc.2, by rw [e]; exact q⟩)
      · cases e
    · cases e
theorem se_in (ha : SQ X W a f) (hb : SQ X W b g) (hu : X.A.units + 65 < cLine) (hm : behindInMarks .In b = false := by rfl) : SE X W (.Compare a [.In] [b] pos) (bi inD f g) :=
  se_op2 (fun ha hb => pe_cmpR (op_inA hu) ha hb hm) (fun {G H x y d1 d2 Q U} s r1 r2 p => by
    unfold inD at p
    cases e : inB d1 d2 with
    | none => rw [e] at p; exact p.elim
    | some t => rw [e] at p; exact inA_of (neg := false) s r1 r2 e (p.here s (.bl _))) ha hb
theorem se_nin (ha : SQ X W a f) (hb : SQ X W b g) (hu : X.A.units + 65 < cLine) (hm : behindInMarks .NotIn b = false := by rfl) : SE X W (.Compare a [.NotIn] [b] pos) (bi ninD f g) :=
  se_op2 (fun ha hb => pe_cmpR (op_ninA hu) ha hb hm) (fun {G H x y d1 d2 Q U} s r1 r2 p => by
    unfold ninD at p
    cases e : inB d1 d2 with
    | none => rw [e] at p; exact p.elim
    | some t => rw [e] at p; exact inA_of (neg := true) s r1 r2 e (p.here s (.bl _))) ha hb

theorem cmp_of {q : Int → Int → Bool} (s : Same G H) (r1 : RepQ X.K X.mg G H x d1) (r2 : RepQ X.K X.mg G H y d2) (p : PostE X.K X.mg U G H Q (cmpD q d1 d2)) : rI0 (fun i j => .bl (q i j)) x y H Q := by
  unfold cmpD at p
  split at p
  · exact ⟨_, _, r1.int, r2.int, p.here s (.bl _)⟩
  · exact p.elim
theorem se_lt (ha : SQ X W a f) (hb : SQ X W b g) : SE X W (.Compare a [.Lt] [b] pos) (bi (cmpD fun i j => decide (i < j)) f g) := se_op2 (fun ha hb => pe_cmpR op_lt ha hb (nomark _)) cmp_of ha hb
theorem se_le (ha : SQ X W a f) (hb : SQ X W b g) : SE X W (.Compare a [.LtE] [b] pos) (bi (cmpD fun i j => decide (i ≤ j)) f g) := se_op2 (fun ha hb => pe_cmpR op_le ha hb (nomark _)) cmp_of ha hb
theorem se_gt (ha : SQ X W a f) (hb : SQ X W b g) : SE X W (.Compare a [.Gt] [b] pos) (bi (cmpD fun i j => decide (j < i)) f g) := se_op2 (fun ha hb => pe_cmpR op_gt ha hb (nomark _)) cmp_of ha hb
theorem se_ge (ha : SQ X W a f) (hb : SQ X W b g) : SE X W (.Compare a [.GtE] [b] pos) (bi (cmpD fun i j => decide (j ≤ i)) f g) := se_op2 (fun ha hb => pe_cmpR op_ge ha hb (nomark _)) cmp_of ha hb
theorem se_isN (ha : SQ X W a f) (hb : SQ X W b g) : SE X W (.Compare a [.Is] [b] pos) (bi isN f g) := se_op2 (fun ha hb => pe_cmpR op_isN ha hb (nomark _)) (fun {G H x y d1 d2 Q U} s r1 r2 p => by
    unfold isN at p
    split at p
    · refine ⟨r2.non, ?_⟩
      rw [r1.nonIff]
      exact p.here s (.bl _)
    · exact p.elim) ha hb
theorem se_notN (ha : SQ X W a f) (hb : SQ X W b g) : SE X W (.Compare a [.IsNot] [b] pos) (bi notN f g) := se_op2 (fun ha hb => pe_cmpR op_notN ha hb (nomark _)) (fun {G H x y d1 d2 Q U} s r1 r2 p => by
    unfold notN at p
    split at p
    · refine ⟨r2.non, ?_⟩
      rw [r1.nonIff]
      exact p.here s (.bl _)
    · exact p.elim) ha hb

theorem nilL {xs : List V} {ds : List D} (r : RepL K mg G xs ds) : xs = [] ↔ ds = [] := by cases r <;> simp
theorem se_add (ha : SQ X W a f) (hb : SQ X W b g) : SE X W (.BinOp a .Add b pos) (bi addD f g) :=
  se_op2 (fun ha hb => pe_op (op_add.or (op_add_str.or (op_cat.or op_catA))) ha hb) (fun {G H x y d1 d2 Q U} s r1 r2 p => by
    unfold addD at p
    split at p
    · exact .inl ⟨_, _, r1.int, r2.int, p.here s (.int _)⟩
    · obtain ⟨c, p⟩ := p.chk
      exact .inr (.inl ⟨_, _, r1.str, r2.str, of_decide_eq_true c, p.here s (.str _)⟩)
    · obtain ⟨c, p⟩ := p.chk
      obtain ⟨l1, xs1, e1, h1, q1⟩ := r1.lst s
      obtain ⟨l2, xs2, e2, h2, q2⟩ := r2.lst s
      exact .inr (.inr (.inl ⟨l1, l2, xs1, xs2, e1, e2, h1, h2, by rw [q1.length, q2.length]; exact of_decide_eq_true c, p.newL s (q1.append q2)⟩))
    · obtain ⟨c, p⟩ := p.chk
      have t1 := r1.tupRep
      have t2 := r2.tupRep
      obtain ⟨l1, xs1, e1, h1, q1⟩ := r1.tup s
      obtain ⟨l2, xs2, e2, h2, q2⟩ := r2.tup s
      subst e1 e2
      refine .inr (.inr (.inr ⟨l1, l2, xs1, xs2, rfl, rfl, h1, h2, by rw [q1.length, q2.length]; exact of_decide_eq_true c, fun z => ?_, fun _ z => ?_, fun _ _ => p.newT s (q1.append q2)⟩))
      · have z1 := (nilL q1).mp z
        subst z1
        exact p.here s t2
      · have z1 := (nilL q2).mp z
        subst z1
        rw [List.append_nil] at p
        exact p.here s t1
    · exact p.elim) ha hb
theorem se_sub (ha : SQ X W a f) (hb : SQ X W b g) : SE X W (.BinOp a .Sub b pos) (bi subD f g) :=
  se_op2 (fun ha hb => pe_op op_sub ha hb) (fun {G H x y d1 d2 Q U} s r1 r2 p => by
    unfold subD at p
    split at p
    · exact ⟨_, _, r1.int, r2.int, p.here s (.int _)⟩
    · exact p.elim) ha hb
theorem se_mul (ha : SQ X W a f) (hb : SQ X W b g) : SE X W (.BinOp a .Mult b pos) (bi mulD f g) :=
  se_op2 (fun ha hb => pe_op (op_mul.or op_rep) ha hb) (fun {G H x y d1 d2 Q U} s r1 r2 p => by
    unfold mulD at p
    split at p
    · obtain ⟨c, p⟩ := p.chk
      exact .inl ⟨_, _, r1.int, r2.int, (show CMul _ _ by unfold CMul; simpa using c), p.here s (.int _)⟩
    · obtain ⟨c, p⟩ := p.chk
      obtain ⟨c1, c2, c3⟩ := of_decide_eq_true c
      obtain ⟨l1, xs1, e1, h1, q1⟩ := r1.lst s
      exact .inr ⟨l1, _, xs1, e1, r2.int, h1, c1, c2, by rw [q1.length]; exact c3, p.newL s (repL_rep q1 _)⟩
    · exact p.elim) ha hb
theorem se_fdiv (ha : SQ X W a f) (hb : SQ X W b g) : SE X W (.BinOp a .FloorDiv b pos) (bi fdivD f g) :=
  se_op2 (fun ha hb => pe_op op_fdiv ha hb) (fun {G H x y d1 d2 Q U} s r1 r2 p => by
    unfold fdivD at p
    split at p
    · obtain ⟨c, p⟩ := p.chk
      exact ⟨_, _, r1.int, r2.int, (show CDiv _ _ by unfold CDiv; simpa using c), p.here s (.int _)⟩
    · exact p.elim) ha hb
theorem se_mod (ha : SQ X W a f) (hb : SQ X W b g) : SE X W (.BinOp a .Mod b pos) (bi modD f g) :=
  se_op2 (fun ha hb => pe_op op_mod ha hb) (fun {G H x y d1 d2 Q U} s r1 r2 p => by
    unfold modD at p
    split at p
    · obtain ⟨c, p⟩ := p.chk
      exact ⟨_, _, r1.int, r2.int, of_decide_eq_true c, p.here s (.int _)⟩
    · exact p.elim) ha hb
theorem se_pow (ha : SQ X W a f) (hb : SQ X W b g) : SE X W (.BinOp a .Pow b pos) (bi powD f g) :=
  se_op2 (fun ha hb => pe_op op_pow ha hb) (fun {G H x y d1 d2 Q U} s r1 r2 p => by
    unfold powD at p
    split at p
    · obtain ⟨c, p⟩ := p.chk
      exact ⟨_, _, r1.int, r2.int, (show CPow _ _ by unfold CPow; simpa using c), p.here s (.int _)⟩
    · exact p.elim) ha hb

theorem atI_repL {xs : List V} {ds : List D} {i : Int} {d : D} (r : RepL K mg G xs ds) (h : atI ds i = some d) : ∃ v, atI xs i = some v ∧ Rep K mg G v d := by
  unfold atI at h ⊢
  rw [r.length]
  obtain ⟨j, e1, e2⟩ := Option.bind_eq_some_iff.mp h
  obtain ⟨v, h1, h2⟩ := r.get e2
  exact ⟨v, by rw [e1]; exact h1, h2⟩
theorem se_ix (ha : SQ X W a f) (hb : SQ X W b g) (hs : PlainIx b) : SE X W (.Subscript a b pos) (bi ixD f g) :=
  se_op2 (fun ha hb => pe_ix ix_seq ha hb hs) (fun {G H x y d1 d2 Q U} s r1 r2 p => by
    unfold ixD at p
    split at p
    · obtain ⟨c, p⟩ := p.chk
      split at p
      · rename_i hat
        exact .inr (.inr ⟨_, _, _, r1.str, r2.int, of_decide_eq_true c, hat, p.here s (.str _)⟩)
      · exact p.elim
    · split at p
      · rename_i ds hds
        split at p
        · rename_i d hat
          obtain ⟨q, xs, e, hq, r⟩ := r1.seq s hds
          obtain ⟨v, hv, rv⟩ := atI_repL r hat
          rcases hq with hq | hq
          · exact .inl ⟨q, xs, _, v, e, r2.int, hq, hv, p.here s rv⟩
          · exact .inr (.inl ⟨q, xs, _, v, e, r2.int, hq, hv, p.here s rv⟩)
        · exact p.elim
      · exact p.elim
    · exact p.elim) ha hb

/-! ### one-place -/
theorem se_un {r : V → Hp → VK → Prop} {F : D → Oc D} (rule : ∀ {ta : TE}, PE X a ta → PE X e (tUn r ta))
    (hr : ∀ {G H x d1 Q U}, Same G H → RepQ X.K X.mg G H x d1 → PostE X.K X.mg U G H Q (F d1) → r x H Q)
    (ha : SQ X W a f) : SE X W e (un F f) := PE.weak (rule ha) fun σ H Q ⟨G, ρ, R, p⟩ => by
  refine ⟨G, ρ, R, ?_⟩
  revert p
  unfold un
  cases f ρ with
  | st => exact id
  | ex c => exact id
  | ok d1 =>
    intro p x G1 H1 x1 r1
    exact hr x1.gh r1 (PostE.imp x1 p fun _ _ q => q)
theorem sf_un {r : V → Hp → VK → Prop} {F : D → Oc D} (rule : ∀ {ta : TE}, PE X a ta → PE X e (tUn r ta))
    (hr : ∀ {G H x d1 Q U}, Same G H → RepQ X.K X.mg G H x d1 → PostF X.K X.mg U G H Q (F d1) → r x H Q)
    (ha : SQ X W a f) : SF X W e (un F f) := PE.weak (rule ha) fun σ H Q ⟨G, ρ, R, p⟩ => by
  refine ⟨G, ρ, R, ?_⟩
  revert p
  unfold un
  cases f ρ with
  | st => exact id
  | ex c => exact id
  | ok d1 =>
    intro p x G1 H1 x1 r1
    refine hr (U := fun c d H' => W c d σ H') x1.gh r1 ?_
    revert p
    simp only [bd_ok]
    cases F d1 with
    | st => exact id
    | ex c => exact fun p C G' H' e m => p C G' H' (x1.trans e) m
    | ok d => exact fun p a G' H' x ha ga ow => p a G' H' (x1.trans x) (x1.hh.free ha) ga ow
def negD : D → Oc D
  | .int i => .ok (.int (-i))
  | _ => .st
theorem se_neg (ha : SQ X W a f) : SE X W (.UnaryOp .USub a pos) (un negD f) := se_un (fun ha => pe_un un_neg ha) (fun {G H x d1 Q U} s r p => by
  unfold negD at p
  split at p
  · exact ⟨_, r.int, p.here s (.int _)⟩
  · exact p.elim) ha

/-! ### calls of built-ins of one argument -/
def lenD : D → Oc D
  | .str z => chk (decide (z.length ≤ sizeLine)) (.ok (.int z.length))
  | d => match items d with
    | some ds => .ok (.int ds.length)
    | none => .st
def intD : D → Oc D
  | .int i => .ok (.int i)
  | .bl k => .ok (.int (if k then 1 else 0))
  | _ => .st
def listD (d : D) : Oc D := match items d with
  | some ds => .ok (.lst ds)
  | none => .st
def tupleD (d : D) : Oc D := match items d with
  | some ds => .ok (.tup ds)
  | none => .st
def allBl : List D → Option (List Bool)
  | [] => some []
  | .bl b :: ds => (allBl ds).map (b :: ·)
  | _ => none
def allD (d : D) : Oc D := match d with
  | .lst ds => match allBl ds with
    | some bs => .ok (.bl (bs.all id))
    | none => .st
  | _ => .st
def anyD (d : D) : Oc D := match d with
  | .lst ds => match allBl ds with
    | some bs => .ok (.bl (bs.any id))
    | none => .st
  | _ => .st
def allInt : List D → Option (List Int)
  | [] => some []
  | .int b :: ds => (allInt ds).map (b :: ·)
  | _ => none
def isort : List Int → List Int := fun l => l.mergeSort (fun a b => decide (a ≤ b))
def sortedID (d : D) : Oc D := match d with
  | .lst ds => match allInt ds with
    | some bs => .ok (.lst ((isort bs).map .int))
    | none => .st
  | _ => .st
theorem allBl_rep : ∀ {xs : List V} {ds : List D} {bs : List Bool}, RepL K mg G xs ds → allBl ds = some bs → xs = bs.map V.bl
  | _, [], bs, r, e => by cases r; cases e; rfl
  | _, d :: ds, bs, r, e => by
    cases r with
    | cons r t =>
      cases d with
      | bl b =>
        simp only [allBl] at e
        obtain ⟨q, h1, h2⟩ := Option.map_eq_some_iff.mp e
        subst h2
        cases r
        rw [List.map_cons, allBl_rep t h1]
      | _ => cases e
theorem allInt_rep : ∀ {xs : List V} {ds : List D} {bs : List Int}, RepL K mg G xs ds → allInt ds = some bs → xs = bs.map V.int
  | _, [], bs, r, e => by cases r; cases e; rfl
  | _, d :: ds, bs, r, e => by
    cases r with
    | cons r t =>
      cases d with
      | int b =>
        simp only [allInt] at e
        obtain ⟨q, h1, h2⟩ := Option.map_eq_some_iff.mp e
        subst h2
        cases r
        rw [List.map_cons, allInt_rep t h1]
      | _ => cases e
theorem repL_ints : ∀ bs : List Int, RepL K mg G (bs.map V.int) (bs.map D.int)
  | [] => .nil
  | b :: bs => .cons (.int b) (repL_ints bs)
theorem pe_B1 {id : String} {r : List V → Hp → VK → Prop} {nm : Str} {p : Pos} {ta : TE} (hc : CallR X (.builtin id) r) (hg : Gl X nm) (hm : X.mg nm = none) (hv : bootBuiltins nm = some (.builtin id)) (ha : PE X a ta) (hn : nm ≠ "__name__" := by decide) (hdb : (nm == ("__debug__" : Str)) = false := by decide)
    (he : starEach [a] X.env = (false, eval a X.env) :: starEach [] X.env := by rfl) : PE X (.Call (.Name nm p) [a] [] pos) (tUn (fun x H Q => r [x] H Q) ta) :=
  PE.weak (pe_callB hc hg hm hv (pa_cons ha pa_nil he) hn hdb he) fun σ H Q h => h
theorem pe_T1 {T : String} {r : List V → Hp → VK → Prop} {nm : Str} {p : Pos} {ta : TE} (hc : CallR X (.type T) r) (hg : Gl X nm) (hm : X.mg nm = none) (hv : bootBuiltins nm = some (.type T)) (ha : PE X a ta) (hn : nm ≠ "__name__" := by decide) (hdb : (nm == ("__debug__" : Str)) = false := by decide)
    (he : starEach [a] X.env = (false, eval a X.env) :: starEach [] X.env := by rfl) : PE X (.Call (.Name nm p) [a] [] pos) (tUn (fun x H Q => r [x] H Q) ta) :=
  PE.weak (pe_callTy hc hg hm hv (pa_cons ha pa_nil he) hn hdb he) fun σ H Q h => h
theorem se_len {p : Pos} (hg : Gl X "len") (hm : X.mg "len" = none) (ha : SQ X W a f) (he : starEach [a] X.env = (false, eval a X.env) :: starEach [] X.env := by rfl) : SE X W (.Call (.Name "len" p) [a] [] pos) (un lenD f) :=
  se_un (fun ha => pe_B1 call_len hg hm PySem.boot_len ha (by decide) (by decide) he) (fun {G H x d1 Q U} s r p => by
    unfold lenD at p
    split at p
    · obtain ⟨c, p⟩ := p.chk
      rw [r.str]
      exact ⟨_, _, rfl, ⟨of_decide_eq_true c, rfl⟩, p.here s (.int _)⟩
    · split at p
      · rename_i ds hds
        obtain ⟨q, xs, e, hq, rr⟩ := r.seq s hds
        subst e
        refine ⟨_, ds.length, rfl, ?_, p.here s (.int _)⟩
        rw [← rr.length]
        rcases hq with hq | hq
        · exact .inl ⟨xs, hq, rfl⟩
        · exact .inr ⟨xs, hq, rfl⟩
      · exact p.elim) ha
theorem se_int1 {p : Pos} (hg : Gl X "int") (hm : X.mg "int" = none) (ha : SQ X W a f) (he : starEach [a] X.env = (false, eval a X.env) :: starEach [] X.env := by rfl) : SE X W (.Call (.Name "int" p) [a] [] pos) (un intD f) :=
  se_un (fun ha => pe_T1 call_int1 hg hm (by decide +kernel) ha (by decide) (by decide) he) (fun {G H x d1 Q U} s r p => by
    unfold intD at p
    split at p
    · rw [r.int]; exact .inl ⟨_, rfl, p.here s (.int _)⟩
    · rw [r.bl]; exact .inr ⟨_, rfl, p.here s (.int _)⟩
    · exact p.elim) ha
theorem sf_list {p : Pos} (hg : Gl X "list") (hm : X.mg "list" = none) (ha : SQ X W a f) (he : starEach [a] X.env = (false, eval a X.env) :: starEach [] X.env := by rfl) : SF X W (.Call (.Name "list" p) [a] [] pos) (un listD f) :=
  sf_un (fun ha => pe_T1 call_list_of hg hm (by decide +kernel) ha (by decide) (by decide) he) (fun {G H x d1 Q U} s r p => by
    unfold listD at p
    split at p
    · rename_i ds hds
      obtain ⟨q, xs, e, hq, rr⟩ := r.seq s hds
      subst e
      exact ⟨q, xs, rfl, hq, p.newL s rr⟩
    · exact p.elim) ha
theorem se_tuple {p : Pos} (hg : Gl X "tuple") (hm : X.mg "tuple" = none) (ha : SQ X W a f) (he : starEach [a] X.env = (false, eval a X.env) :: starEach [] X.env := by rfl) : SE X W (.Call (.Name "tuple" p) [a] [] pos) (un tupleD f) :=
  se_un (fun ha => pe_T1 call_tuple_of hg hm (by decide +kernel) ha (by decide) (by decide) he) (fun {G H x d1 Q U} s r p => by
    unfold tupleD at p
    split at p
    · rename_i ds hds
      cases d1 with
      | lst es =>
        cases hds
        obtain ⟨q, xs, e, hq, rr⟩ := r.lst s
        subst e
        exact ⟨q, xs, rfl, .inl ⟨SqL.of hq, p.newT s rr⟩⟩
      | tup es =>
        cases hds
        have t := r.tupRep
        obtain ⟨q, xs, e, hq, rr⟩ := r.tup s
        subst e
        exact ⟨q, xs, rfl, .inr ⟨hq, p.here s t⟩⟩
      | fz es =>
        cases hds
        obtain ⟨q, xs, e, hq, rr⟩ := r.fz s
        subst e
        exact ⟨q, xs, rfl, .inl ⟨hq, p.newT s rr⟩⟩
      | _ => cases hds
    · exact p.elim) ha
theorem se_all {p : Pos} (hc : X.calm = true) (hg : Gl X "all") (hm : X.mg "all" = none) (ha : SQ X W a f) (he : starEach [a] X.env = (false, eval a X.env) :: starEach [] X.env := by rfl) : SE X W (.Call (.Name "all" p) [a] [] pos) (un allD f) :=
  se_un (fun ha => pe_B1 (cr_all hc) hg hm (by decide +kernel) ha (by decide) (by decide) he) (fun {G H x d1 Q U} s r p => by
    unfold allD at p
    split at p
    · split at p
      · rename_i bs hb
        obtain ⟨q, xs, e, hq, rr⟩ := r.lst s
        subst e
        rw [allBl_rep rr hb] at hq
        exact ⟨q, bs, rfl, SqL.of hq, p.here s (.bl _)⟩
      · exact p.elim
    · exact p.elim) ha
theorem se_any {p : Pos} (hc : X.calm = true) (hg : Gl X "any") (hm : X.mg "any" = none) (ha : SQ X W a f) (he : starEach [a] X.env = (false, eval a X.env) :: starEach [] X.env := by rfl) : SE X W (.Call (.Name "any" p) [a] [] pos) (un anyD f) :=
  se_un (fun ha => pe_B1 (cr_any hc) hg hm (by decide +kernel) ha (by decide) (by decide) he) (fun {G H x d1 Q U} s r p => by
    unfold anyD at p
    split at p
    · split at p
      · rename_i bs hb
        obtain ⟨q, xs, e, hq, rr⟩ := r.lst s
        subst e
        rw [allBl_rep rr hb] at hq
        exact ⟨q, bs, rfl, SqL.of hq, p.here s (.bl _)⟩
      · exact p.elim
    · exact p.elim) ha
theorem isort_perm (l : List Int) : (isort l).Perm l := List.mergeSort_perm l _
theorem isort_sorted (l : List Int) : (isort l).Pairwise (· ≤ ·) := by
  have h := List.pairwise_mergeSort (le := fun a b : Int => decide (a ≤ b)) (fun a b c h1 h2 => by simp at *; omega) (fun a b => by simp; omega) l
  exact h.imp fun h => of_decide_eq_true h
theorem sorted_unique {l m : List Int} (hp : l.Perm m) (h1 : l.Pairwise (· ≤ ·)) (h2 : m.Pairwise (· ≤ ·)) : l = m :=
  hp.eq_of_pairwise (fun a b _ _ h1 h2 => Int.le_antisymm h1 h2) h1 h2
theorem sf_sortedI {p : Pos} (hg : Gl X "sorted") (hm : X.mg "sorted" = none) (ha : SQ X W a f) (he : starEach [a] X.env = (false, eval a X.env) :: starEach [] X.env := by rfl) : SF X W (.Call (.Name "sorted" p) [a] [] pos) (un sortedID f) :=
  sf_un (fun ha => pe_B1 cr_sortedI hg hm (by decide +kernel) ha (by decide) (by decide) he) (fun {G H x d1 Q U} s r p => by
    unfold sortedID at p
    split at p
    · split at p
      · rename_i bs hb
        obtain ⟨q, xs, e, hq, rr⟩ := r.lst s
        subst e
        rw [allInt_rep rr hb] at hq
        refine ⟨q, bs, rfl, SqL.of hq, fun ns' pa hp ho hf => ?_⟩
        have e2 : ns' = isort bs := sorted_unique (hp.trans (isort_perm bs).symm) ho (isort_sorted bs)
        rw [e2]
        exact p.newL s (repL_ints _) pa hf
      · exact p.elim
    · exact p.elim) ha
end
end Fx

set_option Elab.async false
set_option linter.all false
set_option maxRecDepth 100000
set_option maxHeartbeats 4000000
/-! Fx3: argument lists, displays, calls, attributes, slices, tests. -/
namespace Fx
open PySem PySem.Spec PyProof.Rows L2
variable {K : PySem.W.Frag} {mg : Str → Option Value}

/-! ### calls, what they may let out told by the names' values -/
section
variable {X : Cx} {W : WX} {k : Nat} {f C : Addr} {fd : FuncData} {ps : List Str} {sp : Sp} {dvs : List V} {ds : List Value} {x : Str} {p pos : Pos} {e : Expr} {es : List Expr} {t : TA}
theorem runW {pins : List (Addr × Obj)} {σ : L2.St} {H : Hp} {s : Shared} {Q : VK} {us : List Value} {vs : List V} (ok : FnOk X.prog X.w X.K X.mg X.base (L2.CX X.prog X.w) k f fd ps sp) (room : Room k X.A) (bi : Binds X.K fd ps ds) (dv : Vals dvs ds) (tk : Takes X W)
    (I : Inv X pins σ H s) (r : Vals vs us) (h : sp (vs ++ dvs) H Q (fun c d H' => W c d σ H')) : wpAny (model X.prog X.w) X.A (call (.ref f) us) (EP X pins σ Q) X.xe s := by
  have rr := r.append dv
  have len : (us ++ ds).length = ps.length := by rw [← rr.length]; exact ok.len _ _ _ _ h
  refine wpAny_call (codeAny_mono (ok.run X.A X.stack s H ⟨us, []⟩ (us ++ ds) (vs ++ dvs) Q _ room I.env0 (bi s us I.kIn len) rr h) fun res s' z => ?_)
  cases res with
  | ok fl =>
    cases fl with
    | ret u => exact I.after z
    | next => cases z
    | brk => cases z
    | cont => cases z
  | error u => exact tk u s' (XE.of_call I (fun _ _ _ q => q) z)
theorem pe_callW (ok : FnOk X.prog X.w X.K X.mg X.base (L2.CX X.prog X.w) k f fd ps sp) (room : Room k X.A) (gl : Gl X x) (gm : X.mg x = some (.ref f)) (kp : PySem.W.keepIn X.K (.ref f) = true) (bi : Binds X.K fd ps ds) (dv : Vals dvs ds) (tk : Takes X W)
    (ha : PA X (e :: es) t) (hdb : (x == ("__debug__" : Str)) = false := by decide) (he : starEach (e :: es) X.env = (false, eval e X.env) :: starEach es X.env := by rfl) (hpl : (backTo pos (starEach es X.env)).any (·.1) = false := by rfl) :
    PE X (.Call (.Name x p) (e :: es) [] pos) (fun σ H Q => t σ H fun vs H1 => sp (vs ++ dvs) H1 Q fun c d H' => W c d σ H') := by
  refine ⟨fun pins s σ H Q I h => wpAny_Call_Name_kw (ld_glob I gl gm ?_ hdb)⟩
  exact PySem.W.callWith_K (h₀ := X.base) I.ok.mod.kin kp (thn (ha.run pos pins s σ H _ I h) fun us s1 ⟨vs, H1, I1, r, q⟩ => ⟨I1.kIn, runW ok room bi dv tk I1 r q⟩) he hpl
theorem pe_call0W (ok : FnOk X.prog X.w X.K X.mg X.base (L2.CX X.prog X.w) k f fd ps sp) (room : Room k X.A) (gl : Gl X x) (gm : X.mg x = some (.ref f)) (kp : PySem.W.keepIn X.K (.ref f) = true) (bi : Binds X.K fd ps ds) (dv : Vals dvs ds) (tk : Takes X W)
    (hdb : (x == ("__debug__" : Str)) = false := by decide) : PE X (.Call (.Name x p) [] [] pos) (fun σ H Q => sp ([] ++ dvs) H Q fun c d H' => W c d σ H') := by
  refine ⟨fun pins s σ H Q I h => wpAny_Call_Name_kw (ld_glob I gl gm ?_ hdb)⟩
  exact PySem.W.callWith_K0 I.kIn kp (runW (us := []) ok room bi dv tk I .nil h)
theorem makeW {pins : List (Addr × Obj)} {σ : L2.St} {H : Hp} {s : Shared} {Q : VK} {us : List Value} {vs : List V} (M : Mk X.K C f) (ok : FnOk X.prog X.w X.K X.mg X.base (L2.CX X.prog X.w) k f fd ps sp) (room : Room (k + 1) X.A) (bi : Binds X.K fd ps ds) (dv : Vals dvs ds) (tk : Takes X W)
    (I : Inv X pins σ H s) (r : Vals vs us)
    (h : ∀ y dy, H y = none → H dy = none → dy ≠ y → sp (.ref y :: (vs ++ dvs)) (upd (upd H dy (.own y)) y (.ins C dy [])) (fun v H2 => v = .non ∧ Q (.ref y) H2) fun c d H' => W c d σ H') :
    wpAny (model X.prog X.w) X.A (call (.ref C) us) (EP X pins σ Q) X.xe s := by
  have q0 := h (s.heap.objs.size + 1) s.heap.objs.size (I.hok.fresh (Nat.le_succ _)) (I.hok.fresh (Nat.le_refl _)) (Nat.ne_of_lt (Nat.lt_succ_self _))
  have J := Inv.made (C := C) I
  have rr : Vals (V.ref (s.heap.objs.size + 1) :: (vs ++ dvs)) (Value.ref (s.heap.objs.size + 1) :: (us ++ ds)) := .cons rfl (r.append dv)
  have len : (Value.ref (s.heap.objs.size + 1) :: us ++ ds).length = ps.length := by
    have z := rr.length
    rw [ok.len _ _ _ _ q0] at z
    exact z.symm
  refine wpAny_call (make_map (f := f) I.kIn M.makes M.init (beq_iff_eq.mp M.fn) (codeAny_mono (ok.run _ X.stack _ _ ⟨Value.ref (s.heap.objs.size + 1) :: us, []⟩ (Value.ref (s.heap.objs.size + 1) :: (us ++ ds)) _ _ _ (room.make C us [])
    (J.env0.make C us []) (bi _ (Value.ref (s.heap.objs.size + 1) :: us) J.kIn len) rr q0) fun res s' z => ?_))
  cases res with
  | ok fl =>
    cases fl with
    | ret u =>
      obtain ⟨v, H', K3, rv, ev, q3⟩ := J.after z
      subst ev
      exact ⟨rv, ⟨V.ref (s.heap.objs.size + 1), H', K3, rfl, q3⟩⟩
    | next => cases z
    | brk => cases z
    | cont => cases z
  | error u => exact tk u s' (XE.of_call J (fun _ _ _ q => q) z)
theorem pe_makeW (M : Mk X.K C f) (ok : FnOk X.prog X.w X.K X.mg X.base (L2.CX X.prog X.w) k f fd ps sp) (room : Room (k + 1) X.A) (gl : Gl X x) (gm : X.mg x = some (.ref C)) (bi : Binds X.K fd ps ds) (dv : Vals dvs ds) (tk : Takes X W)
    (ha : PA X (e :: es) t) (hdb : (x == ("__debug__" : Str)) = false := by decide) (he : starEach (e :: es) X.env = (false, eval e X.env) :: starEach es X.env := by rfl) (hpl : (backTo pos (starEach es X.env)).any (·.1) = false := by rfl) :
    PE X (.Call (.Name x p) (e :: es) [] pos) (fun σ H Q => t σ H fun vs H1 => ∀ y dy, H1 y = none → H1 dy = none → dy ≠ y → sp (.ref y :: (vs ++ dvs)) (upd (upd H1 dy (.own y)) y (.ins C dy [])) (fun v H2 => v = .non ∧ Q (.ref y) H2) fun c d H' => W c d σ H') := by
  refine ⟨fun pins s σ H Q I h => wpAny_Call_Name_kw (ld_glob I gl gm ?_ hdb)⟩
  exact PySem.W.callWith_K (h₀ := X.base) I.ok.mod.kin M.kp (thn (ha.run pos pins s σ H _ I h) fun us s1 ⟨vs, H1, I1, r, q⟩ => ⟨I1.kIn, makeW M ok room bi dv tk I1 r q⟩) he hpl
end
theorem PostA.imp {W : XK} {G H G1 H1 : Hp} {Q Q' : List V → Hp → Prop} {o : Oc (List D)} (x : Ext G H G1 H1) (h : PostA K mg W G H Q o) (q : ∀ v H, Q v H → Q' v H) : PostA K mg W G1 H1 Q' o := by
  cases o with
  | st => exact h
  | ok d => exact fun v G' H' e r => q _ _ (h v G' H' (x.trans e) r)
  | ex c => exact fun C G' H' e m => h C G' H' (x.trans e) m
theorem PostT.imp {W : XK} {G H G1 H1 : Hp} {Q Q' : Bool → Hp → Prop} {o : Oc Bool} (x : Ext G H G1 H1) (h : PostT K mg W G H Q o) (q : ∀ v H, Q v H → Q' v H) : PostT K mg W G1 H1 Q' o := by
  cases o with
  | st => exact h
  | ok d => exact fun G' H' e => q _ _ (h G' H' (x.trans e))
  | ex c => exact fun C G' H' e m => h C G' H' (x.trans e) m
theorem PostF.imp {W : XK} {G H G1 H1 : Hp} {Q Q' : VK} {o : Oc D} (x : Ext G H G1 H1) (h : PostF K mg W G H Q o) (q : ∀ v H, Q v H → Q' v H) : PostF K mg W G1 H1 Q' o := by
  cases o with
  | st => exact h
  | ok d => exact fun a G' H' e ha ga ow => q _ _ (h a G' H' (x.trans e) (x.hh.free ha) ga ow)
  | ex c => exact fun C G' H' e m => h C G' H' (x.trans e) m

section
variable {X : Cx} {W : WX} {U : XK} {a b c e : Expr} {es : List Expr} {f g h : En → Oc D} {fs : En → Oc (List D)} {pos : Pos}
variable {G H : Hp} {x y : V} {d1 d2 : D} {Q : VK}

/-! ### argument lists -/
def aN : En → Oc (List D) := fun _ => .ok []
def aC (f : En → Oc D) (fs : En → Oc (List D)) : En → Oc (List D) := fun ρ => bd (f ρ) fun d => bd (fs ρ) fun ds => .ok (d :: ds)
theorem sa_nil : SA X W [] aN := PA.weak pa_nil fun σ H Q ⟨G, ρ, R, p⟩ => p [] G H (.refl R.sub) .nil
theorem sa_cons (ha : SE X W a f) (hr : SA X W es fs) (hs : starEach (a :: es) X.env = (false, eval a X.env) :: starEach es X.env := by rfl) : SA X W (a :: es) (aC f fs) := PA.weak (pa_cons ha hr hs) fun σ H Q ⟨G, ρ, R, p⟩ => by
  refine ⟨G, ρ, R, ?_⟩
  revert p
  unfold aC
  cases f ρ with
  | st => exact id
  | ex c => exact id
  | ok d =>
    intro p v G1 H1 x1 r1
    refine ⟨G1, ρ, R.ext x1, ?_⟩
    revert p
    simp only [bd_ok]
    cases fs ρ with
    | st => exact id
    | ex c => exact fun p C G' H' e m => p C G' H' (x1.trans e) m
    | ok ds => exact fun p vs G2 H2 x2 r2 => p (v :: vs) G2 H2 (x1.trans x2) (.cons (r1.same x2.gg) r2)
def tpl (fs : En → Oc (List D)) : En → Oc D := fun ρ => bd (fs ρ) fun ds => chk (decide (ds.length ≤ sizeLine)) (.ok (.tup ds))
def lsd (fs : En → Oc (List D)) : En → Oc D := fun ρ => bd (fs ρ) fun ds => chk (decide (ds.length ≤ sizeLine)) (.ok (.lst ds))
theorem se_tup {j} (ha : SA X W es fs) : SE X W (.Tuple es j pos) (tpl fs) := PE.weak (pe_tup ha) fun σ H Q ⟨G, ρ, R, p⟩ => by
  refine ⟨G, ρ, R, ?_⟩
  revert p
  unfold tpl
  cases fs ρ with
  | st => exact id
  | ex c => exact id
  | ok ds =>
    intro p vs G1 H1 x1 r1
    have p := PostE.imp x1 p fun _ _ q => q
    obtain ⟨c, p⟩ := p.chk
    exact ⟨by rw [r1.length]; exact of_decide_eq_true c, p.newT x1.gh r1⟩
theorem sf_lst (ha : SA X W es fs) : SF X W (.List es pos) (lsd fs) := PE.weak (pe_lst ha) fun σ H Q ⟨G, ρ, R, p⟩ => by
  refine ⟨G, ρ, R, ?_⟩
  revert p
  unfold lsd
  cases fs ρ with
  | st => exact id
  | ex c => exact id
  | ok ds =>
    intro p vs G1 H1 x1 r1
    have p := PostF.imp x1 p fun _ _ q => q
    obtain ⟨c, p⟩ := p.chk
    exact ⟨by rw [r1.length]; exact of_decide_eq_true c, p.newL x1.gh r1⟩

/-! ### calls of defs -/
def spF (K : PySem.W.Frag) (mg : Str → Option Value) (n : Nat) (F : List D → Oc D) : Sp := fun vs H Q E => vs.length = n ∧ ∃ G ds, Same G H ∧ Tabs K G H ∧ RepL K mg G vs ds ∧ PostE K mg E G H Q (F ds)
structure Kn (P : Program) (w : World) (K : PySem.W.Frag) (mg : Str → Option Value) (base : Heap) (k : Nat) (x : Str) (n : Nat) (dds : List D) (F : List D → Oc D) : Prop where
  ex : ∃ (f : Addr) (fd : FuncData) (ps : List Str) (ds : List Value) (dvs : List V), FnOk P w K mg base (L2.CX P w) k f fd ps (spF K mg (n + dds.length) F) ∧ mg x = some (.ref f) ∧ PySem.W.keepIn K (.ref f) = true ∧ Binds K fd ps ds ∧ Vals dvs ds ∧ (∀ G, RepL K mg G dvs dds)
abbrev XKn (X : Cx) := Kn X.prog X.w X.K X.mg X.base
def cal (F : List D → Oc D) (n : Nat) (dds : List D) (fs : En → Oc (List D)) : En → Oc D := fun ρ => bd (fs ρ) fun ds => chk (decide (ds.length = n)) (F (ds ++ dds))
theorem PostE.call {n : Nat} {vs dvs : List V} {ds dds : List D} {F : List D → Oc D} (s : Same G H) (tb : Tabs K G H) (r : RepL K mg G vs ds) (rd : ∀ G, RepL K mg G dvs dds) (p : PostE K mg U G H Q (Fx.chk (decide (ds.length = n)) (F (ds ++ dds)))) : spF K mg (n + dds.length) F (vs ++ dvs) H Q U := by
  obtain ⟨c, p⟩ := p.chk
  exact ⟨by rw [List.length_append, r.length, (rd G).length, of_decide_eq_true c], G, ds ++ dds, s, tb, r.append (rd G), p⟩
theorem se_call {k n : Nat} {nm : Str} {dds : List D} {F : List D → Oc D} {p : Pos} (kn : XKn X k nm n dds F) (C : Ctx X W) (hr : Room k X.A) (hg : Gl X nm) (ha : SA X W (e :: es) fs) (hdb : (nm == ("__debug__" : Str)) = false := by decide)
    (he : starEach (e :: es) X.env = (false, eval e X.env) :: starEach es X.env := by rfl) (hpl : (backTo pos (starEach es X.env)).any (·.1) = false := by rfl) : SE X W (.Call (.Name nm p) (e :: es) [] pos) (cal F n dds fs) := by
  obtain ⟨f, fd, ps, ds, dvs, ok, gm, kp, b, vd, rd⟩ := kn.ex
  refine PE.weak (pe_callW ok hr hg gm kp b vd C.tk ha hdb he hpl) fun σ H Q ⟨G, ρ, R, p⟩ => ?_
  refine ⟨G, ρ, R, ?_⟩
  revert p
  unfold cal
  cases fs ρ with
  | st => exact id
  | ex c => exact id
  | ok ds =>
    intro p vs G1 H1 x1 r1
    have p := PostE.imp x1 p fun _ _ q => q
    exact p.call x1.gh (R.ext x1).tabs r1 rd
theorem se_call0 {k : Nat} {nm : Str} {dds : List D} {F : List D → Oc D} {p : Pos} (kn : XKn X k nm 0 dds F) (C : Ctx X W) (hr : Room k X.A) (hg : Gl X nm) (hdb : (nm == ("__debug__" : Str)) = false := by decide) : SE X W (.Call (.Name nm p) [] [] pos) (cal F 0 dds aN) := by
  obtain ⟨f, fd, ps, ds, dvs, ok, gm, kp, b, vd, rd⟩ := kn.ex
  refine PE.weak (pe_call0W ok hr hg gm kp b vd C.tk hdb) fun σ H Q ⟨G, ρ, R, p⟩ => ?_
  exact PostE.call (vs := []) R.sub R.tabs .nil rd p

/-! ### instances -/
def spI (K : PySem.W.Frag) (mg : Str → Option Value) (c : Str) (n : Nat) (F : List D → Oc D) : Sp := fun vs H Q E => vs.length = n + 1 ∧ ∃ G ds x dx C vs', vs = .ref x :: vs' ∧ mg c = some (.ref C) ∧ H x = some (.ins C dx []) ∧ H dx = some (.own x) ∧ dx ≠ x ∧ G x = none ∧ Same G H ∧ Tabs K G H ∧ RepL K mg G vs' ds ∧
  match F ds with
  | .st => False
  | .ok d => ∀ G' H', Sm (rmv H x) H' → Same G G' → Same G' H' → (∀ b o, H b = some o → b ≠ x → G b = none → G' b = none) → G' x = none → OwAt K mg G' H' x d → Q .non H'
  | .ex c' => ∀ C' G' H', Sm (rmv H x) H' → Same G G' → Same G' H' → (∀ b o, H b = some o → b ≠ x → G b = none → G' b = none) → mg c' = some (.ref C') → E (.ref C') none H'
structure KnC (P : Program) (w : World) (K : PySem.W.Frag) (mg : Str → Option Value) (base : Heap) (k : Nat) (c : Str) (n : Nat) (dds : List D) (F : List D → Oc D) : Prop where
  ex : ∃ (C f : Addr) (fd : FuncData) (ps : List Str) (ds : List Value) (dvs : List V), Mk K C f ∧ FnOk P w K mg base (L2.CX P w) k f fd ps (spI K mg c (n + dds.length) F) ∧ mg c = some (.ref C) ∧ Binds K fd ps ds ∧ Vals dvs ds ∧ (∀ G, RepL K mg G dvs dds)
abbrev XKnC (X : Cx) := KnC X.prog X.w X.K X.mg X.base
theorem sf_make {k n : Nat} {nm : Str} {dds : List D} {F : List D → Oc D} {p : Pos} (kn : XKnC X k nm n dds F) (C : Ctx X W) (hr : Room (k + 1) X.A) (hg : Gl X nm) (ha : SA X W (e :: es) fs) (hdb : (nm == ("__debug__" : Str)) = false := by decide)
    (he : starEach (e :: es) X.env = (false, eval e X.env) :: starEach es X.env := by rfl) (hpl : (backTo pos (starEach es X.env)).any (·.1) = false := by rfl) : SF X W (.Call (.Name nm p) (e :: es) [] pos) (cal F n dds fs) := by
  obtain ⟨Cl, f, fd, ps, ds, dvs, mk, ok, gm, b, vd, rd⟩ := kn.ex
  refine PE.weak (pe_makeW mk ok hr hg gm b vd C.tk ha hdb he hpl) fun σ H Q ⟨G, ρ, R, p⟩ => ?_
  refine ⟨G, ρ, R, ?_⟩
  revert p
  unfold cal
  cases fs ρ with
  | st => exact id
  | ex c => exact id
  | ok ds =>
    intro p vs G1 H1 x1 r1 x dx nx ndx ne
    have p := PostF.imp x1 p fun _ _ q => q
    obtain ⟨c, p⟩ := p.chk
    have hl := of_decide_eq_true c
    have s1 : Same H1 (upd (upd H1 dx (.own x)) x (.ins Cl dx [])) := fun b o e => by
      rw [upd_ne (ne_of_none e nx), upd_ne (ne_of_none e ndx)]; exact e
    refine ⟨by simp [r1.length, (rd G).length, hl], G1, ds ++ dds, x, dx, Cl, vs ++ dvs, rfl, gm, upd_same, by rw [upd_ne ne]; exact upd_same, ne, x1.gh.free nx, x1.gh.trans s1, (R.ext x1).tabs.same s1, r1.append (rd _), ?_⟩
    have s2 : Sm H1 (rmv (upd (upd H1 dx (.own x)) x (.ins Cl dx [])) x) := .of fun b o e => by
      rw [rmv_ne (ne_of_none e nx)]; exact s1 b o e
    revert p
    cases F (ds ++ dds) with
    | st => exact id
    | ok d =>
      intro p G' H' h1 gg gh nc gx ow
      exact ⟨rfl, p x G' H' ⟨s2.trans h1, gg, gh, fun b o e g => nc b o (s1 b o e) (ne_of_none e nx) g⟩ nx gx ow⟩
    | ex c' => exact fun p C' G' H' h1 gg gh nc m => p C' G' H' ⟨s2.trans h1, gg, gh, fun b o e g => nc b o (s1 b o e) (ne_of_none e nx) g⟩ m

/-! ### attributes -/
def fldD (cs : List Str) (n : Str) (d : D) : Oc D := match d with
  | .obj c fs => if c ∈ cs then (match fs.lookup n with | some x => .ok x | none => .st) else .st
  | _ => .st
def ClsA (K : PySem.W.Frag) (mg : Str → Option Value) (n : Str) (c : Str) : Prop := ∀ C, mg c = some (.ref C) → Cls K C ∧ NoAttr K C n
theorem se_fld {n : Str} {cs : List Str} (hc : ∀ c ∈ cs, ClsA X.K X.mg n c) (ha : SQ X W a f) (hb : attributeBase a n X.env (eval a X.env) = eval a X.env := by rfl) : SE X W (.Attribute a n pos) (un (fldD cs n) f) := PE.weak (pe_fld ha hb) fun σ H Q ⟨G, ρ, R, p⟩ => by
  refine ⟨G, ρ, R, ?_⟩
  revert p
  unfold un
  cases f ρ with
  | st => exact id
  | ex c => exact id
  | ok d1 =>
    intro p x G1 H1 x1 r1
    have p := PostE.imp x1 p fun _ _ q => q
    simp only [bd_ok] at p
    unfold fldD at p
    split at p
    · rename_i _ c fs _
      split at p
      · rename_i hin
        split at p
        · rename_i d hd
          have hx : ∃ a C dx vs, x = .ref a ∧ X.mg c = some (.ref C) ∧ H1 a = some (.ins C dx vs) ∧ RepF X.K X.mg G1 vs fs := by
            rcases r1 with r1 | ⟨a, e, _, C, dx, vs, m, h, r⟩
            · cases r1 with
              | obj m h r => exact ⟨_, _, _, _, rfl, m, x1.gh _ _ h, r⟩
            · exact ⟨a, C, dx, vs, e, m, h, r⟩
          obtain ⟨a, C, dx, vs, e, m, h, r⟩ := hx
          obtain ⟨v, hv, rv⟩ := r.look hd
          obtain ⟨k1, k2⟩ := hc c hin C m
          exact ⟨a, C, dx, vs, v, e, h, k1, k2, hv, p.here x1.gh rv⟩
        · exact p.elim
      · exact p.elim
    · exact p.elim

/-! ### list.index, list.count -/
def indexD (d e : D) : Oc D := match d with
  | .lst ds => match toPDs ds, toPD e with
    | some ps, some q => match ps.findIdx? (fun z => PyData.eqv z q) with
      | some j => chk (SeqAt.shaped (.list ps) && SeqAt.shaped q) (.ok (.int (j : Nat)))
      | none => .st
    | _, _ => .st
  | _ => .st
def mtD (tyB : D → Bool) (F : D → List D → Oc D) (f : En → Oc D) (fs : En → Oc (List D)) : En → Oc D := fun ρ => bd (f ρ) fun d => chk (tyB d) (bd (fs ρ) fun ds => F d ds)
theorem se_mt {T idn : String} {nm : Str} {r : V → List V → Hp → VK → Prop} {apos : Pos} {tyB : D → Bool} {F : D → List D → Oc D} (pa : PlainAttrs T) (slot : Slot T nm idn) (hty : typeOf (.builtin idn) = pure (.type "method_descriptor")) (hm : MtR X idn r)
    (h1 : ∀ {G H x d}, Same G H → RepQ X.K X.mg G H x d → tyB d = true → tyV X.K T x H)
    (h2 : ∀ {G H x d vs ds Q U}, Same G H → RepQ X.K X.mg G H x d → RepL X.K X.mg G vs ds → PostE X.K X.mg U G H Q (F d ds) → r x vs H Q) (ha : SQ X W a f) (hb : SA X W (e :: es) fs)
    (hbase : attributeBase a nm X.env (eval a X.env) = eval a X.env := by rfl)
    (hfew : ((backTo pos (starEach (e :: es) X.env)).all (fun x => !x.1) && (backToKw pos (keywordEach [] X.env)).all (fun x => x.1.isSome)
      && decide ((e :: es).length + ([] : List Keyword).length + (if ([] : List Keyword).isEmpty then 0 else 1) < 30)) = true := by rfl)
    (hline : (apos.endLine == pos.line) = true := by rfl) (hs : starEach (e :: es) X.env = (false, eval e X.env) :: starEach es X.env := by rfl) (hplain : (backTo pos (starEach es X.env)).any (·.1) = false := by rfl) :
    SE X W (.Call (.Attribute a nm apos) (e :: es) [] pos) (mtD tyB F f fs) := by
  refine PE.weak (pe_bm pa slot hty hm ha hb hbase hfew hline hs hplain) fun σ H Q ⟨G, ρ, R, p⟩ => ?_
  refine ⟨G, ρ, R, ?_⟩
  revert p
  unfold mtD
  cases f ρ with
  | st => exact id
  | ex c => exact id
  | ok d1 =>
    intro p x G1 H1 x1 r1
    have p := PostE.imp x1 p fun _ _ q => q
    obtain ⟨c, p⟩ := p.chk
    refine ⟨h1 x1.gh r1 c, G1, ρ, R.ext x1, ?_⟩
    revert p
    cases fs ρ with
    | st => exact id
    | ex c => exact id
    | ok ds =>
      intro p vs G2 H2 x2 r2
      exact h2 x2.gh (RepQ.ext x2 r1) r2 (PostE.imp x2 p fun _ _ q => q)
def isLst : D → Bool
  | .lst _ => true
  | _ => false
def indexM (d : D) (es : List D) : Oc D := match es with
  | [e] => indexD d e
  | _ => .st
theorem ty_lst {G H : Hp} {x : V} {d : D} (s : Same G H) (r : RepQ K mg G H x d) (h : isLst d = true) : tyV K "list" x H := by
  cases d with
  | lst ds =>
    obtain ⟨a, xs, e, h, _⟩ := r.lst s
    subst e
    exact .inl ⟨rfl, _, SqL.of h⟩
  | _ => cases h
theorem se_index {apos : Pos} (hu : X.A.units + 65 < cLine) (ha : SQ X W a f) (hb : SA X W (e :: es) fs)
    (hbase : attributeBase a "index" X.env (eval a X.env) = eval a X.env := by rfl)
    (hfew : ((backTo pos (starEach (e :: es) X.env)).all (fun x => !x.1) && (backToKw pos (keywordEach [] X.env)).all (fun x => x.1.isSome)
      && decide ((e :: es).length + ([] : List Keyword).length + (if ([] : List Keyword).isEmpty then 0 else 1) < 30)) = true := by rfl)
    (hline : (apos.endLine == pos.line) = true := by rfl) (hs : starEach (e :: es) X.env = (false, eval e X.env) :: starEach es X.env := by rfl) (hplain : (backTo pos (starEach es X.env)).any (·.1) = false := by rfl) :
    SE X W (.Call (.Attribute a "index" apos) (e :: es) [] pos) (mtD isLst indexM f fs) :=
  se_mt PySem.F.plainAttrs_list PySem.F.slot_list_index PySem.F.type_list_index (mt_indexD hu) ty_lst (fun {G H x d vs ds Q U} s r1 r2 p => by
    unfold indexM at p
    split at p
    · rename_i q
      unfold indexD at p
      split at p
      · rename_i ls
        split at p
        · rename_i ps pq hps hpq
          split at p
          · rename_i j hj
            obtain ⟨c, p⟩ := p.chk
            rw [Bool.and_eq_true] at c
            obtain ⟨l, xs, e1, hl, rl⟩ := r1.lst s
            subst e1
            cases r2 with
            | cons r2 r3 =>
              cases r3
              obtain ⟨hj1, hj2, hj3⟩ := List.findIdx?_eq_some_iff_getElem.mp hj
              exact ⟨l, _, pq, ps, j, ps[j], rfl, rfl, .lst (SqL.of hl) (rl.dp s hps), r2.dp s hpq, c.1, c.2, List.getElem?_eq_getElem hj1, hj2, fun m z' hm hz => by
                have hm' : m < ps.length := Nat.lt_trans hm hj1
                rw [List.getElem?_eq_getElem hm'] at hz
                cases hz
                simpa using hj3 m hm, p.here s (.int _)⟩
          · exact p.elim
        · exact p.elim
      · exact p.elim
    · exact p.elim) ha hb hbase hfew hline hs hplain

/-! ### slices -/
def oP (o : Option (En → Oc D)) : En → Oc (Option Int) := fun ρ => match o with
  | none => .ok none
  | some f => bd (f ρ) fun d => match d with | .int i => .ok (some i) | _ => .st
def cutD (ds : List D) (lo hi : Option Int) : List D := (ds.drop (HT.sIx ds.length 0 lo)).take (HT.sIx ds.length ds.length hi - HT.sIx ds.length 0 lo)
def slD (d : D) (lo hi : Option Int) : Oc D := match d with
  | .str z => chk (decide (z.length ≤ sizeLine)) (.ok (.str (cutS z lo hi)))
  | .lst ds => .ok (.lst (cutD ds lo hi))
  | .fz ds => .ok (.lst (cutD ds lo hi))
  | .tup ds => .ok (.tup (cutD ds lo hi))
  | _ => .st
def slc (f : En → Oc D) (lo hi : Option (En → Oc D)) : En → Oc D := fun ρ => bd (f ρ) fun d => bd (oP lo ρ) fun l => bd (oP hi ρ) fun h => slD d l h
def PostO (K : PySem.W.Frag) (mg : Str → Option Value) (W : XK) (G H : Hp) (Q : Option Int → Hp → Prop) : Oc (Option Int) → Prop
  | .st => False
  | .ok b => ∀ G' H', Ext G H G' H' → Q b H'
  | .ex c => ∀ C G' H', Ext G H G' H' → mg c = some (.ref C) → W (.ref C) none H'
def tO (K : PySem.W.Frag) (mg : Str → Option Value) (W : WX) (f : Option (En → Oc D)) : TO := fun σ H Q => ∃ G ρ, Rel K mg G H ρ σ ∧ PostO K mg (fun c d H' => W c d σ H') G H Q (oP f ρ)
abbrev SO (X : Cx) (W : WX) (e : Option Expr) (f : Option (En → Oc D)) : Prop := PO X e (tO X.K X.mg W f)
theorem PO.weak {e : Option Expr} {t u : TO} (h : PO X e t) (w : ∀ σ H Q, u σ H Q → t σ H Q) : PO X e u := ⟨fun pins s σ H Q I q => h.run pins s σ H Q I (w _ _ _ q)⟩
theorem so_none : SO X W none none := PO.weak po_none fun σ H Q ⟨G, ρ, R, p⟩ => p G H (.refl R.sub)
theorem so_some (ha : SE X W a f) : SO X W (some a) (some f) := PO.weak (po_some ha) fun σ H Q ⟨G, ρ, R, p⟩ => by
  refine ⟨G, ρ, R, ?_⟩
  revert p
  unfold oP
  simp only
  cases f ρ with
  | st => exact id
  | ex c => exact id
  | ok d =>
    simp only [bd_ok]
    cases d with
    | int i =>
      intro p v G1 H1 x1 r
      cases r
      exact ⟨i, rfl, p G1 H1 x1⟩
    | _ => exact fun p => p.elim
theorem cutV_repL {xs : List V} {ds : List D} (r : RepL K mg G xs ds) (lo hi : Option Int) : RepL K mg G (cutV xs lo hi) (cutD ds lo hi) := by
  unfold cutV cutD
  rw [r.length]
  exact (r.drop _).take _
theorem cutD_whole {ds : List D} {lo hi : Option Int} (h : HT.sIx ds.length 0 lo = 0 ∧ HT.sIx ds.length ds.length hi = ds.length) : cutD ds lo hi = ds := by
  unfold cutD
  rw [h.1, h.2]
  simp
theorem se_sl {lo hi : Option Expr} {fl fh : Option (En → Oc D)} {p2 : Pos} (ha : SQ X W a f) (hl : SO X W lo fl) (hh : SO X W hi fh) : SE X W (.Subscript a (.Slice lo hi none p2) pos) (slc f fl fh) := by
  refine PE.weak (pe_slice (sl_list.or (sl_tupA.or sl_str)) ha hl hh) fun σ H Q ⟨G, ρ, R, p⟩ => ?_
  refine ⟨G, ρ, R, ?_⟩
  revert p
  unfold slc
  cases f ρ with
  | st => exact id
  | ex c => exact id
  | ok d =>
    intro p x G1 H1 x1 r1
    have p := PostE.imp x1 p fun _ _ q => q
    refine ⟨G1, ρ, R.ext x1, ?_⟩
    revert p
    simp only [bd_ok]
    cases oP fl ρ with
    | st => exact id
    | ex c => exact id
    | ok l =>
      intro p G2 H2 x2
      have p := PostE.imp x2 p fun _ _ q => q
      refine ⟨G2, ρ, (R.ext x1).ext x2, ?_⟩
      revert p
      simp only [bd_ok]
      cases oP fh ρ with
      | st => exact id
      | ex c => exact id
      | ok u =>
        intro p G3 H3 x3
        have p := PostE.imp x3 p fun _ _ q => q
        simp only [bd_ok] at p
        have r3 : RepQ X.K X.mg G3 H3 x d := RepQ.ext x3 (RepQ.ext x2 r1)
        have s := x3.gh
        unfold slD at p
        split at p
        · obtain ⟨c, p⟩ := p.chk
          exact .inr (.inr ⟨_, r3.str, of_decide_eq_true c, p.here s (.str _)⟩)
        · obtain ⟨q, xs, e, hq, rr⟩ := r3.lst s
          exact .inl ⟨q, xs, e, SqL.of hq, p.newL s (cutV_repL rr l u)⟩
        · obtain ⟨q, xs, e, hq, rr⟩ := r3.fz s
          exact .inl ⟨q, xs, e, hq, p.newL s (cutV_repL rr l u)⟩
        · have t := r3.tupRep
          obtain ⟨q, xs, e, hq, rr⟩ := r3.tup s
          refine .inr (.inl ⟨q, xs, e, hq, fun hw => ?_, fun _ => p.newT s (cutV_repL rr l u)⟩)
          subst e
          rw [rr.length] at hw
          rw [cutD_whole hw] at p
          exact p.here s t
        · exact p.elim
def revD (d : D) : Oc D := match d with
  | .lst ds => .ok (.lst ds.reverse)
  | .fz ds => .ok (.lst ds.reverse)
  | _ => .st
theorem se_rev {k : Nat} {p1 p2 p3 : Pos} (ha : SQ X W a f) : SE X W (.Subscript a (.Slice none none (some (.UnaryOp .USub (.Constant (.int 1) k p1) p2)) p3) pos) (un revD f) :=
  se_un (r := fun x H Q => ∃ a xs, x = .ref a ∧ SqL X.K H a xs ∧ ∀ p, H p = none → Q (.ref p) (upd H p (.lst xs.reverse))) (fun ha => pe_revL ha) (fun {G H x d1 Q U} s r p => by
    unfold revD at p
    split at p
    · obtain ⟨q, xs, e, hq, rr⟩ := r.lst s
      exact ⟨q, xs, e, SqL.of hq, p.newL s rr.reverse⟩
    · obtain ⟨q, xs, e, hq, rr⟩ := r.fz s
      exact ⟨q, xs, e, hq, p.newL s rr.reverse⟩
    · exact p.elim) ha

/-! ### tests -/
def tst (f : En → Oc D) : En → Oc Bool := fun ρ => bd (f ρ) fun d => match d with | .bl b => .ok b | _ => .st
theorem st_val (ha : SE X W a f) (he : ∀ whole, isTrue a X.env whole = (do let v ← whole; standAt a.pos; holding [v] (truthy v)) := by intro _; rfl) : STT X W a (tst f) := PT.weak (pt_val ha he) fun σ H Q ⟨G, ρ, R, p⟩ => by
  refine ⟨G, ρ, R, ?_⟩
  revert p
  unfold tst
  cases f ρ with
  | st => exact id
  | ex c => exact id
  | ok d =>
    simp only [bd_ok]
    cases d with
    | bl b =>
      intro p v G1 H1 x1 r
      cases r
      exact ⟨b, rfl, p G1 H1 x1⟩
    | _ => exact fun p => p.elim
theorem st_op2 {r : R2} {F : D → D → Oc D} (rule : ∀ {ta tb : TE}, PE X a ta → PE X b tb → PT X e (tTest (tOp r ta tb)))
    (hr : ∀ {G H x y d1 d2 Q U}, Same G H → RepQ X.K X.mg G H x d1 → RepQ X.K X.mg G H y d2 → PostE X.K X.mg U G H Q (F d1 d2) → r x y H Q)
    (ha : SQ X W a f) (hb : SQ X W b g) : STT X W e (tst (bi F f g)) := PT.weak (rule ha hb) fun σ H Q ⟨G, ρ, R, p⟩ => by
  refine ⟨G, ρ, R, ?_⟩
  revert p
  unfold tst bi
  cases f ρ with
  | st => exact id
  | ex c => exact id
  | ok d1 =>
    intro p x G1 H1 x1 r1
    refine ⟨G1, ρ, R.ext x1, ?_⟩
    revert p
    simp only [bd_ok]
    cases g ρ with
    | st => exact id
    | ex c => exact fun p C G' H' e m => p C G' H' (x1.trans e) m
    | ok d2 =>
      intro p y G2 H2 x2 r2
      simp only [bd_ok] at p
      refine hr (U := fun c d H' => W c d σ H') x2.gh (RepQ.ext x2 r1) r2 ?_
      revert p
      cases F d1 d2 with
      | st => exact id
      | ex c => exact fun p C G' H' e m => p C G' H' ((x1.trans x2).trans e) m
      | ok d =>
        simp only [bd_ok]
        cases d with
        | bl b =>
          intro p v G3 H3 x3 r
          cases r
          exact ⟨b, rfl, p G3 H3 ((x1.trans x2).trans x3)⟩
        | _ => exact fun p => p.elim
def nt (t : En → Oc Bool) : En → Oc Bool := fun ρ => bd (t ρ) fun b => .ok (!b)
def an (t u : En → Oc Bool) : En → Oc Bool := fun ρ => bd (t ρ) fun b => if b then u ρ else .ok false
def orr (t u : En → Oc Bool) : En → Oc Bool := fun ρ => bd (t ρ) fun b => if b then .ok true else u ρ
variable {t u : En → Oc Bool} {rest : List Expr}
theorem st_not (ha : STT X W a t) : STT X W (.UnaryOp .Not a pos) (nt t) := PT.weak (pt_not ha) fun σ H Q ⟨G, ρ, R, p⟩ => by
  refine ⟨G, ρ, R, ?_⟩
  revert p
  unfold nt
  cases t ρ <;> exact id
theorem sw_and1 (ha : STT X W a t) : SW X W (.BoolOp .And [a] pos) t := pw_and1 ha
theorem sw_or1 (ha : STT X W a t) : SW X W (.BoolOp .Or [a] pos) t := pw_or1 ha
theorem sw_and (ha : STT X W a t) (hb : SW X W (.BoolOp .And (b :: rest) pos) u) : SW X W (.BoolOp .And (a :: b :: rest) pos) (an t u) := PW.weak (pw_and ha hb) fun σ H Q ⟨G, ρ, R, p⟩ => by
  refine ⟨G, ρ, R, ?_⟩
  revert p
  unfold an
  cases t ρ with
  | st => exact id
  | ex c => exact id
  | ok d =>
    intro p G1 H1 x1
    have p := PostT.imp x1 p fun _ _ q => q
    cases d with
    | true => exact ⟨G1, ρ, R.ext x1, p⟩
    | false => exact p G1 H1 (.refl x1.gh)
theorem sw_or (ha : STT X W a t) (hb : SW X W (.BoolOp .Or (b :: rest) pos) u) : SW X W (.BoolOp .Or (a :: b :: rest) pos) (orr t u) := PW.weak (pw_or ha hb) fun σ H Q ⟨G, ρ, R, p⟩ => by
  refine ⟨G, ρ, R, ?_⟩
  revert p
  unfold orr
  cases t ρ with
  | st => exact id
  | ex c => exact id
  | ok d =>
    intro p G1 H1 x1
    have p := PostT.imp x1 p fun _ _ q => q
    cases d with
    | true => exact p G1 H1 (.refl x1.gh)
    | false => exact ⟨G1, ρ, R.ext x1, p⟩
theorem st_of (h : SW X W a t) : STT X W a t := PW.pt h
def anV (f g : En → Oc D) : En → Oc D := fun ρ => bd (f ρ) fun d => match d with | .bl b => if b then g ρ else .ok (.bl false) | _ => .st
def orV (f g : En → Oc D) : En → Oc D := fun ρ => bd (f ρ) fun d => match d with | .bl b => if b then .ok (.bl true) else g ρ | _ => .st
def ntV (f : En → Oc D) : En → Oc D := fun ρ => bd (f ρ) fun d => match d with | .bl b => .ok (.bl (!b)) | _ => .st
theorem se_one {op} (ha : SE X W a f) : SE X W (.BoolOp op [a] pos) f := pe_one ha
theorem se_and (ha : SE X W a f) (hb : SE X W (.BoolOp .And (b :: rest) pos) g) : SE X W (.BoolOp .And (a :: b :: rest) pos) (anV f g) := PE.weak (pe_and ha hb) fun σ H Q ⟨G, ρ, R, p⟩ => by
  refine ⟨G, ρ, R, ?_⟩
  revert p
  unfold anV
  cases f ρ with
  | st => exact id
  | ex c => exact id
  | ok d =>
    simp only [bd_ok]
    cases d with
    | bl k =>
      intro p v G1 H1 x1 r
      cases r
      have p := PostE.imp x1 p fun _ _ q => q
      refine ⟨k, rfl, ?_⟩
      cases k with
      | true => exact ⟨G1, ρ, R.ext x1, p⟩
      | false => exact p.here x1.gh (.bl _)
    | _ => exact fun p => p.elim
theorem se_or (ha : SE X W a f) (hb : SE X W (.BoolOp .Or (b :: rest) pos) g) : SE X W (.BoolOp .Or (a :: b :: rest) pos) (orV f g) := PE.weak (pe_or ha hb) fun σ H Q ⟨G, ρ, R, p⟩ => by
  refine ⟨G, ρ, R, ?_⟩
  revert p
  unfold orV
  cases f ρ with
  | st => exact id
  | ex c => exact id
  | ok d =>
    simp only [bd_ok]
    cases d with
    | bl k =>
      intro p v G1 H1 x1 r
      cases r
      have p := PostE.imp x1 p fun _ _ q => q
      refine ⟨k, rfl, ?_⟩
      cases k with
      | true => exact p.here x1.gh (.bl _)
      | false => exact ⟨G1, ρ, R.ext x1, p⟩
    | _ => exact fun p => p.elim
theorem se_not (ha : SE X W a f) : SE X W (.UnaryOp .Not a pos) (ntV f) := PE.weak (pe_not ha) fun σ H Q ⟨G, ρ, R, p⟩ => by
  refine ⟨G, ρ, R, ?_⟩
  revert p
  unfold ntV
  cases f ρ with
  | st => exact id
  | ex c => exact id
  | ok d =>
    simp only [bd_ok]
    cases d with
    | bl k =>
      intro p v G1 H1 x1 r
      cases r
      have p := PostE.imp x1 p fun _ _ q => q
      exact ⟨k, rfl, p.here x1.gh (.bl _)⟩
    | _ => exact fun p => p.elim
def ifX (t : En → Oc Bool) (f g : En → Oc D) : En → Oc D := fun ρ => bd (t ρ) fun b => if b then f ρ else g ρ
theorem se_if (hc : STT X W c t) (ha : SE X W a f) (hb : SE X W b g) : SE X W (.IfExp c a b pos) (ifX t f g) := PE.weak (pe_ifExp hc ha hb) fun σ H Q ⟨G, ρ, R, p⟩ => by
  refine ⟨G, ρ, R, ?_⟩
  revert p
  unfold ifX
  cases t ρ with
  | st => exact id
  | ex c => exact id
  | ok d =>
    intro p G1 H1 x1
    have p := PostE.imp x1 p fun _ _ q => q
    cases d with
    | true => exact ⟨G1, ρ, R.ext x1, p⟩
    | false => exact ⟨G1, ρ, R.ext x1, p⟩
def tyName : D → Option String
  | .non => some "NoneType"
  | .bl _ => some "bool"
  | .int _ => some "int"
  | .str _ => some "str"
  | _ => none
def isiD (T : String) (d : D) : Oc D := match tyName d with
  | some n => match kitB n T with
    | some b => .ok (.bl b)
    | none => .st
  | none => .st
theorem se_isi {nm : Str} {T : String} {p p2 : Pos} (hg : Gl X "isinstance") (hm : X.mg "isinstance" = none) (hg2 : Gl X nm) (hm2 : X.mg nm = none) (hv : bootBuiltins nm = some (.type T)) (ha : SQ X W a f) (hn : nm ≠ "__name__" := by decide) (hdb : (nm == ("__debug__" : Str)) = false := by decide)
    (he : starEach [a, .Name nm p2] X.env = (false, eval a X.env) :: starEach [.Name nm p2] X.env := by rfl) (he2 : starEach [.Name nm p2] X.env = (false, eval (.Name nm p2) X.env) :: starEach [] X.env := by rfl) (hpl : (backTo pos (starEach [.Name nm p2] X.env)).any (·.1) = false := by rfl) :
    SE X W (.Call (.Name "isinstance" p) [a, .Name nm p2] [] pos) (un (isiD T) f) := by
  refine se_un (r := fun x H Q => rIsi X.K [x, .ty T] H Q) (fun ha => PE.weak (pe_callB call_isi hg hm (by decide +kernel) (pa_cons ha (pa_cons (pe_bltn hg2 hm2 hv (v := .ty T) rfl hn hdb) pa_nil he2) he) (by decide) (by decide) he hpl) fun σ H Q h => h) (fun {G H x d1 Q U} s r p => ?_) ha
  unfold isiD at p
  split at p
  · rename_i n hn
    split at p
    · rename_i b hb
      have tx : TyX X.K H x (.type n) := by
        cases d1 with
        | non => cases hn; rw [r.non]; exact .base .non
        | bl k => cases hn; rw [r.bl]; exact .base (.bl _)
        | int k => cases hn; rw [r.int]; exact .base (.int _)
        | str k => cases hn; rw [r.str]; exact .base (.str _)
        | _ => cases hn
      exact ⟨x, .ty T, .type n, .type T, b, rfl, .ty T, tx, kit_ty hb, p.here s (.bl _)⟩
    · exact p.elim
  · exact p.elim
end
end Fx

set_option Elab.async false
set_option linter.all false
set_option maxRecDepth 100000
set_option maxHeartbeats 4000000
/-! Fx4: statements, loops, comprehensions, defs. -/
namespace Fx
open PySem PySem.Spec PyProof.Rows L2
variable {K : PySem.W.Frag} {mg : Str → Option Value}

inductive Res where
  | nx (ρ : En) | rt (d : D) | bk (ρ : En) | ct (ρ : En)

structure Bs (K : PySem.W.Frag) (mg : Str → Option Value) (me : Addr) (G0 H0 G H : Hp) (ρ : En) (σ : L2.St) : Prop where
  rel : Rel K mg G H ρ σ
  ext : Ext G0 H0 G H
  own : ∀ (i : Nat) (a : Addr) (d : D), ρ[i]? = some (.ow d) → σ[i]? = some (some (.ref a)) → H0 a = none
  self : ∀ (i : Nat) (c : Str) (ds : List (Str × D)), ρ[i]? = some (.ow (.obj c ds)) → σ[i]? = some (some (.ref me))
variable {me : Addr}
theorem Bs.step {G0 H0 G H G' H' : Hp} {ρ : En} {σ : L2.St} (B : Bs K mg me G0 H0 G H ρ σ) (x : Ext G H G' H') : Bs K mg me G0 H0 G' H' ρ σ := ⟨B.rel.ext x, B.ext.trans x, B.own, B.self⟩
def PostS (K : PySem.W.Frag) (mg : Str → Option Value) (W : XK) (fre : Bool) (me : Addr) (G0 H0 : Hp) (D : Ends) : Oc Res → Prop
  | .st => False
  | .ok (.nx ρ) => ∀ σ G H, Bs K mg me G0 H0 G H ρ σ → D.nx σ H
  | .ok (.rt d) => match fre with
    | false => ∀ v G H, Ext G0 H0 G H → Rep K mg G v d → D.rt v H
    | true => ∀ a G H, Ext G0 H0 G H → H0 a = none → G a = none → OwAt K mg G H a d → D.rt (.ref a) H
  | .ok (.bk ρ) => ∀ σ G H, Bs K mg me G0 H0 G H ρ σ → D.bk σ H
  | .ok (.ct ρ) => ∀ σ G H, Bs K mg me G0 H0 G H ρ σ → D.ct σ H
  | .ex c => ∀ C G H, Ext G0 H0 G H → mg c = some (.ref C) → W (.ref C) none H
def tS (K : PySem.W.Frag) (mg : Str → Option Value) (W : XK) (fre : Bool) (g : En → Oc Res) : TS := fun D σ H => ∃ G ρ me G0 H0, Bs K mg me G0 H0 G H ρ σ ∧ PostS K mg W fre me G0 H0 D (g ρ)
abbrev SS (X : Cx) (W : XK) (fre : Bool) (st : Stmt) (g : En → Oc Res) : Prop := PS X st (tS X.K X.mg W fre g)
abbrev SSs (X : Cx) (W : XK) (fre : Bool) (st : List Stmt) (g : En → Oc Res) : Prop := PSs X st (tS X.K X.mg W fre g)

section
variable {X : Cx} {W : WX} {U : XK} {fre : Bool} {a b c e : Expr} {es : List Expr} {f g h : En → Oc D} {fs : En → Oc (List D)} {pos : Pos} {st : Stmt} {sts sts2 : List Stmt} {gs hs : En → Oc Res} {t : En → Oc Bool}

def sNx : En → Oc Res := fun ρ => .ok (.nx ρ)
def sBk : En → Oc Res := fun ρ => .ok (.bk ρ)
def sCt : En → Oc Res := fun ρ => .ok (.ct ρ)
def sq (g h : En → Oc Res) : En → Oc Res := fun ρ => bd (g ρ) fun r => match r with | .nx ρ' => h ρ' | r => .ok r
theorem ss_nil : SSs X U fre [] sNx := PSs.weak pss_nil fun D σ H ⟨G, ρ, me, G0, H0, B, p⟩ => p σ G H B
theorem ss_pass : SS X U fre (.Pass pos) sNx := PS.weak ps_pass fun D σ H ⟨G, ρ, me, G0, H0, B, p⟩ => p σ G H B
theorem ss_bk : SS X U fre (.Break pos) sBk := PS.weak ps_break fun D σ H ⟨G, ρ, me, G0, H0, B, p⟩ => p σ G H B
theorem ss_ct : SS X U fre (.Continue pos) sCt := PS.weak ps_continue fun D σ H ⟨G, ρ, me, G0, H0, B, p⟩ => p σ G H B
theorem ss_one (h : SS X U fre st gs) : SSs X U fre [st] gs := pss_one h
theorem ss_cons (h1 : SS X U fre st gs) (h2 : SSs X U fre sts hs) : SSs X U fre (st :: sts) (sq gs hs) := PSs.weak (pss_cons h1 h2) fun D σ H ⟨G, ρ, me, G0, H0, B, p⟩ => by
  refine ⟨G, ρ, me, G0, H0, B, ?_⟩
  revert p
  unfold sq
  cases gs ρ with
  | st => exact id
  | ex c => exact id
  | ok r =>
    cases r with
    | nx ρ' => exact fun p σ' G' H' B' => ⟨G', ρ', me, G0, H0, B', p⟩
    | rt d => exact id
    | bk ρ' => exact id
    | ct ρ' => exact id
def frz (i : Nat) (g : En → Oc Res) : En → Oc Res := fun ρ => g (freeze i ρ)
theorem Bs.freeze {G0 H0 G H : Hp} {ρ : En} {σ : L2.St} (B : Bs K mg me G0 H0 G H ρ σ) (i : Nat) : ∃ G', Bs K mg me G0 H0 G' H (freeze i ρ) σ := by
  unfold Fx.freeze
  cases q : ρ[i]? with
  | none => exact ⟨G, B⟩
  | some s =>
    cases s with
    | no => exact ⟨G, B⟩
    | sh d => exact ⟨G, B⟩
    | ow d =>
      obtain ⟨a, G', ha, ga, ⟨o, ho, rfl⟩, rp, R⟩ := B.rel.freeze i q
      have h0 : H0 a = none := B.own i a d q ha
      refine ⟨upd G a o, R, ⟨B.ext.hh, fun b u e => ?_, R.sub, fun b u h g => ?_⟩, fun j b d' h1 h2 => ?_, fun j c ds h1 => ?_⟩
      · rw [upd_ne (ne_of_none (B.ext.gg _ _ e) ga)]; exact B.ext.gg _ _ e
      · rw [upd_ne (ne_of_none h h0)]; exact B.ext.nc b u h g
      · by_cases hj : i = j
        · subst hj
          rw [List.getElem?_set_self (List.getElem?_eq_some_iff.mp q).1] at h1
          cases h1
        · rw [List.getElem?_set_ne hj] at h1
          exact B.own j b d' h1 h2
      · by_cases hj : i = j
        · subst hj
          rw [List.getElem?_set_self (List.getElem?_eq_some_iff.mp q).1] at h1
          cases h1
        · rw [List.getElem?_set_ne hj] at h1
          exact B.self j c ds h1
theorem ss_frz (i : Nat) (h : SS X U fre st gs) : SS X U fre st (frz i gs) := PS.weak h fun D σ H ⟨G, ρ, me, G0, H0, B, p⟩ => by
  obtain ⟨G', B'⟩ := B.freeze i
  exact ⟨G', _, me, G0, H0, B', p⟩
theorem sss_frz (i : Nat) (h : SSs X U fre sts gs) : SSs X U fre sts (frz i gs) := PSs.weak h fun D σ H ⟨G, ρ, me, G0, H0, B, p⟩ => by
  obtain ⟨G', B'⟩ := B.freeze i
  exact ⟨G', _, me, G0, H0, B', p⟩

theorem tE_in {G0 H0 G H : Hp} {ρ : En} {σ : L2.St} {Q : VK} (B : Bs K mg me G0 H0 G H ρ σ) (ho : match f ρ with
    | .st => False
    | .ok d => ∀ v G' H', Bs K mg me G0 H0 G' H' ρ σ → Rep K mg G' v d → Q v H'
    | .ex c => ∀ C G' H', Ext G0 H0 G' H' → mg c = some (.ref C) → U (.ref C) none H') : tE K mg (up U) f σ H Q := by
  refine ⟨G, ρ, B.rel, ?_⟩
  revert ho
  cases f ρ with
  | st => exact id
  | ok d => exact fun p v G' H' x r => p v G' H' (B.step x) r
  | ex c => exact fun p C G' H' x m => p C G' H' (B.ext.trans x) m
theorem tT_in {G0 H0 G H : Hp} {ρ : En} {σ : L2.St} {Q : Bool → Hp → Prop} (B : Bs K mg me G0 H0 G H ρ σ) (ho : match t ρ with
    | .st => False
    | .ok d => ∀ G' H', Bs K mg me G0 H0 G' H' ρ σ → Q d H'
    | .ex c => ∀ C G' H', Ext G0 H0 G' H' → mg c = some (.ref C) → U (.ref C) none H') : tT K mg (up U) t σ H Q := by
  refine ⟨G, ρ, B.rel, ?_⟩
  revert ho
  cases t ρ with
  | st => exact id
  | ok d => exact fun p G' H' x => p G' H' (B.step x)
  | ex c => exact fun p C G' H' x m => p C G' H' (B.ext.trans x) m
def exs (f : En → Oc D) : En → Oc Res := fun ρ => bd (f ρ) fun _ => .ok (.nx ρ)
theorem ss_expr (ha : SE X (up U) a f) (hs : swapsWith a none pos.line X.env = pure false := by rfl) : SS X U fre (.Expr a pos) (exs f) := PS.weak (ps_expr ha hs) fun D σ H ⟨G, ρ, me, G0, H0, B, p⟩ => by
  refine tE_in B ?_
  revert p
  unfold exs
  cases f ρ with
  | st => exact id
  | ex c => exact id
  | ok d => exact fun p v G' H' B' r => p σ G' H' B'
def ret (f : En → Oc D) : En → Oc Res := fun ρ => bd (f ρ) fun d => .ok (.rt d)
theorem ss_ret (ha : SE X (up U) a f) : SS X U false (.Return (some a) pos) (ret f) := PS.weak (ps_ret ha) fun D σ H ⟨G, ρ, me, G0, H0, B, p⟩ => by
  refine tE_in B ?_
  revert p
  unfold ret
  cases f ρ with
  | st => exact id
  | ex c => exact id
  | ok d => exact fun p v G' H' B' r => p v G' H' B'.ext r
theorem ss_retF (ha : SF X (up U) a f) : SS X U true (.Return (some a) pos) (ret f) := PS.weak (ps_ret ha) fun D σ H ⟨G, ρ, me, G0, H0, B, p⟩ => by
  refine ⟨G, ρ, B.rel, ?_⟩
  revert p
  unfold ret
  cases f ρ with
  | st => exact id
  | ex c => exact fun p C G' H' x m => p C G' H' (B.ext.trans x) m
  | ok d => exact fun p a G' H' x ha ga ow => p a G' H' (B.ext.trans x) (B.ext.hh.free ha) ga ow
def retO (i : Nat) : En → Oc Res := fun ρ => match ρ[i]? with
  | some (.ow d) => .ok (.rt d)
  | _ => .st
theorem ss_retO {i : Nat} {x : Str} {p1 : Pos} (hv : PE X (.Name x p1) (tVar i)) : SS X U true (.Return (some (.Name x p1)) pos) (retO i) := PS.weak (ps_ret hv) fun D σ H ⟨G, ρ, me, G0, H0, B, p⟩ => by
  revert p
  unfold retO
  cases q : ρ[i]? with
  | none => exact False.elim
  | some s =>
    cases s with
    | no => exact False.elim
    | sh d => exact False.elim
    | ow d =>
      intro p
      obtain ⟨o, ho, l, rfl, gl, w⟩ := B.rel.get q
      exact ⟨.ref l, ho, p l G H B.ext (B.own i l d q ho) gl w⟩
def retN : En → Oc Res := fun ρ => .ok (.rt .non)
theorem ss_retN : SS X U false (.Return none pos) retN := PS.weak ps_retN fun D σ H ⟨G, ρ, me, G0, H0, B, p⟩ => p .non G H B.ext .non
def iff (t : En → Oc Bool) (g h : En → Oc Res) : En → Oc Res := fun ρ => bd (t ρ) fun b => if b then g ρ else h ρ
theorem ss_if (hc : STT X (up U) c t) (ha : SSs X U fre sts gs) (hb : SSs X U fre sts2 hs) : SS X U fre (.If c sts sts2 pos) (iff t gs hs) := PS.weak (ps_if hc ha hb) fun D σ H ⟨G, ρ, me, G0, H0, B, p⟩ => by
  refine tT_in B ?_
  revert p
  unfold iff
  cases t ρ with
  | st => exact id
  | ex c => exact id
  | ok b =>
    intro p G' H' B'
    cases b with
    | true => exact ⟨G', ρ, me, G0, H0, B', p⟩
    | false => exact ⟨G', ρ, me, G0, H0, B', p⟩

/-! ### assignments -/
def asg (i : Nat) (f : En → Oc D) : En → Oc Res := fun ρ => bd (f ρ) fun d => .ok (.nx (ρ.set i (.sh d)))
def asgO (i : Nat) (f : En → Oc D) : En → Oc Res := fun ρ => bd (f ρ) fun d => match d with | .lst ds => .ok (.nx (ρ.set i (.ow (.lst ds)))) | _ => .st
theorem Bs.set {G0 H0 G H : Hp} {ρ : En} {σ : L2.St} (B : Bs K mg me G0 H0 G H ρ σ) (i : Nat) {v : V} {d : D} (r : Rep K mg G v d) : Bs K mg me G0 H0 G H (ρ.set i (.sh d)) (σ.set i (some v)) := by
  have key : ∀ {j : Nat} {e : D}, (ρ.set i (.sh d))[j]? = some (.ow e) → i ≠ j ∧ ρ[j]? = some (.ow e) := fun {j e} h1 => by
    by_cases hj : i = j
    · subst hj
      have hi : i < (ρ.set i (.sh d)).length := (List.getElem?_eq_some_iff.mp h1).1
      rw [List.getElem?_set_self (by simpa using hi)] at h1
      cases h1
    · rw [List.getElem?_set_ne hj] at h1
      exact ⟨hj, h1⟩
  refine ⟨B.rel.set i r, B.ext, fun j a d' h1 h2 => ?_, fun j c ds h1 => ?_⟩
  · obtain ⟨k1, k2⟩ := key h1
    rw [List.getElem?_set_ne k1] at h2
    exact B.own j a d' k2 h2
  · obtain ⟨k1, k2⟩ := key h1
    rw [List.getElem?_set_ne k1]
    exact B.self j c ds k2
theorem Bs.setO {G0 H0 G1 H1 G H : Hp} {ρ : En} {σ : L2.St} (B : Bs K mg me G0 H0 G1 H1 ρ σ) (x : Ext G1 H1 G H) (i : Nat) {p : Addr} {ds : List D} (hp : H1 p = none) (g : G p = none) (r : OwAt K mg G H p (.lst ds)) : Bs K mg me G0 H0 G H (ρ.set i (.ow (.lst ds))) (σ.set i (some (.ref p))) := by
  refine ⟨(B.rel.ext x).setO i g r fun j e h1 h2 => ?_, B.ext.trans x, fun j a d' h1 h2 => ?_, fun j c fs h1 => ?_⟩
  · obtain ⟨o, ho, a, e2, ga, ow⟩ := B.rel.get h1
    rw [h2] at ho
    cases ho
    cases e2
    obtain ⟨u, hu⟩ := ow.ex
    rw [hp] at hu
    cases hu
  · by_cases hj : i = j
    · subst hj
      have hi : i < σ.length := by simpa using (List.getElem?_eq_some_iff.mp h2).1
      rw [List.getElem?_set_self hi] at h2
      cases h2
      exact B.ext.hh.free hp
    · rw [List.getElem?_set_ne hj] at h1 h2
      exact B.own j a d' h1 h2
  · by_cases hj : i = j
    · subst hj
      have hi : i < (ρ.set i (.ow (.lst ds))).length := (List.getElem?_eq_some_iff.mp h1).1
      rw [List.getElem?_set_self (by simpa using hi)] at h1
      cases h1
    · rw [List.getElem?_set_ne hj] at h1 ⊢
      exact B.self j c fs h1
theorem asg_post {G0 H0 G H : Hp} {ρ : En} {σ : L2.St} {D : Ends} {i : Nat} (B : Bs K mg me G0 H0 G H ρ σ) (p : PostS K mg U fre me G0 H0 D (asg i f ρ)) : tE K mg (up U) f σ H fun x H1 => gName i x σ H1 D.nx := by
  refine tE_in B ?_
  revert p
  unfold asg
  cases f ρ with
  | st => exact id
  | ex c => exact id
  | ok d => exact fun p v G' H' B' r => p _ G' H' (B'.set i r)
theorem asgO_post {G0 H0 G H : Hp} {ρ : En} {σ : L2.St} {D : Ends} {i : Nat} (B : Bs K mg me G0 H0 G H ρ σ) (p : PostS K mg U fre me G0 H0 D (asgO i f ρ)) : tF K mg (up U) f σ H fun x H1 => gName i x σ H1 D.nx := by
  refine ⟨G, ρ, B.rel, ?_⟩
  revert p
  unfold asgO
  cases f ρ with
  | st => exact id
  | ex c => exact fun p C G' H' x m => p C G' H' (B.ext.trans x) m
  | ok d =>
    intro p a G' H' x ha ga ow
    simp only [bd_ok] at p
    cases d with
    | lst ds => exact p _ G' H' (B.setO x i ha ga ow)
    | _ => exact p.elim
section
variable {i : Nat} {x : Str} {pos' : Pos}
theorem ss_set (C : Ctx X (up U)) (hi : X.N[i]? = some x) (hx : Loc X.env.scope x) (ha : SE X (up U) a f) (hs : swapsWith a (some (.Name x pos')) pos.line X.env = pure false := by rfl) (hf : X.fn x = true ∨ X.env.scope.names.lookup x = some .local := by first | exact .inl rfl | exact .inr rfl | assumption) :
    SS X U fre (.Assign [.Name x pos'] a pos) (asg i f) := PS.weak (ps_set C.nd hi hx ha hs hf) fun D σ H ⟨G, ρ, me, G0, H0, B, p⟩ => asg_post B p
theorem ss_setO (C : Ctx X (up U)) (hi : X.N[i]? = some x) (hx : Loc X.env.scope x) (ha : SF X (up U) a f) (hs : swapsWith a (some (.Name x pos')) pos.line X.env = pure false := by rfl) (hf : X.fn x = true ∨ X.env.scope.names.lookup x = some .local := by first | exact .inl rfl | exact .inr rfl | assumption) :
    SS X U fre (.Assign [.Name x pos'] a pos) (asgO i f) := PS.weak (ps_set C.nd hi hx ha hs hf) fun D σ H ⟨G, ρ, me, G0, H0, B, p⟩ => asgO_post B p
def augA (i : Nat) (f : En → Oc D) : En → Oc Res := fun ρ => bd (vr i ρ) fun d => bd (f ρ) fun e => bd (match d, e with | .int m, .int n => .ok (.int (m + n)) | _, _ => Oc.st) fun z => .ok (.nx (ρ.set i (.sh z)))
theorem ss_augA (C : Ctx X (up U)) (hi : X.N[i]? = some x) (hx : Loc X.env.scope x) (ha : SE X (up U) a f) (hf : X.fn x = true ∨ X.env.scope.names.lookup x = some .local := by first | exact .inl rfl | exact .inr rfl | assumption) :
    SS X U fre (.AugAssign (.Name x pos') .Add a pos) (augA i f) := PS.weak (ps_aug C.nd hi hx ha ip_add hf) fun D σ H ⟨G, ρ, me, G0, H0, B, p⟩ => by
  revert p
  unfold augA vr
  cases q : ρ[i]? with
  | none => exact fun p => p.elim
  | some s =>
    cases s with
    | no => exact fun p => p.elim
    | ow d => exact fun p => p.elim
    | sh d =>
      intro p
      obtain ⟨o, ho, v, rfl, r⟩ := B.rel.get q
      refine ⟨v, ho, tE_in B ?_⟩
      revert p
      simp only [bd_ok]
      cases f ρ with
      | st => exact id
      | ex c => exact id
      | ok e =>
        intro p u G' H' B' r'
        simp only [bd_ok] at p
        cases d with
        | int m =>
          cases e with
          | int n =>
            cases r
            cases r'
            exact ⟨m, n, rfl, rfl, p _ G' H' (B'.set i (.int _))⟩
          | _ => exact p.elim
        | _ => exact p.elim
def augS (i : Nat) (f : En → Oc D) : En → Oc Res := fun ρ => bd (vr i ρ) fun d => bd (f ρ) fun e => bd (match d, e with | .int m, .int n => .ok (.int (m - n)) | _, _ => Oc.st) fun z => .ok (.nx (ρ.set i (.sh z)))
theorem ss_augS (C : Ctx X (up U)) (hi : X.N[i]? = some x) (hx : Loc X.env.scope x) (ha : SE X (up U) a f) (hf : X.fn x = true ∨ X.env.scope.names.lookup x = some .local := by first | exact .inl rfl | exact .inr rfl | assumption) :
    SS X U fre (.AugAssign (.Name x pos') .Sub a pos) (augS i f) := PS.weak (ps_aug C.nd hi hx ha ip_sub hf) fun D σ H ⟨G, ρ, me, G0, H0, B, p⟩ => by
  revert p
  unfold augS vr
  cases q : ρ[i]? with
  | none => exact fun p => p.elim
  | some s =>
    cases s with
    | no => exact fun p => p.elim
    | ow d => exact fun p => p.elim
    | sh d =>
      intro p
      obtain ⟨o, ho, v, rfl, r⟩ := B.rel.get q
      refine ⟨v, ho, tE_in B ?_⟩
      revert p
      simp only [bd_ok]
      cases f ρ with
      | st => exact id
      | ex c => exact id
      | ok e =>
        intro p u G' H' B' r'
        simp only [bd_ok] at p
        cases d with
        | int m =>
          cases e with
          | int n =>
            cases r
            cases r'
            exact ⟨m, n, rfl, rfl, p _ G' H' (B'.set i (.int _))⟩
          | _ => exact p.elim
        | _ => exact p.elim
end

/-! ### stores into own objects -/
theorem Bs.chg {G0 H0 G H : Hp} {ρ : En} {σ : L2.St} (B : Bs K mg me G0 H0 G H ρ σ) {i : Nat} {p : Addr} {d d' : D} {o : HO} (h1 : ρ[i]? = some (.ow d)) (h2 : σ[i]? = some (some (.ref p))) (hd : ∀ c ds, d' = .obj c ds → ∃ c2 ds2, d = .obj c2 ds2) (gp : G p = none) (ow : OwAt K mg G (upd H p o) p d') : Bs K mg me G0 H0 G (upd H p o) (ρ.set i (.ow d')) σ := by
  have h0 : H0 p = none := B.own i p d h1 h2
  have s0 : Same G (upd H p o) := fun b u e => by rw [upd_ne (ne_of_none e gp)]; exact B.rel.sub _ _ e
  have od : OwAt K mg G H p d := by
    obtain ⟨b, e, _, w⟩ := B.rel.at_ i _ _ h1 h2
    cases e
    exact w
  refine ⟨⟨s0, B.rel.tabs.upd od.notTab, by simp [B.rel.len], fun j s ov e1 e2 => ?_, fun j k b x y e1 e2 e3 e4 => ?_⟩, ⟨B.ext.hh.upd h0, B.ext.gg, s0, B.ext.nc⟩, fun j b x e1 e2 => ?_, fun j c fs e1 => ?_⟩
  · by_cases hj : i = j
    · subst hj
      rw [List.getElem?_set_self (List.getElem?_eq_some_iff.mp h1).1] at e1
      cases e1
      rw [h2] at e2
      cases e2
      exact ⟨p, rfl, gp, ow⟩
    · rw [List.getElem?_set_ne hj] at e1
      have q := B.rel.at_ j s ov e1 e2
      cases s with
      | no => trivial
      | sh x => exact q
      | ow x =>
        obtain ⟨b, e, gb, r⟩ := q
        subst e
        refine ⟨b, rfl, gb, r.same (.refl _) fun u hu _ => ?_⟩
        rw [upd_ne fun z => hj (B.rel.apart i j p d x h1 e1 h2 (by rw [e2, z]))]
        exact hu
  · have key : ∀ {m : Nat} {z : D}, (ρ.set i (.ow d'))[m]? = some (.ow z) → ∃ z', ρ[m]? = some (.ow z') := fun {m z} e => by
      by_cases hm : i = m
      · exact ⟨d, by rw [← hm]; exact h1⟩
      · rw [List.getElem?_set_ne hm] at e; exact ⟨z, e⟩
    obtain ⟨x', e1'⟩ := key e1
    obtain ⟨y', e2'⟩ := key e2
    exact B.rel.apart j k b x' y' e1' e2' e3 e4
  · by_cases hj : i = j
    · subst hj
      rw [h2] at e2
      cases e2
      exact h0
    · rw [List.getElem?_set_ne hj] at e1
      exact B.own j b x e1 e2
  · by_cases hj : i = j
    · subst hj
      rw [List.getElem?_set_self (List.getElem?_eq_some_iff.mp h1).1] at e1
      cases e1
      obtain ⟨c2, ds2, e⟩ := hd _ _ rfl
      subst e
      exact B.self i c2 ds2 h1
    · rw [List.getElem?_set_ne hj] at e1
      exact B.self j c fs e1
def app (i : Nat) (f : En → Oc D) : En → Oc Res := fun ρ => match ρ[i]? with
  | some (.ow (.lst _)) => bd (f ρ) fun d => (match ρ[i]? with
    | some (.ow (.lst ds)) => chk (decide (ds.length < sizeLine)) (.ok (.nx (ρ.set i (.ow (.lst (ds ++ [d]))))))
    | _ => .st)
  | _ => .st
theorem ss_app {i : Nat} {x : Str} {p1 apos cpos : Pos} (hv : PE X (.Name x p1) (tVar i)) (ha : SE X (up U) a f)
    (hbase : attributeBase (.Name x p1) "append" X.env (eval (.Name x p1) X.env) = eval (.Name x p1) X.env := by rfl)
    (hfew : ((backTo cpos (starEach [a] X.env)).all (fun x => !x.1) && (backToKw cpos (keywordEach [] X.env)).all (fun x => x.1.isSome)
      && decide (([a] : List Expr).length + ([] : List Keyword).length + (if ([] : List Keyword).isEmpty then 0 else 1) < 30)) = true := by rfl)
    (hline : (apos.endLine == cpos.line) = true := by rfl) (hs : starEach [a] X.env = (false, eval a X.env) :: starEach [] X.env := by rfl) (hplain : (backTo cpos (starEach [] X.env)).any (·.1) = false := by rfl)
    (hsw : swapsWith (.Call (.Attribute (.Name x p1) "append" apos) [a] [] cpos) none pos.line X.env = pure false := by rfl) :
    SS X U fre (.Expr (.Call (.Attribute (.Name x p1) "append" apos) [a] [] cpos) pos) (app i f) :=
  PS.weak (ps_expr (pe_bm PySem.F.plainAttrs_list PySem.F.slot_list_append PySem.F.type_list_append mt_append hv (pa_cons ha pa_nil hs) hbase hfew hline hs hplain) hsw) fun D σ H ⟨G, ρ, me, G0, H0, B, p⟩ => by
  revert p
  unfold app
  cases q : ρ[i]? with
  | none => exact fun p => p.elim
  | some s =>
    cases s with
    | no => exact fun p => p.elim
    | sh d => exact fun p => p.elim
    | ow d =>
      cases d with
      | lst ds =>
        intro p
        obtain ⟨o, ho, l, rfl, gl, xs, hl, rl⟩ := B.rel.get q
        refine ⟨.ref l, ho, .inl ⟨rfl, _, SqL.of hl⟩, tE_in B ?_⟩
        revert p
        simp only
        cases f ρ with
        | st => exact id
        | ex c => exact id
        | ok d =>
          intro p v G' H' B' r
          simp only [bd_ok] at p
          have p2 : decide (ds.length < sizeLine) = true ∧ PostS X.K X.mg U fre me G0 H0 D (.ok (.nx (ρ.set i (.ow (.lst (ds ++ [d])))))) := chk_some (P := PostS X.K X.mg U fre me G0 H0 D) (fun z => z) p
          obtain ⟨o2, ho2, l2, e2, gl2, xs2, hl2, rl2⟩ := B'.rel.get q
          rw [ho] at ho2
          cases ho2
          cases e2
          exact ⟨l, xs2, v, rfl, rfl, hl2, by rw [rl2.length]; exact of_decide_eq_true p2.1, p2.2 σ G' _ (B'.chg q ho (fun _ _ z => by cases z) gl2 ⟨_, upd_same, rl2.append (.cons r .nil)⟩)⟩
      | _ => exact fun p => p.elim
def putD (n : Str) (d : D) : List (Str × D) → List (Str × D)
  | [] => [(n, d)]
  | (m, x) :: r => if m = n then (m, d) :: r else (m, x) :: putD n d r
theorem RepF.put {G : Hp} {n : Str} {v : V} {d : D} (rv : Rep K mg G v d) : ∀ {fs : List (Str × V)} {ds : List (Str × D)}, RepF K mg G fs ds → RepF K mg G (putF n v fs) (putD n d ds)
  | _, _, .nil => .cons rv .nil
  | _, _, .cons (n := m) r t => by
    unfold putF putD
    by_cases h : m = n
    · rw [if_pos h, if_pos h]; exact .cons rv t
    · rw [if_neg h, if_neg h]; exact .cons r (RepF.put rv t)
def setF (i : Nat) (cs : List Str) (n : Str) (f : En → Oc D) : En → Oc Res := fun ρ => bd (f ρ) fun d => match ρ[i]? with
  | some (.ow (.obj c fs)) => chk (decide (c ∈ cs) && decide (fs.length < 1000)) (.ok (.nx (ρ.set i (.ow (.obj c (putD n d fs))))))
  | _ => .st
theorem ss_setF {i : Nat} {x n : Str} {p1 pos' : Pos} {cs : List Str} (hc : ∀ c ∈ cs, ClsA X.K X.mg n c) (hv : PE X (.Name x p1) (tVar i)) (ha : SE X (up U) a f) (hs : swapsWith a (some (.Attribute (.Name x p1) n pos')) pos.line X.env = pure false := by rfl) :
    SS X U fre (.Assign [.Attribute (.Name x p1) n pos'] a pos) (setF i cs n f) := PS.weak (ps_fld hv ha hs) fun D σ H ⟨G, ρ, me, G0, H0, B, p⟩ => by
  refine tE_in B ?_
  revert p
  unfold setF
  cases f ρ with
  | st => exact id
  | ex c => exact id
  | ok d =>
    intro p v G' H' B' r
    simp only [bd_ok] at p
    revert p
    cases q : ρ[i]? with
    | none => exact fun p => p.elim
    | some s =>
      cases s with
      | no => exact fun p => p.elim
      | sh d => exact fun p => p.elim
      | ow d2 =>
        cases d2 with
        | obj c fs =>
          intro p
          have p2 : (decide (c ∈ cs) && decide (fs.length < 1000)) = true ∧ PostS X.K X.mg U fre me G0 H0 D (.ok (.nx (ρ.set i (.ow (.obj c (putD n d fs)))))) := chk_some (P := PostS X.K X.mg U fre me G0 H0 D) (fun z => z) p
          rw [Bool.and_eq_true, decide_eq_true_eq, decide_eq_true_eq] at p2
          obtain ⟨o, ho, l, rfl, gl, C, dx, vs, m, hl, rl⟩ := B'.rel.get q
          obtain ⟨k1, k2⟩ := hc c p2.1.1 C m
          exact ⟨.ref l, ho, l, C, dx, vs, rfl, hl, k1, k2, by rw [rl.length]; exact p2.1.2, p2.2 σ G' _ (B'.chg q ho (fun _ _ _ => ⟨_, _, rfl⟩) gl ⟨C, dx, _, m, upd_same, rl.put r⟩)⟩
        | _ => exact fun p => p.elim
end
end Fx

set_option Elab.async false
set_option linter.all false
set_option maxRecDepth 100000
set_option maxHeartbeats 4000000
/-! Fx5: loops, comprehensions, defs. -/
namespace Fx
open PySem PySem.Spec PyProof.Rows L2
variable {K : PySem.W.Frag} {mg : Str → Option Value} {me : Addr}

/-! ### targets -/
inductive Tg where
  | one (i : Nat) | tup (is : List Nat)
def setE : List Nat → List D → En → En
  | i :: is, d :: ds, ρ => setE is ds (ρ.set i (.sh d))
  | _, _, ρ => ρ
def setV : List Nat → List V → L2.St → L2.St
  | i :: is, v :: vs, σ => setV is vs (σ.set i (some v))
  | _, _, σ => σ
def bindT : Tg → D → En → Oc En
  | .one i, d, ρ => .ok (ρ.set i (.sh d))
  | .tup is, .tup ds, ρ => chk (decide (ds.length = is.length)) (.ok (setE is ds ρ))
  | _, _, _ => .st
def gNames : List Nat → TGs
  | [] => gNil
  | i :: is => gCons (gName i) (gNames is)
def gT (K : PySem.W.Frag) : Tg → TG
  | .one i => gName i
  | .tup is => gTup K is.length (gNames is)
abbrev ST (X : Cx) (e : Expr) (T : Tg) : Prop := PG X e (gT X.K T)
def Tg.slots : Tg → List Nat
  | .one i => [i]
  | .tup is => is
def setT : Tg → V → List V → L2.St → L2.St
  | .one i, v, _, σ => σ.set i (some v)
  | .tup is, _, vs, σ => setV is vs σ
theorem gNames_in : ∀ {is : List Nat} {vs : List V} {σ : L2.St} {H : Hp} {Q : L2.St → Hp → Prop}, vs.length = is.length → Q (setV is vs σ) H → gNames is vs σ H Q
  | [], [], _, _, _, _, q => ⟨rfl, q⟩
  | i :: is, v :: vs, σ, H, Q, h, q => ⟨v, vs, rfl, gNames_in (by simpa using h) q⟩
theorem gT_in {G H : Hp} {T : Tg} {v : V} {d : D} {ρ ρ' : En} {σ : L2.St} {Q : L2.St → Hp → Prop} (s : Same G H) (r : Rep K mg G v d) (h : bindT T d ρ = .ok ρ') (q : ∀ vs ds, (match T with | .one _ => True | .tup is => d = .tup ds ∧ vs.length = is.length ∧ RepL K mg G vs ds ∧ ρ' = setE is ds ρ) → Q (setT T v vs σ) H) : gT K T v σ H Q := by
  cases T with
  | one i => exact q [] [] trivial
  | tup is =>
    cases d with
    | tup ds =>
      cases r with
      | tup hs rl =>
        rename_i a xs
        have h : chk (decide (ds.length = is.length)) (.ok (setE is ds ρ)) = .ok ρ' := h
        by_cases hl : ds.length = is.length
        · rw [decide_eq_true hl] at h
          cases h
          have e : xs.length = is.length := by rw [rl.length]; exact hl
          exact ⟨a, xs, rfl, SqT.same s hs, e, gNames_in e (q xs ds ⟨rfl, e, rl, rfl⟩)⟩
        · rw [decide_eq_false hl] at h
          cases h
    | _ => cases h
theorem Bs.setV {G0 H0 G H : Hp} : ∀ {is : List Nat} {vs : List V} {ds : List D} {ρ : En} {σ : L2.St}, Bs K mg me G0 H0 G H ρ σ → RepL K mg G vs ds → Bs K mg me G0 H0 G H (setE is ds ρ) (Fx.setV is vs σ)
  | [], _, _, _, _, B, _ => B
  | i :: is, _, _, _, _, B, .nil => B
  | i :: is, _, _, _, _, B, .cons r t => Bs.setV (is := is) (B.set i r) t
theorem Rel.setV {G H : Hp} : ∀ {is : List Nat} {vs : List V} {ds : List D} {ρ : En} {σ : L2.St}, Rel K mg G H ρ σ → RepL K mg G vs ds → Rel K mg G H (setE is ds ρ) (Fx.setV is vs σ)
  | [], _, _, _, _, B, _ => B
  | i :: is, _, _, _, _, B, .nil => B
  | i :: is, _, _, _, _, B, .cons r t => Rel.setV (is := is) (B.set i r) t
theorem gT_bs {G0 H0 G H : Hp} {T : Tg} {v : V} {d : D} {ρ ρ' : En} {σ : L2.St} {Q : L2.St → Hp → Prop} (B : Bs K mg me G0 H0 G H ρ σ) (r : Rep K mg G v d) (h : bindT T d ρ = .ok ρ') (q : ∀ σ', Bs K mg me G0 H0 G H ρ' σ' → Q σ' H) : gT K T v σ H Q := by
  refine gT_in B.rel.sub r h fun vs ds c => q _ ?_
  cases T with
  | one i => cases h; exact B.set i r
  | tup is =>
    obtain ⟨_, _, rl, e⟩ := c
    subst e
    exact B.setV rl
theorem gT_rel {G H : Hp} {T : Tg} {v : V} {d : D} {ρ ρ' : En} {σ : L2.St} {Q : L2.St → Hp → Prop} (R : Rel K mg G H ρ σ) (r : Rep K mg G v d) (h : bindT T d ρ = .ok ρ') (q : ∀ vs, Rel K mg G H ρ' (setT T v vs σ) → Q (setT T v vs σ) H) : gT K T v σ H Q := by
  refine gT_in R.sub r h fun vs ds c => q _ ?_
  cases T with
  | one i => cases h; exact R.set i r
  | tup is =>
    obtain ⟨_, _, rl, e⟩ := c
    subst e
    exact R.setV rl

/-! ### what is walked -/
structure Yld (K : PySem.W.Frag) (mg : Str → Option Value) (J : It) (G' : Hp) (ds : List D) : Prop where
  go : ∀ (i : Nat) G H, i < ds.length → Same G' G → Same G H → J.go i H
  stop : ∀ G H, Same G' G → Same G H → J.stop ds.length H
  yld : ∀ (i : Nat) d x G H H', ds[i]? = some d → Same G' G → Same G H → J.yld i H x H' → ∃ G2, Ext G H G2 H' ∧ Rep K mg G2 x d
def PostI (K : PySem.W.Frag) (mg : Str → Option Value) (W : XK) (G H : Hp) (R : It → Hp → Prop) : Oc (List D) → Prop
  | .st => False
  | .ok ds => ∀ J G' H', Ext G H G' H' → Yld K mg J G' ds → R J H'
  | .ex c => ∀ C G' H', Ext G H G' H' → mg c = some (.ref C) → W (.ref C) none H'
def tI (K : PySem.W.Frag) (mg : Str → Option Value) (W : WX) (f : En → Oc (List D)) : TI := fun σ H R => ∃ G ρ, Rel K mg G H ρ σ ∧ PostI K mg (fun c d H' => W c d σ H') G H R (f ρ)
abbrev SI (X : Cx) (W : WX) (tg e : Expr) (f : En → Oc (List D)) : Prop := PI X tg e (tI X.K X.mg W f)
theorem PI.weak {X : Cx} {tg e : Expr} {t u : TI} (h : PI X tg e t) (w : ∀ σ H Q, u σ H Q → t σ H Q) : PI X tg e u := ⟨fun pins s σ H Q I q => h.run pins s σ H Q I (w _ _ _ q)⟩

section
variable {X : Cx} {W : WX} {U : XK} {fre : Bool} {a b c e tg it : Expr} {es : List Expr} {f g h : En → Oc D} {fs : En → Oc (List D)} {pos : Pos} {st : Stmt} {sts sts2 : List Stmt} {gs hs : En → Oc Res} {t : En → Oc Bool}

def iSeq (K : PySem.W.Frag) (tl : TE) : TI := fun σ H R => tl σ H fun x H1 => ∃ a, x = .ref a ∧ ((∃ xs, SqL K H1 a xs ∧ R (Itl K a) H1) ∨ (∃ xs, SqT K H1 a xs ∧ R (Itt K a) H1))
theorem pi_seq {l : Expr} {tl : TE} (hl : PE X l tl) : PI X tg l (iSeq X.K tl) := by
  refine ⟨fun pins s σ H R I h => ?_⟩
  refine thn (hl.run pins s σ H _ I h) fun v s1 ⟨x, H1, I1, r1, q1⟩ => ?_
  obtain ⟨a, e, q1⟩ := q1
  subst e
  cases r1
  rcases q1 with ⟨xs, hq, q⟩ | ⟨xs, hq, q⟩
  · obtain ⟨its, rv, p, hz⟩ := I1.list hq
    refine wpAny_pyIter_list p.isList ?_
    refine ⟨s1.heap.objs.size, [s1.heap.objs.size], _, _, H1, rfl, I1.kept (t' := s1.toks) fun b o e => Heap.get?_push_of_some _ e, turn_list a _, ⟨_, Heap.get?_push_size _ rfl, rfl, rfl⟩, fun b hb => ?_, q⟩
    have e : b = s1.heap.objs.size := by simpa using hb
    subst e
    exact I1.fpOk (Nat.le_refl _) (I1.hok.fresh (Nat.le_refl _))
  · obtain ⟨its, rv, p, hz⟩ := I1.tuple hq
    refine wpAny_pyIter_tuple (show s1.heap.IsTuple a its.toArray from p) ?_
    refine ⟨s1.heap.objs.size, [s1.heap.objs.size], _, _, H1, rfl, I1.kept (t' := s1.toks) fun b o e => Heap.get?_push_of_some _ e, turn_tuple a _, ⟨_, Heap.get?_push_size _ rfl, rfl, rfl⟩, fun b hb => ?_, q⟩
    have e : b = s1.heap.objs.size := by simpa using hb
    subst e
    exact I1.fpOk (Nat.le_refl _) (I1.hok.fresh (Nat.le_refl _))
theorem yld_list {G' : Hp} {a : Addr} {xs : List V} {ds : List D} (h : SqL K G' a xs) (r : RepL K mg G' xs ds) : Yld K mg (Itl K a) G' ds := by
  refine ⟨fun i G H hi s1 s2 => ?_, fun G H s1 s2 => ?_, fun i d x G H H' hd s1 s2 y => ?_⟩
  · have hi2 : i < xs.length := by rw [r.length]; exact hi
    exact ⟨xs, xs[i], s2.seq (s1.seq h), by simp [hi2]⟩
  · exact ⟨xs, s2.seq (s1.seq h), by rw [r.length]; exact Nat.le_refl _⟩
  · obtain ⟨e, y⟩ := y
    subst e
    obtain ⟨v, hv, rv⟩ := r.get hd
    have q := y xs (s2.seq (s1.seq h))
    rw [hv] at q
    cases q
    exact ⟨G, .refl s2, rv.same s1⟩
theorem yld_tup {G' : Hp} {a : Addr} {xs : List V} {ds : List D} (h : SqT K G' a xs) (r : RepL K mg G' xs ds) : Yld K mg (Itt K a) G' ds := by
  refine ⟨fun i G H hi s1 s2 => ?_, fun G H s1 s2 => ?_, fun i d x G H H' hd s1 s2 y => ?_⟩
  · have hi2 : i < xs.length := by rw [r.length]; exact hi
    exact ⟨xs, xs[i], SqT.same s2 (SqT.same s1 h), by simp [hi2]⟩
  · exact ⟨xs, SqT.same s2 (SqT.same s1 h), by rw [r.length]; exact Nat.le_refl _⟩
  · obtain ⟨e, y⟩ := y
    subst e
    obtain ⟨v, hv, rv⟩ := r.get hd
    have q := y xs (SqT.same s2 (SqT.same s1 h))
    rw [hv] at q
    cases q
    exact ⟨G, .refl s2, rv.same s1⟩
def itm (f : En → Oc D) : En → Oc (List D) := fun ρ => bd (f ρ) fun d => match items d with | some ds => .ok ds | none => .st
theorem si_seq (ha : SE X W it f) : SI X W tg it (itm f) := PI.weak (pi_seq ha) fun σ H Q ⟨G, ρ, R, p⟩ => by
  refine ⟨G, ρ, R, ?_⟩
  revert p
  unfold itm
  cases f ρ with
  | st => exact id
  | ex c => exact id
  | ok d =>
    intro p v G1 H1 x1 r
    simp only [bd_ok] at p
    cases d with
    | lst ds =>
      cases r with
      | lst h r => exact ⟨_, rfl, .inl ⟨_, SqL.of (x1.gh _ _ h), p _ G1 H1 x1 (yld_list (SqL.of h) r)⟩⟩
    | tup ds =>
      cases r with
      | tup h r => exact ⟨_, rfl, .inr ⟨_, SqT.same x1.gh h, p _ G1 H1 x1 (yld_tup h r)⟩⟩
    | fz ds =>
      cases r with
      | fz h r => exact ⟨_, rfl, .inl ⟨_, x1.gh.seq h, p _ G1 H1 x1 (yld_list h r)⟩⟩
    | _ => exact p.elim
def rngL (lo : Int) (n : Nat) : List D := (List.range n).map fun i => .int (lo + (i : Nat))
theorem yld_rng {G' : Hp} {lo : Int} {n : Nat} : Yld K mg (Itr lo n) G' (rngL lo n) := by
  have hl : (rngL lo n).length = n := by simp [rngL]
  refine ⟨fun i G H hi s1 s2 => ?_, fun G H s1 s2 => ?_, fun i d x G H H' hd s1 s2 y => ?_⟩
  · show i < n
    rw [← hl]; exact hi
  · show n ≤ _
    rw [hl]; exact Nat.le_refl _
  · obtain ⟨e, y⟩ := y
    subst e y
    have hi : i < n := by rw [← hl]; exact (List.getElem?_eq_some_iff.mp hd).1
    unfold rngL at hd
    rw [List.getElem?_map, List.getElem?_range hi] at hd
    cases hd
    exact ⟨G, .refl s2, .int _⟩
def rng1 (fs : En → Oc (List D)) : En → Oc (List D) := fun ρ => bd (fs ρ) fun ds => match ds with | [.int j] => chk (decide (-(2 ^ 62) ≤ j ∧ j < 2 ^ 62)) (.ok (rngL 0 j.toNat)) | _ => .st
def rng2 (fs : En → Oc (List D)) : En → Oc (List D) := fun ρ => bd (fs ρ) fun ds => match ds with | [.int i, .int j] => chk (decide (-(2 ^ 62) ≤ i ∧ i < 2 ^ 62 ∧ -(2 ^ 62) ≤ j ∧ j < 2 ^ 62)) (.ok (rngL i (j - i).toNat)) | _ => .st
theorem si_rng1 {p : Pos} (hg : Gl X "range") (hm : X.mg "range" = none) (ha : SA X W [a] fs) (hs : starEach [a] X.env = [(false, eval a X.env)] := by rfl) : SI X W tg (.Call (.Name "range" p) [a] [] pos) (rng1 fs) := PI.weak (pi_range1 hg hm ha hs) fun σ H Q ⟨G, ρ, R, p⟩ => by
  refine ⟨G, ρ, R, ?_⟩
  revert p
  unfold rng1
  cases fs ρ with
  | st => exact id
  | ex c => exact id
  | ok ds =>
    intro p vs G1 H1 x1 r
    simp only [bd_ok] at p
    split at p
    · rename_i j
      cases r with
      | cons r r2 =>
        cases r
        cases r2
        obtain ⟨c, p⟩ := chk_some (P := PostI X.K X.mg (fun c d H' => W c d σ H') G H Q) (fun z => z) p
        obtain ⟨c1, c2⟩ := of_decide_eq_true c
        exact ⟨j, rfl, c1, c2, p _ G1 H1 x1 yld_rng⟩
    · exact p.elim
theorem si_rng2 {p : Pos} (hg : Gl X "range") (hm : X.mg "range" = none) (ha : SA X W [a, b] fs) (hs : starEach [a, b] X.env = [(false, eval a X.env), (false, eval b X.env)] := by rfl) (hs2 : starEach [b] X.env = [(false, eval b X.env)] := by rfl) : SI X W tg (.Call (.Name "range" p) [a, b] [] pos) (rng2 fs) := PI.weak (pi_range2 hg hm ha hs hs2) fun σ H Q ⟨G, ρ, R, p⟩ => by
  refine ⟨G, ρ, R, ?_⟩
  revert p
  unfold rng2
  cases fs ρ with
  | st => exact id
  | ex c => exact id
  | ok ds =>
    intro p vs G1 H1 x1 r
    simp only [bd_ok] at p
    split at p
    · rename_i i j
      cases r with
      | cons r r2 =>
        cases r
        cases r2 with
        | cons r r2 =>
          cases r
          cases r2
          obtain ⟨c, p⟩ := chk_some (P := PostI X.K X.mg (fun c d H' => W c d σ H') G H Q) (fun z => z) p
          exact ⟨i, j, rfl, of_decide_eq_true c, p _ G1 H1 x1 yld_rng⟩
    · exact p.elim

/-! ### for -/
theorem Ext.base {G0 H0 G1 H1 G H : Hp} (x : Ext G0 H0 G1 H1) (y : Ext G1 H0 G H) : Ext G0 H0 G H := ⟨y.hh, x.gg.trans y.gg, y.gh, fun a o h g => y.nc a o h (x.nc a o h g)⟩
theorem Ext.rebase {G0 H0 G1 G H : Hp} (s : Same G0 G1) (y : Ext G0 H0 G H) (z : Same G1 G) : Ext G1 H0 G H := ⟨y.hh, z, y.gh, fun a o h g => y.nc a o h (s.free g)⟩
theorem Bs.base {G0 H0 G1 H1 G H : Hp} {ρ : En} {σ : L2.St} (x : Ext G0 H0 G1 H1) (B : Bs K mg me G1 H0 G H ρ σ) : Bs K mg me G0 H0 G H ρ σ := ⟨B.rel, x.base B.ext, B.own, B.self⟩
theorem Bs.rebase {G0 H0 G1 G H : Hp} {ρ : En} {σ : L2.St} (s : Same G0 G1) (B : Bs K mg me G0 H0 G H ρ σ) (z : Same G1 G) : Bs K mg me G1 H0 G H ρ σ := ⟨B.rel, B.ext.rebase s z, B.own, B.self⟩
def forL (T : Tg) (body : En → Oc Res) : List D → En → Oc Res
  | [], ρ => .ok (.nx ρ)
  | d :: ds, ρ => bd (bindT T d ρ) fun ρ1 => bd (body ρ1) fun r => match r with
    | .nx ρ2 => forL T body ds ρ2
    | .ct ρ2 => forL T body ds ρ2
    | .bk ρ2 => .ok (.nx ρ2)
    | .rt d => .ok (.rt d)
def fr (T : Tg) (src : En → Oc (List D)) (body : En → Oc Res) : En → Oc Res := fun ρ => bd (src ρ) fun ds => forL T body ds ρ
theorem bindT_ex {T : Tg} {d : D} {ρ : En} {c : Str} : bindT T d ρ ≠ .ex c := by
  intro h
  cases T with
  | one i => cases h
  | tup is =>
    cases d with
    | tup ds =>
      have h : chk (decide (ds.length = is.length)) (.ok (setE is ds ρ)) = .ex c := h
      cases hb : decide (ds.length = is.length) with
      | true => rw [hb] at h; cases h
      | false => rw [hb] at h; cases h
    | _ => cases h
theorem ss_for {T : Tg} {body : List Stmt} {src : En → Oc (List D)} (C : Ctx X (up U)) (hp : PassesOwn (model X.prog X.w) X.A X.env X.xe) (hi : SI X (up U) tg it src) (hg : ST X tg T) (hb : SSs X U fre body gs)
    (hs : ∀ x, foldedSetIterable it X.env x = pure x := by intro _; rfl) : SS X U fre (.For tg it body [] pos) (fr T src gs) := PS.weak (ps_for hp C.calm hi hg hb hs) fun D σ H ⟨G, ρ, me, G0, H0, B, p⟩ => by
  refine ⟨G, ρ, B.rel, ?_⟩
  revert p
  unfold fr
  cases src ρ with
  | st => exact id
  | ex c => exact fun p C G' H' x m => p C G' H' (B.ext.trans x) m
  | ok ds =>
    intro p J G1 H1 x1 Y
    simp only [bd_ok] at p
    have xb : Ext G0 H0 G1 H1 := B.ext.trans x1
    refine ⟨fun i m σ H => m = ds.length - i ∧ i ≤ ds.length ∧ ∃ G ρ, Same G1 G ∧ Bs X.K X.mg me G0 H0 G H ρ σ ∧ PostS X.K X.mg U fre me G0 H0 D (forL T gs (ds.drop i) ρ), ⟨ds.length, by simp, Nat.zero_le _, G1, ρ, .refl _, B.step x1, by simpa using p⟩, ?_⟩
    rintro i m σ H ⟨rfl, hi, G, ρ, s1, B, p⟩
    by_cases hlt : i < ds.length
    · refine .inr ⟨Y.go i G H hlt s1 B.rel.sub, _, fun σ' H' n => n, fun x H' y => ?_⟩
      obtain ⟨d, hd⟩ : ∃ d, ds[i]? = some d := ⟨ds[i], List.getElem?_eq_getElem hlt⟩
      obtain ⟨G2, x2, r2⟩ := Y.yld i d x G H H' hd s1 B.rel.sub y
      have B2 := B.step x2
      have hdr : ds.drop i = d :: ds.drop (i + 1) := by
        rw [List.drop_eq_getElem_cons hlt]
        rw [List.getElem?_eq_getElem hlt] at hd
        cases hd
        rfl
      rw [hdr] at p
      unfold forL at p
      cases hb2 : bindT T d ρ with
      | st => rw [hb2] at p; exact p.elim
      | ex c => exact absurd hb2 bindT_ex
      | ok ρ1 =>
        rw [hb2] at p
        simp only [bd_ok] at p
        refine gT_bs B2 r2 hb2 fun σ' B3 => ?_
        refine ⟨G2, ρ1, me, G1, H0, B3.rebase xb.gg (s1.trans x2.gg), ?_⟩
        revert p
        cases gs ρ1 with
        | st => exact id
        | ex c => exact fun p C G'' H'' x m => p C G'' H'' (xb.base x) m
        | ok r =>
          cases r with
          | nx ρ2 => exact fun p σ'' G'' H'' B4 => ⟨ds.length - (i + 1), by omega, rfl, hlt, G'', ρ2, B4.ext.gg, B4.base xb, p⟩
          | ct ρ2 => exact fun p σ'' G'' H'' B4 => ⟨ds.length - (i + 1), by omega, rfl, hlt, G'', ρ2, B4.ext.gg, B4.base xb, p⟩
          | bk ρ2 => exact fun p σ'' G'' H'' B4 => p σ'' G'' H'' (B4.base xb)
          | rt d =>
            cases fre with
            | false => exact fun p v G'' H'' x r => p v G'' H'' (xb.base x) r
            | true => exact fun p a G'' H'' x h g w => p a G'' H'' (xb.base x) h g w
    · have e : i = ds.length := by omega
      subst e
      rw [List.drop_length] at p
      exact .inl ⟨Y.stop G H s1 B.rel.sub, p σ G H B⟩

/-! ### while -/
def whF (t : En → Oc Bool) (body : En → Oc Res) : Nat → En → Oc Res
  | 0, _ => .st
  | n + 1, ρ => bd (t ρ) fun b => if b then bd (body ρ) fun r => match r with
    | .nx ρ' => whF t body n ρ'
    | .ct ρ' => whF t body n ρ'
    | .bk ρ' => .ok (.nx ρ')
    | .rt d => .ok (.rt d)
    else .ok (.nx ρ)
theorem whF_mono {t : En → Oc Bool} {body : En → Oc Res} : ∀ {n m : Nat} {ρ : En} {o : Oc Res}, whF t body n ρ = o → o ≠ .st → n ≤ m → whF t body m ρ = o
  | 0, _, _, _, h, hn, _ => absurd h.symm hn
  | n + 1, 0, _, _, _, _, hm => absurd hm (by omega)
  | n + 1, m + 1, ρ, o, h, hn, hm => by
    unfold whF at h ⊢
    cases ht : t ρ with
    | st => rw [ht] at h; exact h
    | ex c => rw [ht] at h; exact h
    | ok b =>
      rw [ht] at h
      simp only [bd_ok] at h ⊢
      cases b with
      | false => exact h
      | true =>
        simp only [if_true] at h ⊢
        cases hb : body ρ with
        | st => rw [hb] at h; exact h
        | ex c => rw [hb] at h; exact h
        | ok r =>
          rw [hb] at h
          simp only [bd_ok] at h ⊢
          cases r with
          | nx ρ' => exact whF_mono h hn (by omega)
          | ct ρ' => exact whF_mono h hn (by omega)
          | bk ρ' => exact h
          | rt d => exact h
open Classical in
noncomputable def wh (t : En → Oc Bool) (body : En → Oc Res) : En → Oc Res := fun ρ => if h : ∃ n, whF t body n ρ ≠ .st then whF t body (choose h) ρ else .st
theorem wh_of {t : En → Oc Bool} {body : En → Oc Res} {n : Nat} {ρ : En} {o : Oc Res} (h : whF t body n ρ = o) (hn : o ≠ .st) : wh t body ρ = o := by
  have hex : ∃ n, whF t body n ρ ≠ .st := ⟨n, by rw [h]; exact hn⟩
  unfold wh
  rw [dif_pos hex]
  have hc := Classical.choose_spec hex
  rcases Nat.le_total n (Classical.choose hex) with l | l
  · exact whF_mono h hn l
  · exact (whF_mono rfl hc l).symm.trans h
theorem ss_while {body : List Stmt} (C : Ctx X (up U)) (hp : PassesOwn (model X.prog X.w) X.A X.env X.xe) (hc : STT X (up U) c t) (hb : SSs X U fre body gs) : SS X U fre (.While c body [] pos) (wh t gs) := PS.weak (ps_while hp hc hb) fun D σ H ⟨G, ρ, me, G0, H0, B, p⟩ => by
  have hex : ∃ n, whF t gs n ρ ≠ .st := by
    refine Classical.byContradiction fun hn => ?_
    unfold wh at p
    rw [dif_neg hn] at p
    exact p
  obtain ⟨n, hn⟩ := hex
  rw [wh_of rfl hn] at p
  refine ⟨fun m σ H => ∃ G ρ, Bs X.K X.mg me G0 H0 G H ρ σ ∧ PostS X.K X.mg U fre me G0 H0 D (whF t gs m ρ), ⟨n, G, ρ, B, p⟩, ?_⟩
  rintro m σ H ⟨G, ρ, B, p⟩
  cases m with
  | zero => exact p.elim
  | succ m =>
    unfold whF at p
    refine tT_in B ?_
    revert p
    cases t ρ with
    | st => exact id
    | ex c => exact id
    | ok b =>
      intro p G' H' B'
      simp only [bd_ok] at p
      cases b with
      | false => exact p σ G' H' B'
      | true =>
        simp only [if_true] at p ⊢
        refine ⟨_, fun σ' H' n => n, G', ρ, me, G0, H0, B', ?_⟩
        revert p
        cases gs ρ with
        | st => exact id
        | ex c => exact id
        | ok r =>
          cases r with
          | nx ρ2 => exact fun p σ'' G'' H'' B4 => ⟨m, Nat.lt_succ_self m, G'', ρ2, B4, p⟩
          | ct ρ2 => exact fun p σ'' G'' H'' B4 => ⟨m, Nat.lt_succ_self m, G'', ρ2, B4, p⟩
          | bk ρ2 => exact fun p => p
          | rt d => exact fun p => p

/-! ### comprehensions -/
def wipeE (ρ : En) : List Nat → En
  | [] => ρ
  | v :: vs => (wipeE ρ vs).set v .no
theorem Rel.wipe {G H : Hp} {ρ : En} {σ : L2.St} (R : Rel K mg G H ρ σ) : ∀ vs : List Nat, Rel K mg G H (wipeE ρ vs) (L2.wipe σ vs)
  | [] => R
  | v :: vs => (R.wipe vs).clear v
theorem wipe_get {σ : L2.St} {i : Nat} : ∀ {vs : List Nat}, i ∈ vs → i < σ.length → (L2.wipe σ vs)[i]? = some none
  | v :: vs, h, hl => by
    unfold L2.wipe
    by_cases e : v = i
    · subst e
      rw [List.getElem?_set_self (by rw [wipe_length]; exact hl)]
    · rw [List.getElem?_set_ne e]
      rcases List.mem_cons.mp h with z | z
      · exact absurd z.symm e
      · exact wipe_get z hl
theorem wipe_ext {σ τ : L2.St} {vs : List Nat} (hl : σ.length = τ.length) (h : ∀ i, i ∉ vs → σ[i]? = τ[i]?) : L2.wipe σ vs = L2.wipe τ vs := by
  apply List.ext_getElem?
  intro i
  by_cases hi : i ∈ vs
  · by_cases hs : i < σ.length
    · rw [wipe_get hi hs, wipe_get hi (by rw [← hl]; exact hs)]
    · rw [List.getElem?_eq_none (by rw [wipe_length]; omega), List.getElem?_eq_none (by rw [wipe_length]; omega)]
  · rw [wipe_out hi, wipe_out hi, h i hi]
theorem setV_get {i : Nat} : ∀ {is : List Nat} {vs : List V} {σ : L2.St}, i ∉ is → (setV is vs σ)[i]? = σ[i]?
  | [], _, _, _ => rfl
  | j :: is, [], _, _ => rfl
  | j :: is, v :: vs, σ, h => by
    unfold setV
    rw [setV_get fun z => h (List.mem_cons_of_mem _ z), List.getElem?_set_ne fun z => h (by rw [z]; exact List.mem_cons_self)]
theorem setV_len : ∀ {is : List Nat} {vs : List V} {σ : L2.St}, (setV is vs σ).length = σ.length
  | [], _, _ => rfl
  | j :: is, [], _ => rfl
  | j :: is, v :: vs, σ => by unfold setV; rw [setV_len, List.length_set]
theorem setT_wipe {T : Tg} {v : V} {us : List V} {σ : L2.St} {vs : List Nat} (h : ∀ i ∈ T.slots, i ∈ vs) : L2.wipe (setT T v us (L2.wipe σ vs)) vs = L2.wipe σ vs := by
  refine wipe_ext ?_ fun i hi => ?_
  · cases T with
    | one j => unfold setT; rw [List.length_set, wipe_length]
    | tup is => unfold setT; rw [setV_len, wipe_length]
  · cases T with
    | one j =>
      unfold setT
      rw [List.getElem?_set_ne fun z => hi (by rw [← z]; exact h j (by simp [Tg.slots])), wipe_out hi]
    | tup is =>
      show (setV is us (L2.wipe σ vs))[i]? = _
      rw [setV_get (is := is) fun z => hi (h i z), wipe_out hi]
def lcL (T : Tg) (own : List Nat) (tt : En → Oc Bool) (el : En → Oc D) (ρ : En) : List D → Oc (List D)
  | [] => .ok []
  | d :: ds => bd (noex (bindT T d (wipeE ρ own))) fun ρ1 => bd (noex (tt ρ1)) fun b => if b then bd (noex (el ρ1)) fun y => bd (lcL T own tt el ρ ds) fun ys => .ok (y :: ys) else lcL T own tt el ρ ds
def lc (T : Tg) (own : List Nat) (src : En → Oc (List D)) (tt : En → Oc Bool) (el : En → Oc D) : En → Oc D := fun ρ => bd (src ρ) fun ds => chk (decide (ds.length ≤ sizeLine)) (bd (lcL T own tt el ρ ds) fun ys => .ok (.lst ys))
theorem noex_ne {α : Type} {o : Oc α} {c : Str} (h : noex o = .ex c) : False := by
  cases o with
  | st => cases h
  | ok b => cases h
  | ex c => cases h
theorem lcL_noex {T : Tg} {own : List Nat} {tt : En → Oc Bool} {el : En → Oc D} {ρ : En} {c : Str} : ∀ {ds : List D}, lcL T own tt el ρ ds ≠ .ex c
  | [], h => by cases h
  | d :: ds, h => by
    unfold lcL at h
    cases h1 : noex (bindT T d (wipeE ρ own)) with
    | st => rw [h1] at h; cases h
    | ex c => exact noex_ne h1
    | ok ρ1 =>
      rw [h1] at h
      simp only [bd_ok] at h
      cases h2 : noex (tt ρ1) with
      | st => rw [h2] at h; cases h
      | ex c => exact noex_ne h2
      | ok b =>
        rw [h2] at h
        simp only [bd_ok] at h
        cases b with
        | false => exact lcL_noex h
        | true =>
          simp only [if_true] at h
          cases h3 : noex (el ρ1) with
          | st => rw [h3] at h; cases h
          | ex c => exact noex_ne h3
          | ok y =>
            rw [h3] at h
            simp only [bd_ok] at h
            cases h4 : lcL T own tt el ρ ds with
            | st => rw [h4] at h; cases h
            | ex c => exact lcL_noex h4
            | ok ys => rw [h4] at h; cases h
theorem noex_eq {α : Type} {o : Oc α} {a : α} (h : noex o = .ok a) : o = .ok a := by
  cases o with
  | st => cases h
  | ok b => exact h
  | ex c => cases h

theorem tLc_in {T : Tg} {own : List Nat} {src : En → Oc (List D)} {tt : En → Oc Bool} {el : En → Oc D} {σ : L2.St} {H : Hp} {Q : VK} (ho : ∀ i ∈ T.slots, i ∈ own) (q : tF K mg W (lc T own src tt el) σ H Q) :
    tLc (tI K mg W src) (gT K T) (tT K mg E0W tt) (tE K mg E0W el) own σ H Q := by
  obtain ⟨G, ρ, R, p⟩ := q
  refine ⟨G, ρ, R, ?_⟩
  revert p
  unfold lc
  cases src ρ with
  | st => exact id
  | ex c => exact id
  | ok ds =>
    intro p J G1 H1 x1 Y D hD
    simp only [bd_ok] at p
    obtain ⟨c0, p⟩ := p.chk
    have hsz : ds.length ≤ sizeLine := of_decide_eq_true c0
    have g1 : G1 D = none := x1.gh.free hD
    cases hall : lcL T own tt el ρ ds with
    | st => rw [hall] at p; exact p.elim
    | ex c => exact absurd hall lcL_noex
    | ok ys =>
      rw [hall] at p
      simp only [bd_ok] at p
      refine ⟨fun i m H => m = ds.length - i ∧ i ≤ ds.length ∧ ∃ G acc zs ws, Ext G1 H1 G H ∧ H D = some (.lst acc) ∧ G D = none ∧ RepL K mg G acc zs ∧ zs.length ≤ i ∧ lcL T own tt el ρ (ds.drop i) = .ok ws ∧ ys = zs ++ ws,
        ⟨ds.length, by simp, Nat.zero_le _, G1, [], [], ys, Ext.newH x1.gh hD, upd_same, g1, .nil, Nat.le_refl _, by simpa using hall, rfl⟩, ?_⟩
      rintro i m H ⟨rfl, hi, G, acc, zs, ws, x, hH, gD, rl, hz, hw, rfl⟩
      have RR : Rel K mg G H ρ σ := (R.ext x1).ext x
      by_cases hlt : i < ds.length
      · refine .inr ⟨Y.go i G H hlt x.gg x.gh, _, fun H' n => n, fun v H' y => ?_⟩
        obtain ⟨d, hd⟩ : ∃ d, ds[i]? = some d := ⟨ds[i], List.getElem?_eq_getElem hlt⟩
        obtain ⟨G2, x2, r2⟩ := Y.yld i d v G H H' hd x.gg x.gh y
        have hdr : ds.drop i = d :: ds.drop (i + 1) := by
          rw [List.drop_eq_getElem_cons hlt]
          rw [List.getElem?_eq_getElem hlt] at hd
          cases hd
          rfl
        rw [hdr] at hw
        unfold lcL at hw
        cases h1 : noex (bindT T d (wipeE ρ own)) with
        | st => rw [h1] at hw; cases hw
        | ex c => exact (noex_ne h1).elim
        | ok ρ1 =>
          rw [h1] at hw
          simp only [bd_ok] at hw
          have R2 : Rel K mg G2 H' (wipeE ρ own) (L2.wipe σ own) := (RR.ext x2).wipe own
          refine gT_rel R2 r2 (noex_eq h1) fun us R3 => ⟨setT_wipe ho, ?_⟩
          refine ⟨G2, ρ1, R3, ?_⟩
          cases h2 : noex (tt ρ1) with
          | st => rw [h2] at hw; cases hw
          | ex c => exact (noex_ne h2).elim
          | ok b =>
            rw [h2] at hw
            simp only [bd_ok] at hw
            rw [noex_eq h2]
            intro G3 H3 x3
            have x13 : Ext G1 H1 G3 H3 := (x.trans x2).trans x3
            have x23 : Ext G H G3 H3 := x2.trans x3
            have hH3 : H3 D = some (.lst acc) := x23.hh.ob _ _ hH (fun _ z => by cases z)
            have gD3 : G3 D = none := x23.nc D _ hH gD
            cases b with
            | false =>
              simp only [Bool.false_eq_true, if_false] at hw ⊢
              exact ⟨ds.length - (i + 1), by omega, rfl, hlt, G3, acc, zs, ws, x13, hH3, gD3, rl.same x23.gg, by omega, hw, rfl⟩
            | true =>
              simp only [if_true] at hw ⊢
              refine ⟨G3, ρ1, R3.ext x3, ?_⟩
              cases h3 : noex (el ρ1) with
              | st => rw [h3] at hw; cases hw
              | ex c => exact (noex_ne h3).elim
              | ok yd =>
                rw [h3] at hw
                simp only [bd_ok] at hw
                rw [noex_eq h3]
                intro yv G4 H4 x4 ry
                have x14 : Ext G1 H1 G4 H4 := x13.trans x4
                have hH4 : H4 D = some (.lst acc) := x4.hh.ob _ _ hH3 (fun _ z => by cases z)
                have gD4 : G4 D = none := x4.nc D _ hH3 gD3
                cases h4 : lcL T own tt el ρ (ds.drop (i + 1)) with
                | st => rw [h4] at hw; cases hw
                | ex c => exact absurd h4 lcL_noex
                | ok ws2 =>
                  rw [h4] at hw
                  cases hw
                  refine ⟨acc, hH4, by rw [rl.length]; omega, ds.length - (i + 1), by omega, rfl, hlt, G4, acc ++ [yv], zs ++ [yd], ws2, ⟨x14.hh.upd hD, x14.gg, fun b u e => ?_, x14.nc⟩, upd_same, gD4, (rl.same (x23.gg.trans x4.gg)).append (.cons ry .nil), by simp; omega, rfl, by simp⟩
                  · rw [upd_ne (ne_of_none e gD4)]; exact x14.gh _ _ e
      · have e : i = ds.length := by omega
        subst e
        rw [List.drop_length] at hw
        cases hw
        refine .inl ⟨Y.stop G H x.gg x.gh, p D G H (x1.trans x) (x1.hh.free hD) gD ⟨acc, hH, ?_⟩⟩
        rw [List.append_nil]
        exact rl
theorem sf_lc {elt : Expr} {ifs : List Expr} {scope : Scope} {own : List (Str × Nat)} {T : Tg} {src : En → Oc (List D)} {tt : En → Oc Bool} {el : En → Oc D} (C : Ctx X W) (hi : SI X W tg it src) (ok : BlkOk X.N X.env.scope scope own)
    (hg : ∀ (s : Shared) (H : Hp) (C : Addr) (cl : List (Str × Addr)) (fp : List Addr), ST (X.blk s H scope (compEnvC scope cl C X.env) fp) tg T) (ht : ∀ (s : Shared) (H : Hp) (C : Addr) (cl : List (Str × Addr)) (fp : List Addr), PTs (X.blk s H scope (compEnvC scope cl C X.env) fp) ifs (tT X.K X.mg E0W tt))
    (he : ∀ (s : Shared) (H : Hp) (C : Addr) (cl : List (Str × Addr)) (fp : List Addr), SE (X.blk s H scope (compEnvC scope cl C X.env) fp) E0W elt el) (ho : ∀ i ∈ T.slots, i ∈ own.map (·.2)) (hs : ∀ x, foldedSetIterable it X.env x = pure x := by intro _; rfl) :
    SF X W (.ListComp elt [⟨tg, it, ifs, 0⟩] scope pos) (lc T (own.map (·.2)) src tt el) := PE.weak (pe_lc C.calm C.nd hi ok hg ht he hs) fun σ H Q q => tLc_in ho q
theorem tF_of_tE {σ : L2.St} {H : Hp} {Q : VK} (h : tE K mg W f σ H Q) : tF K mg W f σ H Q := by
  obtain ⟨G, ρ, R, p⟩ := h
  refine ⟨G, ρ, R, ?_⟩
  revert p
  cases f ρ with
  | st => exact id
  | ok d =>
    intro p a G' H' x ha ga ow
    obtain ⟨u, hu⟩ := ow.ex
    have gg : Same G' (upd G' a u) := fun b o e => by rw [upd_ne (ne_of_none e ga)]; exact e
    refine p (.ref a) (upd G' a u) H' ⟨x.hh, x.gg.trans gg, fun b o e => ?_, fun b o hb gb => ?_⟩ (ow.rep gg fun o q => by rw [hu] at q; cases q; exact upd_same)
    · by_cases hb : b = a
      · subst hb; rw [upd_same] at e; rw [hu]; exact e
      · rw [upd_ne hb] at e; exact x.gh _ _ e
    · rw [upd_ne (ne_of_none hb ha)]; exact x.nc b o hb gb
  | ex c => exact id
theorem ss_setLc {i : Nat} {y : Str} {py : Pos} {elt : Expr} {ifs : List Expr} {scope : Scope} {own : List (Str × Nat)} {pos2 : Pos} {T : Tg} {src : En → Oc (List D)} {tt : En → Oc Bool} {el : En → Oc D} (C : Ctx X (up U)) (hy : X.N[i]? = some y) (hyl : X.env.scope.names.lookup y = some .local)
    (hsw : swapsWith (.ListComp elt [⟨tg, it, ifs, 0⟩] scope pos) (some (.Name y py)) pos2.line X.env = pure true) (hi : SI X (up U) tg it src) (ok : BlkOk X.N X.env.scope scope own)
    (hg : ∀ (s : Shared) (H : Hp) (C : Addr) (cl : List (Str × Addr)) (fp : List Addr), ST (X.blk s H scope (compEnvC scope cl C X.env) fp) tg T) (ht : ∀ (s : Shared) (H : Hp) (C : Addr) (cl : List (Str × Addr)) (fp : List Addr), PTs (X.blk s H scope (compEnvC scope cl C X.env) fp) ifs (tT X.K X.mg E0W tt))
    (he : ∀ (s : Shared) (H : Hp) (C : Addr) (cl : List (Str × Addr)) (fp : List Addr), SE (X.blk s H scope (compEnvC scope cl C X.env) fp) E0W elt el) (ho : ∀ i ∈ T.slots, i ∈ own.map (·.2)) (hs : ∀ x, foldedSetIterable it X.env x = pure x := by intro _; rfl) :
    SS X U fre (.Assign [.Name y py] (.ListComp elt [⟨tg, it, ifs, 0⟩] scope pos) pos2) (asg i (lc T (own.map (·.2)) src tt el)) := PS.weak (ps_setLc C.calm C.nd hy hyl hsw hi ok hg ht he hs) fun D σ H ⟨G, ρ, me, G0, H0, B, p⟩ =>
  tLc_in ho (tF_of_tE (asg_post B p))
theorem ss_setLcO {i : Nat} {y : Str} {py : Pos} {elt : Expr} {ifs : List Expr} {scope : Scope} {own : List (Str × Nat)} {pos2 : Pos} {T : Tg} {src : En → Oc (List D)} {tt : En → Oc Bool} {el : En → Oc D} (C : Ctx X (up U)) (hy : X.N[i]? = some y) (hyl : X.env.scope.names.lookup y = some .local)
    (hsw : swapsWith (.ListComp elt [⟨tg, it, ifs, 0⟩] scope pos) (some (.Name y py)) pos2.line X.env = pure true) (hi : SI X (up U) tg it src) (ok : BlkOk X.N X.env.scope scope own)
    (hg : ∀ (s : Shared) (H : Hp) (C : Addr) (cl : List (Str × Addr)) (fp : List Addr), ST (X.blk s H scope (compEnvC scope cl C X.env) fp) tg T) (ht : ∀ (s : Shared) (H : Hp) (C : Addr) (cl : List (Str × Addr)) (fp : List Addr), PTs (X.blk s H scope (compEnvC scope cl C X.env) fp) ifs (tT X.K X.mg E0W tt))
    (he : ∀ (s : Shared) (H : Hp) (C : Addr) (cl : List (Str × Addr)) (fp : List Addr), SE (X.blk s H scope (compEnvC scope cl C X.env) fp) E0W elt el) (ho : ∀ i ∈ T.slots, i ∈ own.map (·.2)) (hs : ∀ x, foldedSetIterable it X.env x = pure x := by intro _; rfl) :
    SS X U fre (.Assign [.Name y py] (.ListComp elt [⟨tg, it, ifs, 0⟩] scope pos) pos2) (asgO i (lc T (own.map (·.2)) src tt el)) := PS.weak (ps_setLc C.calm C.nd hy hyl hsw hi ok hg ht he hs) fun D σ H ⟨G, ρ, me, G0, H0, B, p⟩ =>
  tLc_in ho (asgO_post B p)
def yes : En → Oc Bool := fun _ => .ok true
theorem sts_nil : PTs X [] (tT X.K X.mg W yes) := ⟨fun pins s σ H Q I h => pts_nil.run pins s σ H Q I (by obtain ⟨G, ρ, R, p⟩ := h; exact p G H (.refl R.sub))⟩
theorem sts_one (h : STT X W c t) : PTs X [c] (tT X.K X.mg W t) := pts_one h
theorem st_one {i : Nat} {x : Str} {p : Pos} (hN : X.N.Nodup) (hi : X.N[i]? = some x) (hx : Loc X.env.scope x) (hf : X.fn x = true ∨ X.env.scope.names.lookup x = some .local := by first | exact .inl rfl | exact .inr rfl | assumption) : ST X (.Name x p) (.one i) := pg_name hN hi hx hf
abbrev STs (X : Cx) (es : List Expr) (is : List Nat) : Prop := PGs X es (gNames is)
theorem sts_nil' : STs X [] [] := pgs_nil
theorem sts_cons {i : Nat} {is : List Nat} (h : ST X e (.one i)) (h2 : STs X es is) (hs : (assignEach (e :: es) X.env).map (·.2) = assign e X.env :: (assignEach es X.env).map (·.2) := by rfl) : STs X (e :: es) (i :: is) := pgs_cons h h2 hs
theorem st_tup {is : List Nat} {k : Nat} (hc : X.calm = true) (h : STs X es is) (hn : (assignEach es X.env).length = is.length := by rfl) (hst : (assignEach es X.env).findIdx? (·.1) = none := by rfl) : ST X (.Tuple es k pos) (.tup is) := pg_tup hc h hn hst
def asgT (T : Tg) (f : En → Oc D) : En → Oc Res := fun ρ => bd (f ρ) fun d => bd (bindT T d ρ) fun ρ' => .ok (.nx ρ')
theorem ss_asgT {T : Tg} (ha : SE X (up U) a f) (hg : ST X tg T) (hs : swapsWithSole [tg] a pos.line X.env = pure false := by rfl) (hw : swappedStores [tg] a X.env = pure none := by rfl) (h1 : (assignEach [tg] X.env).map (·.2) = [assign tg X.env] := by rfl) : SS X U fre (.Assign [tg] a pos) (asgT T f) := PS.weak (ps_asg ha hg hs hw h1) fun D σ H ⟨G, ρ, me, G0, H0, B, p⟩ => by
  refine tE_in B ?_
  revert p
  unfold asgT
  cases f ρ with
  | st => exact id
  | ex c => exact id
  | ok d =>
    intro p v G' H' B' r
    simp only [bd_ok] at p
    cases hb : bindT T d ρ with
    | st => rw [hb] at p; exact p.elim
    | ex c => exact absurd hb bindT_ex
    | ok ρ' =>
      rw [hb] at p
      exact gT_bs B' r hb fun σ' B2 => p σ' G' H' B2
def rse (c : Str) : En → Oc Res := fun _ => .ex c

/-! ### defs -/
def outR : Oc Res → Oc D := fun o => bd o fun r => match r with
  | .nx _ => .ok .non
  | .rt d => .ok d
  | _ => .st
def fnB (n m : Nat) (g : En → Oc Res) : List D → Oc D := fun ds => chk (decide (ds.length = m)) (outR (g (ds.map .sh ++ List.replicate (n - m) .no)))
end
theorem rel_start {G H : Hp} {N : List Str} {vs : List V} {ds : List D} (s : Same G H) (tb : Tabs K G H) (r : RepL K mg G vs ds) : Rel K mg G H (ds.map .sh ++ List.replicate (N.length - ds.length) .no) (L2.start N vs) := by
  have hl := r.length
  refine ⟨s, tb, by simp [L2.start, hl], fun i sl o h1 h2 => ?_, fun i j a d e h1 h2 h3 h4 => ?_⟩
  · by_cases hi : i < ds.length
    · rw [List.getElem?_append_left (by simpa using hi), List.getElem?_map, List.getElem?_eq_getElem hi] at h1
      cases h1
      unfold L2.start at h2
      rw [List.getElem?_append_left (by simpa [hl] using hi), List.getElem?_map] at h2
      obtain ⟨v, hv, rv⟩ := r.get (List.getElem?_eq_getElem hi)
      rw [hv] at h2
      cases h2
      exact ⟨v, rfl, rv⟩
    · rw [List.getElem?_append_right (by simpa using hi), List.getElem?_replicate] at h1
      split at h1
      · cases h1; trivial
      · cases h1
  · by_cases hi : i < ds.length
    · rw [List.getElem?_append_left (by simpa using hi), List.getElem?_map, List.getElem?_eq_getElem hi] at h1
      cases h1
    · rw [List.getElem?_append_right (by simpa using hi), List.getElem?_replicate] at h1
      split at h1 <;> cases h1
section
variable {P : Program} {w : World} {base : Heap}
theorem ctx_def {N ps : List Str} {qual : Str} {sc : Scope} {f : Addr} {cdv : Value} {A : Around} {outer : List Env} {s : Shared} {H : Hp} {E : XK} {k : Nat} (S : FnScope N ps sc) (hr : Room k (A.deeper (envOfC qual sc s.heap.objs.size f cdv))) : Ctx (cxOf (L2.CX P w) P w K mg base N qual sc f cdv A outer s H E) (up E) :=
  ⟨rfl, S.nd, takes_of rfl rfl rfl rfl, by have := hr.un; show (A.deeper (envOfC qual sc s.heap.objs.size f cdv)).units + 65 < cLine; omega⟩
theorem po_def {N : List Str} {qual : Str} {sc : Scope} {f : Addr} {cdv : Value} {A : Around} {outer : List Env} {s : Shared} {H : Hp} {E : XK} :
    PassesOwn (model (cxOf (L2.CX P w) P w K mg base N qual sc f cdv A outer s H E).prog (cxOf (L2.CX P w) P w K mg base N qual sc f cdv A outer s H E).w) (cxOf (L2.CX P w) P w K mg base N qual sc f cdv A outer s H E).A (cxOf (L2.CX P w) P w K mg base N qual sc f cdv A outer s H E).env (cxOf (L2.CX P w) P w K mg base N qual sc f cdv A outer s H E).xe := passes_of rfl
theorem Ctx.blk {X : Cx} {W : WX} (C : Ctx X W) (s : Shared) (H : Hp) (scope : Scope) (cenv : Env) (fp : List Addr) : Ctx (X.blk s H scope cenv fp) E0W := ⟨C.calm, C.nd, takes0, C.units⟩
theorem fn_ok {x qual : Str} {st : Stmt} {f : Addr} {fd : FuncData} {N ps : List Str} {k : Nat} {g : En → Oc Res} (F : Fun K x qual st f fd) (S : FnScope N ps (defScope st))
    (hb : ∀ (cdv : Value) (A : Around) (outer : List Env) (s : Shared) (H : Hp) (E : XK), Room k (A.deeper (envOfC qual (defScope st) s.heap.objs.size f cdv)) → Ctx (cxOf (L2.CX P w) P w K mg base N qual (defScope st) f cdv A outer s H E) (up E) →
      SSs (cxOf (L2.CX P w) P w K mg base N qual (defScope st) f cdv A outer s H E) E false (defBody st) g) : FnOk P w K mg base (L2.CX P w) (k + 1) f fd ps (spF K mg ps.length (fnB N.length ps.length g)) := by
  refine F.okX S (fun vs H Q E h => h.1) fun cdv A outer s H vs Q E hr h => ?_
  obtain ⟨hl, G, ds, sG, tb, r, p⟩ := h
  refine ⟨_, hb cdv A outer s H E hr (ctx_def S hr), ?_⟩
  unfold fnB at p
  obtain ⟨c, p⟩ := p.chk
  have hd := of_decide_eq_true c
  have R := rel_start (N := N) sG tb r
  rw [hd] at R
  have key : ∀ (i : Nat) (d : D), (ds.map Sl.sh ++ List.replicate (N.length - ps.length) Sl.no)[i]? ≠ some (.ow d) := fun i d h1 => by
    by_cases hi : i < ds.length
    · rw [List.getElem?_append_left (by simpa using hi), List.getElem?_map, List.getElem?_eq_getElem hi] at h1
      cases h1
    · rw [List.getElem?_append_right (by simpa using hi), List.getElem?_replicate] at h1
      split at h1 <;> cases h1
  refine ⟨G, _, 0, G, H, ⟨R, .refl sG, fun i a d h1 _ => absurd h1 (key i d), fun i c fs h1 => absurd h1 (key i _)⟩, ?_⟩
  revert p
  unfold outR
  cases g (ds.map .sh ++ List.replicate (N.length - ps.length) .no) with
  | st => exact id
  | ex c => exact id
  | ok r =>
    simp only [bd_ok]
    cases r with
    | nx ρ => exact fun p σ G' H' B => p .non G' H' B.ext .non
    | rt d => exact fun p v G' H' x r => p v G' H' x r
    | bk ρ => exact fun p => p.elim
    | ct ρ => exact fun p => p.elim
def self0 (ρ : En) : Oc D := match (ρ[0]? : Option Sl) with
  | some (.ow (.obj c fs)) => .ok (.obj c fs)
  | _ => .st
theorem self0_ok {ρ : En} {d : D} (h : self0 ρ = .ok d) : ∃ c fs, d = .obj c fs ∧ ρ[0]? = some (.ow (.obj c fs)) := by
  unfold self0 at h
  split at h
  · rename_i c fs hq
    cases h
    exact ⟨c, fs, rfl, hq⟩
  · cases h
theorem self0_ex {ρ : En} {c : Str} (h : self0 ρ = .ex c) : False := by
  unfold self0 at h
  split at h <;> cases h
def outI : Oc Res → Oc D := fun o => bd o fun r => match r with
  | .nx ρ => self0 ρ
  | _ => .st
def fnI (c : Str) (n m : Nat) (g : En → Oc Res) : List D → Oc D := fun ds => chk (decide (ds.length = m)) (outI (g (.ow (.obj c []) :: (ds.map .sh ++ List.replicate (n - m) .no))))
theorem Rel.cons_own {G H : Hp} {ρ : En} {σ : L2.St} {x : Addr} {d : D} (R : Rel K mg G H ρ σ) (gx : G x = none) (ow : OwAt K mg G H x d) (no : ∀ (i : Nat) (e : D), ρ[i]? ≠ some (.ow e)) : Rel K mg G H (.ow d :: ρ) (some (.ref x) :: σ) := by
  refine ⟨R.sub, R.tabs, by simp [R.len], fun i s o h1 h2 => ?_, fun i j a d' e' h1 h2 h3 h4 => ?_⟩
  · cases i with
    | zero => simp at h1 h2; subst h1 h2; exact ⟨x, rfl, gx, ow⟩
    | succ i => exact R.at_ i s o (by simpa using h1) (by simpa using h2)
  · cases i with
    | zero =>
      cases j with
      | zero => rfl
      | succ j => exact absurd (by simpa using h2) (no j e')
    | succ i => exact absurd (by simpa using h1) (no i d')
theorem init_ok {x qual c : Str} {st : Stmt} {f : Addr} {fd : FuncData} {N ps : List Str} {k m : Nat} {g : En → Oc Res} (F : Fun K x qual st f fd) (S : FnScope N ps (defScope st)) (hps : ps.length = m + 1)
    (hb : ∀ (cdv : Value) (A : Around) (outer : List Env) (s : Shared) (H : Hp) (E : XK), Room k (A.deeper (envOfC qual (defScope st) s.heap.objs.size f cdv)) → Ctx (cxOf (L2.CX P w) P w K mg base N qual (defScope st) f cdv A outer s H E) (up E) →
      SSs (cxOf (L2.CX P w) P w K mg base N qual (defScope st) f cdv A outer s H E) E false (defBody st) g) : FnOk P w K mg base (L2.CX P w) (k + 1) f fd ps (spI K mg c m (fnI c (N.length - 1) m g)) := by
  refine F.okX S (fun vs H Q E h => h.1.trans hps.symm) fun cdv A outer s H vs Q E hr h => ?_
  obtain ⟨hl, G, ds, x, dx, C, vs', rfl, mc, hx, hdx, ne, gx, sG, tb, r, p⟩ := h
  refine ⟨_, hb cdv A outer s H E hr (ctx_def S hr), ?_⟩
  have hN : m + 1 ≤ N.length := by
    have := congrArg List.length S.pre
    rw [List.length_take] at this
    omega
  unfold fnI at p
  cases hc : decide (ds.length = m) with
  | false => rw [hc] at p; exact p.elim
  | true =>
    rw [hc] at p
    simp only [chk_true] at p
    have hd := of_decide_eq_true hc
    have R0 := rel_start (N := N.drop 1) sG tb r
    rw [List.length_drop, hd] at R0
    have key : ∀ (i : Nat) (d : D), (ds.map Sl.sh ++ List.replicate (N.length - 1 - m) Sl.no)[i]? ≠ some (.ow d) := fun i d h1 => by
      by_cases hi : i < ds.length
      · rw [List.getElem?_append_left (by simpa using hi), List.getElem?_map, List.getElem?_eq_getElem hi] at h1
        cases h1
      · rw [List.getElem?_append_right (by simpa using hi), List.getElem?_replicate] at h1
        split at h1 <;> cases h1
    have hst : L2.start N (.ref x :: vs') = some (.ref x) :: L2.start (N.drop 1) vs' := by
      unfold L2.start
      have e1 : N.length - (vs'.length + 1) = (N.length - 1) - vs'.length := by omega
      simp [e1]
    have R : Rel K mg G H (.ow (.obj c []) :: (ds.map .sh ++ List.replicate (N.length - 1 - m) .no)) (L2.start N (.ref x :: vs')) := by
      rw [hst]
      exact R0.cons_own gx ⟨C, dx, [], mc, hx, .nil⟩ key
    refine ⟨G, _, x, G, rmv H x, ⟨R, ⟨.of fun b o e => (rmv_some e).2, .refl _, sG, fun _ _ _ g => g⟩, fun i a d h1 h2 => ?_, fun i c fs h1 => ?_⟩, ?_⟩
    · cases i with
      | zero =>
        rw [hst] at h2
        simp at h2
        subst h2
        unfold rmv
        rw [if_pos rfl]
      | succ i => exact absurd (by simpa using h1) (key i d)
    · cases i with
      | zero => rw [hst]; rfl
      | succ i => exact absurd (by simpa using h1) (key i _)
    · revert p
      unfold outI
      cases g (.ow (.obj c []) :: (ds.map .sh ++ List.replicate (N.length - 1 - m) .no)) with
      | st => exact id
      | ex c => exact fun p C' G' H' y mm => p C' G' H' y.hh y.gg y.gh (fun b o e hb g => y.nc b o (by rw [rmv_ne hb]; exact e) g) mm
      | ok r =>
        simp only [bd_ok]
        cases r with
        | nx ρ =>
          intro p σ G' H' B
          simp only at p
          cases hs : self0 ρ with
          | st => rw [hs] at p; exact p.elim
          | ex c => exact (self0_ex hs).elim
          | ok d =>
            rw [hs] at p
            obtain ⟨c2, fs, rfl, hq⟩ := self0_ok hs
            obtain ⟨o, ho, a, rfl, ga, ow⟩ := B.rel.get hq
            have e1 := B.self 0 c2 fs hq
            rw [ho] at e1
            cases e1
            exact p G' H' B.ext.hh B.ext.gg B.ext.gh (fun b o e hb g => B.ext.nc b o (by rw [rmv_ne hb]; exact e) g) ga ow
        | rt d => exact fun p => p.elim
        | bk ρ => exact fun p => p.elim
        | ct ρ => exact fun p => p.elim
end
end Fx

set_option Elab.async false
set_option linter.all false
set_option maxRecDepth 100000
set_option maxHeartbeats 4000000
/-! Fx6: tests by comparison, chains. -/
namespace Fx
open PySem PySem.Spec PyProof.Rows L2
variable {K : PySem.W.Frag} {mg : Str → Option Value}
section
variable {X : Cx} {W : WX} {U : XK} {a b c e : Expr} {f g h : En → Oc D} {pos : Pos}
variable {G H : Hp} {x y : V} {d1 d2 : D} {Q : VK}
theorem eq_of (s : Same G H) (r1 : RepQ X.K X.mg G H x d1) (r2 : RepQ X.K X.mg G H y d2) (p : PostE X.K X.mg U G H Q (eqD d1 d2)) : rEqD X.K x y H Q := by
  unfold eqD at p
  cases e1 : toPD d1 with
  | none => rw [e1] at p; exact p.elim
  | some p1 =>
    cases e2 : toPD d2 with
    | none => rw [e1, e2] at p; exact p.elim
    | some p2 =>
      rw [e1, e2] at p
      obtain ⟨c, q⟩ := p.chk
      rw [Bool.and_eq_true] at c
      exact ⟨p1, p2, r1.dp s e1, r2.dp s e2, c.1, c.2, q.here s (.bl _)⟩
theorem ne_of' (s : Same G H) (r1 : RepQ X.K X.mg G H x d1) (r2 : RepQ X.K X.mg G H y d2) (p : PostE X.K X.mg U G H Q (neD d1 d2)) : rNeD X.K x y H Q := by
  unfold neD at p
  cases e1 : toPD d1 with
  | none => rw [e1] at p; exact p.elim
  | some p1 =>
    cases e2 : toPD d2 with
    | none => rw [e1, e2] at p; exact p.elim
    | some p2 =>
      rw [e1, e2] at p
      obtain ⟨c, q⟩ := p.chk
      rw [Bool.and_eq_true] at c
      exact ⟨p1, p2, r1.dp s e1, r2.dp s e2, c.1, c.2, q.here s (.bl _)⟩
theorem in_of (s : Same G H) (r1 : RepQ X.K X.mg G H x d1) (r2 : RepQ X.K X.mg G H y d2) (p : PostE X.K X.mg U G H Q (inD d1 d2)) : rInA X false x y H Q := by
  unfold inD at p
  cases e : inB d1 d2 with
  | none => rw [e] at p; exact p.elim
  | some t => rw [e] at p; exact inA_of (neg := false) s r1 r2 e (p.here s (.bl _))
theorem nin_of (s : Same G H) (r1 : RepQ X.K X.mg G H x d1) (r2 : RepQ X.K X.mg G H y d2) (p : PostE X.K X.mg U G H Q (ninD d1 d2)) : rInA X true x y H Q := by
  unfold ninD at p
  cases e : inB d1 d2 with
  | none => rw [e] at p; exact p.elim
  | some t => rw [e] at p; exact inA_of (neg := true) s r1 r2 e (p.here s (.bl _))
theorem isN_of (s : Same G H) (r1 : RepQ X.K X.mg G H x d1) (r2 : RepQ X.K X.mg G H y d2) (p : PostE X.K X.mg U G H Q (isN d1 d2)) : y = .non ∧ Q (.bl (decide (x = .non))) H := by
  unfold isN at p
  split at p
  · refine ⟨r2.non, ?_⟩
    rw [r1.nonIff]
    exact p.here s (.bl _)
  · exact p.elim
theorem notN_of (s : Same G H) (r1 : RepQ X.K X.mg G H x d1) (r2 : RepQ X.K X.mg G H y d2) (p : PostE X.K X.mg U G H Q (notN d1 d2)) : y = .non ∧ Q (.bl (!decide (x = .non))) H := by
  unfold notN at p
  split at p
  · refine ⟨r2.non, ?_⟩
    rw [r1.nonIff]
    exact p.here s (.bl _)
  · exact p.elim
theorem st_eq (ha : SQ X W a f) (hb : SQ X W b g) (hu : X.A.units + 65 < cLine) : STT X W (.Compare a [.Eq] [b] pos) (tst (bi eqD f g)) := st_op2 (fun ha hb => pt_cmpR (op_eqD (Nat.lt_of_succ_lt hu)) ha hb (nomark _)) eq_of ha hb
theorem st_ne (ha : SQ X W a f) (hb : SQ X W b g) (hu : X.A.units + 65 < cLine) : STT X W (.Compare a [.NotEq] [b] pos) (tst (bi neD f g)) := st_op2 (fun ha hb => pt_cmpR (op_neD (Nat.lt_of_succ_lt hu)) ha hb (nomark _)) ne_of' ha hb
theorem st_in (ha : SQ X W a f) (hb : SQ X W b g) (hu : X.A.units + 65 < cLine) (hm : behindInMarks .In b = false := by rfl) : STT X W (.Compare a [.In] [b] pos) (tst (bi inD f g)) := st_op2 (fun ha hb => pt_cmpR (op_inA hu) ha hb hm) in_of ha hb
theorem st_nin (ha : SQ X W a f) (hb : SQ X W b g) (hu : X.A.units + 65 < cLine) (hm : behindInMarks .NotIn b = false := by rfl) : STT X W (.Compare a [.NotIn] [b] pos) (tst (bi ninD f g)) := st_op2 (fun ha hb => pt_cmpR (op_ninA hu) ha hb hm) nin_of ha hb
theorem st_lt (ha : SQ X W a f) (hb : SQ X W b g) : STT X W (.Compare a [.Lt] [b] pos) (tst (bi (cmpD fun i j => decide (i < j)) f g)) := st_op2 (fun ha hb => pt_cmpR op_lt ha hb (nomark _)) cmp_of ha hb
theorem st_le (ha : SQ X W a f) (hb : SQ X W b g) : STT X W (.Compare a [.LtE] [b] pos) (tst (bi (cmpD fun i j => decide (i ≤ j)) f g)) := st_op2 (fun ha hb => pt_cmpR op_le ha hb (nomark _)) cmp_of ha hb
theorem st_gt (ha : SQ X W a f) (hb : SQ X W b g) : STT X W (.Compare a [.Gt] [b] pos) (tst (bi (cmpD fun i j => decide (j < i)) f g)) := st_op2 (fun ha hb => pt_cmpR op_gt ha hb (nomark _)) cmp_of ha hb
theorem st_ge (ha : SQ X W a f) (hb : SQ X W b g) : STT X W (.Compare a [.GtE] [b] pos) (tst (bi (cmpD fun i j => decide (j ≤ i)) f g)) := st_op2 (fun ha hb => pt_cmpR op_ge ha hb (nomark _)) cmp_of ha hb
theorem st_isN (ha : SQ X W a f) (hb : SQ X W b g) : STT X W (.Compare a [.Is] [b] pos) (tst (bi isN f g)) := st_op2 (fun ha hb => pt_cmpR op_isN ha hb (nomark _)) isN_of ha hb
theorem st_notN (ha : SQ X W a f) (hb : SQ X W b g) : STT X W (.Compare a [.IsNot] [b] pos) (tst (bi notN f g)) := st_op2 (fun ha hb => pt_cmpR op_notN ha hb (nomark _)) notN_of ha hb
end
end Fx

set_option Elab.async false
set_option linter.all false
set_option maxRecDepth 100000
set_option maxHeartbeats 4000000
/-! Fx7: the mathematics of the functions: how they are evaluated. -/
namespace Fx
open PySem PySem.Spec PyProof.Rows L2

theorem sizeLine_val : sizeLine = 16777216 := by rw [sizeLine_eq]
@[simp] theorem outR_nx (ρ : En) : outR (.ok (.nx ρ)) = .ok .non := id rfl
@[simp] theorem outR_rt (d : D) : outR (.ok (.rt d)) = .ok d := id rfl
@[simp] theorem outR_ex (c : Str) : outR (.ex c) = .ex c := id rfl
@[simp] theorem lenD_str (z : Str) : lenD (.str z) = chk (decide (z.length ≤ sizeLine)) (.ok (.int z.length)) := id rfl
@[simp] theorem lenD_lst (ds : List D) : lenD (.lst ds) = .ok (.int ds.length) := id rfl
@[simp] theorem lenD_tup (ds : List D) : lenD (.tup ds) = .ok (.int ds.length) := id rfl
@[simp] theorem lenD_fz (ds : List D) : lenD (.fz ds) = .ok (.int ds.length) := id rfl
@[simp] theorem cmpD_int (p : Int → Int → Bool) (i j : Int) : cmpD p (.int i) (.int j) = .ok (.bl (p i j)) := id rfl
@[simp] theorem addD_int (i j : Int) : addD (.int i) (.int j) = .ok (.int (i + j)) := id rfl
@[simp] theorem addD_str (i j : Str) : addD (.str i) (.str j) = chk (decide (i.length + j.length ≤ sizeLine)) (.ok (.str (i ++ j))) := id rfl
@[simp] theorem addD_lst (i j : List D) : addD (.lst i) (.lst j) = chk (decide (i.length + j.length ≤ sizeLine)) (.ok (.lst (i ++ j))) := id rfl
@[simp] theorem addD_tup (i j : List D) : addD (.tup i) (.tup j) = chk (decide (i.length + j.length ≤ sizeLine)) (.ok (.tup (i ++ j))) := id rfl
@[simp] theorem subD_int (i j : Int) : subD (.int i) (.int j) = .ok (.int (i - j)) := id rfl
@[simp] theorem mulD_int (i j : Int) : mulD (.int i) (.int j) = chk (decide ((-(2 ^ 64) < i ∧ i < 2 ^ 64) ∨ (-(2 ^ 64) < j ∧ j < 2 ^ 64))) (.ok (.int (i * j))) := id rfl
@[simp] theorem mulD_lst (xs : List D) (k : Int) : mulD (.lst xs) (.int k) = chk (decide (-(2 ^ 63) ≤ k ∧ k < 2 ^ 63 ∧ xs.length * k.toNat ≤ sizeLine)) (.ok (.lst (List.replicate k.toNat xs).flatten)) := id rfl
@[simp] theorem fdivD_int (i j : Int) : fdivD (.int i) (.int j) = chk (decide (0 < j ∧ j < 1073741824)) (.ok (.int (i / j))) := id rfl
@[simp] theorem modD_int (i j : Int) : modD (.int i) (.int j) = chk (decide (0 < j)) (.ok (.int (i % j))) := id rfl
@[simp] theorem powD_int (i j : Int) : powD (.int i) (.int j) = chk (decide (0 ≤ j ∧ j ≤ 1000000 ∧ i.natAbs < 2 ^ 64)) (.ok (.int (i ^ j.toNat))) := id rfl
@[simp] theorem intD_int (i : Int) : intD (.int i) = .ok (.int i) := id rfl
@[simp] theorem intD_bl (b : Bool) : intD (.bl b) = .ok (.int (if b then 1 else 0)) := id rfl
@[simp] theorem negD_int (i : Int) : negD (.int i) = .ok (.int (-i)) := id rfl
@[simp] theorem items_lst (ds : List D) : items (.lst ds) = some ds := id rfl
@[simp] theorem items_tup (ds : List D) : items (.tup ds) = some ds := id rfl
@[simp] theorem items_fz (ds : List D) : items (.fz ds) = some ds := id rfl
@[simp] theorem listD_lst (ds : List D) : listD (.lst ds) = .ok (.lst ds) := id rfl
@[simp] theorem listD_tup (ds : List D) : listD (.tup ds) = .ok (.lst ds) := id rfl
@[simp] theorem listD_fz (ds : List D) : listD (.fz ds) = .ok (.lst ds) := id rfl
@[simp] theorem tupleD_lst (ds : List D) : tupleD (.lst ds) = .ok (.tup ds) := id rfl
@[simp] theorem tupleD_tup (ds : List D) : tupleD (.tup ds) = .ok (.tup ds) := id rfl
@[simp] theorem revD_lst (ds : List D) : revD (.lst ds) = .ok (.lst ds.reverse) := id rfl
def ixL (ds : List D) (i : Int) : Oc D := match atI ds i with
  | some x => .ok x
  | none => .st
@[simp] theorem ixD_lst (ds : List D) (i : Int) : ixD (.lst ds) (.int i) = ixL ds i := id rfl
@[simp] theorem ixD_tup (ds : List D) (i : Int) : ixD (.tup ds) (.int i) = ixL ds i := id rfl
@[simp] theorem ixD_fz (ds : List D) (i : Int) : ixD (.fz ds) (.int i) = ixL ds i := id rfl
theorem ixL_nat {ds : List D} {i : Nat} {d : D} (h : ds[i]? = some d) : ixL ds (i : Int) = .ok d := by
  unfold ixL
  rw [atI_nat h]
theorem ixL_int {ds : List D} {i : Int} {d : D} (h0 : 0 ≤ i) (h : ds[i.toNat]? = some d) : ixL ds i = .ok d := by
  have e : i = (i.toNat : Int) := by omega
  rw [e]
  exact ixL_nat h
theorem forL_nil (T : Tg) (b : En → Oc Res) (ρ : En) : forL T b [] ρ = .ok (.nx ρ) := rfl
theorem forL_cons (T : Tg) (b : En → Oc Res) (d : D) (ds : List D) (ρ : En) : forL T b (d :: ds) ρ = bd (bindT T d ρ) fun ρ1 => bd (b ρ1) fun r => match r with
    | .nx ρ2 => forL T b ds ρ2
    | .ct ρ2 => forL T b ds ρ2
    | .bk ρ2 => .ok (.nx ρ2)
    | .rt d => .ok (.rt d) := rfl
@[simp] theorem bindT_one (i : Nat) (d : D) (ρ : En) : bindT (.one i) d ρ = .ok (ρ.set i (.sh d)) := id rfl

/-! ### evaluation, one construct at a time -/
def contS : Oc Res → (En → Oc Res) → Oc Res
  | .ok (.nx ρ), h => h ρ
  | o, _ => o
@[simp] theorem contS_nx (ρ : En) (h : En → Oc Res) : contS (.ok (.nx ρ)) h = h ρ := id rfl
@[simp] theorem contS_rt (d : D) (h : En → Oc Res) : contS (.ok (.rt d)) h = .ok (.rt d) := id rfl
@[simp] theorem contS_bk (d : En) (h : En → Oc Res) : contS (.ok (.bk d)) h = .ok (.bk d) := id rfl
@[simp] theorem contS_ct (d : En) (h : En → Oc Res) : contS (.ok (.ct d)) h = .ok (.ct d) := id rfl
@[simp] theorem contS_ex (d : Str) (h : En → Oc Res) : contS (.ex d) h = .ex d := id rfl
@[simp] theorem sq_ap (g h : En → Oc Res) (ρ : En) : sq g h ρ = contS (g ρ) h := by
  unfold sq contS
  cases g ρ with
  | st => rfl
  | ex c => rfl
  | ok r => cases r <;> rfl
def vrR : Option Sl → Oc D
  | some (.sh d) => .ok d
  | _ => .st
def voR : Option Sl → Oc D
  | some (.sh d) => .ok d
  | some (.ow d) => .ok d
  | _ => .st
@[simp] theorem vr_ap (i : Nat) (ρ : En) : vr i ρ = vrR ρ[i]? := by
  unfold vr vrR
  split <;> first | rfl | (split <;> simp_all)
@[simp] theorem vo_ap (i : Nat) (ρ : En) : vo i ρ = voR ρ[i]? := by
  unfold vo voR
  split <;> first | rfl | (split <;> simp_all)
@[simp] theorem vrR_sh (d : D) : vrR (some (.sh d)) = .ok d := id rfl
@[simp] theorem voR_sh (d : D) : voR (some (.sh d)) = .ok d := id rfl
@[simp] theorem voR_ow (d : D) : voR (some (.ow d)) = .ok d := id rfl
@[simp] theorem cst_ap (d : D) (ρ : En) : cst d ρ = .ok d := id rfl
@[simp] theorem bi_ap (F : D → D → Oc D) (f g : En → Oc D) (ρ : En) : bi F f g ρ = bd (f ρ) fun x => bd (g ρ) fun y => F x y := id rfl
@[simp] theorem un_ap (F : D → Oc D) (f : En → Oc D) (ρ : En) : un F f ρ = bd (f ρ) F := id rfl
def asgR (i : Nat) (ρ : En) : Oc D → Oc Res
  | .ok d => .ok (.nx (ρ.set i (.sh d)))
  | .st => .st
  | .ex c => .ex c
@[simp] theorem asg_ap (i : Nat) (f : En → Oc D) (ρ : En) : asg i f ρ = asgR i ρ (f ρ) := by unfold asg asgR; cases f ρ <;> rfl
@[simp] theorem asgR_ok (i : Nat) (ρ : En) (d : D) : asgR i ρ (.ok d) = .ok (.nx (ρ.set i (.sh d))) := id rfl
def asgOR (i : Nat) (ρ : En) : Oc D → Oc Res
  | .ok (.lst ds) => .ok (.nx (ρ.set i (.ow (.lst ds))))
  | .ex c => .ex c
  | _ => .st
@[simp] theorem asgO_ap (i : Nat) (f : En → Oc D) (ρ : En) : asgO i f ρ = asgOR i ρ (f ρ) := by
  unfold asgO asgOR
  cases f ρ with
  | st => rfl
  | ex c => rfl
  | ok d => cases d <;> rfl
@[simp] theorem asgOR_ok (i : Nat) (ρ : En) (ds : List D) : asgOR i ρ (.ok (.lst ds)) = .ok (.nx (ρ.set i (.ow (.lst ds)))) := id rfl
def retR : Oc D → Oc Res
  | .ok d => .ok (.rt d)
  | .st => .st
  | .ex c => .ex c
@[simp] theorem ret_ap (f : En → Oc D) (ρ : En) : Fx.ret f ρ = retR (f ρ) := by unfold Fx.ret retR; cases f ρ <;> rfl
@[simp] theorem retR_ok (d : D) : retR (.ok d) = .ok (.rt d) := id rfl
@[simp] theorem retR_ex (d : Str) : retR (.ex d) = .ex d := id rfl
def exsR (ρ : En) : Oc D → Oc Res
  | .ok d => .ok (.nx ρ)
  | .st => .st
  | .ex c => .ex c
@[simp] theorem exs_ap (f : En → Oc D) (ρ : En) : exs f ρ = exsR ρ (f ρ) := by unfold exs exsR; cases f ρ <;> rfl
@[simp] theorem exsR_ok (ρ : En) (d : D) : exsR ρ (.ok d) = .ok (.nx ρ) := id rfl
@[simp] theorem exsR_ex (ρ : En) (d : Str) : exsR ρ (.ex d) = .ex d := id rfl
@[simp] theorem sNx_ap (ρ : En) : sNx ρ = .ok (.nx ρ) := id rfl
@[simp] theorem sBk_ap (ρ : En) : sBk ρ = .ok (.bk ρ) := id rfl
@[simp] theorem sCt_ap (ρ : En) : sCt ρ = .ok (.ct ρ) := id rfl
@[simp] theorem retN_ap (ρ : En) : retN ρ = .ok (.rt .non) := id rfl
def iffR : Oc Bool → (En → Oc Res) → (En → Oc Res) → En → Oc Res
  | .ok true, g, _, ρ => g ρ
  | .ok false, _, h, ρ => h ρ
  | .st, _, _, _ => .st
  | .ex c, _, _, _ => .ex c
@[simp] theorem iff_ap (t : En → Oc Bool) (g h : En → Oc Res) (ρ : En) : iff t g h ρ = iffR (t ρ) g h ρ := by
  unfold iff iffR
  cases t ρ with
  | st => rfl
  | ex c => rfl
  | ok b => cases b <;> rfl
@[simp] theorem iffR_true (g h : En → Oc Res) (ρ : En) : iffR (.ok true) g h ρ = g ρ := id rfl
@[simp] theorem iffR_false (g h : En → Oc Res) (ρ : En) : iffR (.ok false) g h ρ = h ρ := id rfl
def tstR : Oc D → Oc Bool
  | .ok (.bl b) => .ok b
  | .ex c => .ex c
  | _ => .st
@[simp] theorem tst_ap (f : En → Oc D) (ρ : En) : tst f ρ = tstR (f ρ) := by
  unfold tst tstR
  cases f ρ with
  | st => rfl
  | ex c => rfl
  | ok d => cases d <;> rfl
@[simp] theorem tstR_bl (b : Bool) : tstR (.ok (.bl b)) = .ok b := id rfl
def anR : Oc Bool → (En → Oc Bool) → En → Oc Bool
  | .ok true, u, ρ => u ρ
  | .ok false, _, _ => .ok false
  | .st, _, _ => .st
  | .ex c, _, _ => .ex c
def orR : Oc Bool → (En → Oc Bool) → En → Oc Bool
  | .ok true, _, _ => .ok true
  | .ok false, u, ρ => u ρ
  | .st, _, _ => .st
  | .ex c, _, _ => .ex c
@[simp] theorem an_ap (t u : En → Oc Bool) (ρ : En) : an t u ρ = anR (t ρ) u ρ := by
  unfold an anR
  cases t ρ with
  | st => rfl
  | ex c => rfl
  | ok b => cases b <;> rfl
@[simp] theorem orr_ap (t u : En → Oc Bool) (ρ : En) : orr t u ρ = orR (t ρ) u ρ := by
  unfold orr orR
  cases t ρ with
  | st => rfl
  | ex c => rfl
  | ok b => cases b <;> rfl
@[simp] theorem anR_true (u : En → Oc Bool) (ρ : En) : anR (.ok true) u ρ = u ρ := id rfl
@[simp] theorem anR_false (u : En → Oc Bool) (ρ : En) : anR (.ok false) u ρ = .ok false := id rfl
@[simp] theorem orR_true (u : En → Oc Bool) (ρ : En) : orR (.ok true) u ρ = .ok true := id rfl
@[simp] theorem orR_false (u : En → Oc Bool) (ρ : En) : orR (.ok false) u ρ = u ρ := id rfl
theorem anR_both {b c : Bool} {u : En → Oc Bool} {ρ : En} (h : u ρ = .ok c) : anR (.ok b) u ρ = .ok (b && c) := by cases b <;> simp [h]
theorem orR_both {b c : Bool} {u : En → Oc Bool} {ρ : En} (h : u ρ = .ok c) : orR (.ok b) u ρ = .ok (b || c) := by cases b <;> simp [h]
@[simp] theorem nt_ap (t : En → Oc Bool) (ρ : En) : nt t ρ = bd (t ρ) fun b => .ok (!b) := id rfl
def anVR : Oc D → (En → Oc D) → En → Oc D
  | .ok (.bl true), u, ρ => u ρ
  | .ok (.bl false), _, _ => .ok (.bl false)
  | .ex c, _, _ => .ex c
  | _, _, _ => .st
def orVR : Oc D → (En → Oc D) → En → Oc D
  | .ok (.bl true), _, _ => .ok (.bl true)
  | .ok (.bl false), u, ρ => u ρ
  | .ex c, _, _ => .ex c
  | _, _, _ => .st
@[simp] theorem anV_ap (f g : En → Oc D) (ρ : En) : anV f g ρ = anVR (f ρ) g ρ := by
  unfold anV anVR
  cases f ρ with
  | st => rfl
  | ex c => rfl
  | ok d => cases d with
    | bl b => cases b <;> rfl
    | _ => rfl
@[simp] theorem orV_ap (f g : En → Oc D) (ρ : En) : orV f g ρ = orVR (f ρ) g ρ := by
  unfold orV orVR
  cases f ρ with
  | st => rfl
  | ex c => rfl
  | ok d => cases d with
    | bl b => cases b <;> rfl
    | _ => rfl
@[simp] theorem anVR_true (u : En → Oc D) (ρ : En) : anVR (.ok (.bl true)) u ρ = u ρ := id rfl
@[simp] theorem anVR_false (u : En → Oc D) (ρ : En) : anVR (.ok (.bl false)) u ρ = .ok (.bl false) := id rfl
@[simp] theorem orVR_true (u : En → Oc D) (ρ : En) : orVR (.ok (.bl true)) u ρ = .ok (.bl true) := id rfl
@[simp] theorem orVR_false (u : En → Oc D) (ρ : En) : orVR (.ok (.bl false)) u ρ = u ρ := id rfl
theorem anVR_both {b c : Bool} {u : En → Oc D} {ρ : En} (h : u ρ = .ok (.bl c)) : anVR (.ok (.bl b)) u ρ = .ok (.bl (b && c)) := by cases b <;> simp [h]
theorem orVR_both {b c : Bool} {u : En → Oc D} {ρ : En} (h : u ρ = .ok (.bl c)) : orVR (.ok (.bl b)) u ρ = .ok (.bl (b || c)) := by cases b <;> simp [h]
def ntVR : Oc D → Oc D
  | .ok (.bl b) => .ok (.bl (!b))
  | .ex c => .ex c
  | _ => .st
@[simp] theorem ntV_ap (f : En → Oc D) (ρ : En) : ntV f ρ = ntVR (f ρ) := by
  unfold ntV ntVR
  cases f ρ with
  | st => rfl
  | ex c => rfl
  | ok d => cases d <;> rfl
@[simp] theorem ntVR_bl (b : Bool) : ntVR (.ok (.bl b)) = .ok (.bl (!b)) := id rfl
def ifXR : Oc Bool → (En → Oc D) → (En → Oc D) → En → Oc D
  | .ok true, g, _, ρ => g ρ
  | .ok false, _, h, ρ => h ρ
  | .st, _, _, _ => .st
  | .ex c, _, _, _ => .ex c
@[simp] theorem ifX_ap (t : En → Oc Bool) (g h : En → Oc D) (ρ : En) : ifX t g h ρ = ifXR (t ρ) g h ρ := by
  unfold ifX ifXR
  cases t ρ with
  | st => rfl
  | ex c => rfl
  | ok b => cases b <;> rfl
@[simp] theorem ifXR_true (g h : En → Oc D) (ρ : En) : ifXR (.ok true) g h ρ = g ρ := id rfl
@[simp] theorem ifXR_false (g h : En → Oc D) (ρ : En) : ifXR (.ok false) g h ρ = h ρ := id rfl
@[simp] theorem aN_ap (ρ : En) : aN ρ = .ok [] := id rfl
@[simp] theorem aC_ap (f : En → Oc D) (fs : En → Oc (List D)) (ρ : En) : aC f fs ρ = bd (f ρ) fun d => bd (fs ρ) fun ds => .ok (d :: ds) := id rfl
@[simp] theorem tpl_ap (fs : En → Oc (List D)) (ρ : En) : tpl fs ρ = bd (fs ρ) fun ds => chk (decide (ds.length ≤ sizeLine)) (.ok (.tup ds)) := id rfl
@[simp] theorem lsd_ap (fs : En → Oc (List D)) (ρ : En) : lsd fs ρ = bd (fs ρ) fun ds => chk (decide (ds.length ≤ sizeLine)) (.ok (.lst ds)) := id rfl
@[simp] theorem cal_ap (F : List D → Oc D) (n : Nat) (dds : List D) (fs : En → Oc (List D)) (ρ : En) : cal F n dds fs ρ = bd (fs ρ) fun ds => chk (decide (ds.length = n)) (F (ds ++ dds)) := id rfl
@[simp] theorem itm_ap (f : En → Oc D) (ρ : En) : itm f ρ = bd (f ρ) fun d => match items d with | some ds => .ok ds | none => .st := id rfl
def rngB (j : Int) : Bool := decide (-(2 ^ 62) ≤ j ∧ j < 2 ^ 62)
theorem rngB_ok {j : Int} (h0 : 0 ≤ j) (h : j ≤ 1000000) : rngB j = true := decide_eq_true (by omega)
def rng1R : List D → Oc (List D)
  | [.int j] => chk (rngB j) (.ok (rngL 0 j.toNat))
  | _ => .st
@[simp] theorem rng1_ap (fs : En → Oc (List D)) (ρ : En) : rng1 fs ρ = bd (fs ρ) rng1R := by
  unfold rng1
  congr 1
@[simp] theorem rng1R_int (j : Int) : rng1R [.int j] = chk (rngB j) (.ok (rngL 0 j.toNat)) := id rfl
theorem rng1R_nat {n : Nat} (h : n ≤ 1000000) : rng1R [.int n] = .ok (rngL 0 n) := by
  rw [rng1R_int, rngB_ok (by omega) (by omega)]; rfl
def frR (T : Tg) (b : En → Oc Res) (ρ : En) : Oc (List D) → Oc Res
  | .ok ds => forL T b ds ρ
  | .st => .st
  | .ex c => .ex c
@[simp] theorem fr_ap (T : Tg) (src : En → Oc (List D)) (b : En → Oc Res) (ρ : En) : fr T src b ρ = frR T b ρ (src ρ) := by unfold fr frR; cases src ρ <;> rfl
@[simp] theorem frR_ok (T : Tg) (b : En → Oc Res) (ρ : En) (ds : List D) : frR T b ρ (.ok ds) = forL T b ds ρ := id rfl
def goOn (T : Tg) (b : En → Oc Res) (ds : List D) : Oc Res → Oc Res
  | .ok (.nx ρ) => forL T b ds ρ
  | .ok (.ct ρ) => forL T b ds ρ
  | .ok (.bk ρ) => .ok (.nx ρ)
  | .ok (.rt d) => .ok (.rt d)
  | .st => .st
  | .ex c => .ex c
theorem forL_step {T : Tg} {b : En → Oc Res} {d : D} {ds : List D} {ρ ρ1 : En} (h : bindT T d ρ = .ok ρ1) : forL T b (d :: ds) ρ = goOn T b ds (b ρ1) := by
  rw [forL_cons, h]
  simp only [bd_ok]
  unfold goOn
  cases b ρ1 with
  | st => rfl
  | ex c => rfl
  | ok r => cases r <;> rfl
@[simp] theorem goOn_nx (T : Tg) (b : En → Oc Res) (ds : List D) (ρ : En) : goOn T b ds (.ok (.nx ρ)) = forL T b ds ρ := id rfl
@[simp] theorem goOn_ct (T : Tg) (b : En → Oc Res) (ds : List D) (ρ : En) : goOn T b ds (.ok (.ct ρ)) = forL T b ds ρ := id rfl
@[simp] theorem goOn_bk (T : Tg) (b : En → Oc Res) (ds : List D) (ρ : En) : goOn T b ds (.ok (.bk ρ)) = .ok (.nx ρ) := id rfl
@[simp] theorem goOn_rt (T : Tg) (b : En → Oc Res) (ds : List D) (d : D) : goOn T b ds (.ok (.rt d)) = .ok (.rt d) := id rfl
theorem forL_inv {T : Tg} {b : En → Oc Res} (I : List D → En → Prop) : ∀ {ds : List D} {ρ : En}, I ds ρ →
    (∀ d ds ρ, I (d :: ds) ρ → ∃ ρ1 ρ2, bindT T d ρ = .ok ρ1 ∧ (b ρ1 = .ok (.nx ρ2) ∨ b ρ1 = .ok (.ct ρ2)) ∧ I ds ρ2) → ∃ ρ2, forL T b ds ρ = .ok (.nx ρ2) ∧ I [] ρ2
  | [], ρ, h, _ => ⟨ρ, rfl, h⟩
  | d :: ds, ρ, h, st => by
    obtain ⟨ρ1, ρ2, h1, h2, h3⟩ := st d ds ρ h
    rw [forL_step h1]
    rcases h2 with h2 | h2 <;> rw [h2] <;> simp only [goOn_nx, goOn_ct] <;> exact forL_inv I h3 st
def appR (i : Nat) (ρ : En) : Option Sl → Oc D → Oc Res
  | some (.ow (.lst ds)), .ok d => chk (decide (ds.length < sizeLine)) (.ok (.nx (ρ.set i (.ow (.lst (ds ++ [d]))))))
  | some (.ow (.lst _)), .ex c => .ex c
  | _, _ => .st
@[simp] theorem app_ap (i : Nat) (f : En → Oc D) (ρ : En) : app i f ρ = appR i ρ ρ[i]? (f ρ) := by
  unfold app
  cases h : ρ[i]? with
  | none => rfl
  | some s =>
    cases s with
    | no => rfl
    | sh d => rfl
    | ow d =>
      cases d with
      | lst ds => cases f ρ <;> rfl
      | _ => rfl
theorem appR_ok {i : Nat} {ρ : En} {ds : List D} {d : D} (h : ds.length ≤ 1000000) : appR i ρ (some (.ow (.lst ds))) (.ok d) = .ok (.nx (ρ.set i (.ow (.lst (ds ++ [d]))))) := by
  show chk (decide (ds.length < sizeLine)) (Oc.ok (Res.nx (ρ.set i (.ow (.lst (ds ++ [d])))))) = _
  rw [decide_eq_true (by rw [sizeLine_val]; omega)]
  rfl
@[simp] theorem frz_ap (i : Nat) (g : En → Oc Res) (ρ : En) : frz i g ρ = g (freeze i ρ) := id rfl
def freezeR (i : Nat) (ρ : En) : Option Sl → En
  | some (.ow d) => ρ.set i (.sh d)
  | _ => ρ
@[simp] theorem freeze_ap (i : Nat) (ρ : En) : freeze i ρ = freezeR i ρ ρ[i]? := by
  unfold freeze freezeR
  split <;> first | rfl | (split <;> simp_all)
@[simp] theorem freezeR_ow (i : Nat) (ρ : En) (d : D) : freezeR i ρ (some (.ow d)) = ρ.set i (.sh d) := id rfl
@[simp] theorem freezeR_sh (i : Nat) (ρ : En) (d : D) : freezeR i ρ (some (.sh d)) = ρ := id rfl
def augR2 (i : Nat) (ρ : En) : Oc D → Oc D → Oc Res
  | .ok (.int m), .ok (.int n) => .ok (.nx (ρ.set i (.sh (.int (m + n)))))
  | .ok _, .ex c => .ex c
  | .ex c, _ => .ex c
  | _, _ => .st
theorem augA_ok {i : Nat} {f : En → Oc D} {ρ : En} {m n : Int} (h1 : vr i ρ = .ok (.int m)) (h2 : f ρ = .ok (.int n)) : augA i f ρ = .ok (.nx (ρ.set i (.sh (.int (m + n))))) := by
  unfold augA
  rw [h1, h2]
  rfl
theorem augS_ok {i : Nat} {f : En → Oc D} {ρ : En} {m n : Int} (h1 : vr i ρ = .ok (.int m)) (h2 : f ρ = .ok (.int n)) : augS i f ρ = .ok (.nx (ρ.set i (.sh (.int (m - n))))) := by
  unfold augS
  rw [h1, h2]
  rfl
@[simp] theorem fnB_ap (n m : Nat) (g : En → Oc Res) (ds : List D) : fnB n m g ds = chk (decide (ds.length = m)) (outR (g (ds.map .sh ++ List.replicate (n - m) .no))) := id rfl
theorem fnB_ok {n m : Nat} {g : En → Oc Res} {ds : List D} (h : ds.length = m) : fnB n m g ds = outR (g (ds.map .sh ++ List.replicate (n - m) .no)) := by
  unfold fnB
  rw [decide_eq_true h]
  rfl
@[simp] theorem slc_ap (f : En → Oc D) (lo hi : Option (En → Oc D)) (ρ : En) : slc f lo hi ρ = bd (f ρ) fun d => bd (oP lo ρ) fun l => bd (oP hi ρ) fun h => slD d l h := id rfl
def oPR : Oc D → Oc (Option Int)
  | .ok (.int i) => .ok (some i)
  | .ex c => .ex c
  | _ => .st
@[simp] theorem oP_none (ρ : En) : oP none ρ = .ok none := id rfl
@[simp] theorem oP_some (f : En → Oc D) (ρ : En) : oP (some f) ρ = oPR (f ρ) := by
  unfold oP oPR
  simp only
  cases f ρ with
  | st => rfl
  | ex c => rfl
  | ok d => cases d <;> rfl
@[simp] theorem oPR_int (i : Int) : oPR (.ok (.int i)) = .ok (some i) := id rfl
@[simp] theorem slD_str (z : Str) (lo hi : Option Int) : slD (.str z) lo hi = chk (decide (z.length ≤ sizeLine)) (.ok (.str (cutS z lo hi))) := id rfl
@[simp] theorem slD_lst (ds : List D) (lo hi : Option Int) : slD (.lst ds) lo hi = .ok (.lst (cutD ds lo hi)) := id rfl
@[simp] theorem slD_fz (ds : List D) (lo hi : Option Int) : slD (.fz ds) lo hi = .ok (.lst (cutD ds lo hi)) := id rfl
@[simp] theorem slD_tup (ds : List D) (lo hi : Option Int) : slD (.tup ds) lo hi = .ok (.tup (cutD ds lo hi)) := id rfl
@[simp] theorem mtD_ap (tyB : D → Bool) (F : D → List D → Oc D) (f : En → Oc D) (fs : En → Oc (List D)) (ρ : En) : mtD tyB F f fs ρ = bd (f ρ) fun d => chk (tyB d) (bd (fs ρ) fun ds => F d ds) := id rfl
@[simp] theorem isLst_lst (ds : List D) : isLst (.lst ds) = true := id rfl
@[simp] theorem indexM_one (d e : D) : indexM d [e] = indexD d e := id rfl
@[simp] theorem lc_ap (T : Tg) (own : List Nat) (src : En → Oc (List D)) (tt : En → Oc Bool) (el : En → Oc D) (ρ : En) : lc T own src tt el ρ = bd (src ρ) fun ds => chk (decide (ds.length ≤ sizeLine)) (bd (lcL T own tt el ρ ds) fun ys => .ok (.lst ys)) := id rfl
theorem lcL_map {T : Tg} {own : List Nat} {el : En → Oc D} {ρ : En} {α : Type} {f h : α → D} : ∀ {xs : List α}, (∀ x ∈ xs, ∃ ρ1, bindT T (f x) (wipeE ρ own) = .ok ρ1 ∧ el ρ1 = .ok (h x)) → lcL T own yes el ρ (xs.map f) = .ok (xs.map h)
  | [], _ => rfl
  | x :: xs, k => by
    obtain ⟨ρ1, h1, h2⟩ := k x List.mem_cons_self
    have ih := lcL_map (xs := xs) fun y hy => k y (List.mem_cons_of_mem _ hy)
    rw [List.map_cons, List.map_cons]
    unfold lcL
    rw [h1]
    simp only [noex_ok, bd_ok, yes]
    simp only [if_true, h2, noex_ok, bd_ok, ih]
theorem lcL_filter {T : Tg} {own : List Nat} {tt : En → Oc Bool} {el : En → Oc D} {ρ : En} {α : Type} {f h : α → D} {p : α → Bool} : ∀ {xs : List α}, (∀ x ∈ xs, ∃ ρ1, bindT T (f x) (wipeE ρ own) = .ok ρ1 ∧ tt ρ1 = .ok (p x) ∧ (p x = true → el ρ1 = .ok (h x))) → lcL T own tt el ρ (xs.map f) = .ok ((xs.filter p).map h)
  | [], _ => rfl
  | x :: xs, k => by
    obtain ⟨ρ1, h1, h2, h3⟩ := k x List.mem_cons_self
    have ih := lcL_filter (xs := xs) fun y hy => k y (List.mem_cons_of_mem _ hy)
    rw [List.map_cons]
    unfold lcL
    rw [h1]
    simp only [noex_ok, bd_ok, h2]
    cases hp : p x with
    | true =>
      rw [List.filter_cons_of_pos hp, List.map_cons]
      simp only [if_true, h3 hp, noex_ok, bd_ok, ih]
    | false =>
      rw [List.filter_cons_of_neg (by rw [hp]; decide)]
      simp only [Bool.false_eq_true, if_false, ih]
@[simp] theorem isiD_bl_bool (b : Bool) : isiD "bool" (.bl b) = .ok (.bl true) := by unfold isiD; simp only [tyName]; rfl
end Fx

set_option Elab.async false
set_option linter.all false
set_option maxRecDepth 100000
set_option maxHeartbeats 4000000
/-! Fx8: plain data compared. -/
namespace Fx
open PySem PySem.Spec PyProof.Rows L2
open PySem.PyData (strOk)
structure Pn (n : Nat) (d : D) (p : PyData) : Prop where
  pd : toPD d = some p
  lay : p.canLay0 = true
  dep : p.depth ≤ n
structure PnL (n : Nat) (ds : List D) (ps : List PyData) : Prop where
  pd : toPDs ds = some ps
  lay : PyData.canLayAll0 ps = true
  dep : PyData.depthAll ps ≤ n
theorem Pn.int (n : Nat) (i : Int) : Pn n (.int i) (.int i) := ⟨rfl, by simp [PyData.canLay0], by simp [PyData.depth]⟩
theorem Pn.bl (n : Nat) (i : Bool) : Pn n (.bl i) (.bool i) := ⟨rfl, by simp [PyData.canLay0], by simp [PyData.depth]⟩
theorem Pn.non (n : Nat) : Pn n .non .none := ⟨rfl, by simp [PyData.canLay0], by simp [PyData.depth]⟩
theorem Pn.str (n : Nat) {x : Str} (h : strOk x = true) : Pn n (.str x) (.str x) := ⟨rfl, by simp [PyData.canLay0, h], by simp [PyData.depth]⟩
theorem PnL.lst {n : Nat} {ds : List D} {ps : List PyData} (h : PnL n ds ps) : Pn (n + 1) (.lst ds) (.list ps) := ⟨by simp [toPD, h.pd], by simp [PyData.canLay0, h.lay], by have := h.dep; simp only [PyData.depth]; omega⟩
theorem PnL.tup {n : Nat} {ds : List D} {ps : List PyData} (h : PnL n ds ps) : Pn (n + 1) (.tup ds) (.tuple ps) := ⟨by simp [toPD, h.pd], by simp [PyData.canLay0, h.lay], by have := h.dep; simp only [PyData.depth]; omega⟩
theorem PnL.nil (n : Nat) : PnL n [] [] := ⟨rfl, by simp [PyData.canLayAll0], by simp [PyData.depthAll]⟩
theorem PnL.cons {n : Nat} {d : D} {p : PyData} {ds : List D} {ps : List PyData} (h : Pn n d p) (t : PnL n ds ps) : PnL n (d :: ds) (p :: ps) := ⟨by simp [toPDs, h.pd, t.pd], by simp [PyData.canLayAll0, h.lay, t.lay], by have := h.dep; have := t.dep; simp only [PyData.depthAll]; omega⟩
theorem PnL.map {α : Type} {n : Nat} {f : α → D} {g : α → PyData} : ∀ {xs : List α}, (∀ x ∈ xs, Pn n (f x) (g x)) → PnL n (xs.map f) (xs.map g)
  | [], _ => .nil n
  | x :: xs, h => .cons (h x List.mem_cons_self) (PnL.map fun y hy => h y (List.mem_cons_of_mem _ hy))
theorem Pn.shaped {n : Nat} {d : D} {p : PyData} (h : Pn n d p) (hn : n ≤ 64) : SeqAt.shaped p = true := by
  show (p.canLay0 && decide (p.depth ≤ 64)) = true
  rw [h.lay, decide_eq_true (Nat.le_trans h.dep hn)]
  rfl
theorem eqD_val {n m : Nat} {d e : D} {p q : PyData} (h : Pn n d p) (k : Pn m e q) (hn : n ≤ 64 := by decide) (hm : m ≤ 64 := by decide) : eqD d e = .ok (.bl (PyData.eqv p q)) := by
  unfold eqD
  rw [h.pd, k.pd]
  simp only [h.shaped hn, k.shaped hm, Bool.and_self, chk_true]
theorem neD_val {n m : Nat} {d e : D} {p q : PyData} (h : Pn n d p) (k : Pn m e q) (hn : n ≤ 64 := by decide) (hm : m ≤ 64 := by decide) : neD d e = .ok (.bl (!PyData.eqv p q)) := by
  unfold neD
  rw [h.pd, k.pd]
  simp only [h.shaped hn, k.shaped hm, Bool.and_self, chk_true]
theorem eqD_refl {n : Nat} {d : D} {p : PyData} (h : Pn n d p) (hn : n ≤ 64 := by decide) : eqD d d = .ok (.bl true) := by
  rw [eqD_val h h hn hn, SeqAt.eqv_refl p h.lay]
theorem neD_refl {n : Nat} {d : D} {p : PyData} (h : Pn n d p) (hn : n ≤ 64 := by decide) : neD d d = .ok (.bl false) := by
  rw [neD_val h h hn hn, SeqAt.eqv_refl p h.lay]
  rfl
theorem inB_lst {n m : Nat} {d : D} {p : PyData} {ds : List D} {ps : List PyData} (h : Pn n d p) (k : PnL m ds ps) (hn : n ≤ 64 := by decide) (hm : m ≤ 63 := by decide) : inB d (.lst ds) = some (ps.any fun z => PyData.eqv z p) := by
  have e1 : inB d (.lst ds) = (match toPD d, toPD (.lst ds) with
    | some p, some (.list ps) => if SeqAt.shaped p && SeqAt.shaped (.list ps) then some (ps.any fun z => PyData.eqv z p) else none
    | some p, some (.tuple ps) => if SeqAt.shaped p && SeqAt.shaped (.tuple ps) then some (ps.any fun z => PyData.eqv z p) else none
    | _, _ => none) := by
    unfold inB
    cases d <;> rfl
  rw [e1, h.pd, k.lst.pd]
  simp only [h.shaped hn, k.lst.shaped (Nat.succ_le_succ hm), Bool.and_self, if_true]
theorem inB_tup {n m : Nat} {d : D} {p : PyData} {ds : List D} {ps : List PyData} (h : Pn n d p) (k : PnL m ds ps) (hn : n ≤ 64 := by decide) (hm : m ≤ 63 := by decide) : inB d (.tup ds) = some (ps.any fun z => PyData.eqv z p) := by
  have e1 : inB d (.tup ds) = (match toPD d, toPD (.tup ds) with
    | some p, some (.list ps) => if SeqAt.shaped p && SeqAt.shaped (.list ps) then some (ps.any fun z => PyData.eqv z p) else none
    | some p, some (.tuple ps) => if SeqAt.shaped p && SeqAt.shaped (.tuple ps) then some (ps.any fun z => PyData.eqv z p) else none
    | _, _ => none) := by
    unfold inB
    cases d <;> rfl
  rw [e1, h.pd, k.tup.pd]
  simp only [h.shaped hn, k.tup.shaped (Nat.succ_le_succ hm), Bool.and_self, if_true]
@[simp] theorem eqv_int (i j : Int) : PyData.eqv (.int i) (.int j) = (i == j) := by simp [PyData.eqv]
@[simp] theorem eqv_bl (i j : Bool) : PyData.eqv (.bool i) (.bool j) = (i == j) := by simp [PyData.eqv]
@[simp] theorem eqv_str (i j : Str) : PyData.eqv (.str i) (.str j) = (i == j) := by simp [PyData.eqv]
theorem any_mem {α : Type} [DecidableEq α] (xs : List α) (a : α) : (xs.any fun x => x == a) = decide (a ∈ xs) := by
  rw [Bool.eq_iff_iff, List.any_eq_true]
  simp
theorem inB_ints (i : Int) (is : List Int) : inB (.int i) (.lst (is.map .int)) = some (decide (i ∈ is)) := by
  rw [inB_lst (Pn.int 0 i) (PnL.map (n := 0) (g := PyData.int) fun x _ => Pn.int 0 x)]
  rw [List.any_map, ← any_mem]
  congr 2
  try (funext x; simp)
theorem inB_bls (i : Bool) (is : List Bool) : inB (.bl i) (.lst (is.map .bl)) = some (decide (i ∈ is)) := by
  rw [inB_lst (Pn.bl 0 i) (PnL.map (n := 0) (g := PyData.bool) fun x _ => Pn.bl 0 x)]
  rw [List.any_map, ← any_mem]
  congr 2
  try (funext x; simp)
theorem inB_strs {i : Str} {is : List Str} (h : strOk i = true) (hs : ∀ x ∈ is, strOk x = true) : inB (.str i) (.lst (is.map .str)) = some (decide (i ∈ is)) := by
  rw [inB_lst (Pn.str 0 h) (PnL.map (n := 0) (g := PyData.str) fun x hx => Pn.str 0 (hs x hx))]
  rw [List.any_map, ← any_mem]
  congr 2
  try (funext x; simp)
theorem inD_of {d e : D} {b : Bool} (h : inB d e = some b) : inD d e = .ok (.bl b) := by unfold inD; rw [h]
theorem ninD_of {d e : D} {b : Bool} (h : inB d e = some b) : ninD d e = .ok (.bl (!b)) := by unfold ninD; rw [h]
theorem indexD_strs {a : Str} {ns : List Str} (h : strOk a = true) (hs : ∀ x ∈ ns, strOk x = true) (ha : a ∈ ns) : indexD (.lst (ns.map .str)) (.str a) = .ok (.int (ns.idxOf a : Nat)) := by
  have k : PnL 0 (ns.map D.str) (ns.map PyData.str) := PnL.map fun x hx => Pn.str 0 (hs x hx)
  unfold indexD
  simp only [k.pd, (Pn.str 0 h).pd]
  have e : (ns.map PyData.str).findIdx? (fun z => PyData.eqv z (.str a)) = some (ns.idxOf a) := by
    rw [List.findIdx?_map]
    have hf : ((fun z => PyData.eqv z (PyData.str a)) ∘ PyData.str) = fun x => x == a := by
      funext x; simp
    rw [hf]
    rw [List.findIdx?_eq_some_iff_getElem]
    have hl := List.idxOf_lt_length_of_mem ha
    refine ⟨hl, by simp, fun j hj => ?_⟩
    have := List.not_of_lt_findIdx (p := fun x => x == a) (xs := ns) (i := j) (by simpa [List.idxOf] using hj)
    simpa using this
  rw [e]
  simp only [k.lst.shaped (by decide), (Pn.str 0 h).shaped (by decide), Bool.and_self, chk_true]
theorem ixL_map {α : Type} {f : α → D} {xs : List α} {i : Nat} {x : α} (h : xs[i]? = some x) : ixL (xs.map f) (i : Int) = .ok (f x) := ixL_nat (by rw [List.getElem?_map, h]; rfl)
theorem ixL_mapZ {α : Type} {f : α → D} {xs : List α} {i : Int} {x : α} (h0 : 0 ≤ i) (h : xs[i.toNat]? = some x) : ixL (xs.map f) i = .ok (f x) := ixL_int h0 (by rw [List.getElem?_map, h]; rfl)
/-! ### while, by a word and a number that falls -/
theorem whF_succ (t : En → Oc Bool) (b : En → Oc Res) (n : Nat) (ρ : En) (h : t ρ = .ok true) {ρ' : En} (hb : b ρ = .ok (.nx ρ') ∨ b ρ = .ok (.ct ρ')) : whF t b (n + 1) ρ = whF t b n ρ' := by
  show (bd (t ρ) fun c => if c then bd (b ρ) fun r => match r with
    | .nx ρ' => whF t b n ρ'
    | .ct ρ' => whF t b n ρ'
    | .bk ρ' => .ok (.nx ρ')
    | .rt d => .ok (.rt d)
    else .ok (.nx ρ)) = _
  rw [h]
  simp only [bd_ok, if_true]
  rcases hb with hb | hb <;> rw [hb] <;> rfl
theorem whF_stop (t : En → Oc Bool) (b : En → Oc Res) (n : Nat) (ρ : En) (h : t ρ = .ok false) : whF t b (n + 1) ρ = .ok (.nx ρ) := by
  show (bd (t ρ) fun c => if c then bd (b ρ) fun r => match r with
    | .nx ρ' => whF t b n ρ'
    | .ct ρ' => whF t b n ρ'
    | .bk ρ' => .ok (.nx ρ')
    | .rt d => .ok (.rt d)
    else .ok (.nx ρ)) = _
  rw [h]
  simp
theorem wh_inv {t : En → Oc Bool} {b : En → Oc Res} (I : Nat → En → Prop) (h : ∀ m ρ, I m ρ → t ρ = .ok false ∨ (t ρ = .ok true ∧ ∃ ρ' m', m' < m ∧ (b ρ = .ok (.nx ρ') ∨ b ρ = .ok (.ct ρ')) ∧ I m' ρ')) {m : Nat} {ρ : En} (h0 : I m ρ) :
    ∃ ρ' m', wh t b ρ = .ok (.nx ρ') ∧ I m' ρ' ∧ t ρ' = .ok false := by
  have key : ∀ m ρ, I m ρ → ∃ n ρ' m', whF t b n ρ = .ok (.nx ρ') ∧ I m' ρ' ∧ t ρ' = .ok false := by
    intro m
    induction m using Nat.strongRecOn with
    | ind m ih =>
      intro ρ hI
      rcases h m ρ hI with hf | ⟨ht, ρ', m', hm, hb, hI'⟩
      · exact ⟨1, ρ, m, whF_stop t b 0 ρ hf, hI, hf⟩
      · obtain ⟨n, ρ2, m2, h1, h2, h3⟩ := ih m' hm ρ' hI'
        exact ⟨n + 1, ρ2, m2, by rw [whF_succ t b n ρ ht hb, h1], h2, h3⟩
  obtain ⟨n, ρ', m', h1, h2, h3⟩ := key m ρ h0
  exact ⟨ρ', m', wh_of h1 (by intro z; cases z), h2, h3⟩
@[simp] theorem setF_ap (i : Nat) (cs : List Str) (n : Str) (f : En → Oc D) (ρ : En) : setF i cs n f ρ = bd (f ρ) fun d => match ρ[i]? with
  | some (.ow (.obj c fs)) => chk (decide (c ∈ cs) && decide (fs.length < 1000)) (.ok (.nx (ρ.set i (.ow (.obj c (putD n d fs))))))
  | _ => .st := id rfl
@[simp] theorem fnI_ap (c : Str) (n m : Nat) (g : En → Oc Res) (ds : List D) : fnI c n m g ds = chk (decide (ds.length = m)) (outI (g (.ow (.obj c []) :: (ds.map .sh ++ List.replicate (n - m) .no)))) := id rfl
@[simp] theorem outI_nx (c : Str) (fs : List (Str × D)) (ρ : En) : outI (.ok (.nx (.ow (.obj c fs) :: ρ))) = .ok (.obj c fs) := id rfl
@[simp] theorem wipeE_nil (ρ : En) : wipeE ρ [] = ρ := id rfl
@[simp] theorem wipeE_cons (ρ : En) (v : Nat) (vs : List Nat) : wipeE ρ (v :: vs) = (wipeE ρ vs).set v .no := id rfl
@[simp] theorem allD_lst (bs : List Bool) : allD (.lst (bs.map .bl)) = .ok (.bl (bs.all id)) := by
  have h : ∀ bs : List Bool, allBl (bs.map .bl) = some bs := fun bs => by
    induction bs with
    | nil => rfl
    | cons b bs ih => simp [allBl, ih]
  unfold allD
  simp only [h]
@[simp] theorem anyD_lst (bs : List Bool) : anyD (.lst (bs.map .bl)) = .ok (.bl (bs.any id)) := by
  have h : ∀ bs : List Bool, allBl (bs.map .bl) = some bs := fun bs => by
    induction bs with
    | nil => rfl
    | cons b bs ih => simp [allBl, ih]
  unfold anyD
  simp only [h]
theorem sortedID_ints (is : List Int) : sortedID (.lst (is.map .int)) = .ok (.lst ((isort is).map .int)) := by
  have h : ∀ bs : List Int, allInt (bs.map .int) = some bs := fun bs => by
    induction bs with
    | nil => rfl
    | cons b bs ih => simp [allInt, ih]
  unfold sortedID
  simp only [h]
theorem mem_isort {x : Int} {l : List Int} : x ∈ isort l ↔ x ∈ l := (isort_perm l).mem_iff
/-! ### texts -/
theorem len_append (a b : Str) : (a ++ b).length = a.length + b.length := by
  show (a.cps ++ b.cps).size = a.cps.size + b.cps.size
  exact Array.size_append
theorem strOk_append {a b : Str} (ha : strOk a = true) (hb : strOk b = true) : strOk (a ++ b) = true := by
  unfold strOk at *
  show (a.cps ++ b.cps).all (· < 0x110000) = true
  rw [Array.all_append, ha, hb]; rfl
theorem strOk_cut {a : Str} (lo hi : Option Int) (ha : strOk a = true) : strOk (cutS a lo hi) = true := by
  unfold strOk at *
  unfold cutS
  rw [← Array.all_toList] at ha ⊢
  rw [List.all_eq_true] at ha ⊢
  intro x hx
  simp only at hx
  exact ha x (List.mem_of_mem_drop (List.mem_of_mem_take hx))
theorem len_cut (a : Str) (lo hi : Option Int) : (cutS a lo hi).length ≤ a.length := by
  unfold cutS
  show (List.toArray _).size ≤ a.cps.size
  simp only [List.size_toArray, List.length_take, List.length_drop, Array.length_toList]
  omega
theorem strOk_one {c : Nat} (h : c < 0x110000) : strOk ⟨#[c]⟩ = true := by
  unfold strOk
  simp [h]
theorem ixD_str {z : Str} {i : Int} (hz : z.length ≤ 1000000) (h0 : 0 ≤ i) (h1 : i < z.length) : ∃ c, ixD (.str z) (.int i) = .ok (.str ⟨#[c]⟩) ∧ (strOk z = true → strOk ⟨#[c]⟩ = true) := by
  have hi : i.toNat < z.cps.size := by
    have h1 : i < (z.cps.size : Nat) := h1
    omega
  refine ⟨z.cps[i.toNat], ?_, fun h => ?_⟩
  · unfold ixD
    simp only
    have e : atI z.cps.toList i = some z.cps[i.toNat] := by
      have e : i = (i.toNat : Int) := by omega
      have := atI_nat (xs := z.cps.toList) (j := i.toNat) (v := z.cps[i.toNat]) (by simp [hi])
      rw [← e] at this
      exact this
    rw [decide_eq_true (by rw [sizeLine_val]; omega), e]
    rfl
  · apply strOk_one
    unfold strOk at h
    rw [Array.all_eq_true] at h
    simpa using h i.toNat hi
theorem addD_strs {a b : Str} (h : a.length + b.length ≤ 1000000) : addD (.str a) (.str b) = .ok (.str (a ++ b)) := by
  rw [addD_str, decide_eq_true (by rw [sizeLine_val]; omega)]; rfl
theorem addD_lsts {a b : List D} (h : a.length + b.length ≤ 1000000) : addD (.lst a) (.lst b) = .ok (.lst (a ++ b)) := by
  rw [addD_lst, decide_eq_true (by rw [sizeLine_val]; omega)]; rfl
theorem slD_strs {a : Str} {lo hi : Option Int} (h : a.length ≤ 1000000) : slD (.str a) lo hi = .ok (.str (cutS a lo hi)) := by
  rw [slD_str, decide_eq_true (by rw [sizeLine_val]; omega)]; rfl
end Fx

set_option Elab.async false
set_option linter.all false
set_option maxRecDepth 100000
set_option maxHeartbeats 4000000
/-! Fx9: all and any of generator expressions; defs with tables. -/
namespace Fx
open PySem PySem.Spec PyProof.Rows L2
variable {K : PySem.W.Frag} {mg : Str → Option Value}
def gaL (T : Tg) (own : List Nat) (neg : Bool) (el : En → Oc D) (ρ : En) : List D → Oc D
  | [] => .ok (.bl (!neg))
  | d :: ds => bd (noex (bindT T d (wipeE ρ own))) fun ρ1 => bd (noex (el ρ1)) fun y => match y with
    | .bl b => if b = neg then .ok (.bl neg) else gaL T own neg el ρ ds
    | _ => .st
def ga (T : Tg) (own : List Nat) (neg : Bool) (src : En → Oc (List D)) (el : En → Oc D) : En → Oc D := fun ρ => bd (src ρ) fun ds => gaL T own neg el ρ ds
theorem Ext.tabbed {G H H2 : Hp} {P : Addr} (s : Same G H) (t : GxR.TabG H P) (g : G P = none) (h : GxR.Tabbed P H H2) : Ext G H G H2 := by
  obtain ⟨t2, h2⟩ := h
  have ne : ∀ {b o}, H b = some o → (∀ ps, o ≠ .tbl ps) → b ≠ P := fun {b o} e n z => by
    obtain ⟨ps, e2, _⟩ := t
    rw [z, e2] at e
    cases e
    exact n ps rfl
  refine ⟨⟨fun b o e n => by rw [h2 b (ne e n)]; exact e, fun b o e => ?_, fun P' t' => ?_⟩, .refl _, fun b o e => ?_, fun _ _ _ g => g⟩
  · by_cases hb : b = P
    · obtain ⟨ps, e2, _⟩ := t2
      exact ⟨_, by rw [hb]; exact e2⟩
    · exact ⟨o, by rw [h2 b hb]; exact e⟩
  · by_cases hb : P' = P
    · rw [hb]; exact t2
    · obtain ⟨ps, e2, ok⟩ := t'
      exact ⟨ps, by rw [h2 P' hb]; exact e2, ok⟩
  · rw [h2 b fun z => by rw [z, g] at e; cases e]
    exact s b o e
theorem tAA_in {neg : Bool} {P : Addr} {T : Tg} {own : List Nat} {src : En → Oc (List D)} {el : En → Oc D} {σ : L2.St} {H : Hp} {Q : VK} {W : WX} (hP : IsTab K P) (ho : ∀ i ∈ T.slots, i ∈ own) (q : tE K mg W (ga T own neg src el) σ H Q) :
    Gx.tAA neg P (tI K mg W src) (gT K T) (tE K mg E0W el) own σ H Q := by
  obtain ⟨G, ρ, R, p⟩ := q
  refine ⟨G, ρ, R, ?_⟩
  revert p
  unfold ga
  cases src ρ with
  | st => exact id
  | ex c => exact id
  | ok ds =>
    intro p J G1 H1 x1 Y
    simp only [bd_ok] at p
    obtain ⟨t1, g1⟩ := (R.ext x1).tabs P hP
    refine ⟨t1, fun H2 hT => ?_⟩
    have x12 : Ext G1 H1 G1 H2 := .tabbed x1.gh t1 g1 hT
    have R2 : Rel K mg G1 H2 ρ σ := (R.ext x1).ext x12
    refine ⟨fun i m H => m = ds.length - i ∧ i ≤ ds.length ∧ ∃ G, Ext G1 H2 G H ∧ PostE K mg (fun c d H' => W c d σ H') G H Q (gaL T own neg el ρ (ds.drop i)), ⟨ds.length, by simp, Nat.zero_le _, G1, .refl x12.gh, PostE.imp (x1.trans x12) p fun _ _ z => z⟩, ?_⟩
    rintro i m H ⟨rfl, hi, G, x, p⟩
    by_cases hlt : i < ds.length
    · refine .inr ⟨Y.go i G H hlt x.gg x.gh, fun v H' y => ?_⟩
      obtain ⟨d, hd⟩ : ∃ d, ds[i]? = some d := ⟨ds[i], List.getElem?_eq_getElem hlt⟩
      obtain ⟨G2, x2, r2⟩ := Y.yld i d v G H H' hd x.gg x.gh y
      have hdr : ds.drop i = d :: ds.drop (i + 1) := by
        rw [List.drop_eq_getElem_cons hlt]
        rw [List.getElem?_eq_getElem hlt] at hd
        cases hd
        rfl
      rw [hdr] at p
      unfold gaL at p
      cases h1 : noex (bindT T d (wipeE ρ own)) with
      | st => rw [h1] at p; exact p.elim
      | ex c => exact (noex_ne h1).elim
      | ok ρ1 =>
        rw [h1] at p
        simp only [bd_ok] at p
        have R3 : Rel K mg G2 H' (wipeE ρ own) (L2.wipe σ own) := ((R2.ext x).ext x2).wipe own
        refine gT_rel R3 r2 (noex_eq h1) fun us R4 => ⟨setT_wipe ho, ?_⟩
        refine ⟨G2, ρ1, R4, ?_⟩
        cases h2 : noex (el ρ1) with
        | st => rw [h2] at p; exact p.elim
        | ex c => exact (noex_ne h2).elim
        | ok yd =>
          rw [h2] at p
          simp only [bd_ok] at p
          rw [noex_eq h2]
          intro yv G4 H4 x4 ry
          cases yd with
          | bl b =>
            cases ry
            refine ⟨b, rfl, ?_⟩
            simp only at p
            by_cases hb : b = neg
            · rw [if_pos hb] at p ⊢
              exact p _ G4 H4 (x2.trans x4) (.bl _)
            · rw [if_neg hb] at p ⊢
              exact ⟨ds.length - (i + 1), by omega, rfl, hlt, G4, (x.trans x2).trans x4, PostE.imp (x2.trans x4) p fun _ _ z => z⟩
          | _ => exact p.elim
    · have e : i = ds.length := by omega
      subst e
      rw [List.drop_length] at p
      exact .inl ⟨Y.stop G H x.gg x.gh, p _ G H (.refl x.gh) (.bl _)⟩
section
variable {X : Cx} {W : WX} {elt tg it : Expr} {pos : Pos}
theorem Ctx.gen {k : Nat} (C : Ctx X W) (hr : Room k X.A) (s : Shared) (H : Hp) (ce : Env) (fp : List Addr) (pn : List (Addr × Obj)) : Ctx (Gx.gen X (X.A.in1.in1.deeper ce) s H ce fp pn) E0W :=
  ⟨C.calm, C.nd, takes0, by have := hr.un; show X.A.units + 1 + 1 + 3 + 65 < cLine; omega⟩
theorem room_gen {k : Nat} (hr : Room (k + 1) X.A) (ce : Env) : Room k (X.A.in1.in1.deeper ce) :=
  ⟨hr.hd, by have := hr.dp; show X.A.depth + 1 + 3 * k + 5 < _; omega, by have := hr.un; show X.A.units + 1 + 1 + 3 + 16 * k + 200 < _; omega⟩
structure TbOk (X : Cx) (c P : Addr) : Prop where
  tb : GxR.TabB X.base X.mg c P
  is : IsTab X.K P
theorem se_allG {c P : Addr} {k : Nat} {p gpos : Pos} {scope : Scope} {own : List (Str × Nat)} {T : Tg} {src : En → Oc (List D)} {el : En → Oc D} (C : Ctx X W) (hr : Room k X.A) (hg : Gl X "all") (hm : X.mg "all" = none) (t : TbOk X c P) (hcode : X.env.code = .ref c) (ok : BlkOk X.N X.env.scope scope own)
    (nc : (scope.names.all fun y => y.2 != .cell) = true) (dot : scope.names.lookup (".0" : Str) = some NameKind.local) (co : scope.isCoroutine = false) (hi : SI X W tg it src)
    (hgt : ∀ (s : Shared) (H : Hp) (C : Addr) (code : Value) (fp : List Addr) (pn : List (Addr × Obj)), ST (Gx.gen X (X.A.in1.in1.deeper (Gx.gEnv X scope C code)) s H (Gx.gEnv X scope C code) fp pn) tg T)
    (he : ∀ (s : Shared) (H : Hp) (C : Addr) (code : Value) (fp : List Addr) (pn : List (Addr × Obj)), SE (Gx.gen X (X.A.in1.in1.deeper (Gx.gEnv X scope C code)) s H (Gx.gEnv X scope C code) fp pn) E0W elt el) (ho : ∀ i ∈ T.slots, i ∈ own.map (·.2)) (hs : ∀ v, genFold it X.env v = pure v := by intro _; rfl) :
    SE X W (.Call (.Name "all" p) [.GeneratorExp elt [⟨tg, it, [], 0⟩] scope gpos] [] pos) (ga T (own.map (·.2)) false src el) :=
  PE.weak (Gx.pe_all hr C.calm C.nd hg hm (by decide +kernel) t.tb hcode ok (fun y hy e => by have := List.all_eq_true.mp nc y hy; rw [e] at this; simp at this) dot co hi hgt he hs) fun σ H Q q => tAA_in t.is ho q
theorem se_anyG {c P : Addr} {k : Nat} {p gpos : Pos} {scope : Scope} {own : List (Str × Nat)} {T : Tg} {src : En → Oc (List D)} {el : En → Oc D} (C : Ctx X W) (hr : Room k X.A) (hg : Gl X "any") (hm : X.mg "any" = none) (t : TbOk X c P) (hcode : X.env.code = .ref c) (ok : BlkOk X.N X.env.scope scope own)
    (nc : (scope.names.all fun y => y.2 != .cell) = true) (dot : scope.names.lookup (".0" : Str) = some NameKind.local) (co : scope.isCoroutine = false) (hi : SI X W tg it src)
    (hgt : ∀ (s : Shared) (H : Hp) (C : Addr) (code : Value) (fp : List Addr) (pn : List (Addr × Obj)), ST (Gx.gen X (X.A.in1.in1.deeper (Gx.gEnv X scope C code)) s H (Gx.gEnv X scope C code) fp pn) tg T)
    (he : ∀ (s : Shared) (H : Hp) (C : Addr) (code : Value) (fp : List Addr) (pn : List (Addr × Obj)), SE (Gx.gen X (X.A.in1.in1.deeper (Gx.gEnv X scope C code)) s H (Gx.gEnv X scope C code) fp pn) E0W elt el) (ho : ∀ i ∈ T.slots, i ∈ own.map (·.2)) (hs : ∀ v, genFold it X.env v = pure v := by intro _; rfl) :
    SE X W (.Call (.Name "any" p) [.GeneratorExp elt [⟨tg, it, [], 0⟩] scope gpos] [] pos) (ga T (own.map (·.2)) true src el) :=
  PE.weak (Gx.pe_any hr C.calm C.nd hg hm (by decide +kernel) t.tb hcode ok (fun y hy e => by have := List.all_eq_true.mp nc y hy; rw [e] at this; simp at this) dot co hi hgt he hs) fun σ H Q q => tAA_in t.is ho q
end
end Fx

set_option Elab.async false
set_option linter.all false
set_option maxRecDepth 100000
set_option maxHeartbeats 4000000
/-! Fx10: count, max, min, chains, raise. -/
namespace Fx
open PySem PySem.Spec PyProof.Rows L2
variable {K : PySem.W.Frag} {mg : Str → Option Value}
/-! ### list.count of texts -/
def rCntS (K : PySem.W.Frag) : V → List V → Hp → VK → Prop := fun x xs H Q => ∃ (p : Addr) (ys : List Str) (k : Str), x = .ref p ∧ xs = [.str k] ∧ SqL K H p (ys.map V.str) ∧ Q (.int (countIn (.str k) (ys.map PyData.str))) H
theorem strs_of_vals : ∀ {ys : List Str} {us : List Value}, Vals (ys.map V.str) us → StrsAre us ys
  | [], _, h => by cases h; exact .nil
  | y :: ys, _, h => by
    cases h with
    | cons r t =>
      obtain ⟨u, rfl⟩ := r
      exact .cons y u (strs_of_vals t)
theorem mt_countS {X : Cx} : MtR X "list.count" (rCntS X.K) := by
  intro pins s σ H x xs v us Q I rx rxs h
  obtain ⟨p, ys, k, rfl, rfl, hs, q⟩ := h
  cases rx
  obtain ⟨u, rfl, ru⟩ := rxs.one
  obtain ⟨t, rfl⟩ := ru
  obtain ⟨its, rv, il, _⟩ := I.list hs
  exact count_list_strs il.isList (strs_of_vals rv) ⟨.int _, H, I.kept (h' := s.heap) (fun _ _ e => e), ⟨_, rfl⟩, q⟩
def strsD : List D → Option (List Str)
  | [] => some []
  | .str x :: ds => (strsD ds).map (x :: ·)
  | _ => none
theorem repL_strs {G : Hp} : ∀ {ds : List D} {ys : List Str} {vs : List V}, strsD ds = some ys → RepL K mg G vs ds → vs = ys.map V.str
  | [], _, _, e, .nil => by cases e; rfl
  | .str x :: ds, ys, _, e, .cons r t => by
    cases h : strsD ds with
    | none => simp [strsD, h] at e
    | some zs =>
      simp [strsD, h] at e
      subst e
      cases r
      rw [List.map_cons, repL_strs h t]
  | .non :: _, _, _, e, _ => by cases e
  | .bl _ :: _, _, _, e, _ => by cases e
  | .int _ :: _, _, _, e, _ => by cases e
  | .lst _ :: _, _, _, e, _ => by cases e
  | .tup _ :: _, _, _, e, _ => by cases e
  | .fz _ :: _, _, _, e, _ => by cases e
  | .obj _ _ :: _, _, _, e, _ => by cases e
  | .ty _ :: _, _, _, e, _ => by cases e
def countM (d : D) (es : List D) : Oc D := match es with
  | [.str k] => match d with
    | .lst ds => match strsD ds with
      | some ys => .ok (.int (countIn (.str k) (ys.map PyData.str)))
      | none => .st
    | _ => .st
  | _ => .st
section
variable {X : Cx} {W : WX} {a b c e : Expr} {es : List Expr} {f g h : En → Oc D} {fs : En → Oc (List D)} {pos : Pos}
theorem se_count {apos : Pos} (ha : SQ X W a f) (hb : SA X W (e :: es) fs)
    (hbase : attributeBase a "count" X.env (eval a X.env) = eval a X.env := by rfl)
    (hfew : ((backTo pos (starEach (e :: es) X.env)).all (fun x => !x.1) && (backToKw pos (keywordEach [] X.env)).all (fun x => x.1.isSome)
      && decide ((e :: es).length + ([] : List Keyword).length + (if ([] : List Keyword).isEmpty then 0 else 1) < 30)) = true := by rfl)
    (hline : (apos.endLine == pos.line) = true := by rfl) (hs : starEach (e :: es) X.env = (false, eval e X.env) :: starEach es X.env := by rfl) (hplain : (backTo pos (starEach es X.env)).any (·.1) = false := by rfl) :
    SE X W (.Call (.Attribute a "count" apos) (e :: es) [] pos) (mtD isLst countM f fs) :=
  se_mt PySem.F.plainAttrs_list PySem.F.slot_list_count PySem.F.type_list_count mt_countS ty_lst (fun {G H x d vs ds Q U} s r1 r2 p => by
    unfold countM at p
    split at p
    · rename_i k
      split at p
      · rename_i ls
        split at p
        · rename_i ys hys
          obtain ⟨l, xs, e1, hl, rl⟩ := r1.lst s
          subst e1
          cases r2 with
          | cons r2 r3 =>
            cases r3
            cases r2
            have := repL_strs hys rl
            subst this
            exact ⟨l, ys, k, rfl, rfl, SqL.of hl, p.here s (.int _)⟩
        · exact p.elim
      · exact p.elim
    · exact p.elim) ha hb hbase hfew hline hs hplain
/-! ### max, min of two -/
def maxM (ds : List D) : Oc D := match ds with | [.int i, .int j] => .ok (.int (if j > i then j else i)) | _ => .st
def minM (ds : List D) : Oc D := match ds with | [.int i, .int j] => .ok (.int (if j < i then j else i)) | _ => .st
def unA (F : List D → Oc D) (fs : En → Oc (List D)) : En → Oc D := fun ρ => bd (fs ρ) F
theorem se_callB {idn : String} {r : List V → Hp → VK → Prop} {nm : Str} {p : Pos} {F : List D → Oc D} (hc : CallR X (.builtin idn) r) (hg : Gl X nm) (hm : X.mg nm = none) (hv : bootBuiltins nm = some (.builtin idn))
    (h2 : ∀ {G H vs ds Q U}, Same G H → RepL X.K X.mg G vs ds → PostE X.K X.mg U G H Q (F ds) → r vs H Q) (ha : SA X W (e :: es) fs) (hn : nm ≠ "__name__" := by decide) (hdb : (nm == ("__debug__" : Str)) = false := by decide)
    (he : starEach (e :: es) X.env = (false, eval e X.env) :: starEach es X.env := by rfl) (hpl : (backTo pos (starEach es X.env)).any (·.1) = false := by rfl) : SE X W (.Call (.Name nm p) (e :: es) [] pos) (unA F fs) := by
  refine PE.weak (pe_callB hc hg hm hv ha hn hdb he hpl) fun σ H Q ⟨G, ρ, R, p⟩ => ?_
  refine ⟨G, ρ, R, ?_⟩
  revert p
  unfold unA
  cases fs ρ with
  | st => exact id
  | ex c => exact id
  | ok ds => exact fun p vs G1 H1 x1 r1 => h2 x1.gh r1 (PostE.imp x1 p fun _ _ q => q)
end
end Fx

set_option Elab.async false
set_option linter.all false
set_option maxRecDepth 100000
set_option maxHeartbeats 4000000
/-! Fx11: raise; fresh results; defs with tables and defaults. -/
namespace Fx
open PySem PySem.Spec PyProof.Rows L2
variable {K : PySem.W.Frag} {mg : Str → Option Value}
/-! ### raise -/
structure ExcK (K : PySem.W.Frag) (mg : Str → Option Value) (c : Str) : Prop where
  ex : ∃ C, mg c = some (.ref C) ∧ PySem.W.excIn K C He.veBase "ValueError.__new__" = true ∧ PySem.W.keepIn K (.ref C) = true ∧ PySem.W.subIn K (.ref C) (.type "BaseException") = some true ∧ PySem.W.typeIn K (.ref C) = some (.type "type")
def rsx (c : Str) : En → Oc Res := fun _ => .ex c
section
variable {X : Cx} {W : WX} {U : XK} {fre : Bool} {a b c e : Expr} {es : List Expr} {f g h : En → Oc D} {fs : En → Oc (List D)} {pos : Pos}
theorem ss_raise {nm m : Str} {j : Nat} {p p2 pos2 pos3 : Pos} (C : Ctx X (up U)) (k : ExcK X.K X.mg nm) (hg : Gl X nm) (hdb : (nm == ("__debug__" : Str)) = false := by decide) : SS X U fre (.Raise (some (.Call (.Name nm p) [.Constant (.str m) j p2] [] pos2)) none pos3) (rsx nm) := by
  obtain ⟨Cl, gC, h1, h2, h3, h4⟩ := k.ex
  exact PS.weak (ps_raise C.calm C.tk (pmk_own PySem.F.excBase_ValueError h1 gC h2 (raises_own h3 h4) hg hdb)) fun D σ H ⟨G, ρ, me, G0, H0, B, p⟩ => p _ G H B.ext gC
end
/-! ### fresh results -/
def spFF (K : PySem.W.Frag) (mg : Str → Option Value) (n : Nat) (F : List D → Oc D) : Sp := fun vs H Q E => vs.length = n ∧ ∃ G ds, Same G H ∧ Tabs K G H ∧ RepL K mg G vs ds ∧ PostF K mg E G H Q (F ds)
theorem postF_of {U : XK} {G H : Hp} {Q : VK} {o : Oc D} (p : PostE K mg U G H Q o) : PostF K mg U G H Q o := by
  revert p
  cases o with
  | st => exact id
  | ex c => exact id
  | ok d =>
    intro p a G' H' x ha ga ow
    obtain ⟨u, hu⟩ := ow.ex
    have gg : Same G' (upd G' a u) := fun b o e => by rw [upd_ne (ne_of_none e ga)]; exact e
    refine p (.ref a) (upd G' a u) H' ⟨x.hh, x.gg.trans gg, fun b o e => ?_, fun b o hb gb => ?_⟩ (ow.rep gg fun o q => by rw [hu] at q; cases q; exact upd_same)
    · by_cases hb : b = a
      · subst hb; rw [upd_same] at e; rw [hu]; exact e
      · rw [upd_ne hb] at e; exact x.gh _ _ e
    · rw [upd_ne (ne_of_none hb ha)]; exact x.nc b o hb gb
theorem FnOk.imp {P : Program} {w : World} {base : Heap} {CX : CXT} {k : Nat} {f : Addr} {fd : FuncData} {ps : List Str} {sp sp2 : Sp} (F : FnOk P w K mg base CX k f fd ps sp) (h : ∀ vs H Q E, sp2 vs H Q E → sp vs H Q E) : FnOk P w K mg base CX k f fd ps sp2 :=
  ⟨fun vs H Q E z => F.len vs H Q E (h _ _ _ _ z), fun A outer s H args us vs Q E r e b v z => F.run A outer s H args us vs Q E r e b v (h _ _ _ _ z)⟩
structure KnF (P : Program) (w : World) (K : PySem.W.Frag) (mg : Str → Option Value) (base : Heap) (k : Nat) (x : Str) (n : Nat) (dds : List D) (F : List D → Oc D) : Prop where
  ex : ∃ (f : Addr) (fd : FuncData) (ps : List Str) (ds : List Value) (dvs : List V), FnOk P w K mg base (L2.CX P w) k f fd ps (spFF K mg (n + dds.length) F) ∧ mg x = some (.ref f) ∧ PySem.W.keepIn K (.ref f) = true ∧ Binds K fd ps ds ∧ Vals dvs ds ∧ (∀ G, RepL K mg G dvs dds)
abbrev XKnF (X : Cx) := KnF X.prog X.w X.K X.mg X.base
theorem KnF.kn {P : Program} {w : World} {base : Heap} {k n : Nat} {x : Str} {dds : List D} {F : List D → Oc D} (h : KnF P w K mg base k x n dds F) : Kn P w K mg base k x n dds F := by
  obtain ⟨f, fd, ps, ds, dvs, ok, r⟩ := h.ex
  exact ⟨f, fd, ps, ds, dvs, ok.imp fun vs H Q E ⟨hl, G, es, s, t, r, p⟩ => ⟨hl, G, es, s, t, r, postF_of p⟩, r⟩
section
variable {X : Cx} {W : WX} {U : XK} {fre : Bool} {a b c e : Expr} {es : List Expr} {f g h : En → Oc D} {fs : En → Oc (List D)} {pos : Pos} {G H : Hp} {Q : VK}
theorem PostF.call {n : Nat} {vs dvs : List V} {ds dds : List D} {F : List D → Oc D} (s : Same G H) (tb : Tabs K G H) (r : RepL K mg G vs ds) (rd : ∀ G, RepL K mg G dvs dds) (p : PostF K mg U G H Q (Fx.chk (decide (ds.length = n)) (F (ds ++ dds)))) : spFF K mg (n + dds.length) F (vs ++ dvs) H Q U := by
  obtain ⟨c, p⟩ := p.chk
  exact ⟨by rw [List.length_append, r.length, (rd G).length, of_decide_eq_true c], G, ds ++ dds, s, tb, r.append (rd G), p⟩
theorem sf_call {k n : Nat} {nm : Str} {dds : List D} {F : List D → Oc D} {p : Pos} (kn : XKnF X k nm n dds F) (C : Ctx X W) (hr : Room k X.A) (hg : Gl X nm) (ha : SA X W (e :: es) fs) (hdb : (nm == ("__debug__" : Str)) = false := by decide)
    (he : starEach (e :: es) X.env = (false, eval e X.env) :: starEach es X.env := by rfl) (hpl : (backTo pos (starEach es X.env)).any (·.1) = false := by rfl) : SF X W (.Call (.Name nm p) (e :: es) [] pos) (cal F n dds fs) := by
  obtain ⟨f, fd, ps, ds, dvs, ok, gm, kp, b, vd, rd⟩ := kn.ex
  refine PE.weak (pe_callW ok hr hg gm kp b vd C.tk ha hdb he hpl) fun σ H Q ⟨G, ρ, R, p⟩ => ?_
  refine ⟨G, ρ, R, ?_⟩
  revert p
  unfold cal
  cases fs ρ with
  | st => exact id
  | ex c => exact id
  | ok ds =>
    intro p vs G1 H1 x1 r1
    have p := PostF.imp x1 p fun _ _ q => q
    exact p.call x1.gh (R.ext x1).tabs r1 rd
def exsA (f g : En → Oc D) : En → Oc Res := fun ρ => bd (f ρ) fun d => match d with
  | .lst ds => bd (g ρ) fun _ => chk (decide (ds.length < sizeLine)) (.ok (.nx ρ))
  | _ => .st
theorem ss_exsA {apos cpos : Pos} (ha : SF X (up U) a f) (hb : SE X (up U) b g)
    (hbase : attributeBase a "append" X.env (eval a X.env) = eval a X.env := by rfl)
    (hfew : ((backTo cpos (starEach [b] X.env)).all (fun x => !x.1) && (backToKw cpos (keywordEach [] X.env)).all (fun x => x.1.isSome)
      && decide (([b] : List Expr).length + ([] : List Keyword).length + (if ([] : List Keyword).isEmpty then 0 else 1) < 30)) = true := by rfl)
    (hline : (apos.endLine == cpos.line) = true := by rfl) (hs : starEach [b] X.env = (false, eval b X.env) :: starEach [] X.env := by rfl) (hplain : (backTo cpos (starEach [] X.env)).any (·.1) = false := by rfl)
    (hsw : swapsWith (.Call (.Attribute a "append" apos) [b] [] cpos) none pos.line X.env = pure false := by rfl) :
    SS X U fre (.Expr (.Call (.Attribute a "append" apos) [b] [] cpos) pos) (exsA f g) :=
  PS.weak (ps_expr (pe_bm PySem.F.plainAttrs_list PySem.F.slot_list_append PySem.F.type_list_append mt_append ha (pa_cons hb pa_nil hs) hbase hfew hline hs hplain) hsw) fun D σ H ⟨G, ρ, me, G0, H0, B, p⟩ => by
  refine ⟨G, ρ, B.rel, ?_⟩
  revert p
  unfold exsA
  cases f ρ with
  | st => exact id
  | ex c => exact fun p C G' H' x m => p C G' H' (B.ext.trans x) m
  | ok d =>
    intro p l G1 H1 x1 hl gl ow
    simp only [bd_ok] at p
    cases d with
    | lst ds =>
      obtain ⟨xs, el, rl⟩ := ow
      refine ⟨.inl ⟨rfl, _, SqL.of el⟩, G1, ρ, B.rel.ext x1, ?_⟩
      revert p
      simp only
      cases g ρ with
      | st => exact id
      | ex c => exact fun p C G' H' x m => p C G' H' (B.ext.trans (x1.trans x)) m
      | ok d2 =>
        intro p v G2 H2 x2 r2
        simp only [bd_ok] at p
        have p2 := chk_some (P := PostS X.K X.mg U fre me G0 H0 D) (fun z => z) p
        have el2 : H2 l = some (.lst xs) := x2.hh.ob _ _ el (fun _ z => by cases z)
        have gl2 : G2 l = none := x2.nc l _ el gl
        have x12 := x1.trans x2
        refine ⟨l, xs, v, rfl, rfl, el2, by rw [rl.length]; exact of_decide_eq_true p2.1, p2.2 σ G2 _ (B.step ⟨x12.hh.upd hl, x12.gg, fun b o e => ?_, x12.nc⟩)⟩
        rw [upd_ne (ne_of_none e gl2)]
        exact x12.gh _ _ e
    | _ => exact p.elim
end
section
variable {P : Program} {w : World} {base : Heap}
def Tbs (K : PySem.W.Frag) (mg : Str → Option Value) (base : Heap) : Prop := ∀ c P, PySem.W.codeHdIn K c P = true → K.lookup P = none → GxR.TabB base mg c P
theorem noOwn {ds : List D} {m : Nat} (i : Nat) (d : D) : (ds.map Sl.sh ++ List.replicate m Sl.no)[i]? ≠ some (.ow d) := fun h1 => by
  by_cases hi : i < ds.length
  · rw [List.getElem?_append_left (by simpa using hi), List.getElem?_map, List.getElem?_eq_getElem hi] at h1
    cases h1
  · rw [List.getElem?_append_right (by simpa using hi), List.getElem?_replicate] at h1
    split at h1 <;> cases h1
theorem fn_start {N ps : List Str} {sc : Scope} {G H : Hp} {vs : List V} {ds : List D} {Q : VK} {E : XK} {g : En → Oc Res} (S : FnScope N ps sc) (sG : Same G H) (tb : Tabs K G H) (r : RepL K mg G vs ds) (p : PostE K mg E G H Q (fnB N.length ps.length g ds)) :
    tS K mg E false g { nx := fun _ H' => Q .non H', rt := Q } (L2.start N vs) H := by
  unfold fnB at p
  obtain ⟨c, p⟩ := p.chk
  have hd := of_decide_eq_true c
  have R := rel_start (N := N) sG tb r
  rw [hd] at R
  refine ⟨G, _, 0, G, H, ⟨R, .refl sG, fun i a d h1 _ => absurd h1 (noOwn i d), fun i c fs h1 => absurd h1 (noOwn i _)⟩, ?_⟩
  revert p
  unfold outR
  cases g (ds.map .sh ++ List.replicate (N.length - ps.length) .no) with
  | st => exact id
  | ex c => exact id
  | ok r =>
    simp only [bd_ok]
    cases r with
    | nx ρ => exact fun p σ G' H' B => p .non G' H' B.ext .non
    | rt d => exact fun p v G' H' x r => p v G' H' x r
    | bk ρ => exact fun p => p.elim
    | ct ρ => exact fun p => p.elim
def outF (o : Oc Res) : Oc D := bd o fun r => match r with
  | .rt d => .ok d
  | _ => .st
def fnF (n m : Nat) (g : En → Oc Res) : List D → Oc D := fun ds => chk (decide (ds.length = m)) (outF (g (ds.map .sh ++ List.replicate (n - m) .no)))
theorem fnF_start {N ps : List Str} {sc : Scope} {G H : Hp} {vs : List V} {ds : List D} {Q : VK} {E : XK} {g : En → Oc Res} (S : FnScope N ps sc) (sG : Same G H) (tb : Tabs K G H) (r : RepL K mg G vs ds) (p : PostF K mg E G H Q (fnF N.length ps.length g ds)) :
    tS K mg E true g { nx := fun _ H' => Q .non H', rt := Q } (L2.start N vs) H := by
  unfold fnF at p
  obtain ⟨c, p⟩ := p.chk
  have hd := of_decide_eq_true c
  have R := rel_start (N := N) sG tb r
  rw [hd] at R
  refine ⟨G, _, 0, G, H, ⟨R, .refl sG, fun i a d h1 _ => absurd h1 (noOwn i d), fun i c fs h1 => absurd h1 (noOwn i _)⟩, ?_⟩
  revert p
  unfold outF
  cases g (ds.map .sh ++ List.replicate (N.length - ps.length) .no) with
  | st => exact id
  | ex c => exact id
  | ok r =>
    simp only [bd_ok]
    cases r with
    | nx ρ => exact fun p => p.elim
    | rt d => exact fun p a G' H' x h g w => p a G' H' x h g w
    | bk ρ => exact fun p => p.elim
    | ct ρ => exact fun p => p.elim
theorem fnD_ok {x qual : Str} {pa : Arguments} {bd : List Stmt} {sc : Scope} {dvs : List V} {kws : List (Str × V)} {f : Addr} {fd : FuncData} {N ps : List Str} {k : Nat} {g : En → Oc Res} (F : FunD K x qual pa bd sc dvs kws f fd) (S : FnScope N ps sc)
    (hb : ∀ (cdv : Value) (A : Around) (outer : List Env) (s : Shared) (H : Hp) (E : XK), fd.code = cdv → Room k (A.deeper (envOfC qual sc s.heap.objs.size f cdv)) → Ctx (cxOf (L2.CX P w) P w K mg base N qual sc f cdv A outer s H E) (up E) →
      SSs (cxOf (L2.CX P w) P w K mg base N qual sc f cdv A outer s H E) E false bd g) : FnOk P w K mg base (L2.CX P w) (k + 1) f fd ps (spF K mg ps.length (fnB N.length ps.length g)) := by
  obtain ⟨oc, od, dV, kV, doc, pm, an, cdv, ct, osl, rfl, lk, hcd, _, _⟩ := F.ex
  refine fn_of lk hcd S (fun vs H Q E h => h.1) fun A outer s H vs Q E hr h => ?_
  obtain ⟨hl, G, ds, sG, tb, r, p⟩ := h
  refine ⟨_, hb cdv A outer s H E rfl hr (ctx_def S hr), ?_⟩
  exact fn_start S sG tb r p
theorem fnF_ok {x qual : Str} {pa : Arguments} {bd : List Stmt} {sc : Scope} {dvs : List V} {kws : List (Str × V)} {f : Addr} {fd : FuncData} {N ps : List Str} {k : Nat} {g : En → Oc Res} (F : FunD K x qual pa bd sc dvs kws f fd) (S : FnScope N ps sc)
    (hb : ∀ (cdv : Value) (A : Around) (outer : List Env) (s : Shared) (H : Hp) (E : XK), fd.code = cdv → Room k (A.deeper (envOfC qual sc s.heap.objs.size f cdv)) → Ctx (cxOf (L2.CX P w) P w K mg base N qual sc f cdv A outer s H E) (up E) →
      SSs (cxOf (L2.CX P w) P w K mg base N qual sc f cdv A outer s H E) E true bd g) : FnOk P w K mg base (L2.CX P w) (k + 1) f fd ps (spFF K mg ps.length (fnF N.length ps.length g)) := by
  obtain ⟨oc, od, dV, kV, doc, pm, an, cdv, ct, osl, rfl, lk, hcd, _, _⟩ := F.ex
  refine fn_of lk hcd S (fun vs H Q E h => h.1) fun A outer s H vs Q E hr h => ?_
  obtain ⟨hl, G, ds, sG, tb, r, p⟩ := h
  refine ⟨_, hb cdv A outer s H E rfl hr (ctx_def S hr), ?_⟩
  exact fnF_start S sG tb r p
theorem init_start {c : Str} {N ps : List Str} {sc : Scope} {m : Nat} {g : En → Oc Res} {vs : List V} {H : Hp} {Q : VK} {E : XK} (S : FnScope N ps sc) (hps : ps.length = m + 1) (h : spI K mg c m (fnI c (N.length - 1) m g) vs H Q E) :
    tS K mg E false g { nx := fun _ H' => Q .non H', rt := Q } (L2.start N vs) H := by
  obtain ⟨hl, G, ds, x, dx, C, vs', rfl, mc, hx, hdx, ne, gx, sG, tb, r, p⟩ := h
  have hN : m + 1 ≤ N.length := by
    have := congrArg List.length S.pre
    rw [List.length_take] at this
    omega
  unfold fnI at p
  cases hc : decide (ds.length = m) with
  | false => rw [hc] at p; exact p.elim
  | true =>
    rw [hc] at p
    simp only [chk_true] at p
    have hd := of_decide_eq_true hc
    have R0 := rel_start (N := N.drop 1) sG tb r
    rw [List.length_drop, hd] at R0
    have key : ∀ (i : Nat) (d : D), (ds.map Sl.sh ++ List.replicate (N.length - 1 - m) Sl.no)[i]? ≠ some (.ow d) := fun i d h1 => by
      by_cases hi : i < ds.length
      · rw [List.getElem?_append_left (by simpa using hi), List.getElem?_map, List.getElem?_eq_getElem hi] at h1
        cases h1
      · rw [List.getElem?_append_right (by simpa using hi), List.getElem?_replicate] at h1
        split at h1 <;> cases h1
    have hst : L2.start N (.ref x :: vs') = some (.ref x) :: L2.start (N.drop 1) vs' := by
      unfold L2.start
      have e1 : N.length - (vs'.length + 1) = (N.length - 1) - vs'.length := by omega
      simp [e1]
    have R : Rel K mg G H (.ow (.obj c []) :: (ds.map .sh ++ List.replicate (N.length - 1 - m) .no)) (L2.start N (.ref x :: vs')) := by
      rw [hst]
      exact R0.cons_own gx ⟨C, dx, [], mc, hx, .nil⟩ key
    refine ⟨G, _, x, G, rmv H x, ⟨R, ⟨.of fun b o e => (rmv_some e).2, .refl _, sG, fun _ _ _ g => g⟩, fun i a d h1 h2 => ?_, fun i c fs h1 => ?_⟩, ?_⟩
    · cases i with
      | zero =>
        rw [hst] at h2
        simp at h2
        subst h2
        unfold rmv
        rw [if_pos rfl]
      | succ i => exact absurd (by simpa using h1) (key i d)
    · cases i with
      | zero => rw [hst]; rfl
      | succ i => exact absurd (by simpa using h1) (key i _)
    · revert p
      unfold outI
      cases g (.ow (.obj c []) :: (ds.map .sh ++ List.replicate (N.length - 1 - m) .no)) with
      | st => exact id
      | ex c => exact fun p C' G' H' y mm => p C' G' H' y.hh y.gg y.gh (fun b o e hb g => y.nc b o (by rw [rmv_ne hb]; exact e) g) mm
      | ok r =>
        simp only [bd_ok]
        cases r with
        | nx ρ =>
          intro p σ G' H' B
          simp only at p
          cases hs : self0 ρ with
          | st => rw [hs] at p; exact p.elim
          | ex c => exact (self0_ex hs).elim
          | ok d =>
            rw [hs] at p
            obtain ⟨c2, fs, rfl, hq⟩ := self0_ok hs
            obtain ⟨o, ho, a, rfl, ga, ow⟩ := B.rel.get hq
            have e1 := B.self 0 c2 fs hq
            rw [ho] at e1
            cases e1
            exact p G' H' B.ext.hh B.ext.gg B.ext.gh (fun b o e hb g => B.ext.nc b o (by rw [rmv_ne hb]; exact e) g) ga ow
        | rt d => exact fun p => p.elim
        | bk ρ => exact fun p => p.elim
        | ct ρ => exact fun p => p.elim
theorem initD_ok {x qual c : Str} {pa : Arguments} {bd : List Stmt} {sc : Scope} {dvs : List V} {kws : List (Str × V)} {f : Addr} {fd : FuncData} {N ps : List Str} {k m : Nat} {g : En → Oc Res} (F : FunD K x qual pa bd sc dvs kws f fd) (S : FnScope N ps sc) (hps : ps.length = m + 1)
    (hb : ∀ (cdv : Value) (A : Around) (outer : List Env) (s : Shared) (H : Hp) (E : XK), fd.code = cdv → Room k (A.deeper (envOfC qual sc s.heap.objs.size f cdv)) → Ctx (cxOf (L2.CX P w) P w K mg base N qual sc f cdv A outer s H E) (up E) →
      SSs (cxOf (L2.CX P w) P w K mg base N qual sc f cdv A outer s H E) E false bd g) : FnOk P w K mg base (L2.CX P w) (k + 1) f fd ps (spI K mg c m (fnI c (N.length - 1) m g)) := by
  obtain ⟨oc, od, dV, kV, doc, pm, an, cdv, ct, osl, rfl, lk, hcd, _, _⟩ := F.ex
  refine fn_of lk hcd S (fun vs H Q E h => h.1.trans hps.symm) fun A outer s H vs Q E hr h => ?_
  exact ⟨_, hb cdv A outer s H E rfl hr (ctx_def S hr), init_start S hps h⟩
end
end Fx
namespace Fx
open PySem PySem.Spec PyProof.Rows L2
section
variable {X : Cx} {W : WX} {a b c e : Expr} {f g h : En → Oc D} {pos : Pos}
def chn (f g h : En → Oc D) : En → Oc D := fun ρ => bd (f ρ) fun x => bd (g ρ) fun y => bd (cmpD (fun i j => decide (i ≤ j)) x y) fun z => match z with
  | .bl true => bd (h ρ) fun w => cmpD (fun i j => decide (i ≤ j)) y w
  | .bl false => .ok (.bl false)
  | _ => .st
theorem cmpD_ok {q : Int → Int → Bool} {x y z : D} (h : cmpD q x y = .ok z) : ∃ i j, x = .int i ∧ y = .int j ∧ z = .bl (q i j) := by
  unfold cmpD at h
  split at h
  · cases h; exact ⟨_, _, rfl, rfl, rfl⟩
  · cases h
theorem cmpD_ex {q : Int → Int → Bool} {x y : D} {c : Str} (h : cmpD q x y = .ex c) : False := by
  unfold cmpD at h
  split at h <;> cases h
theorem se_chain (ha : SQ X W a f) (hb : SQ X W b g) (hc : SQ X W c h) (hm : lastMarks [.LtE, .LtE] [b, c] = false := by with_unfolding_all rfl) : SE X W (.Compare a [.LtE, .LtE] [b, c] pos) (chn f g h) :=
  PE.weak (pe_chain op_le op_le ha hb hc hm) fun σ H Q ⟨G, ρ, R, p⟩ => by
  refine ⟨G, ρ, R, ?_⟩
  revert p
  unfold chn
  cases f ρ with
  | st => exact id
  | ex c => exact id
  | ok d1 =>
    intro p x G1 H1 x1 r1
    refine ⟨G1, ρ, R.ext x1, ?_⟩
    revert p
    simp only [bd_ok]
    cases g ρ with
    | st => exact id
    | ex c => exact fun p C G' H' e m => p C G' H' (x1.trans e) m
    | ok d2 =>
      intro p y G2 H2 x2 r2
      simp only [bd_ok] at p
      cases hz : cmpD (fun i j => decide (i ≤ j)) d1 d2 with
      | st => rw [hz] at p; exact p.elim
      | ex c => exact (cmpD_ex hz).elim
      | ok z =>
        rw [hz] at p
        obtain ⟨i, j, rfl, rfl, rfl⟩ := cmpD_ok hz
        refine ⟨i, j, RepQ.int (RepQ.ext x2 r1), RepQ.int (K := X.K) (mg := X.mg) r2, _, rfl, ?_⟩
        simp only [bd_ok] at p
        cases hd : decide (i ≤ j) with
        | false =>
          rw [hd] at p
          simp only [Bool.false_eq_true, if_false]
          exact p _ G2 H2 (x1.trans x2) (.bl _)
        | true =>
          rw [hd] at p
          simp only [if_true]
          refine ⟨G2, ρ, (R.ext x1).ext x2, ?_⟩
          revert p
          simp only
          cases h ρ with
          | st => exact id
          | ex c => exact fun p C G' H' e m => p C G' H' ((x1.trans x2).trans e) m
          | ok d3 =>
            intro p w' G3 H3 x3 r3
            simp only [bd_ok] at p
            cases hw : cmpD (fun i j => decide (i ≤ j)) (.int j) d3 with
            | st => rw [hw] at p; exact p.elim
            | ex c => exact (cmpD_ex hw).elim
            | ok z2 =>
              rw [hw] at p
              obtain ⟨j2, k, e1, rfl, rfl⟩ := cmpD_ok hw
              cases e1
              exact ⟨j, k, RepQ.int (RepQ.ext x3 r2), RepQ.int (K := X.K) (mg := X.mg) r3, p _ G3 H3 ((x1.trans x2).trans x3) (.bl _)⟩
end
end Fx

set_option Elab.async false
set_option linter.all false
set_option maxRecDepth 100000
set_option maxHeartbeats 4000000
/-! Fx12: max, min; the end of a law. -/
namespace Fx
open PySem PySem.Spec PyProof.Rows L2
section
variable {X : Cx} {W : WX} {a b c e : Expr} {es : List Expr} {fs : En → Oc (List D)} {pos p : Pos}
theorem se_max2 (hc : X.calm = true) (hg : Gl X "max") (hm : X.mg "max" = none) (ha : SA X W (e :: es) fs)
    (he : starEach (e :: es) X.env = (false, eval e X.env) :: starEach es X.env := by rfl) (hpl : (backTo pos (starEach es X.env)).any (·.1) = false := by rfl) : SE X W (.Call (.Name "max" p) (e :: es) [] pos) (unA maxM fs) :=
  se_callB (call_max2 hc) hg hm (by decide +kernel) (fun {U G H vs ds Q} s r q => by
    unfold maxM at q
    split at q
    · cases r with
      | cons r1 r => cases r with
        | cons r2 r => cases r; cases r1; cases r2; exact ⟨_, _, rfl, q.here s (.int _)⟩
    · exact q.elim) ha (by decide) (by decide) he hpl
theorem se_min2 (hc : X.calm = true) (hg : Gl X "min") (hm : X.mg "min" = none) (ha : SA X W (e :: es) fs)
    (he : starEach (e :: es) X.env = (false, eval e X.env) :: starEach es X.env := by rfl) (hpl : (backTo pos (starEach es X.env)).any (·.1) = false := by rfl) : SE X W (.Call (.Name "min" p) (e :: es) [] pos) (unA minM fs) :=
  se_callB (call_min2 hc) hg hm (by decide +kernel) (fun {U G H vs ds Q} s r q => by
    unfold minM at q
    split at q
    · cases r with
      | cons r1 r => cases r with
        | cons r2 r => cases r; cases r1; cases r2; exact ⟨_, _, rfl, q.here s (.int _)⟩
    · exact q.elim) ha (by decide) (by decide) he hpl
end
section
variable {X : Cx} {W : WX} {x : Str} {p : Pos}
theorem se_cS {z : Str} (hg : Gl X x) (h : ∃ t, X.mg x = some (.str z t)) (hdb : (x == ("__debug__" : Str)) = false := by decide) : SE X W (.Name x p) (cst (.str z)) := by
  obtain ⟨t, h⟩ := h
  exact se_cst (pe_glob (v := .str z) hg h ⟨t, rfl⟩ (hd := hdb)) fun _ => .str _
theorem se_cI {i : Int} (hg : Gl X x) (h : ∃ t, X.mg x = some (.int i t)) (hdb : (x == ("__debug__" : Str)) = false := by decide) : SE X W (.Name x p) (cst (.int i)) := by
  obtain ⟨t, h⟩ := h
  exact se_cst (pe_glob (v := .int i) hg h ⟨t, rfl⟩ (hd := hdb)) fun _ => .int _
end
/-! ### the end -/
def tabAll (tf : List He.Defn) (K : PySem.W.Frag) : Bool := K.all fun q => match q.2.data with
  | .fields vs => (match (vs[11]? : Option Value) with
    | some (.ref P) => (K.lookup P).isSome || (tf.map (He.cT K)).contains (q.1, P)
    | _ => true)
  | _ => true
theorem tabAll_ok {tf : List He.Defn} {K : PySem.W.Frag} (h : tabAll tf K = true) {c P : Addr} (h1 : PySem.W.codeHdIn K c P = true) (h2 : K.lookup P = none) : (c, P) ∈ tf.map (He.cT K) := by
  unfold PySem.W.codeHdIn at h1
  split at h1
  · rename_i vs _ hk
    simp only [Bool.and_eq_true] at h1
    obtain ⟨⟨⟨⟨⟨e1, _⟩, _⟩, _⟩, _⟩, _⟩ := h1
    split at e1
    · rename_i P' hP
      obtain rfl : P' = P := beq_iff_eq.mp e1
      have z := List.all_eq_true.mp h _ (He.lookup_mem hk)
      simp only [hP, h2, Option.isSome_none, Bool.false_or] at z
      exact List.contains_iff_mem.mp z
    · cases e1
  · cases h1
def spLawT (K : PySem.W.Frag) : Sp := fun vs H Q _ => ∃ (a : Addr) (ns : List Int), vs = [.ref a] ∧ SqL K H a (ns.map V.int) ∧ ns.length ≤ 63 ∧ (∀ P, IsTab K P → H P = some (.tbl #[])) ∧ ∀ H', Q (.bl true) H'
theorem repL_intsT {K : PySem.W.Frag} {mg : Str → Option Value} {G : Hp} : ∀ ns : List Int, RepL K mg G (ns.map V.int) (ns.map D.int)
  | [] => .nil
  | n :: ns => .cons (.int n) (repL_intsT ns)
theorem law_impT {K : PySem.W.Frag} {mg : Str → Option Value} {F : List D → Oc D} (hF : ∀ ns : List Int, ns.length ≤ 63 → F [.fz (ns.map .int)] = .ok (.bl true)) (vs : List V) (H : Hp) (Q : VK) (E : XK) (h : spLawT K vs H Q E) : spF K mg 1 F vs H Q E := by
  obtain ⟨a, ns, rfl, hS, hl, ht, q⟩ := h
  let G : Hp := fun b => match H b with
    | some (.tbl _) => none
    | o => o
  have sG : Same G H := fun b o e => by
    have e : (match H b with | some (.tbl _) => none | o => o) = some o := e
    split at e
    · cases e
    · exact e
  have tG : Tabs K G H := fun P hP => by
    have e := ht P hP
    refine ⟨⟨#[], e, True.intro⟩, ?_⟩
    show (match H P with | some (.tbl _) => none | o => o) = none
    rw [e]
  have hSG : SqL K G a (ns.map V.int) := by
    rcases hS with (h | ⟨o, h⟩) | h
    · refine .inl (.inl ?_)
      show (match H a with | some (.tbl _) => none | o => o) = _
      rw [h]
    · refine .inl (.inr ⟨o, ?_⟩)
      show (match H a with | some (.tbl _) => none | o => o) = _
      rw [h]
    · exact .inr h
  refine ⟨rfl, G, [.fz (ns.map .int)], sG, tG, .cons (.fz hSG (repL_intsT ns)) .nil, ?_⟩
  rw [hF ns hl]
  intro v G' H' x r
  cases r
  exact q H'
theorem code_of {K : PySem.W.Frag} {x qual : Str} {pa : Arguments} {bd : List Stmt} {sc : Scope} {dvs : List V} {kws : List (Str × V)} {p : He.Defn} {fd : FuncData} (F : FunD K x qual pa bd sc dvs kws (He.fAd K p) fd) : fd.code = .ref (He.codeOf K p) := by
  obtain ⟨oc, od, dV, kV, doc, pm, an, cdv, ct, osl, rfl, lk, hcd, _, _⟩ := F.ex
  obtain ⟨c, rfl⟩ := He.codeIn_ref hcd
  rw [He.codeOf_eq lk rfl]
theorem law_atT {l : PySem.W.OpenLaw} {w : World} {K : PySem.W.Frag} {mg : Str → Option Value} {fa : Addr} {h : Heap} {fas : List He.Fa} {fns : List He.DefD} {tf : List He.Defn} {k : Nat} {x : Str} {fd : FuncData} {F : List D → Oc D} (KX : K.In h) (c : He.SaysX fas fns [] tf (tabAll tf) w h K)
    (hb : ∀ (s : Shared) (u : Value), BindsTo s fd ⟨[u], []⟩ [(x, u)]) (hF : ∀ ns : List Int, ns.length ≤ 63 → F [.fz (ns.map .int)] = .ok (.bl true))
    (ok : ∀ base : Heap, K.In base → base.Ns mainGlobals mg → Tbs K mg base → FnOk l.prog w K mg base (L2.CX l.prog w) k fa fd [x] (spF K mg 1 F)) : LamX.LawAtS l w K (L2.CX l.prog w) k 63 x mg fa h := by
  have mem : ∀ {q : Addr × Addr}, q ∈ tf.map (He.cT K) → ∃ p ∈ tf, He.cT K p = q := fun {q} hq => List.mem_map.mp hq
  refine ⟨fd, tf.map (He.cT K), spLawT K, fun q hq => ?_, fun q hq => ?_, fun q hq => ?_, hb, fun H a ns hl _ hT hS => ⟨a, ns, rfl, hS, hl, fun P hP => ?_, fun _ => rfl⟩, fun base KB NB TB => ?_⟩
  · obtain ⟨p, hp, rfl⟩ := mem hq; exact c.empty p hp
  · obtain ⟨p, hp, rfl⟩ := mem hq; exact c.out p hp
  · obtain ⟨p, hp, rfl⟩ := mem hq; exact PySem.W.codeHd_of_K KX (c.hd p hp)
  · obtain ⟨h2, cc, h1⟩ := hP
    exact hT _ (tabAll_ok c.more h1 h2)
  · exact (ok base KB NB fun cc P h1 h2 => (let t := TB _ (tabAll_ok c.more h1 h2); ⟨t.code, t.bm, t.gP⟩)).imp fun vs H Q E h => law_impT hF vs H Q E h
end Fx

set_option Elab.async false
set_option linter.all false
set_option maxRecDepth 100000
set_option maxHeartbeats 4000000
/-! Fx13: evaluation of the later combinators. -/
namespace Fx
open PySem PySem.Spec PyProof.Rows L2
@[simp] theorem outF_rt (d : D) : outF (.ok (.rt d)) = .ok d := id rfl
@[simp] theorem outF_ex (c : Str) : outF (.ex c) = .ex c := id rfl
@[simp] theorem fnF_ap (n m : Nat) (g : En → Oc Res) (ds : List D) : fnF n m g ds = chk (decide (ds.length = m)) (outF (g (ds.map .sh ++ List.replicate (n - m) .no))) := id rfl
def retOR : Option Sl → Oc Res
  | some (.ow d) => .ok (.rt d)
  | _ => .st
@[simp] theorem retO_ap (i : Nat) (ρ : En) : retO i ρ = retOR ρ[i]? := by
  unfold retO retOR
  split <;> first | rfl | (split <;> simp_all)
@[simp] theorem retOR_ow (d : D) : retOR (some (.ow d)) = .ok (.rt d) := id rfl
@[simp] theorem unA_ap (F : List D → Oc D) (fs : En → Oc (List D)) (ρ : En) : unA F fs ρ = bd (fs ρ) F := id rfl
@[simp] theorem maxM_ints (i j : Int) : maxM [.int i, .int j] = .ok (.int (if j > i then j else i)) := id rfl
@[simp] theorem minM_ints (i j : Int) : minM [.int i, .int j] = .ok (.int (if j < i then j else i)) := id rfl
@[simp] theorem rsx_ap (c : Str) (ρ : En) : rsx c ρ = .ex c := id rfl
@[simp] theorem ga_ap (T : Tg) (own : List Nat) (neg : Bool) (src : En → Oc (List D)) (el : En → Oc D) (ρ : En) : ga T own neg src el ρ = bd (src ρ) fun ds => gaL T own neg el ρ ds := id rfl
def chnR (h : En → Oc D) (ρ : En) (y : D) : Oc D → Oc D
  | .ok (.bl true) => bd (h ρ) fun w => cmpD (fun i j => decide (i ≤ j)) y w
  | .ok (.bl false) => .ok (.bl false)
  | .ex c => .ex c
  | _ => .st
theorem chn_ints {f g h : En → Oc D} {ρ : En} {i j k : Int} (h1 : f ρ = .ok (.int i)) (h2 : g ρ = .ok (.int j)) (h3 : h ρ = .ok (.int k)) : chn f g h ρ = .ok (.bl (decide (i ≤ j) && decide (j ≤ k))) := by
  unfold chn
  simp only [h1, h2, h3, bd_ok, cmpD_int]
  cases decide (i ≤ j) <;> rfl
theorem gaL_all {T : Tg} {own : List Nat} {el : En → Oc D} {ρ : En} {α : Type} {f : α → D} {p : α → Bool} : ∀ {xs : List α}, (∀ x ∈ xs, ∃ ρ1, bindT T (f x) (wipeE ρ own) = .ok ρ1 ∧ el ρ1 = .ok (.bl (p x))) → gaL T own false el ρ (xs.map f) = .ok (.bl (xs.all p))
  | [], _ => rfl
  | x :: xs, h => by
    obtain ⟨ρ1, h1, h2⟩ := h x List.mem_cons_self
    rw [List.map_cons]
    unfold gaL
    rw [h1, noex_ok, bd_ok, h2, noex_ok, bd_ok]
    simp only [List.all_cons]
    cases p x with
    | false => rfl
    | true => exact gaL_all fun y hy => h y (List.mem_cons_of_mem _ hy)
theorem gaL_any {T : Tg} {own : List Nat} {el : En → Oc D} {ρ : En} {α : Type} {f : α → D} {p : α → Bool} : ∀ {xs : List α}, (∀ x ∈ xs, ∃ ρ1, bindT T (f x) (wipeE ρ own) = .ok ρ1 ∧ el ρ1 = .ok (.bl (p x))) → gaL T own true el ρ (xs.map f) = .ok (.bl (xs.any p))
  | [], _ => rfl
  | x :: xs, h => by
    obtain ⟨ρ1, h1, h2⟩ := h x List.mem_cons_self
    rw [List.map_cons]
    unfold gaL
    rw [h1, noex_ok, bd_ok, h2, noex_ok, bd_ok]
    simp only [List.any_cons]
    cases p x with
    | true => rfl
    | false => exact gaL_any fun y hy => h y (List.mem_cons_of_mem _ hy)
def exsAR (g : En → Oc D) (ρ : En) : Oc D → Oc Res
  | .ok (.lst ds) => bd (g ρ) fun _ => chk (decide (ds.length < sizeLine)) (.ok (.nx ρ))
  | .ex c => .ex c
  | _ => .st
@[simp] theorem exsA_ap (f g : En → Oc D) (ρ : En) : exsA f g ρ = exsAR g ρ (f ρ) := by
  unfold exsA exsAR
  cases f ρ with
  | st => rfl
  | ex c => rfl
  | ok d => cases d <;> rfl
@[simp] theorem exsAR_lst (g : En → Oc D) (ρ : En) (ds : List D) : exsAR g ρ (.ok (.lst ds)) = bd (g ρ) fun _ => chk (decide (ds.length < sizeLine)) (.ok (.nx ρ)) := id rfl
@[simp] theorem countM_strs (k : Str) (ys : List Str) : countM (.lst (ys.map .str)) [.str k] = .ok (.int (countIn (.str k) (ys.map PyData.str))) := by
  have e : strsD (ys.map D.str) = some ys := by
    induction ys with
    | nil => rfl
    | cons y ys ih => simp [strsD, ih]
  unfold countM
  simp only [e]
end Fx

set_option Elab.async false
set_option linter.all false
set_option maxRecDepth 100000
set_option maxHeartbeats 4000000
namespace Lw
open PySem PySem.Spec PyProof.Rows L2 Fx
def topS (i : Nat) : Stmt := PySem.Challenge.pw_caseslive_k03_windows.main.body.getD i (.Pass ⟨0, 0, 0, 0⟩)
abbrev s_is_size : Stmt := topS 6
abbrev N_is_size : List Str := ["value"]
theorem sc_is_size : FnScope N_is_size ["value"] (defScope s_is_size) := ⟨rfl, rfl, rfl, by decide +kernel, rfl, by decide +kernel, by decide +kernel⟩
abbrev s_is_window : Stmt := topS 7
abbrev N_is_window : List Str := ["size", "window", "signs", "begins", "ends", "inner"]
theorem sc_is_window : FnScope N_is_window ["size", "window"] (defScope s_is_window) := ⟨rfl, rfl, rfl, by decide +kernel, rfl, by decide +kernel, by decide +kernel⟩
abbrev s_are_different : Stmt := topS 8
abbrev N_are_different : List Str := ["rows", "k"]
theorem sc_are_different : FnScope N_are_different ["rows"] (defScope s_are_different) := ⟨rfl, rfl, rfl, by decide +kernel, rfl, by decide +kernel, by decide +kernel⟩
abbrev s_Process___init__ : Stmt := inClass (topS 9) 0
abbrev N_Process___init__ : List Str := ["self", "size", "windows", "rows", "window"]
theorem sc_Process___init__ : FnScope N_Process___init__ ["self", "size", "windows"] (defScope s_Process___init__) := ⟨rfl, rfl, rfl, by decide +kernel, rfl, by decide +kernel, by decide +kernel⟩
abbrev s_marked : Stmt := topS 10
abbrev N_marked : List Str := ["size", "trace"]
theorem sc_marked : FnScope N_marked ["size", "trace"] (defScope s_marked) := ⟨rfl, rfl, rfl, by decide +kernel, rfl, by decide +kernel, by decide +kernel⟩
abbrev s_neighbors : Stmt := topS 11
abbrev N_neighbors : List Str := ["size", "signs", "k"]
theorem sc_neighbors : FnScope N_neighbors ["size", "signs"] (defScope s_neighbors) := ⟨rfl, rfl, rfl, by decide +kernel, rfl, by decide +kernel, by decide +kernel⟩
abbrev s_windows_of : Stmt := topS 12
abbrev N_windows_of : List Str := ["size", "trace", "result", "window"]
theorem sc_windows_of : FnScope N_windows_of ["size", "trace"] (defScope s_windows_of) := ⟨rfl, rfl, rfl, by decide +kernel, rfl, by decide +kernel, by decide +kernel⟩
abbrev s_allows : Stmt := topS 13
abbrev N_allows : List Str := ["process", "trace", "window"]
theorem sc_allows : FnScope N_allows ["process", "trace"] (defScope s_allows) := ⟨rfl, rfl, rfl, by decide +kernel, rfl, by decide +kernel, by decide +kernel⟩
abbrev s_tail_of : Stmt := topS 14
abbrev N_tail_of : List Str := ["size", "trace", "signs"]
theorem sc_tail_of : FnScope N_tail_of ["size", "trace"] (defScope s_tail_of) := ⟨rfl, rfl, rfl, by decide +kernel, rfl, by decide +kernel, by decide +kernel⟩
abbrev s_next_tail : Stmt := topS 15
abbrev N_next_tail : List Str := ["tail", "activity"]
theorem sc_next_tail : FnScope N_next_tail ["tail", "activity"] (defScope s_next_tail) := ⟨rfl, rfl, rfl, by decide +kernel, rfl, by decide +kernel, by decide +kernel⟩
abbrev s_next_tails : Stmt := topS 16
abbrev N_next_tails : List Str := ["process", "names", "tail", "result", "activity"]
theorem sc_next_tails : FnScope N_next_tails ["process", "names", "tail"] (defScope s_next_tails) := ⟨rfl, rfl, rfl, by decide +kernel, rfl, by decide +kernel, by decide +kernel⟩
abbrev s_closing : Stmt := topS 17
abbrev N_closing : List Str := ["tail", "size"]
theorem sc_closing : FnScope N_closing ["tail"] (defScope s_closing) := ⟨rfl, rfl, rfl, by decide +kernel, rfl, by decide +kernel, by decide +kernel⟩
abbrev s_can_stop : Stmt := topS 18
abbrev N_can_stop : List Str := ["process", "tail", "window"]
theorem sc_can_stop : FnScope N_can_stop ["process", "tail"] (defScope s_can_stop) := ⟨rfl, rfl, rfl, by decide +kernel, rfl, by decide +kernel, by decide +kernel⟩
abbrev s__law_cell : Stmt := topS 20
abbrev N__law_cell : List Str := ["_law_script", "_law_k"]
theorem sc__law_cell : FnScope N__law_cell ["_law_script", "_law_k"] (defScope s__law_cell) := ⟨rfl, rfl, rfl, by decide +kernel, rfl, by decide +kernel, by decide +kernel⟩
abbrev s__law_row : Stmt := topS 21
abbrev N__law_row : List Str := ["_law_cell_here", "_law_count", "_law_row_here", "_law_rest", "_law_seed", "_law_k"]
theorem sc__law_row : FnScope N__law_row ["_law_cell_here", "_law_count"] (defScope s__law_row) := ⟨rfl, rfl, rfl, by decide +kernel, rfl, by decide +kernel, by decide +kernel⟩
abbrev s__law_word : Stmt := topS 22
abbrev N__law_word : List Str := ["_law_number", "_law_letters", "_law_word_here"]
theorem sc__law_word : FnScope N__law_word ["_law_number"] (defScope s__law_word) := ⟨rfl, rfl, rfl, by decide +kernel, rfl, by decide +kernel, by decide +kernel⟩
abbrev s__law_names : Stmt := topS 23
abbrev N__law_names : List Str := ["_law_cell_here", "_law_row_here", "_law_names_here", "_law_k", "_law_word_here"]
theorem sc__law_names : FnScope N__law_names ["_law_cell_here"] (defScope s__law_names) := ⟨rfl, rfl, rfl, by decide +kernel, rfl, by decide +kernel, by decide +kernel⟩
abbrev s__law_trace : Stmt := topS 24
abbrev N__law_trace : List Str := ["_law_names_here", "_law_cell_here", "_law_size", "_law_number"]
theorem sc__law_trace : FnScope N__law_trace ["_law_names_here", "_law_cell_here", "_law_size"] (defScope s__law_trace) := ⟨rfl, rfl, rfl, by decide +kernel, rfl, by decide +kernel, by decide +kernel⟩
abbrev s__law_traces : Stmt := topS 25
abbrev N__law_traces : List Str := ["_law_names_here", "_law_cell_here", "_law_count", "_law_size", "_law_row_here", "_law_traces_here", "_law_at", "_law_k", "_law_length", "_law_number"]
theorem sc__law_traces : FnScope N__law_traces ["_law_names_here", "_law_cell_here", "_law_count", "_law_size"] (defScope s__law_traces) := ⟨rfl, rfl, rfl, by decide +kernel, rfl, by decide +kernel, by decide +kernel⟩
abbrev s__law_neighbors : Stmt := topS 26
abbrev N__law_neighbors : List Str := ["_law_size", "_law_signs", "_law_k"]
theorem sc__law_neighbors : FnScope N__law_neighbors ["_law_size", "_law_signs"] (defScope s__law_neighbors) := ⟨rfl, rfl, rfl, by decide +kernel, rfl, by decide +kernel, by decide +kernel⟩
abbrev s__law_windows : Stmt := topS 27
abbrev N__law_windows : List Str := ["_law_size", "_law_trace_here", "_law_found", "_law_marks", "_law_ends", "_law_window", "_law_k"]
theorem sc__law_windows : FnScope N__law_windows ["_law_size", "_law_trace_here"] (defScope s__law_windows) := ⟨rfl, rfl, rfl, by decide +kernel, rfl, by decide +kernel, by decide +kernel⟩
abbrev s__law_allows : Stmt := topS 28
abbrev N__law_allows : List Str := ["_law_size", "_law_windows_here", "_law_trace_here", "_law_window"]
theorem sc__law_allows : FnScope N__law_allows ["_law_size", "_law_windows_here", "_law_trace_here"] (defScope s__law_allows) := ⟨rfl, rfl, rfl, by decide +kernel, rfl, by decide +kernel, by decide +kernel⟩
abbrev s__law_tail : Stmt := topS 29
abbrev N__law_tail : List Str := ["_law_size", "_law_trace_here", "_law_signs", "_law_k"]
theorem sc__law_tail : FnScope N__law_tail ["_law_size", "_law_trace_here"] (defScope s__law_tail) := ⟨rfl, rfl, rfl, by decide +kernel, rfl, by decide +kernel, by decide +kernel⟩
abbrev s__law_stops : Stmt := topS 30
abbrev N__law_stops : List Str := ["_law_size", "_law_windows_here", "_law_tail_here", "_law_signs", "_law_k", "_law_window"]
theorem sc__law_stops : FnScope N__law_stops ["_law_size", "_law_windows_here", "_law_tail_here"] (defScope s__law_stops) := ⟨rfl, rfl, rfl, by decide +kernel, rfl, by decide +kernel, by decide +kernel⟩
abbrev s__law_next : Stmt := topS 31
abbrev N__law_next : List Str := ["_law_windows_here", "_law_names_here", "_law_tail_here", "_law_name"]
theorem sc__law_next : FnScope N__law_next ["_law_windows_here", "_law_names_here", "_law_tail_here"] (defScope s__law_next) := ⟨rfl, rfl, rfl, by decide +kernel, rfl, by decide +kernel, by decide +kernel⟩
abbrev s__law_drawn_windows : Stmt := topS 32
abbrev N__law_drawn_windows : List Str := ["_law_size", "_law_names_here", "_law_cell_here", "_law_count", "_law_found", "_law_trace_here", "_law_window"]
theorem sc__law_drawn_windows : FnScope N__law_drawn_windows ["_law_size", "_law_names_here", "_law_cell_here", "_law_count"] (defScope s__law_drawn_windows) := ⟨rfl, rfl, rfl, by decide +kernel, rfl, by decide +kernel, by decide +kernel⟩
abbrev s__law_goes : Stmt := topS 33
abbrev N__law_goes : List Str := ["_law_process", "_law_names_here", "_law_size", "_law_trace_here", "_law_tail_here", "_law_activity", "_law_following", "_law_pair"]
theorem sc__law_goes : FnScope N__law_goes ["_law_process", "_law_names_here", "_law_size", "_law_trace_here"] (defScope s__law_goes) := ⟨rfl, rfl, rfl, by decide +kernel, rfl, by decide +kernel, by decide +kernel⟩
abbrev s_law : Stmt := topS 34
abbrev N_law : List Str := ["_law_script", "_law_names_here", "_law_size", "_law_windows_here", "_law_process", "_law_drawn", "_law_trace_here", "_law_given", "_law_tail_here", "_law_lists", "_law_due", "_law_cell_here"]
theorem sc_law : FnScope N_law ["_law_script"] (defScope s_law) := ⟨rfl, rfl, rfl, by decide +kernel, rfl, by decide +kernel, by decide +kernel⟩
structure Facts (K : PySem.W.Frag) (mg : Str → Option Value) : Prop where
  m_all : mg "all" = none
  m_bool : mg "bool" = none
  m_int : mg "int" = none
  m_isinstance : mg "isinstance" = none
  m_len : mg "len" = none
  m_list : mg "list" = none
  m_range : mg "range" = none
  m_tuple : mg "tuple" = none
  c_BEGIN : ∃ t, mg "BEGIN" = some (.str "<" t)
  c_END : ∃ t, mg "END" = some (.str ">" t)
  x_InvalidProcess : ExcK K mg "InvalidProcess"
  a_size : ∀ c ∈ [("Process" : Str)], ClsA K mg "size" c
  a_windows : ∀ c ∈ [("Process" : Str)], ClsA K mg "windows" c
  s_Process_size : ∀ c ∈ [("Process" : Str)], ClsA K mg "size" c
  s_Process_windows : ∀ c ∈ [("Process" : Str)], ClsA K mg "windows" c
  f_is_size : ∃ f fd, FunD K "is_size" "is_size" (defArgs s_is_size) (defBody s_is_size) (defScope s_is_size) [] [] f fd ∧ mg "is_size" = some (.ref f)
  f_is_window : ∃ f fd, FunD K "is_window" "is_window" (defArgs s_is_window) (defBody s_is_window) (defScope s_is_window) [] [] f fd ∧ mg "is_window" = some (.ref f)
  f_are_different : ∃ f fd, FunD K "are_different" "are_different" (defArgs s_are_different) (defBody s_are_different) (defScope s_are_different) [] [] f fd ∧ mg "are_different" = some (.ref f) ∧ ∃ c P, fd.code = .ref c ∧ PySem.W.codeHdIn K c P = true ∧ K.lookup P = none
  f_Process___init__ : ∃ C f fd, Mk K C f ∧ FunD K "__init__" "Process.__init__" (defArgs s_Process___init__) (defBody s_Process___init__) (defScope s_Process___init__) [] [] f fd ∧ mg "Process" = some (.ref C) ∧ ∃ c P, fd.code = .ref c ∧ PySem.W.codeHdIn K c P = true ∧ K.lookup P = none
  f_marked : ∃ f fd, FunD K "marked" "marked" (defArgs s_marked) (defBody s_marked) (defScope s_marked) [] [] f fd ∧ mg "marked" = some (.ref f)
  f_neighbors : ∃ f fd, FunD K "neighbors" "neighbors" (defArgs s_neighbors) (defBody s_neighbors) (defScope s_neighbors) [] [] f fd ∧ mg "neighbors" = some (.ref f)
  f_windows_of : ∃ f fd, FunD K "windows_of" "windows_of" (defArgs s_windows_of) (defBody s_windows_of) (defScope s_windows_of) [] [] f fd ∧ mg "windows_of" = some (.ref f)
  f_allows : ∃ f fd, FunD K "allows" "allows" (defArgs s_allows) (defBody s_allows) (defScope s_allows) [] [] f fd ∧ mg "allows" = some (.ref f) ∧ ∃ c P, fd.code = .ref c ∧ PySem.W.codeHdIn K c P = true ∧ K.lookup P = none
  f_tail_of : ∃ f fd, FunD K "tail_of" "tail_of" (defArgs s_tail_of) (defBody s_tail_of) (defScope s_tail_of) [] [] f fd ∧ mg "tail_of" = some (.ref f)
  f_next_tail : ∃ f fd, FunD K "next_tail" "next_tail" (defArgs s_next_tail) (defBody s_next_tail) (defScope s_next_tail) [] [] f fd ∧ mg "next_tail" = some (.ref f)
  f_next_tails : ∃ f fd, FunD K "next_tails" "next_tails" (defArgs s_next_tails) (defBody s_next_tails) (defScope s_next_tails) [] [] f fd ∧ mg "next_tails" = some (.ref f)
  f_closing : ∃ f fd, FunD K "closing" "closing" (defArgs s_closing) (defBody s_closing) (defScope s_closing) [] [] f fd ∧ mg "closing" = some (.ref f)
  f_can_stop : ∃ f fd, FunD K "can_stop" "can_stop" (defArgs s_can_stop) (defBody s_can_stop) (defScope s_can_stop) [] [] f fd ∧ mg "can_stop" = some (.ref f) ∧ ∃ c P, fd.code = .ref c ∧ PySem.W.codeHdIn K c P = true ∧ K.lookup P = none
  f__law_cell : ∃ f fd, FunD K "_law_cell" "_law_cell" (defArgs s__law_cell) (defBody s__law_cell) (defScope s__law_cell) [] [] f fd ∧ mg "_law_cell" = some (.ref f)
  f__law_row : ∃ f fd, FunD K "_law_row" "_law_row" (defArgs s__law_row) (defBody s__law_row) (defScope s__law_row) [] [] f fd ∧ mg "_law_row" = some (.ref f)
  f__law_word : ∃ f fd, FunD K "_law_word" "_law_word" (defArgs s__law_word) (defBody s__law_word) (defScope s__law_word) [] [] f fd ∧ mg "_law_word" = some (.ref f)
  f__law_names : ∃ f fd, FunD K "_law_names" "_law_names" (defArgs s__law_names) (defBody s__law_names) (defScope s__law_names) [] [] f fd ∧ mg "_law_names" = some (.ref f)
  f__law_trace : ∃ f fd, FunD K "_law_trace" "_law_trace" (defArgs s__law_trace) (defBody s__law_trace) (defScope s__law_trace) [] [] f fd ∧ mg "_law_trace" = some (.ref f)
  f__law_traces : ∃ f fd, FunD K "_law_traces" "_law_traces" (defArgs s__law_traces) (defBody s__law_traces) (defScope s__law_traces) [] [] f fd ∧ mg "_law_traces" = some (.ref f)
  f__law_neighbors : ∃ f fd, FunD K "_law_neighbors" "_law_neighbors" (defArgs s__law_neighbors) (defBody s__law_neighbors) (defScope s__law_neighbors) [] [] f fd ∧ mg "_law_neighbors" = some (.ref f)
  f__law_windows : ∃ f fd, FunD K "_law_windows" "_law_windows" (defArgs s__law_windows) (defBody s__law_windows) (defScope s__law_windows) [] [] f fd ∧ mg "_law_windows" = some (.ref f)
  f__law_allows : ∃ f fd, FunD K "_law_allows" "_law_allows" (defArgs s__law_allows) (defBody s__law_allows) (defScope s__law_allows) [] [] f fd ∧ mg "_law_allows" = some (.ref f)
  f__law_tail : ∃ f fd, FunD K "_law_tail" "_law_tail" (defArgs s__law_tail) (defBody s__law_tail) (defScope s__law_tail) [] [] f fd ∧ mg "_law_tail" = some (.ref f)
  f__law_stops : ∃ f fd, FunD K "_law_stops" "_law_stops" (defArgs s__law_stops) (defBody s__law_stops) (defScope s__law_stops) [] [] f fd ∧ mg "_law_stops" = some (.ref f)
  f__law_next : ∃ f fd, FunD K "_law_next" "_law_next" (defArgs s__law_next) (defBody s__law_next) (defScope s__law_next) [] [] f fd ∧ mg "_law_next" = some (.ref f)
  f__law_drawn_windows : ∃ f fd, FunD K "_law_drawn_windows" "_law_drawn_windows" (defArgs s__law_drawn_windows) (defBody s__law_drawn_windows) (defScope s__law_drawn_windows) [] [] f fd ∧ mg "_law_drawn_windows" = some (.ref f)
  f__law_goes : ∃ f fd, FunD K "_law_goes" "_law_goes" (defArgs s__law_goes) (defBody s__law_goes) (defScope s__law_goes) [] [] f fd ∧ mg "_law_goes" = some (.ref f)
section
variable {P : Program} {w : World} {K : PySem.W.Frag} {mg : Str → Option Value} {base : Heap}
noncomputable def g_is_size : En → Oc Res :=
  (ret (anV (un (isiD "int") (vo 0)) (anV (ntV (un (isiD "bool") (vo 0))) (chn (cst (.int 1)) (vo 0) (cst (.int 3))))))
noncomputable def F_is_size : List D → Oc D := fnB 1 1 g_is_size
theorem K_is_size (T : Facts K mg) (TB : Tbs K mg base) : Kn P w K mg base 1 "is_size" 1 [] F_is_size := by
  obtain ⟨f, fd, F, gm⟩ := T.f_is_size
  refine ⟨f, fd, ["value"], [], [], fnD_ok (N := N_is_size) (k := 0) F sc_is_size (fun cdv A outer s H E hc hr C => ?_), gm, F.kp, (F.bindsN fun _ _ _ _ _ _ us hl => match us, hl with | [_], _ => rfl), .nil, fun _ => .nil⟩
  have hp := po_def (P := P) (w := w) (K := K) (mg := mg) (base := base) (N := N_is_size) (qual := "is_size") (sc := defScope s_is_size) (f := f) (cdv := cdv) (A := A) (outer := outer) (s := s) (H := H) (E := E)
  exact (ss_one (ss_ret (se_and (se_isi (T := "int") (by rfl) T.m_isinstance (by rfl) T.m_int (by decide +kernel) (sq_var (pv 0))) (se_and (se_not (se_isi (T := "bool") (by rfl) T.m_isinstance (by rfl) T.m_bool (by decide +kernel) (sq_var (pv 0)))) (se_one (se_chain (SE.toQ se_int) (sq_var (pv 0)) (SE.toQ se_int)))))))
noncomputable def g_is_window : En → Oc Res :=
  (sq (iff (tst (bi neD (un lenD (vo 1)) (vo 0))) (ret (cst (.bl false))) sNx)
  (sq (asg 2 (un listD (vo 1)))
  (sq (asg 3 (mtD isLst countM (vo 2) (aC (cst (.str "<")) aN)))
  (sq (asg 4 (mtD isLst countM (vo 2) (aC (cst (.str ">")) aN)))
  (sq (iff (orr (tst (bi (cmpD fun i j => decide (j ≤ i)) (vo 3) (vo 0))) (tst (bi (cmpD fun i j => decide (j ≤ i)) (vo 4) (vo 0)))) (ret (cst (.bl false))) sNx)
  (sq (asg 5 (slc (vo 2) (some (vr 3)) (some (bi subD (vo 0) (vo 4)))))
  (ret (anV (bi eqD (vo 2) (bi addD (bi addD (bi mulD (lsd (aC (cst (.str "<")) aN)) (vo 3)) (vo 5)) (bi mulD (lsd (aC (cst (.str ">")) aN)) (vo 4)))) (anV (bi ninD (cst (.str "<")) (vo 5)) (bi ninD (cst (.str ">")) (vo 5)))))))))))
noncomputable def F_is_window : List D → Oc D := fnB 6 2 g_is_window
theorem K_is_window (T : Facts K mg) (TB : Tbs K mg base) : Kn P w K mg base 1 "is_window" 2 [] F_is_window := by
  obtain ⟨f, fd, F, gm⟩ := T.f_is_window
  refine ⟨f, fd, ["size", "window"], [], [], fnD_ok (N := N_is_window) (k := 0) F sc_is_window (fun cdv A outer s H E hc hr C => ?_), gm, F.kp, (F.bindsN fun _ _ _ _ _ _ us hl => match us, hl with | [_, _], _ => rfl), .nil, fun _ => .nil⟩
  have hp := po_def (P := P) (w := w) (K := K) (mg := mg) (base := base) (N := N_is_window) (qual := "is_window") (sc := defScope s_is_window) (f := f) (cdv := cdv) (A := A) (outer := outer) (s := s) (H := H) (E := E)
  exact (ss_cons (ss_if (st_ne (SE.toQ (se_len (by rfl) T.m_len (sq_var (pv 1)))) (sq_var (pv 0)) C.units) (ss_one (ss_ret se_bl)) ss_nil)
  (ss_cons (ss_set (i := 2) C rfl (by first | exact Or.inl rfl | exact Or.inr rfl) (SF.toE (sf_list (by rfl) T.m_list (sq_var (pv 1)))))
  (ss_cons (ss_set (i := 3) C rfl (by first | exact Or.inl rfl | exact Or.inr rfl) (se_count (sq_var (pv 2)) (sa_cons (se_cS (by rfl) T.c_BEGIN) sa_nil)))
  (ss_cons (ss_set (i := 4) C rfl (by first | exact Or.inl rfl | exact Or.inr rfl) (se_count (sq_var (pv 2)) (sa_cons (se_cS (by rfl) T.c_END) sa_nil)))
  (ss_cons (ss_if (st_of (sw_or (st_ge (sq_var (pv 3)) (sq_var (pv 0))) (sw_or1 (st_ge (sq_var (pv 4)) (sq_var (pv 0)))))) (ss_one (ss_ret se_bl)) ss_nil)
  (ss_cons (ss_set (i := 5) C rfl (by first | exact Or.inl rfl | exact Or.inr rfl) (se_sl (sq_var (pv 2)) (so_some (se_var (pv 3))) (so_some (se_sub (sq_var (pv 0)) (sq_var (pv 4))))))
  (ss_one (ss_ret (se_and (se_eq (sq_var (pv 2)) (SE.toQ (se_add (SE.toQ (se_add (SE.toQ (se_mul (SE.toQ (SF.toE (sf_lst (sa_cons (se_cS (by rfl) T.c_BEGIN) sa_nil)))) (sq_var (pv 3)))) (sq_var (pv 5)))) (SE.toQ (se_mul (SE.toQ (SF.toE (sf_lst (sa_cons (se_cS (by rfl) T.c_END) sa_nil)))) (sq_var (pv 4)))))) C.units) (se_and (se_nin (SE.toQ (se_cS (by rfl) T.c_BEGIN)) (sq_var (pv 5)) C.units) (se_one (se_nin (SE.toQ (se_cS (by rfl) T.c_END)) (sq_var (pv 5)) C.units))))))))))))
noncomputable def g_are_different : En → Oc Res :=
  (ret (ga (.one 1) [1] false (rng1 (aC (un lenD (vo 0)) aN)) (bi ninD (bi ixD (vo 0) (vo 1)) (slc (vo 0) none (some (vr 1))))))
noncomputable def F_are_different : List D → Oc D := fnB 2 1 g_are_different
theorem K_are_different (T : Facts K mg) (TB : Tbs K mg base) : Kn P w K mg base 2 "are_different" 1 [] F_are_different := by
  obtain ⟨f, fd, F, gm, c0, P0, hcd, h1, h2⟩ := T.f_are_different
  refine ⟨f, fd, ["rows"], [], [], fnD_ok (N := N_are_different) (k := 1) F sc_are_different (fun cdv A outer s H E hc hr C => ?_), gm, F.kp, (F.bindsN fun _ _ _ _ _ _ us hl => match us, hl with | [_], _ => rfl), .nil, fun _ => .nil⟩
  have hp := po_def (P := P) (w := w) (K := K) (mg := mg) (base := base) (N := N_are_different) (qual := "are_different") (sc := defScope s_are_different) (f := f) (cdv := cdv) (A := A) (outer := outer) (s := s) (H := H) (E := E)
  obtain rfl : cdv = .ref c0 := hc.symm.trans hcd
  have tb : ∀ {X : Cx}, X.K = K → X.mg = mg → X.base = base → TbOk X c0 P0 := fun e1 e2 e3 => by
    cases e1; cases e2; cases e3
    exact ⟨TB c0 P0 h1 h2, h2, c0, h1⟩
  exact (ss_one (ss_ret (se_allG C hr (by rfl) T.m_all (tb rfl rfl rfl) rfl (blkOk_by (own := [("k", 1)]) (N := N_are_different) (sc := defScope s_are_different) (by decide +kernel)) (by decide +kernel) (by decide +kernel) rfl (si_rng1 (by rfl) T.m_range (sa_cons (se_len (by rfl) T.m_len (sq_var (pv 0))) sa_nil)) (fun _ _ _ _ _ _ => (st_one (Ctx.gen C hr _ _ _ _ _).nd rfl (by first | exact Or.inl rfl | exact Or.inr rfl))) (fun _ _ _ _ _ _ => (se_nin (SE.toQ (se_ix (sq_var (pv 0)) (sq_var (pv 1)) (fun _ _ => rfl))) (SE.toQ (se_sl (sq_var (pv 0)) so_none (so_some (se_var (pv 1))))) (Ctx.gen C hr _ _ _ _ _).units)) (by decide))))
noncomputable def g_Process___init__ : En → Oc Res :=
  (sq (asg 3 (un tupleD (lc (.one 4) [4] (itm (vr 2)) yes (un tupleD (vo 4)))))
  (sq (iff (nt (tst (cal F_is_size 1 [] (aC (vr 1) aN)))) (rsx "InvalidProcess") sNx)
  (sq (iff (orr (nt (tst (ga (.one 4) [4] false (itm (vr 3)) (cal F_is_window 2 [] (aC (vr 1) (aC (vr 4) aN)))))) (nt (tst (cal F_are_different 1 [] (aC (vr 3) aN))))) (rsx "InvalidProcess") sNx)
  (sq (setF 0 [("Process" : Str)] "size" (vr 1))
  (setF 0 [("Process" : Str)] "windows" (vr 3))))))
noncomputable def F_Process___init__ : List D → Oc D := fnI "Process" 4 2 g_Process___init__
theorem K_Process___init__ (T : Facts K mg) (TB : Tbs K mg base) : KnC P w K mg base 3 "Process" 2 [] F_Process___init__ := by
  obtain ⟨Cl, f, fd, mk, F, gm, c0, P0, hcd, h1, h2⟩ := T.f_Process___init__
  have K_are_different := K_are_different (P := P) (w := w) (base := base) T TB
  have K_is_size := K_is_size (P := P) (w := w) (base := base) T TB
  have K_is_window := K_is_window (P := P) (w := w) (base := base) T TB
  refine ⟨Cl, f, fd, ["self", "size", "windows"], [], [], mk, initD_ok (N := N_Process___init__) (k := 2) F sc_Process___init__ rfl (fun cdv A outer s H E hc hr C => ?_), gm, (F.bindsN fun _ _ _ _ _ _ us hl => match us, hl with | [_, _, _], _ => rfl), .nil, fun _ => .nil⟩
  have hp := po_def (P := P) (w := w) (K := K) (mg := mg) (base := base) (N := N_Process___init__) (qual := "Process.__init__") (sc := defScope s_Process___init__) (f := f) (cdv := cdv) (A := A) (outer := outer) (s := s) (H := H) (E := E)
  obtain rfl : cdv = .ref c0 := hc.symm.trans hcd
  have tb : ∀ {X : Cx}, X.K = K → X.mg = mg → X.base = base → TbOk X c0 P0 := fun e1 e2 e3 => by
    cases e1; cases e2; cases e3
    exact ⟨TB c0 P0 h1 h2, h2, c0, h1⟩
  exact (ss_cons (ss_set (i := 3) C rfl (by first | exact Or.inl rfl | exact Or.inr rfl) (se_tuple (by rfl) T.m_tuple (SE.toQ (SF.toE (sf_lc C (si_seq (se_var (pv 2))) (blkOk_by (own := [("window", 4)]) (N := N_Process___init__) (sc := defScope s_Process___init__) (by decide +kernel)) (fun _ _ _ _ _ => (st_one (Ctx.blk C _ _ _ _ _).nd rfl (by first | exact Or.inl rfl | exact Or.inr rfl))) (fun _ _ _ _ _ => sts_nil) (fun _ _ _ _ _ => (se_tuple (by rfl) T.m_tuple (sq_var (pv 4)))) (by decide))))))
  (ss_cons (ss_if (st_not (st_val (se_call K_is_size C (hr.mono (by decide)) (by rfl) (sa_cons (se_var (pv 1)) sa_nil)))) (ss_one (ss_raise C T.x_InvalidProcess (by rfl))) ss_nil)
  (ss_cons (ss_if (st_of (sw_or (st_not (st_val (se_allG C hr (by rfl) T.m_all (tb rfl rfl rfl) rfl (blkOk_by (own := [("window", 4)]) (N := N_Process___init__) (sc := defScope s_Process___init__) (by decide +kernel)) (by decide +kernel) (by decide +kernel) rfl (si_seq (se_var (pv 3))) (fun _ _ _ _ _ _ => (st_one (Ctx.gen C hr _ _ _ _ _).nd rfl (by first | exact Or.inl rfl | exact Or.inr rfl))) (fun _ _ _ _ _ _ => (se_call K_is_window (Ctx.gen C hr _ _ _ _ _) (room_gen (k := 1) (hr.mono (by decide)) _) (by rfl) (sa_cons (se_var (pv 1)) (sa_cons (se_var (pv 4)) sa_nil)))) (by decide)))) (sw_or1 (st_not (st_val (se_call K_are_different C (hr.mono (by decide)) (by rfl) (sa_cons (se_var (pv 3)) sa_nil))))))) (ss_one (ss_raise C T.x_InvalidProcess (by rfl))) ss_nil)
  (ss_cons (ss_setF (cs := [("Process" : Str)]) (T.s_Process_size) (pv 0) (se_var (pv 1)))
  (ss_one (ss_setF (cs := [("Process" : Str)]) (T.s_Process_windows) (pv 0) (se_var (pv 3))))))))
noncomputable def g_marked : En → Oc Res :=
  (ret (bi addD (bi addD (bi mulD (lsd (aC (cst (.str "<")) aN)) (bi subD (vo 0) (cst (.int 1)))) (un listD (vo 1))) (bi mulD (lsd (aC (cst (.str ">")) aN)) (bi subD (vo 0) (cst (.int 1))))))
noncomputable def F_marked : List D → Oc D := fnB 2 2 g_marked
theorem K_marked (T : Facts K mg) (TB : Tbs K mg base) : Kn P w K mg base 1 "marked" 2 [] F_marked := by
  obtain ⟨f, fd, F, gm⟩ := T.f_marked
  refine ⟨f, fd, ["size", "trace"], [], [], fnD_ok (N := N_marked) (k := 0) F sc_marked (fun cdv A outer s H E hc hr C => ?_), gm, F.kp, (F.bindsN fun _ _ _ _ _ _ us hl => match us, hl with | [_, _], _ => rfl), .nil, fun _ => .nil⟩
  have hp := po_def (P := P) (w := w) (K := K) (mg := mg) (base := base) (N := N_marked) (qual := "marked") (sc := defScope s_marked) (f := f) (cdv := cdv) (A := A) (outer := outer) (s := s) (H := H) (E := E)
  exact (ss_one (ss_ret (se_add (SE.toQ (se_add (SE.toQ (se_mul (SE.toQ (SF.toE (sf_lst (sa_cons (se_cS (by rfl) T.c_BEGIN) sa_nil)))) (SE.toQ (se_sub (sq_var (pv 0)) (SE.toQ se_int))))) (SE.toQ (SF.toE (sf_list (by rfl) T.m_list (sq_var (pv 1))))))) (SE.toQ (se_mul (SE.toQ (SF.toE (sf_lst (sa_cons (se_cS (by rfl) T.c_END) sa_nil)))) (SE.toQ (se_sub (sq_var (pv 0)) (SE.toQ se_int))))))))
noncomputable def g_neighbors : En → Oc Res :=
  (ret (lc (.one 2) [2] (rng1 (aC (bi addD (bi subD (un lenD (vo 1)) (vo 0)) (cst (.int 1))) aN)) yes (un tupleD (slc (vo 1) (some (vr 2)) (some (bi addD (vo 2) (vo 0)))))))
noncomputable def F_neighbors : List D → Oc D := fnF 3 2 g_neighbors
theorem KF_neighbors (T : Facts K mg) (TB : Tbs K mg base) : KnF P w K mg base 1 "neighbors" 2 [] F_neighbors := by
  obtain ⟨f, fd, F, gm⟩ := T.f_neighbors
  refine ⟨f, fd, ["size", "signs"], [], [], fnF_ok (N := N_neighbors) (k := 0) F sc_neighbors (fun cdv A outer s H E hc hr C => ?_), gm, F.kp, (F.bindsN fun _ _ _ _ _ _ us hl => match us, hl with | [_, _], _ => rfl), .nil, fun _ => .nil⟩
  have hp := po_def (P := P) (w := w) (K := K) (mg := mg) (base := base) (N := N_neighbors) (qual := "neighbors") (sc := defScope s_neighbors) (f := f) (cdv := cdv) (A := A) (outer := outer) (s := s) (H := H) (E := E)
  exact (ss_one (ss_retF (sf_lc C (si_rng1 (by rfl) T.m_range (sa_cons (se_add (SE.toQ (se_sub (SE.toQ (se_len (by rfl) T.m_len (sq_var (pv 1)))) (sq_var (pv 0)))) (SE.toQ se_int)) sa_nil)) (blkOk_by (own := [("k", 2)]) (N := N_neighbors) (sc := defScope s_neighbors) (by decide +kernel)) (fun _ _ _ _ _ => (st_one (Ctx.blk C _ _ _ _ _).nd rfl (by first | exact Or.inl rfl | exact Or.inr rfl))) (fun _ _ _ _ _ => sts_nil) (fun _ _ _ _ _ => (se_tuple (by rfl) T.m_tuple (SE.toQ (se_sl (sq_var (pv 1)) (so_some (se_var (pv 2))) (so_some (se_add (sq_var (pv 2)) (sq_var (pv 0)))))))) (by decide))))
theorem K_neighbors (T : Facts K mg) (TB : Tbs K mg base) : Kn P w K mg base 1 "neighbors" 2 [] F_neighbors := (KF_neighbors T TB).kn
noncomputable def g_windows_of : En → Oc Res :=
  (sq (asgO 2 (lsd aN))
  (sq (fr (.one 3) (itm (cal F_neighbors 2 [] (aC (vr 0) (aC (cal F_marked 2 [] (aC (vr 0) (aC (vr 1) aN))) aN)))) (iff (tst (bi ninD (vo 3) (vo 2))) (app 2 (vr 3)) sNx))
  (retO 2)))
noncomputable def F_windows_of : List D → Oc D := fnF 4 2 g_windows_of
theorem KF_windows_of (T : Facts K mg) (TB : Tbs K mg base) : KnF P w K mg base 2 "windows_of" 2 [] F_windows_of := by
  obtain ⟨f, fd, F, gm⟩ := T.f_windows_of
  have K_marked := K_marked (P := P) (w := w) (base := base) T TB
  have K_neighbors := K_neighbors (P := P) (w := w) (base := base) T TB
  have KF_neighbors := KF_neighbors (P := P) (w := w) (base := base) T TB
  refine ⟨f, fd, ["size", "trace"], [], [], fnF_ok (N := N_windows_of) (k := 1) F sc_windows_of (fun cdv A outer s H E hc hr C => ?_), gm, F.kp, (F.bindsN fun _ _ _ _ _ _ us hl => match us, hl with | [_, _], _ => rfl), .nil, fun _ => .nil⟩
  have hp := po_def (P := P) (w := w) (K := K) (mg := mg) (base := base) (N := N_windows_of) (qual := "windows_of") (sc := defScope s_windows_of) (f := f) (cdv := cdv) (A := A) (outer := outer) (s := s) (H := H) (E := E)
  exact (ss_cons (ss_setO (i := 2) C rfl (by first | exact Or.inl rfl | exact Or.inr rfl) (sf_lst sa_nil))
  (ss_cons (ss_for C hp (si_seq (se_call K_neighbors C (hr.mono (by decide)) (by rfl) (sa_cons (se_var (pv 0)) (sa_cons (se_call K_marked C (hr.mono (by decide)) (by rfl) (sa_cons (se_var (pv 0)) (sa_cons (se_var (pv 1)) sa_nil))) sa_nil)))) (st_one C.nd rfl (by first | exact Or.inl rfl | exact Or.inr rfl)) (ss_one (ss_if (st_nin (sq_var (pv 3)) (sq_var (pv 2)) C.units) (ss_one (ss_app (pv 2) (se_var (pv 3)))) ss_nil)))
  (ss_one (ss_retO (pv 2)))))
theorem K_windows_of (T : Facts K mg) (TB : Tbs K mg base) : Kn P w K mg base 2 "windows_of" 2 [] F_windows_of := (KF_windows_of T TB).kn
noncomputable def g_allows : En → Oc Res :=
  (ret (ga (.one 2) [2] false (itm (cal F_windows_of 2 [] (aC (un (fldD [("Process" : Str)] "size") (vo 0)) (aC (vr 1) aN)))) (bi inD (vo 2) (un (fldD [("Process" : Str)] "windows") (vo 0)))))
noncomputable def F_allows : List D → Oc D := fnB 3 2 g_allows
theorem K_allows (T : Facts K mg) (TB : Tbs K mg base) : Kn P w K mg base 3 "allows" 2 [] F_allows := by
  obtain ⟨f, fd, F, gm, c0, P0, hcd, h1, h2⟩ := T.f_allows
  have K_windows_of := K_windows_of (P := P) (w := w) (base := base) T TB
  have KF_windows_of := KF_windows_of (P := P) (w := w) (base := base) T TB
  refine ⟨f, fd, ["process", "trace"], [], [], fnD_ok (N := N_allows) (k := 2) F sc_allows (fun cdv A outer s H E hc hr C => ?_), gm, F.kp, (F.bindsN fun _ _ _ _ _ _ us hl => match us, hl with | [_, _], _ => rfl), .nil, fun _ => .nil⟩
  have hp := po_def (P := P) (w := w) (K := K) (mg := mg) (base := base) (N := N_allows) (qual := "allows") (sc := defScope s_allows) (f := f) (cdv := cdv) (A := A) (outer := outer) (s := s) (H := H) (E := E)
  obtain rfl : cdv = .ref c0 := hc.symm.trans hcd
  have tb : ∀ {X : Cx}, X.K = K → X.mg = mg → X.base = base → TbOk X c0 P0 := fun e1 e2 e3 => by
    cases e1; cases e2; cases e3
    exact ⟨TB c0 P0 h1 h2, h2, c0, h1⟩
  exact (ss_one (ss_ret (se_allG C hr (by rfl) T.m_all (tb rfl rfl rfl) rfl (blkOk_by (own := [("window", 2)]) (N := N_allows) (sc := defScope s_allows) (by decide +kernel)) (by decide +kernel) (by decide +kernel) rfl (si_seq (se_call K_windows_of C (hr.mono (by decide)) (by rfl) (sa_cons (se_fld (cs := [("Process" : Str)]) (T.a_size) (sq_var (pv 0))) (sa_cons (se_var (pv 1)) sa_nil)))) (fun _ _ _ _ _ _ => (st_one (Ctx.gen C hr _ _ _ _ _).nd rfl (by first | exact Or.inl rfl | exact Or.inr rfl))) (fun _ _ _ _ _ _ => (se_in (sq_var (pv 2)) (SE.toQ (se_fld (cs := [("Process" : Str)]) (T.a_windows) (sq_var (pv 0)))) (Ctx.gen C hr _ _ _ _ _).units)) (by decide))))
noncomputable def g_tail_of : En → Oc Res :=
  (sq (asg 2 (bi addD (bi mulD (lsd (aC (cst (.str "<")) aN)) (bi subD (vo 0) (cst (.int 1)))) (un listD (vo 1))))
  (ret (un tupleD (slc (vo 2) (some (bi addD (bi subD (un lenD (vo 2)) (vo 0)) (cst (.int 1)))) none))))
noncomputable def F_tail_of : List D → Oc D := fnB 3 2 g_tail_of
theorem K_tail_of (T : Facts K mg) (TB : Tbs K mg base) : Kn P w K mg base 1 "tail_of" 2 [] F_tail_of := by
  obtain ⟨f, fd, F, gm⟩ := T.f_tail_of
  refine ⟨f, fd, ["size", "trace"], [], [], fnD_ok (N := N_tail_of) (k := 0) F sc_tail_of (fun cdv A outer s H E hc hr C => ?_), gm, F.kp, (F.bindsN fun _ _ _ _ _ _ us hl => match us, hl with | [_, _], _ => rfl), .nil, fun _ => .nil⟩
  have hp := po_def (P := P) (w := w) (K := K) (mg := mg) (base := base) (N := N_tail_of) (qual := "tail_of") (sc := defScope s_tail_of) (f := f) (cdv := cdv) (A := A) (outer := outer) (s := s) (H := H) (E := E)
  exact (ss_cons (ss_set (i := 2) C rfl (by first | exact Or.inl rfl | exact Or.inr rfl) (se_add (SE.toQ (se_mul (SE.toQ (SF.toE (sf_lst (sa_cons (se_cS (by rfl) T.c_BEGIN) sa_nil)))) (SE.toQ (se_sub (sq_var (pv 0)) (SE.toQ se_int))))) (SE.toQ (SF.toE (sf_list (by rfl) T.m_list (sq_var (pv 1)))))))
  (ss_one (ss_ret (se_tuple (by rfl) T.m_tuple (SE.toQ (se_sl (sq_var (pv 2)) (so_some (se_add (SE.toQ (se_sub (SE.toQ (se_len (by rfl) T.m_len (sq_var (pv 2)))) (sq_var (pv 0)))) (SE.toQ se_int))) so_none))))))
noncomputable def g_next_tail : En → Oc Res :=
  (ret (slc (bi addD (vo 0) (tpl (aC (vr 1) aN))) (some (cst (.int 1))) none))
noncomputable def F_next_tail : List D → Oc D := fnB 2 2 g_next_tail
theorem K_next_tail (T : Facts K mg) (TB : Tbs K mg base) : Kn P w K mg base 1 "next_tail" 2 [] F_next_tail := by
  obtain ⟨f, fd, F, gm⟩ := T.f_next_tail
  refine ⟨f, fd, ["tail", "activity"], [], [], fnD_ok (N := N_next_tail) (k := 0) F sc_next_tail (fun cdv A outer s H E hc hr C => ?_), gm, F.kp, (F.bindsN fun _ _ _ _ _ _ us hl => match us, hl with | [_, _], _ => rfl), .nil, fun _ => .nil⟩
  have hp := po_def (P := P) (w := w) (K := K) (mg := mg) (base := base) (N := N_next_tail) (qual := "next_tail") (sc := defScope s_next_tail) (f := f) (cdv := cdv) (A := A) (outer := outer) (s := s) (H := H) (E := E)
  exact (ss_one (ss_ret (se_sl (SE.toQ (se_add (sq_var (pv 0)) (SE.toQ (se_tup (sa_cons (se_var (pv 1)) sa_nil))))) (so_some se_int) so_none)))
noncomputable def g_next_tails : En → Oc Res :=
  (sq (asg 2 (un tupleD (vo 2)))
  (sq (asgO 3 (lsd aN))
  (sq (fr (.one 4) (itm (vr 1)) (iff (tst (bi inD (bi addD (vo 2) (tpl (aC (vr 4) aN))) (un (fldD [("Process" : Str)] "windows") (vo 0)))) (app 3 (tpl (aC (vr 4) (aC (cal F_next_tail 2 [] (aC (vr 2) (aC (vr 4) aN))) aN)))) sNx))
  (retO 3))))
noncomputable def F_next_tails : List D → Oc D := fnF 5 3 g_next_tails
theorem KF_next_tails (T : Facts K mg) (TB : Tbs K mg base) : KnF P w K mg base 2 "next_tails" 3 [] F_next_tails := by
  obtain ⟨f, fd, F, gm⟩ := T.f_next_tails
  have K_next_tail := K_next_tail (P := P) (w := w) (base := base) T TB
  refine ⟨f, fd, ["process", "names", "tail"], [], [], fnF_ok (N := N_next_tails) (k := 1) F sc_next_tails (fun cdv A outer s H E hc hr C => ?_), gm, F.kp, (F.bindsN fun _ _ _ _ _ _ us hl => match us, hl with | [_, _, _], _ => rfl), .nil, fun _ => .nil⟩
  have hp := po_def (P := P) (w := w) (K := K) (mg := mg) (base := base) (N := N_next_tails) (qual := "next_tails") (sc := defScope s_next_tails) (f := f) (cdv := cdv) (A := A) (outer := outer) (s := s) (H := H) (E := E)
  exact (ss_cons (ss_set (i := 2) C rfl (by first | exact Or.inl rfl | exact Or.inr rfl) (se_tuple (by rfl) T.m_tuple (sq_var (pv 2))))
  (ss_cons (ss_setO (i := 3) C rfl (by first | exact Or.inl rfl | exact Or.inr rfl) (sf_lst sa_nil))
  (ss_cons (ss_for C hp (si_seq (se_var (pv 1))) (st_one C.nd rfl (by first | exact Or.inl rfl | exact Or.inr rfl)) (ss_one (ss_if (st_in (SE.toQ (se_add (sq_var (pv 2)) (SE.toQ (se_tup (sa_cons (se_var (pv 4)) sa_nil))))) (SE.toQ (se_fld (cs := [("Process" : Str)]) (T.a_windows) (sq_var (pv 0)))) C.units) (ss_one (ss_app (pv 3) (se_tup (sa_cons (se_var (pv 4)) (sa_cons (se_call K_next_tail C (hr.mono (by decide)) (by rfl) (sa_cons (se_var (pv 2)) (sa_cons (se_var (pv 4)) sa_nil))) sa_nil))))) ss_nil)))
  (ss_one (ss_retO (pv 3))))))
theorem K_next_tails (T : Facts K mg) (TB : Tbs K mg base) : Kn P w K mg base 2 "next_tails" 3 [] F_next_tails := (KF_next_tails T TB).kn
noncomputable def g_closing : En → Oc Res :=
  (sq (asg 1 (bi addD (un lenD (vo 0)) (cst (.int 1))))
  (ret (cal F_neighbors 2 [] (aC (vr 1) (aC (bi addD (un listD (vo 0)) (bi mulD (lsd (aC (cst (.str ">")) aN)) (bi subD (vo 1) (cst (.int 1))))) aN)))))
noncomputable def F_closing : List D → Oc D := fnF 2 1 g_closing
theorem KF_closing (T : Facts K mg) (TB : Tbs K mg base) : KnF P w K mg base 2 "closing" 1 [] F_closing := by
  obtain ⟨f, fd, F, gm⟩ := T.f_closing
  have K_neighbors := K_neighbors (P := P) (w := w) (base := base) T TB
  have KF_neighbors := KF_neighbors (P := P) (w := w) (base := base) T TB
  refine ⟨f, fd, ["tail"], [], [], fnF_ok (N := N_closing) (k := 1) F sc_closing (fun cdv A outer s H E hc hr C => ?_), gm, F.kp, (F.bindsN fun _ _ _ _ _ _ us hl => match us, hl with | [_], _ => rfl), .nil, fun _ => .nil⟩
  have hp := po_def (P := P) (w := w) (K := K) (mg := mg) (base := base) (N := N_closing) (qual := "closing") (sc := defScope s_closing) (f := f) (cdv := cdv) (A := A) (outer := outer) (s := s) (H := H) (E := E)
  exact (ss_cons (ss_set (i := 1) C rfl (by first | exact Or.inl rfl | exact Or.inr rfl) (se_add (SE.toQ (se_len (by rfl) T.m_len (sq_var (pv 0)))) (SE.toQ se_int)))
  (ss_one (ss_retF (sf_call KF_neighbors C (hr.mono (by decide)) (by rfl) (sa_cons (se_var (pv 1)) (sa_cons (se_add (SE.toQ (SF.toE (sf_list (by rfl) T.m_list (sq_var (pv 0))))) (SE.toQ (se_mul (SE.toQ (SF.toE (sf_lst (sa_cons (se_cS (by rfl) T.c_END) sa_nil)))) (SE.toQ (se_sub (sq_var (pv 1)) (SE.toQ se_int)))))) sa_nil))))))
theorem K_closing (T : Facts K mg) (TB : Tbs K mg base) : Kn P w K mg base 2 "closing" 1 [] F_closing := (KF_closing T TB).kn
noncomputable def g_can_stop : En → Oc Res :=
  (ret (ga (.one 2) [2] false (itm (cal F_closing 1 [] (aC (vr 1) aN))) (bi inD (vo 2) (un (fldD [("Process" : Str)] "windows") (vo 0)))))
noncomputable def F_can_stop : List D → Oc D := fnB 3 2 g_can_stop
theorem K_can_stop (T : Facts K mg) (TB : Tbs K mg base) : Kn P w K mg base 3 "can_stop" 2 [] F_can_stop := by
  obtain ⟨f, fd, F, gm, c0, P0, hcd, h1, h2⟩ := T.f_can_stop
  have K_closing := K_closing (P := P) (w := w) (base := base) T TB
  have KF_closing := KF_closing (P := P) (w := w) (base := base) T TB
  refine ⟨f, fd, ["process", "tail"], [], [], fnD_ok (N := N_can_stop) (k := 2) F sc_can_stop (fun cdv A outer s H E hc hr C => ?_), gm, F.kp, (F.bindsN fun _ _ _ _ _ _ us hl => match us, hl with | [_, _], _ => rfl), .nil, fun _ => .nil⟩
  have hp := po_def (P := P) (w := w) (K := K) (mg := mg) (base := base) (N := N_can_stop) (qual := "can_stop") (sc := defScope s_can_stop) (f := f) (cdv := cdv) (A := A) (outer := outer) (s := s) (H := H) (E := E)
  obtain rfl : cdv = .ref c0 := hc.symm.trans hcd
  have tb : ∀ {X : Cx}, X.K = K → X.mg = mg → X.base = base → TbOk X c0 P0 := fun e1 e2 e3 => by
    cases e1; cases e2; cases e3
    exact ⟨TB c0 P0 h1 h2, h2, c0, h1⟩
  exact (ss_one (ss_ret (se_allG C hr (by rfl) T.m_all (tb rfl rfl rfl) rfl (blkOk_by (own := [("window", 2)]) (N := N_can_stop) (sc := defScope s_can_stop) (by decide +kernel)) (by decide +kernel) (by decide +kernel) rfl (si_seq (se_call K_closing C (hr.mono (by decide)) (by rfl) (sa_cons (se_var (pv 1)) sa_nil))) (fun _ _ _ _ _ _ => (st_one (Ctx.gen C hr _ _ _ _ _).nd rfl (by first | exact Or.inl rfl | exact Or.inr rfl))) (fun _ _ _ _ _ _ => (se_in (sq_var (pv 2)) (SE.toQ (se_fld (cs := [("Process" : Str)]) (T.a_windows) (sq_var (pv 0)))) (Ctx.gen C hr _ _ _ _ _).units)) (by decide))))
noncomputable def g__law_cell : En → Oc Res :=
  (sq (iff (tst (bi (cmpD fun i j => decide (i < j)) (vo 1) (un lenD (vo 0)))) (ret (bi ixD (vo 0) (vo 1))) sNx)
  (ret (cst (.int 0))))
noncomputable def F__law_cell : List D → Oc D := fnB 2 2 g__law_cell
theorem K__law_cell (T : Facts K mg) (TB : Tbs K mg base) : Kn P w K mg base 1 "_law_cell" 2 [] F__law_cell := by
  obtain ⟨f, fd, F, gm⟩ := T.f__law_cell
  refine ⟨f, fd, ["_law_script", "_law_k"], [], [], fnD_ok (N := N__law_cell) (k := 0) F sc__law_cell (fun cdv A outer s H E hc hr C => ?_), gm, F.kp, (F.bindsN fun _ _ _ _ _ _ us hl => match us, hl with | [_, _], _ => rfl), .nil, fun _ => .nil⟩
  have hp := po_def (P := P) (w := w) (K := K) (mg := mg) (base := base) (N := N__law_cell) (qual := "_law_cell") (sc := defScope s__law_cell) (f := f) (cdv := cdv) (A := A) (outer := outer) (s := s) (H := H) (E := E)
  exact (ss_cons (ss_if (st_lt (sq_var (pv 1)) (SE.toQ (se_len (by rfl) T.m_len (sq_var (pv 0))))) (ss_one (ss_ret (se_ix (sq_var (pv 0)) (sq_var (pv 1)) (fun _ _ => rfl)))) ss_nil)
  (ss_one (ss_ret se_int)))
noncomputable def g__law_row : En → Oc Res :=
  (sq (asgO 2 (lsd aN))
  (sq (asg 3 (vr 0))
  (sq (asg 4 (bi addD (bi modD (un intD (vo 0)) (cst (.int 2147483629))) (cst (.int 1))))
  (sq (fr (.one 5) (rng1 (aC (vr 1) aN)) (iff (tst (bi (cmpD fun i j => decide (j ≤ i)) (vo 0) (bi powD (cst (.int 10)) (cst (.int 18))))) (sq (app 2 (bi modD (un intD (vo 3)) (cst (.int 840))))
  (asg 3 (bi fdivD (vo 3) (cst (.int 840))))) (sq (asg 4 (bi modD (un intD (bi addD (bi mulD (vo 4) (cst (.int 48271))) (vo 5))) (cst (.int 2147483647))))
  (app 2 (bi modD (bi fdivD (bi modD (un intD (bi mulD (vo 4) (cst (.int 69621)))) (cst (.int 2147483629))) (cst (.int 7))) (cst (.int 840)))))))
  (retO 2)))))
noncomputable def F__law_row : List D → Oc D := fnF 6 2 g__law_row
theorem KF__law_row (T : Facts K mg) (TB : Tbs K mg base) : KnF P w K mg base 1 "_law_row" 2 [] F__law_row := by
  obtain ⟨f, fd, F, gm⟩ := T.f__law_row
  refine ⟨f, fd, ["_law_cell_here", "_law_count"], [], [], fnF_ok (N := N__law_row) (k := 0) F sc__law_row (fun cdv A outer s H E hc hr C => ?_), gm, F.kp, (F.bindsN fun _ _ _ _ _ _ us hl => match us, hl with | [_, _], _ => rfl), .nil, fun _ => .nil⟩
  have hp := po_def (P := P) (w := w) (K := K) (mg := mg) (base := base) (N := N__law_row) (qual := "_law_row") (sc := defScope s__law_row) (f := f) (cdv := cdv) (A := A) (outer := outer) (s := s) (H := H) (E := E)
  exact (ss_cons (ss_setO (i := 2) C rfl (by first | exact Or.inl rfl | exact Or.inr rfl) (sf_lst sa_nil))
  (ss_cons (ss_set (i := 3) C rfl (by first | exact Or.inl rfl | exact Or.inr rfl) (se_var (pv 0)))
  (ss_cons (ss_set (i := 4) C rfl (by first | exact Or.inl rfl | exact Or.inr rfl) (se_add (SE.toQ (se_mod (SE.toQ (se_int1 (by rfl) T.m_int (sq_var (pv 0)))) (SE.toQ se_int))) (SE.toQ se_int)))
  (ss_cons (ss_for C hp (si_rng1 (by rfl) T.m_range (sa_cons (se_var (pv 1)) sa_nil)) (st_one C.nd rfl (by first | exact Or.inl rfl | exact Or.inr rfl)) (ss_one (ss_if (st_ge (sq_var (pv 0)) (SE.toQ (se_pow (SE.toQ se_int) (SE.toQ se_int)))) (ss_cons (ss_app (pv 2) (se_mod (SE.toQ (se_int1 (by rfl) T.m_int (sq_var (pv 3)))) (SE.toQ se_int)))
  (ss_one (ss_set (i := 3) C rfl (by first | exact Or.inl rfl | exact Or.inr rfl) (se_fdiv (sq_var (pv 3)) (SE.toQ se_int))))) (ss_cons (ss_set (i := 4) C rfl (by first | exact Or.inl rfl | exact Or.inr rfl) (se_mod (SE.toQ (se_int1 (by rfl) T.m_int (SE.toQ (se_add (SE.toQ (se_mul (sq_var (pv 4)) (SE.toQ se_int))) (sq_var (pv 5)))))) (SE.toQ se_int)))
  (ss_one (ss_app (pv 2) (se_mod (SE.toQ (se_fdiv (SE.toQ (se_mod (SE.toQ (se_int1 (by rfl) T.m_int (SE.toQ (se_mul (sq_var (pv 4)) (SE.toQ se_int))))) (SE.toQ se_int))) (SE.toQ se_int))) (SE.toQ se_int))))))))
  (ss_one (ss_retO (pv 2)))))))
theorem K__law_row (T : Facts K mg) (TB : Tbs K mg base) : Kn P w K mg base 1 "_law_row" 2 [] F__law_row := (KF__law_row T TB).kn
noncomputable def g__law_word : En → Oc Res :=
  (sq (asg 1 (cst (.str "abcdefghijklmnopqrstuvwxyz")))
  (sq (asg 2 (bi ixD (vo 1) (bi modD (vo 0) (cst (.int 26)))))
  (sq (iff (tst (bi (cmpD fun i j => decide (j < i)) (bi modD (bi fdivD (vo 0) (cst (.int 26))) (cst (.int 3))) (cst (.int 0)))) (asg 2 (bi addD (vo 2) (bi ixD (vo 1) (bi modD (bi fdivD (vo 0) (cst (.int 3))) (cst (.int 26)))))) sNx)
  (sq (iff (tst (bi eqD (bi modD (bi fdivD (vo 0) (cst (.int 26))) (cst (.int 3))) (cst (.int 2)))) (asg 2 (bi addD (bi addD (bi addD (vo 2) (bi ixD (vo 1) (bi modD (bi fdivD (vo 0) (cst (.int 5))) (cst (.int 26))))) (bi ixD (vo 1) (bi modD (bi fdivD (vo 0) (cst (.int 11))) (cst (.int 26))))) (bi ixD (vo 1) (bi modD (bi fdivD (vo 0) (cst (.int 2))) (cst (.int 26)))))) sNx)
  (ret (vr 2))))))
noncomputable def F__law_word : List D → Oc D := fnB 3 1 g__law_word
theorem K__law_word (T : Facts K mg) (TB : Tbs K mg base) : Kn P w K mg base 1 "_law_word" 1 [] F__law_word := by
  obtain ⟨f, fd, F, gm⟩ := T.f__law_word
  refine ⟨f, fd, ["_law_number"], [], [], fnD_ok (N := N__law_word) (k := 0) F sc__law_word (fun cdv A outer s H E hc hr C => ?_), gm, F.kp, (F.bindsN fun _ _ _ _ _ _ us hl => match us, hl with | [_], _ => rfl), .nil, fun _ => .nil⟩
  have hp := po_def (P := P) (w := w) (K := K) (mg := mg) (base := base) (N := N__law_word) (qual := "_law_word") (sc := defScope s__law_word) (f := f) (cdv := cdv) (A := A) (outer := outer) (s := s) (H := H) (E := E)
  exact (ss_cons (ss_set (i := 1) C rfl (by first | exact Or.inl rfl | exact Or.inr rfl) se_str)
  (ss_cons (ss_set (i := 2) C rfl (by first | exact Or.inl rfl | exact Or.inr rfl) (se_ix (sq_var (pv 1)) (SE.toQ (se_mod (sq_var (pv 0)) (SE.toQ se_int))) (fun _ _ => rfl)))
  (ss_cons (ss_if (st_gt (SE.toQ (se_mod (SE.toQ (se_fdiv (sq_var (pv 0)) (SE.toQ se_int))) (SE.toQ se_int))) (SE.toQ se_int)) (ss_one (ss_set (i := 2) C rfl (by first | exact Or.inl rfl | exact Or.inr rfl) (se_add (sq_var (pv 2)) (SE.toQ (se_ix (sq_var (pv 1)) (SE.toQ (se_mod (SE.toQ (se_fdiv (sq_var (pv 0)) (SE.toQ se_int))) (SE.toQ se_int))) (fun _ _ => rfl)))))) ss_nil)
  (ss_cons (ss_if (st_eq (SE.toQ (se_mod (SE.toQ (se_fdiv (sq_var (pv 0)) (SE.toQ se_int))) (SE.toQ se_int))) (SE.toQ se_int) C.units) (ss_one (ss_set (i := 2) C rfl (by first | exact Or.inl rfl | exact Or.inr rfl) (se_add (SE.toQ (se_add (SE.toQ (se_add (sq_var (pv 2)) (SE.toQ (se_ix (sq_var (pv 1)) (SE.toQ (se_mod (SE.toQ (se_fdiv (sq_var (pv 0)) (SE.toQ se_int))) (SE.toQ se_int))) (fun _ _ => rfl))))) (SE.toQ (se_ix (sq_var (pv 1)) (SE.toQ (se_mod (SE.toQ (se_fdiv (sq_var (pv 0)) (SE.toQ se_int))) (SE.toQ se_int))) (fun _ _ => rfl))))) (SE.toQ (se_ix (sq_var (pv 1)) (SE.toQ (se_mod (SE.toQ (se_fdiv (sq_var (pv 0)) (SE.toQ se_int))) (SE.toQ se_int))) (fun _ _ => rfl)))))) ss_nil)
  (ss_one (ss_ret (se_var (pv 2))))))))
noncomputable def g__law_names : En → Oc Res :=
  (sq (asg 1 (cal F__law_row 2 [] (aC (vr 0) (aC (cst (.int 6)) aN))))
  (sq (asgO 2 (lsd aN))
  (sq (fr (.one 3) (rng1 (aC (bi ixD (lsd (aC (cst (.int 1)) (aC (cst (.int 2)) (aC (cst (.int 2)) (aC (cst (.int 3)) (aC (cst (.int 3)) (aC (cst (.int 4)) (aC (cst (.int 2)) (aC (cst (.int 3)) (aC (cst (.int 5)) aN)))))))))) (bi modD (bi ixD (vo 1) (cst (.int 5))) (cst (.int 9)))) aN)) (sq (asg 4 (cal F__law_word 1 [] (aC (bi ixD (vo 1) (vo 3)) aN)))
  (sq (iff (tst (bi eqD (bi modD (bi fdivD (bi ixD (vo 1) (vo 3)) (cst (.int 50))) (cst (.int 6))) (cst (.int 5)))) (asg 4 (slc (bi addD (vo 4) (cst (.str "abcdefgh"))) none (some (bi addD (cst (.int 7)) (bi modD (bi ixD (vo 1) (vo 3)) (cst (.int 2))))))) sNx)
  (sq (iff (tst (bi inD (vo 4) (vo 2))) (asg 4 (slc (bi addD (vo 4) (cst (.str "q"))) (some (un negD (cst (.int 8)))) none)) sNx)
  (iff (tst (bi ninD (vo 4) (vo 2))) (app 2 (vr 4)) sNx)))))
  (retO 2))))
noncomputable def F__law_names : List D → Oc D := fnF 5 1 g__law_names
theorem KF__law_names (T : Facts K mg) (TB : Tbs K mg base) : KnF P w K mg base 2 "_law_names" 1 [] F__law_names := by
  obtain ⟨f, fd, F, gm⟩ := T.f__law_names
  have K__law_row := K__law_row (P := P) (w := w) (base := base) T TB
  have KF__law_row := KF__law_row (P := P) (w := w) (base := base) T TB
  have K__law_word := K__law_word (P := P) (w := w) (base := base) T TB
  refine ⟨f, fd, ["_law_cell_here"], [], [], fnF_ok (N := N__law_names) (k := 1) F sc__law_names (fun cdv A outer s H E hc hr C => ?_), gm, F.kp, (F.bindsN fun _ _ _ _ _ _ us hl => match us, hl with | [_], _ => rfl), .nil, fun _ => .nil⟩
  have hp := po_def (P := P) (w := w) (K := K) (mg := mg) (base := base) (N := N__law_names) (qual := "_law_names") (sc := defScope s__law_names) (f := f) (cdv := cdv) (A := A) (outer := outer) (s := s) (H := H) (E := E)
  exact (ss_cons (ss_set (i := 1) C rfl (by first | exact Or.inl rfl | exact Or.inr rfl) (se_call K__law_row C (hr.mono (by decide)) (by rfl) (sa_cons (se_var (pv 0)) (sa_cons se_int sa_nil))))
  (ss_cons (ss_setO (i := 2) C rfl (by first | exact Or.inl rfl | exact Or.inr rfl) (sf_lst sa_nil))
  (ss_cons (ss_for C hp (si_rng1 (by rfl) T.m_range (sa_cons (se_ix (SE.toQ (SF.toE (sf_lst (sa_cons se_int (sa_cons se_int (sa_cons se_int (sa_cons se_int (sa_cons se_int (sa_cons se_int (sa_cons se_int (sa_cons se_int (sa_cons se_int sa_nil)))))))))))) (SE.toQ (se_mod (SE.toQ (se_ix (sq_var (pv 1)) (SE.toQ se_int) (fun _ _ => rfl))) (SE.toQ se_int))) (fun _ _ => rfl)) sa_nil)) (st_one C.nd rfl (by first | exact Or.inl rfl | exact Or.inr rfl)) (ss_cons (ss_set (i := 4) C rfl (by first | exact Or.inl rfl | exact Or.inr rfl) (se_call K__law_word C (hr.mono (by decide)) (by rfl) (sa_cons (se_ix (sq_var (pv 1)) (sq_var (pv 3)) (fun _ _ => rfl)) sa_nil)))
  (ss_cons (ss_if (st_eq (SE.toQ (se_mod (SE.toQ (se_fdiv (SE.toQ (se_ix (sq_var (pv 1)) (sq_var (pv 3)) (fun _ _ => rfl))) (SE.toQ se_int))) (SE.toQ se_int))) (SE.toQ se_int) C.units) (ss_one (ss_set (i := 4) C rfl (by first | exact Or.inl rfl | exact Or.inr rfl) (se_sl (SE.toQ (se_add (sq_var (pv 4)) (SE.toQ se_str))) so_none (so_some (se_add (SE.toQ se_int) (SE.toQ (se_mod (SE.toQ (se_ix (sq_var (pv 1)) (sq_var (pv 3)) (fun _ _ => rfl))) (SE.toQ se_int)))))))) ss_nil)
  (ss_cons (ss_if (st_in (sq_var (pv 4)) (sq_var (pv 2)) C.units) (ss_one (ss_set (i := 4) C rfl (by first | exact Or.inl rfl | exact Or.inr rfl) (se_sl (SE.toQ (se_add (sq_var (pv 4)) (SE.toQ se_str))) (so_some (se_neg (SE.toQ se_int))) so_none))) ss_nil)
  (ss_one (ss_if (st_nin (sq_var (pv 4)) (sq_var (pv 2)) C.units) (ss_one (ss_app (pv 2) (se_var (pv 4)))) ss_nil))))))
  (ss_one (ss_retO (pv 2))))))
theorem K__law_names (T : Facts K mg) (TB : Tbs K mg base) : Kn P w K mg base 2 "_law_names" 1 [] F__law_names := (KF__law_names T TB).kn
noncomputable def g__law_trace : En → Oc Res :=
  (ret (lc (.one 3) [3] (itm (cal F__law_row 2 [] (aC (vr 1) (aC (vr 2) aN)))) yes (bi ixD (vo 0) (bi modD (vo 3) (un lenD (vo 0))))))
noncomputable def F__law_trace : List D → Oc D := fnF 4 3 g__law_trace
theorem KF__law_trace (T : Facts K mg) (TB : Tbs K mg base) : KnF P w K mg base 2 "_law_trace" 3 [] F__law_trace := by
  obtain ⟨f, fd, F, gm⟩ := T.f__law_trace
  have K__law_row := K__law_row (P := P) (w := w) (base := base) T TB
  have KF__law_row := KF__law_row (P := P) (w := w) (base := base) T TB
  refine ⟨f, fd, ["_law_names_here", "_law_cell_here", "_law_size"], [], [], fnF_ok (N := N__law_trace) (k := 1) F sc__law_trace (fun cdv A outer s H E hc hr C => ?_), gm, F.kp, (F.bindsN fun _ _ _ _ _ _ us hl => match us, hl with | [_, _, _], _ => rfl), .nil, fun _ => .nil⟩
  have hp := po_def (P := P) (w := w) (K := K) (mg := mg) (base := base) (N := N__law_trace) (qual := "_law_trace") (sc := defScope s__law_trace) (f := f) (cdv := cdv) (A := A) (outer := outer) (s := s) (H := H) (E := E)
  exact (ss_one (ss_retF (sf_lc C (si_seq (se_call K__law_row C (hr.mono (by decide)) (by rfl) (sa_cons (se_var (pv 1)) (sa_cons (se_var (pv 2)) sa_nil)))) (blkOk_by (own := [("_law_number", 3)]) (N := N__law_trace) (sc := defScope s__law_trace) (by decide +kernel)) (fun _ _ _ _ _ => (st_one (Ctx.blk C _ _ _ _ _).nd rfl (by first | exact Or.inl rfl | exact Or.inr rfl))) (fun _ _ _ _ _ => sts_nil) (fun _ _ _ _ _ => (se_ix (sq_var (pv 0)) (SE.toQ (se_mod (sq_var (pv 3)) (SE.toQ (se_len (by rfl) T.m_len (sq_var (pv 0)))))) (fun _ _ => rfl))) (by decide))))
theorem K__law_trace (T : Facts K mg) (TB : Tbs K mg base) : Kn P w K mg base 2 "_law_trace" 3 [] F__law_trace := (KF__law_trace T TB).kn
noncomputable def g__law_traces : En → Oc Res :=
  (sq (asg 4 (cal F__law_row 2 [] (aC (vr 1) (aC (cst (.int 40)) aN))))
  (sq (asgO 5 (lsd aN))
  (sq (asg 6 (vr 2))
  (sq (fr (.one 7) (rng1 (aC (vr 2) aN)) (sq (asg 8 (bi modD (bi ixD (vo 4) (vo 7)) (bi addD (vo 3) (cst (.int 1)))))
  (sq (app 5 (lc (.one 9) [9] (itm (slc (vo 4) (some (vr 6)) (some (bi addD (vo 6) (vo 8))))) yes (bi ixD (vo 0) (bi modD (vo 9) (un lenD (vo 0))))))
  (asg 6 (bi addD (vo 6) (vo 8))))))
  (retO 5)))))
noncomputable def F__law_traces : List D → Oc D := fnF 10 4 g__law_traces
theorem KF__law_traces (T : Facts K mg) (TB : Tbs K mg base) : KnF P w K mg base 2 "_law_traces" 4 [] F__law_traces := by
  obtain ⟨f, fd, F, gm⟩ := T.f__law_traces
  have K__law_row := K__law_row (P := P) (w := w) (base := base) T TB
  have KF__law_row := KF__law_row (P := P) (w := w) (base := base) T TB
  refine ⟨f, fd, ["_law_names_here", "_law_cell_here", "_law_count", "_law_size"], [], [], fnF_ok (N := N__law_traces) (k := 1) F sc__law_traces (fun cdv A outer s H E hc hr C => ?_), gm, F.kp, (F.bindsN fun _ _ _ _ _ _ us hl => match us, hl with | [_, _, _, _], _ => rfl), .nil, fun _ => .nil⟩
  have hp := po_def (P := P) (w := w) (K := K) (mg := mg) (base := base) (N := N__law_traces) (qual := "_law_traces") (sc := defScope s__law_traces) (f := f) (cdv := cdv) (A := A) (outer := outer) (s := s) (H := H) (E := E)
  exact (ss_cons (ss_set (i := 4) C rfl (by first | exact Or.inl rfl | exact Or.inr rfl) (se_call K__law_row C (hr.mono (by decide)) (by rfl) (sa_cons (se_var (pv 1)) (sa_cons se_int sa_nil))))
  (ss_cons (ss_setO (i := 5) C rfl (by first | exact Or.inl rfl | exact Or.inr rfl) (sf_lst sa_nil))
  (ss_cons (ss_set (i := 6) C rfl (by first | exact Or.inl rfl | exact Or.inr rfl) (se_var (pv 2)))
  (ss_cons (ss_for C hp (si_rng1 (by rfl) T.m_range (sa_cons (se_var (pv 2)) sa_nil)) (st_one C.nd rfl (by first | exact Or.inl rfl | exact Or.inr rfl)) (ss_cons (ss_set (i := 8) C rfl (by first | exact Or.inl rfl | exact Or.inr rfl) (se_mod (SE.toQ (se_ix (sq_var (pv 4)) (sq_var (pv 7)) (fun _ _ => rfl))) (SE.toQ (se_add (sq_var (pv 3)) (SE.toQ se_int)))))
  (ss_cons (ss_app (pv 5) (SF.toE (sf_lc C (si_seq (se_sl (sq_var (pv 4)) (so_some (se_var (pv 6))) (so_some (se_add (sq_var (pv 6)) (sq_var (pv 8)))))) (blkOk_by (own := [("_law_number", 9)]) (N := N__law_traces) (sc := defScope s__law_traces) (by decide +kernel)) (fun _ _ _ _ _ => (st_one (Ctx.blk C _ _ _ _ _).nd rfl (by first | exact Or.inl rfl | exact Or.inr rfl))) (fun _ _ _ _ _ => sts_nil) (fun _ _ _ _ _ => (se_ix (sq_var (pv 0)) (SE.toQ (se_mod (sq_var (pv 9)) (SE.toQ (se_len (by rfl) T.m_len (sq_var (pv 0)))))) (fun _ _ => rfl))) (by decide))))
  (ss_one (ss_set (i := 6) C rfl (by first | exact Or.inl rfl | exact Or.inr rfl) (se_add (sq_var (pv 6)) (sq_var (pv 8))))))))
  (ss_one (ss_retO (pv 5)))))))
theorem K__law_traces (T : Facts K mg) (TB : Tbs K mg base) : Kn P w K mg base 2 "_law_traces" 4 [] F__law_traces := (KF__law_traces T TB).kn
noncomputable def g__law_neighbors : En → Oc Res :=
  (ret (lc (.one 2) [2] (rng1 (aC (bi addD (bi subD (un lenD (vo 1)) (vo 0)) (cst (.int 1))) aN)) yes (un tupleD (slc (vo 1) (some (vr 2)) (some (bi addD (vo 2) (vo 0)))))))
noncomputable def F__law_neighbors : List D → Oc D := fnF 3 2 g__law_neighbors
theorem KF__law_neighbors (T : Facts K mg) (TB : Tbs K mg base) : KnF P w K mg base 1 "_law_neighbors" 2 [] F__law_neighbors := by
  obtain ⟨f, fd, F, gm⟩ := T.f__law_neighbors
  refine ⟨f, fd, ["_law_size", "_law_signs"], [], [], fnF_ok (N := N__law_neighbors) (k := 0) F sc__law_neighbors (fun cdv A outer s H E hc hr C => ?_), gm, F.kp, (F.bindsN fun _ _ _ _ _ _ us hl => match us, hl with | [_, _], _ => rfl), .nil, fun _ => .nil⟩
  have hp := po_def (P := P) (w := w) (K := K) (mg := mg) (base := base) (N := N__law_neighbors) (qual := "_law_neighbors") (sc := defScope s__law_neighbors) (f := f) (cdv := cdv) (A := A) (outer := outer) (s := s) (H := H) (E := E)
  exact (ss_one (ss_retF (sf_lc C (si_rng1 (by rfl) T.m_range (sa_cons (se_add (SE.toQ (se_sub (SE.toQ (se_len (by rfl) T.m_len (sq_var (pv 1)))) (sq_var (pv 0)))) (SE.toQ se_int)) sa_nil)) (blkOk_by (own := [("_law_k", 2)]) (N := N__law_neighbors) (sc := defScope s__law_neighbors) (by decide +kernel)) (fun _ _ _ _ _ => (st_one (Ctx.blk C _ _ _ _ _).nd rfl (by first | exact Or.inl rfl | exact Or.inr rfl))) (fun _ _ _ _ _ => sts_nil) (fun _ _ _ _ _ => (se_tuple (by rfl) T.m_tuple (SE.toQ (se_sl (sq_var (pv 1)) (so_some (se_var (pv 2))) (so_some (se_add (sq_var (pv 2)) (sq_var (pv 0)))))))) (by decide))))
theorem K__law_neighbors (T : Facts K mg) (TB : Tbs K mg base) : Kn P w K mg base 1 "_law_neighbors" 2 [] F__law_neighbors := (KF__law_neighbors T TB).kn
noncomputable def g__law_windows : En → Oc Res :=
  (sq (asgO 2 (lsd aN))
  (sq (asg 3 (lc (.one 6) [6] (rng1 (aC (bi subD (vo 0) (cst (.int 1))) aN)) yes (cst (.str "<"))))
  (sq (asg 4 (lc (.one 6) [6] (rng1 (aC (bi subD (vo 0) (cst (.int 1))) aN)) yes (cst (.str ">"))))
  (sq (fr (.one 5) (itm (cal F__law_neighbors 2 [] (aC (vr 0) (aC (bi addD (bi addD (vo 3) (un listD (vo 1))) (vo 4)) aN)))) (iff (tst (bi ninD (vo 5) (vo 2))) (app 2 (vr 5)) sNx))
  (retO 2)))))
noncomputable def F__law_windows : List D → Oc D := fnF 7 2 g__law_windows
theorem KF__law_windows (T : Facts K mg) (TB : Tbs K mg base) : KnF P w K mg base 2 "_law_windows" 2 [] F__law_windows := by
  obtain ⟨f, fd, F, gm⟩ := T.f__law_windows
  have K__law_neighbors := K__law_neighbors (P := P) (w := w) (base := base) T TB
  have KF__law_neighbors := KF__law_neighbors (P := P) (w := w) (base := base) T TB
  refine ⟨f, fd, ["_law_size", "_law_trace_here"], [], [], fnF_ok (N := N__law_windows) (k := 1) F sc__law_windows (fun cdv A outer s H E hc hr C => ?_), gm, F.kp, (F.bindsN fun _ _ _ _ _ _ us hl => match us, hl with | [_, _], _ => rfl), .nil, fun _ => .nil⟩
  have hp := po_def (P := P) (w := w) (K := K) (mg := mg) (base := base) (N := N__law_windows) (qual := "_law_windows") (sc := defScope s__law_windows) (f := f) (cdv := cdv) (A := A) (outer := outer) (s := s) (H := H) (E := E)
  exact (ss_cons (ss_setO (i := 2) C rfl (by first | exact Or.inl rfl | exact Or.inr rfl) (sf_lst sa_nil))
  (ss_cons (ss_setLc (i := 3) C rfl rfl (sw_true rfl rfl rfl (by decide +kernel)) (si_rng1 (by rfl) T.m_range (sa_cons (se_sub (sq_var (pv 0)) (SE.toQ se_int)) sa_nil)) (blkOk_by (own := [("_law_k", 6)]) (N := N__law_windows) (sc := defScope s__law_windows) (by decide +kernel)) (fun _ _ _ _ _ => (st_one (Ctx.blk C _ _ _ _ _).nd rfl (by first | exact Or.inl rfl | exact Or.inr rfl))) (fun _ _ _ _ _ => sts_nil) (fun _ _ _ _ _ => se_str) (by decide))
  (ss_cons (ss_setLc (i := 4) C rfl rfl (sw_true rfl rfl rfl (by decide +kernel)) (si_rng1 (by rfl) T.m_range (sa_cons (se_sub (sq_var (pv 0)) (SE.toQ se_int)) sa_nil)) (blkOk_by (own := [("_law_k", 6)]) (N := N__law_windows) (sc := defScope s__law_windows) (by decide +kernel)) (fun _ _ _ _ _ => (st_one (Ctx.blk C _ _ _ _ _).nd rfl (by first | exact Or.inl rfl | exact Or.inr rfl))) (fun _ _ _ _ _ => sts_nil) (fun _ _ _ _ _ => se_str) (by decide))
  (ss_cons (ss_for C hp (si_seq (se_call K__law_neighbors C (hr.mono (by decide)) (by rfl) (sa_cons (se_var (pv 0)) (sa_cons (se_add (SE.toQ (se_add (sq_var (pv 3)) (SE.toQ (SF.toE (sf_list (by rfl) T.m_list (sq_var (pv 1))))))) (sq_var (pv 4))) sa_nil)))) (st_one C.nd rfl (by first | exact Or.inl rfl | exact Or.inr rfl)) (ss_one (ss_if (st_nin (sq_var (pv 5)) (sq_var (pv 2)) C.units) (ss_one (ss_app (pv 2) (se_var (pv 5)))) ss_nil)))
  (ss_one (ss_retO (pv 2)))))))
theorem K__law_windows (T : Facts K mg) (TB : Tbs K mg base) : Kn P w K mg base 2 "_law_windows" 2 [] F__law_windows := (KF__law_windows T TB).kn
noncomputable def g__law_allows : En → Oc Res :=
  (ret (bi eqD (un lenD (lc (.one 3) [3] (itm (cal F__law_windows 2 [] (aC (vr 0) (aC (vr 2) aN)))) (tst (bi ninD (vo 3) (vo 1))) (vr 3))) (cst (.int 0))))
noncomputable def F__law_allows : List D → Oc D := fnB 4 3 g__law_allows
theorem K__law_allows (T : Facts K mg) (TB : Tbs K mg base) : Kn P w K mg base 3 "_law_allows" 3 [] F__law_allows := by
  obtain ⟨f, fd, F, gm⟩ := T.f__law_allows
  have K__law_windows := K__law_windows (P := P) (w := w) (base := base) T TB
  have KF__law_windows := KF__law_windows (P := P) (w := w) (base := base) T TB
  refine ⟨f, fd, ["_law_size", "_law_windows_here", "_law_trace_here"], [], [], fnD_ok (N := N__law_allows) (k := 2) F sc__law_allows (fun cdv A outer s H E hc hr C => ?_), gm, F.kp, (F.bindsN fun _ _ _ _ _ _ us hl => match us, hl with | [_, _, _], _ => rfl), .nil, fun _ => .nil⟩
  have hp := po_def (P := P) (w := w) (K := K) (mg := mg) (base := base) (N := N__law_allows) (qual := "_law_allows") (sc := defScope s__law_allows) (f := f) (cdv := cdv) (A := A) (outer := outer) (s := s) (H := H) (E := E)
  exact (ss_one (ss_ret (se_eq (SE.toQ (se_len (by rfl) T.m_len (SE.toQ (SF.toE (sf_lc C (si_seq (se_call K__law_windows C (hr.mono (by decide)) (by rfl) (sa_cons (se_var (pv 0)) (sa_cons (se_var (pv 2)) sa_nil)))) (blkOk_by (own := [("_law_window", 3)]) (N := N__law_allows) (sc := defScope s__law_allows) (by decide +kernel)) (fun _ _ _ _ _ => (st_one (Ctx.blk C _ _ _ _ _).nd rfl (by first | exact Or.inl rfl | exact Or.inr rfl))) (fun _ _ _ _ _ => (sts_one (st_nin (sq_var (pv 3)) (sq_var (pv 1)) (Ctx.blk C _ _ _ _ _).units))) (fun _ _ _ _ _ => (se_var (pv 3))) (by decide)))))) (SE.toQ se_int) C.units)))
noncomputable def g__law_tail : En → Oc Res :=
  (sq (asg 2 (bi addD (lc (.one 3) [3] (rng1 (aC (bi subD (vo 0) (cst (.int 1))) aN)) yes (cst (.str "<"))) (un listD (vo 1))))
  (ret (un tupleD (slc (vo 2) (some (bi addD (bi subD (un lenD (vo 2)) (vo 0)) (cst (.int 1)))) none))))
noncomputable def F__law_tail : List D → Oc D := fnB 4 2 g__law_tail
theorem K__law_tail (T : Facts K mg) (TB : Tbs K mg base) : Kn P w K mg base 1 "_law_tail" 2 [] F__law_tail := by
  obtain ⟨f, fd, F, gm⟩ := T.f__law_tail
  refine ⟨f, fd, ["_law_size", "_law_trace_here"], [], [], fnD_ok (N := N__law_tail) (k := 0) F sc__law_tail (fun cdv A outer s H E hc hr C => ?_), gm, F.kp, (F.bindsN fun _ _ _ _ _ _ us hl => match us, hl with | [_, _], _ => rfl), .nil, fun _ => .nil⟩
  have hp := po_def (P := P) (w := w) (K := K) (mg := mg) (base := base) (N := N__law_tail) (qual := "_law_tail") (sc := defScope s__law_tail) (f := f) (cdv := cdv) (A := A) (outer := outer) (s := s) (H := H) (E := E)
  exact (ss_cons (ss_set (i := 2) C rfl (by first | exact Or.inl rfl | exact Or.inr rfl) (se_add (SE.toQ (SF.toE (sf_lc C (si_rng1 (by rfl) T.m_range (sa_cons (se_sub (sq_var (pv 0)) (SE.toQ se_int)) sa_nil)) (blkOk_by (own := [("_law_k", 3)]) (N := N__law_tail) (sc := defScope s__law_tail) (by decide +kernel)) (fun _ _ _ _ _ => (st_one (Ctx.blk C _ _ _ _ _).nd rfl (by first | exact Or.inl rfl | exact Or.inr rfl))) (fun _ _ _ _ _ => sts_nil) (fun _ _ _ _ _ => se_str) (by decide)))) (SE.toQ (SF.toE (sf_list (by rfl) T.m_list (sq_var (pv 1)))))))
  (ss_one (ss_ret (se_tuple (by rfl) T.m_tuple (SE.toQ (se_sl (sq_var (pv 2)) (so_some (se_add (SE.toQ (se_sub (SE.toQ (se_len (by rfl) T.m_len (sq_var (pv 2)))) (sq_var (pv 0)))) (SE.toQ se_int))) so_none))))))
noncomputable def g__law_stops : En → Oc Res :=
  (sq (asg 3 (bi addD (un listD (vo 2)) (lc (.one 4) [4] (rng1 (aC (bi subD (vo 0) (cst (.int 1))) aN)) yes (cst (.str ">")))))
  (ret (bi eqD (un lenD (lc (.one 5) [5] (itm (cal F__law_neighbors 2 [] (aC (vr 0) (aC (vr 3) aN)))) (tst (bi ninD (vo 5) (vo 1))) (vr 5))) (cst (.int 0)))))
noncomputable def F__law_stops : List D → Oc D := fnB 6 3 g__law_stops
theorem K__law_stops (T : Facts K mg) (TB : Tbs K mg base) : Kn P w K mg base 2 "_law_stops" 3 [] F__law_stops := by
  obtain ⟨f, fd, F, gm⟩ := T.f__law_stops
  have K__law_neighbors := K__law_neighbors (P := P) (w := w) (base := base) T TB
  have KF__law_neighbors := KF__law_neighbors (P := P) (w := w) (base := base) T TB
  refine ⟨f, fd, ["_law_size", "_law_windows_here", "_law_tail_here"], [], [], fnD_ok (N := N__law_stops) (k := 1) F sc__law_stops (fun cdv A outer s H E hc hr C => ?_), gm, F.kp, (F.bindsN fun _ _ _ _ _ _ us hl => match us, hl with | [_, _, _], _ => rfl), .nil, fun _ => .nil⟩
  have hp := po_def (P := P) (w := w) (K := K) (mg := mg) (base := base) (N := N__law_stops) (qual := "_law_stops") (sc := defScope s__law_stops) (f := f) (cdv := cdv) (A := A) (outer := outer) (s := s) (H := H) (E := E)
  exact (ss_cons (ss_set (i := 3) C rfl (by first | exact Or.inl rfl | exact Or.inr rfl) (se_add (SE.toQ (SF.toE (sf_list (by rfl) T.m_list (sq_var (pv 2))))) (SE.toQ (SF.toE (sf_lc C (si_rng1 (by rfl) T.m_range (sa_cons (se_sub (sq_var (pv 0)) (SE.toQ se_int)) sa_nil)) (blkOk_by (own := [("_law_k", 4)]) (N := N__law_stops) (sc := defScope s__law_stops) (by decide +kernel)) (fun _ _ _ _ _ => (st_one (Ctx.blk C _ _ _ _ _).nd rfl (by first | exact Or.inl rfl | exact Or.inr rfl))) (fun _ _ _ _ _ => sts_nil) (fun _ _ _ _ _ => se_str) (by decide))))))
  (ss_one (ss_ret (se_eq (SE.toQ (se_len (by rfl) T.m_len (SE.toQ (SF.toE (sf_lc C (si_seq (se_call K__law_neighbors C (hr.mono (by decide)) (by rfl) (sa_cons (se_var (pv 0)) (sa_cons (se_var (pv 3)) sa_nil)))) (blkOk_by (own := [("_law_window", 5)]) (N := N__law_stops) (sc := defScope s__law_stops) (by decide +kernel)) (fun _ _ _ _ _ => (st_one (Ctx.blk C _ _ _ _ _).nd rfl (by first | exact Or.inl rfl | exact Or.inr rfl))) (fun _ _ _ _ _ => (sts_one (st_nin (sq_var (pv 5)) (sq_var (pv 1)) (Ctx.blk C _ _ _ _ _).units))) (fun _ _ _ _ _ => (se_var (pv 5))) (by decide)))))) (SE.toQ se_int) C.units))))
noncomputable def g__law_next : En → Oc Res :=
  (ret (lc (.one 3) [3] (itm (vr 1)) (tst (bi inD (bi addD (vo 2) (tpl (aC (vr 3) aN))) (vo 0))) (tpl (aC (vr 3) (aC (slc (bi addD (vo 2) (tpl (aC (vr 3) aN))) (some (cst (.int 1))) none) aN)))))
noncomputable def F__law_next : List D → Oc D := fnF 4 3 g__law_next
theorem KF__law_next (T : Facts K mg) (TB : Tbs K mg base) : KnF P w K mg base 1 "_law_next" 3 [] F__law_next := by
  obtain ⟨f, fd, F, gm⟩ := T.f__law_next
  refine ⟨f, fd, ["_law_windows_here", "_law_names_here", "_law_tail_here"], [], [], fnF_ok (N := N__law_next) (k := 0) F sc__law_next (fun cdv A outer s H E hc hr C => ?_), gm, F.kp, (F.bindsN fun _ _ _ _ _ _ us hl => match us, hl with | [_, _, _], _ => rfl), .nil, fun _ => .nil⟩
  have hp := po_def (P := P) (w := w) (K := K) (mg := mg) (base := base) (N := N__law_next) (qual := "_law_next") (sc := defScope s__law_next) (f := f) (cdv := cdv) (A := A) (outer := outer) (s := s) (H := H) (E := E)
  exact (ss_one (ss_retF (sf_lc C (si_seq (se_var (pv 1))) (blkOk_by (own := [("_law_name", 3)]) (N := N__law_next) (sc := defScope s__law_next) (by decide +kernel)) (fun _ _ _ _ _ => (st_one (Ctx.blk C _ _ _ _ _).nd rfl (by first | exact Or.inl rfl | exact Or.inr rfl))) (fun _ _ _ _ _ => (sts_one (st_in (SE.toQ (se_add (sq_var (pv 2)) (SE.toQ (se_tup (sa_cons (se_var (pv 3)) sa_nil))))) (sq_var (pv 0)) (Ctx.blk C _ _ _ _ _).units))) (fun _ _ _ _ _ => (se_tup (sa_cons (se_var (pv 3)) (sa_cons (se_sl (SE.toQ (se_add (sq_var (pv 2)) (SE.toQ (se_tup (sa_cons (se_var (pv 3)) sa_nil))))) (so_some se_int) so_none) sa_nil)))) (by decide))))
theorem K__law_next (T : Facts K mg) (TB : Tbs K mg base) : Kn P w K mg base 1 "_law_next" 3 [] F__law_next := (KF__law_next T TB).kn
noncomputable def g__law_drawn_windows : En → Oc Res :=
  (sq (asgO 4 (lsd aN))
  (sq (fr (.one 5) (itm (cal F__law_traces 4 [] (aC (vr 1) (aC (vr 2) (aC (cst (.int 4)) (aC (cst (.int 4)) aN)))))) (fr (.one 6) (itm (cal F__law_windows 2 [] (aC (vr 0) (aC (vr 5) aN)))) (iff (an (tst (bi ninD (vo 6) (vo 4))) (tst (bi (cmpD fun i j => decide (i < j)) (un lenD (vo 4)) (vo 3)))) (app 4 (vr 6)) sNx)))
  (retO 4)))
noncomputable def F__law_drawn_windows : List D → Oc D := fnF 7 4 g__law_drawn_windows
theorem KF__law_drawn_windows (T : Facts K mg) (TB : Tbs K mg base) : KnF P w K mg base 3 "_law_drawn_windows" 4 [] F__law_drawn_windows := by
  obtain ⟨f, fd, F, gm⟩ := T.f__law_drawn_windows
  have K__law_traces := K__law_traces (P := P) (w := w) (base := base) T TB
  have KF__law_traces := KF__law_traces (P := P) (w := w) (base := base) T TB
  have K__law_windows := K__law_windows (P := P) (w := w) (base := base) T TB
  have KF__law_windows := KF__law_windows (P := P) (w := w) (base := base) T TB
  refine ⟨f, fd, ["_law_size", "_law_names_here", "_law_cell_here", "_law_count"], [], [], fnF_ok (N := N__law_drawn_windows) (k := 2) F sc__law_drawn_windows (fun cdv A outer s H E hc hr C => ?_), gm, F.kp, (F.bindsN fun _ _ _ _ _ _ us hl => match us, hl with | [_, _, _, _], _ => rfl), .nil, fun _ => .nil⟩
  have hp := po_def (P := P) (w := w) (K := K) (mg := mg) (base := base) (N := N__law_drawn_windows) (qual := "_law_drawn_windows") (sc := defScope s__law_drawn_windows) (f := f) (cdv := cdv) (A := A) (outer := outer) (s := s) (H := H) (E := E)
  exact (ss_cons (ss_setO (i := 4) C rfl (by first | exact Or.inl rfl | exact Or.inr rfl) (sf_lst sa_nil))
  (ss_cons (ss_for C hp (si_seq (se_call K__law_traces C (hr.mono (by decide)) (by rfl) (sa_cons (se_var (pv 1)) (sa_cons (se_var (pv 2)) (sa_cons se_int (sa_cons se_int sa_nil)))))) (st_one C.nd rfl (by first | exact Or.inl rfl | exact Or.inr rfl)) (ss_one (ss_for C hp (si_seq (se_call K__law_windows C (hr.mono (by decide)) (by rfl) (sa_cons (se_var (pv 0)) (sa_cons (se_var (pv 5)) sa_nil)))) (st_one C.nd rfl (by first | exact Or.inl rfl | exact Or.inr rfl)) (ss_one (ss_if (st_of (sw_and (st_nin (sq_var (pv 6)) (sq_var (pv 4)) C.units) (sw_and1 (st_lt (SE.toQ (se_len (by rfl) T.m_len (sq_var (pv 4)))) (sq_var (pv 3)))))) (ss_one (ss_app (pv 4) (se_var (pv 6)))) ss_nil)))))
  (ss_one (ss_retO (pv 4)))))
theorem K__law_drawn_windows (T : Facts K mg) (TB : Tbs K mg base) : Kn P w K mg base 3 "_law_drawn_windows" 4 [] F__law_drawn_windows := (KF__law_drawn_windows T TB).kn
noncomputable def g__law_goes : En → Oc Res :=
  (sq (asg 4 (cal F_tail_of 2 [] (aC (vr 2) (aC (lsd aN) aN))))
  (sq (fr (.one 5) (itm (vr 3)) (sq (asg 6 (lc (.one 7) [7] (itm (cal F_next_tails 3 [] (aC (vr 0) (aC (un tupleD (vo 1)) (aC (vr 4) aN))))) (tst (bi eqD (bi ixD (vo 7) (cst (.int 0))) (vo 5))) (bi ixD (vo 7) (cst (.int 1)))))
  (sq (iff (tst (bi neD (un lenD (vo 6)) (cst (.int 1)))) (ret (cst (.bl false))) sNx)
  (asg 4 (bi ixD (vo 6) (cst (.int 0)))))))
  (ret (cal F_can_stop 2 [] (aC (vr 0) (aC (vr 4) aN))))))
noncomputable def F__law_goes : List D → Oc D := fnB 8 4 g__law_goes
theorem K__law_goes (T : Facts K mg) (TB : Tbs K mg base) : Kn P w K mg base 4 "_law_goes" 4 [] F__law_goes := by
  obtain ⟨f, fd, F, gm⟩ := T.f__law_goes
  have K_can_stop := K_can_stop (P := P) (w := w) (base := base) T TB
  have K_next_tails := K_next_tails (P := P) (w := w) (base := base) T TB
  have KF_next_tails := KF_next_tails (P := P) (w := w) (base := base) T TB
  have K_tail_of := K_tail_of (P := P) (w := w) (base := base) T TB
  refine ⟨f, fd, ["_law_process", "_law_names_here", "_law_size", "_law_trace_here"], [], [], fnD_ok (N := N__law_goes) (k := 3) F sc__law_goes (fun cdv A outer s H E hc hr C => ?_), gm, F.kp, (F.bindsN fun _ _ _ _ _ _ us hl => match us, hl with | [_, _, _, _], _ => rfl), .nil, fun _ => .nil⟩
  have hp := po_def (P := P) (w := w) (K := K) (mg := mg) (base := base) (N := N__law_goes) (qual := "_law_goes") (sc := defScope s__law_goes) (f := f) (cdv := cdv) (A := A) (outer := outer) (s := s) (H := H) (E := E)
  exact (ss_cons (ss_set (i := 4) C rfl (by first | exact Or.inl rfl | exact Or.inr rfl) (se_call K_tail_of C (hr.mono (by decide)) (by rfl) (sa_cons (se_var (pv 2)) (sa_cons (SF.toE (sf_lst sa_nil)) sa_nil))))
  (ss_cons (ss_for C hp (si_seq (se_var (pv 3))) (st_one C.nd rfl (by first | exact Or.inl rfl | exact Or.inr rfl)) (ss_cons (ss_setLc (i := 6) C rfl rfl (sw_true rfl rfl rfl (by decide +kernel)) (si_seq (se_call K_next_tails C (hr.mono (by decide)) (by rfl) (sa_cons (se_var (pv 0)) (sa_cons (se_tuple (by rfl) T.m_tuple (sq_var (pv 1))) (sa_cons (se_var (pv 4)) sa_nil))))) (blkOk_by (own := [("_law_pair", 7)]) (N := N__law_goes) (sc := defScope s__law_goes) (by decide +kernel)) (fun _ _ _ _ _ => (st_one (Ctx.blk C _ _ _ _ _).nd rfl (by first | exact Or.inl rfl | exact Or.inr rfl))) (fun _ _ _ _ _ => (sts_one (st_eq (SE.toQ (se_ix (sq_var (pv 7)) (SE.toQ se_int) (fun _ _ => rfl))) (sq_var (pv 5)) (Ctx.blk C _ _ _ _ _).units))) (fun _ _ _ _ _ => (se_ix (sq_var (pv 7)) (SE.toQ se_int) (fun _ _ => rfl))) (by decide))
  (ss_cons (ss_if (st_ne (SE.toQ (se_len (by rfl) T.m_len (sq_var (pv 6)))) (SE.toQ se_int) C.units) (ss_one (ss_ret se_bl)) ss_nil)
  (ss_one (ss_set (i := 4) C rfl (by first | exact Or.inl rfl | exact Or.inr rfl) (se_ix (sq_var (pv 6)) (SE.toQ se_int) (fun _ _ => rfl)))))))
  (ss_one (ss_ret (se_call K_can_stop C (hr.mono (by decide)) (by rfl) (sa_cons (se_var (pv 0)) (sa_cons (se_var (pv 4)) sa_nil)))))))
noncomputable def g_law : En → Oc Res :=
  (sq (asg 1 (cal F__law_names 1 [] (aC (cal F__law_cell 2 [] (aC (vr 0) (aC (cst (.int 0)) aN))) aN)))
  (sq (asg 2 (bi addD (cst (.int 1)) (bi modD (cal F__law_cell 2 [] (aC (vr 0) (aC (cst (.int 1)) aN))) (cst (.int 3)))))
  (sq (asg 3 (cal F__law_drawn_windows 4 [] (aC (vr 2) (aC (vr 1) (aC (cal F__law_cell 2 [] (aC (vr 0) (aC (cst (.int 2)) aN))) (aC (bi addD (cst (.int 4)) (bi modD (bi fdivD (cal F__law_cell 2 [] (aC (vr 0) (aC (cst (.int 1)) aN))) (cst (.int 3))) (cst (.int 20)))) aN))))))
  (sq (asg 4 (cal F_Process___init__ 2 [] (aC (vr 2) (aC (un listD (vo 3)) aN))))
  (sq (iff (orr (tst (bi neD (un (fldD [("Process" : Str)] "size") (vo 4)) (vo 2))) (tst (bi neD (un (fldD [("Process" : Str)] "windows") (vo 4)) (un tupleD (vo 3))))) (ret (cst (.bl false))) sNx)
  (sq (asg 5 (bi addD (cal F__law_traces 4 [] (aC (vr 1) (aC (cal F__law_cell 2 [] (aC (vr 0) (aC (cst (.int 2)) aN))) (aC (cst (.int 4)) (aC (cst (.int 4)) aN))))) (cal F__law_traces 4 [] (aC (vr 1) (aC (cal F__law_cell 2 [] (aC (vr 0) (aC (cst (.int 3)) aN))) (aC (cst (.int 4)) (aC (cst (.int 6)) aN)))))))
  (sq (fr (.one 6) (itm (bi addD (vo 5) (lsd (aC (lc (.one 11) [11] (itm (slc (vo 0) (some (cst (.int 4))) none)) yes (bi ixD (vo 1) (bi modD (vo 11) (un lenD (vo 1))))) aN)))) (sq (asg 7 (un listD (vo 6)))
  (sq (exsA (cal F_windows_of 2 [] (aC (vr 2) (aC (vr 7) aN))) (cst (.str "spoilt")))
  (sq (iff (orr (tst (bi neD (cal F_windows_of 2 [] (aC (vr 2) (aC (vr 7) aN))) (cal F__law_windows 2 [] (aC (vr 2) (aC (vr 6) aN))))) (tst (bi neD (cal F_tail_of 2 [] (aC (vr 2) (aC (vr 7) aN))) (cal F__law_tail 2 [] (aC (vr 2) (aC (vr 6) aN)))))) (ret (cst (.bl false))) sNx)
  (sq (iff (orr (tst (bi neD (cal F_windows_of 2 [] (aC (vr 2) (aC (un tupleD (vo 6)) aN))) (cal F__law_windows 2 [] (aC (vr 2) (aC (vr 6) aN))))) (tst (bi neD (cal F_tail_of 2 [] (aC (vr 2) (aC (un tupleD (vo 6)) aN))) (cal F__law_tail 2 [] (aC (vr 2) (aC (vr 6) aN)))))) (ret (cst (.bl false))) sNx)
  (sq (asg 8 (cal F__law_tail 2 [] (aC (vr 2) (aC (vr 6) aN))))
  (sq (iff (orr (tst (bi neD (cal F_next_tails 3 [] (aC (vr 4) (aC (un listD (vo 1)) (aC (vr 8) aN)))) (cal F__law_next 3 [] (aC (vr 3) (aC (vr 1) (aC (vr 8) aN)))))) (tst (bi neD (vo 7) (vo 6)))) (ret (cst (.bl false))) sNx)
  (sq (iff (orr (tst (bi neD (cal F_can_stop 2 [] (aC (vr 4) (aC (vr 8) aN))) (cal F__law_stops 3 [] (aC (vr 2) (aC (vr 3) (aC (vr 8) aN)))))) (nt (tst (un (isiD "bool") (cal F_can_stop 2 [] (aC (vr 4) (aC (vr 8) aN))))))) (ret (cst (.bl false))) sNx)
  (sq (asg 9 (un listD (vo 8)))
  (sq (iff (orr (tst (bi neD (cal F_next_tails 3 [] (aC (vr 4) (aC (un tupleD (vo 1)) (aC (vr 9) aN)))) (cal F__law_next 3 [] (aC (vr 3) (aC (vr 1) (aC (vr 8) aN)))))) (tst (bi neD (vo 9) (un listD (vo 8))))) (ret (cst (.bl false))) sNx)
  (sq (iff (tst (bi neD (cal F_can_stop 2 [] (aC (vr 4) (aC (vr 9) aN))) (cal F__law_stops 3 [] (aC (vr 2) (aC (vr 3) (aC (vr 8) aN)))))) (ret (cst (.bl false))) sNx)
  (sq (asg 10 (cal F__law_allows 3 [] (aC (vr 2) (aC (vr 3) (aC (vr 6) aN)))))
  (iff (orr (nt (tst (un (isiD "bool") (cal F_allows 2 [] (aC (vr 4) (aC (vr 7) aN)))))) (orr (tst (bi neD (cal F_allows 2 [] (aC (vr 4) (aC (vr 7) aN))) (vo 10))) (orr (tst (bi neD (cal F_allows 2 [] (aC (vr 4) (aC (un tupleD (vo 6)) aN))) (vo 10))) (tst (bi neD (cal F__law_goes 4 [] (aC (vr 4) (aC (vr 1) (aC (vr 2) (aC (vr 6) aN))))) (vo 10)))))) (ret (cst (.bl false))) sNx)))))))))))))
  (ret (cst (.bl true))))))))))
noncomputable def F_law : List D → Oc D := fnB 12 1 g_law
theorem law_fn (T : Facts K mg) (TB : Tbs K mg base) {f : Addr} {fd : FuncData} (F : FunD K "law" "law" (defArgs s_law) (defBody s_law) (defScope s_law) [] [] f fd) : FnOk P w K mg base (L2.CX P w) 5 f fd ["_law_script"] (spF K mg 1 F_law) := by
  have K__law_allows := K__law_allows (P := P) (w := w) (base := base) T TB
  have K__law_cell := K__law_cell (P := P) (w := w) (base := base) T TB
  have K__law_drawn_windows := K__law_drawn_windows (P := P) (w := w) (base := base) T TB
  have KF__law_drawn_windows := KF__law_drawn_windows (P := P) (w := w) (base := base) T TB
  have K__law_goes := K__law_goes (P := P) (w := w) (base := base) T TB
  have K__law_names := K__law_names (P := P) (w := w) (base := base) T TB
  have KF__law_names := KF__law_names (P := P) (w := w) (base := base) T TB
  have K__law_next := K__law_next (P := P) (w := w) (base := base) T TB
  have KF__law_next := KF__law_next (P := P) (w := w) (base := base) T TB
  have K__law_stops := K__law_stops (P := P) (w := w) (base := base) T TB
  have K__law_tail := K__law_tail (P := P) (w := w) (base := base) T TB
  have K__law_traces := K__law_traces (P := P) (w := w) (base := base) T TB
  have KF__law_traces := KF__law_traces (P := P) (w := w) (base := base) T TB
  have K__law_windows := K__law_windows (P := P) (w := w) (base := base) T TB
  have KF__law_windows := KF__law_windows (P := P) (w := w) (base := base) T TB
  have K_allows := K_allows (P := P) (w := w) (base := base) T TB
  have K_can_stop := K_can_stop (P := P) (w := w) (base := base) T TB
  have K_Process___init__ := K_Process___init__ (P := P) (w := w) (base := base) T TB
  have K_next_tails := K_next_tails (P := P) (w := w) (base := base) T TB
  have KF_next_tails := KF_next_tails (P := P) (w := w) (base := base) T TB
  have K_tail_of := K_tail_of (P := P) (w := w) (base := base) T TB
  have K_windows_of := K_windows_of (P := P) (w := w) (base := base) T TB
  have KF_windows_of := KF_windows_of (P := P) (w := w) (base := base) T TB
  refine fnD_ok (N := N_law) (k := 4) F sc_law (fun cdv A outer s H E hc hr C => ?_)
  have hp := po_def (P := P) (w := w) (K := K) (mg := mg) (base := base) (N := N_law) (qual := "law") (sc := defScope s_law) (f := f) (cdv := cdv) (A := A) (outer := outer) (s := s) (H := H) (E := E)
  exact (ss_cons (ss_set (i := 1) C rfl (by first | exact Or.inl rfl | exact Or.inr rfl) (se_call K__law_names C (hr.mono (by decide)) (by rfl) (sa_cons (se_call K__law_cell C (hr.mono (by decide)) (by rfl) (sa_cons (se_var (pv 0)) (sa_cons se_int sa_nil))) sa_nil)))
  (ss_cons (ss_set (i := 2) C rfl (by first | exact Or.inl rfl | exact Or.inr rfl) (se_add (SE.toQ se_int) (SE.toQ (se_mod (SE.toQ (se_call K__law_cell C (hr.mono (by decide)) (by rfl) (sa_cons (se_var (pv 0)) (sa_cons se_int sa_nil)))) (SE.toQ se_int)))))
  (ss_cons (ss_set (i := 3) C rfl (by first | exact Or.inl rfl | exact Or.inr rfl) (se_call K__law_drawn_windows C (hr.mono (by decide)) (by rfl) (sa_cons (se_var (pv 2)) (sa_cons (se_var (pv 1)) (sa_cons (se_call K__law_cell C (hr.mono (by decide)) (by rfl) (sa_cons (se_var (pv 0)) (sa_cons se_int sa_nil))) (sa_cons (se_add (SE.toQ se_int) (SE.toQ (se_mod (SE.toQ (se_fdiv (SE.toQ (se_call K__law_cell C (hr.mono (by decide)) (by rfl) (sa_cons (se_var (pv 0)) (sa_cons se_int sa_nil)))) (SE.toQ se_int))) (SE.toQ se_int)))) sa_nil))))))
  (ss_cons (ss_set (i := 4) C rfl (by first | exact Or.inl rfl | exact Or.inr rfl) (SF.toE (sf_make K_Process___init__ C (hr.mono (by decide)) (by rfl) (sa_cons (se_var (pv 2)) (sa_cons (SF.toE (sf_list (by rfl) T.m_list (sq_var (pv 3)))) sa_nil)))))
  (ss_cons (ss_if (st_of (sw_or (st_ne (SE.toQ (se_fld (cs := [("Process" : Str)]) (T.a_size) (sq_var (pv 4)))) (sq_var (pv 2)) C.units) (sw_or1 (st_ne (SE.toQ (se_fld (cs := [("Process" : Str)]) (T.a_windows) (sq_var (pv 4)))) (SE.toQ (se_tuple (by rfl) T.m_tuple (sq_var (pv 3)))) C.units)))) (ss_one (ss_ret se_bl)) ss_nil)
  (ss_cons (ss_set (i := 5) C rfl (by first | exact Or.inl rfl | exact Or.inr rfl) (se_add (SE.toQ (se_call K__law_traces C (hr.mono (by decide)) (by rfl) (sa_cons (se_var (pv 1)) (sa_cons (se_call K__law_cell C (hr.mono (by decide)) (by rfl) (sa_cons (se_var (pv 0)) (sa_cons se_int sa_nil))) (sa_cons se_int (sa_cons se_int sa_nil)))))) (SE.toQ (se_call K__law_traces C (hr.mono (by decide)) (by rfl) (sa_cons (se_var (pv 1)) (sa_cons (se_call K__law_cell C (hr.mono (by decide)) (by rfl) (sa_cons (se_var (pv 0)) (sa_cons se_int sa_nil))) (sa_cons se_int (sa_cons se_int sa_nil))))))))
  (ss_cons (ss_for C hp (si_seq (se_add (sq_var (pv 5)) (SE.toQ (SF.toE (sf_lst (sa_cons (SF.toE (sf_lc C (si_seq (se_sl (sq_var (pv 0)) (so_some se_int) so_none)) (blkOk_by (own := [("_law_cell_here", 11)]) (N := N_law) (sc := defScope s_law) (by decide +kernel)) (fun _ _ _ _ _ => (st_one (Ctx.blk C _ _ _ _ _).nd rfl (by first | exact Or.inl rfl | exact Or.inr rfl))) (fun _ _ _ _ _ => sts_nil) (fun _ _ _ _ _ => (se_ix (sq_var (pv 1)) (SE.toQ (se_mod (sq_var (pv 11)) (SE.toQ (se_len (by rfl) T.m_len (sq_var (pv 1)))))) (fun _ _ => rfl))) (by decide))) sa_nil)))))) (st_one C.nd rfl (by first | exact Or.inl rfl | exact Or.inr rfl)) (ss_cons (ss_set (i := 7) C rfl (by first | exact Or.inl rfl | exact Or.inr rfl) (SF.toE (sf_list (by rfl) T.m_list (sq_var (pv 6)))))
  (ss_cons (ss_exsA (sf_call KF_windows_of C (hr.mono (by decide)) (by rfl) (sa_cons (se_var (pv 2)) (sa_cons (se_var (pv 7)) sa_nil))) se_str)
  (ss_cons (ss_if (st_of (sw_or (st_ne (SE.toQ (se_call K_windows_of C (hr.mono (by decide)) (by rfl) (sa_cons (se_var (pv 2)) (sa_cons (se_var (pv 7)) sa_nil)))) (SE.toQ (se_call K__law_windows C (hr.mono (by decide)) (by rfl) (sa_cons (se_var (pv 2)) (sa_cons (se_var (pv 6)) sa_nil)))) C.units) (sw_or1 (st_ne (SE.toQ (se_call K_tail_of C (hr.mono (by decide)) (by rfl) (sa_cons (se_var (pv 2)) (sa_cons (se_var (pv 7)) sa_nil)))) (SE.toQ (se_call K__law_tail C (hr.mono (by decide)) (by rfl) (sa_cons (se_var (pv 2)) (sa_cons (se_var (pv 6)) sa_nil)))) C.units)))) (ss_one (ss_ret se_bl)) ss_nil)
  (ss_cons (ss_if (st_of (sw_or (st_ne (SE.toQ (se_call K_windows_of C (hr.mono (by decide)) (by rfl) (sa_cons (se_var (pv 2)) (sa_cons (se_tuple (by rfl) T.m_tuple (sq_var (pv 6))) sa_nil)))) (SE.toQ (se_call K__law_windows C (hr.mono (by decide)) (by rfl) (sa_cons (se_var (pv 2)) (sa_cons (se_var (pv 6)) sa_nil)))) C.units) (sw_or1 (st_ne (SE.toQ (se_call K_tail_of C (hr.mono (by decide)) (by rfl) (sa_cons (se_var (pv 2)) (sa_cons (se_tuple (by rfl) T.m_tuple (sq_var (pv 6))) sa_nil)))) (SE.toQ (se_call K__law_tail C (hr.mono (by decide)) (by rfl) (sa_cons (se_var (pv 2)) (sa_cons (se_var (pv 6)) sa_nil)))) C.units)))) (ss_one (ss_ret se_bl)) ss_nil)
  (ss_cons (ss_set (i := 8) C rfl (by first | exact Or.inl rfl | exact Or.inr rfl) (se_call K__law_tail C (hr.mono (by decide)) (by rfl) (sa_cons (se_var (pv 2)) (sa_cons (se_var (pv 6)) sa_nil))))
  (ss_cons (ss_if (st_of (sw_or (st_ne (SE.toQ (se_call K_next_tails C (hr.mono (by decide)) (by rfl) (sa_cons (se_var (pv 4)) (sa_cons (SF.toE (sf_list (by rfl) T.m_list (sq_var (pv 1)))) (sa_cons (se_var (pv 8)) sa_nil))))) (SE.toQ (se_call K__law_next C (hr.mono (by decide)) (by rfl) (sa_cons (se_var (pv 3)) (sa_cons (se_var (pv 1)) (sa_cons (se_var (pv 8)) sa_nil))))) C.units) (sw_or1 (st_ne (sq_var (pv 7)) (sq_var (pv 6)) C.units)))) (ss_one (ss_ret se_bl)) ss_nil)
  (ss_cons (ss_if (st_of (sw_or (st_ne (SE.toQ (se_call K_can_stop C (hr.mono (by decide)) (by rfl) (sa_cons (se_var (pv 4)) (sa_cons (se_var (pv 8)) sa_nil)))) (SE.toQ (se_call K__law_stops C (hr.mono (by decide)) (by rfl) (sa_cons (se_var (pv 2)) (sa_cons (se_var (pv 3)) (sa_cons (se_var (pv 8)) sa_nil))))) C.units) (sw_or1 (st_not (st_val (se_isi (T := "bool") (by rfl) T.m_isinstance (by rfl) T.m_bool (by decide +kernel) (SE.toQ (se_call K_can_stop C (hr.mono (by decide)) (by rfl) (sa_cons (se_var (pv 4)) (sa_cons (se_var (pv 8)) sa_nil)))))))))) (ss_one (ss_ret se_bl)) ss_nil)
  (ss_cons (ss_set (i := 9) C rfl (by first | exact Or.inl rfl | exact Or.inr rfl) (SF.toE (sf_list (by rfl) T.m_list (sq_var (pv 8)))))
  (ss_cons (ss_if (st_of (sw_or (st_ne (SE.toQ (se_call K_next_tails C (hr.mono (by decide)) (by rfl) (sa_cons (se_var (pv 4)) (sa_cons (se_tuple (by rfl) T.m_tuple (sq_var (pv 1))) (sa_cons (se_var (pv 9)) sa_nil))))) (SE.toQ (se_call K__law_next C (hr.mono (by decide)) (by rfl) (sa_cons (se_var (pv 3)) (sa_cons (se_var (pv 1)) (sa_cons (se_var (pv 8)) sa_nil))))) C.units) (sw_or1 (st_ne (sq_var (pv 9)) (SE.toQ (SF.toE (sf_list (by rfl) T.m_list (sq_var (pv 8))))) C.units)))) (ss_one (ss_ret se_bl)) ss_nil)
  (ss_cons (ss_if (st_ne (SE.toQ (se_call K_can_stop C (hr.mono (by decide)) (by rfl) (sa_cons (se_var (pv 4)) (sa_cons (se_var (pv 9)) sa_nil)))) (SE.toQ (se_call K__law_stops C (hr.mono (by decide)) (by rfl) (sa_cons (se_var (pv 2)) (sa_cons (se_var (pv 3)) (sa_cons (se_var (pv 8)) sa_nil))))) C.units) (ss_one (ss_ret se_bl)) ss_nil)
  (ss_cons (ss_set (i := 10) C rfl (by first | exact Or.inl rfl | exact Or.inr rfl) (se_call K__law_allows C (hr.mono (by decide)) (by rfl) (sa_cons (se_var (pv 2)) (sa_cons (se_var (pv 3)) (sa_cons (se_var (pv 6)) sa_nil)))))
  (ss_one (ss_if (st_of (sw_or (st_not (st_val (se_isi (T := "bool") (by rfl) T.m_isinstance (by rfl) T.m_bool (by decide +kernel) (SE.toQ (se_call K_allows C (hr.mono (by decide)) (by rfl) (sa_cons (se_var (pv 4)) (sa_cons (se_var (pv 7)) sa_nil))))))) (sw_or (st_ne (SE.toQ (se_call K_allows C (hr.mono (by decide)) (by rfl) (sa_cons (se_var (pv 4)) (sa_cons (se_var (pv 7)) sa_nil)))) (sq_var (pv 10)) C.units) (sw_or (st_ne (SE.toQ (se_call K_allows C (hr.mono (by decide)) (by rfl) (sa_cons (se_var (pv 4)) (sa_cons (se_tuple (by rfl) T.m_tuple (sq_var (pv 6))) sa_nil)))) (sq_var (pv 10)) C.units) (sw_or1 (st_ne (SE.toQ (se_call K__law_goes C (hr.mono (by decide)) (by rfl) (sa_cons (se_var (pv 4)) (sa_cons (se_var (pv 1)) (sa_cons (se_var (pv 2)) (sa_cons (se_var (pv 6)) sa_nil)))))) (sq_var (pv 10)) C.units)))))) (ss_one (ss_ret se_bl)) ss_nil))))))))))))))
  (ss_one (ss_ret se_bl)))))))))
end
end Lw

set_option Elab.async false
set_option linter.all false
set_option maxRecDepth 100000
set_option maxHeartbeats 4000000
namespace Lw
open Fx
theorem V_cell (ns : List Int) (k : Nat) : F__law_cell [.fz (ns.map .int), .int k] = .ok (.int (ns.getD k 0)) := by
  unfold F__law_cell g__law_cell
  by_cases h : k < ns.length
  · simp [h, ixL_nat (i := k) (d := .int ns[k]) (ds := ns.map D.int) (by simp [h])]
  · simp [h, List.getElem?_eq_none (Nat.le_of_not_lt h)]
def rowStep (big : Bool) (st : Int × Int) (k : Int) : Int × (Int × Int) :=
  if big then (st.1 % 840, (st.1 / 840, st.2)) else
    let s := (st.2 * 48271 + k) % 2147483647
    ((s * 69621) % 2147483629 / 7 % 840, (st.1, s))
def rowL (big : Bool) : List Int → Int × Int → List Int
  | [], _ => []
  | k :: ks, st => (rowStep big st k).1 :: rowL big ks (rowStep big st k).2
def row (c : Int) (n : Nat) : List Int := rowL (decide (10 ^ 18 ≤ c)) ((List.range n).map fun (i : Nat) => (i : Int)) (c, c % 2147483629 + 1)
theorem rowL_length (big : Bool) : ∀ (ks : List Int) (st : Int × Int), (rowL big ks st).length = ks.length
  | [], _ => rfl
  | k :: ks, st => by simp [rowL, rowL_length big ks]
theorem row_length (c : Int) (n : Nat) : (row c n).length = n := by simp [row, rowL_length]
theorem rowL_range (big : Bool) : ∀ (ks : List Int) (st : Int × Int), ∀ x ∈ rowL big ks st, 0 ≤ x ∧ x < 840
  | [], _, x, h => by simp [rowL] at h
  | k :: ks, st, x, h => by
    unfold rowL at h
    rcases List.mem_cons.mp h with e | h
    · subst e
      unfold rowStep
      split <;> simp only <;> omega
    · exact rowL_range big ks _ x h
theorem row_range (c : Int) (n : Nat) : ∀ x ∈ row c n, 0 ≤ x ∧ x < 840 := rowL_range _ _ _
theorem rngL_zero (n : Nat) : rngL 0 n = ((List.range n).map fun (i : Nat) => (i : Int)).map D.int := by simp [rngL]
theorem loop_row (c n : Int) : ∀ (ks : List Int) (acc : List Int) (st : Int × Int) (o : Sl), acc.length + ks.length ≤ 1000 → ∃ x y z, forL (Tg.one 5)
          (iff (tst (bi (cmpD fun i j => decide (j ≤ i)) (vo 0) (bi powD (cst (D.int 10)) (cst (D.int 18)))))
            (sq (app 2 (bi modD (un intD (vo 3)) (cst (D.int 840)))) (asg 3 (bi fdivD (vo 3) (cst (D.int 840)))))
            (sq
              (asg 4 (bi modD (un intD (bi addD (bi mulD (vo 4) (cst (D.int 48271))) (vo 5))) (cst (D.int 2147483647))))
              (app 2
                (bi modD
                  (bi fdivD (bi modD (un intD (bi mulD (vo 4) (cst (D.int 69621)))) (cst (D.int 2147483629)))
                    (cst (D.int 7)))
                  (cst (D.int 840))))))
          (ks.map D.int)
          [.sh (.int c), .sh (.int n), .ow (.lst (acc.map .int)), .sh (.int st.1), .sh (.int st.2), o] = .ok (.nx [.sh (.int c), .sh (.int n), .ow (.lst ((acc ++ rowL (decide (10 ^ 18 ≤ c)) ks st).map .int)), x, y, z])
  | [], acc, st, o, _ => ⟨_, _, _, by simp [forL_nil, rowL]; exact ⟨rfl, rfl, rfl⟩⟩
  | k :: ks, acc, st, o, h => by
    rw [List.map_cons, forL_step (bindT_one _ _ _)]
    simp only [List.length_cons] at h
    have hl : (acc.map D.int).length ≤ 1000000 := by simp; omega
    by_cases hb : 10 ^ 18 ≤ c
    · have hb2 : (1000000000000000000 : Int) ≤ c := by simpa using hb
      obtain ⟨x, y, z, ih⟩ := loop_row c n ks (acc ++ [st.1 % 840]) (st.1 / 840, st.2) (.sh (.int k)) (by simp; omega)
      refine ⟨x, y, z, ?_⟩
      simp [chk, hb2, appR_ok hl]
      simp [hb2] at ih
      rw [ih]
      simp [rowL, rowStep]
    · have hb2 : ¬ (1000000000000000000 : Int) ≤ c := by simpa using hb
      obtain ⟨x, y, z, ih⟩ := loop_row c n ks (acc ++ [((st.2 * 48271 + k) % 2147483647 * 69621) % 2147483629 / 7 % 840]) (st.1, (st.2 * 48271 + k) % 2147483647) (.sh (.int k)) (by simp; omega)
      refine ⟨x, y, z, ?_⟩
      simp [chk, hb2, appR_ok hl]
      simp [hb2] at ih
      rw [ih]
      simp [rowL, rowStep]
theorem V_row (c : Int) (n : Nat) (hn : n ≤ 1000) : F__law_row [.int c, .int n] = .ok (.lst ((row c n).map .int)) := by
  unfold F__law_row g__law_row
  simp [rng1R_nat (show n ≤ 1000000 by omega), chk]
  rw [rngL_zero]
  obtain ⟨x, y, z, h⟩ := loop_row c n ((List.range n).map fun (i : Nat) => (i : Int)) [] (c, c % 2147483629 + 1) .no (by simp; omega)
  simp only [List.map_nil] at h
  rw [h]
  simp [row]
end Lw

set_option Elab.async false
set_option linter.all false
set_option maxRecDepth 100000
set_option maxHeartbeats 4000000
namespace Lw
open Fx
open PySem (Str)
open PySem.PyData (strOk)
structure RD where
  acc : List Bool
  mv : List (List Nat)
def encB (a : List Bool) : List D := a.map .bl
@[simp] theorem encB_len (f : List Bool) : (encB f).length = f.length := by simp [encB]
def encS (a : List Str) : List D := a.map .str
@[simp] theorem encS_len (f : List Str) : (encS f).length = f.length := by simp [encS]
theorem encS_cons (x : Str) (xs : List Str) : encS (x :: xs) = .str x :: encS xs := rfl
theorem encS_app (x y : List Str) : encS (x ++ y) = encS x ++ encS y := by simp [encS]
theorem encB_ix {f : List Bool} {i : Nat} {x : Bool} (h : f[i]? = some x) : ixL (encB f) (i : Int) = .ok (.bl x) := ixL_map (f := D.bl) h
theorem encS_ix {f : List Str} {i : Nat} {x : Str} (h : f[i]? = some x) : ixL (encS f) (i : Int) = .ok (.str x) := ixL_map (f := D.str) h
@[simp] theorem allD_encB (bs : List Bool) : allD (.lst (encB bs)) = .ok (.bl (bs.all id)) := allD_lst bs
@[simp] theorem anyD_encB (bs : List Bool) : anyD (.lst (encB bs)) = .ok (.bl (bs.any id)) := anyD_lst bs
def encA (a : List Bool) : D := .tup (encB a)
def encI (f : List Nat) : List D := f.map fun (e : Nat) => D.int (e : Int)
@[simp] theorem encI_len (f : List Nat) : (encI f).length = f.length := by simp [encI]
theorem encI_cons (x : Nat) (xs : List Nat) : encI (x :: xs) = .int (x : Int) :: encI xs := rfl
theorem encI_app (x y : List Nat) : encI (x ++ y) = encI x ++ encI y := by simp [encI]
theorem encI_ix {f : List Nat} {i x : Nat} (h : f[i]? = some x) : ixL (encI f) (i : Int) = .ok (.int (x : Int)) := ixL_map (f := fun (e : Nat) => D.int (e : Int)) h
def encRow (r : List Nat) : D := .tup (encI r)
def encM (m : List (List Nat)) : D := .tup (m.map encRow)
def encR (r : RD) : D := .obj "Rule" [("accepting", encA r.acc), ("moves", encM r.mv)]
def encL (r : RD) : D := .lst [encA r.acc, encM r.mv]
def RD.a (r : RD) (x : Nat) : Bool := r.acc.getD x false
structure RD.Ok (r : RD) (n k : Nat) : Prop where
  acc : r.acc.length = n
  mv : r.mv.length = n
  row : ∀ x ∈ r.mv, x.length = k ∧ ∀ e ∈ x, e < n
  one : 1 ≤ n
  six : n ≤ 6
def RD.nexts (r : RD) (s : Nat) : List Nat := r.mv.getD s []
def RD.step (r : RD) (ns : List Str) (s : Nat) (a : Str) : Nat := (r.nexts s).getD (ns.idxOf a) 0
def RD.run (r : RD) (ns : List Str) (s : Nat) (ts : List Str) : Nat := ts.foldl (r.step ns) s
def abcB (w : Str) : Bool := w.cps.toList.all fun c => decide (97 ≤ c) && decide (c ≤ 122)
structure Nm (ns : List Str) : Prop where
  ne : ns ≠ []
  five : ns.length ≤ 5
  ok : ∀ x ∈ ns, strOk x = true
  abc : ∀ x ∈ ns, abcB x = true
theorem rngL_nat (n : Nat) : rngL 0 n = (List.range n).map fun (i : Nat) => D.int (i : Int) := by simp [rngL]

theorem cutD_mid (ds : List D) (a b : Nat) (h : b ≤ ds.length) (hab : a ≤ b) : cutD ds (some (a : Int)) (some (b : Int)) = (ds.drop a).take (b - a) := by
  unfold cutD
  rw [show HT.sIx ds.length 0 (some (a : Int)) = min a ds.length from HT.sIx_nat _ _ _, show HT.sIx ds.length ds.length (some (b : Int)) = min b ds.length from HT.sIx_nat _ _ _]
  rw [Nat.min_eq_left h, Nat.min_eq_left (Nat.le_trans hab h)]
theorem cutD_takeG (ds : List D) (k : Nat) : cutD ds none (some (k : Int)) = ds.take k := by
  unfold cutD
  rw [show HT.sIx ds.length 0 none = 0 from rfl, show HT.sIx ds.length ds.length (some (k : Int)) = min k ds.length from HT.sIx_nat _ _ _]
  simp only [Nat.sub_zero, List.drop_zero]
  rw [List.take_eq_take_iff]
  omega
theorem cutD_dropG (ds : List D) (k : Nat) : cutD ds (some (k : Int)) none = ds.drop k := by
  unfold cutD
  rw [show HT.sIx ds.length ds.length none = ds.length from rfl, show HT.sIx ds.length 0 (some (k : Int)) = min k ds.length from HT.sIx_nat _ _ _]
  rw [List.take_of_length_le (by simp)]
  by_cases h : k ≤ ds.length
  · rw [Nat.min_eq_left h]
  · rw [Nat.min_eq_right (by omega), List.drop_length, List.drop_eq_nil_of_le (by omega)]
theorem encS_take (xs : List Str) (k : Nat) : cutD (encS xs) none (some (k : Int)) = encS (xs.take k) := by rw [cutD_takeG]; simp [encS]
theorem encS_drop (xs : List Str) (k : Nat) : cutD (encS xs) (some (k : Int)) none = encS (xs.drop k) := by rw [cutD_dropG]; simp [encS]
theorem encS_rev (xs : List Str) : (encS xs).reverse = encS xs.reverse := by simp [encS]
theorem encS_rep (x : Str) (n : Nat) : (List.replicate n [D.str x]).flatten = encS (List.replicate n x) := by
  induction n with
  | zero => rfl
  | succ n ih => rw [List.replicate_succ, List.flatten_cons, ih, List.replicate_succ, encS_cons]; rfl
theorem pn_strs {ns : List Str} (h : ∀ x ∈ ns, strOk x = true) : Pn 1 (.lst (encS ns)) (.list (ns.map .str)) := PnL.lst (PnL.map fun x hx => Pn.str 0 (h x hx))
theorem pick {α β : Type} [Inhabited β] {P : α → β → Prop} {xs : List α} (h : ∀ x ∈ xs, ∃ y, P x y) : ∃ f : α → β, ∀ x ∈ xs, P x (f x) := by
  open Classical in
  exact ⟨fun x => if h : ∃ y, P x y then choose h else default, fun x hx => by
    have h1 := h x hx
    simp only [h1, dif_pos]
    exact choose_spec h1⟩
end Lw

set_option Elab.async false
set_option linter.all false
set_option maxRecDepth 100000
set_option maxHeartbeats 4000000
namespace Lw
open Fx
open PySem (Str)
open PySem.PyData (strOk)
open L2 (cutS)
structure Gd (m : Nat) (w : Str) : Prop where
  ok : strOk w = true
  len : w.length ≤ m
  abc : abcB w = true
theorem letters_ok : strOk ("abcdefghijklmnopqrstuvwxyz" : Str) = true := by decide +kernel
theorem letters_len : ("abcdefghijklmnopqrstuvwxyz" : Str).length = 26 := by decide +kernel
theorem letters_abc : abcB ("abcdefghijklmnopqrstuvwxyz" : Str) = true := by decide +kernel
theorem ixD_strM {z : Str} {i : Int} (hz : z.length ≤ 1000000) (h0 : 0 ≤ i) (h1 : i < z.length) : ∃ c, ixD (.str z) (.int i) = .ok (.str ⟨#[c]⟩) ∧ (strOk z = true → strOk ⟨#[c]⟩ = true) ∧ c ∈ z.cps.toList := by
  have hi : i.toNat < z.cps.size := by
    have h1 : i < (z.cps.size : Nat) := h1
    omega
  refine ⟨z.cps[i.toNat], ?_, fun h => ?_, by simp⟩
  · unfold ixD
    simp only
    have e : L2.atI z.cps.toList i = some z.cps[i.toNat] := by
      have e : i = (i.toNat : Int) := by omega
      have := L2.atI_nat (xs := z.cps.toList) (j := i.toNat) (v := z.cps[i.toNat]) (by simp [hi])
      rw [← e] at this
      exact this
    rw [decide_eq_true (by rw [sizeLine_val]; omega), e]
    rfl
  · apply strOk_one
    unfold strOk at h
    rw [Array.all_eq_true] at h
    simpa using h i.toNat hi
theorem abc_append {a b : Str} (ha : abcB a = true) (hb : abcB b = true) : abcB (a ++ b) = true := by
  unfold abcB at *
  have e : (a ++ b).cps.toList = a.cps.toList ++ b.cps.toList := by
    show (a.cps ++ b.cps).toList = _
    simp
  rw [e, List.all_append, ha, hb]; rfl
theorem abc_cut {a : Str} (lo hi : Option Int) (ha : abcB a = true) : abcB (cutS a lo hi) = true := by
  unfold abcB at *
  unfold cutS
  rw [List.all_eq_true] at ha ⊢
  intro x hx
  simp only at hx
  exact ha x (List.mem_of_mem_drop (List.mem_of_mem_take hx))
theorem letter (i : Int) : ∃ c, ixD (.str "abcdefghijklmnopqrstuvwxyz") (.int (i % 26)) = .ok (.str c) ∧ Gd 1 c := by
  obtain ⟨c, h1, h2, h3⟩ := ixD_strM (z := "abcdefghijklmnopqrstuvwxyz") (i := i % 26) (by rw [letters_len]; omega) (by omega) (by rw [letters_len]; omega)
  refine ⟨_, h1, h2 letters_ok, Nat.le_refl 1, ?_⟩
  have := List.all_eq_true.mp letters_abc c h3
  simpa [abcB] using this
theorem Gd.add {m n : Nat} {a b : Str} (ha : Gd m a) (hb : Gd n b) (h : m + n ≤ 1000) : addD (.str a) (.str b) = .ok (.str (a ++ b)) ∧ Gd (m + n) (a ++ b) := by
  have h1 := ha.len
  have h2 := hb.len
  exact ⟨addD_strs (by omega), strOk_append ha.ok hb.ok, by rw [len_append]; omega, abc_append ha.abc hb.abc⟩
theorem Gd.mono {m n : Nat} {a : Str} (ha : Gd m a) (h : m ≤ n) : Gd n a := ⟨ha.ok, Nat.le_trans ha.len h, ha.abc⟩
theorem Gd.cut {m : Nat} {a : Str} (ha : Gd m a) (lo hi : Option Int) (h : m ≤ 1000) : slD (.str a) lo hi = .ok (.str (cutS a lo hi)) ∧ Gd m (cutS a lo hi) := by
  have h1 := ha.len
  exact ⟨slD_strs (by omega), strOk_cut _ _ ha.ok, Nat.le_trans (len_cut a lo hi) h1, abc_cut _ _ ha.abc⟩
theorem eqD_ints (i j : Int) : eqD (.int i) (.int j) = .ok (.bl (decide (i = j))) := by rw [eqD_val (Pn.int 0 i) (Pn.int 0 j), eqv_int, Bool.beq_eq_decide_eq]
theorem neD_ints (i j : Int) : neD (.int i) (.int j) = .ok (.bl (!decide (i = j))) := by rw [neD_val (Pn.int 0 i) (Pn.int 0 j), eqv_int, Bool.beq_eq_decide_eq]
theorem V_word (i : Int) : ∃ w, F__law_word [.int i] = .ok (.str w) ∧ Gd 5 w := by
  obtain ⟨a, ea, ga⟩ := letter i
  obtain ⟨b, eb, gb⟩ := letter (i / 3)
  obtain ⟨c, ec, gc⟩ := letter (i / 5)
  obtain ⟨d, ed, gd⟩ := letter (i / 11)
  obtain ⟨e, ee, ge⟩ := letter (i / 2)
  obtain ⟨w1, h1, k1⟩ : ∃ w1, iff (tst (bi (cmpD fun i j => decide (j < i)) (bi modD (bi fdivD (vo 0) (cst (.int 26))) (cst (.int 3))) (cst (.int 0)))) (asg 2 (bi addD (vo 2) (bi ixD (vo 1) (bi modD (bi fdivD (vo 0) (cst (.int 3))) (cst (.int 26)))))) sNx
      [.sh (.int i), .sh (.str "abcdefghijklmnopqrstuvwxyz"), .sh (.str a)] = .ok (.nx [.sh (.int i), .sh (.str "abcdefghijklmnopqrstuvwxyz"), .sh (.str w1)]) ∧ Gd 2 w1 := by
    by_cases hc : 0 < i / 26 % 3
    · obtain ⟨z1, z2⟩ := ga.add gb (by omega)
      exact ⟨_, by simp [chk, hc, eb, z1], z2⟩
    · exact ⟨a, by simp [chk, hc], ga.mono (by omega)⟩
  obtain ⟨w2, h2, k2⟩ : ∃ w2, iff (tst (bi eqD (bi modD (bi fdivD (vo 0) (cst (.int 26))) (cst (.int 3))) (cst (.int 2)))) (asg 2 (bi addD (bi addD (bi addD (vo 2) (bi ixD (vo 1) (bi modD (bi fdivD (vo 0) (cst (.int 5))) (cst (.int 26))))) (bi ixD (vo 1) (bi modD (bi fdivD (vo 0) (cst (.int 11))) (cst (.int 26))))) (bi ixD (vo 1) (bi modD (bi fdivD (vo 0) (cst (.int 2))) (cst (.int 26)))))) sNx
      [.sh (.int i), .sh (.str "abcdefghijklmnopqrstuvwxyz"), .sh (.str w1)] = .ok (.nx [.sh (.int i), .sh (.str "abcdefghijklmnopqrstuvwxyz"), .sh (.str w2)]) ∧ Gd 5 w2 := by
    by_cases hc : i / 26 % 3 = 2
    · obtain ⟨z1, z2⟩ := k1.add gc (by omega)
      obtain ⟨z3, z4⟩ := z2.add gd (by omega)
      obtain ⟨z5, z6⟩ := z4.add ge (by omega)
      exact ⟨_, by simp [chk, eqD_ints, hc, ec, ed, ee, z1, z3, z5], z6⟩
    · exact ⟨w1, by simp [chk, eqD_ints, hc], k1.mono (by omega)⟩
  refine ⟨w2, ?_, k2⟩
  unfold F__law_word g__law_word
  simp [chk, ea]
  simp at h1 h2
  rw [h1]
  simp
  rw [h2]
  simp

theorem counts (i : Int) : ∃ n : Nat, ixL [D.int 1, .int 2, .int 2, .int 3, .int 3, .int 4, .int 2, .int 3, .int 5] (i % 9) = .ok (.int (n : Nat)) ∧ 1 ≤ n ∧ n ≤ 5 := by
  have h : i % 9 = 0 ∨ i % 9 = 1 ∨ i % 9 = 2 ∨ i % 9 = 3 ∨ i % 9 = 4 ∨ i % 9 = 5 ∨ i % 9 = 6 ∨ i % 9 = 7 ∨ i % 9 = 8 := by omega
  rcases h with h | h | h | h | h | h | h | h | h <;> rw [h] <;> first
    | exact ⟨1, rfl, by omega, by omega⟩
    | exact ⟨2, rfl, by omega, by omega⟩
    | exact ⟨3, rfl, by omega, by omega⟩
    | exact ⟨4, rfl, by omega, by omega⟩
    | exact ⟨5, rfl, by omega, by omega⟩
structure NmB (m : Nat) (ns : List Str) : Prop where
  len : ns.length ≤ m
  nd : ns.Nodup
  ok : ∀ x ∈ ns, Gd 13 x
theorem lit8 : Gd 8 ("abcdefgh" : Str) := ⟨by decide +kernel, by decide +kernel, by decide +kernel⟩
theorem litq : Gd 1 ("q" : Str) := ⟨by decide +kernel, by decide +kernel, by decide +kernel⟩
noncomputable abbrev names_body : En → Oc Res := (sq (asg 4 (cal F__law_word 1 [] (aC (bi ixD (vo 1) (vo 3)) aN)))
  (sq (iff (tst (bi eqD (bi modD (bi fdivD (bi ixD (vo 1) (vo 3)) (cst (.int 50))) (cst (.int 6))) (cst (.int 5)))) (asg 4 (slc (bi addD (vo 4) (cst (.str "abcdefgh"))) none (some (bi addD (cst (.int 7)) (bi modD (bi ixD (vo 1) (vo 3)) (cst (.int 2))))))) sNx)
  (sq (iff (tst (bi inD (vo 4) (vo 2))) (asg 4 (slc (bi addD (vo 4) (cst (.str "q"))) (some (un negD (cst (.int 8)))) none)) sNx)
  (iff (tst (bi ninD (vo 4) (vo 2))) (app 2 (vr 4)) sNx))))
theorem names_turn {c : D} {row : List Int} {j : Nat} {x : Int} (hx : row[j]? = some x) {m : Nat} {ns : List Str} (N : NmB m ns) (hm : m ≤ 100) (o4 : Sl) : ∃ ns' o4', names_body [.sh c, .sh (.lst (row.map .int)), .ow (.lst (encS ns)), .sh (.int (j : Nat)), o4] = .ok (.nx [.sh c, .sh (.lst (row.map .int)), .ow (.lst (encS ns')), .sh (.int (j : Nat)), o4']) ∧ NmB (m + 1) ns' ∧ (ns = [] → ns' ≠ []) ∧ (ns ≠ [] → ns' ≠ []) := by
  have ex : ixL (row.map D.int) (j : Nat) = .ok (.int x) := ixL_map hx
  obtain ⟨w, ew, gw⟩ := V_word x
  obtain ⟨w1, h1, k1⟩ : ∃ w1, iff (tst (bi eqD (bi modD (bi fdivD (bi ixD (vo 1) (vo 3)) (cst (.int 50))) (cst (.int 6))) (cst (.int 5)))) (asg 4 (slc (bi addD (vo 4) (cst (.str "abcdefgh"))) none (some (bi addD (cst (.int 7)) (bi modD (bi ixD (vo 1) (vo 3)) (cst (.int 2))))))) sNx [.sh c, .sh (.lst (row.map .int)), .ow (.lst (encS ns)), .sh (.int (j : Nat)), .sh (.str w)] = .ok (.nx [.sh c, .sh (.lst (row.map .int)), .ow (.lst (encS ns)), .sh (.int (j : Nat)), .sh (.str w1)]) ∧ Gd 13 w1 := by
    by_cases hc : x / 50 % 6 = 5
    · obtain ⟨z1, z2⟩ := gw.add lit8 (by omega)
      obtain ⟨z3, z4⟩ := z2.cut none (some (7 + x % 2)) (by omega)
      exact ⟨_, by simp [chk, ex, eqD_ints, hc, z1, ← slD_str, z3], z4⟩
    · exact ⟨w, by simp [chk, ex, eqD_ints, hc], gw.mono (by omega)⟩
  have no : ∀ y ∈ ns, strOk y = true := fun y hy => (N.ok y hy).ok
  have i1 : inD (.str w1) (.lst (encS ns)) = .ok (.bl (decide (w1 ∈ ns))) := inD_of (inB_strs k1.ok no)
  obtain ⟨w2, h2, k2⟩ : ∃ w2, iff (tst (bi inD (vo 4) (vo 2))) (asg 4 (slc (bi addD (vo 4) (cst (.str "q"))) (some (un negD (cst (.int 8)))) none)) sNx [.sh c, .sh (.lst (row.map .int)), .ow (.lst (encS ns)), .sh (.int (j : Nat)), .sh (.str w1)] = .ok (.nx [.sh c, .sh (.lst (row.map .int)), .ow (.lst (encS ns)), .sh (.int (j : Nat)), .sh (.str w2)]) ∧ Gd 14 w2 ∧ Gd 13 w2 := by
    by_cases hc : w1 ∈ ns
    · obtain ⟨z1, z2⟩ := k1.add litq (by omega)
      obtain ⟨z3, z4⟩ := z2.cut (some (-8)) none (by omega)
      have z5 : Gd 13 (cutS (w1 ++ "q") (some (-8)) none) := ⟨z4.ok, by
        have hl := z2.len
        unfold L2.cutS
        show (List.toArray _).size ≤ 13
        simp only [List.size_toArray, List.length_take, List.length_drop, Array.length_toList]
        have e1 : HT.sIx (w1 ++ ("q" : Str)).length (w1 ++ ("q" : Str)).length none = (w1 ++ ("q" : Str)).length := rfl
        have e2 : (w1 ++ ("q" : Str)).length - HT.sIx (w1 ++ ("q" : Str)).length 0 (some (-8)) ≤ 13 := by
          unfold HT.sIx
          simp only
          split <;> omega
        rw [e1]
        omega, z4.abc⟩
      exact ⟨_, by simp [chk, i1, hc, z1, ← slD_str, z3], z4, z5⟩
    · exact ⟨w1, by simp [chk, i1, hc], k1.mono (by omega), k1⟩
  have i2 : ninD (.str w2) (.lst (encS ns)) = .ok (.bl (!decide (w2 ∈ ns))) := ninD_of (inB_strs k2.2.ok no)
  have nl : (encS ns).length ≤ 1000000 := by have := N.len; simp; omega
  have h0 : asg 4 (cal F__law_word 1 [] (aC (bi ixD (vo 1) (vo 3)) aN)) [.sh c, .sh (.lst (row.map .int)), .ow (.lst (encS ns)), .sh (.int (j : Nat)), o4] = .ok (.nx [.sh c, .sh (.lst (row.map .int)), .ow (.lst (encS ns)), .sh (.int (j : Nat)), .sh (.str w)]) := by simp [ex, ew]
  by_cases hc : w2 ∈ ns
  · refine ⟨ns, .sh (.str w2), ?_, ⟨Nat.le_succ_of_le N.len, N.nd, N.ok⟩, fun e => ?_, fun e => e⟩
    · rw [names_body, sq_ap, h0, contS_nx, sq_ap, h1, contS_nx, sq_ap, h2, contS_nx]
      simp [i2, hc]
    · subst e
      cases hc
  · refine ⟨ns ++ [w2], .sh (.str w2), ?_, ⟨by have := N.len; simp; omega, ?_, fun y hy => ?_⟩, fun _ => by simp, fun _ => by simp⟩
    · rw [names_body, sq_ap, h0, contS_nx, sq_ap, h1, contS_nx, sq_ap, h2, contS_nx]
      simp [i2, hc, appR_ok nl]
      simp [encS]
    · rw [List.nodup_append]
      refine ⟨N.nd, by simp, fun a ha b hb e => ?_⟩
      rw [List.mem_singleton] at hb
      rw [e, hb] at ha
      exact hc ha
    · rcases List.mem_append.mp hy with h | h
      · exact N.ok y h
      · rw [List.mem_singleton] at h
        rw [h]
        exact k2.2
theorem names_loop {c : D} {row : List Int} (hr : row.length = 6) : ∀ (m j : Nat) (ns : List Str) (o3 o4 : Sl), j + m ≤ 6 → NmB j ns → ∃ ns' o3' o4', forL (.one 3) names_body (encI (List.range' j m)) [.sh c, .sh (.lst (row.map .int)), .ow (.lst (encS ns)), o3, o4] = .ok (.nx [.sh c, .sh (.lst (row.map .int)), .ow (.lst (encS ns')), o3', o4']) ∧ NmB (j + m) ns' ∧ (ns ≠ [] → ns' ≠ []) ∧ (1 ≤ m → ns' ≠ [])
  | 0, j, ns, o3, o4, _, N => ⟨ns, o3, o4, rfl, N, fun h => h, fun h => by omega⟩
  | m + 1, j, ns, o3, o4, h, N => by
    obtain ⟨x, hx⟩ : ∃ x, row[j]? = some x := ⟨row[j]'(by omega), List.getElem?_eq_getElem (by omega)⟩
    obtain ⟨ns1, p4, e1, N1, n1, n2⟩ := names_turn (c := c) hx N (by omega) o4
    obtain ⟨ns2, p3, p5, e2, N2, n3, _⟩ := names_loop hr m (j + 1) ns1 (.sh (.int (j : Nat))) p4 (by omega) N1
    have ne1 : ns1 ≠ [] := by
      by_cases hn : ns = []
      · exact n1 hn
      · exact n2 hn
    refine ⟨ns2, p3, p5, ?_, by rw [show j + (m + 1) = j + 1 + m by omega]; exact N2, fun _ => n3 ne1, fun _ => n3 ne1⟩
    rw [List.range'_succ, encI_cons, forL_step (bindT_one _ _ _)]
    simp only [List.set_cons_succ, List.set_cons_zero]
    rw [e1, goOn_nx, e2]
theorem V_names (c : Int) : ∃ ns, F__law_names [.int c] = .ok (.lst (encS ns)) ∧ Nm ns ∧ ns.Nodup := by
  obtain ⟨x, hx⟩ : ∃ x, (row c 6)[5]? = some x := ⟨(row c 6)[5]'(by rw [row_length]; omega), List.getElem?_eq_getElem (by rw [row_length]; omega)⟩
  have ex : ixL ((row c 6).map D.int) 5 = .ok (.int x) := ixL_map (i := 5) hx
  obtain ⟨n, en, n1, n5⟩ := counts x
  obtain ⟨ns, o3, o4, e, N, _, ne⟩ := names_loop (c := .int c) (row := row c 6) (row_length c 6) n 0 [] .no .no (by omega) ⟨by simp, by simp, by simp⟩
  have er : rng1R [.int (n : Nat)] = .ok (encI (List.range' 0 n)) := by
    rw [rng1R_nat (by omega), rngL_nat, List.range_eq_range']; rfl
  refine ⟨ns, ?_, ⟨ne n1, by have := N.len; omega, fun y hy => (N.ok y hy).ok, fun y hy => (N.ok y hy).abc⟩, N.nd⟩
  have ev : F__law_row [.int c, .int 6] = .ok (.lst ((row c 6).map .int)) := V_row c 6 (by omega)
  unfold F__law_names g__law_names
  simp [ev, ex, chk, sizeLine_val, en, er]
  have e0 : encS [] = ([] : List D) := rfl
  rw [e0] at e
  rw [e]
  simp
end Lw

set_option Elab.async false
set_option linter.all false
set_option maxRecDepth 100000
set_option maxHeartbeats 4000000
namespace Lw
open Fx
open PySem (Str)
open PySem.PyData (strOk)
open L2 (cutS)
theorem encS_map {α : Type} (f : α → Str) (xs : List α) : encS (xs.map f) = xs.map fun x => D.str (f x) := by simp [encS, Function.comp_def]
theorem V_trace {ns : List Str} (g : Nm ns) (c : Int) (n : Nat) (hn : n ≤ 1000) : ∃ ts, F__law_trace [.lst (encS ns), .int c, .int (n : Nat)] = .ok (.lst (encS ts)) ∧ (∀ a ∈ ts, a ∈ ns) ∧ ts.length = n := by
  have gl : 0 < ns.length := List.length_pos_iff.mpr g.ne
  let f : Int → Str := fun x => ns.getD (x % ns.length).toNat ""
  have hf : ∀ x : Int, ixL (encS ns) (x % ns.length) = .ok (.str (f x)) ∧ f x ∈ ns := fun x => by
    have h1 : 0 ≤ x % (ns.length : Int) := Int.emod_nonneg _ (by omega)
    have h2 : x % (ns.length : Int) < ns.length := Int.emod_lt_of_pos _ (by omega)
    have h3 : (x % (ns.length : Int)).toNat < ns.length := by omega
    have hg : ns[(x % (ns.length : Int)).toNat]? = some (f x) := by simp [f, h3]
    refine ⟨?_, List.mem_of_getElem? hg⟩
    have := encS_ix hg
    rwa [Int.toNat_of_nonneg h1] at this
  refine ⟨(row c n).map f, ?_, fun a ha => ?_, by simp [row_length]⟩
  · have e1 : ∀ o : Sl, lcL (.one 3) [3] yes (bi ixD (vo 0) (bi modD (vo 3) (un lenD (vo 0)))) [.sh (.lst (encS ns)), .sh (.int c), .sh (.int (n : Nat)), o] ((row c n).map .int) = .ok (encS ((row c n).map f)) := fun o => by
      rw [encS_map]
      refine lcL_map fun x hx => ⟨_, rfl, ?_⟩
      simp [chk, gl, (hf x).1]
    have z : (row c n).length ≤ 16777216 := by rw [row_length]; omega
    unfold F__law_trace g__law_trace
    simp [V_row c n hn, sizeLine_val, z, e1]
  · obtain ⟨x, _, e⟩ := List.mem_map.mp ha
    rw [← e]
    exact (hf x).2
end Lw

set_option Elab.async false
set_option linter.all false
set_option maxRecDepth 100000
set_option maxHeartbeats 4000000
namespace Lw
open Fx
open PySem (Str PyData)
open PySem.PyData (strOk)
def cutL {α : Type} (xs : List α) (lo hi : Option Int) : List α := (xs.drop (HT.sIx xs.length 0 lo)).take (HT.sIx xs.length xs.length hi - HT.sIx xs.length 0 lo)
theorem cutD_map {α : Type} (f : α → D) (xs : List α) (lo hi : Option Int) : cutD (xs.map f) lo hi = (cutL xs lo hi).map f := by simp [cutD, cutL]
theorem cutL_len {α : Type} (xs : List α) (lo hi : Option Int) : (cutL xs lo hi).length ≤ xs.length := by simp only [cutL, List.length_take, List.length_drop]; omega
theorem cutL_mem {α : Type} {xs : List α} {lo hi : Option Int} {x : α} (h : x ∈ cutL xs lo hi) : x ∈ xs := List.mem_of_mem_drop (List.mem_of_mem_take h)
def encW (ws : List (List Str)) : List D := ws.map fun w => .lst (encS w)
theorem encW_cons (w : List Str) (ws : List (List Str)) : encW (w :: ws) = .lst (encS w) :: encW ws := rfl
theorem encW_app (u v : List (List Str)) : encW (u ++ v) = encW u ++ encW v := by simp [encW]
@[simp] theorem encW_length (u : List (List Str)) : (encW u).length = u.length := by simp [encW]
theorem traces_loop {ns : List Str} (g : Nm ns) (c : D) (cnt : D) (sz : Nat) {row : List Int} (hr : row.length = 40) : ∀ (m j : Nat) (ts : List (List Str)) (at_ : Int) (o7 o8 : Sl), j + m ≤ 40 → ts.length ≤ 100 - m → (∀ t ∈ ts, (∀ a ∈ t, a ∈ ns) ∧ t.length ≤ 40) → ∃ ts' t6 t7 t8,
    forL (.one 7) (sq (asg 8 (bi modD (bi ixD (vo 4) (vo 7)) (bi addD (vo 3) (cst (.int 1))))) (sq (app 5 (lc (.one 9) [9] (itm (slc (vo 4) (some (vr 6)) (some (bi addD (vo 6) (vo 8))))) yes (bi ixD (vo 0) (bi modD (vo 9) (un lenD (vo 0)))))) (asg 6 (bi addD (vo 6) (vo 8)))))
      (encI (List.range' j m)) [.sh (.lst (encS ns)), .sh c, .sh cnt, .sh (.int (sz : Nat)), .sh (.lst (row.map .int)), .ow (.lst (encW ts)), .sh (.int at_), o7, o8, .no] = .ok (.nx [.sh (.lst (encS ns)), .sh c, .sh cnt, .sh (.int (sz : Nat)), .sh (.lst (row.map .int)), .ow (.lst (encW ts')), t6, t7, t8, .no]) ∧ ts'.length = ts.length + m ∧ (∀ t ∈ ts', (∀ a ∈ t, a ∈ ns) ∧ t.length ≤ 40)
  | 0, j, ts, at_, o7, o8, _, _, h => ⟨ts, _, _, _, rfl, rfl, h⟩
  | m + 1, j, ts, at_, o7, o8, hj, hl, h => by
    have gl : 0 < ns.length := List.length_pos_iff.mpr g.ne
    obtain ⟨x, hx⟩ : ∃ x, row[j]? = some x := ⟨row[j]'(by omega), List.getElem?_eq_getElem (by omega)⟩
    have ex : ixL (row.map D.int) (j : Nat) = .ok (.int x) := ixL_map hx
    let f : Int → Str := fun x => ns.getD (x % ns.length).toNat ""
    have hf : ∀ x : Int, ixL (encS ns) (x % ns.length) = .ok (.str (f x)) ∧ f x ∈ ns := fun x => by
      have h1 : 0 ≤ x % (ns.length : Int) := Int.emod_nonneg _ (by omega)
      have h2 : x % (ns.length : Int) < ns.length := Int.emod_lt_of_pos _ (by omega)
      have h3 : (x % (ns.length : Int)).toNat < ns.length := by omega
      have hg : ns[(x % (ns.length : Int)).toNat]? = some (f x) := by simp [f, h3]
      refine ⟨?_, List.mem_of_getElem? hg⟩
      have := encS_ix hg
      rwa [Int.toNat_of_nonneg h1] at this
    let ys := cutL row (some at_) (some (at_ + x % ((sz : Int) + 1)))
    have hys : ys.length ≤ 40 := by rw [← hr]; exact cutL_len _ _ _
    have e1 : ∀ o7 : Sl, lcL (.one 9) [9] yes (bi ixD (vo 0) (bi modD (vo 9) (un lenD (vo 0)))) [.sh (.lst (encS ns)), .sh c, .sh cnt, .sh (.int (sz : Nat)), .sh (.lst (row.map .int)), .ow (.lst (encW ts)), .sh (.int at_), o7, .sh (.int (x % ((sz : Int) + 1))), .no] (ys.map .int) = .ok (encS (ys.map f)) := fun o7 => by
      rw [encS_map]
      refine lcL_map fun z hz => ⟨_, rfl, ?_⟩
      simp [chk, gl, (hf z).1]
    obtain ⟨ts', t6, t7, t8, e, l2, h2⟩ := traces_loop g c cnt sz hr m (j + 1) (ts ++ [ys.map f]) (at_ + x % ((sz : Int) + 1)) (.sh (.int (j : Nat))) (.sh (.int (x % ((sz : Int) + 1)))) (by omega) (by simp; omega) (fun t ht => by
      rcases List.mem_append.mp ht with q | q
      · exact h t q
      · rw [List.mem_singleton] at q
        subst q
        refine ⟨fun a ha => ?_, by simpa using hys⟩
        obtain ⟨z, _, ez⟩ := List.mem_map.mp ha
        rw [← ez]; exact (hf z).2)
    refine ⟨ts', t6, t7, t8, ?_, by rw [l2]; simp; omega, h2⟩
    have p0 : (0 : Int) < (sz : Int) + 1 := by omega
    have nl : (encW ts).length ≤ 1000000 := by simp; omega
    have z1 : ys.length ≤ 16777216 := by omega
    rw [List.range'_succ, encI_cons, forL_step (bindT_one _ _ _)]
    simp [chk, ex, p0, cutD_map, sizeLine_val]
    rw [if_pos (show (cutL row (some at_) (some (at_ + x % ((sz : Int) + 1)))).length ≤ 16777216 from z1)]
    simp only [e1, ys] at *
    simp [e1, appR_ok nl]
    rw [show encW ts ++ [D.lst (encS (List.map f ys))] = encW (ts ++ [ys.map f]) by simp [encW]]
    exact e
end Lw

set_option Elab.async false
set_option linter.all false
set_option maxRecDepth 100000
set_option maxHeartbeats 4000000
namespace Lw
open Fx
open PySem (Str PyData)
open PySem.PyData (strOk)
theorem V_traces {ns : List Str} (g : Nm ns) (c : Int) (cnt sz : Nat) (hc : cnt ≤ 40) : ∃ ts, F__law_traces [.lst (encS ns), .int c, .int (cnt : Nat), .int (sz : Nat)] = .ok (.lst (encW ts)) ∧ ts.length = cnt ∧ (∀ t ∈ ts, (∀ a ∈ t, a ∈ ns) ∧ t.length ≤ 40) := by
  obtain ⟨ts, t6, t7, t8, e, l, h⟩ := traces_loop g (.int c) (.int (cnt : Nat)) sz (row_length c 40) cnt 0 [] (cnt : Nat) .no .no (by omega) (by simp) (by simp)
  refine ⟨ts, ?_, by simpa using l, h⟩
  have er : rng1R [.int (cnt : Nat)] = .ok (encI (List.range' 0 cnt)) := by
    rw [rng1R_nat (by omega), rngL_nat, List.range_eq_range']; rfl
  have ev : F__law_row [.int c, .int 40] = .ok (.lst ((row c 40).map .int)) := V_row c 40 (by omega)
  have e0 : encW [] = ([] : List D) := rfl
  rw [e0] at e
  unfold F__law_traces g__law_traces
  simp [ev, er, sizeLine_val]
  rw [e]
  simp
/-! ### windows -/
def nb (sz : Nat) (s : List Str) : List (List Str) := (List.range (s.length + 1 - sz)).map fun k => (s.drop k).take sz
def encT (w : List Str) : D := .tup (encS w)
theorem nb_len (sz : Nat) (s : List Str) : (nb sz s).length = s.length + 1 - sz := by simp [nb]
theorem nb_turn {s : List Str} {sz : Nat} (hs : s.length ≤ 1000) (k : Nat) (hk : k + sz ≤ s.length) (o0 o2 : Sl) : un tupleD (slc (vo 1) (some (vr 2)) (some (bi addD (vo 2) (vo 0)))) [.sh (.int (sz : Nat)), .sh (.lst (encS s)), .sh (.int (k : Nat))] = .ok (encT ((s.drop k).take sz)) := by
  have e : cutD (encS s) (some (k : Int)) (some ((k : Int) + sz)) = encS ((s.drop k).take sz) := by
    have := cutD_mid (encS s) k (k + sz) (by simpa using hk) (by omega)
    rw [show (((k + sz : Nat)) : Int) = (k : Int) + sz by omega, show k + sz - k = sz by omega] at this
    rw [this]
    simp [encS]
  simp [e, encT]
theorem V_nb_aux {s : List Str} {sz : Nat} (hs : s.length ≤ 1000) (h1 : sz ≤ s.length + 1) : lcL (.one 2) [2] yes (un tupleD (slc (vo 1) (some (vr 2)) (some (bi addD (vo 2) (vo 0))))) [.sh (.int (sz : Nat)), .sh (.lst (encS s)), .no] (encI (List.range (s.length + 1 - sz))) = .ok ((nb sz s).map encT) := by
  rw [nb, List.map_map]
  refine lcL_map fun k hk => ⟨_, rfl, ?_⟩
  have hk := List.mem_range.mp hk
  exact nb_turn hs k (by omega) .no .no
theorem V_nb_rng {s : List Str} {sz : Nat} (hs : s.length ≤ 1000) (h1 : sz ≤ s.length + 1) : rng1R [.int ((s.length : Int) - sz + 1)] = .ok (encI (List.range (s.length + 1 - sz))) := by
  rw [show (s.length : Int) - sz + 1 = ((s.length + 1 - sz : Nat) : Int) by omega, rng1R_nat (by omega), rngL_nat]; rfl
theorem V_neighbors {s : List Str} {sz : Nat} (hs : s.length ≤ 1000) (h1 : sz ≤ s.length + 1) : F_neighbors [.int (sz : Nat), .lst (encS s)] = .ok (.lst ((nb sz s).map encT)) := by
  have z : s.length + 1 - sz ≤ 16777216 := by omega
  unfold F_neighbors g_neighbors
  simp [V_nb_rng hs h1, sizeLine_val, z, V_nb_aux hs h1]
theorem V_neighborsL {s : List Str} {sz : Nat} (hs : s.length ≤ 1000) (h1 : sz ≤ s.length + 1) : F__law_neighbors [.int (sz : Nat), .lst (encS s)] = .ok (.lst ((nb sz s).map encT)) := by
  have z : s.length + 1 - sz ≤ 16777216 := by omega
  unfold F__law_neighbors g__law_neighbors
  simp [V_nb_rng hs h1, sizeLine_val, z, V_nb_aux hs h1]
def uqs {α : Type} [DecidableEq α] (f : List α) : List α → List α
  | [] => f
  | x :: xs => uqs (if x ∈ f then f else f ++ [x]) xs
theorem uqs_mem {α : Type} [DecidableEq α] : ∀ (xs f : List α) (x : α), x ∈ uqs f xs ↔ x ∈ f ∨ x ∈ xs
  | [], f, x => by simp [uqs]
  | y :: xs, f, x => by
    rw [uqs, uqs_mem xs]
    by_cases h : y ∈ f
    · rw [if_pos h]
      constructor
      · rintro (a | a)
        · exact .inl a
        · exact .inr (List.mem_cons_of_mem _ a)
      · rintro (a | a)
        · exact .inl a
        · rcases List.mem_cons.mp a with e | a
          · subst e; exact .inl h
          · exact .inr a
    · rw [if_neg h, List.mem_append, List.mem_singleton, List.mem_cons]
      constructor
      · rintro ((a | a) | a)
        · exact .inl a
        · exact .inr (.inl a)
        · exact .inr (.inr a)
      · rintro (a | a | a)
        · exact .inl (.inl a)
        · exact .inl (.inr a)
        · exact .inr a
theorem uqs_nodup {α : Type} [DecidableEq α] : ∀ (xs f : List α), f.Nodup → (uqs f xs).Nodup
  | [], f, h => h
  | y :: xs, f, h => by
    rw [uqs]
    by_cases hy : y ∈ f
    · rw [if_pos hy]; exact uqs_nodup xs f h
    · rw [if_neg hy]
      refine uqs_nodup xs _ ?_
      rw [List.nodup_append]
      exact ⟨h, by simp, fun a ha b hb e => by rw [List.mem_singleton] at hb; subst hb; subst e; exact hy ha⟩
theorem uqs_len {α : Type} [DecidableEq α] : ∀ (xs f : List α), (uqs f xs).length ≤ f.length + xs.length
  | [], f => Nat.le_refl _
  | y :: xs, f => by
    rw [uqs]
    by_cases hy : y ∈ f
    · rw [if_pos hy]
      have := uqs_len xs f
      simp only [List.length_cons]; omega
    · rw [if_neg hy]
      have := uqs_len xs (f ++ [y])
      simp only [List.length_cons, List.length_append, List.length_nil] at this ⊢; omega
/-! ### comparing windows -/
def okS (w : List Str) : Prop := ∀ x ∈ w, strOk x = true
theorem pn_T {w : List Str} (h : okS w) : Pn 1 (encT w) (.tuple (w.map .str)) := PnL.tup (PnL.map fun x hx => Pn.str 0 (h x hx))
theorem eqv_strs : ∀ (a b : List Str), PyData.eqv (.tuple (a.map .str)) (.tuple (b.map .str)) = decide (a = b) := by
  intro a b
  have key : ∀ (a b : List Str), PyData.eqvAll (a.map PyData.str) (b.map PyData.str) = decide (a = b) := by
    intro a
    induction a with
    | nil => intro b; cases b <;> simp [PyData.eqvAll]
    | cons x a ih =>
      intro b
      cases b with
      | nil => simp [PyData.eqvAll]
      | cons y b =>
        simp only [List.map_cons, PyData.eqvAll, eqv_str, ih]
        rw [Bool.eq_iff_iff]
        simp
  simpa [PyData.eqv] using key a b
theorem in_T {w : List Str} {ws : List (List Str)} (h : okS w) (hs : ∀ x ∈ ws, okS x) (tp : Bool) : inB (encT w) (if tp then .tup (ws.map encT) else .lst (ws.map encT)) = some (decide (w ∈ ws)) := by
  have e : (ws.map fun x => PyData.tuple (x.map .str)).any (fun z => PyData.eqv z (.tuple (w.map .str))) = decide (w ∈ ws) := by
    rw [List.any_map, Bool.eq_iff_iff, List.any_eq_true]
    simp [eqv_strs]
  cases tp with
  | true => rw [if_pos rfl, inB_tup (pn_T h) (PnL.map fun x hx => pn_T (hs x hx)), e]
  | false => rw [if_neg (by decide), inB_lst (pn_T h) (PnL.map fun x hx => pn_T (hs x hx)), e]
theorem in_Tl {w : List Str} {ws : List (List Str)} (h : okS w) (hs : ∀ x ∈ ws, okS x) : inB (encT w) (.lst (ws.map encT)) = some (decide (w ∈ ws)) := in_T h hs false
theorem in_Tt {w : List Str} {ws : List (List Str)} (h : okS w) (hs : ∀ x ∈ ws, okS x) : inB (encT w) (.tup (ws.map encT)) = some (decide (w ∈ ws)) := in_T h hs true
end Lw

set_option Elab.async false
set_option linter.all false
set_option maxRecDepth 100000
set_option maxHeartbeats 4000000
namespace Lw
open Fx
open PySem (Str PyData)
open PySem.PyData (strOk)
def mk (sz : Nat) (t : List Str) : List Str := List.replicate (sz - 1) ("<" : Str) ++ t ++ List.replicate (sz - 1) (">" : Str)
def wset (sz : Nat) (t : List Str) : List (List Str) := uqs [] (nb sz (mk sz t))
theorem mk_len (sz : Nat) (t : List Str) : (mk sz t).length = 2 * (sz - 1) + t.length := by simp [mk]; omega
theorem lt_ok : strOk ("<" : Str) = true := by decide +kernel
theorem gt_ok : strOk (">" : Str) = true := by decide +kernel
theorem mk_ok {sz : Nat} {t : List Str} (h : okS t) : okS (mk sz t) := by
  intro x hx
  simp only [mk, List.mem_append, List.mem_replicate] at hx
  rcases hx with (⟨_, e⟩ | hx) | ⟨_, e⟩
  · rw [e]; exact lt_ok
  · exact h x hx
  · rw [e]; exact gt_ok
theorem nb_ok {sz : Nat} {s : List Str} (h : okS s) : ∀ w ∈ nb sz s, okS w := by
  intro w hw x hx
  obtain ⟨k, _, e⟩ := List.mem_map.mp hw
  rw [← e] at hx
  exact h x (List.mem_of_mem_drop (List.mem_of_mem_take hx))
theorem wset_ok {sz : Nat} {t : List Str} (h : okS t) : ∀ w ∈ wset sz t, okS w := fun w hw => by
  rcases (uqs_mem _ _ _).mp hw with h' | h'
  · cases h'
  · exact nb_ok (mk_ok h) w h'
theorem wset_len (sz : Nat) (t : List Str) (h : 1 ≤ sz) (h3 : sz ≤ 3) : (wset sz t).length ≤ t.length + 3 := by
  have := uqs_len (nb sz (mk sz t)) []
  rw [nb_len, mk_len] at this
  simp at this
  unfold wset
  omega
theorem mulS (x : Str) {n : Nat} (h : n ≤ 1000) : mulD (.lst [.str x]) (.int (n : Nat)) = .ok (.lst (encS (List.replicate n x))) := by
  have h1 : n ≤ 16777216 := by omega
  have h2 : (n : Int) < 9223372036854775808 := by omega
  have h3 : (-9223372036854775808 : Int) ≤ n := by omega
  rw [mulD_lst, decide_eq_true ⟨by omega, by omega, by simp [sizeLine_val]; omega⟩]
  simp [encS]
section
variable {sz : Nat} {t : List Str} {dt : D}
theorem subI (h : 1 ≤ sz) : (sz : Int) - 1 = ((sz - 1 : Nat) : Int) := by omega
theorem V_marked (h : 1 ≤ sz) (h3 : sz ≤ 3) (hl : t.length ≤ 200) (hd : listD dt = .ok (.lst (encS t))) : F_marked [.int (sz : Nat), dt] = .ok (.lst (encS (mk sz t))) := by
  have z1 : sz - 1 + t.length ≤ 16777216 := by omega
  have z2 : sz - 1 + t.length + (sz - 1) ≤ 16777216 := by omega
  unfold F_marked g_marked
  simp [sizeLine_val, subI h, mulS _ (show sz - 1 ≤ 1000 by omega), hd, z1, z2]
  simp [mk, encS_app]
theorem wof_loop (h : okS t) (a b : Sl) : ∀ (ws f : List (List Str)) (o3 : Sl), (∀ w ∈ f, okS w) → (∀ w ∈ ws, okS w) → f.length + ws.length ≤ 1000 → ∃ t3, forL (.one 3) (iff (tst (bi ninD (vo 3) (vo 2))) (app 2 (vr 3)) sNx) (ws.map encT) [a, b, .ow (.lst (f.map encT)), o3] = .ok (.nx [a, b, .ow (.lst ((uqs f ws).map encT)), t3])
  | [], f, o3, _, _, _ => ⟨o3, rfl⟩
  | w :: ws, f, o3, hf, hw, hl => by
    simp only [List.length_cons] at hl
    have w1 := hw w List.mem_cons_self
    have i1 := ninD_of (in_Tl w1 hf)
    have nl : (f.map encT).length ≤ 1000000 := by simp; omega
    rw [List.map_cons, forL_step (bindT_one _ _ _), uqs]
    by_cases hc : w ∈ f
    · rw [if_pos hc]
      obtain ⟨t3, e⟩ := wof_loop h a b ws f (.sh (encT w)) hf (fun x hx => hw x (List.mem_cons_of_mem _ hx)) (by omega)
      refine ⟨t3, ?_⟩
      simp [i1, hc]
      exact e
    · rw [if_neg hc]
      obtain ⟨t3, e⟩ := wof_loop h a b ws (f ++ [w]) (.sh (encT w)) (fun x hx => by
        rcases List.mem_append.mp hx with q | q
        · exact hf x q
        · rw [List.mem_singleton] at q; rw [q]; exact w1) (fun x hx => hw x (List.mem_cons_of_mem _ hx)) (by simp; omega)
      refine ⟨t3, ?_⟩
      simp [i1, hc, appR_ok nl]
      rw [show f.map encT ++ [encT w] = (f ++ [w]).map encT by simp]
      exact e
theorem wofL_loop (h : okS t) (a b c d o6 : Sl) : ∀ (ws f : List (List Str)) (o5 : Sl), (∀ w ∈ f, okS w) → (∀ w ∈ ws, okS w) → f.length + ws.length ≤ 1000 → ∃ t5, forL (.one 5) (iff (tst (bi ninD (vo 5) (vo 2))) (app 2 (vr 5)) sNx) (ws.map encT) [a, b, .ow (.lst (f.map encT)), c, d, o5, o6] = .ok (.nx [a, b, .ow (.lst ((uqs f ws).map encT)), c, d, t5, o6])
  | [], f, o3, _, _, _ => ⟨o3, rfl⟩
  | w :: ws, f, o3, hf, hw, hl => by
    simp only [List.length_cons] at hl
    have w1 := hw w List.mem_cons_self
    have i1 := ninD_of (in_Tl w1 hf)
    have nl : (f.map encT).length ≤ 1000000 := by simp; omega
    rw [List.map_cons, forL_step (bindT_one _ _ _), uqs]
    by_cases hc : w ∈ f
    · rw [if_pos hc]
      obtain ⟨t3, e⟩ := wofL_loop h a b c d o6 ws f (.sh (encT w)) hf (fun x hx => hw x (List.mem_cons_of_mem _ hx)) (by omega)
      refine ⟨t3, ?_⟩
      simp [i1, hc]
      exact e
    · rw [if_neg hc]
      obtain ⟨t3, e⟩ := wofL_loop h a b c d o6 ws (f ++ [w]) (.sh (encT w)) (fun x hx => by
        rcases List.mem_append.mp hx with q | q
        · exact hf x q
        · rw [List.mem_singleton] at q; rw [q]; exact w1) (fun x hx => hw x (List.mem_cons_of_mem _ hx)) (by simp; omega)
      refine ⟨t3, ?_⟩
      simp [i1, hc, appR_ok nl]
      rw [show f.map encT ++ [encT w] = (f ++ [w]).map encT by simp]
      exact e
theorem V_windows_of (h : 1 ≤ sz) (h3 : sz ≤ 3) (hl : t.length ≤ 200) (ho : okS t) (hd : listD dt = .ok (.lst (encS t))) : F_windows_of [.int (sz : Nat), dt] = .ok (.lst ((wset sz t).map encT)) := by
  have ml := mk_len sz t
  have en := V_neighbors (s := mk sz t) (sz := sz) (by omega) (by omega)
  obtain ⟨t3, e⟩ := wof_loop ho (.sh (.int (sz : Nat))) (.sh dt) (nb sz (mk sz t)) [] .no (by simp) (nb_ok (mk_ok ho)) (by rw [nb_len]; simp; omega)
  have e0 : List.map encT [] = ([] : List D) := rfl
  rw [e0] at e
  unfold F_windows_of g_windows_of
  simp [V_marked h h3 hl hd, en, sizeLine_val]
  rw [e]
  simp [wset]
theorem reps (x : Str) (a b : Sl) {n : Nat} (h : n ≤ 1000) (os : List Sl) : lcL (.one 6) [6] yes (cst (.str x)) (a :: b :: os) (encI (List.range n)) = .ok (encS (List.replicate n x)) := by
  have e : encS (List.replicate n x) = (List.range n).map fun _ => D.str x := by
    simp only [encS, List.map_replicate]
    rw [List.map_const', List.length_range]
  rw [e]
  exact lcL_map fun k hk => ⟨_, rfl, rfl⟩
theorem V_law_windows (h : 1 ≤ sz) (h3 : sz ≤ 3) (hl : t.length ≤ 200) (ho : okS t) (hd : listD dt = .ok (.lst (encS t))) : F__law_windows [.int (sz : Nat), dt] = .ok (.lst ((wset sz t).map encT)) := by
  have ml := mk_len sz t
  have en := V_neighborsL (s := mk sz t) (sz := sz) (by omega) (by omega)
  obtain ⟨t5, e⟩ := wofL_loop ho (.sh (.int (sz : Nat))) (.sh dt) (.sh (.lst (encS (List.replicate (sz - 1) "<")))) (.sh (.lst (encS (List.replicate (sz - 1) ">")))) .no (nb sz (mk sz t)) [] .no (by simp) (nb_ok (mk_ok ho)) (by rw [nb_len]; simp; omega)
  have e0 : List.map encT [] = ([] : List D) := rfl
  rw [e0] at e
  have er : rng1R [.int ((sz : Int) - 1)] = .ok (encI (List.range (sz - 1))) := by rw [subI h, rng1R_nat (by omega), rngL_nat]; rfl
  have z0 : sz - 1 ≤ 16777216 := by omega
  have z1 : sz - 1 + t.length ≤ 16777216 := by omega
  have z2 : sz - 1 + t.length + (sz - 1) ≤ 16777216 := by omega
  have em : encS (List.replicate (sz - 1) "<") ++ encS t ++ encS (List.replicate (sz - 1) ">") = encS (mk sz t) := by simp [mk, encS_app]
  unfold F__law_windows g__law_windows
  simp [er, sizeLine_val, z0, reps _ _ _ (show sz - 1 ≤ 1000 by omega), hd, z1, z2]
  rw [← List.append_assoc, em]
  simp [en]
  rw [e]
  simp [wset]
end
end Lw

set_option Elab.async false
set_option linter.all false
set_option maxRecDepth 100000
set_option maxHeartbeats 4000000
namespace Lw
open Fx
open PySem (Str PyData)
open PySem.PyData (strOk)
def encP (sz : Nat) (ws : List (List Str)) : D := .obj "Process" [("size", .int (sz : Nat)), ("windows", .tup (ws.map encT))]
theorem f_size (sz : Nat) (ws : List (List Str)) : fldD [("Process" : Str)] "size" (encP sz ws) = .ok (.int (sz : Nat)) := rfl
theorem f_windows (sz : Nat) (ws : List (List Str)) : fldD [("Process" : Str)] "windows" (encP sz ws) = .ok (.tup (ws.map encT)) := rfl
def all_ (ws : List (List Str)) (xs : List (List Str)) : Bool := xs.all fun w => decide (w ∈ ws)
theorem all_filter (ws xs : List (List Str)) : decide (((xs.filter fun w => !decide (w ∈ ws)).length : Int) = 0) = all_ ws xs := by
  unfold all_
  rw [Bool.eq_iff_iff]
  simp [List.filter_eq_nil_iff]
section
variable {sz : Nat} {t : List Str} {dt : D} {ws : List (List Str)}
theorem V_allows (h : 1 ≤ sz) (h3 : sz ≤ 3) (hl : t.length ≤ 200) (ho : okS t) (hw : ∀ w ∈ ws, okS w) (hd : listD dt = .ok (.lst (encS t))) : F_allows [encP sz ws, dt] = .ok (.bl (all_ ws (wset sz t))) := by
  have e1 : ∀ o : Sl, gaL (.one 2) [2] false (bi inD (vo 2) (un (fldD [("Process" : Str)] "windows") (vo 0))) [.sh (encP sz ws), .sh dt, o] ((wset sz t).map encT) = .ok (.bl (all_ ws (wset sz t))) := fun o => by
    refine gaL_all fun w hw2 => ⟨_, rfl, ?_⟩
    simp [f_windows, inD_of (in_Tt (wset_ok ho w hw2) hw)]
  unfold F_allows g_allows
  simp [f_size, V_windows_of h h3 hl ho hd, e1]
theorem V_law_allows (h : 1 ≤ sz) (h3 : sz ≤ 3) (hl : t.length ≤ 200) (ho : okS t) (hw : ∀ w ∈ ws, okS w) (hd : listD dt = .ok (.lst (encS t))) : F__law_allows [.int (sz : Nat), .lst (ws.map encT), dt] = .ok (.bl (all_ ws (wset sz t))) := by
  have e1 : ∀ o : Sl, lcL (.one 3) [3] (tst (bi ninD (vo 3) (vo 1))) (vr 3) [.sh (.int (sz : Nat)), .sh (.lst (ws.map encT)), .sh dt, o] ((wset sz t).map encT) = .ok (((wset sz t).filter fun w => !decide (w ∈ ws)).map encT) := fun o => by
    refine lcL_filter fun w hw2 => ⟨_, rfl, ?_, ?_⟩
    · simp [ninD_of (in_Tl (wset_ok ho w hw2) hw)]
    · intro _; simp
  have zl := wset_len sz t h h3
  have z : (wset sz t).length ≤ 16777216 := by omega
  unfold F__law_allows g__law_allows
  simp [V_law_windows h h3 hl ho hd, e1, sizeLine_val, z, eqD_ints]
  simpa using all_filter ws (wset sz t)
def tl (sz : Nat) (t : List Str) : List Str := (List.replicate (sz - 1) ("<" : Str) ++ t).drop t.length
theorem tl_len (sz : Nat) (t : List Str) : (tl sz t).length = sz - 1 := by simp [tl]
theorem tl_ok {sz : Nat} {t : List Str} (h : okS t) : okS (tl sz t) := by
  intro x hx
  have hx := List.mem_of_mem_drop hx
  simp only [List.mem_append, List.mem_replicate] at hx
  rcases hx with ⟨_, e⟩ | hx
  · rw [e]; exact lt_ok
  · exact h x hx
theorem tail_ix (h : 1 ≤ sz) : ((((List.replicate (sz - 1) ("<" : Str) ++ t).length : Nat) : Int) - sz + 1) = (t.length : Int) := by simp; omega
theorem V_tail_of (h : 1 ≤ sz) (h3 : sz ≤ 3) (hl : t.length ≤ 200) (hd : listD dt = .ok (.lst (encS t))) : F_tail_of [.int (sz : Nat), dt] = .ok (encT (tl sz t)) := by
  have z1 : sz - 1 + t.length ≤ 16777216 := by omega
  have ix : ((sz - 1 : Nat) : Int) + (t.length : Int) - (sz : Int) + 1 = (t.length : Int) := by omega
  have e := encS_drop (List.replicate (sz - 1) ("<" : Str) ++ t) t.length
  rw [encS_app] at e
  unfold F_tail_of g_tail_of
  simp [sizeLine_val, subI h, mulS _ (show sz - 1 ≤ 1000 by omega), hd, z1, ix, e, tl, encT]
theorem reps3 (x : Str) (a b c : Sl) {n : Nat} (os : List Sl) (k : Nat) (i : Nat) (hk : k = i) : lcL (.one i) [i] yes (cst (.str x)) (a :: b :: c :: os) (encI (List.range n)) = .ok (encS (List.replicate n x)) := by
  have e : encS (List.replicate n x) = (List.range n).map fun _ => D.str x := by
    simp only [encS, List.map_replicate]
    rw [List.map_const', List.length_range]
  rw [e]
  exact lcL_map fun k hk => ⟨_, rfl, rfl⟩
theorem rngS (h : 1 ≤ sz) (h3 : sz ≤ 3) : rng1R [.int ((sz : Int) - 1)] = .ok (encI (List.range (sz - 1))) := by rw [subI h, rng1R_nat (by omega), rngL_nat]; rfl
theorem V_law_tail (h : 1 ≤ sz) (h3 : sz ≤ 3) (hl : t.length ≤ 200) (hd : listD dt = .ok (.lst (encS t))) : F__law_tail [.int (sz : Nat), dt] = .ok (encT (tl sz t)) := by
  have z0 : sz - 1 ≤ 16777216 := by omega
  have z1 : sz - 1 + t.length ≤ 16777216 := by omega
  have ix : ((sz - 1 : Nat) : Int) + (t.length : Int) - (sz : Int) + 1 = (t.length : Int) := by omega
  have e := encS_drop (List.replicate (sz - 1) ("<" : Str) ++ t) t.length
  rw [encS_app] at e
  unfold F__law_tail g__law_tail
  simp [sizeLine_val, rngS h h3, reps3 _ _ _ _ _ 3 3 rfl, hd, z0, z1, ix, e, tl, encT]
def nx (ws : List (List Str)) (ns tail : List Str) : List Str := ns.filter fun a => decide (tail ++ [a] ∈ ws)
def nxt (tail : List Str) (a : Str) : List Str := (tail ++ [a]).drop 1
def encN (tail : List Str) (a : Str) : D := .tup [.str a, encT (nxt tail a)]
theorem add_tup (tail : List Str) (a : Str) (h : tail.length ≤ 200) : addD (encT tail) (.tup [.str a]) = .ok (encT (tail ++ [a])) := by
  have z : tail.length + 1 ≤ 16777216 := by omega
  simp [encT, sizeLine_val, z, encS_app]
  rfl
theorem sl1 (s : List Str) : slD (encT s) (some 1) none = .ok (encT (s.drop 1)) := by
  have := encS_drop s 1
  rw [show ((1 : Nat) : Int) = 1 from rfl] at this
  simp [encT, this]
theorem ok_snoc {tail : List Str} {a : Str} (h : okS tail) (ha : strOk a = true) : okS (tail ++ [a]) := by
  intro x hx
  rcases List.mem_append.mp hx with q | q
  · exact h x q
  · rw [List.mem_singleton] at q; rw [q]; exact ha
theorem V_next_tail (tail : List Str) (a : Str) (h : tail.length ≤ 200) : F_next_tail [encT tail, .str a] = .ok (encT (nxt tail a)) := by
  unfold nxt
  unfold F_next_tail g_next_tail
  simp [sizeLine_val, add_tup tail a h, sl1]
theorem next_loop {tail : List Str} (hl : tail.length ≤ 200) (ho : okS tail) (hw : ∀ w ∈ ws, okS w) (dn : Sl) : ∀ (ns acc : List Str) (o4 : Sl), okS ns → acc.length + ns.length ≤ 1000 → ∃ t4,
    forL (.one 4) (iff (tst (bi inD (bi addD (vo 2) (tpl (aC (vr 4) aN))) (un (fldD [("Process" : Str)] "windows") (vo 0)))) (app 3 (tpl (aC (vr 4) (aC (cal F_next_tail 2 [] (aC (vr 2) (aC (vr 4) aN))) aN)))) sNx) (encS ns)
      [.sh (encP sz ws), dn, .sh (encT tail), .ow (.lst (acc.map (encN tail))), o4] = .ok (.nx [.sh (encP sz ws), dn, .sh (encT tail), .ow (.lst ((acc ++ nx ws ns tail).map (encN tail))), t4])
  | [], acc, o4, _, _ => ⟨o4, by simp [nx, encS, forL_nil]⟩
  | a :: ns, acc, o4, hn, hb => by
    simp only [List.length_cons] at hb
    have ha := hn a List.mem_cons_self
    have i1 := inD_of (in_Tt (ok_snoc ho ha) hw)
    have nl : (acc.map (encN tail)).length ≤ 1000000 := by simp; omega
    rw [encS_cons, forL_step (bindT_one _ _ _)]
    by_cases hc : tail ++ [a] ∈ ws
    · obtain ⟨t4, e⟩ := next_loop hl ho hw dn ns (acc ++ [a]) (.sh (.str a)) (fun x hx => hn x (List.mem_cons_of_mem _ hx)) (by simp; omega)
      refine ⟨t4, ?_⟩
      simp [sizeLine_val, add_tup tail a hl, f_windows, i1, hc, V_next_tail tail a hl, appR_ok nl]
      rw [show acc.map (encN tail) ++ [D.tup [D.str a, encT (nxt tail a)]] = (acc ++ [a]).map (encN tail) by simp [encN]]
      rw [show nx ws (a :: ns) tail = a :: nx ws ns tail by simp [nx, hc]]
      rw [← List.map_append, show acc ++ a :: nx ws ns tail = acc ++ [a] ++ nx ws ns tail by simp]
      exact e
    · obtain ⟨t4, e⟩ := next_loop hl ho hw dn ns acc (.sh (.str a)) (fun x hx => hn x (List.mem_cons_of_mem _ hx)) (by omega)
      refine ⟨t4, ?_⟩
      simp [sizeLine_val, add_tup tail a hl, f_windows, i1, hc]
      rw [show nx ws (a :: ns) tail = nx ws ns tail by simp [nx, hc]]
      simpa using e
theorem V_next_tails {dn : D} {tail ns : List Str} (hl : tail.length ≤ 200) (ho : okS tail) (hw : ∀ w ∈ ws, okS w) (hn : okS ns) (h5 : ns.length ≤ 5) (hi : items dn = some (encS ns)) (hd : tupleD dt = .ok (encT tail)) : F_next_tails [encP sz ws, dn, dt] = .ok (.lst ((nx ws ns tail).map (encN tail))) := by
  obtain ⟨t4, e⟩ := next_loop (sz := sz) hl ho hw (.sh dn) ns [] .no hn (by simp; omega)
  have e0 : List.map (encN tail) [] = ([] : List D) := rfl
  rw [e0] at e
  unfold F_next_tails g_next_tails
  simp [hd, sizeLine_val, hi]
  rw [e]
  simp
theorem V_law_next {tail ns : List Str} (hl : tail.length ≤ 200) (ho : okS tail) (hw : ∀ w ∈ ws, okS w) (hn : okS ns) (h5 : ns.length ≤ 5) : F__law_next [.lst (ws.map encT), .lst (encS ns), encT tail] = .ok (.lst ((nx ws ns tail).map (encN tail))) := by
  have e1 : ∀ o : Sl, lcL (.one 3) [3] (tst (bi inD (bi addD (vo 2) (tpl (aC (vr 3) aN))) (vo 0))) (tpl (aC (vr 3) (aC (slc (bi addD (vo 2) (tpl (aC (vr 3) aN))) (some (cst (.int 1))) none) aN))) [.sh (.lst (ws.map encT)), .sh (.lst (encS ns)), .sh (encT tail), o] (encS ns) = .ok ((nx ws ns tail).map (encN tail)) := fun o => by
    unfold nx
    refine lcL_filter (f := D.str) fun a ha => ⟨_, rfl, ?_, ?_⟩
    · simp [sizeLine_val, add_tup tail a hl, inD_of (in_Tl (ok_snoc ho (hn a ha)) hw)]
    · intro _
      have := sl1 (tail ++ [a])
      simp [sizeLine_val, add_tup tail a hl, encN, nxt, this]
  have z : ns.length ≤ 16777216 := by omega
  unfold F__law_next g__law_next
  simp [sizeLine_val, z, e1]
def cl (tail : List Str) : List (List Str) := nb (tail.length + 1) (tail ++ List.replicate tail.length (">" : Str))
theorem cl_ok {tail : List Str} (h : okS tail) : ∀ w ∈ cl tail, okS w := nb_ok fun x hx => by
  rcases List.mem_append.mp hx with q | q
  · exact h x q
  · rw [(List.mem_replicate.mp q).2]; exact gt_ok
theorem V_can_stop {tail : List Str} (hl : tail.length ≤ 200) (ho : okS tail) (hw : ∀ w ∈ ws, okS w) (h1 : lenD dt = .ok (.int (tail.length : Nat))) (h2 : listD dt = .ok (.lst (encS tail))) : F_can_stop [encP sz ws, dt] = .ok (.bl (all_ ws (cl tail))) := by
  have z : tail.length + tail.length ≤ 16777216 := by omega
  have en := V_neighbors (s := tail ++ List.replicate tail.length (">" : Str)) (sz := tail.length + 1) (by simp; omega) (by simp)
  have ec : F_closing [dt] = .ok (.lst ((cl tail).map encT)) := by
    unfold F_closing g_closing
    rw [encS_app] at en
    simp at en
    simp [h1, h2, sizeLine_val, mulS _ (show tail.length ≤ 1000 by omega), z, en, cl]
  have e1 : ∀ o : Sl, gaL (.one 2) [2] false (bi inD (vo 2) (un (fldD [("Process" : Str)] "windows") (vo 0))) [.sh (encP sz ws), .sh dt, o] ((cl tail).map encT) = .ok (.bl (all_ ws (cl tail))) := fun o => by
    refine gaL_all fun w hw2 => ⟨_, rfl, ?_⟩
    simp [f_windows, inD_of (in_Tt (cl_ok ho w hw2) hw)]
  unfold F_can_stop g_can_stop
  simp [ec, e1]
theorem V_law_stops {tail : List Str} (h : 1 ≤ sz) (h3 : sz ≤ 3) (hl : tail.length + 1 = sz) (ho : okS tail) (hw : ∀ w ∈ ws, okS w) (h2 : listD dt = .ok (.lst (encS tail))) : F__law_stops [.int (sz : Nat), .lst (ws.map encT), dt] = .ok (.bl (all_ ws (cl tail))) := by
  have z0 : sz - 1 ≤ 16777216 := by omega
  have z1 : tail.length + (sz - 1) ≤ 16777216 := by omega
  have en := V_neighborsL (s := tail ++ List.replicate (sz - 1) (">" : Str)) (sz := sz) (by simp; omega) (by simp; omega)
  have ecl : nb sz (tail ++ List.replicate (sz - 1) (">" : Str)) = cl tail := by
    unfold cl
    rw [show sz - 1 = tail.length by omega, hl]
  rw [ecl, encS_app] at en
  have cll : (cl tail).length ≤ 16777216 := by
    unfold cl
    rw [nb_len]; simp; omega
  have e1 : ∀ o3 o4 o5 : Sl, lcL (.one 5) [5] (tst (bi ninD (vo 5) (vo 1))) (vr 5) [.sh (.int (sz : Nat)), .sh (.lst (ws.map encT)), .sh dt, o3, o4, o5] ((cl tail).map encT) = .ok (((cl tail).filter fun w => !decide (w ∈ ws)).map encT) := fun o3 o4 o5 => by
    refine lcL_filter fun w hw2 => ⟨_, rfl, ?_, ?_⟩
    · simp [ninD_of (in_Tl (cl_ok ho w hw2) hw)]
    · intro _; simp
  unfold F__law_stops g__law_stops
  simp [h2, rngS h h3, sizeLine_val, z0, reps3 _ _ _ _ _ 4 4 rfl, z1, en, cll, e1, eqD_ints]
  simpa using all_filter ws (cl tail)
end
end Lw

set_option Elab.async false
set_option linter.all false
set_option maxRecDepth 100000
set_option maxHeartbeats 4000000
namespace Lw
open Fx
open PySem (Str PyData)
open PySem.PyData (strOk)
def go (ws : List (List Str)) : List Str → List Str → Bool
  | tail, [] => all_ ws (cl tail)
  | tail, a :: t => if tail ++ [a] ∈ ws then go ws (nxt tail a) t else false
theorem filt1 {ns : List Str} (nd : ns.Nodup) {a : Str} (p : Str → Bool) : (ns.filter p).filter (fun x => decide (x = a)) = if a ∈ ns ∧ p a = true then [a] else [] := by
  induction ns with
  | nil => simp
  | cons x ns ih =>
    obtain ⟨hx, nd⟩ := List.nodup_cons.mp nd
    have ih := ih nd
    by_cases e : x = a
    · subst e
      have h0 : (ns.filter p).filter (fun y => decide (y = x)) = [] := by rw [ih, if_neg fun h => hx h.1]
      by_cases hp : p x = true
      · rw [List.filter_cons_of_pos hp, List.filter_cons_of_pos (by simp), h0, if_pos ⟨List.mem_cons_self, hp⟩]
      · rw [List.filter_cons_of_neg hp, h0, if_neg fun h => hp h.2]
    · have key : (List.filter p (x :: ns)).filter (fun y => decide (y = a)) = (ns.filter p).filter (fun y => decide (y = a)) := by
        by_cases hp : p x = true
        · rw [List.filter_cons_of_pos hp, List.filter_cons_of_neg (by simpa using e)]
        · rw [List.filter_cons_of_neg hp]
      rw [key, ih]
      have : a ∈ x :: ns ↔ a ∈ ns := by simp [List.mem_cons, Ne.symm e]
      simp only [this]
section
variable {sz : Nat} {ws : List (List Str)} {ns : List Str}
theorem nxt_len (tail : List Str) (a : Str) : (nxt tail a).length = tail.length := by simp [nxt]
theorem nxt_ok {tail : List Str} {a : Str} (h : okS tail) (ha : strOk a = true) : okS (nxt tail a) := fun x hx => ok_snoc h ha x (List.mem_of_mem_drop hx)
theorem eqD_S {a b : Str} (ha : strOk a = true) (hb : strOk b = true) : eqD (.str a) (.str b) = .ok (.bl (decide (a = b))) := by rw [eqD_val (Pn.str 0 ha) (Pn.str 0 hb), eqv_str, Bool.beq_eq_decide_eq]
theorem goes_loop (hw : ∀ w ∈ ws, okS w) (hn : okS ns) (h5 : ns.length ≤ 5) (nd : ns.Nodup) (s2 s3 : Sl) : ∀ (t tail : List Str) (o5 o6 : Sl), (∀ a ∈ t, a ∈ ns) → okS tail → tail.length ≤ 3 →
    (∃ tail' t5 t6, go ws tail t = all_ ws (cl tail') ∧ okS tail' ∧ tail'.length ≤ 3 ∧ forL (.one 5) (sq (asg 6 (lc (.one 7) [7] (itm (cal F_next_tails 3 [] (aC (vr 0) (aC (un tupleD (vo 1)) (aC (vr 4) aN))))) (tst (bi eqD (bi ixD (vo 7) (cst (.int 0))) (vo 5))) (bi ixD (vo 7) (cst (.int 1))))) (sq (iff (tst (bi neD (un lenD (vo 6)) (cst (.int 1)))) (Fx.ret (cst (.bl false))) sNx) (asg 4 (bi ixD (vo 6) (cst (.int 0)))))) (encS t)
      [.sh (encP sz ws), .sh (.lst (encS ns)), s2, s3, .sh (encT tail), o5, o6, .no] = .ok (.nx [.sh (encP sz ws), .sh (.lst (encS ns)), s2, s3, .sh (encT tail'), t5, t6, .no])) ∨
    (go ws tail t = false ∧ forL (.one 5) (sq (asg 6 (lc (.one 7) [7] (itm (cal F_next_tails 3 [] (aC (vr 0) (aC (un tupleD (vo 1)) (aC (vr 4) aN))))) (tst (bi eqD (bi ixD (vo 7) (cst (.int 0))) (vo 5))) (bi ixD (vo 7) (cst (.int 1))))) (sq (iff (tst (bi neD (un lenD (vo 6)) (cst (.int 1)))) (Fx.ret (cst (.bl false))) sNx) (asg 4 (bi ixD (vo 6) (cst (.int 0)))))) (encS t)
      [.sh (encP sz ws), .sh (.lst (encS ns)), s2, s3, .sh (encT tail), o5, o6, .no] = .ok (.rt (.bl false)))
  | [], tail, o5, o6, _, ht, hl => .inl ⟨tail, o5, o6, rfl, ht, hl, rfl⟩
  | a :: t, tail, o5, o6, hm, ht, hl => by
    have ha := hn a (hm a List.mem_cons_self)
    have ha2 := hm a List.mem_cons_self
    have en := V_next_tails (sz := sz) (dn := .tup (encS ns)) (dt := encT tail) (show tail.length ≤ 200 by omega) ht hw hn h5 rfl rfl
    have e1 : ∀ o6 : Sl, lcL (.one 7) [7] (tst (bi eqD (bi ixD (vo 7) (cst (.int 0))) (vo 5))) (bi ixD (vo 7) (cst (.int 1))) [.sh (encP sz ws), .sh (.lst (encS ns)), s2, s3, .sh (encT tail), .sh (.str a), o6, .no] ((nx ws ns tail).map (encN tail)) = .ok (((nx ws ns tail).filter fun x => decide (x = a)).map fun x => encT (nxt tail x)) := fun o6 => by
      refine lcL_filter fun x hx => ⟨_, rfl, ?_, ?_⟩
      · have hx2 : x ∈ ns := (List.mem_filter.mp hx).1
        have i0 : ixD (encN tail x) (.int 0) = .ok (.str x) := rfl
        simp [i0, eqD_S (hn x hx2) ha]
      · intro _
        have i1 : ixD (encN tail x) (.int 1) = .ok (encT (nxt tail x)) := rfl
        simp [i1]
    have ef : (nx ws ns tail).filter (fun x => decide (x = a)) = if tail ++ [a] ∈ ws then [a] else [] := by
      unfold nx
      rw [filt1 nd]
      by_cases hc : tail ++ [a] ∈ ws
      · rw [if_pos hc, if_pos ⟨ha2, by simpa using hc⟩]
      · rw [if_neg hc, if_neg fun h => hc (by simpa using h.2)]
    rw [ef] at e1
    have z : (nx ws ns tail).length ≤ 16777216 := by
      have := List.length_filter_le (fun a => decide (tail ++ [a] ∈ ws)) ns
      unfold nx
      omega
    by_cases hc : tail ++ [a] ∈ ws
    · rw [if_pos hc] at e1
      have i0 : ∀ d : D, ixL [d] 0 = .ok d := fun d => rfl
      have step : ∀ X : List Sl, X = [.sh (encP sz ws), .sh (.lst (encS ns)), s2, s3, .sh (encT tail), .sh (.str a), o6, .no] → (sq (asg 6 (lc (.one 7) [7] (itm (cal F_next_tails 3 [] (aC (vr 0) (aC (un tupleD (vo 1)) (aC (vr 4) aN))))) (tst (bi eqD (bi ixD (vo 7) (cst (.int 0))) (vo 5))) (bi ixD (vo 7) (cst (.int 1))))) (sq (iff (tst (bi neD (un lenD (vo 6)) (cst (.int 1)))) (Fx.ret (cst (.bl false))) sNx) (asg 4 (bi ixD (vo 6) (cst (.int 0)))))) X
          = .ok (.nx [.sh (encP sz ws), .sh (.lst (encS ns)), s2, s3, .sh (encT (nxt tail a)), .sh (.str a), .sh (.lst [encT (nxt tail a)]), .no]) := fun X hX => by
        subst hX
        simp [en, sizeLine_val, z, e1, neD_ints, i0]
      have hg : go ws tail (a :: t) = go ws (nxt tail a) t := by rw [go, if_pos hc]
      rw [encS_cons, forL_step (bindT_one _ _ _)]
      simp only [List.set_cons_succ, List.set_cons_zero]
      rw [step _ rfl, goOn_nx, hg]
      exact goes_loop hw hn h5 nd s2 s3 t (nxt tail a) (.sh (.str a)) (.sh (.lst [encT (nxt tail a)])) (fun x hx => hm x (List.mem_cons_of_mem _ hx)) (nxt_ok ht ha) (by rw [nxt_len]; exact hl)
    · rw [if_neg hc] at e1
      refine .inr ⟨by rw [go, if_neg hc], ?_⟩
      have step : ∀ X : List Sl, X = [.sh (encP sz ws), .sh (.lst (encS ns)), s2, s3, .sh (encT tail), .sh (.str a), o6, .no] → (sq (asg 6 (lc (.one 7) [7] (itm (cal F_next_tails 3 [] (aC (vr 0) (aC (un tupleD (vo 1)) (aC (vr 4) aN))))) (tst (bi eqD (bi ixD (vo 7) (cst (.int 0))) (vo 5))) (bi ixD (vo 7) (cst (.int 1))))) (sq (iff (tst (bi neD (un lenD (vo 6)) (cst (.int 1)))) (Fx.ret (cst (.bl false))) sNx) (asg 4 (bi ixD (vo 6) (cst (.int 0)))))) X
          = .ok (.rt (.bl false)) := fun X hX => by
        subst hX
        simp [en, sizeLine_val, z, e1, neD_ints]
      rw [encS_cons, forL_step (bindT_one _ _ _)]
      simp only [List.set_cons_succ, List.set_cons_zero]
      rw [step _ rfl, goOn_rt]
theorem V_goes {t : List Str} (h : 1 ≤ sz) (h3 : sz ≤ 3) (hl : t.length ≤ 200) (ht : ∀ a ∈ t, a ∈ ns) (hw : ∀ w ∈ ws, okS w) (hn : okS ns) (h5 : ns.length ≤ 5) (nd : ns.Nodup) : F__law_goes [encP sz ws, .lst (encS ns), .int (sz : Nat), .lst (encS t)] = .ok (.bl (go ws (tl sz []) t)) := by
  have e0 := V_tail_of (t := []) (dt := .lst []) h h3 (by simp) rfl
  have l0 := tl_len sz []
  unfold F__law_goes g__law_goes
  simp [sizeLine_val, e0]
  rcases goes_loop (sz := sz) hw hn h5 nd (.sh (.int (sz : Nat))) (.sh (.lst (encS t))) t (tl sz []) .no .no ht (tl_ok (by intro x hx; cases hx)) (by omega) with ⟨tail', t5, t6, e1, e2, e3, e4⟩ | ⟨e1, e2⟩
  · rw [e4]
    have ec := V_can_stop (sz := sz) (ws := ws) (dt := encT tail') (show tail'.length ≤ 200 by omega) e2 hw (by simp [encT]) rfl
    simp [ec, e1]
  · rw [e2]
    simp [e1]
/-! ### the plain law -/
theorem nb_cons {s : List Str} (h1 : 1 ≤ sz) (h : sz ≤ s.length) : nb sz s = s.take sz :: nb sz (s.drop 1) := by
  unfold nb
  have e : s.length + 1 - sz = (s.drop 1).length + 1 - sz + 1 := by rw [List.length_drop]; omega
  rw [e, List.range_succ_eq_map, List.map_cons, List.drop_zero, List.map_map]
  congr 1
  refine List.map_congr_left fun k hk => ?_
  simp [Function.comp, List.drop_drop, Nat.add_comm]
theorem go_all (h1 : 1 ≤ sz) : ∀ (t tail : List Str), tail.length + 1 = sz → all_ ws (nb sz (tail ++ t ++ List.replicate (sz - 1) (">" : Str))) = go ws tail t
  | [], tail, hl => by
    unfold go cl
    rw [List.append_nil, show sz - 1 = tail.length by omega, hl]
  | a :: t, tail, hl => by
    have hb : sz ≤ (tail ++ (a :: t) ++ List.replicate (sz - 1) (">" : Str)).length := by simp; omega
    rw [nb_cons h1 hb, go]
    have e1 : (tail ++ (a :: t) ++ List.replicate (sz - 1) (">" : Str)).take sz = tail ++ [a] := by
      rw [show tail ++ (a :: t) ++ List.replicate (sz - 1) (">" : Str) = (tail ++ [a]) ++ (t ++ List.replicate (sz - 1) (">" : Str)) by simp]
      rw [List.take_append_of_le_length (by simp; omega), List.take_of_length_le (by simp; omega)]
    have e2 : (tail ++ (a :: t) ++ List.replicate (sz - 1) (">" : Str)).drop 1 = nxt tail a ++ t ++ List.replicate (sz - 1) (">" : Str) := by
      rw [show tail ++ (a :: t) ++ List.replicate (sz - 1) (">" : Str) = (tail ++ [a]) ++ (t ++ List.replicate (sz - 1) (">" : Str)) by simp]
      rw [List.drop_append_of_le_length (by simp), nxt, List.append_assoc]
    rw [e1, e2]
    have ih := go_all h1 t (nxt tail a) (by rw [nxt_len]; exact hl)
    unfold all_ at *
    rw [List.all_cons, ih]
    by_cases hc : tail ++ [a] ∈ ws <;> simp [hc]
theorem all_wset (h1 : 1 ≤ sz) (t : List Str) : all_ ws (wset sz t) = go ws (tl sz []) t := by
  rw [← go_all h1 t (tl sz []) (by rw [tl_len]; omega)]
  have e : tl sz [] ++ t ++ List.replicate (sz - 1) (">" : Str) = mk sz t := by simp [tl, mk]
  rw [e]
  unfold all_ wset
  rw [Bool.eq_iff_iff, List.all_eq_true, List.all_eq_true]
  constructor
  · intro h w hw
    exact h w ((uqs_mem _ _ _).mpr (.inr hw))
  · intro h w hw
    rcases (uqs_mem _ _ _).mp hw with q | q
    · cases q
    · exact h w q
end
end Lw

set_option Elab.async false
set_option linter.all false
set_option maxRecDepth 100000
set_option maxHeartbeats 4000000
namespace Lw
open Fx
open PySem (Str PyData)
open PySem.PyData (strOk)
theorem countIn_strs (k : Str) : ∀ l : List Str, PySem.Spec.countIn (.str k) (l.map PyData.str) = ((l.count k : Nat) : Int)
  | [] => rfl
  | x :: l => by
    rw [List.map_cons, PySem.Spec.countIn, countIn_strs k l, List.count_cons]
    simp only [PySem.Spec.same]
    rcases Bool.eq_false_or_eq_true (x == k) with hb | hb
    · simp only [hb, if_true]; omega
    · simp only [hb, Bool.false_eq_true, if_false]; omega
theorem isi_int (i : Int) : isiD "int" (.int i) = .ok (.bl true) := by unfold isiD; simp only [tyName]; rfl
theorem isi_bool (i : Int) : isiD "bool" (.int i) = .ok (.bl false) := by unfold isiD; simp only [tyName]; rfl
structure Wok (sz : Nat) (w : List Str) : Prop where
  ex : ∃ b e inner, w = List.replicate b ("<" : Str) ++ inner ++ List.replicate e (">" : Str) ∧ b < sz ∧ e < sz ∧ ("<" : Str) ∉ inner ∧ (">" : Str) ∉ inner ∧ okS inner
  len : w.length = sz
theorem marks_ne : ¬ (("<" : Str) = ">") ∧ ¬ ((">" : Str) = "<") := by decide +kernel
section
variable {sz : Nat} {w : List Str}
theorem Wok.ok (h : Wok sz w) : okS w := by
  obtain ⟨b, e, inner, rfl, _, _, _, _, ho⟩ := h.ex
  intro x hx
  simp only [List.mem_append, List.mem_replicate] at hx
  rcases hx with (⟨_, z⟩ | hx) | ⟨_, z⟩
  · rw [z]; exact lt_ok
  · exact ho x hx
  · rw [z]; exact gt_ok
theorem V_is_window (h3 : sz ≤ 3) (h : Wok sz w) : F_is_window [.int (sz : Nat), encT w] = .ok (.bl true) := by
  have hl := h.len
  have hok := h.ok
  obtain ⟨b, e, inner, rfl, hb, he, n1, n2, ho⟩ := h.ex
  obtain ⟨m1, m2⟩ := marks_ne
  have c1 : (List.replicate b ("<" : Str) ++ inner ++ List.replicate e (">" : Str)).count ("<" : Str) = b := by
    simp [List.count_append, List.count_replicate, List.count_eq_zero.mpr n1, m2, Ne.symm m1, m1]
  have c2 : (List.replicate b ("<" : Str) ++ inner ++ List.replicate e (">" : Str)).count (">" : Str) = e := by
    simp [List.count_append, List.count_replicate, List.count_eq_zero.mpr n2, m2, Ne.symm m1, m1]
  generalize hw : List.replicate b ("<" : Str) ++ inner ++ List.replicate e (">" : Str) = w at *
  have lw : b + inner.length + e = sz := by rw [← hl, ← hw]; simp; omega
  have esl : cutD (encS w) (some (b : Int)) (some ((sz : Int) - e)) = encS inner := by
    have := cutD_mid (encS w) b (sz - e) (by simp; omega) (by omega)
    rw [show (((sz - e : Nat)) : Int) = (sz : Int) - e by omega] at this
    rw [this, ← hw]
    rw [show sz - e - b = inner.length by omega]
    simp only [encS, ← List.map_drop, ← List.map_take]
    rw [show (List.replicate b ("<" : Str) ++ inner ++ List.replicate e (">" : Str)).drop b = inner ++ List.replicate e (">" : Str) by rw [List.append_assoc, List.drop_append_of_le_length (by simp)]; simp]
    rw [List.take_append_of_le_length (Nat.le_refl _), List.take_length]
  have en : PySem.Spec.countIn (.str ("<" : Str)) (w.map PyData.str) = (b : Int) := by rw [countIn_strs, c1]
  have en2 : PySem.Spec.countIn (.str (">" : Str)) (w.map PyData.str) = (e : Int) := by rw [countIn_strs, c2]
  have k1 : countM (.lst (encS w)) [.str "<"] = .ok (.int (b : Int)) := by rw [encS, countM_strs, en]
  have k2 : countM (.lst (encS w)) [.str ">"] = .ok (.int (e : Int)) := by rw [encS, countM_strs, en2]
  have q1 : ¬ ((sz : Int) ≤ b) := by omega
  have q2 : ¬ ((sz : Int) ≤ e) := by omega
  have z1 : b + inner.length ≤ 16777216 := by omega
  have z2 : b + inner.length + e ≤ 16777216 := by omega
  have r1 := ninD_of (inB_strs (is := inner) lt_ok ho)
  have r2 := ninD_of (inB_strs (is := inner) gt_ok ho)
  have eq := eqD_refl (pn_strs hok)
  have es : encS (List.replicate b ("<" : Str)) ++ encS inner ++ encS (List.replicate e (">" : Str)) = encS w := by rw [← hw]; simp [encS_app]
  unfold F_is_window g_is_window
  simp [encT, hl, neD_ints, k1, k2, q1, q2, esl, sizeLine_val, mulS _ (show b ≤ 1000 by omega), mulS _ (show e ≤ 1000 by omega), z1, z2]
  rw [← List.append_assoc, es, eq]
  simp [encS] at r1 r2 ⊢
  simp [r1, r2, n1, n2]
theorem nb_wok (h1 : 1 ≤ sz) {t : List Str} (ho : okS t) (n1 : ("<" : Str) ∉ t) (n2 : (">" : Str) ∉ t) : ∀ w ∈ nb sz (mk sz t), Wok sz w := by
  intro w hw
  obtain ⟨k, hk, e⟩ := List.mem_map.mp hw
  have hk := List.mem_range.mp hk
  have ml := mk_len sz t
  subst e
  refine ⟨?_, by rw [List.length_take, List.length_drop]; omega⟩
  unfold mk
  rw [List.drop_append, List.drop_append, List.take_append, List.take_append]
  simp only [List.drop_replicate, List.take_replicate, List.length_replicate, List.length_append]
  refine ⟨_, _, _, rfl, by omega, by omega, fun h => n1 (List.mem_of_mem_drop (List.mem_of_mem_take h)), fun h => n2 (List.mem_of_mem_drop (List.mem_of_mem_take h)), fun x hx => ho x (List.mem_of_mem_drop (List.mem_of_mem_take hx))⟩
theorem V_is_size (h : 1 ≤ sz) (h3 : sz ≤ 3) : F_is_size [.int (sz : Nat)] = .ok (.bl true) := by
  have e : chn (cst (.int 1)) (vo 0) (cst (.int 3)) [.sh (.int (sz : Nat))] = .ok (.bl (decide ((1 : Int) ≤ sz) && decide ((sz : Int) ≤ 3))) := chn_ints rfl rfl rfl
  have e2 : (decide ((1 : Int) ≤ sz) && decide ((sz : Int) ≤ 3)) = true := by simp; omega
  rw [e2] at e
  unfold F_is_size g_is_size
  simp [isi_int, isi_bool, e]
theorem V_different {ws : List (List Str)} (hw : ∀ x ∈ ws, okS x) (nd : ws.Nodup) (hl : ws.length ≤ 200) : F_are_different [.tup (ws.map encT)] = .ok (.bl true) := by
  have e1 : ∀ o : Sl, gaL (.one 1) [1] false (bi ninD (bi ixD (vo 0) (vo 1)) (slc (vo 0) none (some (vr 1)))) [.sh (.tup (ws.map encT)), o] (encI (List.range ws.length)) = .ok (.bl ((List.range ws.length).all fun _ => true)) := fun o => by
    refine gaL_all fun k hk => ⟨_, rfl, ?_⟩
    have hk := List.mem_range.mp hk
    have hg : ws[k]? = some ws[k] := List.getElem?_eq_getElem hk
    have hx : ws[k] ∈ ws := List.getElem_mem hk
    have e2 : ixL (ws.map encT) (k : Int) = .ok (encT ws[k]) := ixL_map hg
    have e3 : cutD (ws.map encT) none (some (k : Int)) = (ws.take k).map encT := by rw [cutD_takeG, List.map_take]
    have hn : ws[k] ∉ ws.take k := by
      intro hm
      obtain ⟨j, hj, ej⟩ := List.mem_iff_getElem.mp hm
      rw [List.length_take] at hj
      rw [List.getElem_take] at ej
      exact (List.pairwise_iff_getElem.mp nd) j k (by omega) hk (by omega) ej
    have i1 := ninD_of (in_Tt (ws := ws.take k) (hw _ hx) fun x hx => hw x (List.mem_of_mem_take hx))
    rw [decide_eq_false hn, ← e3] at i1
    simp [e2, i1]
  have er : rng1R [.int (ws.length : Nat)] = .ok (encI (List.range ws.length)) := by rw [rng1R_nat (by omega), rngL_nat]; rfl
  unfold F_are_different g_are_different
  have ea : ((List.range ws.length).all fun _ => true) = true := List.all_eq_true.mpr fun _ _ => rfl
  rw [ea] at e1
  simp [er, e1]
theorem V_process {ws : List (List Str)} {dw : D} (h : 1 ≤ sz) (h3 : sz ≤ 3) (hw : ∀ x ∈ ws, Wok sz x) (nd : ws.Nodup) (hl : ws.length ≤ 200) (hi : items dw = some (ws.map encT)) : F_Process___init__ [.int (sz : Nat), dw] = .ok (encP sz ws) := by
  have e1 : ∀ o0 o1 o2 o3 : Sl, lcL (.one 4) [4] yes (un tupleD (vo 4)) [o0, o1, o2, o3, .no] (ws.map encT) = .ok (ws.map encT) := fun o0 o1 o2 o3 => lcL_map fun x hx => ⟨_, rfl, rfl⟩
  have z : ws.length ≤ 16777216 := by omega
  have e2 : ∀ o0 o2 : Sl, gaL (.one 4) [4] false (cal F_is_window 2 [] (aC (vr 1) (aC (vr 4) aN))) [o0, .sh (.int (sz : Nat)), o2, .sh (.tup (ws.map encT)), .no] (ws.map encT) = .ok (.bl (ws.all fun _ => true)) := fun o0 o2 => by
    refine gaL_all fun x hx => ⟨_, rfl, ?_⟩
    simp [V_is_window h3 (hw x hx)]
  have ea : (ws.all fun _ => true) = true := List.all_eq_true.mpr fun _ _ => rfl
  rw [ea] at e2
  have e3 := V_different (ws := ws) (fun x hx => (hw x hx).ok) nd hl
  unfold F_Process___init__ g_Process___init__
  simp [hi, sizeLine_val, z, e1, V_is_size h h3, e2, e3, chk]
  rfl
end
end Lw

set_option Elab.async false
set_option linter.all false
set_option maxRecDepth 100000
set_option maxHeartbeats 4000000
namespace Lw
open Fx
open PySem (Str PyData)
open PySem.PyData (strOk)
structure Dw (sz : Nat) (f : List (List Str)) : Prop where
  nd : f.Nodup
  ok : ∀ w ∈ f, Wok sz w
  len : f.length ≤ 30
theorem no_marks {ns : List Str} (g : Nm ns) {t : List Str} (h : ∀ a ∈ t, a ∈ ns) : okS t ∧ ("<" : Str) ∉ t ∧ (">" : Str) ∉ t := by
  have e1 : abcB ("<" : Str) = false := by decide +kernel
  have e2 : abcB (">" : Str) = false := by decide +kernel
  refine ⟨fun x hx => g.ok x (h x hx), fun hx => ?_, fun hx => ?_⟩
  · have := g.abc _ (h _ hx)
    rw [e1] at this; cases this
  · have := g.abc _ (h _ hx)
    rw [e2] at this; cases this
section
variable {sz : Nat} {ns : List Str}
theorem drawn_in (cnt : Nat) (hc : cnt ≤ 30) (s0 s1 s2 s5 : Sl) : ∀ (ws f : List (List Str)) (o6 : Sl), Dw sz f → (∀ w ∈ ws, Wok sz w) → ∃ f' t6,
    forL (.one 6) (iff (an (tst (bi ninD (vo 6) (vo 4))) (tst (bi (cmpD fun i j => decide (i < j)) (un lenD (vo 4)) (vo 3)))) (app 4 (vr 6)) sNx) (ws.map encT) [s0, s1, s2, .sh (.int (cnt : Nat)), .ow (.lst (f.map encT)), s5, o6] = .ok (.nx [s0, s1, s2, .sh (.int (cnt : Nat)), .ow (.lst (f'.map encT)), s5, t6]) ∧ Dw sz f'
  | [], f, o6, h, _ => ⟨f, o6, rfl, h⟩
  | w :: ws, f, o6, h, hw => by
    have w1 := hw w List.mem_cons_self
    have i1 := ninD_of (in_Tl w1.ok fun x hx => (h.ok x hx).ok)
    have hl := h.len
    have nl : (f.map encT).length ≤ 1000000 := by simp; omega
    rw [List.map_cons, forL_step (bindT_one _ _ _)]
    by_cases hc1 : w ∈ f
    · obtain ⟨f', t6, e, h2⟩ := drawn_in cnt hc s0 s1 s2 s5 ws f (.sh (encT w)) h fun x hx => hw x (List.mem_cons_of_mem _ hx)
      refine ⟨f', t6, ?_, h2⟩
      simp [i1, hc1]
      exact e
    · by_cases hc2 : f.length < cnt
      · obtain ⟨f', t6, e, h2⟩ := drawn_in cnt hc s0 s1 s2 s5 ws (f ++ [w]) (.sh (encT w)) ⟨by
          rw [List.nodup_append]
          exact ⟨h.nd, by simp, fun a ha b hb e => by rw [List.mem_singleton] at hb; subst hb; subst e; exact hc1 ha⟩, fun x hx => by
            rcases List.mem_append.mp hx with q | q
            · exact h.ok x q
            · rw [List.mem_singleton] at q; rw [q]; exact w1, by simp; omega⟩ fun x hx => hw x (List.mem_cons_of_mem _ hx)
        refine ⟨f', t6, ?_, h2⟩
        simp [i1, hc1, hc2, appR_ok nl]
        rw [show f.map encT ++ [encT w] = (f ++ [w]).map encT by simp]
        exact e
      · obtain ⟨f', t6, e, h2⟩ := drawn_in cnt hc s0 s1 s2 s5 ws f (.sh (encT w)) h fun x hx => hw x (List.mem_cons_of_mem _ hx)
        refine ⟨f', t6, ?_, h2⟩
        simp [i1, hc1, hc2]
        exact e
theorem drawn_out (g : Nm ns) (h1 : 1 ≤ sz) (h3 : sz ≤ 3) (cnt : Nat) (hc : cnt ≤ 30) (s1 s2 : Sl) : ∀ (ts : List (List Str)) (f : List (List Str)) (o5 o6 : Sl), Dw sz f → (∀ t ∈ ts, (∀ a ∈ t, a ∈ ns) ∧ t.length ≤ 40) → ∃ f' t5 t6,
    forL (.one 5) (fr (.one 6) (itm (cal F__law_windows 2 [] (aC (vr 0) (aC (vr 5) aN)))) (iff (an (tst (bi ninD (vo 6) (vo 4))) (tst (bi (cmpD fun i j => decide (i < j)) (un lenD (vo 4)) (vo 3)))) (app 4 (vr 6)) sNx)) (encW ts) [.sh (.int (sz : Nat)), s1, s2, .sh (.int (cnt : Nat)), .ow (.lst (f.map encT)), o5, o6] = .ok (.nx [.sh (.int (sz : Nat)), s1, s2, .sh (.int (cnt : Nat)), .ow (.lst (f'.map encT)), t5, t6]) ∧ Dw sz f'
  | [], f, o5, o6, h, _ => ⟨f, o5, o6, rfl, h⟩
  | t :: ts, f, o5, o6, h, ht => by
    obtain ⟨ht1, ht2⟩ := ht t List.mem_cons_self
    obtain ⟨n0, n1, n2⟩ := no_marks g ht1
    have ew := V_law_windows (dt := .lst (encS t)) h1 h3 (show t.length ≤ 200 by omega) n0 rfl
    obtain ⟨f1, t6, e1, hd1⟩ := drawn_in cnt hc (.sh (.int (sz : Nat))) s1 s2 (.sh (.lst (encS t))) (wset sz t) f o6 h fun w hw => by
      rcases (uqs_mem _ _ _).mp hw with q | q
      · cases q
      · exact nb_wok h1 n0 n1 n2 w q
    obtain ⟨f', t5, t6', e2, hd2⟩ := drawn_out g h1 h3 cnt hc s1 s2 ts f1 (.sh (.lst (encS t))) t6 hd1 fun x hx => ht x (List.mem_cons_of_mem _ hx)
    refine ⟨f', t5, t6', ?_, hd2⟩
    rw [encW_cons, forL_step (bindT_one _ _ _)]
    simp only [List.set_cons_succ, List.set_cons_zero]
    have hs : itm (cal F__law_windows 2 [] (aC (vr 0) (aC (vr 5) aN))) [.sh (.int (sz : Nat)), s1, s2, .sh (.int (cnt : Nat)), .ow (.lst (f.map encT)), .sh (.lst (encS t)), o6] = .ok ((wset sz t).map encT) := by
      simp [ew]
    rw [fr_ap, hs, frR_ok, e1, goOn_nx, e2]
theorem V_drawn (g : Nm ns) (h1 : 1 ≤ sz) (h3 : sz ≤ 3) (c : Int) (cnt : Nat) (hc : cnt ≤ 30) : ∃ ws, F__law_drawn_windows [.int (sz : Nat), .lst (encS ns), .int c, .int (cnt : Nat)] = .ok (.lst (ws.map encT)) ∧ Dw sz ws := by
  obtain ⟨ts, et, _, ht⟩ := V_traces g c 4 4 (by omega)
  obtain ⟨ws, t5, t6, e, hd⟩ := drawn_out g h1 h3 cnt hc (.sh (.lst (encS ns))) (.sh (.int c)) ts [] .no .no ⟨by simp, by simp, by simp⟩ ht
  refine ⟨ws, ?_, hd⟩
  have et : F__law_traces [.lst (encS ns), .int c, .int 4, .int 4] = .ok (.lst (encW ts)) := et
  have e0 : List.map encT [] = ([] : List D) := rfl
  rw [e0] at e
  unfold F__law_drawn_windows g__law_drawn_windows
  simp [sizeLine_val, et]
  rw [e]
  simp
end
end Lw

set_option Elab.async false
set_option linter.all false
set_option maxRecDepth 100000
set_option maxHeartbeats 4000000
namespace Lw
open Fx
open PySem (Str PyData)
open PySem.PyData (strOk)
noncomputable abbrev trace_body : En → Oc Res := (sq (asg 7 (un listD (vo 6)))
  (sq (exsA (cal F_windows_of 2 [] (aC (vr 2) (aC (vr 7) aN))) (cst (.str "spoilt")))
  (sq (iff (orr (tst (bi neD (cal F_windows_of 2 [] (aC (vr 2) (aC (vr 7) aN))) (cal F__law_windows 2 [] (aC (vr 2) (aC (vr 6) aN))))) (tst (bi neD (cal F_tail_of 2 [] (aC (vr 2) (aC (vr 7) aN))) (cal F__law_tail 2 [] (aC (vr 2) (aC (vr 6) aN)))))) (Fx.ret (cst (.bl false))) sNx)
  (sq (iff (orr (tst (bi neD (cal F_windows_of 2 [] (aC (vr 2) (aC (un tupleD (vo 6)) aN))) (cal F__law_windows 2 [] (aC (vr 2) (aC (vr 6) aN))))) (tst (bi neD (cal F_tail_of 2 [] (aC (vr 2) (aC (un tupleD (vo 6)) aN))) (cal F__law_tail 2 [] (aC (vr 2) (aC (vr 6) aN)))))) (Fx.ret (cst (.bl false))) sNx)
  (sq (asg 8 (cal F__law_tail 2 [] (aC (vr 2) (aC (vr 6) aN))))
  (sq (iff (orr (tst (bi neD (cal F_next_tails 3 [] (aC (vr 4) (aC (un listD (vo 1)) (aC (vr 8) aN)))) (cal F__law_next 3 [] (aC (vr 3) (aC (vr 1) (aC (vr 8) aN)))))) (tst (bi neD (vo 7) (vo 6)))) (Fx.ret (cst (.bl false))) sNx)
  (sq (iff (orr (tst (bi neD (cal F_can_stop 2 [] (aC (vr 4) (aC (vr 8) aN))) (cal F__law_stops 3 [] (aC (vr 2) (aC (vr 3) (aC (vr 8) aN)))))) (nt (tst (un (isiD "bool") (cal F_can_stop 2 [] (aC (vr 4) (aC (vr 8) aN))))))) (Fx.ret (cst (.bl false))) sNx)
  (sq (asg 9 (un listD (vo 8)))
  (sq (iff (orr (tst (bi neD (cal F_next_tails 3 [] (aC (vr 4) (aC (un tupleD (vo 1)) (aC (vr 9) aN)))) (cal F__law_next 3 [] (aC (vr 3) (aC (vr 1) (aC (vr 8) aN)))))) (tst (bi neD (vo 9) (un listD (vo 8))))) (Fx.ret (cst (.bl false))) sNx)
  (sq (iff (tst (bi neD (cal F_can_stop 2 [] (aC (vr 4) (aC (vr 9) aN))) (cal F__law_stops 3 [] (aC (vr 2) (aC (vr 3) (aC (vr 8) aN)))))) (Fx.ret (cst (.bl false))) sNx)
  (sq (asg 10 (cal F__law_allows 3 [] (aC (vr 2) (aC (vr 3) (aC (vr 6) aN)))))
  (iff (orr (nt (tst (un (isiD "bool") (cal F_allows 2 [] (aC (vr 4) (aC (vr 7) aN)))))) (orr (tst (bi neD (cal F_allows 2 [] (aC (vr 4) (aC (vr 7) aN))) (vo 10))) (orr (tst (bi neD (cal F_allows 2 [] (aC (vr 4) (aC (un tupleD (vo 6)) aN))) (vo 10))) (tst (bi neD (cal F__law_goes 4 [] (aC (vr 4) (aC (vr 1) (aC (vr 2) (aC (vr 6) aN))))) (vo 10)))))) (Fx.ret (cst (.bl false))) sNx))))))))))))
theorem pn_Ws {ws : List (List Str)} (h : ∀ w ∈ ws, okS w) : Pn 2 (.lst (ws.map encT)) (.list (ws.map fun w => .tuple (w.map .str))) := PnL.lst (PnL.map fun w hw => pn_T (h w hw))
theorem pn_WsT {ws : List (List Str)} (h : ∀ w ∈ ws, okS w) : Pn 2 (.tup (ws.map encT)) (.tuple (ws.map fun w => .tuple (w.map .str))) := PnL.tup (PnL.map fun w hw => pn_T (h w hw))
theorem pn_N {tail : List Str} {ns : List Str} (h : okS tail) (hn : okS ns) : Pn 3 (.lst (ns.map (encN tail))) (.list (ns.map fun a => .tuple [.str a, .tuple ((nxt tail a).map .str)])) :=
  PnL.lst (PnL.map fun a ha => PnL.tup (PnL.cons (Pn.str 1 (hn a ha)) (PnL.cons (pn_T (nxt_ok h (hn a ha))) (PnL.nil 1))))
section
variable {sz : Nat} {ns : List Str} {ws : List (List Str)}
theorem trace_turn (g : Nm ns) (nd : ns.Nodup) (h1 : 1 ≤ sz) (h3 : sz ≤ 3) (hd : Dw sz ws) {t : List Str} (ht : ∀ a ∈ t, a ∈ ns) (hl : t.length ≤ 100) (s0 s5 s7 s8 s9 s10 s11 : Sl) : ∃ t7 t8 t9 t10,
    trace_body [s0, .sh (.lst (encS ns)), .sh (.int (sz : Nat)), .sh (.lst (ws.map encT)), .sh (encP sz ws), s5, .sh (.lst (encS t)), s7, s8, s9, s10, s11]
      = .ok (.nx [s0, .sh (.lst (encS ns)), .sh (.int (sz : Nat)), .sh (.lst (ws.map encT)), .sh (encP sz ws), s5, .sh (.lst (encS t)), t7, t8, t9, t10, s11]) := by
  obtain ⟨to, n1, n2⟩ := no_marks g ht
  have hw : ∀ w ∈ ws, okS w := fun w h => (hd.ok w h).ok
  have hno : okS ns := g.ok
  have g5 := g.five
  have hl2 : t.length ≤ 200 := by omega
  have wo := wset_ok (sz := sz) to
  have wl := wset_len sz t h1 h3
  have tlo := tl_ok (sz := sz) to
  have tll := tl_len sz t
  have a1 := V_windows_of (dt := .lst (encS t)) h1 h3 hl2 to rfl
  have a2 := V_windows_of (dt := .tup (encS t)) h1 h3 hl2 to rfl
  have b1 := V_law_windows (dt := .lst (encS t)) h1 h3 hl2 to rfl
  have c1 := V_tail_of (dt := .lst (encS t)) h1 h3 hl2 rfl
  have c2 := V_tail_of (dt := .tup (encS t)) h1 h3 hl2 rfl
  have d1 := V_law_tail (dt := .lst (encS t)) h1 h3 hl2 rfl
  have l2 : (tl sz t).length ≤ 200 := by omega
  have e1 := V_next_tails (sz := sz) (dn := .lst (encS ns)) (dt := encT (tl sz t)) l2 tlo hw hno g5 rfl rfl
  have e2 := V_next_tails (sz := sz) (dn := .tup (encS ns)) (dt := .lst (encS (tl sz t))) l2 tlo hw hno g5 rfl rfl
  have e3 := V_law_next l2 tlo hw hno g5
  have f1 := V_can_stop (sz := sz) (dt := encT (tl sz t)) l2 tlo hw (by simp [encT]) rfl
  have f2 := V_can_stop (sz := sz) (dt := .lst (encS (tl sz t))) l2 tlo hw (by simp) rfl
  have f3 := V_law_stops (dt := encT (tl sz t)) h1 h3 (by omega) tlo hw rfl
  have k1 := V_allows (dt := .lst (encS t)) h1 h3 hl2 to hw rfl
  have k2 := V_allows (dt := .tup (encS t)) h1 h3 hl2 to hw rfl
  have k3 := V_law_allows (dt := .lst (encS t)) h1 h3 hl2 to hw rfl
  have k4 := V_goes h1 h3 hl2 ht hw hno g5 nd
  rw [← all_wset h1 t] at k4
  have p1 := neD_refl (pn_Ws wo)
  have p2 := neD_refl (pn_T tlo)
  have p3 := neD_refl (pn_N tlo (ns := nx ws ns (tl sz t)) fun a ha => hno a (List.mem_filter.mp ha).1)
  have p4 := neD_refl (pn_strs to)
  have p5 := neD_refl (pn_strs tlo)
  have p6 : ∀ b : Bool, neD (.bl b) (.bl b) = .ok (.bl false) := fun b => neD_refl (Pn.bl 0 b)
  have z1 : (wset sz t).length < 16777216 := by omega
  have lt1 : listD (encT (tl sz t)) = .ok (.lst (encS (tl sz t))) := rfl
  have i1 : ∀ b : Bool, isiD "bool" (.bl b) = .ok (.bl true) := isiD_bl_bool
  have q0 : (asg 7 (un listD (vo 6))) [s0, .sh (.lst (encS ns)), .sh (.int (sz : Nat)), .sh (.lst (ws.map encT)), .sh (encP sz ws), s5, .sh (.lst (encS t)), s7, s8, s9, s10, s11] = .ok (.nx [s0, .sh (.lst (encS ns)), .sh (.int (sz : Nat)), .sh (.lst (ws.map encT)), .sh (encP sz ws), s5, .sh (.lst (encS t)), .sh (.lst (encS t)), s8, s9, s10, s11]) := by
    simp [a1, a2, b1, c1, c2, d1, e1, e2, e3, f1, f2, f3, k1, k2, k3, k4, p1, p2, p3, p4, p5, p6, z1, lt1, i1, sizeLine_val]
  have q1 : (exsA (cal F_windows_of 2 [] (aC (vr 2) (aC (vr 7) aN))) (cst (.str "spoilt"))) [s0, .sh (.lst (encS ns)), .sh (.int (sz : Nat)), .sh (.lst (ws.map encT)), .sh (encP sz ws), s5, .sh (.lst (encS t)), .sh (.lst (encS t)), s8, s9, s10, s11] = .ok (.nx [s0, .sh (.lst (encS ns)), .sh (.int (sz : Nat)), .sh (.lst (ws.map encT)), .sh (encP sz ws), s5, .sh (.lst (encS t)), .sh (.lst (encS t)), s8, s9, s10, s11]) := by
    simp [a1, a2, b1, c1, c2, d1, e1, e2, e3, f1, f2, f3, k1, k2, k3, k4, p1, p2, p3, p4, p5, p6, z1, lt1, i1, sizeLine_val]
  have q2 : (iff (orr (tst (bi neD (cal F_windows_of 2 [] (aC (vr 2) (aC (vr 7) aN))) (cal F__law_windows 2 [] (aC (vr 2) (aC (vr 6) aN))))) (tst (bi neD (cal F_tail_of 2 [] (aC (vr 2) (aC (vr 7) aN))) (cal F__law_tail 2 [] (aC (vr 2) (aC (vr 6) aN)))))) (Fx.ret (cst (.bl false))) sNx) [s0, .sh (.lst (encS ns)), .sh (.int (sz : Nat)), .sh (.lst (ws.map encT)), .sh (encP sz ws), s5, .sh (.lst (encS t)), .sh (.lst (encS t)), s8, s9, s10, s11] = .ok (.nx [s0, .sh (.lst (encS ns)), .sh (.int (sz : Nat)), .sh (.lst (ws.map encT)), .sh (encP sz ws), s5, .sh (.lst (encS t)), .sh (.lst (encS t)), s8, s9, s10, s11]) := by
    simp [a1, a2, b1, c1, c2, d1, e1, e2, e3, f1, f2, f3, k1, k2, k3, k4, p1, p2, p3, p4, p5, p6, z1, lt1, i1, sizeLine_val]
  have q3 : (iff (orr (tst (bi neD (cal F_windows_of 2 [] (aC (vr 2) (aC (un tupleD (vo 6)) aN))) (cal F__law_windows 2 [] (aC (vr 2) (aC (vr 6) aN))))) (tst (bi neD (cal F_tail_of 2 [] (aC (vr 2) (aC (un tupleD (vo 6)) aN))) (cal F__law_tail 2 [] (aC (vr 2) (aC (vr 6) aN)))))) (Fx.ret (cst (.bl false))) sNx) [s0, .sh (.lst (encS ns)), .sh (.int (sz : Nat)), .sh (.lst (ws.map encT)), .sh (encP sz ws), s5, .sh (.lst (encS t)), .sh (.lst (encS t)), s8, s9, s10, s11] = .ok (.nx [s0, .sh (.lst (encS ns)), .sh (.int (sz : Nat)), .sh (.lst (ws.map encT)), .sh (encP sz ws), s5, .sh (.lst (encS t)), .sh (.lst (encS t)), s8, s9, s10, s11]) := by
    simp [a1, a2, b1, c1, c2, d1, e1, e2, e3, f1, f2, f3, k1, k2, k3, k4, p1, p2, p3, p4, p5, p6, z1, lt1, i1, sizeLine_val]
  have q4 : (asg 8 (cal F__law_tail 2 [] (aC (vr 2) (aC (vr 6) aN)))) [s0, .sh (.lst (encS ns)), .sh (.int (sz : Nat)), .sh (.lst (ws.map encT)), .sh (encP sz ws), s5, .sh (.lst (encS t)), .sh (.lst (encS t)), s8, s9, s10, s11] = .ok (.nx [s0, .sh (.lst (encS ns)), .sh (.int (sz : Nat)), .sh (.lst (ws.map encT)), .sh (encP sz ws), s5, .sh (.lst (encS t)), .sh (.lst (encS t)), .sh (encT (tl sz t)), s9, s10, s11]) := by
    simp [a1, a2, b1, c1, c2, d1, e1, e2, e3, f1, f2, f3, k1, k2, k3, k4, p1, p2, p3, p4, p5, p6, z1, lt1, i1, sizeLine_val]
  have q5 : (iff (orr (tst (bi neD (cal F_next_tails 3 [] (aC (vr 4) (aC (un listD (vo 1)) (aC (vr 8) aN)))) (cal F__law_next 3 [] (aC (vr 3) (aC (vr 1) (aC (vr 8) aN)))))) (tst (bi neD (vo 7) (vo 6)))) (Fx.ret (cst (.bl false))) sNx) [s0, .sh (.lst (encS ns)), .sh (.int (sz : Nat)), .sh (.lst (ws.map encT)), .sh (encP sz ws), s5, .sh (.lst (encS t)), .sh (.lst (encS t)), .sh (encT (tl sz t)), s9, s10, s11] = .ok (.nx [s0, .sh (.lst (encS ns)), .sh (.int (sz : Nat)), .sh (.lst (ws.map encT)), .sh (encP sz ws), s5, .sh (.lst (encS t)), .sh (.lst (encS t)), .sh (encT (tl sz t)), s9, s10, s11]) := by
    simp [a1, a2, b1, c1, c2, d1, e1, e2, e3, f1, f2, f3, k1, k2, k3, k4, p1, p2, p3, p4, p5, p6, z1, lt1, i1, sizeLine_val]
  have q6 : (iff (orr (tst (bi neD (cal F_can_stop 2 [] (aC (vr 4) (aC (vr 8) aN))) (cal F__law_stops 3 [] (aC (vr 2) (aC (vr 3) (aC (vr 8) aN)))))) (nt (tst (un (isiD "bool") (cal F_can_stop 2 [] (aC (vr 4) (aC (vr 8) aN))))))) (Fx.ret (cst (.bl false))) sNx) [s0, .sh (.lst (encS ns)), .sh (.int (sz : Nat)), .sh (.lst (ws.map encT)), .sh (encP sz ws), s5, .sh (.lst (encS t)), .sh (.lst (encS t)), .sh (encT (tl sz t)), s9, s10, s11] = .ok (.nx [s0, .sh (.lst (encS ns)), .sh (.int (sz : Nat)), .sh (.lst (ws.map encT)), .sh (encP sz ws), s5, .sh (.lst (encS t)), .sh (.lst (encS t)), .sh (encT (tl sz t)), s9, s10, s11]) := by
    simp [a1, a2, b1, c1, c2, d1, e1, e2, e3, f1, f2, f3, k1, k2, k3, k4, p1, p2, p3, p4, p5, p6, z1, lt1, i1, sizeLine_val]
  have q7 : (asg 9 (un listD (vo 8))) [s0, .sh (.lst (encS ns)), .sh (.int (sz : Nat)), .sh (.lst (ws.map encT)), .sh (encP sz ws), s5, .sh (.lst (encS t)), .sh (.lst (encS t)), .sh (encT (tl sz t)), s9, s10, s11] = .ok (.nx [s0, .sh (.lst (encS ns)), .sh (.int (sz : Nat)), .sh (.lst (ws.map encT)), .sh (encP sz ws), s5, .sh (.lst (encS t)), .sh (.lst (encS t)), .sh (encT (tl sz t)), .sh (.lst (encS (tl sz t))), s10, s11]) := by
    simp [a1, a2, b1, c1, c2, d1, e1, e2, e3, f1, f2, f3, k1, k2, k3, k4, p1, p2, p3, p4, p5, p6, z1, lt1, i1, sizeLine_val]
  have q8 : (iff (orr (tst (bi neD (cal F_next_tails 3 [] (aC (vr 4) (aC (un tupleD (vo 1)) (aC (vr 9) aN)))) (cal F__law_next 3 [] (aC (vr 3) (aC (vr 1) (aC (vr 8) aN)))))) (tst (bi neD (vo 9) (un listD (vo 8))))) (Fx.ret (cst (.bl false))) sNx) [s0, .sh (.lst (encS ns)), .sh (.int (sz : Nat)), .sh (.lst (ws.map encT)), .sh (encP sz ws), s5, .sh (.lst (encS t)), .sh (.lst (encS t)), .sh (encT (tl sz t)), .sh (.lst (encS (tl sz t))), s10, s11] = .ok (.nx [s0, .sh (.lst (encS ns)), .sh (.int (sz : Nat)), .sh (.lst (ws.map encT)), .sh (encP sz ws), s5, .sh (.lst (encS t)), .sh (.lst (encS t)), .sh (encT (tl sz t)), .sh (.lst (encS (tl sz t))), s10, s11]) := by
    simp [a1, a2, b1, c1, c2, d1, e1, e2, e3, f1, f2, f3, k1, k2, k3, k4, p1, p2, p3, p4, p5, p6, z1, lt1, i1, sizeLine_val]
  have q9 : (iff (tst (bi neD (cal F_can_stop 2 [] (aC (vr 4) (aC (vr 9) aN))) (cal F__law_stops 3 [] (aC (vr 2) (aC (vr 3) (aC (vr 8) aN)))))) (Fx.ret (cst (.bl false))) sNx) [s0, .sh (.lst (encS ns)), .sh (.int (sz : Nat)), .sh (.lst (ws.map encT)), .sh (encP sz ws), s5, .sh (.lst (encS t)), .sh (.lst (encS t)), .sh (encT (tl sz t)), .sh (.lst (encS (tl sz t))), s10, s11] = .ok (.nx [s0, .sh (.lst (encS ns)), .sh (.int (sz : Nat)), .sh (.lst (ws.map encT)), .sh (encP sz ws), s5, .sh (.lst (encS t)), .sh (.lst (encS t)), .sh (encT (tl sz t)), .sh (.lst (encS (tl sz t))), s10, s11]) := by
    simp [a1, a2, b1, c1, c2, d1, e1, e2, e3, f1, f2, f3, k1, k2, k3, k4, p1, p2, p3, p4, p5, p6, z1, lt1, i1, sizeLine_val]
  have q10 : (asg 10 (cal F__law_allows 3 [] (aC (vr 2) (aC (vr 3) (aC (vr 6) aN))))) [s0, .sh (.lst (encS ns)), .sh (.int (sz : Nat)), .sh (.lst (ws.map encT)), .sh (encP sz ws), s5, .sh (.lst (encS t)), .sh (.lst (encS t)), .sh (encT (tl sz t)), .sh (.lst (encS (tl sz t))), s10, s11] = .ok (.nx [s0, .sh (.lst (encS ns)), .sh (.int (sz : Nat)), .sh (.lst (ws.map encT)), .sh (encP sz ws), s5, .sh (.lst (encS t)), .sh (.lst (encS t)), .sh (encT (tl sz t)), .sh (.lst (encS (tl sz t))), .sh (.bl (all_ ws (wset sz t))), s11]) := by
    simp [a1, a2, b1, c1, c2, d1, e1, e2, e3, f1, f2, f3, k1, k2, k3, k4, p1, p2, p3, p4, p5, p6, z1, lt1, i1, sizeLine_val]
  have q11 : (iff (orr (nt (tst (un (isiD "bool") (cal F_allows 2 [] (aC (vr 4) (aC (vr 7) aN)))))) (orr (tst (bi neD (cal F_allows 2 [] (aC (vr 4) (aC (vr 7) aN))) (vo 10))) (orr (tst (bi neD (cal F_allows 2 [] (aC (vr 4) (aC (un tupleD (vo 6)) aN))) (vo 10))) (tst (bi neD (cal F__law_goes 4 [] (aC (vr 4) (aC (vr 1) (aC (vr 2) (aC (vr 6) aN))))) (vo 10)))))) (Fx.ret (cst (.bl false))) sNx) [s0, .sh (.lst (encS ns)), .sh (.int (sz : Nat)), .sh (.lst (ws.map encT)), .sh (encP sz ws), s5, .sh (.lst (encS t)), .sh (.lst (encS t)), .sh (encT (tl sz t)), .sh (.lst (encS (tl sz t))), .sh (.bl (all_ ws (wset sz t))), s11] = .ok (.nx [s0, .sh (.lst (encS ns)), .sh (.int (sz : Nat)), .sh (.lst (ws.map encT)), .sh (encP sz ws), s5, .sh (.lst (encS t)), .sh (.lst (encS t)), .sh (encT (tl sz t)), .sh (.lst (encS (tl sz t))), .sh (.bl (all_ ws (wset sz t))), s11]) := by
    simp [a1, a2, b1, c1, c2, d1, e1, e2, e3, f1, f2, f3, k1, k2, k3, k4, p1, p2, p3, p4, p5, p6, z1, lt1, i1, sizeLine_val]
  refine ⟨.sh (.lst (encS t)), .sh (encT (tl sz t)), .sh (.lst (encS (tl sz t))), .sh (.bl (all_ ws (wset sz t))), ?_⟩
  rw [trace_body, sq_ap, q0, contS_nx, sq_ap, q1, contS_nx, sq_ap, q2, contS_nx, sq_ap, q3, contS_nx, sq_ap, q4, contS_nx, sq_ap, q5, contS_nx, sq_ap, q6, contS_nx, sq_ap, q7, contS_nx, sq_ap, q8, contS_nx, sq_ap, q9, contS_nx, sq_ap, q10, contS_nx, q11]
theorem traces_all (g : Nm ns) (nd : ns.Nodup) (h1 : 1 ≤ sz) (h3 : sz ≤ 3) (hd : Dw sz ws) (s0 s5 s11 : Sl) : ∀ (ts : List (List Str)) (s6 s7 s8 s9 s10 : Sl), (∀ t ∈ ts, (∀ a ∈ t, a ∈ ns) ∧ t.length ≤ 100) → ∃ ρ,
    forL (.one 6) trace_body (encW ts) [s0, .sh (.lst (encS ns)), .sh (.int (sz : Nat)), .sh (.lst (ws.map encT)), .sh (encP sz ws), s5, s6, s7, s8, s9, s10, s11] = .ok (.nx ρ)
  | [], s6, s7, s8, s9, s10, _ => ⟨_, rfl⟩
  | t :: ts, s6, s7, s8, s9, s10, h => by
    obtain ⟨ht, hl⟩ := h t List.mem_cons_self
    obtain ⟨t7, t8, t9, t10, e1⟩ := trace_turn g nd h1 h3 hd ht hl s0 s5 s7 s8 s9 s10 s11
    obtain ⟨ρ, e2⟩ := traces_all g nd h1 h3 hd s0 s5 s11 ts (.sh (.lst (encS t))) t7 t8 t9 t10 fun x hx => h x (List.mem_cons_of_mem _ hx)
    refine ⟨ρ, ?_⟩
    rw [encW_cons, forL_step (bindT_one _ _ _)]
    simp only [List.set_cons_succ, List.set_cons_zero]
    rw [e1, goOn_nx, e2]
end
end Lw

set_option Elab.async false
set_option linter.all false
set_option maxRecDepth 100000
set_option maxHeartbeats 4000000
namespace Lw
open Fx
open PySem (Str PyData)
open PySem.PyData (strOk)
theorem law_true (xs : List Int) (hx : xs.length ≤ 63) : F_law [.fz (xs.map .int)] = .ok (.bl true) := by
  obtain ⟨ns, en, g, nd⟩ := V_names (xs.getD 0 0)
  have g5 := g.five
  have gl : 0 < ns.length := List.length_pos_iff.mpr g.ne
  obtain ⟨sz, hs, h1, h3⟩ : ∃ sz : Nat, 1 + xs.getD 1 0 % 3 = (sz : Int) ∧ 1 ≤ sz ∧ sz ≤ 3 := ⟨(1 + xs.getD 1 0 % 3).toNat, by omega, by omega, by omega⟩
  obtain ⟨cnt, hcnt, hc30⟩ : ∃ cnt : Nat, 4 + xs.getD 1 0 / 3 % 20 = (cnt : Int) ∧ cnt ≤ 30 := ⟨(4 + xs.getD 1 0 / 3 % 20).toNat, by omega, by omega⟩
  obtain ⟨ws, ew, hd⟩ := V_drawn g h1 h3 (xs.getD 2 0) cnt hc30
  obtain ⟨t1, et1, l1, ht1⟩ := V_traces g (xs.getD 2 0) 4 4 (by omega)
  obtain ⟨t2, et2, l2, ht2⟩ := V_traces g (xs.getD 3 0) 4 6 (by omega)
  have et1 : F__law_traces [.lst (encS ns), .int (xs.getD 2 0), .int 4, .int 4] = .ok (.lst (encW t1)) := et1
  have et2 : F__law_traces [.lst (encS ns), .int (xs.getD 3 0), .int 4, .int 6] = .ok (.lst (encW t2)) := et2
  have c0 : F__law_cell [.fz (xs.map .int), .int 0] = .ok (.int (xs.getD 0 0)) := V_cell xs 0
  have c1 : F__law_cell [.fz (xs.map .int), .int 1] = .ok (.int (xs.getD 1 0)) := V_cell xs 1
  have c2 : F__law_cell [.fz (xs.map .int), .int 2] = .ok (.int (xs.getD 2 0)) := V_cell xs 2
  have c3 : F__law_cell [.fz (xs.map .int), .int 3] = .ok (.int (xs.getD 3 0)) := V_cell xs 3
  have hwl := hd.len
  have ep := V_process (sz := sz) (dw := .lst (ws.map encT)) h1 h3 hd.ok hd.nd (by omega) rfl
  let f : Int → Str := fun x => ns.getD (x % ns.length).toNat ""
  have hf : ∀ x : Int, ixL (encS ns) (x % ns.length) = .ok (.str (f x)) ∧ f x ∈ ns := fun x => by
    have h1 : 0 ≤ x % (ns.length : Int) := Int.emod_nonneg _ (by omega)
    have h2 : x % (ns.length : Int) < ns.length := Int.emod_lt_of_pos _ (by omega)
    have h3 : (x % (ns.length : Int)).toNat < ns.length := by omega
    have hg : ns[(x % (ns.length : Int)).toNat]? = some (f x) := by simp [f, h3]
    refine ⟨?_, List.mem_of_getElem? hg⟩
    have := encS_ix hg
    rwa [Int.toNat_of_nonneg h1] at this
  let S : Sl → Sl → Sl → Sl → Sl → List Sl := fun a b c d e => [.sh (.fz (xs.map .int)), a, b, c, d, e, .no, .no, .no, .no, .no, .no]
  have wok : ∀ w ∈ ws, okS w := fun w h => (hd.ok w h).ok
  have b1 : asg 1 (cal F__law_names 1 [] (aC (cal F__law_cell 2 [] (aC (vr 0) (aC (cst (.int 0)) aN))) aN)) (S .no .no .no .no .no) = .ok (.nx (S (.sh (.lst (encS ns))) .no .no .no .no)) := by
    simp only [List.getD_eq_getElem?_getD] at c0 en
    simp [S, c0, en]
  have b2 : asg 2 (bi addD (cst (.int 1)) (bi modD (cal F__law_cell 2 [] (aC (vr 0) (aC (cst (.int 1)) aN))) (cst (.int 3)))) (S (.sh (.lst (encS ns))) .no .no .no .no) = .ok (.nx (S (.sh (.lst (encS ns))) (.sh (.int (sz : Nat))) .no .no .no)) := by
    simp only [List.getD_eq_getElem?_getD] at c1 hs
    simp [S, c1, hs, chk]
  have b3 : asg 3 (cal F__law_drawn_windows 4 [] (aC (vr 2) (aC (vr 1) (aC (cal F__law_cell 2 [] (aC (vr 0) (aC (cst (.int 2)) aN))) (aC (bi addD (cst (.int 4)) (bi modD (bi fdivD (cal F__law_cell 2 [] (aC (vr 0) (aC (cst (.int 1)) aN))) (cst (.int 3))) (cst (.int 20)))) aN))))) (S (.sh (.lst (encS ns))) (.sh (.int (sz : Nat))) .no .no .no) = .ok (.nx (S (.sh (.lst (encS ns))) (.sh (.int (sz : Nat))) (.sh (.lst (ws.map encT))) .no .no)) := by
    simp only [List.getD_eq_getElem?_getD] at c1 c2 hcnt ew
    simp [S, c1, c2, hcnt, ew, chk]
  have b4 : asg 4 (cal F_Process___init__ 2 [] (aC (vr 2) (aC (un listD (vo 3)) aN))) (S (.sh (.lst (encS ns))) (.sh (.int (sz : Nat))) (.sh (.lst (ws.map encT))) .no .no) = .ok (.nx (S (.sh (.lst (encS ns))) (.sh (.int (sz : Nat))) (.sh (.lst (ws.map encT))) (.sh (encP sz ws)) .no)) := by
    simp [S, ep]
  have b5 : iff (orr (tst (bi neD (un (fldD [("Process" : Str)] "size") (vo 4)) (vo 2))) (tst (bi neD (un (fldD [("Process" : Str)] "windows") (vo 4)) (un tupleD (vo 3))))) (Fx.ret (cst (.bl false))) sNx (S (.sh (.lst (encS ns))) (.sh (.int (sz : Nat))) (.sh (.lst (ws.map encT))) (.sh (encP sz ws)) .no) = .ok (.nx (S (.sh (.lst (encS ns))) (.sh (.int (sz : Nat))) (.sh (.lst (ws.map encT))) (.sh (encP sz ws)) .no)) := by
    simp [S, f_size, f_windows, neD_ints, neD_refl (pn_WsT wok)]
  have b6 : asg 5 (bi addD (cal F__law_traces 4 [] (aC (vr 1) (aC (cal F__law_cell 2 [] (aC (vr 0) (aC (cst (.int 2)) aN))) (aC (cst (.int 4)) (aC (cst (.int 4)) aN))))) (cal F__law_traces 4 [] (aC (vr 1) (aC (cal F__law_cell 2 [] (aC (vr 0) (aC (cst (.int 3)) aN))) (aC (cst (.int 4)) (aC (cst (.int 6)) aN)))))) (S (.sh (.lst (encS ns))) (.sh (.int (sz : Nat))) (.sh (.lst (ws.map encT))) (.sh (encP sz ws)) .no) = .ok (.nx (S (.sh (.lst (encS ns))) (.sh (.int (sz : Nat))) (.sh (.lst (ws.map encT))) (.sh (encP sz ws)) (.sh (.lst (encW (t1 ++ t2)))))) := by
    simp only [List.getD_eq_getElem?_getD] at c2 c3 et1 et2
    simp [S, c2, c3, et1, et2, sizeLine_val, l1, l2, encW_app]
  have e5 : cutD (xs.map D.int) (some (4 : Int)) none = (xs.drop 4).map .int := by
    have := cutD_dropG (xs.map D.int) 4
    rw [show ((4 : Nat) : Int) = 4 from rfl] at this
    rw [this, List.map_drop]
  have e4 : lcL (.one 11) [11] yes (bi ixD (vo 1) (bi modD (vo 11) (un lenD (vo 1)))) (S (.sh (.lst (encS ns))) (.sh (.int (sz : Nat))) (.sh (.lst (ws.map encT))) (.sh (encP sz ws)) (.sh (.lst (encW (t1 ++ t2))))) ((xs.drop 4).map .int) = .ok (encS ((xs.drop 4).map f)) := by
    rw [encS_map]
    refine lcL_map fun x hx => ⟨_, rfl, ?_⟩
    simp [S, chk, gl, (hf x).1]
  have z : ((xs.drop 4).map D.int).length ≤ 16777216 := by simp; omega
  have hsrc : itm (bi addD (vo 5) (lsd (aC (lc (.one 11) [11] (itm (slc (vo 0) (some (cst (.int 4))) none)) yes (bi ixD (vo 1) (bi modD (vo 11) (un lenD (vo 1))))) aN))) (S (.sh (.lst (encS ns))) (.sh (.int (sz : Nat))) (.sh (.lst (ws.map encT))) (.sh (encP sz ws)) (.sh (.lst (encW (t1 ++ t2))))) = .ok (encW (t1 ++ t2 ++ [(xs.drop 4).map f])) := by
    simp only [S] at e4 ⊢
    simp only [itm_ap, bi_ap, vo_ap, lsd_ap, aC_ap, aN_ap, lc_ap, slc_ap, cst_ap, oP_some, oP_none, oPR_int, List.getElem?_cons_zero, List.getElem?_cons_succ, voR_sh, bd_ok, slD_fz, e5, items_lst, sizeLine_val, z, decide_true, chk_true, e4]
    simp [sizeLine_val, l1, l2, encW_app]
    rfl
  have hall : ∀ t ∈ t1 ++ t2 ++ [(xs.drop 4).map f], (∀ a ∈ t, a ∈ ns) ∧ t.length ≤ 100 := fun t ht => by
    rcases List.mem_append.mp ht with h | h
    · rcases List.mem_append.mp h with h | h
      · exact ⟨(ht1 t h).1, by have := (ht1 t h).2; omega⟩
      · exact ⟨(ht2 t h).1, by have := (ht2 t h).2; omega⟩
    · rw [List.mem_singleton] at h
      subst h
      refine ⟨fun a ha => ?_, by simp; omega⟩
      obtain ⟨x, _, e⟩ := List.mem_map.mp ha
      rw [← e]; exact (hf x).2
  obtain ⟨ρ, e7⟩ := traces_all (sz := sz) g nd h1 h3 hd (.sh (.fz (xs.map .int))) (.sh (.lst (encW (t1 ++ t2)))) .no (t1 ++ t2 ++ [(xs.drop 4).map f]) .no .no .no .no .no hall
  unfold F_law
  rw [fnB_ap]
  show outR (g_law (S .no .no .no .no .no)) = _
  unfold g_law
  rw [sq_ap, b1, contS_nx, sq_ap, b2, contS_nx, sq_ap, b3, contS_nx, sq_ap, b4, contS_nx, sq_ap, b5, contS_nx, sq_ap, b6, contS_nx, sq_ap, fr_ap, hsrc, frR_ok]
  rw [show forL (.one 6) _ (encW (t1 ++ t2 ++ [(xs.drop 4).map f])) _ = Oc.ok (Res.nx ρ) from e7, contS_nx]
  rfl
end Lw

set_option Elab.async false
set_option linter.all false
set_option maxRecDepth 100000
set_option maxHeartbeats 4000000
namespace Lw
open PySem PySem.Spec PyProof.Rows L2 Fx
def d_is_size : He.DefD := ⟨("is_size", none), "is_size", "is_size", defArgs s_is_size, defBody s_is_size, defScope s_is_size, [], []⟩
def d_is_window : He.DefD := ⟨("is_window", none), "is_window", "is_window", defArgs s_is_window, defBody s_is_window, defScope s_is_window, [], []⟩
def d_are_different : He.DefD := ⟨("are_different", none), "are_different", "are_different", defArgs s_are_different, defBody s_are_different, defScope s_are_different, [], []⟩
def d_Process___init__ : He.DefD := ⟨("Process", some "__init__"), "__init__", "Process.__init__", defArgs s_Process___init__, defBody s_Process___init__, defScope s_Process___init__, [], []⟩
def d_marked : He.DefD := ⟨("marked", none), "marked", "marked", defArgs s_marked, defBody s_marked, defScope s_marked, [], []⟩
def d_neighbors : He.DefD := ⟨("neighbors", none), "neighbors", "neighbors", defArgs s_neighbors, defBody s_neighbors, defScope s_neighbors, [], []⟩
def d_windows_of : He.DefD := ⟨("windows_of", none), "windows_of", "windows_of", defArgs s_windows_of, defBody s_windows_of, defScope s_windows_of, [], []⟩
def d_allows : He.DefD := ⟨("allows", none), "allows", "allows", defArgs s_allows, defBody s_allows, defScope s_allows, [], []⟩
def d_tail_of : He.DefD := ⟨("tail_of", none), "tail_of", "tail_of", defArgs s_tail_of, defBody s_tail_of, defScope s_tail_of, [], []⟩
def d_next_tail : He.DefD := ⟨("next_tail", none), "next_tail", "next_tail", defArgs s_next_tail, defBody s_next_tail, defScope s_next_tail, [], []⟩
def d_next_tails : He.DefD := ⟨("next_tails", none), "next_tails", "next_tails", defArgs s_next_tails, defBody s_next_tails, defScope s_next_tails, [], []⟩
def d_closing : He.DefD := ⟨("closing", none), "closing", "closing", defArgs s_closing, defBody s_closing, defScope s_closing, [], []⟩
def d_can_stop : He.DefD := ⟨("can_stop", none), "can_stop", "can_stop", defArgs s_can_stop, defBody s_can_stop, defScope s_can_stop, [], []⟩
def d__law_cell : He.DefD := ⟨("_law_cell", none), "_law_cell", "_law_cell", defArgs s__law_cell, defBody s__law_cell, defScope s__law_cell, [], []⟩
def d__law_row : He.DefD := ⟨("_law_row", none), "_law_row", "_law_row", defArgs s__law_row, defBody s__law_row, defScope s__law_row, [], []⟩
def d__law_word : He.DefD := ⟨("_law_word", none), "_law_word", "_law_word", defArgs s__law_word, defBody s__law_word, defScope s__law_word, [], []⟩
def d__law_names : He.DefD := ⟨("_law_names", none), "_law_names", "_law_names", defArgs s__law_names, defBody s__law_names, defScope s__law_names, [], []⟩
def d__law_trace : He.DefD := ⟨("_law_trace", none), "_law_trace", "_law_trace", defArgs s__law_trace, defBody s__law_trace, defScope s__law_trace, [], []⟩
def d__law_traces : He.DefD := ⟨("_law_traces", none), "_law_traces", "_law_traces", defArgs s__law_traces, defBody s__law_traces, defScope s__law_traces, [], []⟩
def d__law_neighbors : He.DefD := ⟨("_law_neighbors", none), "_law_neighbors", "_law_neighbors", defArgs s__law_neighbors, defBody s__law_neighbors, defScope s__law_neighbors, [], []⟩
def d__law_windows : He.DefD := ⟨("_law_windows", none), "_law_windows", "_law_windows", defArgs s__law_windows, defBody s__law_windows, defScope s__law_windows, [], []⟩
def d__law_allows : He.DefD := ⟨("_law_allows", none), "_law_allows", "_law_allows", defArgs s__law_allows, defBody s__law_allows, defScope s__law_allows, [], []⟩
def d__law_tail : He.DefD := ⟨("_law_tail", none), "_law_tail", "_law_tail", defArgs s__law_tail, defBody s__law_tail, defScope s__law_tail, [], []⟩
def d__law_stops : He.DefD := ⟨("_law_stops", none), "_law_stops", "_law_stops", defArgs s__law_stops, defBody s__law_stops, defScope s__law_stops, [], []⟩
def d__law_next : He.DefD := ⟨("_law_next", none), "_law_next", "_law_next", defArgs s__law_next, defBody s__law_next, defScope s__law_next, [], []⟩
def d__law_drawn_windows : He.DefD := ⟨("_law_drawn_windows", none), "_law_drawn_windows", "_law_drawn_windows", defArgs s__law_drawn_windows, defBody s__law_drawn_windows, defScope s__law_drawn_windows, [], []⟩
def d__law_goes : He.DefD := ⟨("_law_goes", none), "_law_goes", "_law_goes", defArgs s__law_goes, defBody s__law_goes, defScope s__law_goes, [], []⟩
def d_law : He.DefD := ⟨("law", none), "law", "law", defArgs s_law, defBody s_law, defScope s_law, [], []⟩
def fa0 : List He.Fa := [.free "all", .free "bool", .free "int", .free "isinstance", .free "len", .free "list", .free "range", .free "tuple", .str "BEGIN" "<", .str "END" ">", .glo "InvalidProcess", .exc "InvalidProcess", .glo "Process", .cls "Process", .noat "Process" "size", .noat "Process" "windows", .glo "is_size", .glo "is_window", .glo "are_different", .mkr "Process", .glo "marked", .glo "neighbors", .glo "windows_of", .glo "allows", .glo "tail_of", .glo "next_tail", .glo "next_tails", .glo "closing", .glo "can_stop", .glo "_law_cell"]
def fa1 : List He.Fa := [.glo "_law_row", .glo "_law_word", .glo "_law_names", .glo "_law_trace", .glo "_law_traces", .glo "_law_neighbors", .glo "_law_windows", .glo "_law_allows", .glo "_law_tail", .glo "_law_stops", .glo "_law_next", .glo "_law_drawn_windows", .glo "_law_goes", .glo "law"]
abbrev fa : List He.Fa := fa0 ++ fa1
def fn0 : List He.DefD := [d_is_size, d_is_window, d_are_different, d_Process___init__, d_marked, d_neighbors, d_windows_of, d_allows, d_tail_of, d_next_tail, d_next_tails, d_closing, d_can_stop, d__law_cell, d__law_row, d__law_word, d__law_names, d__law_trace, d__law_traces, d__law_neighbors, d__law_windows, d__law_allows, d__law_tail, d__law_stops, d__law_next, d__law_drawn_windows, d__law_goes, d_law]
abbrev fn : List He.DefD := fn0
def tf0 : List He.Defn := [("is_size", none), ("is_window", none), ("are_different", none), ("Process", some "__init__"), ("marked", none), ("neighbors", none), ("windows_of", none), ("allows", none), ("tail_of", none), ("next_tail", none), ("next_tails", none), ("closing", none), ("can_stop", none), ("_law_cell", none), ("_law_row", none), ("_law_word", none), ("_law_names", none), ("_law_trace", none), ("_law_traces", none), ("_law_neighbors", none), ("_law_windows", none), ("_law_allows", none), ("_law_tail", none), ("_law_stops", none), ("_law_next", none), ("_law_drawn_windows", none), ("_law_goes", none), ("law", none)]
abbrev tf : List He.Defn := tf0
def nms0 : List Str := ["CaseError", "InvalidProcess", "BEGIN", "END", "is_size", "is_window", "are_different", "Process", "marked", "neighbors", "windows_of", "allows", "tail_of", "next_tail", "next_tails", "closing", "can_stop", "_law_cell", "_law_row", "_law_word", "_law_names", "_law_trace", "_law_traces", "_law_neighbors", "_law_windows", "_law_allows", "_law_tail", "_law_stops", "_law_next", "_law_drawn_windows"]
def nms1 : List Str := ["_law_goes"]
abbrev nms : List Str := nms0 ++ nms1
abbrev R : PySem.W.OpenRow := PySem.W.OpenLaw.row PySem.Challenge.rw_caseslive_k03_windows
abbrev hk : PySem.W.Hook := He.hookX 6 fa fn [] tf (tabAll tf)
def ob (s : PySem.W.SharedT) : He.AlX := He.obsX 6 fa fn [] tf (tabAll tf) (HandSHeadRun.getT s)
theorem ob_eq (s : PySem.W.SharedT) : ob s = hk.obs s.abs := He.obsX_eq (HandSHeadRun.getT_eq s)
theorem run (w : World) : HandSHeadRun.RunEq R (PySem.W.view R.prog [34]) hk ob 2000 nms w := by
  intro os
  kernel_rfl
theorem facts_of {w : World} {K : PySem.W.Frag} {h : Heap} {mg : Str → Option Value} (X : K.In h) (G : h.Ns mainGlobals mg) (cx : He.SaysX fa fn [] tf (tabAll tf) w h K) : Facts K mg :=
  have c : He.SaysD fa fn K := cx.t.d
  {
    m_all := He.free_ok X G (c.fact 0 rfl)
    m_bool := He.free_ok X G (c.fact 1 rfl)
    m_int := He.free_ok X G (c.fact 2 rfl)
    m_isinstance := He.free_ok X G (c.fact 3 rfl)
    m_len := He.free_ok X G (c.fact 4 rfl)
    m_list := He.free_ok X G (c.fact 5 rfl)
    m_range := He.free_ok X G (c.fact 6 rfl)
    m_tuple := He.free_ok X G (c.fact 7 rfl)
    c_BEGIN := He.str_ok X G (c.fact 8 rfl)
    c_END := He.str_ok X G (c.fact 9 rfl)
    x_InvalidProcess := by
      obtain ⟨h1, h2, h3, h4⟩ := He.exc_ok (c.fact 11 (f := .exc "InvalidProcess") rfl)
      exact ⟨_, He.glo_ok X G (c.fact 10 (f := .glo "InvalidProcess") rfl), h1, h2, h3, h4⟩
    a_size := (List.forall_mem_cons.mpr ⟨fun C h => by (have e := h.symm.trans (He.glo_ok X G (c.fact 12 (f := .glo "Process") rfl)); cases e; exact ⟨He.cls_ok (c.fact 13 rfl), He.noat_ok (c.fact 14 rfl)⟩), fun _ z => absurd z List.not_mem_nil⟩)
    a_windows := (List.forall_mem_cons.mpr ⟨fun C h => by (have e := h.symm.trans (He.glo_ok X G (c.fact 12 (f := .glo "Process") rfl)); cases e; exact ⟨He.cls_ok (c.fact 13 rfl), He.noat_ok (c.fact 15 rfl)⟩), fun _ z => absurd z List.not_mem_nil⟩)
    s_Process_size := (List.forall_mem_cons.mpr ⟨fun C h => by (have e := h.symm.trans (He.glo_ok X G (c.fact 12 (f := .glo "Process") rfl)); cases e; exact ⟨He.cls_ok (c.fact 13 rfl), He.noat_ok (c.fact 14 rfl)⟩), fun _ z => absurd z List.not_mem_nil⟩)
    s_Process_windows := (List.forall_mem_cons.mpr ⟨fun C h => by (have e := h.symm.trans (He.glo_ok X G (c.fact 12 (f := .glo "Process") rfl)); cases e; exact ⟨He.cls_ok (c.fact 13 rfl), He.noat_ok (c.fact 15 rfl)⟩), fun _ z => absurd z List.not_mem_nil⟩)
    f_is_size := by
      obtain ⟨fd, F⟩ := c.def_ 0 (d := d_is_size) rfl
      exact ⟨_, fd, F, He.glo_ok X G (c.fact 16 (f := .glo "is_size") rfl)⟩
    f_is_window := by
      obtain ⟨fd, F⟩ := c.def_ 1 (d := d_is_window) rfl
      exact ⟨_, fd, F, He.glo_ok X G (c.fact 17 (f := .glo "is_window") rfl)⟩
    f_are_different := by
      obtain ⟨fd, F⟩ := c.def_ 2 (d := d_are_different) rfl
      exact ⟨_, fd, F, He.glo_ok X G (c.fact 18 (f := .glo "are_different") rfl), _, _, code_of F, cx.hd _ (List.mem_of_getElem? (i := 2) rfl), cx.out _ (List.mem_of_getElem? (i := 2) rfl)⟩
    f_Process___init__ := by
      obtain ⟨fd, F⟩ := c.def_ 3 (d := d_Process___init__) rfl
      exact ⟨_, _, fd, He.mkr_ok (c.fact 19 (f := .mkr "Process") rfl), F, He.glo_ok X G (c.fact 12 (f := .glo "Process") rfl), _, _, code_of F, cx.hd _ (List.mem_of_getElem? (i := 3) rfl), cx.out _ (List.mem_of_getElem? (i := 3) rfl)⟩
    f_marked := by
      obtain ⟨fd, F⟩ := c.def_ 4 (d := d_marked) rfl
      exact ⟨_, fd, F, He.glo_ok X G (c.fact 20 (f := .glo "marked") rfl)⟩
    f_neighbors := by
      obtain ⟨fd, F⟩ := c.def_ 5 (d := d_neighbors) rfl
      exact ⟨_, fd, F, He.glo_ok X G (c.fact 21 (f := .glo "neighbors") rfl)⟩
    f_windows_of := by
      obtain ⟨fd, F⟩ := c.def_ 6 (d := d_windows_of) rfl
      exact ⟨_, fd, F, He.glo_ok X G (c.fact 22 (f := .glo "windows_of") rfl)⟩
    f_allows := by
      obtain ⟨fd, F⟩ := c.def_ 7 (d := d_allows) rfl
      exact ⟨_, fd, F, He.glo_ok X G (c.fact 23 (f := .glo "allows") rfl), _, _, code_of F, cx.hd _ (List.mem_of_getElem? (i := 7) rfl), cx.out _ (List.mem_of_getElem? (i := 7) rfl)⟩
    f_tail_of := by
      obtain ⟨fd, F⟩ := c.def_ 8 (d := d_tail_of) rfl
      exact ⟨_, fd, F, He.glo_ok X G (c.fact 24 (f := .glo "tail_of") rfl)⟩
    f_next_tail := by
      obtain ⟨fd, F⟩ := c.def_ 9 (d := d_next_tail) rfl
      exact ⟨_, fd, F, He.glo_ok X G (c.fact 25 (f := .glo "next_tail") rfl)⟩
    f_next_tails := by
      obtain ⟨fd, F⟩ := c.def_ 10 (d := d_next_tails) rfl
      exact ⟨_, fd, F, He.glo_ok X G (c.fact 26 (f := .glo "next_tails") rfl)⟩
    f_closing := by
      obtain ⟨fd, F⟩ := c.def_ 11 (d := d_closing) rfl
      exact ⟨_, fd, F, He.glo_ok X G (c.fact 27 (f := .glo "closing") rfl)⟩
    f_can_stop := by
      obtain ⟨fd, F⟩ := c.def_ 12 (d := d_can_stop) rfl
      exact ⟨_, fd, F, He.glo_ok X G (c.fact 28 (f := .glo "can_stop") rfl), _, _, code_of F, cx.hd _ (List.mem_of_getElem? (i := 12) rfl), cx.out _ (List.mem_of_getElem? (i := 12) rfl)⟩
    f__law_cell := by
      obtain ⟨fd, F⟩ := c.def_ 13 (d := d__law_cell) rfl
      exact ⟨_, fd, F, He.glo_ok X G (c.fact 29 (f := .glo "_law_cell") rfl)⟩
    f__law_row := by
      obtain ⟨fd, F⟩ := c.def_ 14 (d := d__law_row) rfl
      exact ⟨_, fd, F, He.glo_ok X G (c.fact 30 (f := .glo "_law_row") rfl)⟩
    f__law_word := by
      obtain ⟨fd, F⟩ := c.def_ 15 (d := d__law_word) rfl
      exact ⟨_, fd, F, He.glo_ok X G (c.fact 31 (f := .glo "_law_word") rfl)⟩
    f__law_names := by
      obtain ⟨fd, F⟩ := c.def_ 16 (d := d__law_names) rfl
      exact ⟨_, fd, F, He.glo_ok X G (c.fact 32 (f := .glo "_law_names") rfl)⟩
    f__law_trace := by
      obtain ⟨fd, F⟩ := c.def_ 17 (d := d__law_trace) rfl
      exact ⟨_, fd, F, He.glo_ok X G (c.fact 33 (f := .glo "_law_trace") rfl)⟩
    f__law_traces := by
      obtain ⟨fd, F⟩ := c.def_ 18 (d := d__law_traces) rfl
      exact ⟨_, fd, F, He.glo_ok X G (c.fact 34 (f := .glo "_law_traces") rfl)⟩
    f__law_neighbors := by
      obtain ⟨fd, F⟩ := c.def_ 19 (d := d__law_neighbors) rfl
      exact ⟨_, fd, F, He.glo_ok X G (c.fact 35 (f := .glo "_law_neighbors") rfl)⟩
    f__law_windows := by
      obtain ⟨fd, F⟩ := c.def_ 20 (d := d__law_windows) rfl
      exact ⟨_, fd, F, He.glo_ok X G (c.fact 36 (f := .glo "_law_windows") rfl)⟩
    f__law_allows := by
      obtain ⟨fd, F⟩ := c.def_ 21 (d := d__law_allows) rfl
      exact ⟨_, fd, F, He.glo_ok X G (c.fact 37 (f := .glo "_law_allows") rfl)⟩
    f__law_tail := by
      obtain ⟨fd, F⟩ := c.def_ 22 (d := d__law_tail) rfl
      exact ⟨_, fd, F, He.glo_ok X G (c.fact 38 (f := .glo "_law_tail") rfl)⟩
    f__law_stops := by
      obtain ⟨fd, F⟩ := c.def_ 23 (d := d__law_stops) rfl
      exact ⟨_, fd, F, He.glo_ok X G (c.fact 39 (f := .glo "_law_stops") rfl)⟩
    f__law_next := by
      obtain ⟨fd, F⟩ := c.def_ 24 (d := d__law_next) rfl
      exact ⟨_, fd, F, He.glo_ok X G (c.fact 40 (f := .glo "_law_next") rfl)⟩
    f__law_drawn_windows := by
      obtain ⟨fd, F⟩ := c.def_ 25 (d := d__law_drawn_windows) rfl
      exact ⟨_, fd, F, He.glo_ok X G (c.fact 41 (f := .glo "_law_drawn_windows") rfl)⟩
    f__law_goes := by
      obtain ⟨fd, F⟩ := c.def_ 26 (d := d__law_goes) rfl
      exact ⟨_, fd, F, He.glo_ok X G (c.fact 42 (f := .glo "_law_goes") rfl)⟩ }
theorem law_all {w : World} {K : PySem.W.Frag} {h : Heap} {mg : Str → Option Value} {f : Addr} (X : K.In h) (G : h.Ns mainGlobals mg) (hfa : mg ("law" : Str) = some (.ref f)) (cx : He.SaysX fa fn [] tf (tabAll tf) w h K) :
    LamX.LawAtS PySem.Challenge.rw_caseslive_k03_windows w K (L2.CX (PySem.Challenge.rw_caseslive_k03_windows).prog w) 5 63 "_law_script" mg f h := by
  have c : He.SaysD fa fn K := cx.t.d
  obtain ⟨fd, F⟩ := c.def_ 27 (d := d_law) rfl
  have e := hfa.symm.trans (He.glo_ok X G (c.fact 43 (f := .glo "law") rfl))
  cases e
  have T := facts_of X G cx
  have b := FunD.bindsA (ps := ["_law_script"]) F fun _ _ _ _ _ _ us hl => match us, hl with | [_], _ => rfl
  exact law_atT X cx (fun s v => b s [v] rfl) law_true fun base _ _ TB => law_fn T TB F
end Lw
open PySem PySem.W PySem.Calls PyProof.Rows
set_option maxRecDepth 100000 in
set_option maxHeartbeats 0 in
theorem PySem.Challenge.cw_caseslive_k03_windows_holds : PySem.Challenge.rw_caseslive_k03_windows.Holds := by
  w_on; o_law
  refine HandSHeadRun.head_any (r := OpenLaw.row PySem.Challenge.rw_caseslive_k03_windows) (q := view (OpenLaw.row PySem.Challenge.rw_caseslive_k03_windows).prog [34]) (H := Lw.hk) (ob := Lw.ob) (M := 2000) (loose := Lw.nms) (d := HandSHeadRun.topDef (OpenLaw.row PySem.Challenge.rw_caseslive_k03_windows).prog 34) (kwd := []) Lw.ob_eq
    (by kernel_rfl) (fun s => by kernel_rfl) Lw.run (by kernel_rfl) (by kernel_rfl) (by kernel_rfl) (by rfl) (by first | assumption | decide +kernel) (by decide +kernel) ⟨rfl, rfl, rfl, rfl, rfl, by decide +kernel⟩ ?hw ?hc
  case hw => w_witness2
  case hc =>
    refine LamX.walk_ofTsE (l := PySem.Challenge.rw_caseslive_k03_windows) (n := 63) (k := 5) (x := "_law_script") (CX := fun w => L2.CX (PySem.Challenge.rw_caseslive_k03_windows).prog w) rfl (by decide) (by kernel_rfl) ⟨rfl, by decide, by decide⟩ ?F (fun w H s e s' z => by
      obtain ⟨_, _, _, _, _, _, _, _, _, _, _, _, z⟩ := z
      exact z)
    intro w mg fa h Y G hmg0
    obtain ⟨K, KX, c⟩ := Y
    have hmg : mg ("law" : PySem.Str) = some (.ref fa) := by
      have e : (HandSHeadRun.topDef (OpenLaw.row PySem.Challenge.rw_caseslive_k03_windows).prog 34).name = ("law" : PySem.Str) := by kernel_rfl
      rw [← e]
      exact hmg0
    exact ⟨K, KX, Lw.law_all KX G hmg c⟩
